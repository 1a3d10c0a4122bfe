/-
  Lemmas for the claim.
-/
import Derived.Test.YtfdecdnmooaegaaGreatDoorRc1
set_option linter.all false
set_option maxHeartbeats 4000000
set_option maxRecDepth 100000
namespace Go.Sw
open Go.RowKit (Below)
section
variable {P:Program} {QP:List PanicEntry→World→Prop} {w:World} {k:Value→World→Prop} {ku:World→Prop}
theorem op_indexS {t:TypeId} (hu:P.underlying t=some .string) (s:ByteArray) (kd:IntKind) (i:Nat) {b:UInt8} (hb:s.data.toList[i]?=some b) :
 opV P (Instr.index t (.string s) (.int kd (i:Int))) QP w k=k (.int .u8 b.toNat) w:=by
 refine opV_ok ?_
 have hs:s[i]?=some b:=by
  obtain ⟨h1,h2⟩:=List.getElem?_eq_some_iff.1 hb
  have h3:i < s.data.size:=by simpa using h1
  rw [getElem?_pos s i h3]
  exact congrArg some h2
 unfold Instr.index
 have hai:(asIntOf (.int kd (i:Int))).run P w = .ok (kd,(i:Int)) w:=rfl
 simp only [Sem.run_bind,hai,Result.andThen_ok,run_underlying hu]
 have:(if (0:Int)≤(i:Int) then s[(i:Int).toNat]? else none)=some b:=by rw [if_pos (by omega),Int.toNat_natCast];exact hs
 rw [this];rfl
theorem op_indexS0 {t:TypeId} (hu:P.underlying t=some .string) (s:ByteArray) (kd:IntKind) {b:UInt8} (hb:s.data.toList[0]?=some b) :
 opV P (Instr.index t (.string s) (.int kd 0)) QP w k=k (.int .u8 b.toNat) w:=op_indexS hu s kd 0 hb
theorem op_shl (t:TypeId) (c:Bool) (x:Int) (yk:IntKind) (y:Int) (h0:0≤y) (h1:y≤64):opV P (binS .shl t c (.int .i64 x) (.int yk y)) QP w k=k (.int .i64 (IntKind.i64.wrap (x*2 ^ y.toNat))) w:=opV_ok (by
 simp [binS,go_sem,h0,h1])
theorem op_sliceTo {t e:TypeId} {agg:Bool} {n m:Nat} {z:Value} (hu:P.underlying t=some (.slice e)) (ht:TyInfo P e agg n m z) (b o len cap:Nat) (kd:IntKind) (h:Nat) (hh:h≤cap) :
 opV P (Instr.sliceAt t (.slice (some ⟨b,o,none⟩) len cap) none (some (.int kd (h:Int))) none) QP w k=k (.slice (some ⟨b,o,none⟩) h cap) w:=by
 refine opV_ok ?_
 have h1:(h:Int)≤(cap:Int):=by omega
 have h2:(0:Int)≤(h:Int):=by omega
 simp [Instr.sliceAt,run_underlying hu,Instr.slice,Instr.sliceBounds,run_sliceBound,h1,h2,run_sizeOf ht,Addr.add_lit]
theorem op_convInt {src dst:TypeId} {kd:IntKind} (hs:(P.underlying src).isSome=true) (hd:P.underlying dst=some (.int kd)) (q:IntKind) (n:Int) :
 opV P (Go.convert src dst (.int q n)) QP w k=k (.int kd (kd.wrap n)) w:=opV_ok (by
 have hk:P.intKind dst=kd:=by simp [Program.intKind,hd]
 have:=run_convert_int (P:=P) w src dst q n hs (by rw [hk];exact hd)
 rw [hk] at this;exact this)
theorem op_rem (t:TypeId) (c:Bool) (kd:IntKind) (a b:Int) (hb:b≠0):opV P (binS .rem t c (.int kd a) (.int kd b)) QP w k=k (.int kd (a.tmod b)) w:=opV_ok (by
 rw [run_bin_int _ _ _ _ _ _ rfl]
 show Sem.run P (Op.intDiv .rem kd a b) w=_
 unfold Op.intDiv
 rw [if_neg hb];rfl)
theorem run_eqv {t:TypeId} {a b:Value} {r:Bool} (h:(Op.equalIn (9999+1) t a b).run P w = .ok r w):(do pure (.bool (← Op.equal t a b)):Sem Value).run P w = .ok (.bool r) w:=by
 have h':(Op.equal t a b).run P w = .ok r w:=h
 rw [Sem.run_bind,h'];rfl
theorem run_nev {t:TypeId} {a b:Value} {r:Bool} (h:(Op.equalIn (9999+1) t a b).run P w = .ok r w):(do pure (.bool (!(← Op.equal t a b))):Sem Value).run P w = .ok (.bool (!r)) w:=by
 have h':(Op.equal t a b).run P w = .ok r w:=h
 rw [Sem.run_bind,h'];rfl
theorem op_iface {t:TypeId} {d:TypeDesc} (hu:P.underlying t=some d) (hn:(match d with | .interface _=>false | _=>true)=true) (v:Value):opV P (Instr.makeInterface t v) QP w k=k (.iface t v) w:=by
 refine opV_ok ?_
 unfold Instr.makeInterface
 simp only [Sem.run_bind,run_underlying hu,Result.andThen_ok]
 cases d<;>simp at hn<;>rfl
theorem op_assert_ok {xt t:TypeId} {d:TypeDesc} (hu:P.underlying t=some d) (hn:(match d with | .interface _=>false | _=>true)=true) (v:Value):opV P (Instr.typeAssert (.iface t v) xt t true) QP w k=k (.tuple #[v,.bool true]) w:=by
 refine opV_ok ?_
 unfold Instr.typeAssert
 simp only [Sem.run_bind,run_underlying hu,Result.andThen_ok]
 cases d<;>simp at hn<;>simp
theorem op_panic (t:TypeId) (v:Value):opV P (Instr.panic (.iface t v)) QP w k=QP [{ v := .iface t v,recovered:=false }] w:=opV_panic rfl
theorem eqNil_i (d0:Nat) {t:TypeId} {m:Array (String×TypeId)} (hu:P.underlying t=some (.interface m)) (d:TypeId) (v:Value):(Op.equalIn (d0+1) t (.iface d v) .nilIface).run P w = .ok false w:=by simp [Op.equalIn,run_underlying hu]
theorem eqNil_n (d0:Nat) {t:TypeId} {m:Array (String×TypeId)} (hu:P.underlying t=some (.interface m)):(Op.equalIn (d0+1) t .nilIface .nilIface).run P w = .ok true w:=by simp [Op.equalIn,run_underlying hu]
theorem eqNil_f (d0:Nat) {t:TypeId} {a b:Array TypeId} {vr:Bool} (hu:P.underlying t=some (.func a b vr)) (f:Fn) (x y:Array Value):(Op.equalIn (d0+1) t (.func f x y) .nilFunc).run P w = .ok false w:=by simp [Op.equalIn,run_underlying hu]
theorem eqNil_s (d0:Nat) {t e:TypeId} (hu:P.underlying t=some (.slice e)) (A:Option Addr) (n m:Nat):(Op.equalIn (d0+1) t (.slice A n m) (.slice none 0 0)).run P w = .ok A.isNone w:=by cases A<;>simp [Op.equalIn,run_underlying hu]
theorem op_neqNil_some {t:TypeId} {m:Array (String×TypeId)} (hu:P.underlying t=some (.interface m)) (d:TypeId) (v:Value):opV P (binS .neq t true (.iface d v) .nilIface) QP w k=k (.bool true) w :=
 opV_ok (run_nev (r:=false) (eqNil_i 9999 hu d v))
theorem op_neqNil_none {t:TypeId} {m:Array (String×TypeId)} (hu:P.underlying t=some (.interface m)):opV P (binS .neq t true .nilIface .nilIface) QP w k=k (.bool false) w :=
 opV_ok (run_nev (r:=true) (eqNil_n 9999 hu))
theorem op_eqNilF {t:TypeId} {a b:Array TypeId} {vr:Bool} (hu:P.underlying t=some (.func a b vr)) (c:Bool) (f:Fn) (x y:Array Value):opV P (binS .eql t c (.func f x y) .nilFunc) QP w k=k (.bool false) w :=
 opV_ok (run_eqv (eqNil_f 9999 hu f x y))
theorem op_eqNilS {t e:TypeId} (hu:P.underlying t=some (.slice e)) (c:Bool) (A:Option Addr) (n m:Nat):opV P (binS .eql t c (.slice A n m) (.slice none 0 0)) QP w k=k (.bool A.isNone) w :=
 opV_ok (run_eqv (eqNil_s 9999 hu A n m))
theorem op_aggEq {t:TypeId} {xs ys:Array Value} {r:Bool} (hm:P.eqGuardType P.depth t=false) (h:∀ w,(Op.equalIn (9999+1) t (.agg xs) (.agg ys)).run P w = .ok r w) (c:Bool):opV P (binS .eql t c (.agg xs) (.agg ys)) QP w k=k (.bool r) w:=by
 refine opV_ok ?_
 show Sem.run P (do (do if !(← program).eqGuardType (← program).depth t then pure () else if ← Op.eqGuardIn Op.maxDepth t (.agg xs) (.agg ys) then unsupported (.noEntry "binop/eql: two nil values of an interface type with methods, in a part of a struct or an array")); (do pure (.bool (← Op.equal t (.agg xs) (.agg ys)))):Sem Value) w=_
 simp only [Sem.run_bind,run_program,Result.andThen_ok,hm,Bool.not_false,if_true,Sem.run_pure]
 have h':=run_eqv (h w)
 simp only [Sem.run_bind,Sem.run_pure] at h'
 exact h'
theorem op_aggNe {t:TypeId} {xs ys:Array Value} {r:Bool} (hm:P.eqGuardType P.depth t=false) (h:∀ w,(Op.equalIn (9999+1) t (.agg xs) (.agg ys)).run P w = .ok r w) (c:Bool):opV P (binS .neq t c (.agg xs) (.agg ys)) QP w k=k (.bool (!r)) w:=by
 refine opV_ok ?_
 show Sem.run P (do (do if !(← program).eqGuardType (← program).depth t then pure () else if ← Op.eqGuardIn Op.maxDepth t (.agg xs) (.agg ys) then unsupported (.noEntry "binop/eql: two nil values of an interface type with methods, in a part of a struct or an array")); (do pure (.bool (!(← Op.equal t (.agg xs) (.agg ys))))):Sem Value) w=_
 simp only [Sem.run_bind,run_program,Result.andThen_ok,hm,Bool.not_false,if_true,Sem.run_pure]
 have h':=run_nev (h w)
 simp only [Sem.run_bind,Sem.run_pure] at h'
 exact h'
theorem op_bytes {src dst e:TypeId} (hs:P.underlying src=some .string) (hd:P.underlying dst=some (.slice e)) (he:P.underlying e=some (.int .u8)) (s:ByteArray) (hlen:s.size≤9223372036854775807)
 (h:∀ v w',Ext w w'→(∃ A c,v = .slice A s.size c∧s.size≤c∧c≤9223372036854775807∧∃ b,A=some ⟨b,0,none⟩∧∀ j x,s.data.toList[j]?=some x→w'.cell? ⟨b,j,none⟩=some (.int .u8 (x.toNat:Int)))→k v w'):opV P (Go.convert src dst (.string s)) QP w k:=by
 have:=run_bytes_of_string (P:=P) w src dst e s hs hd he
 rw [opV_ok this]
 refine h _ _ ((Ext.refl w).wdrew.alloc _) ⟨_,_,rfl,grownCap_ge _ _ _ _,?_,?_⟩
 · have:=grownCap_le_maxLen w s.size 0 e (by simp only [maxLen];omega)
   simp only [maxLen] at this;omega
 · refine ⟨_,rfl,fun j x hx=>?_⟩
   obtain ⟨h1,h2⟩:=List.getElem?_eq_some_iff.1 hx
   have h3:j < s.data.size:=by simpa using h1
   have h4:=bytesRow_at s (grownCap w s.size 0 e) j h3
   show World.cell? _ ⟨w.drew.heap.size,j,none⟩=_
   unfold World.cell?
   rw [World.alloc_heap_new]
   show (if (none:Option _).isSome then none else (bytesRow s (grownCap w s.size 0 e))[j]?)=_
   rw [h4,← h2]
   rfl
theorem cells_agg (cs:Array Value):(Value.agg cs).cells=cs:=rfl
theorem equalIn_struct {d:Nat} {t:TypeId} {fs:Array Field} {xs ys:Array Value} {r:Bool} (hu:P.underlying t=some (.struct fs)) (hs:P.stoodInHeld t=false) (h:(Op.eqFields d xs ys fs.toList).run P w = .ok r w) :
 (Op.equalIn (d+1) t (.agg xs) (.agg ys)).run P w = .ok r w:=by
 have hf:P.fieldsOf t=fs:=by simp [Program.fieldsOf,hu]
 rw [run_equalIn_agg w d t xs ys (by rw [hf];exact hu) hs,hf]
 exact h
theorem eqFields_nil {d:Nat} {xs ys:Array Value}:(Op.eqFields d xs ys []).run P w = .ok true w:=rfl
theorem eqFields_step {d:Nat} {xs ys:Array Value} {f:Field} {fs:List Field} {x y:Value} {b r:Bool} (hn:(f.name == "_")=false) (hx:(part f.type xs f.offset).run P w = .ok x w) (hy:(part f.type ys f.offset).run P w = .ok y w)
 (he:(Op.equalIn d f.type x y).run P w = .ok b w) (hr:(Op.eqFields d xs ys fs).run P w = .ok r w):(Op.eqFields d xs ys (f::fs)).run P w = .ok (b&&r) w:=by
 have hn':f.name ≠ "_" := by simpa using hn
 simp only [Op.eqFields]
 rw [if_pos hn']
 simp only [Sem.run_bind,hx,hy,he,Result.andThen_ok]
 cases b with
 | true=>simpa using hr
 | false=>rfl
theorem part1 {T:TypeId} {n m:Nat} {z v:Value} {cs:Array Value} {off:Nat} (h:TyInfo P T false n m z) (hc:cs[off]?=some v):(part T cs off).run P w = .ok v w:=by
 unfold part
 rw [Sem.run_bind,run_isAgg h]
 simp [hc]
theorem op_fieldV1 {s:TypeId} {fs:Array Field} {i off ft:Nat} {n m:Nat} {z v:Value} {cs:Array Value} {k:Value→World→Prop} (hu:P.underlying s=some (.struct fs)) (hf:(fs[i]?).map (fun f=>(f.type,f.offset))=some (ft,off)) (ht:TyInfo P ft false n m z) (hc:cs[off]?=some v) :
 opV P (Instr.field s (.agg cs) i) QP w k=k v w:=by
 obtain ⟨f,h1,h2⟩:=Option.map_eq_some_iff.1 hf
 simp only [Prod.mk.injEq] at h2
 obtain ⟨rfl,rfl⟩:=h2
 refine opV_ok ?_
 have ha:(asAgg (.agg cs)).run P w = .ok cs w:=rfl
 simp [Instr.field,run_underlying hu,h1,ha,part1 (w:=w) ht hc]
theorem eqInt {d:Nat} {t:TypeId} {q:IntKind} (hu:P.underlying t=some (.int q)) {kd:IntKind} {a b:Int}:(Op.equalIn (d+1) t (.int kd a) (.int kd b)).run P w = .ok (decide (a=b)) w:=by
 rw [run_equalIn_int w d t kd q a b hu];congr 1
theorem eqBool {d:Nat} {t:TypeId} (hu:P.underlying t=some .bool) {a b:Bool}:(Op.equalIn (d+1) t (.bool a) (.bool b)).run P w = .ok (decide (a=b)) w:=by
 rw [run_equalIn_bool w d t a b hu];congr 1
theorem eqString {d:Nat} {t:TypeId} (hu:P.underlying t=some .string) {a b:ByteArray}:(Op.equalIn (d+1) t (.string a) (.string b)).run P w = .ok (decide (a=b)) w:=by
 rw [run_equalIn_string w d t a b hu,bytes_eq]
theorem cells_one {v:Value} (h:v.oneCell'=true):v.cells = #[v]:=by cases v<;>first | rfl | simp [Value.oneCell'] at h
theorem op_build {T:TypeId} {fs:Array Field} {n m:Nat} {z cs:Array Value} {parts:Array (Nat×Value)} {places:Array (Nat×Nat)} (hu:P.underlying T=some (.struct fs)) (hz:TyInfo P T true n m (.agg z))
 (hp:∀ w:World,(fs.mapM (m:=Sem) (fun f=>do pure (f.offset,← sizeOf f.type))).run P w = .ok places w) (hf:Instr.fill (places[·]?) z parts.toList=some cs):opV P (Instr.build T parts) QP w k=k (.agg cs) w:=by
 obtain ⟨⟨i,hi,_,_,hzz⟩,_⟩:=hz
 refine opV_ok ?_
 unfold Instr.build
 have hz0:(zeroValue T).run P w = .ok (.agg z) w:=by simp [zeroValue,typeInfo,hi,hzz]
 simp only [Sem.run_bind,hz0,Result.andThen_ok,run_underlying hu,hp]
 have:(Value.agg z).cells=z:=rfl
 rw [this,hf]
 rfl
theorem op_buildSlice {T e:TypeId} {agg:Bool} {n m:Nat} {z:Value} {len:Nat} {cs:Array Value} {parts:Array (Nat×Value)} (hu:P.underlying T=some (.slice e)) (hz:TyInfo P e agg n m z) (hl:len*n≤16777216)
 {base:Array Value} (hb:(Array.range (len*n)).map ((if len*n=0 then #[] else z.cells)[· % (if len*n=0 then #[] else z.cells).size]!)=base) (hf:Instr.fill (fun i=>some (i*n,n)) base parts.toList=some cs) :
 opV P (Instr.buildSlice T len parts) QP w k=k (.slice (some ⟨w.heap.size,0,none⟩) len len) (w.alloc (.cells cs e)):=by
 subst hb
 have hsz:=run_sizeOf (w:=w) hz
 obtain ⟨⟨i,hi,_,_,hzz⟩,_⟩:=hz
 refine opV_ok ?_
 unfold Instr.buildSlice
 have hl':¬ (2 ^ 24 < len*n):=by omega
 simp only [Sem.run_bind,run_underlying hu,hsz,Result.andThen_ok,gt_iff_lt,hl',if_false]
 have hz0:(zeroValue e).run P w = .ok z w:=by simp [zeroValue,typeInfo,hi,hzz]
 by_cases h0:len*n=0
 · rw [if_pos h0] at hf
   rw [if_pos h0]
   simp only [Sem.run_bind,Sem.run_pure,Result.andThen_ok]
   rw [hf]
   simp [newRow]
 · rw [if_neg h0] at hf
   rw [if_neg h0]
   simp only [Sem.run_bind,hz0,Sem.run_pure,Result.andThen_ok]
   rw [hf]
   simp [newRow]
def EC (w:World):World→Prop:=fun w'=>Ext w w'
class ClassNe (C:World→Prop):Prop where
 ne:∃ w,C w
instance (w:World):ClassNe (EC w):=⟨⟨w,Ext.refl w⟩⟩
def KB (w:World) (b1 b2:Nat):World→Prop:=fun w'=>∀ b,b < w.heap.size→b≠b1→b≠b2→w'.heap[b]?=w.heap[b]?
instance (w:World) (b1 b2:Nat):ClassNe (KB w b1 b2):=⟨⟨w,fun _ _ _ _=>rfl⟩⟩
theorem KB.cell {w w':World} {b1 b2 b o:Nat} {v:Value} (h:KB w b1 b2 w') (h1:b≠b1) (h2:b≠b2) (hc:w.cell? ⟨b,o,none⟩=some v):w'.cell? ⟨b,o,none⟩=some v :=
 (World.cell?_of_block (h b (World.block_lt_of_cell? w _ hc) h1 h2)).trans hc
theorem run_of_op {s:Sem Value} {v:Value} (h:∀ (QP:List PanicEntry→World→Prop) (k:Value→World→Prop),opV P s QP w k=k v w):s.run P w = .ok v w:=by
 have h1:=h (fun _ _=>False) (fun u x=>u=v∧x=w)
 simp only [and_self] at h1
 have h2:opV P s (fun _ _=>False) w (fun u x=>u=v∧x=w):=by rw [h1];trivial
 unfold opV at h2
 split at h2
 · rename_i a b he;obtain ⟨rfl,rfl⟩:=h2;exact he
 · exact h2.elim
 · exact h2.elim
theorem qV_eq {s:Sem Value} {v:Value} {k:Value→Prop} (h:∀ w',Ext w w'→s.run P w' = .ok v w'):qV P (EC w) s k=k v:=by
 apply propext
 constructor
 · rintro ⟨v',h1,h2⟩
   have a:=h1 w (Ext.refl w)
   rw [h w (Ext.refl w)] at a
   injection a with a _
   rw [a];exact h2
 · exact fun hk=>⟨v,h,hk⟩
theorem qV_eqC {C:World→Prop} [hne:ClassNe C] {s:Sem Value} {v:Value} {k:Value→Prop} (h:∀ w',C w'→s.run P w' = .ok v w'):qV P C s k=k v:=by
 apply propext
 obtain ⟨w0,hw0⟩:=hne.ne
 constructor
 · rintro ⟨v',h1,h2⟩
   have a:=h1 w0 hw0
   rw [h w0 hw0] at a
   injection a with a _
   rw [a];exact h2
 · exact fun hk=>⟨v,h,hk⟩
theorem qV_of {C:World→Prop} [ClassNe C] {s:Sem Value} {v:Value} {k:Value→Prop} (h:∀ (QP:List PanicEntry→World→Prop) (w':World) (k:Value→World→Prop),opV P s QP w' k=k v w'):qV P C s k=k v:=qV_eqC fun w' _=>run_of_op fun QP k=>h QP w' k
theorem qN_eqC {C:World→Prop} [hne:ClassNe C] {s:Sem Next} {v:Value} {k:Value→Prop} (h:∀ w',C w'→s.run P w' = .ok (.value v) w'):qN P C s k=k v:=by
 apply propext
 obtain ⟨w0,hw0⟩:=hne.ne
 constructor
 · rintro ⟨v',h1,h2⟩
   have a:=h1 w0 hw0
   rw [h w0 hw0] at a
   injection a with a _
   injection a with a
   rw [a];exact h2
 · exact fun hk=>⟨v,h,hk⟩
theorem qN_nil {C:World→Prop} [ClassNe C] {k:Value→Prop} (a:Addr):qN P C (nilN (.pointer (some a))) k=k (.pointer (some a)):=qN_eqC fun w' _=>by simp [nilN,execOp]
def qVx (P:Program) (C:World→Prop) (s:Sem Value) (k:Value→Prop):Prop:=qV P C s k
theorem qV_loadC {T:TypeId} {n m:Nat} {z:Value} {k:Value→Prop} (h:TyInfo P T false n m z) (b o:Nat):qV P (EC w) (Instr.loadAt T (.pointer (some ⟨b,o,none⟩))) k=onCell (w.cell? ⟨b,o,none⟩) k (qVx P (EC w) (Instr.loadAt T (.pointer (some ⟨b,o,none⟩))) k):=by
 cases hc:w.cell? ⟨b,o,none⟩ with
 | some v =>
  rw [onCell_some]
  refine qV_eq fun w' e=>?_
  have:=run_of_op (P:=P) (w:=w') (s:=Instr.loadAt T (.pointer (some ⟨b,o,none⟩))) (v:=v) (fun QP k=>op_load1 h (e.cell hc))
  exact this
 | none=>rfl
theorem qV_loadKB {T:TypeId} {n m:Nat} {z:Value} {k:Value→Prop} (h:TyInfo P T false n m z) (b1 b2 b o:Nat) (h1:b≠b1) (h2:b≠b2):qV P (KB w b1 b2) (Instr.loadAt T (.pointer (some ⟨b,o,none⟩))) k=onCell (w.cell? ⟨b,o,none⟩) k (qVx P (KB w b1 b2) (Instr.loadAt T (.pointer (some ⟨b,o,none⟩))) k):=by
 cases hc:w.cell? ⟨b,o,none⟩ with
 | some v =>
  rw [onCell_some]
  exact qV_eqC fun w' e=>run_of_op (P:=P) (w:=w') (s:=Instr.loadAt T (.pointer (some ⟨b,o,none⟩))) (v:=v) (fun QP k=>op_load1 h (e.cell h1 h2 hc))
 | none=>rfl
theorem qV_load {T:TypeId} {a:Addr} {v:Value} {k:Value→Prop} (h:∀ w',Ext w w'→Loads P w' T a v):qV P (EC w) (Instr.loadAt T (.pointer (some a))) k=k v :=
 qV_eq fun w' e=>run_of_op fun QP k=>op_load (h w' e)
def onCells:List (Option Value)→(List Value→Prop)→Prop→Prop
 | [],k,_=>k []
 | some v::l,k,d=>onCells l (fun vs=>k (v::vs)) d
 | none::_,_,d=>d
theorem onCells_nil (k:List Value→Prop) (d:Prop):onCells [] k d=k []:=rfl
theorem onCells_some (v:Value) (l:List (Option Value)) (k:List Value→Prop) (d:Prop):onCells (some v::l) k d=onCells l (fun vs=>k (v::vs)) d:=rfl
theorem onCells_all:∀ (vs:List Value) (k:List Value→Prop) (d:Prop),onCells (vs.map some) k d=k vs
 | [],_,_=>rfl
 | v::vs,k,d=>onCells_all vs (fun l=>k (v::l)) d
theorem onCells_cases (l:List (Option Value)):(∃ vs:List Value,l=vs.map some)∨∀ k d,onCells l k d=d:=by
 induction l with
 | nil=>exact .inl ⟨[],rfl⟩
 | cons a l ih =>
  cases a with
  | none=>exact .inr fun k d=>rfl
  | some v =>
   rcases ih with ⟨vs,rfl⟩ | h
   · exact .inl ⟨v::vs,rfl⟩
   · exact .inr fun k d=>h _ d
@[congr] theorem onCells_congr {l l':List (Option Value)} {k:List Value→Prop} {p:Prop} {d:Nat} (h:l=l') (hd:dirty=d):onCells l k p=onCells l' k p:=by rw [h]
theorem loads_cells {T:TypeId} {n m:Nat} {z:Value} (h:TyInfo P T true n m z) (b o:Nat) {vs:List Value} (hc:(List.range n).map (fun j=>w.cell? ⟨b,o+j,none⟩)=vs.map some):Loads P w T ⟨b,o,none⟩ (.agg vs.toArray):=by
 have hl:vs.length=n:=by have:=congrArg List.length hc;simpa using this.symm
 refine Loads.many h hl fun j v hv=>?_
 have hj:j < n:=by have:=(List.getElem?_eq_some_iff.1 hv).1;omega
 have:=congrArg (fun l=>l[j]?) hc
 simp only [List.getElem?_map,List.getElem?_range hj,hv,Option.map_some] at this
 rw [Addr.add_lit]
 exact Option.some.inj this
theorem op_loadA {T:TypeId} {n m:Nat} {z:Value} {k:Value→World→Prop} (h:TyInfo P T true n m z) (b o:Nat) (l:List (Option Value)) (hl:l=(List.range n).map (fun j=>w.cell? ⟨b,o+j,none⟩)) :
 opV P (Instr.loadAt T (.pointer (some ⟨b,o,none⟩))) QP w k=onCells l (fun vs=>k (.agg vs.toArray) w) (opVx P (Instr.loadAt T (.pointer (some ⟨b,o,none⟩))) QP w k):=by
 rcases onCells_cases l with ⟨vs,hv⟩ | hd
 · rw [hv,onCells_all]
   exact op_load (loads_cells h b o (by rw [← hl,hv]))
 · rw [hd];rfl
theorem qV_loadA {T:TypeId} {n m:Nat} {z:Value} {k:Value→Prop} (h:TyInfo P T true n m z) (b o:Nat) (l:List (Option Value)) (hl:l=(List.range n).map (fun j=>w.cell? ⟨b,o+j,none⟩)) :
 qV P (EC w) (Instr.loadAt T (.pointer (some ⟨b,o,none⟩))) k=onCells l (fun vs=>k (.agg vs.toArray)) (qVx P (EC w) (Instr.loadAt T (.pointer (some ⟨b,o,none⟩))) k):=by
 rcases onCells_cases l with ⟨vs,hv⟩ | hd
 · rw [hv,onCells_all]
   refine qV_load fun w' e=>loads_cells h b o ?_
   rw [← hv,hl]
   have hm:∀ j,j∈List.range n→∃ v,w.cell? ⟨b,o+j,none⟩=some v:=by
    intro j hj
    have:w.cell? ⟨b,o+j,none⟩∈l:=by rw [hl];exact List.mem_map_of_mem hj
    rw [hv] at this
    obtain ⟨v,_,hv⟩:=List.mem_map.1 this
    exact ⟨v,hv.symm⟩
   apply List.map_congr_left
   intro j hj
   obtain ⟨v,hv⟩:=hm j hj
   rw [hv];exact e.cell hv
 · rw [hd];rfl
def qWx (P:Program) (t:TypeId) (a:Value) (w:World) (k:Value→Prop):Prop:=qW P t a w k
theorem qW_load {T:TypeId} {a:Addr} {v:Value} {k:Value→Prop} (h:Loads P w T a v):qW P T (.pointer (some a)) w k=k v:=by
 have hr:(do loadVar T (← asAddr (.pointer (some a))):Sem Value).run P w = .ok v w:=h
 unfold qW
 rw [hr]
 apply propext
 constructor
 · rintro ⟨v',h1,h2⟩;injection h1 with h1 _;rw [h1];exact h2
 · exact fun hk=>⟨v,rfl,hk⟩
theorem qW_loadC {T:TypeId} {n m:Nat} {z:Value} {k:Value→Prop} (h:TyInfo P T false n m z) (b o:Nat):qW P T (.pointer (some ⟨b,o,none⟩)) w k=onCell (w.cell? ⟨b,o,none⟩) k (qWx P T (.pointer (some ⟨b,o,none⟩)) w k):=by
 cases hc:w.cell? ⟨b,o,none⟩ with
 | some v=>exact qW_load (Loads.one h hc)
 | none=>rfl
theorem qW_loadA {T:TypeId} {n m:Nat} {z:Value} {k:Value→Prop} (h:TyInfo P T true n m z) (b o:Nat) (l:List (Option Value)) (hl:l=(List.range n).map (fun j=>w.cell? ⟨b,o+j,none⟩)) :
 qW P T (.pointer (some ⟨b,o,none⟩)) w k=onCells l (fun vs=>k (.agg vs.toArray)) (qWx P T (.pointer (some ⟨b,o,none⟩)) w k):=by
 rcases onCells_cases l with ⟨vs,hv⟩ | hd
 · rw [hv,onCells_all]
   exact qW_load (loads_cells h b o (by rw [← hl,hv]))
 · rw [hd];rfl
@[congr] theorem qW_congr {T:TypeId} {a a':Value} {w':World} {k:Value→Prop} {d:Nat} (h:a=a') (hw:w=w') (hd:dirty=d):qW P T a w k=qW P T a' w' k:=by rw [h,hw]
def onFree:List Bool→Prop→Prop→Prop
 | [],p,_=>p
 | false::l,p,d=>onFree l p d
 | true::_,_,d=>d
theorem onFree_nil (p d:Prop):onFree [] p d=p:=rfl
theorem onFree_false (l:List Bool) (p d:Prop):onFree (false::l) p d=onFree l p d:=rfl
theorem onFree_cases (l:List Bool):(∀ b∈l,b=false)∧(∀ p d,onFree l p d=p)∨∀ p d,onFree l p d=d:=by
 induction l with
 | nil=>exact .inl ⟨by simp,fun _ _=>rfl⟩
 | cons a l ih =>
  cases a with
  | true=>exact .inr fun _ _=>rfl
  | false =>
   rcases ih with ⟨h1,h2⟩ | h
   · exact .inl ⟨by simpa using h1,h2⟩
   · exact .inr h
@[congr] theorem onFree_congr {l l':List Bool} {p q:Prop} {d:Nat} (h:l=l') (hd:dirty=d):onFree l p q=onFree l' p q:=by rw [h]
@[congr] theorem qVx_congr {s:Sem Value} {C:World→Prop} {k:Value→Prop} {d:Nat} (hd:dirty=d):qVx P C s k=qVx P C s k:=rfl
@[congr] theorem qWx_congr {T:TypeId} {a:Value} {k:Value→Prop} {d:Nat} (hd:dirty=d):qWx P T a w k=qWx P T a w k:=rfl
def setCells (w:World) (b o:Nat):List Value→World
 | []=>w
 | v::vs=>setCells (w.setCell ⟨b,o,none⟩ v) b (o+1) vs
theorem run_storeCellsA (b o:Nat):∀ (vs:List Value) (i:Nat) (w:World),(∀ j,j < vs.length→∃ u,w.cell? ⟨b,o+(i+j),none⟩=some u)→(∀ j,j < vs.length→w.frozen? ⟨b,o+(i+j),none⟩=false)→(∀ v∈vs,v.oneCell'=true) →
 (storeCells ⟨b,o,none⟩ vs i).run P w = .ok () (setCells w b (o+i) vs)
 | [],_,_,_,_,_=>rfl
 | v::vs,i,w,hc,hf,hv=>by
  obtain ⟨u,hu⟩:=hc 0 (by simp)
  have hf':w.frozen? ⟨b,o+i,none⟩=false:=hf 0 (by simp)
  simp only [Nat.add_zero] at hu
  simp only [storeCells,Sem.run_bind,Addr.add_lit,run_store P _ _ v .plain (hv v (List.mem_cons_self ..)),hu,hf',Nat.add_zero,Bool.false_eq_true,if_false,Result.andThen_ok]
  have hs:∀ j,j < vs.length→∃ u,(w.setCell ⟨b,o+i,none⟩ v).cell? ⟨b,o+(i+1+j),none⟩=some u:=by
   intro j hj
   obtain ⟨u,hu⟩:=hc (j+1) (by simp;omega)
   refine ⟨u,?_⟩
   rw [cell_set_other (by omega)]
   rw [← hu];congr 2;omega
  have:=run_storeCellsA b o vs (i+1) (w.setCell ⟨b,o+i,none⟩ v) hs (fun j hj=>by rw [frozen_set];have:=hf (j+1) (by simp;omega);rw [← this];congr 2;omega) (fun u hu=>hv u (List.mem_cons_of_mem _ hu))
  simpa [hf',hu,setCells,Nat.add_assoc] using this
theorem op_storeA {T:TypeId} {n m:Nat} {z:Value} {ku:World→Prop} (h:TyInfo P T true n m z) (b o:Nat) (vs:List Value) (hn:vs.length=n) (hv:∀ v∈vs,v.oneCell'=true) (l:List (Option Value)) (hl:l=(List.range n).map (fun j=>w.cell? ⟨b,o+j,none⟩))
 (lf:List Bool) (hlf:lf=(List.range n).map (fun j=>w.frozen? ⟨b,o+j,none⟩)) :
 opU P (Instr.storeAt T (.pointer (some ⟨b,o,none⟩)) (.agg vs.toArray)) QP w ku=onCells l (fun _=>onFree lf (ku (setCells w b o vs)) (opUx P (Instr.storeAt T (.pointer (some ⟨b,o,none⟩)) (.agg vs.toArray)) QP w ku)) (opUx P (Instr.storeAt T (.pointer (some ⟨b,o,none⟩)) (.agg vs.toArray)) QP w ku):=by
 rcases onCells_cases l with ⟨us,hu⟩ | hd
 · rw [hu,onCells_all]
   rcases onFree_cases lf with ⟨h1,h2⟩ | h2
   · rw [h2]
     refine opU_ok (u:=()) ?_
     have hc:∀ j,j < vs.length→∃ u,w.cell? ⟨b,o+(0+j),none⟩=some u:=by
      intro j hj
      have:w.cell? ⟨b,o+j,none⟩∈l:=by rw [hl];exact List.mem_map_of_mem (List.mem_range.2 (by omega))
      rw [hu] at this
      obtain ⟨v,_,hv⟩:=List.mem_map.1 this
      exact ⟨v,by rw [Nat.zero_add,hv]⟩
     have hf:∀ j,j < vs.length→w.frozen? ⟨b,o+(0+j),none⟩=false:=by
      intro j hj
      refine h1 _ ?_
      rw [hlf,Nat.zero_add]
      exact List.mem_map_of_mem (f:=fun j=>w.frozen? ⟨b,o+j,none⟩) (List.mem_range.2 (by omega))
     have:=run_storeCellsA (P:=P) b o vs 0 w hc hf hv
     simp [Instr.storeAt,Instr.sureAddr,storeVar,run_sizeOf h,cells_agg,hn,this]
   · rw [h2];rfl
 · rw [hd];rfl
theorem op_storeN {T:TypeId} {n m:Nat} {z:Value} {ku:World→Prop} (h:TyInfo P T true n m z) (b:Nat) (hb:b=w.heap.size) (o:Array Value) (T':TypeId) (vs:List Value) (ho:o.size=n) (hn:vs.length=n) (hv:∀ v∈vs,v.oneCell'=true) :
 opU P (Instr.storeAt T (.pointer (some ⟨b,0,none⟩)) (.agg vs.toArray)) QP (w.alloc (.cells o T')) ku=ku (w.alloc (.cells vs.toArray T')):=by
 subst hb
 refine opU_ok (u:=()) ?_
 obtain ⟨o',h1,h2,h3⟩:=storeCells_new (P:=P) (w:=w) T' vs 0 o (by simp;omega) hv
 have he:o'=vs.toArray:=by
  apply Array.ext_getElem?
  intro j
  rw [h3 j]
  by_cases hj:j < vs.length
  · rw [if_pos (by omega)];simp
  · rw [if_neg (by omega)]
    rw [Array.getElem?_eq_none (by omega),Array.getElem?_eq_none (by simp;omega)]
 subst he
 simp [Instr.storeAt,Instr.sureAddr,storeVar,run_sizeOf h,cells_agg,hn,h1]
theorem GENQ {C:World→Prop} [ClassNe C] {k:Value→Prop}:(∀ t c kd a b,qV P C (binS .add t c (.int kd a) (.int kd b)) k=k (.int kd (kd.wrap (a+b)))) ∧
 (∀ t c kd a b,qV P C (binS .sub t c (.int kd a) (.int kd b)) k=k (.int kd (kd.wrap (a - b)))) ∧
 (∀ t c kd a b,qV P C (binS .mul t c (.int kd a) (.int kd b)) k=k (.int kd (kd.wrap (a*b)))) ∧
 (∀ t c kd a b,qV P C (binS .eql t c (.int kd a) (.int kd b)) k=k (.bool (a == b))) ∧
 (∀ t c kd a b,qV P C (binS .neq t c (.int kd a) (.int kd b)) k=k (.bool (a != b))) ∧
 (∀ t c kd a b,qV P C (binS .lss t c (.int kd a) (.int kd b)) k=k (.bool (decide (a < b)))) ∧
 (∀ t c kd a b,qV P C (binS .leq t c (.int kd a) (.int kd b)) k=k (.bool (decide (a≤b)))) ∧
 (∀ t c kd a b,qV P C (binS .gtr t c (.int kd a) (.int kd b)) k=k (.bool (decide (b < a)))) ∧
 (∀ t c kd a b,qV P C (binS .geq t c (.int kd a) (.int kd b)) k=k (.bool (decide (b≤a)))) ∧
 (∀ t c a b,qV P C (binS .eql t c (.string a) (.string b)) k=k (.bool (decide (a=b)))) ∧
 (∀ t c a b,qV P C (binS .neq t c (.string a) (.string b)) k=k (.bool (!decide (a=b)))) ∧
 (∀ b,qV P C (Op.unary .not (.bool b)) k=k (.bool !b)) ∧
 (∀ ts t kd a b,qV P C (Builtin.max_ ts t #[.int kd a,.int kd b]) k=k (.int kd (if b > a then b else a))) ∧
 (∀ ts t kd a b,qV P C (Builtin.min_ ts t #[.int kd a,.int kd b]) k=k (.int kd (if b < a then b else a))) ∧
 (∀ a b,qV P C (Instr.extract (.tuple #[a,b]) 0) k=k a)∧(∀ a b,qV P C (Instr.extract (.tuple #[a,b]) 1) k=k b) ∧
 (∀ a b c,qV P C (Instr.extract (.tuple #[a,b,c]) 0) k=k a)∧(∀ a b c,qV P C (Instr.extract (.tuple #[a,b,c]) 1) k=k b)∧(∀ a b c,qV P C (Instr.extract (.tuple #[a,b,c]) 2) k=k c) ∧
 (∀ fn a b,qV P C (Instr.makeFunc fn a b) k=k (.func fn a b)) ∧
 (∀ a,qN P C (nilN (.pointer (some a))) k=k (.pointer (some a))) :=
 ⟨fun t c kd a b=>qV_of fun _ _ _=>op_add t c kd a b,fun t c kd a b=>qV_of fun _ _ _=>op_sub t c kd a b,fun t c kd a b=>qV_of fun _ _ _=>op_mul t c kd a b,fun t c kd a b=>qV_of fun _ _ _=>op_eql t c kd a b,fun t c kd a b=>qV_of fun _ _ _=>op_neq t c kd a b,
  fun t c kd a b=>qV_of fun _ _ _=>op_lss t c kd a b,fun t c kd a b=>qV_of fun _ _ _=>op_leq t c kd a b,fun t c kd a b=>qV_of fun _ _ _=>op_gtr t c kd a b,fun t c kd a b=>qV_of fun _ _ _=>op_geq t c kd a b,
  fun t c a b=>qV_of fun _ _ _=>op_seql t c a b,fun t c a b=>qV_of fun _ _ _=>op_sneq t c a b,fun b=>qV_of fun _ _ _=>op_not b,fun ts t kd a b=>qV_of fun _ _ _=>op_max ts t kd a b,fun ts t kd a b=>qV_of fun _ _ _=>op_min ts t kd a b,
  fun a b=>qV_of fun _ _ _=>op_extract20 a b,fun a b=>qV_of fun _ _ _=>op_extract21 a b,fun a b c=>qV_of fun _ _ _=>op_extract30 a b c,fun a b c=>qV_of fun _ _ _=>op_extract31 a b c,fun a b c=>qV_of fun _ _ _=>op_extract32 a b c,fun fn a b=>qV_of fun _ _ _=>op_makeFunc fn a b,qN_nil⟩
def KL (w:World) (r:Nat) (ps:List (ByteArray×Value)):World→Prop:=fun x=>Ext w x∧MapOf x r ps
theorem qV_lookupKL {mt kt et r:TypeId} {agg:Bool} {n m:Nat} {z:Value} {ps:List (ByteArray×Value)} {k:Value→Prop} (hm:P.underlying mt=some (.map kt et)) (hk:P.underlying kt=some .string) (hz:TyInfo P et agg n m z) (hne:∃ x,KL w r ps x) (s:ByteArray) :
 qV P (KL w r ps) (Instr.lookup mt (.map (some r)) (.string s) true) k=k (.tuple #[(lastOf ps s).getD z,.bool (lastOf ps s).isSome]):=by
 haveI:ClassNe (KL w r ps):=⟨hne⟩
 exact qV_eqC fun w' e=>run_of_op fun QP k=>op_lookupO hm hk hz e.2 s
theorem qV_lookup1E {mt kt et r:TypeId} {agg:Bool} {n m:Nat} {z:Value} {ps:List (ByteArray×Value)} {k:Value→Prop} (hm:P.underlying mt=some (.map kt et)) (hk:P.underlying kt=some .string) (hz:TyInfo P et agg n m z) (h:MapOf w r ps) (s:ByteArray) :
 qV P (EC w) (Instr.lookup mt (.map (some r)) (.string s) false) k=k ((lastOf ps s).getD z):=qV_eqC fun w' e=>run_of_op fun QP k=>op_lookup1O hm hk hz (h.ext e) s
theorem qV_lookupE {mt kt et r:TypeId} {agg:Bool} {n m:Nat} {z:Value} {ps:List (ByteArray×Value)} {k:Value→Prop} (hm:P.underlying mt=some (.map kt et)) (hk:P.underlying kt=some .string) (hz:TyInfo P et agg n m z) (h:MapOf w r ps) (s:ByteArray) :
 qV P (EC w) (Instr.lookup mt (.map (some r)) (.string s) true) k=k (.tuple #[(lastOf ps s).getD z,.bool (lastOf ps s).isSome]):=qV_eqC fun w' e=>run_of_op fun QP k=>op_lookupO hm hk hz (h.ext e) s
theorem narrowK_same {C:World→Prop} {f:(World→Prop)→World→Prop} (hC:C w) (h:f C w):narrowK C w f:=⟨C,fun _ h=>h,hC,h⟩
theorem narrowK_KL {w1:World} {r:Nat} {ps:List (ByteArray×Value)} {f:(World→Prop)→World→Prop} (e:Ext w1 w) (hm:MapOf w r ps) (h:f (KL w1 r ps) w):narrowK (EC w1) w f:=⟨KL w1 r ps,fun _ h=>h.1,⟨e,hm⟩,h⟩
theorem qV_shl {C:World→Prop} [ClassNe C] {k:Value→Prop} (t:TypeId) (c:Bool) (x:Int) (yk:IntKind) (y:Int) (h0:0≤y) (h1:y≤64):qV P C (binS .shl t c (.int .i64 x) (.int yk y)) k=k (.int .i64 (IntKind.i64.wrap (x*2 ^ y.toNat))):=qV_of fun _ _ _=>op_shl t c x yk y h0 h1
def KM {α:Type} [DecidableEq α] (w:World) (r:Nat) (enc:α→Value) (L:List (α×Value×Nat)) (c:Nat):World→Prop:=fun x=>Ext w x∧MapB x r enc L c
theorem qV_lookupKM {α:Type} [DecidableEq α] {mt kt et r c:TypeId} {agg:Bool} {n m:Nat} {z:Value} {enc:α→Value} {L:List (α×Value×Nat)} {k:Value→Prop} (hm:P.underlying mt=some (.map kt et)) (K:KeyOK P kt enc) (hz:TyInfo P et agg n m z) (hne:∃ x,KM w r enc L c x) (s:α) :
 qV P (KM w r enc L c) (Instr.lookup mt (.map (some r)) (enc s) true) k=k (.tuple #[(look L s).getD z,.bool (look L s).isSome]):=by
 haveI:ClassNe (KM w r enc L c):=⟨hne⟩
 exact qV_eqC fun w' e=>run_of_op fun QP k=>op_lookup hm K hz e.2 s
theorem narrowK_KM {α:Type} [DecidableEq α] {w1:World} {r c:Nat} {enc:α→Value} {L:List (α×Value×Nat)} {f:(World→Prop)→World→Prop} (e:Ext w1 w) (hm:MapB w r enc L c) (h:f (KM w1 r enc L c) w):narrowK (EC w1) w f:=⟨KM w1 r enc L c,fun _ h=>h.1,⟨e,hm⟩,h⟩
theorem drawK_intro {f:(World→Prop)→World→Prop} (h:f (EC (drew w)) (drew w)):drawK w f:=⟨EC (drew w),Ext.refl _,h⟩
theorem drawK_introE {w1:World} {f:(World→Prop)→World→Prop} (e:Ext w1 w) (h:f (EC w1) (drew w)):drawK w f:=⟨EC w1,e.drew,h⟩
theorem drawK_introB {w1:World} (b1 b2:Nat) {f:(World→Prop)→World→Prop} (e:KB w1 b1 b2 w) (h:f (KB w1 b1 b2) (drew w)):drawK w f:=⟨KB w1 b1 b2,e,h⟩
theorem turnK_intro {f:(World→Prop)→World→Prop} (h:f (EC w) w):turnK w f:=⟨EC w,Ext.refl _,h⟩
@[congr] theorem turnK_congr {w':World} {f:(World→Prop)→World→Prop} {d:Nat} (hw:w=w') (hd:dirty=d):turnK w f=turnK w' f:=by rw [hw]
end
end Go.Sw
namespace Go.Sw
open Go.RowKit (Below)
def OwnE {α:Type} (w:World) (base:Nat) (T:TypeId) (n:Nat) (enc:α→List Value) (v:Value) (l:List α):Prop :=
 w.ownsRow base T n v l.length (l.flatMap enc)
theorem ownsRow_ext {w w':World} {base n m:Nat} {T:TypeId} {v:Value} {xs:List Value} (h:w.ownsRow base T n v m xs) (e:Ext w w'):w'.ownsRow base T n v m xs :=
 h.kept (row:=none) ⟨e.os,e.tape,e.output,e.size,fun k hk _=>e.block k hk⟩ (by cases hv:v.ownBlock<;>simp)
theorem ownsRow_base {w:World} {base base' n m:Nat} {T:TypeId} {v:Value} {xs:List Value} (h:w.ownsRow base T n v m xs) (hb:base'≤base):w.ownsRow base' T n v m xs:=by
 refine ⟨h.1,?_⟩
 rcases h.2 with h2 | ⟨g,cap,cur,h1,h2,h3⟩
 · exact .inl h2
 · exact .inr ⟨g,cap,cur,h1,Nat.le_trans hb h2,h3⟩
theorem OwnE.ext {α:Type} {w w':World} {base n:Nat} {T:TypeId} {enc:α→List Value} {v:Value} {l:List α} (h:OwnE w base T n enc v l) (e:Ext w w'):OwnE w' base T n enc v l:=ownsRow_ext h e
theorem OwnE.base {α:Type} {w:World} {base base' n:Nat} {T:TypeId} {enc:α→List Value} {v:Value} {l:List α} (h:OwnE w base T n enc v l) (hb:base'≤base):OwnE w base' T n enc v l:=ownsRow_base h hb
theorem OwnE.nil {α:Type} (w:World) (base n:Nat) (T:TypeId) (enc:α→List Value):OwnE w base T n enc (.slice none 0 0) []:=w.ownsRow_nil base T n
theorem flatMap_get {α:Type} {enc:α→List Value} {n:Nat} (hn:∀ x,(enc x).length=n):∀ (l:List α) (k:Nat) (x:α) (j:Nat) (v:Value),l[k]?=some x→(enc x)[j]?=some v→(l.flatMap enc)[k*n+j]?=some v
 | [],k,x,j,v,h,_=>by simp at h
 | y::l,0,x,j,v,h,hv=>by
  simp only [List.getElem?_cons_zero,Option.some.injEq] at h
  subst h
  have hj:j < (enc y).length:=(List.getElem?_eq_some_iff.1 hv).1
  rw [List.flatMap_cons,Nat.zero_mul,Nat.zero_add,List.getElem?_append_left hj];exact hv
 | y::l,k+1,x,j,v,h,hv=>by
  rw [List.flatMap_cons,List.getElem?_append_right (by rw [hn,Nat.add_mul];omega)]
  have:=flatMap_get hn l k x j v (by simpa using h) hv
  rw [hn,Nat.add_mul]
  rw [show k*n+1*n+j - n=k*n+j by omega]
  exact this
theorem OwnE.slice {α:Type} {w:World} {base n:Nat} {T:TypeId} {enc:α→List Value} {v:Value} {l:List α} {E:World→List Value→α→Prop} (h:OwnE w base T n enc v l) (hn:∀ x,(enc x).length=n) (hE:∀ x,x∈l→E w (enc x) x):SliceOf w n E v l:=by
 obtain ⟨h1,h2⟩:=h
 rcases h2 with ⟨rfl,h0⟩ | ⟨g,cap,cur,rfl,hb,hg,hc,hm,hs,ht⟩
 · have:l=[]:=List.eq_nil_of_length_eq_zero h0
   subst this;exact SliceOf.nil w n E
 · refine ⟨_,cap,rfl,hc,by simp only [maxLen] at hm;omega,fun _=>⟨g,0,rfl,fun k x hx=>⟨enc x,hn x,fun j v hv=>?_,hE x (List.mem_of_getElem? hx)⟩⟩⟩
   have hk:k < l.length:=(List.getElem?_eq_some_iff.1 hx).1
   have hj:j < n:=by have:=(List.getElem?_eq_some_iff.1 hv).1;rwa [hn] at this
   have:=flatMap_get hn l k x j v hx hv
   rw [← ht,List.getElem?_take] at this
   split at this
   · rw [cell_of_row w g _ cur T (0,0) hg,Nat.zero_add]
     simpa using this
   · cases this
theorem OwnE.new {α:Type} (w:World) (T:TypeId) (n:Nat) (enc:α→List Value) (l:List α) (hn:∀ x,(enc x).length=n) (hl:l.length≤9223372036854775807):OwnE (w.alloc (.cells (l.flatMap enc).toArray T)) w.heap.size T n enc (.slice (some ⟨w.heap.size,0,none⟩) l.length l.length) l:=by
 have hlen:(l.flatMap enc).length=l.length*n:=by
  clear hl
  induction l with
  | nil=>simp
  | cons a l ih=>rw [List.flatMap_cons,List.length_append,hn,ih,List.length_cons,Nat.add_mul];omega
 exact ⟨hlen,.inr ⟨_,_,_,rfl,Nat.le_refl _,World.alloc_heap_new w _,Nat.le_refl _,by simp only [maxLen];omega,by simpa using hlen,by rw [← hlen];exact List.take_length⟩⟩
abbrev Cs (n:Nat):Type:={cs:List Value // cs.length=n}
def Mates {α:Type} (n:Nat) (E:List Value→α→Prop) (css:List (Cs n)) (l:List α):Prop:=css.length=l.length∧∀ (k:Nat) (x:α) (cs:Cs n),l[k]?=some x→css[k]?=some cs→E cs.1 x
theorem Mates.imp {α:Type} {n:Nat} {E E':List Value→α→Prop} {css:List (Cs n)} {l:List α} (h:Mates n E css l) (hE:∀ cs x,E cs x→E' cs x):Mates n E' css l:=⟨h.1,fun k x cs hx hc=>hE _ _ (h.2 k x cs hx hc)⟩
theorem Mates.mem {α:Type} {n:Nat} {E:List Value→α→Prop} {css:List (Cs n)} {l:List α} (h:Mates n E css l) {cs:Cs n} (hc:cs∈css):∃ x∈l,E cs.1 x:=by
 obtain ⟨k,hk⟩:=List.getElem?_of_mem hc
 obtain ⟨x,hx⟩:=getElem?_lt (l:=l) (k:=k) (by rw [← h.1];exact (List.getElem?_eq_some_iff.1 hk).1)
 exact ⟨x,List.mem_of_getElem? hx,h.2 k x cs hx hk⟩
theorem keptRaw {n:Nat}:Kept (fun (_:World) (cs:List Value) (x:Cs n)=>cs=x.1):=fun _ _ _ _ _ h=>h
theorem SliceOf.raw {α:Type} {w:World} {n:Nat} {E:World→List Value→α→Prop} {v:Value} {l:List α} (h:SliceOf w n E v l) :
 ∃ css:List (Cs n),SliceOf w n (fun _ cs x=>cs=x.1) v css∧Mates n (E w) css l:=by
 obtain ⟨A,c,rfl,hlc,hcm,hlm,hel⟩:=SliceOf.open h
 have hex:∀ k,∃ cs:Cs n,∀ x,l[k]?=some x→∃ b o,A=some ⟨b,o,none⟩∧ElemAt w b (o+k*n) cs.1∧E w cs.1 x:=by
  intro k
  cases hx:l[k]? with
  | none=>exact ⟨⟨List.replicate n .nilIface,by simp⟩,fun x h=>by cases h⟩
  | some x =>
   obtain ⟨b,o,cs,h1,h2,h3,h4⟩:=hel k x hx
   exact ⟨⟨cs,h2⟩,fun y hy=>by injection hy with hy;subst hy;exact ⟨b,o,h1,h3,h4⟩⟩
 let f:=fun k=>Classical.choose (hex k)
 have hf:∀ k x,l[k]?=some x→∃ b o,A=some ⟨b,o,none⟩∧ElemAt w b (o+k*n) (f k).1∧E w (f k).1 x:=fun k=>Classical.choose_spec (hex k)
 refine ⟨(List.range l.length).map f,⟨A,c,by simp,by simpa using hlc,hcm,fun hne=>?_⟩,by simp,fun k x cs hx hcs=>?_⟩
 · have hl0:0 < l.length:=by
    cases hl:l with
    | nil=>rw [hl] at hne;simp at hne
    | cons=>simp
   obtain ⟨x,hx⟩:=getElem?_lt hl0
   obtain ⟨b,o,hA,_⟩:=hf 0 x hx
   refine ⟨b,o,hA,fun k cs hcs=>?_⟩
   simp only [List.getElem?_map,Option.map_eq_some_iff] at hcs
   obtain ⟨i,hi,rfl⟩:=hcs
   obtain ⟨hk,he⟩:=List.getElem?_eq_some_iff.1 hi
   simp only [List.length_range] at hk
   rw [List.getElem_range] at he
   subst he
   obtain ⟨y,hy⟩:=getElem?_lt hk
   obtain ⟨b',o',hA',h3,h4⟩:=hf k y hy
   rw [hA] at hA'
   injection hA' with hA'
   injection hA' with h5 h6
   subst h5 h6
   exact ⟨(f k).1,(f k).2,h3,rfl⟩
 · obtain ⟨_,_,_,_,h4⟩:=hf k x hx
   have hk:k < l.length:=(List.getElem?_eq_some_iff.1 hx).1
   simp only [List.getElem?_map,List.getElem?_range hk,Option.map_some,Option.some.injEq] at hcs
   rw [← hcs];exact h4
theorem OwnE.reads {α:Type} {w:World} {base n:Nat} {T:TypeId} {v:Value} {css:List (Cs n)} {l:List α} {E:World→List Value→α→Prop} (h:OwnE w base T n Subtype.val v css) (hm:Mates n (E w) css l):SliceOf w n E v l:=by
 have hs:SliceOf w n (fun _ cs (x:Cs n)=>cs=x.1) v css:=h.slice (fun x=>x.2) (fun _ _=>rfl)
 obtain ⟨A,c,h1,h2,h3,h4⟩:=hs
 rw [hm.1] at h1 h2
 refine ⟨A,c,h1,h2,h3,fun hne=>?_⟩
 have hne':css≠[]:=by
  rintro rfl
  have:=hm.1
  exact hne (List.eq_nil_of_length_eq_zero (by simpa using this.symm))
 obtain ⟨b,o,hA,h5⟩:=h4 hne'
 refine ⟨b,o,hA,fun k x hx=>?_⟩
 obtain ⟨cs,hcs⟩:=getElem?_lt (l:=css) (k:=k) (by rw [hm.1];exact (List.getElem?_eq_some_iff.1 hx).1)
 obtain ⟨cs',h6,h7,rfl⟩:=h5 k cs hcs
 exact ⟨cs.1,cs.2,h7,hm.2 k x cs hx hcs⟩
theorem cells_of_heap {w:World} {b:Nat} {cs:Array Value} {T:TypeId} (h:w.heap[b]?=some (.cells cs T (0,0))):(∀ o,w.cell? ⟨b,o,none⟩=cs[o]?)∧∀ o,w.frozen? ⟨b,o,none⟩=false :=
 ⟨fun o=>cell_of_row w b o cs T (0,0) h,fun o=>by unfold World.frozen?;rw [h];simp⟩
theorem heap_set {w:World} {b o:Nat} {cs:Array Value} {T:TypeId} {fr:Nat×Nat} (h:w.heap[b]?=some (.cells cs T fr)) (v:Value):(w.setCell ⟨b,o,none⟩ v).heap[b]?=some (.cells (cs.setIfInBounds o v) T fr):=by
 simp only [World.setCell,Array.getElem?_modify,h]
 simp
def setObj (o:Nat) (v:Value):Obj→Obj
 | .cells cs T fr => .cells (cs.setIfInBounds o v) T fr
 | x=>x
theorem setObj_cells (o:Nat) (v:Value) (cs:Array Value) (T:TypeId) (fr:Nat×Nat):setObj o v (.cells cs T fr) = .cells (cs.setIfInBounds o v) T fr:=rfl
theorem heap_set_map {w:World} {b o:Nat} {v:Value}:(w.setCell ⟨b,o,none⟩ v).heap[b]?=(w.heap[b]?).map (setObj o v):=by
 simp only [World.setCell,Array.getElem?_modify]
 cases w.heap[b]? with
 | none=>simp
 | some x=>simp;cases x<;>rfl
theorem heap_new (w:World) (cs:Array Value) (T:TypeId):(w.alloc (.cells cs T)).heap[w.heap.size]?=some (.cells cs T (0,0)):=World.alloc_heap_new w _
def TypeAt (w:World) (b:Nat) (T:TypeId):Prop:=∃ cur fr,w.heap[b]?=some (.cells cur T fr)
def Only (b:Nat) (w w':World):Prop:=∀ g,g≠b→w'.heap[g]?=w.heap[g]?
theorem Only.setCell (w:World) (b o:Nat) (v:Value):Only b w (w.setCell ⟨b,o,none⟩ v):=fun g hg=>Below.heap_setCell w ⟨b,o,none⟩ v g hg
def OwnR {α:Type} (w:World) (lo hi:Nat) (T:TypeId) (n:Nat) (enc:α→List Value) (v:Value) (l:List α):Prop:=OwnE w lo T n enc v l∧∀ b,v.ownBlock=some b→b < hi
theorem OwnE.range {α:Type} {w:World} {lo n:Nat} {T:TypeId} {enc:α→List Value} {v:Value} {l:List α} (h:OwnE w lo T n enc v l):OwnR w lo w.heap.size T n enc v l:=⟨h,fun b hb=>(h.lt b hb).2⟩
theorem OwnR.ext {α:Type} {w w':World} {lo hi n:Nat} {T:TypeId} {enc:α→List Value} {v:Value} {l:List α} (h:OwnR w lo hi T n enc v l) (e:Ext w w'):OwnR w' lo hi T n enc v l:=⟨h.1.ext e,h.2⟩
theorem OwnR.mono {α:Type} {w:World} {lo lo' hi hi' n:Nat} {T:TypeId} {enc:α→List Value} {v:Value} {l:List α} (h:OwnR w lo hi T n enc v l) (h1:lo'≤lo) (h2:hi≤hi'):OwnR w lo' hi' T n enc v l:=⟨h.1.base h1,fun b hb=>Nat.lt_of_lt_of_le (h.2 b hb) h2⟩
theorem OwnR.only {α:Type} {w w':World} {lo hi n b:Nat} {T:TypeId} {enc:α→List Value} {v:Value} {l:List α} (h:OwnR w lo hi T n enc v l) (ho:Only b w w') (hb:hi≤b∨b < lo∨∃ T',TypeAt w b T'∧T'≠T):OwnR w' lo hi T n enc v l:=by
 refine ⟨⟨h.1.1,?_⟩,h.2⟩
 rcases h.1.2 with h2 | ⟨g,cap,cur,h1,h2,h3,h4⟩
 · exact .inl h2
 · refine .inr ⟨g,cap,cur,h1,h2,?_,h4⟩
   rw [ho g ?_];exact h3
   rintro rfl
   rcases hb with hb | hb | ⟨T',⟨cur',fr,hc⟩,hT⟩
   · have:=h.2 g (by rw [h1];rfl)
     omega
   · omega
   · rw [h3] at hc;injection hc with hc;injection hc with _ hc _;exact hT hc.symm
theorem OwnE.row {α:Type} {w:World} {lo n:Nat} {T:TypeId} {enc:α→List Value} {v:Value} {l:List α} (h:OwnE w lo T n enc v l) (hn:∀ x,(enc x).length=n) (hl:0 < l.length) :
 ∃ g cap,v = .slice (some ⟨g,0,none⟩) l.length cap∧lo≤g∧g < w.heap.size∧TypeAt w g T∧(∀ o,w.frozen? ⟨g,o,none⟩=false)∧∀ k x,l[k]?=some x→ElemAt w g (k*n) (enc x):=by
 rcases h.2 with ⟨rfl,h0⟩ | ⟨g,cap,cur,rfl,hb,hg,hc,hm,hs,ht⟩
 · omega
 · refine ⟨g,cap,rfl,hb,(Array.getElem?_eq_some_iff.1 hg).1,⟨_,_,hg⟩,fun o=>by unfold World.frozen?;rw [hg];simp,fun k x hx j v hv=>?_⟩
   have:=flatMap_get hn l k x j v hx hv
   rw [← ht,List.getElem?_take] at this
   split at this
   · rw [cell_of_row w g _ cur T (0,0) hg]
     simpa using this
   · cases this
theorem flatMap_set {n:Nat}:∀ (css:List (Cs n)) (k:Nat) (cs:Cs n) (j:Nat) (u:Value),css[k]?=some cs→j < n→(css.flatMap Subtype.val).set (k*n+j) u=(css.set k ⟨cs.1.set j u,by simp [cs.2]⟩).flatMap Subtype.val
 | [],k,cs,j,u,h,_=>by simp at h
 | y::l,0,cs,j,u,h,hj=>by
  simp only [List.getElem?_cons_zero,Option.some.injEq] at h
  subst h
  rw [List.set_cons_zero,List.flatMap_cons,List.flatMap_cons,Nat.zero_mul,Nat.zero_add,List.set_append_left _ _ (by rw [y.2];exact hj)]
 | y::l,k+1,cs,j,u,h,hj=>by
  have hk:(k+1)*n=k*n+n:=by rw [Nat.add_mul,Nat.one_mul]
  rw [List.set_cons_succ,List.flatMap_cons,List.flatMap_cons,List.set_append_right _ _ (by rw [y.2,hk];omega),y.2,hk,show k*n+n+j - n=k*n+j by omega]
  rw [flatMap_set l k cs j u (by simpa using h) hj]
theorem OwnE.set {w:World} {lo n g cap len:Nat} {T:TypeId} {css:List (Cs n)} (h:OwnE w lo T n Subtype.val (.slice (some ⟨g,0,none⟩) len cap) css) {k:Nat} {cs:Cs n} (hk:css[k]?=some cs) {j:Nat} (hj:j < n) (u:Value) :
 OwnE (w.setCell ⟨g,k*n+j,none⟩ u) lo T n Subtype.val (.slice (some ⟨g,0,none⟩) len cap) (css.set k ⟨cs.1.set j u,by simp [cs.2]⟩):=by
 have hkl:k < css.length:=(List.getElem?_eq_some_iff.1 hk).1
 refine ⟨?_,?_⟩
 · rw [← flatMap_set css k cs j u hk hj,List.length_set,List.length_set];exact h.1
 rcases h.2 with ⟨h0,_⟩ | ⟨g',cap',cur,h1,hb,hg,hc,hm,hs,ht⟩
 · cases h0
 · injection h1 with h1 h1' h1''
   injection h1 with h1
   injection h1 with h1
   subst h1 h1''
   refine .inr ⟨g,cap,cur.setIfInBounds (k*n+j) u,by rw [List.length_set,← h1'],hb,?_,by rw [List.length_set];exact hc,hm,by simpa using hs,?_⟩
   · simp only [World.setCell,Array.getElem?_modify,hg]
     simp
   · rw [List.length_set,← flatMap_set css k cs j u hk hj,← ht,Array.toList_setIfInBounds,List.take_set]
theorem TypeAt.only {w w':World} {b b':Nat} {T:TypeId} (h:TypeAt w b T) (ho:Only b' w w') (hb:b≠b'):TypeAt w' b T:=by
 obtain ⟨cur,fr,h⟩:=h
 exact ⟨cur,fr,by rw [ho b hb];exact h⟩
theorem TypeAt.ext {w w':World} {b:Nat} {T:TypeId} (h:TypeAt w b T) (e:Ext w w'):TypeAt w' b T:=by
 obtain ⟨cur,fr,h⟩:=h
 exact ⟨cur,fr,e.obj h⟩
theorem OwnE.mates {α:Type} {w:World} {lo n:Nat} {T:TypeId} {enc:α→List Value} {v:Value} {css:List (Cs n)} {l:List α} (h:OwnE w lo T n Subtype.val v css) (hm:Mates n (fun cs x=>cs=enc x) css l):OwnE w lo T n enc v l:=by
 have he:css.flatMap Subtype.val=l.flatMap enc:=by
  have:css.map Subtype.val=l.map enc:=by
   apply List.ext_getElem?
   intro i
   rw [List.getElem?_map,List.getElem?_map]
   cases hc:css[i]? with
   | none =>
    have:l[i]?=none:=by rw [List.getElem?_eq_none_iff] at hc ⊢;rw [← hm.1];exact hc
    rw [this];rfl
   | some cs =>
    obtain ⟨x,hx⟩:=getElem?_lt (l:=l) (k:=i) (by rw [← hm.1];exact (List.getElem?_eq_some_iff.1 hc).1)
    rw [hx]
    simp only [Option.map_some,Option.some.injEq]
    exact hm.2 i x cs hx hc
  rw [List.flatMap_def,List.flatMap_def,this]
 unfold OwnE at *
 rw [← he,← hm.1];exact h
section
variable {P:Program} {QP:List PanicEntry→World→Prop} {w:World}
theorem op_append0 {t ty T n m:Nat} {z:Value} {agg:Bool} {k:Value→World→Prop} (ht:P.underlying t=some (.slice T)) (hT:TyInfo P T agg n m z) (B A:Option Addr) (len cap c:Nat) (hc:len≤cap) :
 opV P (Builtin.append_ #[t,t] ty #[.slice B len cap,.slice A 0 c]) QP w k=k (.slice B len cap) w:=by
 obtain ⟨⟨i,hi,hs,hby,hzz⟩,_⟩:=hT
 refine opV_ok ?_
 cases A with
 | none=>cases B<;>simp [Builtin.append_,run_underlying ht,sizeOf,typeInfo,hi,Builtin.lenOf,Builtin.firstCells,hc,storeCells]
 | some a=>cases B<;>simp [Builtin.append_,run_underlying ht,sizeOf,typeInfo,hi,Builtin.lenOf,Builtin.firstCells,hc,storeCells,loadCells,loadCellsFrom]
theorem op_appendE {α:Type} {t ty T n m:Nat} {z:Value} {agg:Bool} {enc:α→List Value} {v:Value} {l l':List α} {base:Nat} {k:Value→World→Prop}
 (ht:P.underlying t=some (.slice T)) (hT:TyInfo P T agg n m z) (hz:z.cells.size=n) (h0:0 < n) (hn:∀ x,(enc x).length=n) (h1:∀ x,x∈l'→∀ u∈enc x,u.oneCell'=true)
 (hown:OwnE w base T n enc v l) {b o c:Nat} (hc:∀ j x,l'[j]?=some x→ElemAt w b (o+j*n) (enc x)) (hbase:base≤w.heap.size) (hm:(l.length+l'.length)*m≤140737488355328) (hb:l.length+l'.length≤140737488355328)
 (hk:∀ v' w',OwnE w' base T n enc v' (l++l')→w.grownBy w' v.ownBlock→k v' w') :
 opV P (Builtin.append_ #[t,t] ty #[v,.slice (some ⟨b,o,none⟩) l'.length c]) QP w k:=by
 obtain ⟨⟨i,hi,hs,hby,hzz⟩,_⟩:=hT
 have hfl:(l'.flatMap enc).length=l'.length*n:=by
  clear hm hb hc h1 hk
  induction l' with
  | nil=>simp
  | cons a l ih=>rw [List.flatMap_cons,List.length_append,hn,ih,List.length_cons,Nat.add_mul];omega
 have hcells:∀ j u,(l'.flatMap enc)[j]?=some u→w.cell? ((⟨b,o,none⟩:Addr).add j)=some u:=by
  intro j u hu
  have hj:j < l'.length*n:=by have:=(List.getElem?_eq_some_iff.1 hu).1;rwa [hfl] at this
  have hq:j / n < l'.length:=Nat.div_lt_of_lt_mul (by rw [Nat.mul_comm];exact hj)
  obtain ⟨x,hx⟩:=getElem?_lt hq
  have hjn:j % n < (enc x).length:=by rw [hn];exact Nat.mod_lt _ h0
  have hdm:j / n*n+j % n=j:=by rw [Nat.mul_comm];exact Nat.div_add_mod j n
  have hg:=flatMap_get hn l' (j / n) x (j % n) _ hx (List.getElem?_eq_getElem hjn)
  rw [hdm,hu] at hg
  injection hg with hg
  rw [Addr.add_lit]
  have:=hc _ _ hx (j % n) _ (List.getElem?_eq_getElem hjn)
  rw [hg,← this]
  congr 2;omega
 obtain ⟨v',w',hr,ho,hg,_⟩:=run_append_own (P:=P) w base t ty T i z n m ht hi hzz hs hby hz h0 v l.length (l.flatMap enc) hown ⟨b,o,none⟩ l'.length c (l'.flatMap enc) hfl hcells
  (by intro u hu;obtain ⟨x,hx,hux⟩:=List.mem_flatMap.1 hu;exact h1 x hx u hux) (by simp only [maxLen];omega) hm hbase
 rw [opV_ok hr]
 refine hk v' w' ?_ hg
 unfold OwnE
 rw [List.flatMap_append,List.length_append];exact ho
end
end Go.Sw
namespace Go.Proofs.YtfdecdnmooaegaaGreatDoor
open Sw
noncomputable abbrev Pg:=Tryz.prog
def isAggD (d:TypeDesc):Bool:=match d with | .struct _ | .array _ _=>true | _=>false
theorem ty_mk {P:Program} {T:TypeId} {agg:Bool} {n:Nat} {z:Value} {d:TypeDesc} (h:(P.info? T).map (fun i=>(i.size,i.zero))=some (n,some z)) (hu:P.underlying T=some d) (ha:isAggD d=agg):TyInfo P T agg n (P.bytesOf T) z:=by
 obtain ⟨i,hi,he⟩:=Option.map_eq_some_iff.1 h
 simp only [Prod.mk.injEq] at he
 exact ⟨⟨i,hi,he.1,by simp [Program.bytesOf,hi],he.2⟩,d,hu,ha⟩
theorem ty3:TyInfo Pg 3 false 1 (Pg.bytesOf 3) (.int .i64 0):=ty_mk (by kernel_rfl) Tryz.underlying3 rfl
theorem ty4:TyInfo Pg 4 false 1 (Pg.bytesOf 4) (.bool false):=ty_mk (by kernel_rfl) Tryz.underlying4 rfl
theorem ty5:TyInfo Pg 5 false 1 (Pg.bytesOf 5) (.int .u8 0):=ty_mk (by kernel_rfl) Tryz.underlying5 rfl
theorem ty9:TyInfo Pg 9 false 1 (Pg.bytesOf 9) (.string ByteArray.empty):=ty_mk (by kernel_rfl) Tryz.underlying9 rfl
theorem by9:Pg.bytesOf 9≤4096:=Nat.le_of_ble_eq_true (by kernel_rfl)
theorem ty22:TyInfo Pg 22 false 1 (Pg.bytesOf 22) (.slice none 0 0):=ty_mk (by kernel_rfl) Tryz.underlying22 rfl
theorem ty24:TyInfo Pg 24 true 3 (Pg.bytesOf 24) (.agg #[.string ByteArray.empty,.slice none 0 0,.string ByteArray.empty]):=ty_mk (by kernel_rfl) Tryz.underlying24 rfl
theorem ty26:TyInfo Pg 26 false 1 (Pg.bytesOf 26) (.nilFunc):=ty_mk (by kernel_rfl) Tryz.underlying26 rfl
theorem ty27:TyInfo Pg 27 false 1 (Pg.bytesOf 27) (.pointer none):=ty_mk (by kernel_rfl) Tryz.underlying27 rfl
theorem ty32:TyInfo Pg 32 false 1 (Pg.bytesOf 32) (.slice none 0 0):=ty_mk (by kernel_rfl) Tryz.underlying32 rfl
theorem ty34:TyInfo Pg 34 false 1 (Pg.bytesOf 34) (.int .i64 0):=ty_mk (by kernel_rfl) Tryz.underlying34 rfl
theorem ty36:TyInfo Pg 36 true 6 (Pg.bytesOf 36) (.agg #[.int .i64 0,.int .i64 0,.int .i64 0,.int .i64 0,.int .i64 0,.int .i64 0]):=ty_mk (by kernel_rfl) Tryz.underlying36 rfl
theorem by36:Pg.bytesOf 36≤4096:=Nat.le_of_ble_eq_true (by kernel_rfl)
theorem ty37:TyInfo Pg 37 false 1 (Pg.bytesOf 37) (.int .i64 0):=ty_mk (by kernel_rfl) Tryz.underlying37 rfl
theorem ty51:TyInfo Pg 51 false 1 (Pg.bytesOf 51) (.slice none 0 0):=ty_mk (by kernel_rfl) Tryz.underlying51 rfl
theorem ty53:TyInfo Pg 53 true 2 (Pg.bytesOf 53) (.agg #[.string ByteArray.empty,.slice none 0 0]):=ty_mk (by kernel_rfl) Tryz.underlying53 rfl
theorem by53:Pg.bytesOf 53≤4096:=Nat.le_of_ble_eq_true (by kernel_rfl)
theorem ty58:TyInfo Pg 58 true 3 (Pg.bytesOf 58) (.agg #[.string ByteArray.empty,.slice none 0 0,.string ByteArray.empty]):=ty_mk (by kernel_rfl) Tryz.underlying58 rfl
theorem ty59:TyInfo Pg 59 false 1 (Pg.bytesOf 59) (.map none):=ty_mk (by kernel_rfl) Tryz.underlying59 rfl
theorem ty61:TyInfo Pg 61 true 6 (Pg.bytesOf 61) (.agg #[.string ByteArray.empty,.slice none 0 0,.string ByteArray.empty,.slice none 0 0,.map none,.map none]):=ty_mk (by kernel_rfl) Tryz.underlying61 rfl
theorem ty65:TyInfo Pg 65 false 1 (Pg.bytesOf 65) (.int .i64 0):=ty_mk (by kernel_rfl) Tryz.underlying65 rfl
theorem ty66:TyInfo Pg 66 false 1 (Pg.bytesOf 66) (.slice none 0 0):=ty_mk (by kernel_rfl) Tryz.underlying66 rfl
theorem ty68:TyInfo Pg 68 true 2 (Pg.bytesOf 68) (.agg #[.int .i64 0,.slice none 0 0]):=ty_mk (by kernel_rfl) Tryz.underlying68 rfl
theorem ty69:TyInfo Pg 69 false 1 (Pg.bytesOf 69) (.slice none 0 0):=ty_mk (by kernel_rfl) Tryz.underlying69 rfl
theorem ty71:TyInfo Pg 71 true 15 (Pg.bytesOf 71) (.agg #[.string ByteArray.empty,.int .i64 0,.int .i64 0,.bool false,.bool false,.int .i64 0,.int .i64 0,.int .i64 0,.slice none 0 0,.string ByteArray.empty,.string ByteArray.empty,.string ByteArray.empty,.slice none 0 0,.int .i64 0,.int .i64 0]):=ty_mk (by kernel_rfl) Tryz.underlying71 rfl
theorem by71:Pg.bytesOf 71≤4096:=Nat.le_of_ble_eq_true (by kernel_rfl)
theorem ty80:TyInfo Pg 80 false 1 (Pg.bytesOf 80) (.slice none 0 0):=ty_mk (by kernel_rfl) Tryz.underlying80 rfl
theorem ty85:TyInfo Pg 85 true 3 (Pg.bytesOf 85) (.agg #[.int .i64 0,.int .i64 0,.string ByteArray.empty]):=ty_mk (by kernel_rfl) Tryz.underlying85 rfl
theorem by85:Pg.bytesOf 85≤4096:=Nat.le_of_ble_eq_true (by kernel_rfl)
theorem ty90:TyInfo Pg 90 false 1 (Pg.bytesOf 90) (.int .i64 0):=ty_mk (by kernel_rfl) Tryz.underlying90 rfl
theorem ty92:TyInfo Pg 92 true 3 (Pg.bytesOf 92) (.agg #[.int .i64 0,.int .i64 0,.int .i64 0]):=ty_mk (by kernel_rfl) Tryz.underlying92 rfl
theorem ty96:TyInfo Pg 96 true 2 (Pg.bytesOf 96) (.agg #[.pointer none,.int .i64 0]):=ty_mk (by kernel_rfl) Tryz.underlying96 rfl
theorem ty99:TyInfo Pg 99 false 1 (Pg.bytesOf 99) (.map none):=ty_mk (by kernel_rfl) Tryz.underlying99 rfl
theorem ty102:TyInfo Pg 102 false 1 (Pg.bytesOf 102) (.nilFunc):=ty_mk (by kernel_rfl) Tryz.underlying102 rfl
theorem ty113:TyInfo Pg 113 true 2 (Pg.bytesOf 113) (.agg #[.string ByteArray.empty,.int .i64 0]):=ty_mk (by kernel_rfl) Tryz.underlying113 rfl
theorem by113:Pg.bytesOf 113≤4096:=Nat.le_of_ble_eq_true (by kernel_rfl)
theorem ty124:TyInfo Pg 124 true 11 (Pg.bytesOf 124) (.agg #[.string ByteArray.empty,.string ByteArray.empty,.string ByteArray.empty,.string ByteArray.empty,.string ByteArray.empty,.string ByteArray.empty,.string ByteArray.empty,.string ByteArray.empty,.string ByteArray.empty,.string ByteArray.empty,.string ByteArray.empty]):=ty_mk (by kernel_rfl) Tryz.underlying124 rfl
theorem ty140:TyInfo Pg 140 false 1 (Pg.bytesOf 140) (.nilFunc):=ty_mk (by kernel_rfl) Tryz.underlying140 rfl
theorem ty145:TyInfo Pg 145 true 13 (Pg.bytesOf 145) (.agg #[.string ByteArray.empty,.string ByteArray.empty,.string ByteArray.empty,.string ByteArray.empty,.int .i64 0,.int .i64 0,.int .i64 0,.int .i64 0,.int .i64 0,.int .i64 0,.int .i64 0,.bool false,.bool false]):=ty_mk (by kernel_rfl) Tryz.underlying145 rfl
theorem ty151:TyInfo Pg 151 false 1 (Pg.bytesOf 151) (.pointer none):=ty_mk (by kernel_rfl) Tryz.underlying151 rfl
theorem ty155:TyInfo Pg 155 false 1 (Pg.bytesOf 155) (.nilFunc):=ty_mk (by kernel_rfl) Tryz.underlying155 rfl
theorem ty161:TyInfo Pg 161 true 2 (Pg.bytesOf 161) (.agg #[.nilFunc,.nilFunc]):=ty_mk (by kernel_rfl) Tryz.underlying161 rfl
theorem ty175:TyInfo Pg 175 true 9 (Pg.bytesOf 175) (.agg #[.string ByteArray.empty,.slice none 0 0,.string ByteArray.empty,.map none,.map none,.int .i64 0,.int .i64 0,.string ByteArray.empty,.slice none 0 0]):=ty_mk (by kernel_rfl) Tryz.underlying175 rfl
theorem ty205:TyInfo Pg 205 false 1 (Pg.bytesOf 205) (.nilFunc):=ty_mk (by kernel_rfl) Tryz.underlying205 rfl
theorem ty206:TyInfo Pg 206 false 1 (Pg.bytesOf 206) (.nilFunc):=ty_mk (by kernel_rfl) Tryz.underlying206 rfl
theorem ty208:TyInfo Pg 208 true 2 (Pg.bytesOf 208) (.agg #[.nilFunc,.nilFunc]):=ty_mk (by kernel_rfl) Tryz.underlying208 rfl
theorem ty219:TyInfo Pg 219 false 1 (Pg.bytesOf 219) (.map none):=ty_mk (by kernel_rfl) Tryz.underlying219 rfl
theorem ty223:TyInfo Pg 223 true 2 (Pg.bytesOf 223) (.agg #[.int .i64 0,.int .i64 0]):=ty_mk (by kernel_rfl) Tryz.underlying223 rfl
theorem ty228:TyInfo Pg 228 false 1 (Pg.bytesOf 228) (.nilFunc):=ty_mk (by kernel_rfl) Tryz.underlying228 rfl
theorem eq36 {w:World} (a0 b0:Int) (a1 b1:Int) (a2 b2:Int) (a3 b3:Int) (a4 b4:Int) (a5 b5:Int):(Op.equalIn (9999+1) 36 (.agg #[.int .i64 a0,.int .i64 a1,.int .i64 a2,.int .i64 a3,.int .i64 a4,.int .i64 a5]) (.agg #[.int .i64 b0,.int .i64 b1,.int .i64 b2,.int .i64 b3,.int .i64 b4,.int .i64 b5])).run Pg w = .ok (decide (a0=b0)&&(decide (a1=b1)&&(decide (a2=b2)&&(decide (a3=b3)&&(decide (a4=b4)&&(decide (a5=b5)&&true)))))) w :=
 equalIn_struct Tryz.underlying36 (by kernel_rfl) (eqFields_step rfl (part1 ty34 rfl) (part1 ty34 rfl) (eqInt Tryz.underlying34) (eqFields_step rfl (part1 ty3 rfl) (part1 ty3 rfl) (eqInt Tryz.underlying3) (eqFields_step rfl (part1 ty3 rfl) (part1 ty3 rfl) (eqInt Tryz.underlying3) (eqFields_step rfl (part1 ty3 rfl) (part1 ty3 rfl) (eqInt Tryz.underlying3) (eqFields_step rfl (part1 ty3 rfl) (part1 ty3 rfl) (eqInt Tryz.underlying3) (eqFields_step rfl (part1 ty3 rfl) (part1 ty3 rfl) (eqInt Tryz.underlying3) eqFields_nil))))))
theorem eq85 {w:World} (a0 b0:Int) (a1 b1:Int) (a2 b2:ByteArray):(Op.equalIn (9999+1) 85 (.agg #[.int .i64 a0,.int .i64 a1,.string a2]) (.agg #[.int .i64 b0,.int .i64 b1,.string b2])).run Pg w = .ok (decide (a0=b0)&&(decide (a1=b1)&&(decide (a2=b2)&&true))) w :=
 equalIn_struct Tryz.underlying85 (by kernel_rfl) (eqFields_step rfl (part1 ty3 rfl) (part1 ty3 rfl) (eqInt Tryz.underlying3) (eqFields_step rfl (part1 ty3 rfl) (part1 ty3 rfl) (eqInt Tryz.underlying3) (eqFields_step rfl (part1 ty9 rfl) (part1 ty9 rfl) (eqString Tryz.underlying9) eqFields_nil)))
theorem eq113 {w:World} (a0 b0:ByteArray) (a1 b1:Int):(Op.equalIn (9999+1) 113 (.agg #[.string a0,.int .i64 a1]) (.agg #[.string b0,.int .i64 b1])).run Pg w = .ok (decide (a0=b0)&&(decide (a1=b1)&&true)) w :=
 equalIn_struct Tryz.underlying113 (by kernel_rfl) (eqFields_step rfl (part1 ty9 rfl) (part1 ty9 rfl) (eqString Tryz.underlying9) (eqFields_step rfl (part1 ty3 rfl) (part1 ty3 rfl) (eqInt Tryz.underlying3) eqFields_nil))
theorem eq145 {w:World} (a0 b0:ByteArray) (a1 b1:ByteArray) (a2 b2:ByteArray) (a3 b3:ByteArray) (a4 b4:Int) (a5 b5:Int) (a6 b6:Int) (a7 b7:Int) (a8 b8:Int) (a9 b9:Int) (a10 b10:Int) (a11 b11:Bool) (a12 b12:Bool):(Op.equalIn (9999+1) 145 (.agg #[.string a0,.string a1,.string a2,.string a3,.int .i64 a4,.int .i64 a5,.int .i64 a6,.int .i64 a7,.int .i64 a8,.int .i64 a9,.int .i64 a10,.bool a11,.bool a12]) (.agg #[.string b0,.string b1,.string b2,.string b3,.int .i64 b4,.int .i64 b5,.int .i64 b6,.int .i64 b7,.int .i64 b8,.int .i64 b9,.int .i64 b10,.bool b11,.bool b12])).run Pg w = .ok (decide (a0=b0)&&(decide (a1=b1)&&(decide (a2=b2)&&(decide (a3=b3)&&(decide (a4=b4)&&(decide (a5=b5)&&(decide (a6=b6)&&(decide (a7=b7)&&(decide (a8=b8)&&(decide (a9=b9)&&(decide (a10=b10)&&(decide (a11=b11)&&(decide (a12=b12)&&true))))))))))))) w :=
 equalIn_struct Tryz.underlying145 (by kernel_rfl) (eqFields_step rfl (part1 ty9 rfl) (part1 ty9 rfl) (eqString Tryz.underlying9) (eqFields_step rfl (part1 ty9 rfl) (part1 ty9 rfl) (eqString Tryz.underlying9) (eqFields_step rfl (part1 ty9 rfl) (part1 ty9 rfl) (eqString Tryz.underlying9) (eqFields_step rfl (part1 ty9 rfl) (part1 ty9 rfl) (eqString Tryz.underlying9) (eqFields_step rfl (part1 ty65 rfl) (part1 ty65 rfl) (eqInt Tryz.underlying65) (eqFields_step rfl (part1 ty3 rfl) (part1 ty3 rfl) (eqInt Tryz.underlying3) (eqFields_step rfl (part1 ty3 rfl) (part1 ty3 rfl) (eqInt Tryz.underlying3) (eqFields_step rfl (part1 ty3 rfl) (part1 ty3 rfl) (eqInt Tryz.underlying3) (eqFields_step rfl (part1 ty3 rfl) (part1 ty3 rfl) (eqInt Tryz.underlying3) (eqFields_step rfl (part1 ty3 rfl) (part1 ty3 rfl) (eqInt Tryz.underlying3) (eqFields_step rfl (part1 ty3 rfl) (part1 ty3 rfl) (eqInt Tryz.underlying3) (eqFields_step rfl (part1 ty4 rfl) (part1 ty4 rfl) (eqBool Tryz.underlying4) (eqFields_step rfl (part1 ty4 rfl) (part1 ty4 rfl) (eqBool Tryz.underlying4) eqFields_nil)))))))))))))
section
variable {QP:List PanicEntry→World→Prop} {w:World} {k:Value→World→Prop}
def o0:=op_loadC (QP:=QP) (w:=w) (k:=k) ty3
theorem o1:(∀ u,opV Pg (Instr.alloc 3 true u) QP w k=k (.pointer (some ⟨w.heap.size,0,none⟩)) (w.alloc (.cells ((.int .i64 0):Value).cells 3))):=(op_alloc ty3)
def o2:=op_loadC (QP:=QP) (w:=w) (k:=k) ty4
theorem o3:(∀ c a b,opV Pg (binS .eql 4 c (.bool a) (.bool b)) QP w k=k (.bool (a == b)) w):=(op_beql Tryz.underlying4)
theorem o4:(∀ c a b,opV Pg (binS .neq 4 c (.bool a) (.bool b)) QP w k=k (.bool (a != b)) w):=(op_bneq Tryz.underlying4)
theorem o5:(∀ u,opV Pg (Instr.alloc 4 true u) QP w k=k (.pointer (some ⟨w.heap.size,0,none⟩)) (w.alloc (.cells ((.bool false):Value).cells 4))):=(op_alloc ty4)
def o6:=op_loadC (QP:=QP) (w:=w) (k:=k) ty5
def o7:=op_loadC (QP:=QP) (w:=w) (k:=k) ty9
theorem o8:(∀ r s,opV Pg (Builtin.len_ #[9] r #[.string s]) QP w k=k (.int .i64 (s.size:Int)) w):=(fun r=>op_len_string (r:=r) Tryz.underlying9)
def o9:=op_loadC (QP:=QP) (w:=w) (k:=k) ty22
theorem o10:(∀ r a n c,opV Pg (Builtin.len_ #[22] r #[.slice a n c]) QP w k=k (.int .i64 (n:Int)) w):=(fun r=>op_len_slice (r:=r) Tryz.underlying22)
theorem o11:(∀ b o len cap ik (i:Nat),i < len→opV Pg (Instr.indexAt 22 (.slice (some ⟨b,o,none⟩) len cap) (.int ik (i:Int))) QP w k=k (.pointer (some ⟨b,o+i*2,none⟩)) w):=(op_indexN Tryz.underlying22 ty53)
def o12:=op_field0 (QP:=QP) (w:=w) (k:=k) (i:=0) (ft:=9) (n:=1) Tryz.underlying24 rfl ty9 rfl
def o13:=op_fieldO (QP:=QP) (w:=w) (k:=k) (i:=1) (ft:=22) (off:=1) (n:=1) Tryz.underlying24 rfl ty22 rfl
def o14:=op_fieldO (QP:=QP) (w:=w) (k:=k) (i:=2) (ft:=9) (off:=2) (n:=1) Tryz.underlying24 rfl ty9 rfl
theorem o15:(∀ v0 v1 v2,opV Pg (Instr.field 24 (.agg #[v0,v1,v2]) 1) QP w k=k v1 w):=(by intro v0 v1 v2;exact op_fieldV1 Tryz.underlying24 rfl ty22 rfl)
theorem o16:(∀ b o,opV Pg (Instr.loadAt 24 (.pointer (some ⟨b,o,none⟩))) QP w k=onCells [w.cell? ⟨b,o,none⟩,w.cell? ⟨b,o+1,none⟩,w.cell? ⟨b,o+2,none⟩] (fun vs=>k (.agg vs.toArray) w) (opVx Pg (Instr.loadAt 24 (.pointer (some ⟨b,o,none⟩))) QP w k)):=(by intro b o;exact op_loadA ty24 b o _ rfl)
theorem o17:(∀ u,opV Pg (Instr.alloc 24 true u) QP w k=k (.pointer (some ⟨w.heap.size,0,none⟩)) (w.alloc (.cells ((.agg #[.string ByteArray.empty,.slice none 0 0,.string ByteArray.empty]):Value).cells 24))):=(op_alloc ty24)
def o18:=op_loadC (QP:=QP) (w:=w) (k:=k) ty26
def o19:=op_loadC (QP:=QP) (w:=w) (k:=k) ty27
def o20:=op_loadC (QP:=QP) (w:=w) (k:=k) ty32
theorem o21:(∀ r a n c,opV Pg (Builtin.len_ #[32] r #[.slice a n c]) QP w k=k (.int .i64 (n:Int)) w):=(fun r=>op_len_slice (r:=r) Tryz.underlying32)
theorem o22:(∀ b o len cap ik (i:Nat),i < len→opV Pg (Instr.indexAt 32 (.slice (some ⟨b,o,none⟩) len cap) (.int ik (i:Int))) QP w k=k (.pointer (some ⟨b,o+i*6,none⟩)) w):=(op_indexN Tryz.underlying32 ty36)
theorem o23:(∀ u,opV Pg (Instr.alloc 32 true u) QP w k=k (.pointer (some ⟨w.heap.size,0,none⟩)) (w.alloc (.cells ((.slice none 0 0):Value).cells 32))):=(op_alloc ty32)
def o24:=op_loadC (QP:=QP) (w:=w) (k:=k) ty34
def o25:=op_field0 (QP:=QP) (w:=w) (k:=k) (i:=0) (ft:=34) (n:=1) Tryz.underlying36 rfl ty34 rfl
def o26:=op_fieldO (QP:=QP) (w:=w) (k:=k) (i:=1) (ft:=3) (off:=1) (n:=1) Tryz.underlying36 rfl ty3 rfl
def o27:=op_fieldO (QP:=QP) (w:=w) (k:=k) (i:=2) (ft:=3) (off:=2) (n:=1) Tryz.underlying36 rfl ty3 rfl
def o28:=op_fieldO (QP:=QP) (w:=w) (k:=k) (i:=3) (ft:=3) (off:=3) (n:=1) Tryz.underlying36 rfl ty3 rfl
def o29:=op_fieldO (QP:=QP) (w:=w) (k:=k) (i:=4) (ft:=3) (off:=4) (n:=1) Tryz.underlying36 rfl ty3 rfl
def o30:=op_fieldO (QP:=QP) (w:=w) (k:=k) (i:=5) (ft:=3) (off:=5) (n:=1) Tryz.underlying36 rfl ty3 rfl
theorem o31:(∀ b o,opV Pg (Instr.loadAt 36 (.pointer (some ⟨b,o,none⟩))) QP w k=onCells [w.cell? ⟨b,o,none⟩,w.cell? ⟨b,o+1,none⟩,w.cell? ⟨b,o+2,none⟩,w.cell? ⟨b,o+3,none⟩,w.cell? ⟨b,o+4,none⟩,w.cell? ⟨b,o+5,none⟩] (fun vs=>k (.agg vs.toArray) w) (opVx Pg (Instr.loadAt 36 (.pointer (some ⟨b,o,none⟩))) QP w k)):=(by intro b o;exact op_loadA ty36 b o _ rfl)
theorem o32:(∀ u,opV Pg (Instr.alloc 36 true u) QP w k=k (.pointer (some ⟨w.heap.size,0,none⟩)) (w.alloc (.cells ((.agg #[.int .i64 0,.int .i64 0,.int .i64 0,.int .i64 0,.int .i64 0,.int .i64 0]):Value).cells 36))):=(op_alloc ty36)
theorem o33:(∀ u,opV Pg (Instr.alloc 37 true u) QP w k=k (.pointer (some ⟨w.heap.size,0,none⟩)) (w.alloc (.cells ((.int .i64 0):Value).cells 37))):=(op_alloc ty37)
def o34:=op_loadC (QP:=QP) (w:=w) (k:=k) ty51
theorem o35:(∀ r a n c,opV Pg (Builtin.len_ #[51] r #[.slice a n c]) QP w k=k (.int .i64 (n:Int)) w):=(fun r=>op_len_slice (r:=r) Tryz.underlying51)
theorem o36:(∀ b o len cap ik (i:Nat),i < len→opV Pg (Instr.indexAt 51 (.slice (some ⟨b,o,none⟩) len cap) (.int ik (i:Int))) QP w k=k (.pointer (some ⟨b,o+i*15,none⟩)) w):=(op_indexN Tryz.underlying51 ty71)
def o37:=op_field0 (QP:=QP) (w:=w) (k:=k) (i:=0) (ft:=9) (n:=1) Tryz.underlying53 rfl ty9 rfl
def o38:=op_fieldO (QP:=QP) (w:=w) (k:=k) (i:=1) (ft:=51) (off:=1) (n:=1) Tryz.underlying53 rfl ty51 rfl
theorem o39:(∀ b o,opV Pg (Instr.loadAt 53 (.pointer (some ⟨b,o,none⟩))) QP w k=onCells [w.cell? ⟨b,o,none⟩,w.cell? ⟨b,o+1,none⟩] (fun vs=>k (.agg vs.toArray) w) (opVx Pg (Instr.loadAt 53 (.pointer (some ⟨b,o,none⟩))) QP w k)):=(by intro b o;exact op_loadA ty53 b o _ rfl)
theorem o40:(∀ u,opV Pg (Instr.alloc 53 true u) QP w k=k (.pointer (some ⟨w.heap.size,0,none⟩)) (w.alloc (.cells ((.agg #[.string ByteArray.empty,.slice none 0 0]):Value).cells 53))):=(op_alloc ty53)
def o41:=op_field0 (QP:=QP) (w:=w) (k:=k) (i:=0) (ft:=24) (n:=3) Tryz.underlying58 rfl ty24 rfl
def o42:=op_loadC (QP:=QP) (w:=w) (k:=k) ty59
def o43:=op_field0 (QP:=QP) (w:=w) (k:=k) (i:=0) (ft:=58) (n:=3) Tryz.underlying61 rfl ty58 rfl
def o44:=op_fieldO (QP:=QP) (w:=w) (k:=k) (i:=1) (ft:=32) (off:=3) (n:=1) Tryz.underlying61 rfl ty32 rfl
def o45:=op_fieldO (QP:=QP) (w:=w) (k:=k) (i:=2) (ft:=59) (off:=4) (n:=1) Tryz.underlying61 rfl ty59 rfl
def o46:=op_fieldO (QP:=QP) (w:=w) (k:=k) (i:=3) (ft:=59) (off:=5) (n:=1) Tryz.underlying61 rfl ty59 rfl
def o47:=op_loadC (QP:=QP) (w:=w) (k:=k) ty65
def o48:=op_loadC (QP:=QP) (w:=w) (k:=k) ty66
theorem o49:(∀ r a n c,opV Pg (Builtin.len_ #[66] r #[.slice a n c]) QP w k=k (.int .i64 (n:Int)) w):=(fun r=>op_len_slice (r:=r) Tryz.underlying66)
theorem o50:(∀ b o len cap ik (i:Nat),i < len→opV Pg (Instr.indexAt 66 (.slice (some ⟨b,o,none⟩) len cap) (.int ik (i:Int))) QP w k=k (.pointer (some ⟨b,o+i*2,none⟩)) w):=(op_indexN Tryz.underlying66 ty113)
theorem o51:(∀ u,opV Pg (Instr.alloc 66 true u) QP w k=k (.pointer (some ⟨w.heap.size,0,none⟩)) (w.alloc (.cells ((.slice none 0 0):Value).cells 66))):=(op_alloc ty66)
def o52:=op_field0 (QP:=QP) (w:=w) (k:=k) (i:=0) (ft:=3) (n:=1) Tryz.underlying68 rfl ty3 rfl
def o53:=op_fieldO (QP:=QP) (w:=w) (k:=k) (i:=1) (ft:=66) (off:=1) (n:=1) Tryz.underlying68 rfl ty66 rfl
theorem o54:(∀ b o,opV Pg (Instr.loadAt 68 (.pointer (some ⟨b,o,none⟩))) QP w k=onCells [w.cell? ⟨b,o,none⟩,w.cell? ⟨b,o+1,none⟩] (fun vs=>k (.agg vs.toArray) w) (opVx Pg (Instr.loadAt 68 (.pointer (some ⟨b,o,none⟩))) QP w k)):=(by intro b o;exact op_loadA ty68 b o _ rfl)
def o55:=op_loadC (QP:=QP) (w:=w) (k:=k) ty69
theorem o56:(∀ r a n c,opV Pg (Builtin.len_ #[69] r #[.slice a n c]) QP w k=k (.int .i64 (n:Int)) w):=(fun r=>op_len_slice (r:=r) Tryz.underlying69)
theorem o57:(∀ b o len cap ik (i:Nat),i < len→opV Pg (Instr.indexAt 69 (.slice (some ⟨b,o,none⟩) len cap) (.int ik (i:Int))) QP w k=k (.pointer (some ⟨b,o+i*3,none⟩)) w):=(op_indexN Tryz.underlying69 ty85)
def o58:=op_field0 (QP:=QP) (w:=w) (k:=k) (i:=0) (ft:=9) (n:=1) Tryz.underlying71 rfl ty9 rfl
def o59:=op_fieldO (QP:=QP) (w:=w) (k:=k) (i:=1) (ft:=65) (off:=1) (n:=1) Tryz.underlying71 rfl ty65 rfl
def o60:=op_fieldO (QP:=QP) (w:=w) (k:=k) (i:=2) (ft:=3) (off:=2) (n:=1) Tryz.underlying71 rfl ty3 rfl
def o61:=op_fieldO (QP:=QP) (w:=w) (k:=k) (i:=3) (ft:=4) (off:=3) (n:=1) Tryz.underlying71 rfl ty4 rfl
def o62:=op_fieldO (QP:=QP) (w:=w) (k:=k) (i:=4) (ft:=4) (off:=4) (n:=1) Tryz.underlying71 rfl ty4 rfl
def o63:=op_fieldO (QP:=QP) (w:=w) (k:=k) (i:=5) (ft:=3) (off:=5) (n:=1) Tryz.underlying71 rfl ty3 rfl
def o64:=op_fieldO (QP:=QP) (w:=w) (k:=k) (i:=6) (ft:=3) (off:=6) (n:=1) Tryz.underlying71 rfl ty3 rfl
def o65:=op_fieldO (QP:=QP) (w:=w) (k:=k) (i:=7) (ft:=68) (off:=7) (n:=2) Tryz.underlying71 rfl ty68 rfl
def o66:=op_fieldO (QP:=QP) (w:=w) (k:=k) (i:=8) (ft:=9) (off:=9) (n:=1) Tryz.underlying71 rfl ty9 rfl
def o67:=op_fieldO (QP:=QP) (w:=w) (k:=k) (i:=9) (ft:=9) (off:=10) (n:=1) Tryz.underlying71 rfl ty9 rfl
def o68:=op_fieldO (QP:=QP) (w:=w) (k:=k) (i:=10) (ft:=9) (off:=11) (n:=1) Tryz.underlying71 rfl ty9 rfl
def o69:=op_fieldO (QP:=QP) (w:=w) (k:=k) (i:=11) (ft:=69) (off:=12) (n:=1) Tryz.underlying71 rfl ty69 rfl
def o70:=op_fieldO (QP:=QP) (w:=w) (k:=k) (i:=12) (ft:=3) (off:=13) (n:=1) Tryz.underlying71 rfl ty3 rfl
def o71:=op_fieldO (QP:=QP) (w:=w) (k:=k) (i:=13) (ft:=3) (off:=14) (n:=1) Tryz.underlying71 rfl ty3 rfl
theorem o72:(∀ b o,opV Pg (Instr.loadAt 71 (.pointer (some ⟨b,o,none⟩))) QP w k=onCells [w.cell? ⟨b,o,none⟩,w.cell? ⟨b,o+1,none⟩,w.cell? ⟨b,o+2,none⟩,w.cell? ⟨b,o+3,none⟩,w.cell? ⟨b,o+4,none⟩,w.cell? ⟨b,o+5,none⟩,w.cell? ⟨b,o+6,none⟩,w.cell? ⟨b,o+7,none⟩,w.cell? ⟨b,o+8,none⟩,w.cell? ⟨b,o+9,none⟩,w.cell? ⟨b,o+10,none⟩,w.cell? ⟨b,o+11,none⟩,w.cell? ⟨b,o+12,none⟩,w.cell? ⟨b,o+13,none⟩,w.cell? ⟨b,o+14,none⟩] (fun vs=>k (.agg vs.toArray) w) (opVx Pg (Instr.loadAt 71 (.pointer (some ⟨b,o,none⟩))) QP w k)):=(by intro b o;exact op_loadA ty71 b o _ rfl)
theorem o73:(∀ u,opV Pg (Instr.alloc 71 true u) QP w k=k (.pointer (some ⟨w.heap.size,0,none⟩)) (w.alloc (.cells ((.agg #[.string ByteArray.empty,.int .i64 0,.int .i64 0,.bool false,.bool false,.int .i64 0,.int .i64 0,.int .i64 0,.slice none 0 0,.string ByteArray.empty,.string ByteArray.empty,.string ByteArray.empty,.slice none 0 0,.int .i64 0,.int .i64 0]):Value).cells 71))):=(op_alloc ty71)
theorem o74:(∀ r a n c,opV Pg (Builtin.len_ #[75] r #[.slice a n c]) QP w k=k (.int .i64 (n:Int)) w):=(fun r=>op_len_slice (r:=r) Tryz.underlying75)
theorem o75:(∀ b o len cap ik (i:Nat),i < len→opV Pg (Instr.indexAt 75 (.slice (some ⟨b,o,none⟩) len cap) (.int ik (i:Int))) QP w k=k (.pointer (some ⟨b,o+i*1,none⟩)) w):=(op_indexN Tryz.underlying75 ty4)
def o76:=op_loadC (QP:=QP) (w:=w) (k:=k) ty80
theorem o77:(∀ r a n c,opV Pg (Builtin.len_ #[80] r #[.slice a n c]) QP w k=k (.int .i64 (n:Int)) w):=(fun r=>op_len_slice (r:=r) Tryz.underlying80)
theorem o78:(∀ b o len cap ik (i:Nat),i < len→opV Pg (Instr.indexAt 80 (.slice (some ⟨b,o,none⟩) len cap) (.int ik (i:Int))) QP w k=k (.pointer (some ⟨b,o+i*1,none⟩)) w):=(op_indexN Tryz.underlying80 ty9)
theorem o79:(∀ u,opV Pg (Instr.alloc 80 true u) QP w k=k (.pointer (some ⟨w.heap.size,0,none⟩)) (w.alloc (.cells ((.slice none 0 0):Value).cells 80))):=(op_alloc ty80)
def o80:=op_field0 (QP:=QP) (w:=w) (k:=k) (i:=0) (ft:=3) (n:=1) Tryz.underlying85 rfl ty3 rfl
def o81:=op_fieldO (QP:=QP) (w:=w) (k:=k) (i:=1) (ft:=3) (off:=1) (n:=1) Tryz.underlying85 rfl ty3 rfl
def o82:=op_fieldO (QP:=QP) (w:=w) (k:=k) (i:=2) (ft:=9) (off:=2) (n:=1) Tryz.underlying85 rfl ty9 rfl
theorem o83:(∀ b o,opV Pg (Instr.loadAt 85 (.pointer (some ⟨b,o,none⟩))) QP w k=onCells [w.cell? ⟨b,o,none⟩,w.cell? ⟨b,o+1,none⟩,w.cell? ⟨b,o+2,none⟩] (fun vs=>k (.agg vs.toArray) w) (opVx Pg (Instr.loadAt 85 (.pointer (some ⟨b,o,none⟩))) QP w k)):=(by intro b o;exact op_loadA ty85 b o _ rfl)
theorem o84:(∀ u,opV Pg (Instr.alloc 85 true u) QP w k=k (.pointer (some ⟨w.heap.size,0,none⟩)) (w.alloc (.cells ((.agg #[.int .i64 0,.int .i64 0,.string ByteArray.empty]):Value).cells 85))):=(op_alloc ty85)
def o85:=op_fieldO (QP:=QP) (w:=w) (k:=k) (i:=1) (ft:=3) (off:=1) (n:=1) Tryz.underlying92 rfl ty3 rfl
theorem o86:(∀ b o,opV Pg (Instr.loadAt 92 (.pointer (some ⟨b,o,none⟩))) QP w k=onCells [w.cell? ⟨b,o,none⟩,w.cell? ⟨b,o+1,none⟩,w.cell? ⟨b,o+2,none⟩] (fun vs=>k (.agg vs.toArray) w) (opVx Pg (Instr.loadAt 92 (.pointer (some ⟨b,o,none⟩))) QP w k)):=(by intro b o;exact op_loadA ty92 b o _ rfl)
theorem o87:(∀ u,opV Pg (Instr.alloc 92 true u) QP w k=k (.pointer (some ⟨w.heap.size,0,none⟩)) (w.alloc (.cells ((.agg #[.int .i64 0,.int .i64 0,.int .i64 0]):Value).cells 92))):=(op_alloc ty92)
def o88:=op_field0 (QP:=QP) (w:=w) (k:=k) (i:=0) (ft:=27) (n:=1) Tryz.underlying96 rfl ty27 rfl
def o89:=op_fieldO (QP:=QP) (w:=w) (k:=k) (i:=1) (ft:=3) (off:=1) (n:=1) Tryz.underlying96 rfl ty3 rfl
theorem o90:(∀ b o,opV Pg (Instr.loadAt 96 (.pointer (some ⟨b,o,none⟩))) QP w k=onCells [w.cell? ⟨b,o,none⟩,w.cell? ⟨b,o+1,none⟩] (fun vs=>k (.agg vs.toArray) w) (opVx Pg (Instr.loadAt 96 (.pointer (some ⟨b,o,none⟩))) QP w k)):=(by intro b o;exact op_loadA ty96 b o _ rfl)
theorem o91:(∀ u,opV Pg (Instr.alloc 96 true u) QP w k=k (.pointer (some ⟨w.heap.size,0,none⟩)) (w.alloc (.cells ((.agg #[.pointer none,.int .i64 0]):Value).cells 96))):=(op_alloc ty96)
def o92:=op_loadC (QP:=QP) (w:=w) (k:=k) ty99
theorem o93:(∀ u,opV Pg (Instr.alloc 99 true u) QP w k=k (.pointer (some ⟨w.heap.size,0,none⟩)) (w.alloc (.cells ((.map none):Value).cells 99))):=(op_alloc ty99)
def o94:=op_field0 (QP:=QP) (w:=w) (k:=k) (i:=0) (ft:=9) (n:=1) Tryz.underlying113 rfl ty9 rfl
def o95:=op_fieldO (QP:=QP) (w:=w) (k:=k) (i:=1) (ft:=3) (off:=1) (n:=1) Tryz.underlying113 rfl ty3 rfl
theorem o96:(∀ b o,opV Pg (Instr.loadAt 113 (.pointer (some ⟨b,o,none⟩))) QP w k=onCells [w.cell? ⟨b,o,none⟩,w.cell? ⟨b,o+1,none⟩] (fun vs=>k (.agg vs.toArray) w) (opVx Pg (Instr.loadAt 113 (.pointer (some ⟨b,o,none⟩))) QP w k)):=(by intro b o;exact op_loadA ty113 b o _ rfl)
theorem o97:(∀ u,opV Pg (Instr.alloc 113 true u) QP w k=k (.pointer (some ⟨w.heap.size,0,none⟩)) (w.alloc (.cells ((.agg #[.string ByteArray.empty,.int .i64 0]):Value).cells 113))):=(op_alloc ty113)
theorem o98:(∀ u,opV Pg (Instr.alloc 124 true u) QP w k=k (.pointer (some ⟨w.heap.size,0,none⟩)) (w.alloc (.cells ((.agg #[.string ByteArray.empty,.string ByteArray.empty,.string ByteArray.empty,.string ByteArray.empty,.string ByteArray.empty,.string ByteArray.empty,.string ByteArray.empty,.string ByteArray.empty,.string ByteArray.empty,.string ByteArray.empty,.string ByteArray.empty]):Value).cells 124))):=(op_alloc ty124)
theorem o101:(∀ r a n c,opV Pg (Builtin.len_ #[126] r #[.slice a n c]) QP w k=k (.int .i64 (n:Int)) w):=(fun r=>op_len_slice (r:=r) Tryz.underlying126)
theorem o102:(∀ b o len cap ik (i:Nat),i < len→opV Pg (Instr.indexAt 126 (.slice (some ⟨b,o,none⟩) len cap) (.int ik (i:Int))) QP w k=k (.pointer (some ⟨b,o+i*1,none⟩)) w):=(op_indexN Tryz.underlying126 ty5)
def o106:=op_loadC (QP:=QP) (w:=w) (k:=k) ty140
theorem o107:(∀ u,opV Pg (Instr.alloc 140 true u) QP w k=k (.pointer (some ⟨w.heap.size,0,none⟩)) (w.alloc (.cells ((.nilFunc):Value).cells 140))):=(op_alloc ty140)
theorem o108:(∀ u,opV Pg (Instr.alloc 145 true u) QP w k=k (.pointer (some ⟨w.heap.size,0,none⟩)) (w.alloc (.cells ((.agg #[.string ByteArray.empty,.string ByteArray.empty,.string ByteArray.empty,.string ByteArray.empty,.int .i64 0,.int .i64 0,.int .i64 0,.int .i64 0,.int .i64 0,.int .i64 0,.int .i64 0,.bool false,.bool false]):Value).cells 145))):=(op_alloc ty145)
def o109:=op_loadC (QP:=QP) (w:=w) (k:=k) ty151
theorem o110:(∀ u,opV Pg (Instr.alloc 161 true u) QP w k=k (.pointer (some ⟨w.heap.size,0,none⟩)) (w.alloc (.cells ((.agg #[.nilFunc,.nilFunc]):Value).cells 161))):=(op_alloc ty161)
theorem o111:(∀ r a n c,opV Pg (Builtin.len_ #[163] r #[.slice a n c]) QP w k=k (.int .i64 (n:Int)) w):=(fun r=>op_len_slice (r:=r) Tryz.underlying163)
theorem o112:(∀ b o len cap ik (i:Nat),i < len→opV Pg (Instr.indexAt 163 (.slice (some ⟨b,o,none⟩) len cap) (.int ik (i:Int))) QP w k=k (.pointer (some ⟨b,o+i*1,none⟩)) w):=(op_indexN Tryz.underlying163 ty26)
def o113:=op_fieldO (QP:=QP) (w:=w) (k:=k) (i:=1) (ft:=59) (off:=3) (n:=1) Tryz.underlying175 rfl ty59 rfl
def o114:=op_fieldO (QP:=QP) (w:=w) (k:=k) (i:=2) (ft:=99) (off:=4) (n:=1) Tryz.underlying175 rfl ty99 rfl
def o115:=op_fieldO (QP:=QP) (w:=w) (k:=k) (i:=3) (ft:=3) (off:=5) (n:=1) Tryz.underlying175 rfl ty3 rfl
def o116:=op_fieldO (QP:=QP) (w:=w) (k:=k) (i:=4) (ft:=3) (off:=6) (n:=1) Tryz.underlying175 rfl ty3 rfl
def o117:=op_fieldO (QP:=QP) (w:=w) (k:=k) (i:=5) (ft:=53) (off:=7) (n:=2) Tryz.underlying175 rfl ty53 rfl
def o120:=op_loadC (QP:=QP) (w:=w) (k:=k) ty205
def o121:=op_loadC (QP:=QP) (w:=w) (k:=k) ty206
def o122:=op_field0 (QP:=QP) (w:=w) (k:=k) (i:=0) (ft:=205) (n:=1) Tryz.underlying208 rfl ty205 rfl
def o123:=op_fieldO (QP:=QP) (w:=w) (k:=k) (i:=1) (ft:=206) (off:=1) (n:=1) Tryz.underlying208 rfl ty206 rfl
theorem o124:(∀ u,opV Pg (Instr.alloc 208 true u) QP w k=k (.pointer (some ⟨w.heap.size,0,none⟩)) (w.alloc (.cells ((.agg #[.nilFunc,.nilFunc]):Value).cells 208))):=(op_alloc ty208)
theorem o125:(∀ r a n c,opV Pg (Builtin.len_ #[217] r #[.slice a n c]) QP w k=k (.int .i64 (n:Int)) w):=(fun r=>op_len_slice (r:=r) Tryz.underlying217)
theorem o126:(∀ b o len cap ik (i:Nat),i < len→opV Pg (Instr.indexAt 217 (.slice (some ⟨b,o,none⟩) len cap) (.int ik (i:Int))) QP w k=k (.pointer (some ⟨b,o+i*1,none⟩)) w):=(op_indexN Tryz.underlying217 ty3)
def o127:=op_loadC (QP:=QP) (w:=w) (k:=k) ty219
theorem o128:(∀ u,opV Pg (Instr.alloc 219 true u) QP w k=k (.pointer (some ⟨w.heap.size,0,none⟩)) (w.alloc (.cells ((.map none):Value).cells 219))):=(op_alloc ty219)
def o129:=op_field0 (QP:=QP) (w:=w) (k:=k) (i:=0) (ft:=3) (n:=1) Tryz.underlying223 rfl ty3 rfl
def o130:=op_fieldO (QP:=QP) (w:=w) (k:=k) (i:=1) (ft:=3) (off:=1) (n:=1) Tryz.underlying223 rfl ty3 rfl
theorem o131:(∀ v0 v1,opV Pg (Instr.field 223 (.agg #[v0,v1]) 1) QP w k=k v1 w):=(by intro v0 v1;exact op_fieldV1 Tryz.underlying223 rfl ty3 rfl)
theorem o132:(∀ b o,opV Pg (Instr.loadAt 223 (.pointer (some ⟨b,o,none⟩))) QP w k=onCells [w.cell? ⟨b,o,none⟩,w.cell? ⟨b,o+1,none⟩] (fun vs=>k (.agg vs.toArray) w) (opVx Pg (Instr.loadAt 223 (.pointer (some ⟨b,o,none⟩))) QP w k)):=(by intro b o;exact op_loadA ty223 b o _ rfl)
theorem o133:(∀ u,opV Pg (Instr.alloc 223 true u) QP w k=k (.pointer (some ⟨w.heap.size,0,none⟩)) (w.alloc (.cells ((.agg #[.int .i64 0,.int .i64 0]):Value).cells 223))):=(op_alloc ty223)
def o134:=op_loadC (QP:=QP) (w:=w) (k:=k) ty228
theorem o135:(opV Pg (Instr.build 24 #[]) QP w k=k (.agg #[.string ByteArray.empty,.slice none 0 0,.string ByteArray.empty]) w):=(by exact op_build (places := #[(0,1),(1,1),(2,1)]) Tryz.underlying24 ty24 (by intro w;simp [List.mapM_cons,Sem.run_bind,Sw.run_sizeOf ty22,Sw.run_sizeOf ty9]) (by simp [Instr.fill,cells_agg]))
theorem o136:(∀ v0 v1 v2:Value,v0.oneCell'=true→v1.oneCell'=true→v2.oneCell'=true→opV Pg (Instr.build 24 #[(0,v0),(1,v1),(2,v2)]) QP w k=k (.agg #[v0,v1,v2]) w):=(by intro v0 v1 v2 hv0 hv1 hv2;exact op_build (places := #[(0,1),(1,1),(2,1)]) Tryz.underlying24 ty24 (by intro w;simp [List.mapM_cons,Sem.run_bind,Sw.run_sizeOf ty22,Sw.run_sizeOf ty9]) (by simp [Instr.fill,cells_agg,cells_one hv0,cells_one hv1,cells_one hv2]))
theorem o137:(opV Pg (Instr.build 36 #[]) QP w k=k (.agg #[.int .i64 0,.int .i64 0,.int .i64 0,.int .i64 0,.int .i64 0,.int .i64 0]) w):=(by exact op_build (places := #[(0,1),(1,1),(2,1),(3,1),(4,1),(5,1)]) Tryz.underlying36 ty36 (by intro w;simp [List.mapM_cons,Sem.run_bind,Sw.run_sizeOf ty3,Sw.run_sizeOf ty34]) (by simp [Instr.fill,cells_agg]))
theorem o138:(∀ v0 v1 v2 v3 v4 v5:Value,v0.oneCell'=true→v1.oneCell'=true→v2.oneCell'=true→v3.oneCell'=true→v4.oneCell'=true→v5.oneCell'=true→opV Pg (Instr.build 36 #[(0,v0),(1,v1),(2,v2),(3,v3),(4,v4),(5,v5)]) QP w k=k (.agg #[v0,v1,v2,v3,v4,v5]) w):=(by intro v0 v1 v2 v3 v4 v5 hv0 hv1 hv2 hv3 hv4 hv5;exact op_build (places := #[(0,1),(1,1),(2,1),(3,1),(4,1),(5,1)]) Tryz.underlying36 ty36 (by intro w;simp [List.mapM_cons,Sem.run_bind,Sw.run_sizeOf ty3,Sw.run_sizeOf ty34]) (by simp [Instr.fill,cells_agg,cells_one hv0,cells_one hv1,cells_one hv2,cells_one hv3,cells_one hv4,cells_one hv5]))
theorem o139:(∀ v0 v1:Value,v0.oneCell'=true→v1.oneCell'=true→opV Pg (Instr.build 53 #[(0,v0),(1,v1)]) QP w k=k (.agg #[v0,v1]) w):=(by intro v0 v1 hv0 hv1;exact op_build (places := #[(0,1),(1,1)]) Tryz.underlying53 ty53 (by intro w;simp [List.mapM_cons,Sem.run_bind,Sw.run_sizeOf ty51,Sw.run_sizeOf ty9]) (by simp [Instr.fill,cells_agg,cells_one hv0,cells_one hv1]))
theorem o140:(∀ v1:Value,v1.oneCell'=true→opV Pg (Instr.build 53 #[(1,v1)]) QP w k=k (.agg #[.string ByteArray.empty,v1]) w):=(by intro v1 hv1;exact op_build (places := #[(0,1),(1,1)]) Tryz.underlying53 ty53 (by intro w;simp [List.mapM_cons,Sem.run_bind,Sw.run_sizeOf ty51,Sw.run_sizeOf ty9]) (by simp [Instr.fill,cells_agg,cells_one hv1]))
theorem o141:(∀ v0_0 v0_1 v0_2:Value,opV Pg (Instr.build 58 #[(0,(.agg #[v0_0,v0_1,v0_2]))]) QP w k=k (.agg #[v0_0,v0_1,v0_2]) w):=(by intro v0_0 v0_1 v0_2;exact op_build (places := #[(0,3)]) Tryz.underlying58 ty58 (by intro w;simp [List.mapM_cons,Sem.run_bind,Sw.run_sizeOf ty24]) (by simp [Instr.fill,cells_agg]))
theorem o142:(opV Pg (Instr.build 61 #[]) QP w k=k (.agg #[.string ByteArray.empty,.slice none 0 0,.string ByteArray.empty,.slice none 0 0,.map none,.map none]) w):=(by exact op_build (places := #[(0,3),(3,1),(4,1),(5,1)]) Tryz.underlying61 ty61 (by intro w;simp [List.mapM_cons,Sem.run_bind,Sw.run_sizeOf ty32,Sw.run_sizeOf ty58,Sw.run_sizeOf ty59]) (by simp [Instr.fill,cells_agg]))
theorem o143:(∀ v0_0 v0_1 v0_2 v2 v3:Value,v2.oneCell'=true→v3.oneCell'=true→opV Pg (Instr.build 61 #[(0,(.agg #[v0_0,v0_1,v0_2])),(2,v2),(3,v3)]) QP w k=k (.agg #[v0_0,v0_1,v0_2,.slice none 0 0,v2,v3]) w):=(by intro v0_0 v0_1 v0_2 v2 v3 hv2 hv3;exact op_build (places := #[(0,3),(3,1),(4,1),(5,1)]) Tryz.underlying61 ty61 (by intro w;simp [List.mapM_cons,Sem.run_bind,Sw.run_sizeOf ty32,Sw.run_sizeOf ty58,Sw.run_sizeOf ty59]) (by simp [Instr.fill,cells_agg,cells_one hv2,cells_one hv3]))
theorem o144:(opV Pg (Instr.build 68 #[]) QP w k=k (.agg #[.int .i64 0,.slice none 0 0]) w):=(by exact op_build (places := #[(0,1),(1,1)]) Tryz.underlying68 ty68 (by intro w;simp [List.mapM_cons,Sem.run_bind,Sw.run_sizeOf ty3,Sw.run_sizeOf ty66]) (by simp [Instr.fill,cells_agg]))
theorem o145:(∀ v1:Value,v1.oneCell'=true→opV Pg (Instr.build 68 #[(1,v1)]) QP w k=k (.agg #[.int .i64 0,v1]) w):=(by intro v1 hv1;exact op_build (places := #[(0,1),(1,1)]) Tryz.underlying68 ty68 (by intro w;simp [List.mapM_cons,Sem.run_bind,Sw.run_sizeOf ty3,Sw.run_sizeOf ty66]) (by simp [Instr.fill,cells_agg,cells_one hv1]))
theorem o147:(∀ v0 v1:Value,v0.oneCell'=true→v1.oneCell'=true→opV Pg (Instr.build 71 #[(0,v0),(1,v1)]) QP w k=k (.agg #[v0,v1,.int .i64 0,.bool false,.bool false,.int .i64 0,.int .i64 0,.int .i64 0,.slice none 0 0,.string ByteArray.empty,.string ByteArray.empty,.string ByteArray.empty,.slice none 0 0,.int .i64 0,.int .i64 0]) w):=(by intro v0 v1 hv0 hv1;exact op_build (places := #[(0,1),(1,1),(2,1),(3,1),(4,1),(5,1),(6,1),(7,2),(9,1),(10,1),(11,1),(12,1),(13,1),(14,1)]) Tryz.underlying71 ty71 (by intro w;simp [List.mapM_cons,Sem.run_bind,Sw.run_sizeOf ty3,Sw.run_sizeOf ty4,Sw.run_sizeOf ty65,Sw.run_sizeOf ty68,Sw.run_sizeOf ty69,Sw.run_sizeOf ty9]) (by simp [Instr.fill,cells_agg,cells_one hv0,cells_one hv1]))
theorem o148:(∀ v0 v1 v2:Value,v0.oneCell'=true→v1.oneCell'=true→v2.oneCell'=true→opV Pg (Instr.build 71 #[(0,v0),(1,v1),(2,v2)]) QP w k=k (.agg #[v0,v1,v2,.bool false,.bool false,.int .i64 0,.int .i64 0,.int .i64 0,.slice none 0 0,.string ByteArray.empty,.string ByteArray.empty,.string ByteArray.empty,.slice none 0 0,.int .i64 0,.int .i64 0]) w):=(by intro v0 v1 v2 hv0 hv1 hv2;exact op_build (places := #[(0,1),(1,1),(2,1),(3,1),(4,1),(5,1),(6,1),(7,2),(9,1),(10,1),(11,1),(12,1),(13,1),(14,1)]) Tryz.underlying71 ty71 (by intro w;simp [List.mapM_cons,Sem.run_bind,Sw.run_sizeOf ty3,Sw.run_sizeOf ty4,Sw.run_sizeOf ty65,Sw.run_sizeOf ty68,Sw.run_sizeOf ty69,Sw.run_sizeOf ty9]) (by simp [Instr.fill,cells_agg,cells_one hv0,cells_one hv1,cells_one hv2]))
theorem o149:(∀ v0 v1 v2 v5:Value,v0.oneCell'=true→v1.oneCell'=true→v2.oneCell'=true→v5.oneCell'=true→opV Pg (Instr.build 71 #[(0,v0),(1,v1),(2,v2),(5,v5)]) QP w k=k (.agg #[v0,v1,v2,.bool false,.bool false,v5,.int .i64 0,.int .i64 0,.slice none 0 0,.string ByteArray.empty,.string ByteArray.empty,.string ByteArray.empty,.slice none 0 0,.int .i64 0,.int .i64 0]) w):=(by intro v0 v1 v2 v5 hv0 hv1 hv2 hv5;exact op_build (places := #[(0,1),(1,1),(2,1),(3,1),(4,1),(5,1),(6,1),(7,2),(9,1),(10,1),(11,1),(12,1),(13,1),(14,1)]) Tryz.underlying71 ty71 (by intro w;simp [List.mapM_cons,Sem.run_bind,Sw.run_sizeOf ty3,Sw.run_sizeOf ty4,Sw.run_sizeOf ty65,Sw.run_sizeOf ty68,Sw.run_sizeOf ty69,Sw.run_sizeOf ty9]) (by simp [Instr.fill,cells_agg,cells_one hv0,cells_one hv1,cells_one hv2,cells_one hv5]))
theorem o150:(∀ v0 v1 v2 v6:Value,v0.oneCell'=true→v1.oneCell'=true→v2.oneCell'=true→v6.oneCell'=true→opV Pg (Instr.build 71 #[(0,v0),(1,v1),(2,v2),(6,v6)]) QP w k=k (.agg #[v0,v1,v2,.bool false,.bool false,.int .i64 0,v6,.int .i64 0,.slice none 0 0,.string ByteArray.empty,.string ByteArray.empty,.string ByteArray.empty,.slice none 0 0,.int .i64 0,.int .i64 0]) w):=(by intro v0 v1 v2 v6 hv0 hv1 hv2 hv6;exact op_build (places := #[(0,1),(1,1),(2,1),(3,1),(4,1),(5,1),(6,1),(7,2),(9,1),(10,1),(11,1),(12,1),(13,1),(14,1)]) Tryz.underlying71 ty71 (by intro w;simp [List.mapM_cons,Sem.run_bind,Sw.run_sizeOf ty3,Sw.run_sizeOf ty4,Sw.run_sizeOf ty65,Sw.run_sizeOf ty68,Sw.run_sizeOf ty69,Sw.run_sizeOf ty9]) (by simp [Instr.fill,cells_agg,cells_one hv0,cells_one hv1,cells_one hv2,cells_one hv6]))
theorem o151:(∀ v0 v1 v8 v7_0 v7_1:Value,v0.oneCell'=true→v1.oneCell'=true→v8.oneCell'=true→opV Pg (Instr.build 71 #[(0,v0),(1,v1),(8,v8),(7,(.agg #[v7_0,v7_1]))]) QP w k=k (.agg #[v0,v1,.int .i64 0,.bool false,.bool false,.int .i64 0,.int .i64 0,v7_0,v7_1,v8,.string ByteArray.empty,.string ByteArray.empty,.slice none 0 0,.int .i64 0,.int .i64 0]) w):=(by intro v0 v1 v8 v7_0 v7_1 hv0 hv1 hv8;exact op_build (places := #[(0,1),(1,1),(2,1),(3,1),(4,1),(5,1),(6,1),(7,2),(9,1),(10,1),(11,1),(12,1),(13,1),(14,1)]) Tryz.underlying71 ty71 (by intro w;simp [List.mapM_cons,Sem.run_bind,Sw.run_sizeOf ty3,Sw.run_sizeOf ty4,Sw.run_sizeOf ty65,Sw.run_sizeOf ty68,Sw.run_sizeOf ty69,Sw.run_sizeOf ty9]) (by simp [Instr.fill,cells_agg,cells_one hv0,cells_one hv1,cells_one hv8]))
theorem o152:(∀ v0 v1 v9 v11:Value,v0.oneCell'=true→v1.oneCell'=true→v9.oneCell'=true→v11.oneCell'=true→opV Pg (Instr.build 71 #[(0,v0),(1,v1),(9,v9),(11,v11)]) QP w k=k (.agg #[v0,v1,.int .i64 0,.bool false,.bool false,.int .i64 0,.int .i64 0,.int .i64 0,.slice none 0 0,.string ByteArray.empty,v9,.string ByteArray.empty,v11,.int .i64 0,.int .i64 0]) w):=(by intro v0 v1 v9 v11 hv0 hv1 hv9 hv11;exact op_build (places := #[(0,1),(1,1),(2,1),(3,1),(4,1),(5,1),(6,1),(7,2),(9,1),(10,1),(11,1),(12,1),(13,1),(14,1)]) Tryz.underlying71 ty71 (by intro w;simp [List.mapM_cons,Sem.run_bind,Sw.run_sizeOf ty3,Sw.run_sizeOf ty4,Sw.run_sizeOf ty65,Sw.run_sizeOf ty68,Sw.run_sizeOf ty69,Sw.run_sizeOf ty9]) (by simp [Instr.fill,cells_agg,cells_one hv0,cells_one hv1,cells_one hv9,cells_one hv11]))
theorem o153:(∀ v0 v1 v2:Value,v0.oneCell'=true→v1.oneCell'=true→v2.oneCell'=true→opV Pg (Instr.build 85 #[(0,v0),(1,v1),(2,v2)]) QP w k=k (.agg #[v0,v1,v2]) w):=(by intro v0 v1 v2 hv0 hv1 hv2;exact op_build (places := #[(0,1),(1,1),(2,1)]) Tryz.underlying85 ty85 (by intro w;simp [List.mapM_cons,Sem.run_bind,Sw.run_sizeOf ty3,Sw.run_sizeOf ty9]) (by simp [Instr.fill,cells_agg,cells_one hv0,cells_one hv1,cells_one hv2]))
theorem o154:(opV Pg (Instr.build 92 #[]) QP w k=k (.agg #[.int .i64 0,.int .i64 0,.int .i64 0]) w):=(by exact op_build (places := #[(0,1),(1,1),(2,1)]) Tryz.underlying92 ty92 (by intro w;simp [List.mapM_cons,Sem.run_bind,Sw.run_sizeOf ty3,Sw.run_sizeOf ty90]) (by simp [Instr.fill,cells_agg]))
theorem o155:(∀ v0 v1 v2:Value,v0.oneCell'=true→v1.oneCell'=true→v2.oneCell'=true→opV Pg (Instr.build 92 #[(0,v0),(1,v1),(2,v2)]) QP w k=k (.agg #[v0,v1,v2]) w):=(by intro v0 v1 v2 hv0 hv1 hv2;exact op_build (places := #[(0,1),(1,1),(2,1)]) Tryz.underlying92 ty92 (by intro w;simp [List.mapM_cons,Sem.run_bind,Sw.run_sizeOf ty3,Sw.run_sizeOf ty90]) (by simp [Instr.fill,cells_agg,cells_one hv0,cells_one hv1,cells_one hv2]))
theorem o156:(∀ v0:Value,v0.oneCell'=true→opV Pg (Instr.build 96 #[(0,v0)]) QP w k=k (.agg #[v0,.int .i64 0]) w):=(by intro v0 hv0;exact op_build (places := #[(0,1),(1,1)]) Tryz.underlying96 ty96 (by intro w;simp [List.mapM_cons,Sem.run_bind,Sw.run_sizeOf ty27,Sw.run_sizeOf ty3]) (by simp [Instr.fill,cells_agg,cells_one hv0]))
theorem o157:(∀ v0 v1:Value,v0.oneCell'=true→v1.oneCell'=true→opV Pg (Instr.build 113 #[(0,v0),(1,v1)]) QP w k=k (.agg #[v0,v1]) w):=(by intro v0 v1 hv0 hv1;exact op_build (places := #[(0,1),(1,1)]) Tryz.underlying113 ty113 (by intro w;simp [List.mapM_cons,Sem.run_bind,Sw.run_sizeOf ty3,Sw.run_sizeOf ty9]) (by simp [Instr.fill,cells_agg,cells_one hv0,cells_one hv1]))
theorem o158:(∀ v0 v1 v2 v3 v4 v5 v6 v7 v8 v9 v10 v11 v12:Value,v0.oneCell'=true→v1.oneCell'=true→v2.oneCell'=true→v3.oneCell'=true→v4.oneCell'=true→v5.oneCell'=true→v6.oneCell'=true→v7.oneCell'=true→v8.oneCell'=true→v9.oneCell'=true→v10.oneCell'=true→v11.oneCell'=true→v12.oneCell'=true→opV Pg (Instr.build 145 #[(0,v0),(1,v1),(2,v2),(3,v3),(4,v4),(5,v5),(6,v6),(7,v7),(8,v8),(9,v9),(10,v10),(11,v11),(12,v12)]) QP w k=k (.agg #[v0,v1,v2,v3,v4,v5,v6,v7,v8,v9,v10,v11,v12]) w):=(by intro v0 v1 v2 v3 v4 v5 v6 v7 v8 v9 v10 v11 v12 hv0 hv1 hv2 hv3 hv4 hv5 hv6 hv7 hv8 hv9 hv10 hv11 hv12;exact op_build (places := #[(0,1),(1,1),(2,1),(3,1),(4,1),(5,1),(6,1),(7,1),(8,1),(9,1),(10,1),(11,1),(12,1)]) Tryz.underlying145 ty145 (by intro w;simp [List.mapM_cons,Sem.run_bind,Sw.run_sizeOf ty3,Sw.run_sizeOf ty4,Sw.run_sizeOf ty65,Sw.run_sizeOf ty9]) (by simp [Instr.fill,cells_agg,cells_one hv0,cells_one hv1,cells_one hv2,cells_one hv3,cells_one hv4,cells_one hv5,cells_one hv6,cells_one hv7,cells_one hv8,cells_one hv9,cells_one hv10,cells_one hv11,cells_one hv12]))
theorem o159:(∀ v0_0 v0_1 v0_2 v1 v2 v3 v4:Value,v1.oneCell'=true→v2.oneCell'=true→v3.oneCell'=true→v4.oneCell'=true→opV Pg (Instr.build 175 #[(0,(.agg #[v0_0,v0_1,v0_2])),(1,v1),(2,v2),(3,v3),(4,v4)]) QP w k=k (.agg #[v0_0,v0_1,v0_2,v1,v2,v3,v4,.string ByteArray.empty,.slice none 0 0]) w):=(by intro v0_0 v0_1 v0_2 v1 v2 v3 v4 hv1 hv2 hv3 hv4;exact op_build (places := #[(0,3),(3,1),(4,1),(5,1),(6,1),(7,2)]) Tryz.underlying175 ty175 (by intro w;simp [List.mapM_cons,Sem.run_bind,Sw.run_sizeOf ty24,Sw.run_sizeOf ty3,Sw.run_sizeOf ty53,Sw.run_sizeOf ty59,Sw.run_sizeOf ty99]) (by simp [Instr.fill,cells_agg,cells_one hv1,cells_one hv2,cells_one hv3,cells_one hv4]))
theorem o160:(∀ v0 v1:Value,v0.oneCell'=true→v1.oneCell'=true→opV Pg (Instr.build 208 #[(0,v0),(1,v1)]) QP w k=k (.agg #[v0,v1]) w):=(by intro v0 v1 hv0 hv1;exact op_build (places := #[(0,1),(1,1)]) Tryz.underlying208 ty208 (by intro w;simp [List.mapM_cons,Sem.run_bind,Sw.run_sizeOf ty205,Sw.run_sizeOf ty206]) (by simp [Instr.fill,cells_agg,cells_one hv0,cells_one hv1]))
theorem o161:(opV Pg (Instr.build 223 #[]) QP w k=k (.agg #[.int .i64 0,.int .i64 0]) w):=(by exact op_build (places := #[(0,1),(1,1)]) Tryz.underlying223 ty223 (by intro w;simp [List.mapM_cons,Sem.run_bind,Sw.run_sizeOf ty3]) (by simp [Instr.fill,cells_agg]))
theorem o162:(∀ v0 v1:Value,v0.oneCell'=true→v1.oneCell'=true→opV Pg (Instr.build 223 #[(0,v0),(1,v1)]) QP w k=k (.agg #[v0,v1]) w):=(by intro v0 v1 hv0 hv1;exact op_build (places := #[(0,1),(1,1)]) Tryz.underlying223 ty223 (by intro w;simp [List.mapM_cons,Sem.run_bind,Sw.run_sizeOf ty3]) (by simp [Instr.fill,cells_agg,cells_one hv0,cells_one hv1]))
theorem o163:(opV Pg (Instr.buildSlice 22 0 #[]) QP w k=k (.slice (some ⟨w.heap.size,0,none⟩) 0 0) (w.alloc (.cells #[] 53))):=(by exact op_buildSlice Tryz.underlying22 ty53 (by decide) (base := #[]) (by kernel_rfl) (by simp [Instr.fill,cells_agg]))
theorem o165:(∀ v0_0 v0_1 v1_0 v1_1 v2_0 v2_1:Value,opV Pg (Instr.buildSlice 22 3 #[(0,(.agg #[v0_0,v0_1])),(1,(.agg #[v1_0,v1_1])),(2,(.agg #[v2_0,v2_1]))]) QP w k=k (.slice (some ⟨w.heap.size,0,none⟩) 3 3) (w.alloc (.cells #[v0_0,v0_1,v1_0,v1_1,v2_0,v2_1] 53))):=(by intro v0_0 v0_1 v1_0 v1_1 v2_0 v2_1;exact op_buildSlice Tryz.underlying22 ty53 (by decide) (base := #[.string ByteArray.empty,.slice none 0 0,.string ByteArray.empty,.slice none 0 0,.string ByteArray.empty,.slice none 0 0]) (by kernel_rfl) (by simp [Instr.fill,cells_agg]))
theorem o166:(opV Pg (Instr.buildSlice 32 0 #[]) QP w k=k (.slice (some ⟨w.heap.size,0,none⟩) 0 0) (w.alloc (.cells #[] 36))):=(by exact op_buildSlice Tryz.underlying32 ty36 (by decide) (base := #[]) (by kernel_rfl) (by simp [Instr.fill,cells_agg]))
theorem o167:(∀ v0_0 v0_1 v0_2 v0_3 v0_4 v0_5:Value,opV Pg (Instr.buildSlice 32 1 #[(0,(.agg #[v0_0,v0_1,v0_2,v0_3,v0_4,v0_5]))]) QP w k=k (.slice (some ⟨w.heap.size,0,none⟩) 1 1) (w.alloc (.cells #[v0_0,v0_1,v0_2,v0_3,v0_4,v0_5] 36))):=(by intro v0_0 v0_1 v0_2 v0_3 v0_4 v0_5;exact op_buildSlice Tryz.underlying32 ty36 (by decide) (base := #[.int .i64 0,.int .i64 0,.int .i64 0,.int .i64 0,.int .i64 0,.int .i64 0]) (by kernel_rfl) (by simp [Instr.fill,cells_agg]))
theorem o168:(∀ v0_0 v0_1 v0_2 v0_3 v0_4 v0_5 v1_0 v1_1 v1_2 v1_3 v1_4 v1_5:Value,opV Pg (Instr.buildSlice 32 2 #[(0,(.agg #[v0_0,v0_1,v0_2,v0_3,v0_4,v0_5])),(1,(.agg #[v1_0,v1_1,v1_2,v1_3,v1_4,v1_5]))]) QP w k=k (.slice (some ⟨w.heap.size,0,none⟩) 2 2) (w.alloc (.cells #[v0_0,v0_1,v0_2,v0_3,v0_4,v0_5,v1_0,v1_1,v1_2,v1_3,v1_4,v1_5] 36))):=(by intro v0_0 v0_1 v0_2 v0_3 v0_4 v0_5 v1_0 v1_1 v1_2 v1_3 v1_4 v1_5;exact op_buildSlice Tryz.underlying32 ty36 (by decide) (base := #[.int .i64 0,.int .i64 0,.int .i64 0,.int .i64 0,.int .i64 0,.int .i64 0,.int .i64 0,.int .i64 0,.int .i64 0,.int .i64 0,.int .i64 0,.int .i64 0]) (by kernel_rfl) (by simp [Instr.fill,cells_agg]))
theorem o169:(opV Pg (Instr.buildSlice 51 0 #[]) QP w k=k (.slice (some ⟨w.heap.size,0,none⟩) 0 0) (w.alloc (.cells #[] 71))):=(by exact op_buildSlice Tryz.underlying51 ty71 (by decide) (base := #[]) (by kernel_rfl) (by simp [Instr.fill,cells_agg]))
theorem o170:(∀ v0_0 v0_1 v0_2 v0_3 v0_4 v0_5 v0_6 v0_7 v0_8 v0_9 v0_10 v0_11 v0_12 v0_13 v0_14:Value,opV Pg (Instr.buildSlice 51 1 #[(0,(.agg #[v0_0,v0_1,v0_2,v0_3,v0_4,v0_5,v0_6,v0_7,v0_8,v0_9,v0_10,v0_11,v0_12,v0_13,v0_14]))]) QP w k=k (.slice (some ⟨w.heap.size,0,none⟩) 1 1) (w.alloc (.cells #[v0_0,v0_1,v0_2,v0_3,v0_4,v0_5,v0_6,v0_7,v0_8,v0_9,v0_10,v0_11,v0_12,v0_13,v0_14] 71))):=(by intro v0_0 v0_1 v0_2 v0_3 v0_4 v0_5 v0_6 v0_7 v0_8 v0_9 v0_10 v0_11 v0_12 v0_13 v0_14;exact op_buildSlice Tryz.underlying51 ty71 (by decide) (base := #[.string ByteArray.empty,.int .i64 0,.int .i64 0,.bool false,.bool false,.int .i64 0,.int .i64 0,.int .i64 0,.slice none 0 0,.string ByteArray.empty,.string ByteArray.empty,.string ByteArray.empty,.slice none 0 0,.int .i64 0,.int .i64 0]) (by kernel_rfl) (by simp [Instr.fill,cells_agg]))
theorem o171:(∀ v0_0 v0_1 v0_2 v0_3 v0_4 v0_5 v0_6 v0_7 v0_8 v0_9 v0_10 v0_11 v0_12 v0_13 v0_14 v1_0 v1_1 v1_2 v1_3 v1_4 v1_5 v1_6 v1_7 v1_8 v1_9 v1_10 v1_11 v1_12 v1_13 v1_14 v2_0 v2_1 v2_2 v2_3 v2_4 v2_5 v2_6 v2_7 v2_8 v2_9 v2_10 v2_11 v2_12 v2_13 v2_14 v3_0 v3_1 v3_2 v3_3 v3_4 v3_5 v3_6 v3_7 v3_8 v3_9 v3_10 v3_11 v3_12 v3_13 v3_14:Value,opV Pg (Instr.buildSlice 51 4 #[(0,(.agg #[v0_0,v0_1,v0_2,v0_3,v0_4,v0_5,v0_6,v0_7,v0_8,v0_9,v0_10,v0_11,v0_12,v0_13,v0_14])),(1,(.agg #[v1_0,v1_1,v1_2,v1_3,v1_4,v1_5,v1_6,v1_7,v1_8,v1_9,v1_10,v1_11,v1_12,v1_13,v1_14])),(2,(.agg #[v2_0,v2_1,v2_2,v2_3,v2_4,v2_5,v2_6,v2_7,v2_8,v2_9,v2_10,v2_11,v2_12,v2_13,v2_14])),(3,(.agg #[v3_0,v3_1,v3_2,v3_3,v3_4,v3_5,v3_6,v3_7,v3_8,v3_9,v3_10,v3_11,v3_12,v3_13,v3_14]))]) QP w k=k (.slice (some ⟨w.heap.size,0,none⟩) 4 4) (w.alloc (.cells #[v0_0,v0_1,v0_2,v0_3,v0_4,v0_5,v0_6,v0_7,v0_8,v0_9,v0_10,v0_11,v0_12,v0_13,v0_14,v1_0,v1_1,v1_2,v1_3,v1_4,v1_5,v1_6,v1_7,v1_8,v1_9,v1_10,v1_11,v1_12,v1_13,v1_14,v2_0,v2_1,v2_2,v2_3,v2_4,v2_5,v2_6,v2_7,v2_8,v2_9,v2_10,v2_11,v2_12,v2_13,v2_14,v3_0,v3_1,v3_2,v3_3,v3_4,v3_5,v3_6,v3_7,v3_8,v3_9,v3_10,v3_11,v3_12,v3_13,v3_14] 71))):=(by intro v0_0 v0_1 v0_2 v0_3 v0_4 v0_5 v0_6 v0_7 v0_8 v0_9 v0_10 v0_11 v0_12 v0_13 v0_14 v1_0 v1_1 v1_2 v1_3 v1_4 v1_5 v1_6 v1_7 v1_8 v1_9 v1_10 v1_11 v1_12 v1_13 v1_14 v2_0 v2_1 v2_2 v2_3 v2_4 v2_5 v2_6 v2_7 v2_8 v2_9 v2_10 v2_11 v2_12 v2_13 v2_14 v3_0 v3_1 v3_2 v3_3 v3_4 v3_5 v3_6 v3_7 v3_8 v3_9 v3_10 v3_11 v3_12 v3_13 v3_14;exact op_buildSlice Tryz.underlying51 ty71 (by decide) (base := #[.string ByteArray.empty,.int .i64 0,.int .i64 0,.bool false,.bool false,.int .i64 0,.int .i64 0,.int .i64 0,.slice none 0 0,.string ByteArray.empty,.string ByteArray.empty,.string ByteArray.empty,.slice none 0 0,.int .i64 0,.int .i64 0,.string ByteArray.empty,.int .i64 0,.int .i64 0,.bool false,.bool false,.int .i64 0,.int .i64 0,.int .i64 0,.slice none 0 0,.string ByteArray.empty,.string ByteArray.empty,.string ByteArray.empty,.slice none 0 0,.int .i64 0,.int .i64 0,.string ByteArray.empty,.int .i64 0,.int .i64 0,.bool false,.bool false,.int .i64 0,.int .i64 0,.int .i64 0,.slice none 0 0,.string ByteArray.empty,.string ByteArray.empty,.string ByteArray.empty,.slice none 0 0,.int .i64 0,.int .i64 0,.string ByteArray.empty,.int .i64 0,.int .i64 0,.bool false,.bool false,.int .i64 0,.int .i64 0,.int .i64 0,.slice none 0 0,.string ByteArray.empty,.string ByteArray.empty,.string ByteArray.empty,.slice none 0 0,.int .i64 0,.int .i64 0]) (by kernel_rfl) (by simp [Instr.fill,cells_agg]))
theorem o172:(opV Pg (Instr.buildSlice 66 0 #[]) QP w k=k (.slice (some ⟨w.heap.size,0,none⟩) 0 0) (w.alloc (.cells #[] 113))):=(by exact op_buildSlice Tryz.underlying66 ty113 (by decide) (base := #[]) (by kernel_rfl) (by simp [Instr.fill,cells_agg]))
theorem o173:(∀ v0_0 v0_1:Value,opV Pg (Instr.buildSlice 66 1 #[(0,(.agg #[v0_0,v0_1]))]) QP w k=k (.slice (some ⟨w.heap.size,0,none⟩) 1 1) (w.alloc (.cells #[v0_0,v0_1] 113))):=(by intro v0_0 v0_1;exact op_buildSlice Tryz.underlying66 ty113 (by decide) (base := #[.string ByteArray.empty,.int .i64 0]) (by kernel_rfl) (by simp [Instr.fill,cells_agg]))
theorem o174:(opV Pg (Instr.buildSlice 69 0 #[]) QP w k=k (.slice (some ⟨w.heap.size,0,none⟩) 0 0) (w.alloc (.cells #[] 85))):=(by exact op_buildSlice Tryz.underlying69 ty85 (by decide) (base := #[]) (by kernel_rfl) (by simp [Instr.fill,cells_agg]))
theorem o175:(∀ v0_0 v0_1 v0_2:Value,opV Pg (Instr.buildSlice 69 1 #[(0,(.agg #[v0_0,v0_1,v0_2]))]) QP w k=k (.slice (some ⟨w.heap.size,0,none⟩) 1 1) (w.alloc (.cells #[v0_0,v0_1,v0_2] 85))):=(by intro v0_0 v0_1 v0_2;exact op_buildSlice Tryz.underlying69 ty85 (by decide) (base := #[.int .i64 0,.int .i64 0,.string ByteArray.empty]) (by kernel_rfl) (by simp [Instr.fill,cells_agg]))
theorem o176:(∀ v0 v1:Value,v0.oneCell'=true→v1.oneCell'=true→opV Pg (Instr.buildSlice 75 2 #[(0,v0),(1,v1)]) QP w k=k (.slice (some ⟨w.heap.size,0,none⟩) 2 2) (w.alloc (.cells #[v0,v1] 4))):=(by intro v0 v1 hv0 hv1;exact op_buildSlice Tryz.underlying75 ty4 (by decide) (base := #[.bool false,.bool false]) (by kernel_rfl) (by simp [Instr.fill,cells_agg,cells_one hv0,cells_one hv1]))
theorem o177:(∀ v0 v1 v2:Value,v0.oneCell'=true→v1.oneCell'=true→v2.oneCell'=true→opV Pg (Instr.buildSlice 75 3 #[(0,v0),(1,v1),(2,v2)]) QP w k=k (.slice (some ⟨w.heap.size,0,none⟩) 3 3) (w.alloc (.cells #[v0,v1,v2] 4))):=(by intro v0 v1 v2 hv0 hv1 hv2;exact op_buildSlice Tryz.underlying75 ty4 (by decide) (base := #[.bool false,.bool false,.bool false]) (by kernel_rfl) (by simp [Instr.fill,cells_agg,cells_one hv0,cells_one hv1,cells_one hv2]))
theorem o178:(∀ v0:Value,v0.oneCell'=true→opV Pg (Instr.buildSlice 80 1 #[(0,v0)]) QP w k=k (.slice (some ⟨w.heap.size,0,none⟩) 1 1) (w.alloc (.cells #[v0] 9))):=(by intro v0 hv0;exact op_buildSlice Tryz.underlying80 ty9 (by decide) (base := #[.string ByteArray.empty]) (by kernel_rfl) (by simp [Instr.fill,cells_agg,cells_one hv0]))
theorem o179:(∀ v0 v1:Value,v0.oneCell'=true→v1.oneCell'=true→opV Pg (Instr.buildSlice 80 2 #[(0,v0),(1,v1)]) QP w k=k (.slice (some ⟨w.heap.size,0,none⟩) 2 2) (w.alloc (.cells #[v0,v1] 9))):=(by intro v0 v1 hv0 hv1;exact op_buildSlice Tryz.underlying80 ty9 (by decide) (base := #[.string ByteArray.empty,.string ByteArray.empty]) (by kernel_rfl) (by simp [Instr.fill,cells_agg,cells_one hv0,cells_one hv1]))
theorem o180:(∀ v0 v1 v2 v3 v4 v5 v6 v7 v8 v9 v10:Value,v0.oneCell'=true→v1.oneCell'=true→v2.oneCell'=true→v3.oneCell'=true→v4.oneCell'=true→v5.oneCell'=true→v6.oneCell'=true→v7.oneCell'=true→v8.oneCell'=true→v9.oneCell'=true→v10.oneCell'=true→opV Pg (Instr.buildSlice 80 11 #[(0,v0),(1,v1),(2,v2),(3,v3),(4,v4),(5,v5),(6,v6),(7,v7),(8,v8),(9,v9),(10,v10)]) QP w k=k (.slice (some ⟨w.heap.size,0,none⟩) 11 11) (w.alloc (.cells #[v0,v1,v2,v3,v4,v5,v6,v7,v8,v9,v10] 9))):=(by intro v0 v1 v2 v3 v4 v5 v6 v7 v8 v9 v10 hv0 hv1 hv2 hv3 hv4 hv5 hv6 hv7 hv8 hv9 hv10;exact op_buildSlice Tryz.underlying80 ty9 (by decide) (base := #[.string ByteArray.empty,.string ByteArray.empty,.string ByteArray.empty,.string ByteArray.empty,.string ByteArray.empty,.string ByteArray.empty,.string ByteArray.empty,.string ByteArray.empty,.string ByteArray.empty,.string ByteArray.empty,.string ByteArray.empty]) (by kernel_rfl) (by simp [Instr.fill,cells_agg,cells_one hv0,cells_one hv1,cells_one hv2,cells_one hv3,cells_one hv4,cells_one hv5,cells_one hv6,cells_one hv7,cells_one hv8,cells_one hv9,cells_one hv10]))
theorem o181:(∀ v0:Value,v0.oneCell'=true→opV Pg (Instr.buildSlice 126 1 #[(0,v0)]) QP w k=k (.slice (some ⟨w.heap.size,0,none⟩) 1 1) (w.alloc (.cells #[v0] 5))):=(by intro v0 hv0;exact op_buildSlice Tryz.underlying126 ty5 (by decide) (base := #[.int .u8 0]) (by kernel_rfl) (by simp [Instr.fill,cells_agg,cells_one hv0]))
theorem o182:(∀ v0:Value,v0.oneCell'=true→opV Pg (Instr.buildSlice 217 1 #[(0,v0)]) QP w k=k (.slice (some ⟨w.heap.size,0,none⟩) 1 1) (w.alloc (.cells #[v0] 3))):=(by intro v0 hv0;exact op_buildSlice Tryz.underlying217 ty3 (by decide) (base := #[.int .i64 0]) (by kernel_rfl) (by simp [Instr.fill,cells_agg,cells_one hv0]))
theorem o183:(∀ v0 v1:Value,v0.oneCell'=true→v1.oneCell'=true→opV Pg (Instr.buildSlice 217 2 #[(0,v0),(1,v1)]) QP w k=k (.slice (some ⟨w.heap.size,0,none⟩) 2 2) (w.alloc (.cells #[v0,v1] 3))):=(by intro v0 v1 hv0 hv1;exact op_buildSlice Tryz.underlying217 ty3 (by decide) (base := #[.int .i64 0,.int .i64 0]) (by kernel_rfl) (by simp [Instr.fill,cells_agg,cells_one hv0,cells_one hv1]))
theorem o185:(∀ q n,opV Pg (Go.convert 3 5 (.int q n)) QP w k=k (.int .u8 (IntKind.u8.wrap n)) w):=(op_convInt (by rw [Tryz.underlying3];rfl) Tryz.underlying5)
theorem o194:(∀ v,opV Pg (Instr.makeInterface 92 v) QP w k=k (.iface 92 v) w):=(op_iface Tryz.underlying92 rfl)
theorem o198:(∀ c A n m,opV Pg (binS .eql 22 c (.slice A n m) (.slice none 0 0)) QP w k=k (.bool A.isNone) w):=(op_eqNilS Tryz.underlying22)
theorem o199:(∀ c (a0 b0:Int) (a1 b1:Int) (a2 b2:Int) (a3 b3:Int) (a4 b4:Int) (a5 b5:Int),opV Pg (binS .eql 36 c (.agg #[.int .i64 a0,.int .i64 a1,.int .i64 a2,.int .i64 a3,.int .i64 a4,.int .i64 a5]) (.agg #[.int .i64 b0,.int .i64 b1,.int .i64 b2,.int .i64 b3,.int .i64 b4,.int .i64 b5])) QP w k=k (.bool (decide (a0=b0)&&(decide (a1=b1)&&(decide (a2=b2)&&(decide (a3=b3)&&(decide (a4=b4)&&(decide (a5=b5)&&true))))))) w):=(by intro c a0 b0 a1 b1 a2 b2 a3 b3 a4 b4 a5 b5;exact op_aggEq (by kernel_rfl) (fun w=>eq36 a0 b0 a1 b1 a2 b2 a3 b3 a4 b4 a5 b5) c)
theorem o200:(∀ c (a0 b0:Int) (a1 b1:Int) (a2 b2:Int) (a3 b3:Int) (a4 b4:Int) (a5 b5:Int),opV Pg (binS .neq 36 c (.agg #[.int .i64 a0,.int .i64 a1,.int .i64 a2,.int .i64 a3,.int .i64 a4,.int .i64 a5]) (.agg #[.int .i64 b0,.int .i64 b1,.int .i64 b2,.int .i64 b3,.int .i64 b4,.int .i64 b5])) QP w k=k (.bool (!(decide (a0=b0)&&(decide (a1=b1)&&(decide (a2=b2)&&(decide (a3=b3)&&(decide (a4=b4)&&(decide (a5=b5)&&true)))))))) w):=(by intro c a0 b0 a1 b1 a2 b2 a3 b3 a4 b4 a5 b5;exact op_aggNe (by kernel_rfl) (fun w=>eq36 a0 b0 a1 b1 a2 b2 a3 b3 a4 b4 a5 b5) c)
theorem o202:(∀ c f x y,opV Pg (binS .eql 42 c (.func f x y) .nilFunc) QP w k=k (.bool false) w):=(op_eqNilF Tryz.underlying42)
theorem o203:(∀ c A n m,opV Pg (binS .eql 51 c (.slice A n m) (.slice none 0 0)) QP w k=k (.bool A.isNone) w):=(op_eqNilS Tryz.underlying51)
theorem o204:(∀ c A n m,opV Pg (binS .eql 66 c (.slice A n m) (.slice none 0 0)) QP w k=k (.bool A.isNone) w):=(op_eqNilS Tryz.underlying66)
theorem o205:(∀ c A n m,opV Pg (binS .eql 69 c (.slice A n m) (.slice none 0 0)) QP w k=k (.bool A.isNone) w):=(op_eqNilS Tryz.underlying69)
theorem o207:(∀ c (a0 b0:Int) (a1 b1:Int) (a2 b2:ByteArray),opV Pg (binS .neq 85 c (.agg #[.int .i64 a0,.int .i64 a1,.string a2]) (.agg #[.int .i64 b0,.int .i64 b1,.string b2])) QP w k=k (.bool (!(decide (a0=b0)&&(decide (a1=b1)&&(decide (a2=b2)&&true))))) w):=(by intro c a0 b0 a1 b1 a2 b2;exact op_aggNe (by kernel_rfl) (fun w=>eq85 a0 b0 a1 b1 a2 b2) c)
theorem o209:(∀ c (a0 b0:ByteArray) (a1 b1:Int),opV Pg (binS .neq 113 c (.agg #[.string a0,.int .i64 a1]) (.agg #[.string b0,.int .i64 b1])) QP w k=k (.bool (!(decide (a0=b0)&&(decide (a1=b1)&&true)))) w):=(by intro c a0 b0 a1 b1;exact op_aggNe (by kernel_rfl) (fun w=>eq113 a0 b0 a1 b1) c)
theorem o210:(∀ c (a0 b0:ByteArray) (a1 b1:ByteArray) (a2 b2:ByteArray) (a3 b3:ByteArray) (a4 b4:Int) (a5 b5:Int) (a6 b6:Int) (a7 b7:Int) (a8 b8:Int) (a9 b9:Int) (a10 b10:Int) (a11 b11:Bool) (a12 b12:Bool),opV Pg (binS .eql 145 c (.agg #[.string a0,.string a1,.string a2,.string a3,.int .i64 a4,.int .i64 a5,.int .i64 a6,.int .i64 a7,.int .i64 a8,.int .i64 a9,.int .i64 a10,.bool a11,.bool a12]) (.agg #[.string b0,.string b1,.string b2,.string b3,.int .i64 b4,.int .i64 b5,.int .i64 b6,.int .i64 b7,.int .i64 b8,.int .i64 b9,.int .i64 b10,.bool b11,.bool b12])) QP w k=k (.bool (decide (a0=b0)&&(decide (a1=b1)&&(decide (a2=b2)&&(decide (a3=b3)&&(decide (a4=b4)&&(decide (a5=b5)&&(decide (a6=b6)&&(decide (a7=b7)&&(decide (a8=b8)&&(decide (a9=b9)&&(decide (a10=b10)&&(decide (a11=b11)&&(decide (a12=b12)&&true)))))))))))))) w):=(by intro c a0 b0 a1 b1 a2 b2 a3 b3 a4 b4 a5 b5 a6 b6 a7 b7 a8 b8 a9 b9 a10 b10 a11 b11 a12 b12;exact op_aggEq (by kernel_rfl) (fun w=>eq145 a0 b0 a1 b1 a2 b2 a3 b3 a4 b4 a5 b5 a6 b6 a7 b7 a8 b8 a9 b9 a10 b10 a11 b11 a12 b12) c)
end
theorem qV_two {P:Program} {C:World→Prop} [ClassNe C] {k:Value→Prop} {s:Nat→Nat→Sem Value} {v:Nat→Nat→Value} (h:∀ QP w k b o,opV P (s b o) QP w k=k (v b o) w) (b o:Nat):qV P C (s b o) k=k (v b o):=qV_of fun QP w k=>h QP w k b o
def OPU0 {QP:List PanicEntry→World→Prop} {w:World} {ku:World→Prop}:=And.intro (op_storeC (QP:=QP) (w:=w) (ku:=ku) ty3)<|And.intro (op_storeC (QP:=QP) (w:=w) (ku:=ku) ty4)<|And.intro (op_storeC (QP:=QP) (w:=w) (ku:=ku) ty9)<|And.intro (op_storeC (QP:=QP) (w:=w) (ku:=ku) ty22)<|And.intro (op_storeC (QP:=QP) (w:=w) (ku:=ku) ty32)<|And.intro (op_storeC (QP:=QP) (w:=w) (ku:=ku) ty34)<|And.intro (op_storeC (QP:=QP) (w:=w) (ku:=ku) ty37)<|And.intro (op_storeC (QP:=QP) (w:=w) (ku:=ku) ty51)<|And.intro ((by intro b T' u0 u1 v0 v1 hb h0 h1;exact op_storeN ty53 b hb _ T' _ rfl rfl (by intro v hv;simp only [List.mem_cons,List.not_mem_nil,or_false] at hv;rcases hv with rfl | rfl<;>assumption)):(∀ (b:Nat) (T':TypeId) u0 u1 v0 v1,b=w.heap.size→v0.oneCell'=true→v1.oneCell'=true→opU Pg (Instr.storeAt 53 (.pointer (some ⟨b,0,none⟩)) (.agg #[v0,v1])) QP (w.alloc (.cells #[u0,u1] T')) ku=ku (w.alloc (.cells #[v0,v1] T'))))<|And.intro (op_storeC (QP:=QP) (w:=w) (ku:=ku) ty66)<|And.intro (op_storeC (QP:=QP) (w:=w) (ku:=ku) ty69)<|And.intro ((by intro b T' u0 u1 u2 u3 u4 u5 u6 u7 u8 u9 u10 u11 u12 u13 u14 v0 v1 v2 v3 v4 v5 v6 v7 v8 v9 v10 v11 v12 v13 v14 hb h0 h1 h2 h3 h4 h5 h6 h7 h8 h9 h10 h11 h12 h13 h14;exact op_storeN ty71 b hb _ T' _ rfl rfl (by intro v hv;simp only [List.mem_cons,List.not_mem_nil,or_false] at hv;rcases hv with rfl | rfl | rfl | rfl | rfl | rfl | rfl | rfl | rfl | rfl | rfl | rfl | rfl | rfl | rfl<;>assumption)):(∀ (b:Nat) (T':TypeId) u0 u1 u2 u3 u4 u5 u6 u7 u8 u9 u10 u11 u12 u13 u14 v0 v1 v2 v3 v4 v5 v6 v7 v8 v9 v10 v11 v12 v13 v14,b=w.heap.size→v0.oneCell'=true→v1.oneCell'=true→v2.oneCell'=true→v3.oneCell'=true→v4.oneCell'=true→v5.oneCell'=true→v6.oneCell'=true→v7.oneCell'=true→v8.oneCell'=true→v9.oneCell'=true→v10.oneCell'=true→v11.oneCell'=true→v12.oneCell'=true→v13.oneCell'=true→v14.oneCell'=true→opU Pg (Instr.storeAt 71 (.pointer (some ⟨b,0,none⟩)) (.agg #[v0,v1,v2,v3,v4,v5,v6,v7,v8,v9,v10,v11,v12,v13,v14])) QP (w.alloc (.cells #[u0,u1,u2,u3,u4,u5,u6,u7,u8,u9,u10,u11,u12,u13,u14] T')) ku=ku (w.alloc (.cells #[v0,v1,v2,v3,v4,v5,v6,v7,v8,v9,v10,v11,v12,v13,v14] T'))))<|And.intro (op_storeC (QP:=QP) (w:=w) (ku:=ku) ty80)<|And.intro (op_storeC (QP:=QP) (w:=w) (ku:=ku) ty99)<|And.intro ((by intro b T' u0 u1 u2 u3 u4 u5 u6 u7 u8 u9 u10 v0 v1 v2 v3 v4 v5 v6 v7 v8 v9 v10 hb h0 h1 h2 h3 h4 h5 h6 h7 h8 h9 h10;exact op_storeN ty124 b hb _ T' _ rfl rfl (by intro v hv;simp only [List.mem_cons,List.not_mem_nil,or_false] at hv;rcases hv with rfl | rfl | rfl | rfl | rfl | rfl | rfl | rfl | rfl | rfl | rfl<;>assumption)):(∀ (b:Nat) (T':TypeId) u0 u1 u2 u3 u4 u5 u6 u7 u8 u9 u10 v0 v1 v2 v3 v4 v5 v6 v7 v8 v9 v10,b=w.heap.size→v0.oneCell'=true→v1.oneCell'=true→v2.oneCell'=true→v3.oneCell'=true→v4.oneCell'=true→v5.oneCell'=true→v6.oneCell'=true→v7.oneCell'=true→v8.oneCell'=true→v9.oneCell'=true→v10.oneCell'=true→opU Pg (Instr.storeAt 124 (.pointer (some ⟨b,0,none⟩)) (.agg #[v0,v1,v2,v3,v4,v5,v6,v7,v8,v9,v10])) QP (w.alloc (.cells #[u0,u1,u2,u3,u4,u5,u6,u7,u8,u9,u10] T')) ku=ku (w.alloc (.cells #[v0,v1,v2,v3,v4,v5,v6,v7,v8,v9,v10] T'))))<|And.intro (op_storeC (QP:=QP) (w:=w) (ku:=ku) ty140)<|And.intro ((by intro b T' u0 u1 u2 u3 u4 u5 u6 u7 u8 u9 u10 u11 u12 v0 v1 v2 v3 v4 v5 v6 v7 v8 v9 v10 v11 v12 hb h0 h1 h2 h3 h4 h5 h6 h7 h8 h9 h10 h11 h12;exact op_storeN ty145 b hb _ T' _ rfl rfl (by intro v hv;simp only [List.mem_cons,List.not_mem_nil,or_false] at hv;rcases hv with rfl | rfl | rfl | rfl | rfl | rfl | rfl | rfl | rfl | rfl | rfl | rfl | rfl<;>assumption)):(∀ (b:Nat) (T':TypeId) u0 u1 u2 u3 u4 u5 u6 u7 u8 u9 u10 u11 u12 v0 v1 v2 v3 v4 v5 v6 v7 v8 v9 v10 v11 v12,b=w.heap.size→v0.oneCell'=true→v1.oneCell'=true→v2.oneCell'=true→v3.oneCell'=true→v4.oneCell'=true→v5.oneCell'=true→v6.oneCell'=true→v7.oneCell'=true→v8.oneCell'=true→v9.oneCell'=true→v10.oneCell'=true→v11.oneCell'=true→v12.oneCell'=true→opU Pg (Instr.storeAt 145 (.pointer (some ⟨b,0,none⟩)) (.agg #[v0,v1,v2,v3,v4,v5,v6,v7,v8,v9,v10,v11,v12])) QP (w.alloc (.cells #[u0,u1,u2,u3,u4,u5,u6,u7,u8,u9,u10,u11,u12] T')) ku=ku (w.alloc (.cells #[v0,v1,v2,v3,v4,v5,v6,v7,v8,v9,v10,v11,v12] T'))))<|(op_storeC (QP:=QP) (w:=w) (ku:=ku) ty219)
def OPA0 {QP:List PanicEntry→World→Prop} {w:World} {ku:World→Prop}:=And.intro ((by intro b o v0 v1 v2 h0 h1 h2;exact op_storeA ty24 b o _ rfl (by intro v hv;simp only [List.mem_cons,List.not_mem_nil,or_false] at hv;rcases hv with rfl | rfl | rfl<;>assumption) _ rfl _ rfl):(∀ b o v0 v1 v2,v0.oneCell'=true→v1.oneCell'=true→v2.oneCell'=true→opU Pg (Instr.storeAt 24 (.pointer (some ⟨b,o,none⟩)) (.agg #[v0,v1,v2])) QP w ku=onCells [w.cell? ⟨b,o,none⟩,w.cell? ⟨b,o+1,none⟩,w.cell? ⟨b,o+2,none⟩] (fun _=>onFree [w.frozen? ⟨b,o,none⟩,w.frozen? ⟨b,o+1,none⟩,w.frozen? ⟨b,o+2,none⟩] (ku (((w.setCell ⟨b,o,none⟩ v0).setCell ⟨b,o+1,none⟩ v1).setCell ⟨b,o+2,none⟩ v2)) (opUx Pg (Instr.storeAt 24 (.pointer (some ⟨b,o,none⟩)) (.agg #[v0,v1,v2])) QP w ku)) (opUx Pg (Instr.storeAt 24 (.pointer (some ⟨b,o,none⟩)) (.agg #[v0,v1,v2])) QP w ku)))<|And.intro ((by intro b o v0 v1 v2 v3 v4 v5 h0 h1 h2 h3 h4 h5;exact op_storeA ty36 b o _ rfl (by intro v hv;simp only [List.mem_cons,List.not_mem_nil,or_false] at hv;rcases hv with rfl | rfl | rfl | rfl | rfl | rfl<;>assumption) _ rfl _ rfl):(∀ b o v0 v1 v2 v3 v4 v5,v0.oneCell'=true→v1.oneCell'=true→v2.oneCell'=true→v3.oneCell'=true→v4.oneCell'=true→v5.oneCell'=true→opU Pg (Instr.storeAt 36 (.pointer (some ⟨b,o,none⟩)) (.agg #[v0,v1,v2,v3,v4,v5])) QP w ku=onCells [w.cell? ⟨b,o,none⟩,w.cell? ⟨b,o+1,none⟩,w.cell? ⟨b,o+2,none⟩,w.cell? ⟨b,o+3,none⟩,w.cell? ⟨b,o+4,none⟩,w.cell? ⟨b,o+5,none⟩] (fun _=>onFree [w.frozen? ⟨b,o,none⟩,w.frozen? ⟨b,o+1,none⟩,w.frozen? ⟨b,o+2,none⟩,w.frozen? ⟨b,o+3,none⟩,w.frozen? ⟨b,o+4,none⟩,w.frozen? ⟨b,o+5,none⟩] (ku ((((((w.setCell ⟨b,o,none⟩ v0).setCell ⟨b,o+1,none⟩ v1).setCell ⟨b,o+2,none⟩ v2).setCell ⟨b,o+3,none⟩ v3).setCell ⟨b,o+4,none⟩ v4).setCell ⟨b,o+5,none⟩ v5)) (opUx Pg (Instr.storeAt 36 (.pointer (some ⟨b,o,none⟩)) (.agg #[v0,v1,v2,v3,v4,v5])) QP w ku)) (opUx Pg (Instr.storeAt 36 (.pointer (some ⟨b,o,none⟩)) (.agg #[v0,v1,v2,v3,v4,v5])) QP w ku)))<|And.intro ((by intro b o v0 v1 h0 h1;exact op_storeA ty53 b o _ rfl (by intro v hv;simp only [List.mem_cons,List.not_mem_nil,or_false] at hv;rcases hv with rfl | rfl<;>assumption) _ rfl _ rfl):(∀ b o v0 v1,v0.oneCell'=true→v1.oneCell'=true→opU Pg (Instr.storeAt 53 (.pointer (some ⟨b,o,none⟩)) (.agg #[v0,v1])) QP w ku=onCells [w.cell? ⟨b,o,none⟩,w.cell? ⟨b,o+1,none⟩] (fun _=>onFree [w.frozen? ⟨b,o,none⟩,w.frozen? ⟨b,o+1,none⟩] (ku ((w.setCell ⟨b,o,none⟩ v0).setCell ⟨b,o+1,none⟩ v1)) (opUx Pg (Instr.storeAt 53 (.pointer (some ⟨b,o,none⟩)) (.agg #[v0,v1])) QP w ku)) (opUx Pg (Instr.storeAt 53 (.pointer (some ⟨b,o,none⟩)) (.agg #[v0,v1])) QP w ku)))<|And.intro ((by intro b o v0 v1 h0 h1;exact op_storeA ty68 b o _ rfl (by intro v hv;simp only [List.mem_cons,List.not_mem_nil,or_false] at hv;rcases hv with rfl | rfl<;>assumption) _ rfl _ rfl):(∀ b o v0 v1,v0.oneCell'=true→v1.oneCell'=true→opU Pg (Instr.storeAt 68 (.pointer (some ⟨b,o,none⟩)) (.agg #[v0,v1])) QP w ku=onCells [w.cell? ⟨b,o,none⟩,w.cell? ⟨b,o+1,none⟩] (fun _=>onFree [w.frozen? ⟨b,o,none⟩,w.frozen? ⟨b,o+1,none⟩] (ku ((w.setCell ⟨b,o,none⟩ v0).setCell ⟨b,o+1,none⟩ v1)) (opUx Pg (Instr.storeAt 68 (.pointer (some ⟨b,o,none⟩)) (.agg #[v0,v1])) QP w ku)) (opUx Pg (Instr.storeAt 68 (.pointer (some ⟨b,o,none⟩)) (.agg #[v0,v1])) QP w ku)))<|And.intro ((by intro b o v0 v1 v2 h0 h1 h2;exact op_storeA ty85 b o _ rfl (by intro v hv;simp only [List.mem_cons,List.not_mem_nil,or_false] at hv;rcases hv with rfl | rfl | rfl<;>assumption) _ rfl _ rfl):(∀ b o v0 v1 v2,v0.oneCell'=true→v1.oneCell'=true→v2.oneCell'=true→opU Pg (Instr.storeAt 85 (.pointer (some ⟨b,o,none⟩)) (.agg #[v0,v1,v2])) QP w ku=onCells [w.cell? ⟨b,o,none⟩,w.cell? ⟨b,o+1,none⟩,w.cell? ⟨b,o+2,none⟩] (fun _=>onFree [w.frozen? ⟨b,o,none⟩,w.frozen? ⟨b,o+1,none⟩,w.frozen? ⟨b,o+2,none⟩] (ku (((w.setCell ⟨b,o,none⟩ v0).setCell ⟨b,o+1,none⟩ v1).setCell ⟨b,o+2,none⟩ v2)) (opUx Pg (Instr.storeAt 85 (.pointer (some ⟨b,o,none⟩)) (.agg #[v0,v1,v2])) QP w ku)) (opUx Pg (Instr.storeAt 85 (.pointer (some ⟨b,o,none⟩)) (.agg #[v0,v1,v2])) QP w ku)))<|And.intro ((by intro b o v0 v1 v2 h0 h1 h2;exact op_storeA ty92 b o _ rfl (by intro v hv;simp only [List.mem_cons,List.not_mem_nil,or_false] at hv;rcases hv with rfl | rfl | rfl<;>assumption) _ rfl _ rfl):(∀ b o v0 v1 v2,v0.oneCell'=true→v1.oneCell'=true→v2.oneCell'=true→opU Pg (Instr.storeAt 92 (.pointer (some ⟨b,o,none⟩)) (.agg #[v0,v1,v2])) QP w ku=onCells [w.cell? ⟨b,o,none⟩,w.cell? ⟨b,o+1,none⟩,w.cell? ⟨b,o+2,none⟩] (fun _=>onFree [w.frozen? ⟨b,o,none⟩,w.frozen? ⟨b,o+1,none⟩,w.frozen? ⟨b,o+2,none⟩] (ku (((w.setCell ⟨b,o,none⟩ v0).setCell ⟨b,o+1,none⟩ v1).setCell ⟨b,o+2,none⟩ v2)) (opUx Pg (Instr.storeAt 92 (.pointer (some ⟨b,o,none⟩)) (.agg #[v0,v1,v2])) QP w ku)) (opUx Pg (Instr.storeAt 92 (.pointer (some ⟨b,o,none⟩)) (.agg #[v0,v1,v2])) QP w ku)))<|And.intro ((by intro b o v0 v1 h0 h1;exact op_storeA ty96 b o _ rfl (by intro v hv;simp only [List.mem_cons,List.not_mem_nil,or_false] at hv;rcases hv with rfl | rfl<;>assumption) _ rfl _ rfl):(∀ b o v0 v1,v0.oneCell'=true→v1.oneCell'=true→opU Pg (Instr.storeAt 96 (.pointer (some ⟨b,o,none⟩)) (.agg #[v0,v1])) QP w ku=onCells [w.cell? ⟨b,o,none⟩,w.cell? ⟨b,o+1,none⟩] (fun _=>onFree [w.frozen? ⟨b,o,none⟩,w.frozen? ⟨b,o+1,none⟩] (ku ((w.setCell ⟨b,o,none⟩ v0).setCell ⟨b,o+1,none⟩ v1)) (opUx Pg (Instr.storeAt 96 (.pointer (some ⟨b,o,none⟩)) (.agg #[v0,v1])) QP w ku)) (opUx Pg (Instr.storeAt 96 (.pointer (some ⟨b,o,none⟩)) (.agg #[v0,v1])) QP w ku)))<|And.intro ((by intro b o v0 v1 h0 h1;exact op_storeA ty113 b o _ rfl (by intro v hv;simp only [List.mem_cons,List.not_mem_nil,or_false] at hv;rcases hv with rfl | rfl<;>assumption) _ rfl _ rfl):(∀ b o v0 v1,v0.oneCell'=true→v1.oneCell'=true→opU Pg (Instr.storeAt 113 (.pointer (some ⟨b,o,none⟩)) (.agg #[v0,v1])) QP w ku=onCells [w.cell? ⟨b,o,none⟩,w.cell? ⟨b,o+1,none⟩] (fun _=>onFree [w.frozen? ⟨b,o,none⟩,w.frozen? ⟨b,o+1,none⟩] (ku ((w.setCell ⟨b,o,none⟩ v0).setCell ⟨b,o+1,none⟩ v1)) (opUx Pg (Instr.storeAt 113 (.pointer (some ⟨b,o,none⟩)) (.agg #[v0,v1])) QP w ku)) (opUx Pg (Instr.storeAt 113 (.pointer (some ⟨b,o,none⟩)) (.agg #[v0,v1])) QP w ku)))<|And.intro ((by intro b o v0 v1 h0 h1;exact op_storeA ty161 b o _ rfl (by intro v hv;simp only [List.mem_cons,List.not_mem_nil,or_false] at hv;rcases hv with rfl | rfl<;>assumption) _ rfl _ rfl):(∀ b o v0 v1,v0.oneCell'=true→v1.oneCell'=true→opU Pg (Instr.storeAt 161 (.pointer (some ⟨b,o,none⟩)) (.agg #[v0,v1])) QP w ku=onCells [w.cell? ⟨b,o,none⟩,w.cell? ⟨b,o+1,none⟩] (fun _=>onFree [w.frozen? ⟨b,o,none⟩,w.frozen? ⟨b,o+1,none⟩] (ku ((w.setCell ⟨b,o,none⟩ v0).setCell ⟨b,o+1,none⟩ v1)) (opUx Pg (Instr.storeAt 161 (.pointer (some ⟨b,o,none⟩)) (.agg #[v0,v1])) QP w ku)) (opUx Pg (Instr.storeAt 161 (.pointer (some ⟨b,o,none⟩)) (.agg #[v0,v1])) QP w ku)))<|And.intro ((by intro b o v0 v1 h0 h1;exact op_storeA ty208 b o _ rfl (by intro v hv;simp only [List.mem_cons,List.not_mem_nil,or_false] at hv;rcases hv with rfl | rfl<;>assumption) _ rfl _ rfl):(∀ b o v0 v1,v0.oneCell'=true→v1.oneCell'=true→opU Pg (Instr.storeAt 208 (.pointer (some ⟨b,o,none⟩)) (.agg #[v0,v1])) QP w ku=onCells [w.cell? ⟨b,o,none⟩,w.cell? ⟨b,o+1,none⟩] (fun _=>onFree [w.frozen? ⟨b,o,none⟩,w.frozen? ⟨b,o+1,none⟩] (ku ((w.setCell ⟨b,o,none⟩ v0).setCell ⟨b,o+1,none⟩ v1)) (opUx Pg (Instr.storeAt 208 (.pointer (some ⟨b,o,none⟩)) (.agg #[v0,v1])) QP w ku)) (opUx Pg (Instr.storeAt 208 (.pointer (some ⟨b,o,none⟩)) (.agg #[v0,v1])) QP w ku)))<|((by intro b o v0 v1 h0 h1;exact op_storeA ty223 b o _ rfl (by intro v hv;simp only [List.mem_cons,List.not_mem_nil,or_false] at hv;rcases hv with rfl | rfl<;>assumption) _ rfl _ rfl):(∀ b o v0 v1,v0.oneCell'=true→v1.oneCell'=true→opU Pg (Instr.storeAt 223 (.pointer (some ⟨b,o,none⟩)) (.agg #[v0,v1])) QP w ku=onCells [w.cell? ⟨b,o,none⟩,w.cell? ⟨b,o+1,none⟩] (fun _=>onFree [w.frozen? ⟨b,o,none⟩,w.frozen? ⟨b,o+1,none⟩] (ku ((w.setCell ⟨b,o,none⟩ v0).setCell ⟨b,o+1,none⟩ v1)) (opUx Pg (Instr.storeAt 223 (.pointer (some ⟨b,o,none⟩)) (.agg #[v0,v1])) QP w ku)) (opUx Pg (Instr.storeAt 223 (.pointer (some ⟨b,o,none⟩)) (.agg #[v0,v1])) QP w ku)))
section
def OPW0 {w:World} {k:Value→Prop}:=And.intro (qV_loadC (w:=w) (k:=k) ty3)<|And.intro (qV_loadKB (w:=w) (k:=k) ty3)<|And.intro (qV_loadKB (w:=w) (k:=k) ty4)<|And.intro (qV_loadC (w:=w) (k:=k) ty9)<|And.intro (qV_loadKB (w:=w) (k:=k) ty9)<|And.intro (qV_loadC (w:=w) (k:=k) ty22)<|And.intro ((by intro b o;exact qV_loadA ty24 b o _ rfl):(∀ b o,qV Pg (EC w) (Instr.loadAt 24 (.pointer (some ⟨b,o,none⟩))) k=onCells [w.cell? ⟨b,o,none⟩,w.cell? ⟨b,o+1,none⟩,w.cell? ⟨b,o+2,none⟩] (fun vs=>k (.agg vs.toArray)) (qVx Pg (EC w) (Instr.loadAt 24 (.pointer (some ⟨b,o,none⟩))) k)))<|And.intro (qV_loadC (w:=w) (k:=k) ty27)<|And.intro (qV_loadKB (w:=w) (k:=k) ty27)<|And.intro (qV_loadC (w:=w) (k:=k) ty32)<|And.intro (qV_loadKB (w:=w) (k:=k) ty32)<|And.intro (qV_loadC (w:=w) (k:=k) ty34)<|And.intro ((by intro b o;exact qV_loadA ty36 b o _ rfl):(∀ b o,qV Pg (EC w) (Instr.loadAt 36 (.pointer (some ⟨b,o,none⟩))) k=onCells [w.cell? ⟨b,o,none⟩,w.cell? ⟨b,o+1,none⟩,w.cell? ⟨b,o+2,none⟩,w.cell? ⟨b,o+3,none⟩,w.cell? ⟨b,o+4,none⟩,w.cell? ⟨b,o+5,none⟩] (fun vs=>k (.agg vs.toArray)) (qVx Pg (EC w) (Instr.loadAt 36 (.pointer (some ⟨b,o,none⟩))) k)))<|And.intro (qV_loadC (w:=w) (k:=k) ty51)<|And.intro ((by intro b o;exact qV_loadA ty53 b o _ rfl):(∀ b o,qV Pg (EC w) (Instr.loadAt 53 (.pointer (some ⟨b,o,none⟩))) k=onCells [w.cell? ⟨b,o,none⟩,w.cell? ⟨b,o+1,none⟩] (fun vs=>k (.agg vs.toArray)) (qVx Pg (EC w) (Instr.loadAt 53 (.pointer (some ⟨b,o,none⟩))) k)))<|And.intro (qV_loadC (w:=w) (k:=k) ty59)<|And.intro (qV_loadKB (w:=w) (k:=k) ty59)<|And.intro (qV_loadC (w:=w) (k:=k) ty65)<|And.intro (qV_loadC (w:=w) (k:=k) ty66)<|And.intro ((by intro b o;exact qV_loadA ty68 b o _ rfl):(∀ b o,qV Pg (EC w) (Instr.loadAt 68 (.pointer (some ⟨b,o,none⟩))) k=onCells [w.cell? ⟨b,o,none⟩,w.cell? ⟨b,o+1,none⟩] (fun vs=>k (.agg vs.toArray)) (qVx Pg (EC w) (Instr.loadAt 68 (.pointer (some ⟨b,o,none⟩))) k)))<|And.intro (qV_loadC (w:=w) (k:=k) ty69)<|And.intro ((by intro b o;exact qV_loadA ty71 b o _ rfl):(∀ b o,qV Pg (EC w) (Instr.loadAt 71 (.pointer (some ⟨b,o,none⟩))) k=onCells [w.cell? ⟨b,o,none⟩,w.cell? ⟨b,o+1,none⟩,w.cell? ⟨b,o+2,none⟩,w.cell? ⟨b,o+3,none⟩,w.cell? ⟨b,o+4,none⟩,w.cell? ⟨b,o+5,none⟩,w.cell? ⟨b,o+6,none⟩,w.cell? ⟨b,o+7,none⟩,w.cell? ⟨b,o+8,none⟩,w.cell? ⟨b,o+9,none⟩,w.cell? ⟨b,o+10,none⟩,w.cell? ⟨b,o+11,none⟩,w.cell? ⟨b,o+12,none⟩,w.cell? ⟨b,o+13,none⟩,w.cell? ⟨b,o+14,none⟩] (fun vs=>k (.agg vs.toArray)) (qVx Pg (EC w) (Instr.loadAt 71 (.pointer (some ⟨b,o,none⟩))) k)))<|And.intro ((by intro b o;exact qV_loadA ty85 b o _ rfl):(∀ b o,qV Pg (EC w) (Instr.loadAt 85 (.pointer (some ⟨b,o,none⟩))) k=onCells [w.cell? ⟨b,o,none⟩,w.cell? ⟨b,o+1,none⟩,w.cell? ⟨b,o+2,none⟩] (fun vs=>k (.agg vs.toArray)) (qVx Pg (EC w) (Instr.loadAt 85 (.pointer (some ⟨b,o,none⟩))) k)))<|And.intro (qV_loadC (w:=w) (k:=k) ty99)<|(qV_loadKB (w:=w) (k:=k) ty99)
def OPW1 {w:World} {k:Value→Prop}:=And.intro ((by intro b o;exact qV_loadA ty113 b o _ rfl):(∀ b o,qV Pg (EC w) (Instr.loadAt 113 (.pointer (some ⟨b,o,none⟩))) k=onCells [w.cell? ⟨b,o,none⟩,w.cell? ⟨b,o+1,none⟩] (fun vs=>k (.agg vs.toArray)) (qVx Pg (EC w) (Instr.loadAt 113 (.pointer (some ⟨b,o,none⟩))) k)))<|And.intro (qV_loadC (w:=w) (k:=k) ty151)<|And.intro (qV_loadKB (w:=w) (k:=k) ty151)<|And.intro (qW_loadC (w:=w) (k:=k) ty3)<|And.intro (qW_loadC (w:=w) (k:=k) ty4)<|And.intro ((by intro b o;exact qW_loadA ty24 b o _ rfl):(∀ b o,qW Pg 24 (.pointer (some ⟨b,o,none⟩)) w k=onCells [w.cell? ⟨b,o,none⟩,w.cell? ⟨b,o+1,none⟩,w.cell? ⟨b,o+2,none⟩] (fun vs=>k (.agg vs.toArray)) (qWx Pg 24 (.pointer (some ⟨b,o,none⟩)) w k)))<|And.intro ((by intro b o;exact qW_loadA ty36 b o _ rfl):(∀ b o,qW Pg 36 (.pointer (some ⟨b,o,none⟩)) w k=onCells [w.cell? ⟨b,o,none⟩,w.cell? ⟨b,o+1,none⟩,w.cell? ⟨b,o+2,none⟩,w.cell? ⟨b,o+3,none⟩,w.cell? ⟨b,o+4,none⟩,w.cell? ⟨b,o+5,none⟩] (fun vs=>k (.agg vs.toArray)) (qWx Pg 36 (.pointer (some ⟨b,o,none⟩)) w k)))<|And.intro (qW_loadC (w:=w) (k:=k) ty37)<|((by intro b o;exact qW_loadA ty92 b o _ rfl):(∀ b o,qW Pg 92 (.pointer (some ⟨b,o,none⟩)) w k=onCells [w.cell? ⟨b,o,none⟩,w.cell? ⟨b,o+1,none⟩,w.cell? ⟨b,o+2,none⟩] (fun vs=>k (.agg vs.toArray)) (qWx Pg 92 (.pointer (some ⟨b,o,none⟩)) w k)))
def OPW2 {w:World} {k:Value→Prop}:=And.intro ((by intro b o;exact qW_loadA ty145 b o _ rfl):(∀ b o,qW Pg 145 (.pointer (some ⟨b,o,none⟩)) w k=onCells [w.cell? ⟨b,o,none⟩,w.cell? ⟨b,o+1,none⟩,w.cell? ⟨b,o+2,none⟩,w.cell? ⟨b,o+3,none⟩,w.cell? ⟨b,o+4,none⟩,w.cell? ⟨b,o+5,none⟩,w.cell? ⟨b,o+6,none⟩,w.cell? ⟨b,o+7,none⟩,w.cell? ⟨b,o+8,none⟩,w.cell? ⟨b,o+9,none⟩,w.cell? ⟨b,o+10,none⟩,w.cell? ⟨b,o+11,none⟩,w.cell? ⟨b,o+12,none⟩] (fun vs=>k (.agg vs.toArray)) (qWx Pg 145 (.pointer (some ⟨b,o,none⟩)) w k)))<|((by intro b o;exact qW_loadA ty223 b o _ rfl):(∀ b o,qW Pg 223 (.pointer (some ⟨b,o,none⟩)) w k=onCells [w.cell? ⟨b,o,none⟩,w.cell? ⟨b,o+1,none⟩] (fun vs=>k (.agg vs.toArray)) (qWx Pg 223 (.pointer (some ⟨b,o,none⟩)) w k)))
def OPQ0 {C:World→Prop} [ClassNe C] {k:Value→Prop}:=And.intro ((by intros;apply qV_of;intros;apply o10<;>assumption):(∀ r a n c,qV Pg C (Builtin.len_ #[22] r #[.slice a n c]) k=k (.int .i64 (n:Int))))<|And.intro ((by intros;apply qV_of;intros;apply o11<;>assumption):(∀ b o len cap ik (i:Nat),i < len→qV Pg C (Instr.indexAt 22 (.slice (some ⟨b,o,none⟩) len cap) (.int ik (i:Int))) k=k (.pointer (some ⟨b,o+i*2,none⟩))))<|And.intro (qV_two (C:=C) (k:=k) fun QP w k => @o13 QP w k)<|And.intro (qV_two (C:=C) (k:=k) fun QP w k => @o14 QP w k)<|And.intro ((by intros;apply qV_of;intros;apply o21<;>assumption):(∀ r a n c,qV Pg C (Builtin.len_ #[32] r #[.slice a n c]) k=k (.int .i64 (n:Int))))<|And.intro ((by intros;apply qV_of;intros;apply o22<;>assumption):(∀ b o len cap ik (i:Nat),i < len→qV Pg C (Instr.indexAt 32 (.slice (some ⟨b,o,none⟩) len cap) (.int ik (i:Int))) k=k (.pointer (some ⟨b,o+i*6,none⟩))))<|And.intro (qV_two (C:=C) (k:=k) fun QP w k => @o25 QP w k)<|And.intro (qV_two (C:=C) (k:=k) fun QP w k => @o26 QP w k)<|And.intro (qV_two (C:=C) (k:=k) fun QP w k => @o27 QP w k)<|And.intro (qV_two (C:=C) (k:=k) fun QP w k => @o28 QP w k)<|And.intro (qV_two (C:=C) (k:=k) fun QP w k => @o29 QP w k)<|And.intro (qV_two (C:=C) (k:=k) fun QP w k => @o30 QP w k)<|And.intro ((by intros;apply qV_of;intros;apply o36<;>assumption):(∀ b o len cap ik (i:Nat),i < len→qV Pg C (Instr.indexAt 51 (.slice (some ⟨b,o,none⟩) len cap) (.int ik (i:Int))) k=k (.pointer (some ⟨b,o+i*15,none⟩))))<|And.intro (qV_two (C:=C) (k:=k) fun QP w k => @o37 QP w k)<|And.intro (qV_two (C:=C) (k:=k) fun QP w k => @o38 QP w k)<|And.intro (qV_two (C:=C) (k:=k) fun QP w k => @o41 QP w k)<|And.intro (qV_two (C:=C) (k:=k) fun QP w k => @o43 QP w k)<|And.intro (qV_two (C:=C) (k:=k) fun QP w k => @o44 QP w k)<|And.intro (qV_two (C:=C) (k:=k) fun QP w k => @o45 QP w k)<|And.intro (qV_two (C:=C) (k:=k) fun QP w k => @o46 QP w k)<|And.intro ((by intros;apply qV_of;intros;apply o49<;>assumption):(∀ r a n c,qV Pg C (Builtin.len_ #[66] r #[.slice a n c]) k=k (.int .i64 (n:Int))))<|And.intro ((by intros;apply qV_of;intros;apply o50<;>assumption):(∀ b o len cap ik (i:Nat),i < len→qV Pg C (Instr.indexAt 66 (.slice (some ⟨b,o,none⟩) len cap) (.int ik (i:Int))) k=k (.pointer (some ⟨b,o+i*2,none⟩))))<|And.intro (qV_two (C:=C) (k:=k) fun QP w k => @o52 QP w k)<|And.intro (qV_two (C:=C) (k:=k) fun QP w k => @o53 QP w k)<|And.intro ((by intros;apply qV_of;intros;apply o57<;>assumption):(∀ b o len cap ik (i:Nat),i < len→qV Pg C (Instr.indexAt 69 (.slice (some ⟨b,o,none⟩) len cap) (.int ik (i:Int))) k=k (.pointer (some ⟨b,o+i*3,none⟩))))<|And.intro (qV_two (C:=C) (k:=k) fun QP w k => @o58 QP w k)<|And.intro (qV_two (C:=C) (k:=k) fun QP w k => @o59 QP w k)<|And.intro (qV_two (C:=C) (k:=k) fun QP w k => @o60 QP w k)<|And.intro (qV_two (C:=C) (k:=k) fun QP w k => @o63 QP w k)<|And.intro (qV_two (C:=C) (k:=k) fun QP w k => @o64 QP w k)<|(qV_two (C:=C) (k:=k) fun QP w k => @o65 QP w k)
def OPQ1 {C:World→Prop} [ClassNe C] {k:Value→Prop}:=And.intro (qV_two (C:=C) (k:=k) fun QP w k => @o66 QP w k)<|And.intro (qV_two (C:=C) (k:=k) fun QP w k => @o67 QP w k)<|And.intro (qV_two (C:=C) (k:=k) fun QP w k => @o68 QP w k)<|And.intro (qV_two (C:=C) (k:=k) fun QP w k => @o69 QP w k)<|And.intro ((by intros;apply qV_of;intros;apply o75<;>assumption):(∀ b o len cap ik (i:Nat),i < len→qV Pg C (Instr.indexAt 75 (.slice (some ⟨b,o,none⟩) len cap) (.int ik (i:Int))) k=k (.pointer (some ⟨b,o+i*1,none⟩))))<|And.intro ((by intros;apply qV_of;intros;apply o78<;>assumption):(∀ b o len cap ik (i:Nat),i < len→qV Pg C (Instr.indexAt 80 (.slice (some ⟨b,o,none⟩) len cap) (.int ik (i:Int))) k=k (.pointer (some ⟨b,o+i*1,none⟩))))<|And.intro (qV_two (C:=C) (k:=k) fun QP w k => @o80 QP w k)<|And.intro (qV_two (C:=C) (k:=k) fun QP w k => @o81 QP w k)<|And.intro (qV_two (C:=C) (k:=k) fun QP w k => @o82 QP w k)<|And.intro (qV_two (C:=C) (k:=k) fun QP w k => @o88 QP w k)<|And.intro (qV_two (C:=C) (k:=k) fun QP w k => @o89 QP w k)<|And.intro (qV_two (C:=C) (k:=k) fun QP w k => @o94 QP w k)<|And.intro (qV_two (C:=C) (k:=k) fun QP w k => @o95 QP w k)<|And.intro (qV_two (C:=C) (k:=k) fun QP w k => @o113 QP w k)<|And.intro (qV_two (C:=C) (k:=k) fun QP w k => @o114 QP w k)<|And.intro (qV_two (C:=C) (k:=k) fun QP w k => @o115 QP w k)<|And.intro (qV_two (C:=C) (k:=k) fun QP w k => @o116 QP w k)<|And.intro (qV_two (C:=C) (k:=k) fun QP w k => @o117 QP w k)<|((by intros;apply qV_of;intros;apply o138<;>assumption):(∀ v0 v1 v2 v3 v4 v5:Value,v0.oneCell'=true→v1.oneCell'=true→v2.oneCell'=true→v3.oneCell'=true→v4.oneCell'=true→v5.oneCell'=true→qV Pg C (Instr.build 36 #[(0,v0),(1,v1),(2,v2),(3,v3),(4,v4),(5,v5)]) k=k (.agg #[v0,v1,v2,v3,v4,v5])))
def OPQ2 {C:World→Prop} [ClassNe C] {k:Value→Prop}:=And.intro ((by intros;apply qV_of;intros;apply o140<;>assumption):(∀ v1:Value,v1.oneCell'=true→qV Pg C (Instr.build 53 #[(1,v1)]) k=k (.agg #[.string ByteArray.empty,v1])))<|And.intro ((by intros;apply qV_of;intros;apply o155<;>assumption):(∀ v0 v1 v2:Value,v0.oneCell'=true→v1.oneCell'=true→v2.oneCell'=true→qV Pg C (Instr.build 92 #[(0,v0),(1,v1),(2,v2)]) k=k (.agg #[v0,v1,v2])))<|((by intros;apply qV_of;intros;apply o194<;>assumption):(∀ v,qV Pg C (Instr.makeInterface 92 v) k=k (.iface 92 v)))
def OPQ3 {C:World→Prop} [ClassNe C] {k:Value→Prop}:=And.intro ((by intros;apply qV_of;intros;apply o200<;>assumption):(∀ c (a0 b0:Int) (a1 b1:Int) (a2 b2:Int) (a3 b3:Int) (a4 b4:Int) (a5 b5:Int),qV Pg C (binS .neq 36 c (.agg #[.int .i64 a0,.int .i64 a1,.int .i64 a2,.int .i64 a3,.int .i64 a4,.int .i64 a5]) (.agg #[.int .i64 b0,.int .i64 b1,.int .i64 b2,.int .i64 b3,.int .i64 b4,.int .i64 b5])) k=k (.bool (!(decide (a0=b0)&&(decide (a1=b1)&&(decide (a2=b2)&&(decide (a3=b3)&&(decide (a4=b4)&&(decide (a5=b5)&&true))))))))))<|And.intro ((by intros;apply qV_of;intros;apply o207<;>assumption):(∀ c (a0 b0:Int) (a1 b1:Int) (a2 b2:ByteArray),qV Pg C (binS .neq 85 c (.agg #[.int .i64 a0,.int .i64 a1,.string a2]) (.agg #[.int .i64 b0,.int .i64 b1,.string b2])) k=k (.bool (!(decide (a0=b0)&&(decide (a1=b1)&&(decide (a2=b2)&&true)))))))<|And.intro ((by intros;apply qV_of;intros;apply o209<;>assumption):(∀ c (a0 b0:ByteArray) (a1 b1:Int),qV Pg C (binS .neq 113 c (.agg #[.string a0,.int .i64 a1]) (.agg #[.string b0,.int .i64 b1])) k=k (.bool (!(decide (a0=b0)&&(decide (a1=b1)&&true))))))<|((by intros;apply qV_of;intros;apply o210<;>assumption):(∀ c (a0 b0:ByteArray) (a1 b1:ByteArray) (a2 b2:ByteArray) (a3 b3:ByteArray) (a4 b4:Int) (a5 b5:Int) (a6 b6:Int) (a7 b7:Int) (a8 b8:Int) (a9 b9:Int) (a10 b10:Int) (a11 b11:Bool) (a12 b12:Bool),qV Pg C (binS .eql 145 c (.agg #[.string a0,.string a1,.string a2,.string a3,.int .i64 a4,.int .i64 a5,.int .i64 a6,.int .i64 a7,.int .i64 a8,.int .i64 a9,.int .i64 a10,.bool a11,.bool a12]) (.agg #[.string b0,.string b1,.string b2,.string b3,.int .i64 b4,.int .i64 b5,.int .i64 b6,.int .i64 b7,.int .i64 b8,.int .i64 b9,.int .i64 b10,.bool b11,.bool b12])) k=k (.bool (decide (a0=b0)&&(decide (a1=b1)&&(decide (a2=b2)&&(decide (a3=b3)&&(decide (a4=b4)&&(decide (a5=b5)&&(decide (a6=b6)&&(decide (a7=b7)&&(decide (a8=b8)&&(decide (a9=b9)&&(decide (a10=b10)&&(decide (a11=b11)&&(decide (a12=b12)&&true))))))))))))))))
end
def PR:=And.intro @GEN<|And.intro @op_makeMap<|And.intro @CTL<|And.intro @GENQ<|And.intro @o0<|And.intro @o1<|And.intro @o2<|And.intro @o3<|And.intro @o5<|And.intro @o6<|And.intro @o7<|And.intro @o8<|And.intro @o9<|And.intro @o10<|And.intro @o11<|And.intro @o12<|And.intro @o13<|And.intro @o14<|And.intro @o15<|And.intro @o16<|And.intro @o17<|And.intro @o18<|And.intro @o19<|And.intro @o20<|And.intro @o21<|And.intro @o22<|And.intro @o23<|And.intro @o24<|And.intro @o25<|And.intro @o26<|And.intro @o27<|And.intro @o28<|And.intro @o30<|And.intro @o31<|And.intro @o32<|And.intro @o33<|And.intro @o34<|And.intro @o35<|And.intro @o36<|And.intro @o37<|And.intro @o38<|And.intro @o39<|And.intro @o40<|And.intro @o41<|And.intro @o42<|And.intro @o43<|And.intro @o44<|And.intro @o45<|And.intro @o46<|And.intro @o47<|And.intro @o48<|And.intro @o49<|And.intro @o50<|And.intro @o51<|And.intro @o52<|And.intro @o53<|And.intro @o54<|And.intro @o55<|And.intro @o56<|And.intro @o57<|And.intro @o58<|And.intro @o59<|And.intro @o60<|And.intro @o61<|And.intro @o62<|And.intro @o63<|And.intro @o64<|And.intro @o65<|And.intro @o66<|And.intro @o67<|And.intro @o68<|And.intro @o69<|And.intro @o70<|And.intro @o71<|And.intro @o72<|And.intro @o73<|And.intro @o74<|And.intro @o75<|And.intro @o76<|And.intro @o77<|And.intro @o78<|And.intro @o79<|And.intro @o80<|And.intro @o81<|And.intro @o82<|And.intro @o83<|And.intro @o84<|And.intro @o85<|And.intro @o86<|And.intro @o87<|And.intro @o89<|And.intro @o90<|And.intro @o91<|And.intro @o92<|And.intro @o93<|And.intro @o94<|And.intro @o95<|And.intro @o96<|And.intro @o97<|And.intro @o98<|And.intro @o101<|And.intro @o102<|And.intro @o106<|And.intro @o107<|And.intro @o108<|And.intro @o109<|And.intro @o110<|And.intro @o111<|And.intro @o112<|And.intro @o113<|And.intro @o114<|And.intro @o115<|And.intro @o116<|And.intro @o120<|And.intro @o121<|And.intro @o122<|And.intro @o123<|And.intro @o124<|And.intro @o125<|And.intro @o126<|And.intro @o127<|And.intro @o128<|And.intro @o129<|And.intro @o130<|And.intro @o131<|And.intro @o132<|And.intro @o133<|And.intro @o134<|And.intro @o135<|And.intro @o136<|And.intro @o137<|And.intro @o138<|And.intro @o139<|And.intro @o140<|And.intro @o141<|And.intro @o142<|And.intro @o143<|And.intro @o144<|And.intro @o145<|And.intro @o147<|And.intro @o148<|And.intro @o149<|And.intro @o150<|And.intro @o151<|And.intro @o152<|And.intro @o153<|And.intro @o154<|And.intro @o155<|And.intro @o156<|And.intro @o157<|And.intro @o158<|And.intro @o159<|And.intro @o160<|And.intro @o161<|And.intro @o162<|And.intro @o163<|And.intro @o165<|And.intro @o166<|And.intro @o167<|And.intro @o168<|And.intro @o169<|And.intro @o170<|And.intro @o171<|And.intro @o172<|And.intro @o173<|And.intro @o174<|And.intro @o175<|And.intro @o176<|And.intro @o177<|And.intro @o178<|And.intro @o179<|And.intro @o180<|And.intro @o181<|And.intro @o182<|And.intro @o183<|And.intro @o185<|And.intro @o198<|And.intro @o199<|And.intro @o200<|And.intro @o202<|And.intro @o203<|And.intro @o204<|And.intro @o205<|And.intro @OPU0<|And.intro @OPW0<|And.intro @OPW1<|And.intro @OPW2<|And.intro @OPQ0<|And.intro @OPQ1<|And.intro @OPQ2<|And.intro @OPQ3<|And.intro @joinK_eq<|And.intro @op_rem<|And.intro @qV_shl <| @guard_undef
def QR:=And.intro @OPA0<|And.intro @dirty_eq<|And.intro @onCells_nil<|And.intro @onCells_some<|And.intro @onFree_nil<|And.intro @onFree_false<|And.intro @guard_or<|And.intro @guard_and<|And.intro @STD<|And.intro @heap_newE<|And.intro @heap_oldE<|And.intro @heap_setE<|And.intro @cell_newE<|And.intro @frozen_newE<|And.intro @set_newE<|And.intro @cell_old<|And.intro @frozen_old<|And.intro @set_old<|And.intro @wrap_succ<|And.intro @List.setIfInBounds_toArray.{0}<|And.intro @List.set_cons_zero.{0}<|And.intro @List.set_cons_succ.{0}<|And.intro @decide_true<|And.intro @decide_false<|And.intro @Bool.false_eq_true<|And.intro @if_false.{1}<|And.intro @if_true.{1}<|And.intro @Option.isSome_some.{0}<|And.intro @Option.isSome_none.{0}<|And.intro @Option.getD_some.{0}<|And.intro @Option.getD_none.{0}<|And.intro @cell_set_map<|And.intro @cell_set_other<|And.intro @Option.map_some.{0,0}<|And.intro @List.getElem?_toArray.{0}<|And.intro @List.getElem?_cons_succ.{0}<|And.intro @List.getElem?_cons_zero.{0}<|And.intro @Nat.zero_add<|And.intro @Nat.add_zero<|And.intro @World.size_alloc<|And.intro @World.size_setCell<|And.intro @World.size_drew<|And.intro @Bool.not_true<|And.intro @Bool.not_false<|And.intro @Bool.and_true<|And.intro @Bool.true_and<|And.intro @Bool.and_false<|And.intro @Bool.false_and<|And.intro @Bool.or_true<|And.intro @Bool.true_or<|And.intro @Bool.or_false <| @Bool.false_or
theorem SZ:type_of% (And.intro @World.size_alloc<|And.intro @World.size_setCell<|And.intro @World.size_drew<|And.intro @World.putObj_size <| @putW_size):=(And.intro @World.size_alloc<|And.intro @World.size_setCell<|And.intro @World.size_drew<|And.intro @World.putObj_size <| @putW_size)
theorem DI {p:Prop} (h:p:=by first | assumption | (simp only [ONE];done) | rfl | (simp only [SZ];done) | omega | (simp only [SZ] at *;omega)):p:=h
theorem ee {a b:World} (h:Ext a b:=by repeat' first | exact Ext.refl _ | assumption | apply Ext.alloc | apply Ext.wdrew | apply Ext.drew | (refine Ext.setCell ?_ (by first | omega | (simp only [SZ] at *;omega)) _) | (refine Ext.putObj ?_ (by first | omega | (simp only [SZ] at *;omega)) _) | (refine Ext.trans ?_ (by assumption))):Ext a b:=h
structure TermD where
 field:ByteArray
 factor:Int
 deriving DecidableEq
structure CaseD where
 low:Int
 high:Int
 of:ByteArray
 deriving DecidableEq
structure FieldD where
 name:ByteArray
 kind:Int
 bits:Int
 little:Bool
 loose:Bool
 low:Int
 high:Int
 base:Int
 terms:List TermD
 of:ByteArray
 tag:ByteArray
 fr:ByteArray
 cases:List CaseD
 check:Int
 key:Int
 deriving DecidableEq
structure MsgD where
 name:ByteArray
 fields:List FieldD
 deriving DecidableEq
structure DefD where
 name:ByteArray
 msgs:List MsgD
 start:ByteArray
 deriving DecidableEq
abbrev termCells (t:TermD):List Value:=[.string t.field,.int .i64 t.factor]
abbrev caseCells (c:CaseD):List Value:=[.int .i64 c.low,.int .i64 c.high,.string c.of]
abbrev fieldCells (f:FieldD) (tv cv:Value):List Value:=[.string f.name,.int .i64 f.kind,.int .i64 f.bits,.bool f.little,.bool f.loose,.int .i64 f.low,.int .i64 f.high,.int .i64 f.base,tv,.string f.of,.string f.tag,.string f.fr,cv,.int .i64 f.check,.int .i64 f.key]
abbrev msgCells (m:MsgD) (fv:Value):List Value:=[.string m.name,fv]
abbrev defCells (d:DefD) (mv:Value):List Value:=[.string d.name,mv,.string d.start]
def ETerm (_:World) (cs:List Value) (t:TermD):Prop:=cs=termCells t
def ECase (_:World) (cs:List Value) (c:CaseD):Prop:=cs=caseCells c
def TermsOf (w:World) (v:Value) (l:List TermD):Prop:=SliceOf w 2 ETerm v l
def CasesOf (w:World) (v:Value) (l:List CaseD):Prop:=SliceOf w 3 ECase v l
def EField (w:World) (cs:List Value) (f:FieldD):Prop:=∃ tv cv,cs=fieldCells f tv cv∧TermsOf w tv f.terms∧CasesOf w cv f.cases
def FieldsOf (w:World) (v:Value) (l:List FieldD):Prop:=SliceOf w 15 EField v l
def EMsg (w:World) (cs:List Value) (m:MsgD):Prop:=∃ fv,cs=msgCells m fv∧FieldsOf w fv m.fields
def MsgsOf (w:World) (v:Value) (l:List MsgD):Prop:=SliceOf w 2 EMsg v l
def EByte (_:World) (cs:List Value) (b:UInt8):Prop:=cs=[.int .u8 b.toNat]
def EBool (_:World) (cs:List Value) (b:Bool):Prop:=cs=[.bool b]
def EStr (_:World) (cs:List Value) (s:ByteArray):Prop:=cs=[.string s]
def EInt (_:World) (cs:List Value) (n:Int):Prop:=cs=[.int .i64 n]
theorem keptTerm:Kept ETerm:=fun _ _ _ _ _ h=>h
theorem keptCase:Kept ECase:=fun _ _ _ _ _ h=>h
theorem keptStr:Kept EStr:=fun _ _ _ _ _ h=>h
theorem keptField:Kept EField:=fun _ _ _ _ e ⟨tv,cv,h,h1,h2⟩=>⟨tv,cv,h,h1.ext keptTerm e,h2.ext keptCase e⟩
theorem keptMsg:Kept EMsg:=fun _ _ _ _ e ⟨fv,h,h1⟩=>⟨fv,h,h1.ext keptField e⟩
theorem TermsOf.ext {w w':World} {v:Value} {l:List TermD} (h:TermsOf w v l) (e:Ext w w'):TermsOf w' v l:=SliceOf.ext keptTerm h e
theorem CasesOf.ext {w w':World} {v:Value} {l:List CaseD} (h:CasesOf w v l) (e:Ext w w'):CasesOf w' v l:=SliceOf.ext keptCase h e
theorem FieldsOf.ext {w w':World} {v:Value} {l:List FieldD} (h:FieldsOf w v l) (e:Ext w w'):FieldsOf w' v l:=SliceOf.ext keptField h e
theorem MsgsOf.ext {w w':World} {v:Value} {l:List MsgD} (h:MsgsOf w v l) (e:Ext w w'):MsgsOf w' v l:=SliceOf.ext keptMsg h e
theorem EField.op {w:World} {cs:List Value} {f:FieldD} (h:EField w cs f):∃ tv cv,cs=fieldCells f tv cv∧TermsOf w tv f.terms∧CasesOf w cv f.cases∧tv.oneCell'=true∧cv.oneCell'=true:=by
 obtain ⟨tv,cv,h1,h2,h3⟩:=h;exact ⟨tv,cv,h1,h2,h3,SliceOf.oneCell h2,SliceOf.oneCell h3⟩
def FieldVal (w:World) (v:Value) (f:FieldD):Prop:=∃ tv cv,v = .agg (fieldCells f tv cv).toArray∧TermsOf w tv f.terms∧CasesOf w cv f.cases
def MsgVal (w:World) (v:Value) (m:MsgD):Prop:=∃ fv,v = .agg (msgCells m fv).toArray∧FieldsOf w fv m.fields
def DefVal (w:World) (v:Value) (d:DefD):Prop:=∃ mv,v = .agg (defCells d mv).toArray∧MsgsOf w mv d.msgs
def SizeVal (w:World) (v:Value) (base:Int) (ts:List TermD):Prop:=∃ tv,v = .agg #[.int .i64 base,tv]∧TermsOf w tv ts
def termVal (t:TermD):Value := .agg (termCells t).toArray
theorem FieldVal.ext {w w':World} {v:Value} {f:FieldD} (h:FieldVal w v f) (e:Ext w w'):FieldVal w' v f:=by obtain ⟨tv,cv,h,h1,h2⟩:=h;exact ⟨tv,cv,h,h1.ext e,h2.ext e⟩
theorem FieldVal.op {w:World} {v:Value} {f:FieldD} (h:FieldVal w v f):∃ tv cv,v = .agg (fieldCells f tv cv).toArray∧TermsOf w tv f.terms∧CasesOf w cv f.cases∧tv.oneCell'=true∧cv.oneCell'=true:=by
 obtain ⟨tv,cv,h1,h2,h3⟩:=h;exact ⟨tv,cv,h1,h2,h3,SliceOf.oneCell h2,SliceOf.oneCell h3⟩
theorem MsgVal.ext {w w':World} {v:Value} {m:MsgD} (h:MsgVal w v m) (e:Ext w w'):MsgVal w' v m:=by obtain ⟨fv,h,h1⟩:=h;exact ⟨fv,h,h1.ext e⟩
def Tests {α:Type} (w0:World) (V:World→Value→α→Prop) (g:FuncId) (caps:Array Value) (p:α→Bool) (l:List α):Prop :=
 ∀ w v x,x∈l→Ext w0 w→V w v x→Ret Pg g (#[v]++caps) w fun r w'=>r = .bool (p x)∧Ext w w'
end Go.Proofs.YtfdecdnmooaegaaGreatDoor
namespace Go.Sw
section
variable {P:Program} {N:Nat} {ro:Option Nat} {QP:KP} {T:Env→List Deferred→World→Prop} {o:Oper} {rest:List Oper} {ρ:Env} {ds:List Deferred} {w:World}
theorem zm {v:Value} (h:denSeq P N ro QP T rest (put N ρ o.dst v) ds w) (hs:execOp (ev ρ) o=Sem.pure (.value v):=by exact rfl) (hd:isDefer o.op=false:=by exact rfl):denSeq P N ro QP T (o::rest) ρ ds w:=sim_move hd hs h
theorem zb {op:BinOp} {t ty:TypeId} {x y:Operand} {d:Nat} {t2:TypeId} {pos:String} {after:Array Edge} {g:Option (Nat×Bool)} {c:Bool} {a b:Value} {QP':List PanicEntry→World→Prop} {k:Value→World→Prop}
 (h:opV P (binS op t c a b) QP' w k) (hk:∀ v w',k v w'→denSeq P N ro QP T rest (put N ρ (some d) v) ds w') (hc:(isConst x||isConst y)=c:=by exact rfl) (h1:ev ρ x=a:=by exact rfl) (h2:ev ρ y=b:=by exact rfl) (hp:∀ ch w,QP' ch w→QP ch ρ ds w:=by exact fun _ _ h=>⟨rfl,h⟩) :
 denSeq P N ro QP T (⟨some d,.binOp op t x y t2,ty,pos,after,g⟩::rest) ρ ds w:=sim_bin h hc h1 h2 hp hk
theorem zt {S:List Nat} {J G:Env→World→Prop} (hT:∀ ρ' w,Fr S ρ ρ'→J ρ' w→G ρ' w) {ρ':Env} {w:World} (h:J ρ' w) (hf:Fr S ρ ρ':=by repeat (first | exact Fr.refl _ _ | refine Fr.put rfl ?_ | refine Fr.put_none ?_ | refine Fr.mix rfl ?_ | refine Fr.skipAll rfl ?_)):G ρ' w:=hT ρ' w hf h
end
theorem zr {P:Program} {N:Nat} {ro:Option Nat} {id:Nat} {l:List Oper} {Q:K} {QP:KP} {ρ:Env} {ds:List Deferred} {w:World} (h:denSeq P N ro QP (fun ρ ds w=>Q .normal ρ ds w) l ρ ds w) (hu:unguarded l=true:=by exact rfl):den P N ro (.region id l.toArray false) Q QP ρ ds w:=sim_region hu h
theorem zn:type_of% @sim_nil := @sim_nil
theorem zk:type_of% @sim_then := @sim_then
theorem zs:type_of% @sim_seq := @sim_seq
end Go.Sw
namespace Go.Sw
open Go.RowKit (Below)
structure LW (B:Nat) (w w':World):Prop where
 os:w'.os=w.os
 tape:w'.tape=w.tape
 output:w'.output=w.output
 size:w.heap.size≤w'.heap.size
 block:∀ b,b < w.heap.size→w'.heap[b]?=w.heap[b]?∨(B≤b∧((∃ r,w.heap[b]?=some (.loop r))∨∃ d,w.heap[b]?=some (.deferred d)))
theorem LW.mono {B B':Nat} {w w':World} (h:LW B w w') (hb:B'≤B):LW B' w w':=⟨h.os,h.tape,h.output,h.size,fun b hl=>(h.block b hl).imp_right fun h=>⟨by omega,h.2⟩⟩
theorem LW.of {B:Nat} {w w':World} (e:Ext w w'):LW B w w':=⟨e.os,e.tape,e.output,e.size,fun b hb => .inl (e.block b hb)⟩
theorem LW.loop {B l:Nat} {w:World} {r:Loop} (hb:B≤l) (hl:w.heap[l]?=some (.loop r)) (o:Obj):LW B w (w.putObj l o):=⟨rfl,rfl,rfl,by simp,fun b _=>by
 by_cases e:b=l
 · exact .inr ⟨by omega,.inl ⟨r,by rw [e];exact hl⟩⟩
 · exact .inl (World.putObj_heap_other e)⟩
def Lasts2 (B:Nat) (I:World→Prop):Prop:=∀ w w',LW B w w'→I w→I w'
theorem Lasts2.ext {B:Nat} {I:World→Prop} (h:Lasts2 B I) {w w':World} (hI:I w) (e:Ext w w'):I w':=h _ _ (.of e) hI
theorem Lasts2.loop {B l:Nat} {I:World→Prop} (h:Lasts2 B I) {w:World} {r:Loop} (hb:B≤l) (hI:I w) (hl:w.heap[l]?=some (.loop r)) (o:Obj):I (w.putObj l o):=h _ _ (.loop hb hl o) hI
theorem Lasts2.busied {B l:Nat} {I:World→Prop} {w w':World} (h:Lasts2 B I) (hb:Busied l w w') (hl:B≤l) (hI:I w):I w':=by
 obtain ⟨r,hr,rfl⟩:=hb
 exact h.loop hl hI hr _
theorem Lasts2.mono {B B':Nat} {I:World→Prop} (h:Lasts2 B I) (hb:B≤B'):Lasts2 B' I:=fun _ _ hl=>h _ _ (hl.mono hb)
theorem Lasts2.and {B:Nat} {I J:World→Prop} (h:Lasts2 B I) (k:Lasts2 B J):Lasts2 B (fun w=>I w∧J w):=fun w w' hl hh=>⟨h _ _ hl hh.1,k _ _ hl hh.2⟩
theorem Lasts2.ex {B:Nat} {α:Sort _} {I:α→World→Prop} (h:∀ x,Lasts2 B (I x)):Lasts2 B (fun w=>∃ x,I x w):=fun w w' hl ⟨x,hx⟩=>⟨x,h x _ _ hl hx⟩
theorem Lasts2.const (B:Nat) (p:Prop):Lasts2 B (fun _=>p):=fun _ _ _ h=>h
theorem Lasts2.from {B:Nat} {w0:World} (hb:w0.heap.size≤B):Lasts2 B (Ext w0):=fun w w' hl e=>⟨hl.os.trans e.os,hl.tape.trans e.tape,hl.output.trans e.output,Nat.le_trans e.size hl.size,fun k hk=>by
 have:=e.size
 rcases hl.block k (by omega) with h | ⟨h,_⟩
 · rw [h];exact e.block k hk
 · omega⟩
theorem Lasts2.has (B:Nat) {b:Nat} {o:Obj} (h1:∀ r,o ≠ .loop r) (h2:∀ d,o ≠ .deferred d):Lasts2 B (fun w=>w.heap[b]?=some o):=fun w w' hl h=>by
 rcases hl.block b (Array.getElem?_eq_some_iff.1 h).1 with e | ⟨_,⟨r,e⟩ | ⟨d,e⟩⟩
 · rw [e];exact h
 · rw [h] at e;injection e with e;exact absurd e (h1 r)
 · rw [h] at e;injection e with e;exact absurd e (h2 d)
theorem Lasts2.low {B b:Nat} (hb:b < B) (o:Obj):Lasts2 B (fun w=>w.heap[b]?=some o):=fun w w' hl h=>by
 rcases hl.block b (Array.getElem?_eq_some_iff.1 h).1 with e | ⟨e,_⟩
 · rw [e];exact h
 · omega
def KR (B:Nat) (w w':World):Prop:=w.heap.size≤w'.heap.size∧(∀ (b:Nat) (r:Loop),w.heap[b]?=some (.loop r)→∃ st p,w'.heap[b]?=some (.loop { r with state:=st,pending:=p })) ∧
 (∀ (b:Nat),w.heap[b]?=some (.deferred (some []))→w'.heap[b]?=some (.deferred (some [])))∧∀ (b:Nat),B≤b→b < w.heap.size→(∀ r,w.heap[b]?≠some (.loop r))→w'.heap[b]?=w.heap[b]?
section
variable {B:Nat} {w w1 w2:World}
theorem KR.refl (B:Nat) (w:World):KR B w w:=⟨Nat.le_refl _,fun b r h=>⟨r.state,r.pending,h⟩,fun _ h=>h,fun _ _ _ _=>rfl⟩
theorem KR.of (e:Ext w w1):KR B w w1:=⟨e.size,fun b r h=>⟨r.state,r.pending,e.obj h⟩,fun _ h=>e.obj h,fun b _ hl _=>e.block b hl⟩
theorem KR.setCell (h:KR B w w1) (b o:Nat) (v:Value) (hb:b < B∨w.heap.size≤b):KR B w (w1.setCell ⟨b,o,none⟩ v):=⟨by simpa using h.1,fun b r hb=>by
 obtain ⟨st,p,h1⟩:=h.2.1 b r hb
 exact ⟨st,p,(KeepsOthers.setCell w1 _ v).same _ _ h1 rfl⟩,fun b hb=>(KeepsOthers.setCell w1 _ v).same _ _ (h.2.2.1 b hb) rfl,fun b' hb' hl hr=>by
 rw [heap_setE (by omega)];exact h.2.2.2 b' hb' hl hr⟩
theorem KR.turn {l:Nat} {r:Loop} (hl:w.heap[l]?=some (.loop r)) (st:LoopState) (p:Option Code):KR B w (w.putObj l (.loop { r with state:=st,pending:=p })):=⟨by simp,fun b r' hb=>by
 by_cases e:b=l
 · subst e
   rw [hl] at hb;injection hb with hb;injection hb with hb;subst hb
   exact ⟨st,p,World.putObj_heap_same (Array.getElem?_eq_some_iff.1 hl).1⟩
 · rw [World.putObj_heap_other e];exact ⟨r'.state,r'.pending,hb⟩,fun b hb=>by
 by_cases e:b=l
 · subst e;rw [hl] at hb;cases hb
 · rw [World.putObj_heap_other e];exact hb,fun b _ _ hr=>by
 by_cases e:b=l
 · subst e;exact absurd hl (hr _)
 · rw [World.putObj_heap_other e]⟩
theorem KR.busied {l:Nat} (h:Busied l w w1):KR B w w1:=by
 obtain ⟨r,hr,rfl⟩:=h
 exact KR.turn hr .busy r.pending
end
def Firm (B:Nat) (R:World→Prop):Prop:=∀ w w',KR B w w'→R w→R w'
theorem RecAt.firm (rec:Loop) (B b:Nat):Firm B (RecAt rec b):=fun w w' h ⟨h1,st,p,h2⟩=>by
 obtain ⟨st',p',h3⟩:=h.2.1 _ _ h2
 exact ⟨h.2.2.1 _ h1,st',p',h3⟩
theorem Firm.and {B:Nat} {R S:World→Prop} (h:Firm B R) (k:Firm B S):Firm B (fun w=>R w∧S w):=fun w w' e hh=>⟨h _ _ e hh.1,k _ _ e hh.2⟩
theorem Firm.true {B:Nat}:Firm B (fun _=>True):=fun _ _ _ _=>trivial
theorem Firm.has {B b:Nat} {o:Obj} (hb:B≤b) (ho:∀ r,o ≠ .loop r):Firm B (fun w=>w.heap[b]?=some o):=fun w w' h k=>by
 show w'.heap[b]?=some o
 rw [h.2.2.2 b hb (Array.getElem?_eq_some_iff.1 k).1 (fun r e=>by rw [k] at e;injection e with e;exact ho r e)];exact k
def SeqIt2 (P:Program) (f:FuncId) (caps:Array Value) (n:Nat) (xs ys:Nat→Value) (FP:World→Prop):Prop :=
 ∀ (yv:Value) (J:Nat→World→Prop) (Jx:World→Prop) (Jp:List PanicEntry→World→Prop) (w:World),yv.oneCell'=true→(∀ k w,J k w→FP w)→(∀ k,Lasts2 w.heap.size (J k))→Lasts2 w.heap.size Jx→(∀ ch,Lasts2 w.heap.size (Jp ch)) →
  (∀ k,k < n→∀ Rk,Firm w.heap.size Rk→∀ w,J k w→Rk w→callV P yv #[xs k,ys k] (fun ch w'=>Rk w'∧Jp ch w') w (fun v w'=>Rk w'∧((v = .bool true∧J (k+1) w')∨(v = .bool false∧Jx w'))))→J 0 w →
  Calls P f (#[yv]++caps) w (fun e w'=>match e with
   | .returned _=>J n w'∨Jx w'
   | .panicked ch=>Jp ch w'
   | .outgrown=>False)
def rangeN2 (P:Program) (fv:Value) (ds:List Deferred) (body:Nat→Value→Value→World→(World→Prop)→(Nat→World→Prop)→(List PanicEntry→World→Prop)→Prop) (QP:List PanicEntry→List Deferred→World→Prop) (w:World)
 (k:List Deferred→World→Prop) (kx:List (List Deferred→World→Prop)):Prop :=
 ∃ (f:FuncId) (caps:Array Value) (n:Nat) (xs ys:Nat→Value) (FP:World→Prop) (I:Nat→World→Prop) (Ix:Nat→World→Prop) (Ip:List PanicEntry→World→Prop),
  fv = .func (.func f) #[] caps∧Callable P f∧SeqIt2 P f caps n xs ys FP∧I 0 w∧(∀ k w,I k w→FP w)∧(∀ k,Lasts2 w.heap.size (I k))∧(∀ c,Lasts2 w.heap.size (Ix c))∧(∀ ch,Lasts2 w.heap.size (Ip ch)) ∧
  (∀ (Rk:World→Prop),Firm (w.heap.size+1+1) Rk→∀ (j:Nat) (w':World),j < n→I j w'→Rk w'→w.heap.size+1 < w'.heap.size→ReadyAt (w.heap.size+1) w' →
   body (w.heap.size+1) (xs j) (ys j) w' (fun w''=>Rk w''∧I (j+1) w'') (fun c w''=>Rk w''∧Ix c w'') (fun ch w''=>Rk w''∧Ip ch w'')) ∧
  (∀ w',I n w'→MarkAt w.heap.size w'→k (mark w.heap.size::ds) w') ∧
  (∀ c w',Ix c w'→MarkAt w.heap.size w'→nthK kx c (mark w.heap.size::ds) w') ∧
  (∀ ch w',Ip ch w'→MarkAt w.heap.size w'→QP ch (mark w.heap.size::ds) w')
section
variable {P:Program} {N:Nat}
theorem sim_range2 {g:Operand} {p p2:Nat} {asg body:Code} {Q:K} {QP:KP} {ρ:Env} {ds:List Deferred} {w:World} {fv:Value} {nbody:Nat→Value→Value→World→(World→Prop)→(Nat→World→Prop)→(List PanicEntry→World→Prop)→Prop} {QPn:List PanicEntry→List Deferred→World→Prop}
 {k:List Deferred→World→Prop} {kx:List (List Deferred→World→Prop)} (js:List Code) (h:rangeN2 P fv ds nbody QPn w k kx) (hg:ev ρ g=fv)
 (hbody:∀ l x y w K X QPr,nbody l x y w K X QPr→den P N (some l) asg (thenK (fun ρ' ds' w'=>ds'=[]∧busyK l w' (fun w''=>den P N (some l) body (roundK js K X) (roundQP QPr) ρ' [] w'')) (fun _ _ _ _=>False)) (fun _ _ _ _=>False) (put N (put N ρ (some p) x) (some p2) y) [] w)
 (hk:∀ ds w,k ds w→Q .normal ρ ds w) (hx:∀ c ds w,nthK kx c ds w→∃ code,js[c]?=some code∧((code = .ret∧Q .ret ρ ds w)∨(∃ id,code = .exit id∧Q (.exit id) ρ ds w))) (hp:∀ ch ds w,QPn ch ds w→QP ch ρ ds w) :
 den P N none (.rangeFunc g #[p,p2] asg body) Q QP ρ ds w:=by
 intro a ha hds
 subst hds
 obtain ⟨f,caps,n,xs,ys,FP,I,Ix,Ip,hfv,hcal,hseq,h0,hFP,hL,hLx,hLp,hround,hend,hjump,hpan⟩:=h
 refine wpV_rangeFunc fun fn hfn=>?_
 obtain ⟨rec,hrec⟩:∃ rec:Loop,rec={ state := .ready,pending:=none,fn,tmps:=a.tmps,params := #[p,p2],assign:=asg,body,defers:=w.heap.size }:=⟨_,rfl⟩
 obtain ⟨W1,hW1⟩:∃ W1,(w.alloc (.deferred (some []))).alloc (.loop rec)=W1:=⟨_,rfl⟩
 have hE1:Ext w W1:=by rw [← hW1];exact ((Ext.refl w).alloc _).alloc _
 have hW1s:W1.heap.size=w.heap.size+1+1:=by rw [← hW1];simp
 have hL1:W1.heap[w.heap.size+1]?=some (.loop rec):=by
  rw [← hW1];have:=World.alloc_heap_new (w.alloc (.deferred (some []))) (.loop rec);rwa [World.size_alloc] at this
 have hK1:MarkAt w.heap.size W1:=by
  rw [← hW1];exact MarkAt.alloc (World.alloc_heap_new w _) _
 have hev:a.eval g=fv:=by rw [ha.eval];exact hg
 refine ⟨w.heap.size+1,[mark w.heap.size],W1,{ target := .fn (.func f) caps,args := #[.func (.yield (w.heap.size+1)) #[] #[]] },W1,f,#[.func (.yield (w.heap.size+1)) #[] #[]]++caps,W1,?_,?_,?_,?_⟩
 · rw [← hW1,hrec];exact run_enterLoop_outer _ _ _ _ _
 · simp only [resolve,hev,hfv]
   simp [go_sem]
 · simp only [invoke]
   exact callFunc_run hcal _ _
 · refine Calls.mono (hseq (.func (.yield (w.heap.size+1)) #[] #[]) (fun j w'=>I j w'∧MarkAt w.heap.size w'∧∃ p,w'.heap[w.heap.size+1]?=some (.loop { rec with state := .ready,pending:=p })∧p=none)
    (fun w'=>MarkAt w.heap.size w'∧∃ c code,Ix c w'∧js[c]?=some code∧w'.heap[w.heap.size+1]?=some (.loop { rec with state := .done,pending:=some code }))
    (fun ch w'=>MarkAt w.heap.size w'∧Ip ch w') W1 rfl (fun j w' hj=>hFP j w' hj.1) (fun j=>((hL j).mono (by omega)).and ((Lasts2.low (by omega) _).and (.ex fun q=>(Lasts2.low (by omega) _).and (.const _ _))))
    ((Lasts2.low (by omega) _).and (.ex fun c => .ex fun code=>((hLx c).mono (by omega)).and ((Lasts2.const _ _).and (Lasts2.low (by omega) _)))) (fun ch=>(Lasts2.low (by omega) _).and ((hLp ch).mono (by omega))) ?_ ⟨(hL 0).ext h0 hE1,hK1,none,by rw [hL1,hrec],rfl⟩) ?_
   · rintro j hj Rk hF w' ⟨hi,hm,q,hl,rfl⟩ hR
     have hlt:w.heap.size+1 < w'.heap.size:=(Array.getElem?_eq_some_iff.1 hl).1
     have hy:=run_yield (P:=P) (args := #[xs j,ys j]) hl (by rw [hrec];rfl)
     show onNext P _ _ _ _
     have hcs:callS (.func (.yield (w.heap.size+1)) #[] #[]) #[xs j,ys j]=Instr.yield (w.heap.size+1) #[xs j,ys j]:=by
      simp [callS,Deferred.ofValue,invoke,go_sem,bind,pure,Sem.bind]
     rw [hcs,hy]
     have key:∀ R,wpV (some (w.heap.size+1)) P asg (Exit.then (fun a₁ w₁=>∃ w₂,(Instr.beginRound (w.heap.size+1)).run P w₁ = .ok () w₂∧wpV (some (w.heap.size+1)) P body (endV P (w.heap.size+1) R) a₁ w₂) (fun _ _ _=>False)) { tmps:=((#[p,p2].zip #[xs j,ys j]).foldl (fun tmps (t,a)=>tmps.setIfInBounds t a) a.tmps),defers:=[] } w' →
      RoundV P (w.heap.size+1) rec.fn ((rec.params.zip #[xs j,ys j]).foldl (fun tmps (t,a)=>tmps.setIfInBounds t a) rec.tmps) rec.assign rec.body w' R:=by
      intro R h;rw [hrec];exact roundV_of_wpV hfn h
     refine key _ ?_
     have hb:=hbody _ _ _ _ _ _ _ (hround _ ((RecAt.firm rec _ w.heap.size).and (hW1s ▸ hF)) j w' hj hi ⟨⟨hm,_,_,hl⟩,hR⟩ hlt ⟨_,hl,rfl⟩)
     have hagr:Agrees N ({ tmps:=((#[p,p2].zip #[xs j,ys j]).foldl (fun tmps (t,a)=>tmps.setIfInBounds t a) a.tmps),defers:=[] }:Act) (put N (put N ρ (some p) (xs j)) (some p2) (ys j)):=by
      have:=((Agrees.defers ha []).put (some p) (xs j)).put (some p2) (ys j)
      simpa [Act.put] using this
     refine wpV_mono (den_sound asg _ _ _ _ _ hagr hb) ?_
     intro e a1 w1 hl1
     cases e with
     | panic ch=>obtain ⟨_,_,hf⟩:=hl1;exact hf.elim
     | outgrown=>exact hl1
     | exit id=>obtain ⟨_,_,_,hf⟩:=hl1;exact hf.elim
     | goto l=>obtain ⟨_,_,_,hf⟩:=hl1;exact hf.elim
     | ret=>obtain ⟨_,_,_,hf⟩:=hl1;exact hf.elim
     | normal =>
      obtain ⟨ρ1,ha1,_,hd1,hbz⟩:=hl1
      obtain ⟨⟨r,hr1,hr2⟩,hbz⟩:=hbz
      refine ⟨_,run_beginRound hr1 hr2,?_⟩
      rw [show a1={ a1 with defers:=[] } by rw [← hd1]]
      refine wpV_mono (den_sound body _ _ _ _ _ (Agrees.defers ha1 []) (hbz _ ⟨_,hr1,rfl⟩)) ?_
      have fin:∀ (jump:Option Code) (w2:World),RecAt rec w.heap.size w2→(Instr.endRound (w.heap.size+1) jump).run P w2 = .ok (.bool jump.isNone) (w2.putObj (w.heap.size+1) (.loop { rec with state:=if jump.isNone then .ready else .done,pending:=jump })) ∧
       (w2.putObj (w.heap.size+1) (.loop { rec with state:=if jump.isNone then .ready else .done,pending:=jump })).heap[w.heap.size+1]?=some (.loop { rec with state:=if jump.isNone then .ready else .done,pending:=jump }) ∧
       MarkAt w.heap.size (w2.putObj (w.heap.size+1) (.loop { rec with state:=if jump.isNone then .ready else .done,pending:=jump })):=by
       rintro jump w2 ⟨hm2,st,q,hq⟩
       refine ⟨by have:=run_endRound (P:=P) jump hq;exact this,World.putObj_heap_same (Array.getElem?_eq_some_iff.1 hq).1,?_⟩
       unfold MarkAt
       rw [World.putObj_heap_other (by omega)];exact hm2
      intro e a2 w2 hl2
      cases e with
      | normal =>
       obtain ⟨_,_,_,_,⟨hrec2,hR2⟩,hi2⟩:=hl2
       obtain ⟨f1,f2,f3⟩:=fin none w2 hrec2
       obtain ⟨_,st,q,hq⟩:=hrec2
       exact ⟨_,_,f1,hF _ _ (KR.turn hq _ _) hR2,.inl ⟨rfl,(hL _).loop (Nat.le_succ _) hi2 hq _,f3,none,f2,rfl⟩⟩
      | ret =>
       obtain ⟨_,_,_,_,c,hc,⟨hrec2,hR2⟩,hi2⟩:=hl2
       obtain ⟨f1,f2,f3⟩:=fin (some .ret) w2 hrec2
       obtain ⟨_,st,q,hq⟩:=hrec2
       exact ⟨_,_,f1,hF _ _ (KR.turn hq _ _) hR2,.inr ⟨rfl,f3,c,_,(hLx _).loop (Nat.le_succ _) hi2 hq _,hc,f2⟩⟩
      | exit id =>
       obtain ⟨_,_,_,_,c,hc,⟨hrec2,hR2⟩,hi2⟩:=hl2
       obtain ⟨f1,f2,f3⟩:=fin (some (.exit id)) w2 hrec2
       obtain ⟨_,st,q,hq⟩:=hrec2
       exact ⟨_,_,f1,hF _ _ (KR.turn hq _ _) hR2,.inr ⟨rfl,f3,c,_,(hLx _).loop (Nat.le_succ _) hi2 hq _,hc,f2⟩⟩
      | panic ch =>
       obtain ⟨_,_,hd2,⟨hrec2,hR2⟩,hi2⟩:=hl2
       exact ⟨hd2,hR2,hrec2.1,hi2⟩
      | goto l=>obtain ⟨_,_,_,hf⟩:=hl2;exact hf.elim
      | outgrown=>exact hl2
   · have hagr:Agrees N ({ a with defers:=[mark w.heap.size]++a.defers }:Act) ρ:=ha
     have exh:∀ (st:LoopState) (q:Option Code) (w':World),w'.heap[w.heap.size+1]?=some (.loop { rec with state:=st,pending:=q })→st ≠ .busy→MarkAt w.heap.size w' →
      (Instr.endLoop (w.heap.size+1)).run P w' = .ok q (w'.putObj (w.heap.size+1) (.loop { rec with state := .exhausted,pending:=q }))∧MarkAt w.heap.size (w'.putObj (w.heap.size+1) (.loop { rec with state := .exhausted,pending:=q })):=by
      intro st q w' hq hne hm
      refine ⟨by have:=run_endLoop (P:=P) hq hne;exact this,?_⟩
      unfold MarkAt
      rw [World.putObj_heap_other (by omega)];exact hm
     rintro e w' he
     cases e with
     | returned v =>
      rcases he with ⟨hi,hm,q,hl,rfl⟩ | ⟨hm,c,code,hi,hc,hl⟩
      · obtain ⟨e1,e2⟩:=exh _ _ w' hl (by simp) hm
        exact ⟨none,_,e1,hagr,hk _ _ (hend _ ((hL _).loop (Nat.le_succ _) hi hl _) e2)⟩
      · obtain ⟨e1,e2⟩:=exh _ _ w' hl (by simp) hm
        refine ⟨some code,_,e1,?_⟩
        obtain ⟨code',hc',hden⟩:=hx c _ _ (hjump c _ ((hLx _).loop (Nat.le_succ _) hi hl _) e2)
        rw [hc] at hc';cases hc'
        rcases hden with ⟨rfl,hq⟩ | ⟨id,rfl,hq⟩
        · exact wpV_ret ⟨hagr,hq⟩
        · exact wpV_exit ⟨hagr,hq⟩
     | panicked ch=>exact ⟨hagr,hp _ _ _ (hpan ch _ he.2 he.1)⟩
     | outgrown=>exact he.elim
end
section
variable {P:Program} {QP:List PanicEntry→World→Prop} {w:World} {k:Value→World→Prop}
theorem op_quo (t:TypeId) (c:Bool) (kd:IntKind) (a b:Int) (hb:b≠0):opV P (binS .quo t c (.int kd a) (.int kd b)) QP w k=k (.int kd (kd.wrap (a.tdiv b))) w:=opV_ok (by
 rw [run_bin_int _ _ _ _ _ _ rfl]
 show Sem.run P (Op.intDiv .quo kd a b) w=_
 unfold Op.intDiv
 rw [if_neg hb];rfl)
end
end Go.Sw
namespace Go.Sw
section
variable {P:Program} {N:Nat} {ro:Option Nat} {QP:KP} {T:Env→List Deferred→World→Prop} {o:Oper} {rest:List Oper} {ρ:Env} {ds:List Deferred} {w:World} {ty:TypeId} {dst:Option Nat} {d:Nat} {pos:String} {after:Array Edge} {g:Option (Nat×Bool)} {QP':List PanicEntry→World→Prop} {k:Value→World→Prop}
theorem yv {s:Sem Value} (h:opV P s QP' w k) (hk:∀ v w,k v w→denSeq P N ro QP T rest (put N ρ o.dst v) ds w) (hs:execOp (ev ρ) o=(do pure (.value (← s))):=by exact rfl) (hd:isDefer o.op=false:=by exact rfl) (hp:∀ ch w,QP' ch w→QP ch ρ ds w:=by first | exact fun _ _ h=>⟨rfl,h⟩ | exact fun _ _ h=>outQ_of rfl h | exact fun _ _ h _ _=>⟨rfl,h⟩ | exact fun _ _ h=>outQ_ofD rfl rfl h | exact fun _ _ h=>h):denSeq P N ro QP T (o::rest) ρ ds w:=sim_val h hd hs hp hk
theorem yu {s:Sem Unit} {k:World→Prop} (h:opU P s QP' w k) (hk:∀ w,k w→denSeq P N ro QP T rest (put N ρ o.dst undef) ds w) (hs:execOp (ev ρ) o=(do s;pure .skip):=by exact rfl) (hd:isDefer o.op=false:=by exact rfl) (hp:∀ ch w,QP' ch w→QP ch ρ ds w:=by first | exact fun _ _ h=>⟨rfl,h⟩ | exact fun _ _ h=>outQ_of rfl h | exact fun _ _ h _ _=>⟨rfl,h⟩ | exact fun _ _ h=>outQ_ofD rfl rfl h | exact fun _ _ h=>h):denSeq P N ro QP T (o::rest) ρ ds w:=sim_unit h hd hs hp hk
theorem yN {s:Sem Next} (h:opN P s QP' w k) (hk:∀ v w,k v w→denSeq P N ro QP T rest (put N ρ o.dst v) ds w) (hs:execOp (ev ρ) o=s:=by exact rfl) (hd:isDefer o.op=false:=by exact rfl) (hp:∀ ch w,QP' ch w→QP ch ρ ds w:=by first | exact fun _ _ h=>⟨rfl,h⟩ | exact fun _ _ h=>outQ_of rfl h | exact fun _ _ h _ _=>⟨rfl,h⟩ | exact fun _ _ h=>outQ_ofD rfl rfl h | exact fun _ _ h=>h):denSeq P N ro QP T (o::rest) ρ ds w:=sim_next h hd hs hp hk
theorem yb {op:BinOp} {t:TypeId} {x y:Operand} {t2:TypeId} {c:Bool} {a b:Value} (h:opV P (binS op t c a b) QP' w k) (hk:∀ v w',k v w'→denSeq P N ro QP T rest (put N ρ (some d) v) ds w') (hc:(isConst x||isConst y)=c:=by exact rfl) (h1:ev ρ x=a:=by exact rfl) (h2:ev ρ y=b:=by exact rfl) (hp:∀ ch w,QP' ch w→QP ch ρ ds w:=by first | exact fun _ _ h=>⟨rfl,h⟩ | exact fun _ _ h=>outQ_of rfl h | exact fun _ _ h _ _=>⟨rfl,h⟩ | exact fun _ _ h=>outQ_ofD rfl rfl h | exact fun _ _ h=>h) :
 denSeq P N ro QP T (⟨some d,.binOp op t x y t2,ty,pos,after,g⟩::rest) ρ ds w:=sim_bin h hc h1 h2 hp hk
theorem yc {f:FuncId} {l:List Operand} {ats:Array TypeId} {args:List Value} (h:callK P f args.toArray QP' w k) (hf:Callable P f) (hk:∀ v w',k v w'→denSeq P N ro QP T rest (put N ρ dst v) ds w') (h2:l.map (ev ρ)=args:=by exact rfl) (hp:∀ ch w,QP' ch w→QP ch ρ ds w:=by first | exact fun _ _ h=>⟨rfl,h⟩ | exact fun _ _ h=>outQ_of rfl h | exact fun _ _ h _ _=>⟨rfl,h⟩ | exact fun _ _ h=>outQ_ofD rfl rfl h | exact fun _ _ h=>h) :
 denSeq P N ro QP T (⟨dst,.call ⟨.value (.func f),l.toArray,ats⟩,ty,pos,after,g⟩::rest) ρ ds w:=sim_call h hf h2 hp hk
theorem yV {fo:Operand} {l:List Operand} {ats:Array TypeId} {fv:Value} {args:List Value} (h:callV P fv args.toArray QP' w k) (hk:∀ v w',k v w'→denSeq P N ro QP T rest (put N ρ dst v) ds w') (h1:ev ρ fo=fv:=by exact rfl) (h2:l.map (ev ρ)=args:=by exact rfl) (hp:∀ ch w,QP' ch w→QP ch ρ ds w:=by first | exact fun _ _ h=>⟨rfl,h⟩ | exact fun _ _ h=>outQ_of rfl h | exact fun _ _ h _ _=>⟨rfl,h⟩ | exact fun _ _ h=>outQ_ofD rfl rfl h | exact fun _ _ h=>h) :
 denSeq P N ro QP T (⟨dst,.call ⟨.value fo,l.toArray,ats⟩,ty,pos,after,g⟩::rest) ρ ds w:=sim_callV h h1 h2 hp hk
theorem yx {b:Builtin} {l:List Operand} {ats:Array TypeId} {s:Sem Value} (h:opV P s QP' w k) (hk:∀ v w',k v w'→denSeq P N ro QP T rest (put N ρ (some d) v) ds w') (hs:builtin b ats ty ((l.map fun | .const _=>true | _=>false).toArray) (l.map (ev ρ)).toArray=(do pure (.value (← s))):=by exact rfl) (hp:∀ ch w,QP' ch w→QP ch ρ ds w:=by first | exact fun _ _ h=>⟨rfl,h⟩ | exact fun _ _ h=>outQ_of rfl h | exact fun _ _ h _ _=>⟨rfl,h⟩ | exact fun _ _ h=>outQ_ofD rfl rfl h | exact fun _ _ h=>h) :
 denSeq P N ro QP T (⟨some d,.call ⟨.builtin b,l.toArray,ats⟩,ty,pos,after,g⟩::rest) ρ ds w:=sim_builtin h hs hp hk
theorem yB {t:TypeId} {ps:List (Nat×Operand)} {vs:List (Nat×Value)} (h:opV P (Instr.build t vs.toArray) QP' w k) (hk:∀ v w',k v w'→denSeq P N ro QP T rest (put N ρ (some d) v) ds w') (h2:(ps.map fun (i,x)=>(i,ev ρ x))=vs:=by exact rfl) (hp:∀ ch w,QP' ch w→QP ch ρ ds w:=by first | exact fun _ _ h=>⟨rfl,h⟩ | exact fun _ _ h=>outQ_of rfl h | exact fun _ _ h _ _=>⟨rfl,h⟩ | exact fun _ _ h=>outQ_ofD rfl rfl h | exact fun _ _ h=>h) :
 denSeq P N ro QP T (⟨some d,.build t ps.toArray,ty,pos,after,g⟩::rest) ρ ds w:=sim_build h h2 hp hk
theorem yS {t:TypeId} {n:Nat} {ps:List (Nat×Operand)} {vs:List (Nat×Value)} (h:opV P (Instr.buildSlice t n vs.toArray) QP' w k) (hk:∀ v w',k v w'→denSeq P N ro QP T rest (put N ρ (some d) v) ds w') (h2:(ps.map fun (i,x)=>(i,ev ρ x))=vs:=by exact rfl) (hp:∀ ch w,QP' ch w→QP ch ρ ds w:=by first | exact fun _ _ h=>⟨rfl,h⟩ | exact fun _ _ h=>outQ_of rfl h | exact fun _ _ h _ _=>⟨rfl,h⟩ | exact fun _ _ h=>outQ_ofD rfl rfl h | exact fun _ _ h=>h) :
 denSeq P N ro QP T (⟨some d,.buildSlice t n ps.toArray,ty,pos,after,g⟩::rest) ρ ds w:=sim_buildSlice h h2 hp hk
theorem yF {fn:Fn} {fs cs:List Operand} {vf vs:List Value} (h:opV P (Instr.makeFunc fn vf.toArray vs.toArray) QP' w k) (hk:∀ v w',k v w'→denSeq P N ro QP T rest (put N ρ (some d) v) ds w') (h1:fs.map (ev ρ)=vf:=by exact rfl) (h2:cs.map (ev ρ)=vs:=by exact rfl) (hp:∀ ch w,QP' ch w→QP ch ρ ds w:=by first | exact fun _ _ h=>⟨rfl,h⟩ | exact fun _ _ h=>outQ_of rfl h | exact fun _ _ h _ _=>⟨rfl,h⟩ | exact fun _ _ h=>outQ_ofD rfl rfl h | exact fun _ _ h=>h) :
 denSeq P N ro QP T (⟨some d,.makeFunc fn fs.toArray cs.toArray,ty,pos,after,g⟩::rest) ρ ds w:=sim_makeFunc h h1 h2 hp hk
theorem yp {c a b:Operand} {vc va vb:Value} {k:Value→Prop} (h:pickK vc va vb k) (hk:∀ v,k v→denSeq P N ro QP T rest (put N ρ (some d) v) ds w) (h1:ev ρ c=vc:=by exact rfl) (h2:ev ρ a=va:=by exact rfl) (h3:ev ρ b=vb:=by exact rfl):denSeq P N ro QP T (⟨some d,.pick c a b,ty,pos,after,g⟩::rest) ρ ds w:=sim_pick h h1 h2 h3 hk
theorem yt {S:List Nat} {J G:Env→World→Prop} {C:World→Prop} (hT:∀ ρ' w,Fr S ρ ρ'→C w→J ρ' w→G ρ' w) {ρ':Env} {w:World} (hC:C w) (h:J ρ' w) (hf:Fr S ρ ρ':=by repeat (first | exact Fr.refl _ _ | refine Fr.put rfl ?_ | refine Fr.put_none ?_ | refine Fr.mix rfl ?_ | refine Fr.skipAll rfl ?_)):G ρ' w:=hT ρ' w hf hC h
end
section
variable {P:Program} {N:Nat} {ro:Option Nat} {ops:Array Oper} {Q:Env→List Deferred→World→Prop} {QP0:List PanicEntry→List Deferred→World→Prop} {QP:KP} {C:World→Prop} {fuel:Nat} {done:List Nat} {o:Oper} {ρ:Env} {ds:List Deferred} {w:World}
theorem ye (i:Nat) {k:Value→Prop} (hC:C w) {s:Sem Value} (h:qV P C s k) (hk:∀ v,k v→denD P N ro ops Q (fun ch _ ds w=>QP0 ch ds w) C fuel (i::done) (put N ρ o.dst v) ds w) (hi:ops[i]?=some o:=by exact rfl) (hr:(readyL ops done).contains i=true:=by kernel_rfl) (hf:freeB ops done i=true:=by kernel_rfl) (hg:∀ p q,guardO ops o ρ p q=p:=by first | exact fun _ _=>rfl | exact fun _ _=>guardP_true (by assumption)) (hd:isDefer o.op=false:=by exact rfl) (hs:∀ v,(∀ w,C w→s.run P w = .ok v w)→∀ w,C w→(execOp (ev ρ) o).run P w = .ok (.value v) w:=by first | exact fun _ h=>qV_run rfl h | exact fun _ h=>qV_bin rfl rfl rfl h | exact fun _ h=>qV_builtin rfl h | exact fun _ h=>qV_build rfl h | exact fun _ h=>qV_makeFunc rfl rfl h) :
 denD P N ro ops Q (fun ch _ ds w=>QP0 ch ds w) C (fuel+1) done ρ ds w:=let ⟨v,hv,hkv⟩:=h;sim_dsilent i hC hi hr hf hg hd (hs v hv) (hk v hkv)
theorem yn (i:Nat) {k:Value→Prop} (hC:C w) {s:Sem Next} (h:qN P C s k) (hk:∀ v,k v→denD P N ro ops Q (fun ch _ ds w=>QP0 ch ds w) C fuel (i::done) (put N ρ o.dst v) ds w) (hi:ops[i]?=some o:=by exact rfl) (hr:(readyL ops done).contains i=true:=by kernel_rfl) (hf:freeB ops done i=true:=by kernel_rfl) (hg:∀ p q,guardO ops o ρ p q=p:=by first | exact fun _ _=>rfl | exact fun _ _=>guardP_true (by assumption)) (hd:isDefer o.op=false:=by exact rfl) (hs:execOp (ev ρ) o=s:=by exact rfl) :
 denD P N ro ops Q (fun ch _ ds w=>QP0 ch ds w) C (fuel+1) done ρ ds w:=let ⟨v,hv,hkv⟩:=h;sim_dsilent i hC hi hr hf hg hd (qN_run hs hv) (hk v hkv)
theorem yw (i:Nat) {v:Value} (hC:C w) (h:denD P N ro ops Q (fun ch _ ds w=>QP0 ch ds w) C fuel (i::done) (put N ρ o.dst v) ds w) (hi:ops[i]?=some o:=by exact rfl) (hr:(readyL ops done).contains i=true:=by kernel_rfl) (hf:freeB ops done i=true:=by kernel_rfl) (hg:∀ p q,guardO ops o ρ p q=p:=by first | exact fun _ _=>rfl | exact fun _ _=>guardP_true (by assumption)) (hd:isDefer o.op=false:=by exact rfl) (hs:execOp (ev ρ) o=Sem.pure (.value v):=by exact rfl) :
 denD P N ro ops Q (fun ch _ ds w=>QP0 ch ds w) C (fuel+1) done ρ ds w:=sim_dsilent i hC hi hr hf hg hd (move_run hs) h
theorem yi (i:Nat) (hC:C w) (h:denD P N ro ops Q (fun ch _ ds w=>QP0 ch ds w) C fuel (i::done) (put N ρ o.dst undef) ds w) (hi:ops[i]?=some o:=by exact rfl) (hr:(readyL ops done).contains i=true:=by kernel_rfl) (hf:freeB ops done i=true:=by kernel_rfl) (hg:∀ p q,guardO ops o ρ p q=q:=by exact fun _ _=>guardP_false (by assumption)) :
 denD P N ro ops Q (fun ch _ ds w=>QP0 ch ds w) C (fuel+1) done ρ ds w:=sim_dskip i hC hi hr hf hg h
theorem yP (i:Nat) {c a b:Operand} {d:Nat} {ty:TypeId} {pos:String} {after:Array Edge} {g:Option (Nat×Bool)} {vc va vb:Value} {k:Value→Prop} (hC:C w) (h:pickK vc va vb k) (hk:∀ v,k v→denD P N ro ops Q (fun ch _ ds w=>QP0 ch ds w) C fuel (i::done) (put N ρ (some d) v) ds w) (hi:ops[i]?=some ⟨some d,.pick c a b,ty,pos,after,g⟩:=by exact rfl) (hr:(readyL ops done).contains i=true:=by kernel_rfl) (hf:freeB ops done i=true:=by kernel_rfl) (hg:∀ p q,guardO ops ⟨some d,.pick c a b,ty,pos,after,g⟩ ρ p q=p:=by first | exact fun _ _=>rfl | exact fun _ _=>guardP_true (by assumption)) (h1:ev ρ c=vc:=by exact rfl) (h2:ev ρ a=va:=by exact rfl) (h3:ev ρ b=vb:=by exact rfl) :
 denD P N ro ops Q (fun ch _ ds w=>QP0 ch ds w) C (fuel+1) done ρ ds w:=by
 obtain ⟨t,ht,h⟩:=pickK_elim h
 exact sim_dsilent i hC hi hr hf hg rfl (pick_run (h1.trans ht) h2 h3) (hk _ h)
theorem yo (i:Nat) (h:denSeq P N ro QP (fun ρ ds w=>C w∧denD P N ro ops Q QP C fuel (i::done) ρ ds w) [o] ρ ds w) (hi:ops[i]?=some o:=by exact rfl) (hr:readyL ops done=[i]:=by kernel_rfl) (hg:∀ p q,guardO ops o ρ p q=p:=by first | exact fun _ _=>rfl | exact fun _ _=>guardP_true (by assumption)):denD P N ro ops Q QP C (fuel+1) done ρ ds w:=sim_dloud i hi hr hg h
theorem yr (i:Nat) (h:denSeq P N ro QP (fun ρ ds w=>∃ C':World→Prop,(∀ x,C' x→C x)∧C' w∧denD P N ro ops Q QP C' fuel (i::done) ρ ds w) [o] ρ ds w) (hi:ops[i]?=some o:=by exact rfl) (hr:readyL ops done=[i]:=by kernel_rfl) (hg:∀ p q,guardO ops o ρ p q=p:=by first | exact fun _ _=>rfl | exact fun _ _=>guardP_true (by assumption)):denD P N ro ops Q QP C (fuel+1) done ρ ds w:=sim_dnarrow i hi hr hg h
theorem yq (i n:Nat) (h:denSeq P N ro QP (fun ρ ds w=>∃ C':World→Prop,C' w∧denD P N ro ops Q QP C' fuel (i::done) ρ ds w) [o] ρ ds w) (hi:ops[i]?=some o:=by exact rfl) (hr:readyL ops done=[i]:=by kernel_rfl) (hm:mayTurn ops n done i=true:=by kernel_rfl) (hg:∀ p q,guardO ops o ρ p q=p:=by first | exact fun _ _=>rfl | exact fun _ _=>guardP_true (by assumption)):denD P N ro ops Q QP C (fuel+1) done ρ ds w:=sim_dturn i n hi hr hm hg h
theorem yz (h:Q ρ ds w) (hr:readyL ops done=[]:=by kernel_rfl):denD P N ro ops Q QP C fuel done ρ ds w:=sim_dend hr h
theorem yh (S:List Nat) {id:Nat} {l:List Oper} {Q:K} {f:(World→Prop)→World→Prop} (h:drawK w f) (hk:∀ C:World→Prop,C (drew w)→f C (drew w)→denD P N ro l.toArray (Q .normal) (fun ch _ ds w=>∀ ρ',Fr S ρ ρ'→QP ch ρ' ds w) C l.length [] ρ ds (drew w)) (hm:P.follows .mixedOrders=true:=by kernel_rfl) (hS:l.all (fun o=>match o.dst with | some d=>S.contains d | none=>true)=true:=by kernel_rfl):den P N ro (.region id l.toArray true) Q QP ρ ds w:=let ⟨C,hC,hf⟩:=h;sim_draw S hm hS C (hk C hC hf)
theorem yj1 (fuel':Nat) (done' S:List Nat) (x0:Nat) {K0:Value→World→Prop} {A B:(Value→World→Prop)→Prop} {v:Value} {want:Bool} (h:joinK K0 fun K=>guardP v want (A K) (B K))
 (h1:∀ K:Value→World→Prop,(∀ ρ' w,Fr S ρ ρ'→C w→K (ρ' x0) w→denD P N ro ops Q QP C fuel' done' ρ' ds w)→boolOf v=some want→A K→denD P N ro ops Q QP C fuel done ρ ds w) (h2:∀ K:Value→World→Prop,(∀ ρ' w,Fr S ρ ρ'→C w→K (ρ' x0) w→denD P N ro ops Q QP C fuel' done' ρ' ds w)→boolOf v≠some want→B K→denD P N ro ops Q QP C fuel done ρ ds w)
 (hJ:∀ σ w,C w→K0 (σ x0) w→denD P N ro ops Q QP C fuel' done' (mix S ρ σ) ds w):denD P N ro ops Q QP C fuel done ρ ds w :=
 sim_djoin fuel' done' S (fun ρ w=>K0 (ρ x0) w) (fun _ hT=>(guardP_cases h).elim (fun h=>h1 K0 hT h.1 h.2) (fun h=>h2 K0 hT h.1 h.2)) hJ
end
section
variable {P:Program} {N:Nat} {ro:Option Nat} {c:Code} {Q:K} {QP:KP} {ρ:Env} {ds:List Deferred} {w:World}
theorem yl1 (W:List Nat) (x0:Nat) {body:Value→World→(Value→World→Prop)→Prop} {a0:Value} (h:loop1 body a0 w) (hr:∀ σ w (k:Value→World→Prop),body (σ x0) w k→den P N ro c (thenK (fun ρ' ds' w'=>ds'=ds∧k (ρ' x0) w') Q) QP (mix W ρ σ) ds w) (hW:((writes c).all (W.contains ·)&&W.all ((writes c).contains ·))=true:=by kernel_rfl) (h0:ρ x0=a0:=by exact rfl):den P N ro (.loop c) Q QP ρ ds w:=by
 obtain ⟨I,μ,hi,hb⟩:=h
 subst h0
 exact sim_loop W hW (fun ρ w=>I (ρ x0) w) (fun ρ w=>μ (ρ x0) w) hi fun σ w hI=>hr σ w _ (hb _ _ hI)
theorem yL1 (W:List Nat) (x0:Nat) {body:List Deferred→Value→World→(List Deferred→Value→World→Prop)→Prop} {a0:Value} (h:loopM1 body ds a0 w) (hr:∀ σ ds w (k:List Deferred→Value→World→Prop),body ds (σ x0) w k→den P N ro c (thenK (fun ρ' ds' w'=>k ds' (ρ' x0) w') Q) QP (mix W ρ σ) ds w) (hW:((writes c).all (W.contains ·)&&W.all ((writes c).contains ·))=true:=by kernel_rfl) (h0:ρ x0=a0:=by exact rfl):den P N ro (.loop c) Q QP ρ ds w:=by
 obtain ⟨I,μ,hi,hb⟩:=h
 subst h0
 exact sim_loopM W hW (fun ρ ds w=>I ds (ρ x0) w) (fun ρ w=>μ (ρ x0) w) hi fun σ ds w hI=>hr σ ds w _ (hb _ _ _ hI)
theorem yl2 (W:List Nat) (x0 x1:Nat) {body:Value→Value→World→(Value→Value→World→Prop)→Prop} {a0 a1:Value} (h:loop2 body a0 a1 w) (hr:∀ σ w (k:Value→Value→World→Prop),body (σ x0) (σ x1) w k→den P N ro c (thenK (fun ρ' ds' w'=>ds'=ds∧k (ρ' x0) (ρ' x1) w') Q) QP (mix W ρ σ) ds w) (hW:((writes c).all (W.contains ·)&&W.all ((writes c).contains ·))=true:=by kernel_rfl) (h0:ρ x0=a0:=by exact rfl) (h1:ρ x1=a1:=by exact rfl):den P N ro (.loop c) Q QP ρ ds w:=by
 obtain ⟨I,μ,hi,hb⟩:=h
 subst h0 h1
 exact sim_loop W hW (fun ρ w=>I (ρ x0) (ρ x1) w) (fun ρ w=>μ (ρ x0) (ρ x1) w) hi fun σ w hI=>hr σ w _ (hb _ _ _ hI)
theorem yJ0 (S:List Nat) {K0:World→Prop} {f:(World→Prop)→Prop} (h:joinK K0 f) (hc:∀ (K:World→Prop) (k':Env→List Deferred→World→Prop),(∀ ρ' w,Fr S ρ ρ'→K w→k' ρ' ds w)→f K→den P N ro c (thenK k' Q) QP ρ ds w) (hJ:∀ σ w,K0 w→Q .normal (mix S ρ σ) ds w):den P N ro c Q QP ρ ds w :=
 sim_joinQ S (fun ρ w=>K0 w) (fun k' hk=>hc K0 k' hk h) hJ
theorem yJ1 (S:List Nat) (x0:Nat) {K0:Value→World→Prop} {f:(Value→World→Prop)→Prop} (h:joinK K0 f) (hc:∀ (K:Value→World→Prop) (k':Env→List Deferred→World→Prop),(∀ ρ' w,Fr S ρ ρ'→K (ρ' x0) w→k' ρ' ds w)→f K→den P N ro c (thenK k' Q) QP ρ ds w) (hJ:∀ σ w,K0 (σ x0) w→Q .normal (mix S ρ σ) ds w):den P N ro c Q QP ρ ds w :=
 sim_joinQ S (fun ρ w=>K0 (ρ x0) w) (fun k' hk=>hc K0 k' hk h) hJ
theorem yC {x:Operand} {A B:Code} {v:Value} {p q:Prop} (h:condP v p q) (hp:p→den P N ro A Q QP ρ ds w) (hq:q→den P N ro B Q QP ρ ds w) (hv:ev ρ x=v:=by exact rfl):den P N ro (.cond x A B) Q QP ρ ds w:=sim_cond h hv hp hq
theorem yG (n:Nat) {ops:Array Oper} {l:List Oper} (h:denSeq P N ro QP (fun ρ ds w=>denOps P N ro ops Q QP (l.drop n) none ρ ds w) (l.take n) ρ ds w) (hu:unguarded (l.take n)=true:=by exact rfl):denOps P N ro ops Q QP l none ρ ds w:=sim_seg n hu h
theorem yg1 (n j:Nat) (want:Bool) (S:List Nat) (x0:Nat) {ops:Array Oper} {l:List Oper} {K0:Value→World→Prop} {A:(Value→World→Prop)→Prop} {v:Value} {u0:Value} (h:joinK K0 fun K=>guardP v want (A K) (K u0 w))
 (hc:∀ (K:Value→World→Prop) (T:Env→List Deferred→World→Prop),(∀ ρ' w,Fr S ρ ρ'→K (ρ' x0) w→T ρ' ds w)→A K→denSeq P N ro QP T (l.take n) ρ ds w) (hJ:∀ σ w,K0 (σ x0) w→denOps P N ro ops Q QP (l.drop n) none (mix S ρ σ) ds w) (hok:grpOK ops j want (l.take n) (l.drop n)=true:=by exact rfl) (hv:gslot ops ρ j=v:=by exact rfl) (hf:Fr S ρ (skipAll N (l.take n) ρ):=by exact Fr.skipAll rfl (Fr.refl _ _)) (hu0:skipAll N (l.take n) ρ x0=u0:=by exact rfl):denOps P N ro ops Q QP l none ρ ds w:=by
 subst hu0;exact sim_groupJ n j want S (fun ρ w=>K0 (ρ x0) w) hok hv (fun T hT=>guardP_mono h (hc K0 T hT) fun h=>hT _ _ hf h) hJ
end
section
variable {P:Program} {f:FuncId} {fn:Func} {c:Code} {args:List Value} {w:World} {R:RT}
theorem yD (hf:P.funcs[f]?=some fn) (h:den P fn.ntmps none c (bodyK P fn R) (bodyQP R) (env0 args) [] w) (hb:fn.body=some c:=by exact rfl) (hn:args.length≤fn.ntmps:=by exact Nat.le_of_ble_eq_true rfl):Calls P f args.toArray w R:=calls_of_den hf hb hn h
theorem yE (hf:P.funcs[f]?=some fn) (h:den P fn.ntmps none c (bodyKM P fn R) (bodyQPM P fn R) (env0 args) [] w) (hb:fn.body=some c:=by exact rfl) (hn:args.length≤fn.ntmps:=by exact Nat.le_of_ble_eq_true rfl):Calls P f args.toArray w R:=calls_of_denM hf hb hn h
end
end Go.Sw
namespace Go.Proofs.YtfdecdnmooaegaaGreatDoor
open Sw
theorem c3:Sw.Callable Pg 3:=⟨_,Tryz.func3,by kernel_rfl,rfl⟩
theorem c4:Sw.Callable Pg 4:=⟨_,Tryz.func4,by kernel_rfl,rfl⟩
theorem c5:Sw.Callable Pg 5:=⟨_,Tryz.func5,by kernel_rfl,rfl⟩
theorem c6:Sw.Callable Pg 6:=⟨_,Tryz.func6,by kernel_rfl,rfl⟩
theorem c7:Sw.Callable Pg 7:=⟨_,Tryz.func7,by kernel_rfl,rfl⟩
theorem c8:Sw.Callable Pg 8:=⟨_,Tryz.func8,by kernel_rfl,rfl⟩
theorem c9:Sw.Callable Pg 9:=⟨_,Tryz.func9,by kernel_rfl,rfl⟩
theorem c10:Sw.Callable Pg 10:=⟨_,Tryz.func10,by kernel_rfl,rfl⟩
theorem c11:Sw.Callable Pg 11:=⟨_,Tryz.func11,by kernel_rfl,rfl⟩
theorem c12:Sw.Callable Pg 12:=⟨_,Tryz.func12,by kernel_rfl,rfl⟩
theorem c13:Sw.Callable Pg 13:=⟨_,Tryz.func13,by kernel_rfl,rfl⟩
theorem c14:Sw.Callable Pg 14:=⟨_,Tryz.func14,by kernel_rfl,rfl⟩
theorem c15:Sw.Callable Pg 15:=⟨_,Tryz.func15,by kernel_rfl,rfl⟩
theorem c16:Sw.Callable Pg 16:=⟨_,Tryz.func16,by kernel_rfl,rfl⟩
theorem c17:Sw.Callable Pg 17:=⟨_,Tryz.func17,by kernel_rfl,rfl⟩
theorem c18:Sw.Callable Pg 18:=⟨_,Tryz.func18,by kernel_rfl,rfl⟩
theorem c19:Sw.Callable Pg 19:=⟨_,Tryz.func19,by kernel_rfl,rfl⟩
theorem c20:Sw.Callable Pg 20:=⟨_,Tryz.func20,by kernel_rfl,rfl⟩
theorem c21:Sw.Callable Pg 21:=⟨_,Tryz.func21,by kernel_rfl,rfl⟩
theorem c22:Sw.Callable Pg 22:=⟨_,Tryz.func22,by kernel_rfl,rfl⟩
theorem c23:Sw.Callable Pg 23:=⟨_,Tryz.func23,by kernel_rfl,rfl⟩
theorem c24:Sw.Callable Pg 24:=⟨_,Tryz.func24,by kernel_rfl,rfl⟩
theorem c26:Sw.Callable Pg 26:=⟨_,Tryz.func26,by kernel_rfl,rfl⟩
theorem c30:Sw.Callable Pg 30:=⟨_,Tryz.func30,by kernel_rfl,rfl⟩
theorem c31:Sw.Callable Pg 31:=⟨_,Tryz.func31,by kernel_rfl,rfl⟩
theorem c32:Sw.Callable Pg 32:=⟨_,Tryz.func32,by kernel_rfl,rfl⟩
theorem c36:Sw.Callable Pg 36:=⟨_,Tryz.func36,by kernel_rfl,rfl⟩
theorem c37:Sw.Callable Pg 37:=⟨_,Tryz.func37,by kernel_rfl,rfl⟩
theorem c38:Sw.Callable Pg 38:=⟨_,Tryz.func38,by kernel_rfl,rfl⟩
theorem c39:Sw.Callable Pg 39:=⟨_,Tryz.func39,by kernel_rfl,rfl⟩
theorem c40:Sw.Callable Pg 40:=⟨_,Tryz.func40,by kernel_rfl,rfl⟩
theorem c41:Sw.Callable Pg 41:=⟨_,Tryz.func41,by kernel_rfl,rfl⟩
theorem c42:Sw.Callable Pg 42:=⟨_,Tryz.func42,by kernel_rfl,rfl⟩
theorem c43:Sw.Callable Pg 43:=⟨_,Tryz.func43,by kernel_rfl,rfl⟩
theorem c44:Sw.Callable Pg 44:=⟨_,Tryz.func44,by kernel_rfl,rfl⟩
theorem c45:Sw.Callable Pg 45:=⟨_,Tryz.func45,by kernel_rfl,rfl⟩
theorem c46:Sw.Callable Pg 46:=⟨_,Tryz.func46,by kernel_rfl,rfl⟩
theorem c47:Sw.Callable Pg 47:=⟨_,Tryz.func47,by kernel_rfl,rfl⟩
theorem c48:Sw.Callable Pg 48:=⟨_,Tryz.func48,by kernel_rfl,rfl⟩
theorem c49:Sw.Callable Pg 49:=⟨_,Tryz.func49,by kernel_rfl,rfl⟩
theorem c50:Sw.Callable Pg 50:=⟨_,Tryz.func50,by kernel_rfl,rfl⟩
theorem c51:Sw.Callable Pg 51:=⟨_,Tryz.func51,by kernel_rfl,rfl⟩
theorem c52:Sw.Callable Pg 52:=⟨_,Tryz.func52,by kernel_rfl,rfl⟩
theorem c53:Sw.Callable Pg 53:=⟨_,Tryz.func53,by kernel_rfl,rfl⟩
theorem c54:Sw.Callable Pg 54:=⟨_,Tryz.func54,by kernel_rfl,rfl⟩
theorem c55:Sw.Callable Pg 55:=⟨_,Tryz.func55,by kernel_rfl,rfl⟩
theorem c59:Sw.Callable Pg 59:=⟨_,Tryz.func59,by kernel_rfl,rfl⟩
theorem c60:Sw.Callable Pg 60:=⟨_,Tryz.func60,by kernel_rfl,rfl⟩
theorem c61:Sw.Callable Pg 61:=⟨_,Tryz.func61,by kernel_rfl,rfl⟩
theorem c65:Sw.Callable Pg 65:=⟨_,Tryz.func65,by kernel_rfl,rfl⟩
theorem c71:Sw.Callable Pg 71:=⟨_,Tryz.func71,by kernel_rfl,rfl⟩
theorem c72:Sw.Callable Pg 72:=⟨_,Tryz.func72,by kernel_rfl,rfl⟩
theorem c73:Sw.Callable Pg 73:=⟨_,Tryz.func73,by kernel_rfl,rfl⟩
theorem c74:Sw.Callable Pg 74:=⟨_,Tryz.func74,by kernel_rfl,rfl⟩
theorem c75:Sw.Callable Pg 75:=⟨_,Tryz.func75,by kernel_rfl,rfl⟩
theorem c76:Sw.Callable Pg 76:=⟨_,Tryz.func76,by kernel_rfl,rfl⟩
theorem c77:Sw.Callable Pg 77:=⟨_,Tryz.func77,by kernel_rfl,rfl⟩
theorem c78:Sw.Callable Pg 78:=⟨_,Tryz.func78,by kernel_rfl,rfl⟩
theorem c79:Sw.Callable Pg 79:=⟨_,Tryz.func79,by kernel_rfl,rfl⟩
theorem c80:Sw.Callable Pg 80:=⟨_,Tryz.func80,by kernel_rfl,rfl⟩
theorem c81:Sw.Callable Pg 81:=⟨_,Tryz.func81,by kernel_rfl,rfl⟩
theorem c85:Sw.Callable Pg 85:=⟨_,Tryz.func85,by kernel_rfl,rfl⟩
theorem c86:Sw.Callable Pg 86:=⟨_,Tryz.func86,by kernel_rfl,rfl⟩
theorem c87:Sw.Callable Pg 87:=⟨_,Tryz.func87,by kernel_rfl,rfl⟩
theorem c88:Sw.Callable Pg 88:=⟨_,Tryz.func88,by kernel_rfl,rfl⟩
theorem c89:Sw.Callable Pg 89:=⟨_,Tryz.func89,by kernel_rfl,rfl⟩
theorem c90:Sw.Callable Pg 90:=⟨_,Tryz.func90,by kernel_rfl,rfl⟩
theorem c91:Sw.Callable Pg 91:=⟨_,Tryz.func91,by kernel_rfl,rfl⟩
theorem c92:Sw.Callable Pg 92:=⟨_,Tryz.func92,by kernel_rfl,rfl⟩
theorem c93:Sw.Callable Pg 93:=⟨_,Tryz.func93,by kernel_rfl,rfl⟩
theorem c94:Sw.Callable Pg 94:=⟨_,Tryz.func94,by kernel_rfl,rfl⟩
theorem c95:Sw.Callable Pg 95:=⟨_,Tryz.func95,by kernel_rfl,rfl⟩
theorem c96:Sw.Callable Pg 96:=⟨_,Tryz.func96,by kernel_rfl,rfl⟩
theorem c97:Sw.Callable Pg 97:=⟨_,Tryz.func97,by kernel_rfl,rfl⟩
theorem c98:Sw.Callable Pg 98:=⟨_,Tryz.func98,by kernel_rfl,rfl⟩
theorem c99:Sw.Callable Pg 99:=⟨_,Tryz.func99,by kernel_rfl,rfl⟩
theorem c100:Sw.Callable Pg 100:=⟨_,Tryz.func100,by kernel_rfl,rfl⟩
theorem c104:Sw.Callable Pg 104:=⟨_,Tryz.func104,by kernel_rfl,rfl⟩
theorem c105:Sw.Callable Pg 105:=⟨_,Tryz.func105,by kernel_rfl,rfl⟩
theorem c106:Sw.Callable Pg 106:=⟨_,Tryz.func106,by kernel_rfl,rfl⟩
theorem c107:Sw.Callable Pg 107:=⟨_,Tryz.func107,by kernel_rfl,rfl⟩
theorem c108:Sw.Callable Pg 108:=⟨_,Tryz.func108,by kernel_rfl,rfl⟩
theorem c109:Sw.Callable Pg 109:=⟨_,Tryz.func109,by kernel_rfl,rfl⟩
theorem c110:Sw.Callable Pg 110:=⟨_,Tryz.func110,by kernel_rfl,rfl⟩
theorem c111:Sw.Callable Pg 111:=⟨_,Tryz.func111,by kernel_rfl,rfl⟩
theorem c112:Sw.Callable Pg 112:=⟨_,Tryz.func112,by kernel_rfl,rfl⟩
theorem c113:Sw.Callable Pg 113:=⟨_,Tryz.func113,by kernel_rfl,rfl⟩
theorem c114:Sw.Callable Pg 114:=⟨_,Tryz.func114,by kernel_rfl,rfl⟩
theorem c115:Sw.Callable Pg 115:=⟨_,Tryz.func115,by kernel_rfl,rfl⟩
theorem c116:Sw.Callable Pg 116:=⟨_,Tryz.func116,by kernel_rfl,rfl⟩
theorem c121:Sw.Callable Pg 121:=⟨_,Tryz.func121,by kernel_rfl,rfl⟩
theorem c122:Sw.Callable Pg 122:=⟨_,Tryz.func122,by kernel_rfl,rfl⟩
theorem c123:Sw.Callable Pg 123:=⟨_,Tryz.func123,by kernel_rfl,rfl⟩
theorem c124:Sw.Callable Pg 124:=⟨_,Tryz.func124,by kernel_rfl,rfl⟩
theorem c125:Sw.Callable Pg 125:=⟨_,Tryz.func125,by kernel_rfl,rfl⟩
theorem c126:Sw.Callable Pg 126:=⟨_,Tryz.func126,by kernel_rfl,rfl⟩
theorem c132:Sw.Callable Pg 132:=⟨_,Tryz.func132,by kernel_rfl,rfl⟩
theorem c133:Sw.Callable Pg 133:=⟨_,Tryz.func133,by kernel_rfl,rfl⟩
theorem c134:Sw.Callable Pg 134:=⟨_,Tryz.func134,by kernel_rfl,rfl⟩
theorem c135:Sw.Callable Pg 135:=⟨_,Tryz.func135,by kernel_rfl,rfl⟩
theorem c138:Sw.Callable Pg 138:=⟨_,Tryz.func138,by kernel_rfl,rfl⟩
theorem c139:Sw.Callable Pg 139:=⟨_,Tryz.func139,by kernel_rfl,rfl⟩
theorem c140:Sw.Callable Pg 140:=⟨_,Tryz.func140,by kernel_rfl,rfl⟩
theorem c141:Sw.Callable Pg 141:=⟨_,Tryz.func141,by kernel_rfl,rfl⟩
theorem c142:Sw.Callable Pg 142:=⟨_,Tryz.func142,by kernel_rfl,rfl⟩
theorem c143:Sw.Callable Pg 143:=⟨_,Tryz.func143,by kernel_rfl,rfl⟩
theorem c144:Sw.Callable Pg 144:=⟨_,Tryz.func144,by kernel_rfl,rfl⟩
theorem c145:Sw.Callable Pg 145:=⟨_,Tryz.func145,by kernel_rfl,rfl⟩
theorem c146:Sw.Callable Pg 146:=⟨_,Tryz.func146,by kernel_rfl,rfl⟩
theorem c147:Sw.Callable Pg 147:=⟨_,Tryz.func147,by kernel_rfl,rfl⟩
theorem c148:Sw.Callable Pg 148:=⟨_,Tryz.func148,by kernel_rfl,rfl⟩
theorem c149:Sw.Callable Pg 149:=⟨_,Tryz.func149,by kernel_rfl,rfl⟩
theorem c150:Sw.Callable Pg 150:=⟨_,Tryz.func150,by kernel_rfl,rfl⟩
theorem c151:Sw.Callable Pg 151:=⟨_,Tryz.func151,by kernel_rfl,rfl⟩
theorem c152:Sw.Callable Pg 152:=⟨_,Tryz.func152,by kernel_rfl,rfl⟩
theorem c153:Sw.Callable Pg 153:=⟨_,Tryz.func153,by kernel_rfl,rfl⟩
theorem c154:Sw.Callable Pg 154:=⟨_,Tryz.func154,by kernel_rfl,rfl⟩
theorem c155:Sw.Callable Pg 155:=⟨_,Tryz.func155,by kernel_rfl,rfl⟩
theorem c156:Sw.Callable Pg 156:=⟨_,Tryz.func156,by kernel_rfl,rfl⟩
theorem c157:Sw.Callable Pg 157:=⟨_,Tryz.func157,by kernel_rfl,rfl⟩
theorem c158:Sw.Callable Pg 158:=⟨_,Tryz.func158,by kernel_rfl,rfl⟩
theorem c159:Sw.Callable Pg 159:=⟨_,Tryz.func159,by kernel_rfl,rfl⟩
theorem c160:Sw.Callable Pg 160:=⟨_,Tryz.func160,by kernel_rfl,rfl⟩
theorem c161:Sw.Callable Pg 161:=⟨_,Tryz.func161,by kernel_rfl,rfl⟩
theorem c162:Sw.Callable Pg 162:=⟨_,Tryz.func162,by kernel_rfl,rfl⟩
theorem c163:Sw.Callable Pg 163:=⟨_,Tryz.func163,by kernel_rfl,rfl⟩
theorem c164:Sw.Callable Pg 164:=⟨_,Tryz.func164,by kernel_rfl,rfl⟩
theorem c165:Sw.Callable Pg 165:=⟨_,Tryz.func165,by kernel_rfl,rfl⟩
theorem c166:Sw.Callable Pg 166:=⟨_,Tryz.func166,by kernel_rfl,rfl⟩
theorem c167:Sw.Callable Pg 167:=⟨_,Tryz.func167,by kernel_rfl,rfl⟩
theorem c168:Sw.Callable Pg 168:=⟨_,Tryz.func168,by kernel_rfl,rfl⟩
theorem c169:Sw.Callable Pg 169:=⟨_,Tryz.func169,by kernel_rfl,rfl⟩
theorem c170:Sw.Callable Pg 170:=⟨_,Tryz.func170,by kernel_rfl,rfl⟩
theorem c171:Sw.Callable Pg 171:=⟨_,Tryz.func171,by kernel_rfl,rfl⟩
theorem c172:Sw.Callable Pg 172:=⟨_,Tryz.func172,by kernel_rfl,rfl⟩
theorem c173:Sw.Callable Pg 173:=⟨_,Tryz.func173,by kernel_rfl,rfl⟩
theorem c174:Sw.Callable Pg 174:=⟨_,Tryz.func174,by kernel_rfl,rfl⟩
theorem c175:Sw.Callable Pg 175:=⟨_,Tryz.func175,by kernel_rfl,rfl⟩
theorem c176:Sw.Callable Pg 176:=⟨_,Tryz.func176,by kernel_rfl,rfl⟩
theorem c177:Sw.Callable Pg 177:=⟨_,Tryz.func177,by kernel_rfl,rfl⟩
theorem c178:Sw.Callable Pg 178:=⟨_,Tryz.func178,by kernel_rfl,rfl⟩
theorem c179:Sw.Callable Pg 179:=⟨_,Tryz.func179,by kernel_rfl,rfl⟩
def n48c1 (t3 t24:Value) (ds:List Deferred) (R:RT) (w:World):Prop :=
 rangeN Pg t24 ds (fun l1 t25 w Kr1 Xr1 Qr1 =>
 busyK l1 w fun w =>
 opV Pg (Instr.loadAt 140 t3) Qr1 w fun t26 w =>
 callV Pg t26 #[t25] Qr1 w fun t28 w =>
 Kr1 w) (fun ch ds w=>outQ Pg ds [] R ch w) w (fun ds w =>
 outX Pg ds [] R w) []
def n48c2 (t2 t3 t16:Value) (ds:List Deferred) (R:RT) (w:World):Prop :=
 opV Pg (Instr.extract t16 0) (outQ Pg ds [] R) w fun t17 w =>
 opV Pg (Instr.extract t16 1) (outQ Pg ds [] R) w fun t18 w =>
 opV Pg (Instr.fieldAt 24 t2 1) (outQ Pg ds [] R) w fun t19 w =>
 opV Pg (Instr.loadAt 22 t19) (outQ Pg ds [] R) w fun t20 w =>
 opV Pg (Instr.indexAt 22 t20 t17) (outQ Pg ds [] R) w fun t22 w =>
 opV Pg (Instr.loadAt 53 t22) (outQ Pg ds [] R) w fun t23 w =>
 callK Pg 75 #[t23] (outQ Pg ds [] R) w fun t24 w =>
 n48c1 t3 t24 ds R w
def n48c3 (t0 t1 t2 t3:Value) (ds:List Deferred) (R:RT) (w:World):Prop :=
 opV Pg (Instr.loadAt 99 t1) (outQ Pg ds [] R) w fun t11 w =>
 opU Pg (Instr.mapUpdate 99 t11 t0 (.bool true)) (outQ Pg ds [] R) w fun w =>
 opV Pg (Instr.loadAt 24 t2) (outQ Pg ds [] R) w fun t14 w =>
 callK Pg 26 #[t14,t0] (outQ Pg ds [] R) w fun t16 w =>
 n48c2 t2 t3 t16 ds R w
def n48 (t0 t1 t2 t3:Value) (R:RT) (w:World):Prop :=
 (fun (ds:List Deferred) =>
 opV Pg (Instr.loadAt 99 t1) (outQ Pg ds [] R) w fun t8 w =>
 opV Pg (Instr.lookup 99 t8 t0 false) (outQ Pg ds [] R) w fun t10 w =>
 condP t10 (
 outX Pg ds [] R w) (
 n48c3 t0 t1 t2 t3 ds R w)) []
theorem n48s {t0 t1 t2 t3:Value} {R:RT} {w:World} (h:n48 t0 t1 t2 t3 R w):Calls Pg 74 #[t0,t1,t2,t3] w R:=by
 refine yE Tryz.func74 ?_
 unfold n48 at h
 dsimp only at h
 refine zs<|zs<|zr<|yv h fun _ w h=>zm<|yv h fun _ w h=>zn<|zk<|yC h (fun h=>sim_ret<|sim_then_ret<|bodyM_ret rfl h) fun h=>sim_skip<|zk<|zs<|zr<|yv h fun _ w h=>?_
 refine zm<|yu h fun w h=>zn<|zk<|zs<|zr<|yv h fun _ w h=>zm<|yc h c26 fun _ w h=>zm<|yv h fun _ w h=>yv h fun _ w h=>zm<|zm<|zn ?_
 refine zk<|zs<|zr<|yv h fun _ w h=>yv h fun _ w h=>zm<|yv h fun _ w h=>yv h fun _ w h=>yc h c75 fun _ w h=>zn<|zk<|sim_block<|sim_range [] h rfl (fun l1 t25 w Kr1 Xr1 Qr1 h=>?_) (fun ds w h=>?_) (fun c ds w h=>?_) (fun ch ds w h=>outQ_of rfl h)
 · refine zr<|zm<|zn<|zk ?_
   obtain ⟨hr,h⟩:=h
   refine ⟨rfl,hr,fun w hb=>?_⟩
   have h:=h w hb
   exact sim_block<|zr<|yv h fun _ w h=>zm<|yV h fun _ w h=>zn<|sim_block_normal<|⟨rfl,h⟩
 · exact sim_block_normal<|bodyM_normal<|bodyM_ret rfl h
 exact h.elim
def n61c1 (t3 t29 t31:Value) (next4:KV) (R:RT) (w:World):Prop :=
 opV Pg (Instr.indexAt 69 t29 t31) (panK R) w fun t33 w =>
 opV Pg (Instr.loadAt 85 t33) (panK R) w fun t34 w =>
 opV Pg (Instr.alloc 85 true (.tuple #[])) (panK R) w fun t7 w =>
 opU Pg (Instr.storeAt 85 t7 t34) (panK R) w fun w =>
 opV Pg (Instr.loadAt 80 t3) (panK R) w fun t35 w =>
 opV Pg (Instr.fieldAt 85 t7 2) (panK R) w fun t36 w =>
 opV Pg (Instr.loadAt 9 t36) (panK R) w fun t37 w =>
 opV Pg (Instr.buildSlice 80 1 #[(0,t37)]) (panK R) w fun t38 w =>
 opV Pg (Builtin.append_ #[80,80] 80 #[t35,t38]) (panK R) w fun t39 w =>
 opU Pg (Instr.storeAt 80 t3 t39) (panK R) w fun w =>
 opV Pg (binS .add 3 true t31 (.int .i64 1)) (panK R) w fun t40 w =>
 next4 t40 w
def n61c2 (t3 t5:Value) (K3:World→Prop) (R:RT) (w:World):Prop :=
 opV Pg (Instr.fieldAt 71 t5 11) (panK R) w fun t28 w =>
 opV Pg (Instr.loadAt 69 t28) (panK R) w fun t29 w =>
 opV Pg (Builtin.len_ #[69] 3 #[t29]) (panK R) w fun t30 w =>
 loop1 (fun t31 w next4 =>
 opV Pg (binS .lss 3 false t31 t30) (panK R) w fun t32 w =>
 condP t32 (
 n61c1 t3 t29 t31 next4 R w) (
 K3 w)) (.int .i64 0) w
def n61c3 (t3 t5:Value) (K3:World→Prop) (R:RT) (w:World):Prop :=
 opV Pg (Instr.loadAt 80 t3) (panK R) w fun t21 w =>
 opV Pg (Instr.fieldAt 71 t5 8) (panK R) w fun t22 w =>
 opV Pg (Instr.loadAt 9 t22) (panK R) w fun t23 w =>
 opV Pg (Instr.buildSlice 80 1 #[(0,t23)]) (panK R) w fun t24 w =>
 opV Pg (Builtin.append_ #[80,80] 80 #[t21,t24]) (panK R) w fun t25 w =>
 opU Pg (Instr.storeAt 80 t3 t25) (panK R) w fun w =>
 K3 w
def n61c4 (t3 t5 t11 t16 t17:Value) (next1:KV) (R:RT) (w:World):Prop :=
 joinK (fun (w:World) =>
 opV Pg (binS .add 3 true t11 (.int .i64 1)) (panK R) w fun t41 w =>
 next1 t41 w) fun K3 =>
 condP t17 (
 n61c3 t3 t5 K3 R w) (
 opV Pg (binS .eql 65 true t16 (.int .i64 9)) (panK R) w fun t27 w =>
 condP t27 (
 n61c2 t3 t5 K3 R w) (
 K3 w))
def n61c5 (t16:Value) (K2:KV) (R:RT) (w:World):Prop :=
 opV Pg (binS .eql 65 true t16 (.int .i64 8)) (panK R) w fun t19 w =>
 condP t19 (
 K2 t19 w) (
 opV Pg (binS .eql 65 true t16 (.int .i64 12)) (panK R) w fun t20 w =>
 K2 t20 w)
def n61c6 (t3 t9 t11:Value) (next1:KV) (R:RT) (w:World):Prop :=
 opV Pg (Instr.indexAt 51 t9 t11) (panK R) w fun t13 w =>
 opV Pg (Instr.loadAt 71 t13) (panK R) w fun t14 w =>
 opV Pg (Instr.alloc 71 true (.tuple #[])) (panK R) w fun t5 w =>
 opU Pg (Instr.storeAt 71 t5 t14) (panK R) w fun w =>
 opV Pg (Instr.fieldAt 71 t5 1) (panK R) w fun t15 w =>
 opV Pg (Instr.loadAt 65 t15) (panK R) w fun t16 w =>
 opV Pg (binS .eql 65 true t16 (.int .i64 7)) (panK R) w fun t18 w =>
 joinK (fun (t17:Value) (w:World) =>
 n61c4 t3 t5 t11 t16 t17 next1 R w) fun K2 =>
 condP t18 (
 K2 t18 w) (
 n61c5 t16 K2 R w)
def n61c7 (t3 t9 t10 t11:Value) (next1:KV) (R:RT) (w:World):Prop :=
 opV Pg (binS .lss 3 false t11 t10) (panK R) w fun t12 w =>
 condP t12 (
 n61c6 t3 t9 t11 next1 R w) (
 opV Pg (Instr.makeFunc (.func 95) #[] #[t3]) (panK R) w fun t42 w =>
 R (.returned t42) w)
def n61 (t0:Value) (R:RT) (w:World):Prop :=
 opV Pg (Instr.box 53 t0) (panK R) w fun t1 w =>
 opV Pg (Instr.alloc 80 true (.tuple #[])) (panK R) w fun t3 w =>
 opV Pg (Instr.fieldAt 53 t1 1) (panK R) w fun t8 w =>
 opV Pg (Instr.loadAt 51 t8) (panK R) w fun t9 w =>
 opV Pg (Builtin.len_ #[51] 3 #[t9]) (panK R) w fun t10 w =>
 loop1 (fun t11 w next1 =>
 n61c7 t3 t9 t10 t11 next1 R w) (.int .i64 0) w
theorem n61s {t0:Value} {R:RT} {w:World} (h:n61 t0 R w):Calls Pg 75 #[t0] w R:=by
 refine yD Tryz.func75 ?_
 refine zs<|zr<|yv h fun _ w h=>zm<|zn<|zk<|zs<|zr<|yv h fun _ w h=>zn<|zk<|zs<|zs<|zr<|yv h fun _ w h=>?_
 refine yv h fun _ w h=>yx h fun _ w h=>zm<|zn<|zk<|sim_block<|yl1 [5,7,11,12,13,14,15,16,17,18,19,20,21,22,23,24,25,26,27,28,29,30,31,32,33,34,35,36,37,38,39,40,41] 11 h fun σ w next h=>zs<|zr<|yb h fun _ w h=>zn<|zk<|zs<|yC h (fun h=>?_) fun h=>?_
 · refine sim_skip<|zk<|zs<|sim_block<|zs<|zr<|yv h fun _ w h=>yv h fun _ w h=>yv h fun _ w h=>yu h fun w h=>zn<|zk<|zs<|zr<|yv h fun _ w h=>?_
   refine yv h fun _ w h=>zn<|zk<|sim_block<|zs<|zs<|zr<|yb h fun _ w h=>zm<|zn<|zk<|yJ1 [17,19,20] 17 h (fun _ _ hkK2 h=>?_) fun σ w h=>?_
   · refine yC h (fun h=>?_) fun h=>?_
     · refine sim_skip<|zk ?_
       exact zt hkK2 h
     refine zs<|zr<|yb h fun _ w h=>zm<|zn<|zk<|yC h (fun h=>?_) fun h=>?_
     · refine sim_skip<|zk ?_
       exact zt hkK2 h
     refine zr<|yb h fun _ w h=>zm<|zn<|zk ?_
     exact zt hkK2 h
   refine zk<|yJ0 [7,21,22,23,24,25,26,27,28,29,30,31,32,33,34,35,36,37,38,39,40] h (fun _ _ hkK3 h=>?_) fun σ w h=>?_
   · refine yC h (fun h=>?_) fun h=>?_
     · refine zr<|yv h fun _ w h=>yv h fun _ w h=>yv h fun _ w h=>yS h fun _ w h=>yx h fun _ w h=>yu h fun w h=>zn<|zk ?_
       exact zt hkK3 h
     refine zs<|zr<|yb h fun _ w h=>zm<|zn<|zk<|yC h (fun h=>?_) fun h=>?_
     · refine zs<|zr<|yv h fun _ w h=>yv h fun _ w h=>yx h fun _ w h=>zm<|zn<|zk<|sim_block<|yl1 [7,31,32,33,34,35,36,37,38,39,40] 31 h fun σ w next h=>zs<|zr<|yb h fun _ w h=>zn<|zk ?_
       refine zs<|yC h (fun h=>?_) fun h=>?_
       · refine sim_skip<|zk<|zs<|sim_block<|zs<|zr<|yv h fun _ w h=>yv h fun _ w h=>yv h fun _ w h=>yu h fun w h=>zn<|zk<|zr<|yv h fun _ w h=>yv h fun _ w h=>?_
         exact yv h fun _ w h=>yS h fun _ w h=>yx h fun _ w h=>yu h fun w h=>zn<|sim_block_normal<|zk<|zr<|yb h fun _ w h=>zm<|zn<|zk<|⟨rfl,h⟩
       refine sim_exit<|sim_then_exit<|sim_then_exit<|sim_block_hit<|zk ?_
       exact zt hkK3 h
     refine sim_skip<|zk ?_
     exact zt hkK3 h
   exact sim_block_normal<|sim_block_normal<|zk<|zr<|yb h fun _ w h=>zm<|zn<|zk<|⟨rfl,h⟩
 exact sim_exit<|sim_then_exit<|sim_then_exit<|sim_block_hit<|zk<|zs<|zr<|yF h fun _ w h=>zm<|zn<|zk<|sim_ret<|body_ret1 rfl rfl h
def n59c1 (t1 t5 t9:Value) (R:RT) (w:World):Prop :=
 pickK t5 (.bool true) t9 fun t10 =>
 joinK (fun (t14:Value) (w:World) =>
 pickK t10 (.bool true) t14 fun t15 =>
 R (.returned t15) w) fun K2 =>
 guardP t10 false (
 opV Pg (Instr.fieldAt 71 t1 1) (panK R) w fun t12 w =>
 opV Pg (Instr.loadAt 65 t12) (panK R) w fun t13 w =>
 opV Pg (binS .eql 65 true t13 (.int .i64 3)) (panK R) w fun t14 w =>
 K2 t14 w) (
 K2 undef w)
def n59 (t0:Value) (R:RT) (w:World):Prop :=
 opV Pg (Instr.box 71 t0) (panK R) w fun t1 w =>
 opV Pg (Instr.fieldAt 71 t1 1) (panK R) w fun t3 w =>
 opV Pg (Instr.loadAt 65 t3) (panK R) w fun t4 w =>
 opV Pg (binS .eql 65 true t4 (.int .i64 1)) (panK R) w fun t5 w =>
 joinK (fun (t9:Value) (w:World) =>
 n59c1 t1 t5 t9 R w) fun K1 =>
 guardP t5 false (
 opV Pg (Instr.fieldAt 71 t1 1) (panK R) w fun t7 w =>
 opV Pg (Instr.loadAt 65 t7) (panK R) w fun t8 w =>
 opV Pg (binS .eql 65 true t8 (.int .i64 2)) (panK R) w fun t9 w =>
 K1 t9 w) (
 K1 undef w)
theorem n59s {t0:Value} {R:RT} {w:World} (h:n59 t0 R w):Calls Pg 76 #[t0] w R:=by
 refine yD Tryz.func76 ?_
 refine zs<|zr<|yv h fun _ w h=>zm<|zn<|zk<|zs<|sim_regionG<|yG 4<|yv h fun _ w h=>yv h fun _ w h=>yb h fun _ w h=>zm<|zn<|yg1 3 3 false [7,8,9] 9 h (fun _ T hT h=>?_) fun σ w h=>?_
 · refine yv h fun _ w h=>yv h fun _ w h=>yb h fun _ w h=>zn ?_
   exact zt hT h
 refine yG 2<|yp h fun _ h=>zm<|zn<|yg1 3 8 false [12,13,14] 14 h (fun _ T hT h=>?_) fun σ w h=>?_
 · refine yv h fun _ w h=>yv h fun _ w h=>yb h fun _ w h=>zn ?_
   exact zt hT h
 exact yG 2<|yp h fun _ h=>zm<|zn<|sim_end<|zk<|sim_ret<|body_ret1 rfl rfl h
def n49 (t0 t1:Value) (R:RT) (w:World):Prop :=
 opV Pg (Instr.box 53 t0) (panK R) w fun t2 w =>
 opV Pg (Instr.box 9 t1) (panK R) w fun t3 w =>
 opV Pg (Instr.fieldAt 53 t2 1) (panK R) w fun t5 w =>
 opV Pg (Instr.loadAt 51 t5) (panK R) w fun t6 w =>
 opV Pg (Instr.makeFunc (.func 98) #[] #[t3]) (panK R) w fun t7 w =>
 callK Pg 97 #[t6,t7] (panK R) w fun t8 w =>
 R (.returned t8) w
theorem n49s {t0 t1:Value} {R:RT} {w:World} (h:n49 t0 t1 R w):Calls Pg 77 #[t0,t1] w R:=by
 refine yD Tryz.func77 ?_
 refine zs<|zr<|yv h fun _ w h=>yv h fun _ w h=>zm<|zn<|zk<|zs<|zr<|yv h fun _ w h=>yv h fun _ w h=>yF h fun _ w h=>yc h c97 fun _ w h=>zm<|zn ?_
 exact zk<|sim_ret<|body_ret1 rfl rfl h
def n100 (t0:Value) (R:RT) (w:World):Prop :=
 opV Pg (Instr.box 71 t0) (panK R) w fun t1 w =>
 opV Pg (Instr.alloc 145 true (.tuple #[])) (panK R) w fun t2 w =>
 opV Pg (Instr.fieldAt 71 t1 0) (panK R) w fun t3 w =>
 opV Pg (Instr.loadAt 9 t3) (panK R) w fun t4 w =>
 opV Pg (Instr.fieldAt 71 t1 8) (panK R) w fun t5 w =>
 opV Pg (Instr.loadAt 9 t5) (panK R) w fun t6 w =>
 opV Pg (Instr.fieldAt 71 t1 9) (panK R) w fun t7 w =>
 opV Pg (Instr.loadAt 9 t7) (panK R) w fun t8 w =>
 opV Pg (Instr.fieldAt 71 t1 10) (panK R) w fun t9 w =>
 opV Pg (Instr.loadAt 9 t9) (panK R) w fun t10 w =>
 opV Pg (Instr.fieldAt 71 t1 1) (panK R) w fun t11 w =>
 opV Pg (Instr.loadAt 65 t11) (panK R) w fun t12 w =>
 opV Pg (Instr.fieldAt 71 t1 2) (panK R) w fun t13 w =>
 opV Pg (Instr.loadAt 3 t13) (panK R) w fun t14 w =>
 opV Pg (Instr.fieldAt 71 t1 5) (panK R) w fun t15 w =>
 opV Pg (Instr.loadAt 3 t15) (panK R) w fun t16 w =>
 opV Pg (Instr.fieldAt 71 t1 6) (panK R) w fun t17 w =>
 opV Pg (Instr.loadAt 3 t17) (panK R) w fun t18 w =>
 opV Pg (Instr.fieldAt 71 t1 7) (panK R) w fun t19 w =>
 opV Pg (Instr.fieldAt 68 t19 0) (panK R) w fun t20 w =>
 opV Pg (Instr.loadAt 3 t20) (panK R) w fun t21 w =>
 opV Pg (Instr.fieldAt 71 t1 12) (panK R) w fun t22 w =>
 opV Pg (Instr.loadAt 3 t22) (panK R) w fun t23 w =>
 opV Pg (Instr.fieldAt 71 t1 13) (panK R) w fun t24 w =>
 opV Pg (Instr.loadAt 3 t24) (panK R) w fun t25 w =>
 opV Pg (Instr.fieldAt 71 t1 3) (panK R) w fun t26 w =>
 opV Pg (Instr.loadAt 4 t26) (panK R) w fun t27 w =>
 opV Pg (Instr.fieldAt 71 t1 4) (panK R) w fun t28 w =>
 opV Pg (Instr.loadAt 4 t28) (panK R) w fun t29 w =>
 opV Pg (Instr.build 145 #[(0,t4),(1,t6),(2,t8),(3,t10),(4,t12),(5,t14),(6,t16),(7,t18),(8,t21),(9,t23),(10,t25),(11,t27),(12,t29)]) (panK R) w fun t30 w =>
 opU Pg (Instr.storeAt 145 t2 t30) (panK R) w fun w =>
 qW Pg 145 t2 w fun r0 =>
 R (.returned r0) w
theorem n100s {t0:Value} {R:RT} {w:World} (h:n100 t0 R w):Calls Pg 78 #[t0] w R:=by
 refine yD Tryz.func78 ?_
 refine zs<|zr<|yv h fun _ w h=>yv h fun _ w h=>zn<|zk<|zs<|zr<|yv h fun _ w h=>yv h fun _ w h=>yv h fun _ w h=>yv h fun _ w h=>yv h fun _ w h=>yv h fun _ w h=>yv h fun _ w h=>?_
 refine yv h fun _ w h=>yv h fun _ w h=>yv h fun _ w h=>yv h fun _ w h=>yv h fun _ w h=>yv h fun _ w h=>yv h fun _ w h=>yv h fun _ w h=>yv h fun _ w h=>yv h fun _ w h=>yv h fun _ w h=>yv h fun _ w h=>yv h fun _ w h=>yv h fun _ w h=>yv h fun _ w h=>?_
 exact yv h fun _ w h=>yv h fun _ w h=>yv h fun _ w h=>yv h fun _ w h=>yv h fun _ w h=>yB h fun _ w h=>yu h fun w h=>zn<|zk<|sim_ret<|body_retC rfl rfl h
def n130c1 (t0 t1 t13:Value) (C2:World→Prop) (next1:KV) (R:RT) (w:World):Prop :=
 qV Pg C2 (Instr.indexAt 66 t0 t13) fun t18 =>
 qV Pg C2 (Instr.loadAt 113 t18) fun t19 =>
 qV Pg C2 (Instr.indexAt 66 t1 t13) fun t22 =>
 qV Pg C2 (Instr.loadAt 113 t22) fun t23 =>
 qV Pg C2 (binS .neq 113 false t19 t23) fun t24 =>
 condP t24 (
 R (.returned (.bool false)) w) (
 opV Pg (binS .add 3 true t13 (.int .i64 1)) (panK R) w fun t25 w =>
 next1 t25 w)
def n130c2 (t0 t1:Value) (R:RT) (w:World):Prop :=
 opV Pg (Builtin.len_ #[66] 3 #[t0]) (panK R) w fun t12 w =>
 loop1 (fun t13 w next1 =>
 opV Pg (binS .lss 3 false t13 t12) (panK R) w fun t14 w =>
 condP t14 (
 drawK w fun C2 w =>
 n130c1 t0 t1 t13 C2 next1 R w) (
 R (.returned (.bool true)) w)) (.int .i64 0) w
def n130 (t0 t1:Value) (R:RT) (w:World):Prop :=
 opV Pg (Builtin.len_ #[66] 3 #[t0]) (panK R) w fun t7 w =>
 opV Pg (Builtin.len_ #[66] 3 #[t1]) (panK R) w fun t9 w =>
 opV Pg (binS .neq 3 false t7 t9) (panK R) w fun t10 w =>
 condP t10 (
 R (.returned (.bool false)) w) (
 n130c2 t0 t1 R w)
theorem n130s {t0 t1:Value} {R:RT} {w:World} (h:n130 t0 t1 R w):Calls Pg 79 #[t0,t1] w R:=by
 refine yD Tryz.func79 ?_
 refine zs<|zr<|zm<|zn<|zk<|zs<|zs<|zr<|zm<|yx h fun _ w h=>zm<|yx h fun _ w h=>yb h fun _ w h=>zn<|zk ?_
 refine yC h (fun h=>zs<|zr<|zm<|zn<|zk<|sim_ret<|sim_then_ret<|body_ret1 rfl rfl h) fun h=>sim_skip<|zk<|zs<|zs<|zr<|zm<|yx h fun _ w h=>zm<|zn<|zk<|sim_block<|yl1 [4,5,13,14,15,16,17,18,19,20,21,22,23,24,25] 13 h fun σ w next h=>zs ?_
 refine zr<|yb h fun _ w h=>zn<|zk<|zs<|yC h (fun h=>?_) fun h=>?_
 · refine sim_skip<|zk<|zs<|sim_block<|zs<|zr<|zm<|zm<|zn<|zk<|zs<|yh [16,17,18,19,20,21,22,23,24] h fun C hC h=>yw 0 hC ?_
   refine yw 1 hC ?_
   refine ye 2 hC h fun _ h=>?_
   refine ye 3 hC h fun _ h=>?_
   refine yw 4 hC ?_
   refine yw 5 hC ?_
   refine ye 6 hC h fun _ h=>?_
   refine ye 7 hC h fun _ h=>?_
   refine ye 8 hC h fun _ h=>?_
   exact yz<|zk<|yC h (fun h=>zs<|zr<|zm<|zn<|zk<|sim_ret<|sim_block_ret<|sim_then_ret<|sim_then_ret<|sim_block_ret<|sim_then_ret<|body_ret1 rfl rfl h) fun h=>sim_skip<|sim_block_normal<|zk<|zr<|yb h fun _ w h=>zm<|zn<|zk<|⟨rfl,h⟩
 exact sim_exit<|sim_then_exit<|sim_then_exit<|sim_block_hit<|zk<|zs<|zr<|zm<|zn<|zk<|sim_ret<|body_ret1 rfl rfl h
def n129c1 (t0 t1 t13:Value) (C2:World→Prop) (next1:KV) (R:RT) (w:World):Prop :=
 qV Pg C2 (Instr.indexAt 69 t0 t13) fun t18 =>
 qV Pg C2 (Instr.loadAt 85 t18) fun t19 =>
 qV Pg C2 (Instr.indexAt 69 t1 t13) fun t22 =>
 qV Pg C2 (Instr.loadAt 85 t22) fun t23 =>
 qV Pg C2 (binS .neq 85 false t19 t23) fun t24 =>
 condP t24 (
 R (.returned (.bool false)) w) (
 opV Pg (binS .add 3 true t13 (.int .i64 1)) (panK R) w fun t25 w =>
 next1 t25 w)
def n129c2 (t0 t1:Value) (R:RT) (w:World):Prop :=
 opV Pg (Builtin.len_ #[69] 3 #[t0]) (panK R) w fun t12 w =>
 loop1 (fun t13 w next1 =>
 opV Pg (binS .lss 3 false t13 t12) (panK R) w fun t14 w =>
 condP t14 (
 drawK w fun C2 w =>
 n129c1 t0 t1 t13 C2 next1 R w) (
 R (.returned (.bool true)) w)) (.int .i64 0) w
def n129 (t0 t1:Value) (R:RT) (w:World):Prop :=
 opV Pg (Builtin.len_ #[69] 3 #[t0]) (panK R) w fun t7 w =>
 opV Pg (Builtin.len_ #[69] 3 #[t1]) (panK R) w fun t9 w =>
 opV Pg (binS .neq 3 false t7 t9) (panK R) w fun t10 w =>
 condP t10 (
 R (.returned (.bool false)) w) (
 n129c2 t0 t1 R w)
theorem n129s {t0 t1:Value} {R:RT} {w:World} (h:n129 t0 t1 R w):Calls Pg 80 #[t0,t1] w R:=by
 refine yD Tryz.func80 ?_
 refine zs<|zr<|zm<|zn<|zk<|zs<|zs<|zr<|zm<|yx h fun _ w h=>zm<|yx h fun _ w h=>yb h fun _ w h=>zn<|zk ?_
 refine yC h (fun h=>zs<|zr<|zm<|zn<|zk<|sim_ret<|sim_then_ret<|body_ret1 rfl rfl h) fun h=>sim_skip<|zk<|zs<|zs<|zr<|zm<|yx h fun _ w h=>zm<|zn<|zk<|sim_block<|yl1 [4,5,13,14,15,16,17,18,19,20,21,22,23,24,25] 13 h fun σ w next h=>zs ?_
 refine zr<|yb h fun _ w h=>zn<|zk<|zs<|yC h (fun h=>?_) fun h=>?_
 · refine sim_skip<|zk<|zs<|sim_block<|zs<|zr<|zm<|zm<|zn<|zk<|zs<|yh [16,17,18,19,20,21,22,23,24] h fun C hC h=>yw 0 hC ?_
   refine yw 1 hC ?_
   refine ye 2 hC h fun _ h=>?_
   refine ye 3 hC h fun _ h=>?_
   refine yw 4 hC ?_
   refine yw 5 hC ?_
   refine ye 6 hC h fun _ h=>?_
   refine ye 7 hC h fun _ h=>?_
   refine ye 8 hC h fun _ h=>?_
   exact yz<|zk<|yC h (fun h=>zs<|zr<|zm<|zn<|zk<|sim_ret<|sim_block_ret<|sim_then_ret<|sim_then_ret<|sim_block_ret<|sim_then_ret<|body_ret1 rfl rfl h) fun h=>sim_skip<|sim_block_normal<|zk<|zr<|yb h fun _ w h=>zm<|zn<|zk<|⟨rfl,h⟩
 exact sim_exit<|sim_then_exit<|sim_then_exit<|sim_block_hit<|zk<|zs<|zr<|zm<|zn<|zk<|sim_ret<|body_ret1 rfl rfl h
def n132c1 (t0 t1 t8:Value) (next1:KV) (R:RT) (w:World):Prop :=
 opV Pg (Instr.indexAt 22 t0 t8) (panK R) w fun t14 w =>
 opV Pg (Instr.loadAt 53 t14) (panK R) w fun t15 w =>
 callV Pg t1 #[t15] (panK R) w fun t16 w =>
 condP t16 (
 R (.returned t8) w) (
 opV Pg (binS .add 3 true t8 (.int .i64 1)) (panK R) w fun t18 w =>
 next1 t18 w)
def n132 (t0 t1:Value) (R:RT) (w:World):Prop :=
 opV Pg (Builtin.len_ #[22] 3 #[t0]) (panK R) w fun t7 w =>
 loop1 (fun t8 w next1 =>
 opV Pg (binS .lss 3 false t8 t7) (panK R) w fun t9 w =>
 condP t9 (
 n132c1 t0 t1 t8 next1 R w) (
 R (.returned (.int .i64 (-1))) w)) (.int .i64 0) w
theorem n132s {t0 t1:Value} {R:RT} {w:World} (h:n132 t0 t1 R w):Calls Pg 81 #[t0,t1] w R:=by
 refine yD Tryz.func81 ?_
 refine zs<|zr<|zm<|zn<|zk<|zs<|zs<|zr<|zm<|yx h fun _ w h=>zm<|zn<|zk<|sim_block<|yl1 [4,5,8,9,10,11,12,13,14,15,16,17,18] 8 h fun σ w next h=>?_
 refine zs<|zr<|yb h fun _ w h=>zn<|zk<|zs<|yC h (fun h=>?_) fun h=>?_
 · refine sim_skip<|zk<|zs<|sim_block<|zs<|zr<|zm<|zm<|zn<|zk<|zs<|zr<|zm<|zm<|zm ?_
   refine yv h fun _ w h=>yv h fun _ w h=>yV h fun _ w h=>zn<|zk<|yC h (fun h=>zs<|zr<|zm<|zm<|zn<|zk<|sim_ret<|sim_block_ret<|sim_then_ret<|sim_then_ret<|sim_block_ret<|sim_then_ret<|body_ret1 rfl rfl h) fun h=>sim_skip<|sim_block_normal<|zk<|zr<|yb h fun _ w h=>zm<|zn<|zk ?_
   exact ⟨rfl,h⟩
 exact sim_exit<|sim_then_exit<|sim_then_exit<|sim_block_hit<|zk<|zs<|zr<|zm<|zn<|zk<|sim_ret<|body_ret1 rfl rfl h
def n137c1 (t0 t1 t8:Value) (next1:KV) (R:RT) (w:World):Prop :=
 opV Pg (Instr.indexAt 80 t0 t8) (panK R) w fun t14 w =>
 opV Pg (Instr.loadAt 9 t14) (panK R) w fun t15 w =>
 opV Pg (binS .eql 9 false t1 t15) (panK R) w fun t16 w =>
 condP t16 (
 R (.returned t8) w) (
 opV Pg (binS .add 3 true t8 (.int .i64 1)) (panK R) w fun t18 w =>
 next1 t18 w)
def n137 (t0 t1:Value) (R:RT) (w:World):Prop :=
 opV Pg (Builtin.len_ #[80] 3 #[t0]) (panK R) w fun t7 w =>
 loop1 (fun t8 w next1 =>
 opV Pg (binS .lss 3 false t8 t7) (panK R) w fun t9 w =>
 condP t9 (
 n137c1 t0 t1 t8 next1 R w) (
 R (.returned (.int .i64 (-1))) w)) (.int .i64 0) w
theorem n137s {t0 t1:Value} {R:RT} {w:World} (h:n137 t0 t1 R w):Calls Pg 114 #[t0,t1] w R:=by
 refine yD Tryz.func114 ?_
 refine zs<|zr<|zm<|zn<|zk<|zs<|zs<|zr<|zm<|yx h fun _ w h=>zm<|zn<|zk<|sim_block<|yl1 [4,5,8,9,10,11,12,13,14,15,16,17,18] 8 h fun σ w next h=>?_
 refine zs<|zr<|yb h fun _ w h=>zn<|zk<|zs<|yC h (fun h=>?_) fun h=>?_
 · refine sim_skip<|zk<|zs<|sim_block<|zs<|zr<|zm<|zm<|zn<|zk<|zs<|zr<|zm<|zm<|zm ?_
   refine yv h fun _ w h=>yv h fun _ w h=>yb h fun _ w h=>zn<|zk<|yC h (fun h=>zs<|zr<|zm<|zm<|zn<|zk<|sim_ret<|sim_block_ret<|sim_then_ret<|sim_then_ret<|sim_block_ret<|sim_then_ret<|body_ret1 rfl rfl h) fun h=>sim_skip<|sim_block_normal<|zk<|zr<|yb h fun _ w h=>zm<|zn<|zk ?_
   exact ⟨rfl,h⟩
 exact sim_exit<|sim_then_exit<|sim_then_exit<|sim_block_hit<|zk<|zs<|zr<|zm<|zn<|zk<|sim_ret<|body_ret1 rfl rfl h
def n131c1 (t0 t1 t8:Value) (next1:KV) (R:RT) (w:World):Prop :=
 opV Pg (Instr.indexAt 51 t0 t8) (panK R) w fun t14 w =>
 opV Pg (Instr.loadAt 71 t14) (panK R) w fun t15 w =>
 callV Pg t1 #[t15] (panK R) w fun t16 w =>
 condP t16 (
 R (.returned t8) w) (
 opV Pg (binS .add 3 true t8 (.int .i64 1)) (panK R) w fun t18 w =>
 next1 t18 w)
def n131 (t0 t1:Value) (R:RT) (w:World):Prop :=
 opV Pg (Builtin.len_ #[51] 3 #[t0]) (panK R) w fun t7 w =>
 loop1 (fun t8 w next1 =>
 opV Pg (binS .lss 3 false t8 t7) (panK R) w fun t9 w =>
 condP t9 (
 n131c1 t0 t1 t8 next1 R w) (
 R (.returned (.int .i64 (-1))) w)) (.int .i64 0) w
theorem n131s {t0 t1:Value} {R:RT} {w:World} (h:n131 t0 t1 R w):Calls Pg 115 #[t0,t1] w R:=by
 refine yD Tryz.func115 ?_
 refine zs<|zr<|zm<|zn<|zk<|zs<|zs<|zr<|zm<|yx h fun _ w h=>zm<|zn<|zk<|sim_block<|yl1 [4,5,8,9,10,11,12,13,14,15,16,17,18] 8 h fun σ w next h=>?_
 refine zs<|zr<|yb h fun _ w h=>zn<|zk<|zs<|yC h (fun h=>?_) fun h=>?_
 · refine sim_skip<|zk<|zs<|sim_block<|zs<|zr<|zm<|zm<|zn<|zk<|zs<|zr<|zm<|zm<|zm ?_
   refine yv h fun _ w h=>yv h fun _ w h=>yV h fun _ w h=>zn<|zk<|yC h (fun h=>zs<|zr<|zm<|zm<|zn<|zk<|sim_ret<|sim_block_ret<|sim_then_ret<|sim_then_ret<|sim_block_ret<|sim_then_ret<|body_ret1 rfl rfl h) fun h=>sim_skip<|sim_block_normal<|zk<|zr<|yb h fun _ w h=>zm<|zn<|zk ?_
   exact ⟨rfl,h⟩
 exact sim_exit<|sim_then_exit<|sim_then_exit<|sim_block_hit<|zk<|zs<|zr<|zm<|zn<|zk<|sim_ret<|body_ret1 rfl rfl h
def n133c1 (t0 t1 t8:Value) (next1:KV) (R:RT) (w:World):Prop :=
 opV Pg (Instr.indexAt 66 t0 t8) (panK R) w fun t14 w =>
 opV Pg (Instr.loadAt 113 t14) (panK R) w fun t15 w =>
 callV Pg t1 #[t15] (panK R) w fun t16 w =>
 condP t16 (
 R (.returned t8) w) (
 opV Pg (binS .add 3 true t8 (.int .i64 1)) (panK R) w fun t18 w =>
 next1 t18 w)
def n133 (t0 t1:Value) (R:RT) (w:World):Prop :=
 opV Pg (Builtin.len_ #[66] 3 #[t0]) (panK R) w fun t7 w =>
 loop1 (fun t8 w next1 =>
 opV Pg (binS .lss 3 false t8 t7) (panK R) w fun t9 w =>
 condP t9 (
 n133c1 t0 t1 t8 next1 R w) (
 R (.returned (.int .i64 (-1))) w)) (.int .i64 0) w
theorem n133s {t0 t1:Value} {R:RT} {w:World} (h:n133 t0 t1 R w):Calls Pg 116 #[t0,t1] w R:=by
 refine yD Tryz.func116 ?_
 refine zs<|zr<|zm<|zn<|zk<|zs<|zs<|zr<|zm<|yx h fun _ w h=>zm<|zn<|zk<|sim_block<|yl1 [4,5,8,9,10,11,12,13,14,15,16,17,18] 8 h fun σ w next h=>?_
 refine zs<|zr<|yb h fun _ w h=>zn<|zk<|zs<|yC h (fun h=>?_) fun h=>?_
 · refine sim_skip<|zk<|zs<|sim_block<|zs<|zr<|zm<|zm<|zn<|zk<|zs<|zr<|zm<|zm<|zm ?_
   refine yv h fun _ w h=>yv h fun _ w h=>yV h fun _ w h=>zn<|zk<|yC h (fun h=>zs<|zr<|zm<|zm<|zn<|zk<|sim_ret<|sim_block_ret<|sim_then_ret<|sim_then_ret<|sim_block_ret<|sim_then_ret<|body_ret1 rfl rfl h) fun h=>sim_skip<|sim_block_normal<|zk<|zr<|yb h fun _ w h=>zm<|zn<|zk ?_
   exact ⟨rfl,h⟩
 exact sim_exit<|sim_then_exit<|sim_then_exit<|sim_block_hit<|zk<|zs<|zr<|zm<|zn<|zk<|sim_ret<|body_ret1 rfl rfl h
def n108c1 (t0 t5 t9:Value) (R:RT) (w:World):Prop :=
 pickK t5 t9 (.bool false) fun t10 =>
 joinK (fun (t13:Value) (w:World) =>
 pickK t10 t13 (.bool false) fun t14 =>
 R (.returned t14) w) fun K2 =>
 guardP t10 true (
 opV Pg (binS .neq 5 true t0 (.int .u8 95)) (panK R) w fun t13 w =>
 K2 t13 w) (
 K2 undef w)
def n108c2 (t0 t4:Value) (R:RT) (w:World):Prop :=
 opV Pg (Op.unary .not t4) (panK R) w fun t5 w =>
 joinK (fun (t9:Value) (w:World) =>
 n108c1 t0 t5 t9 R w) fun K1 =>
 guardP t5 true (
 callK Pg 123 #[t0] (panK R) w fun t8 w =>
 opV Pg (Op.unary .not t8) (panK R) w fun t9 w =>
 K1 t9 w) (
 K1 undef w)
def n108 (t0:Value) (R:RT) (w:World):Prop :=
 callK Pg 122 #[t0] (panK R) w fun t4 w =>
 n108c2 t0 t4 R w
theorem n108s {t0:Value} {R:RT} {w:World} (h:n108 t0 R w):Calls Pg 121 #[t0] w R:=by
 refine yD Tryz.func121 ?_
 refine zs<|zr<|zm<|zn<|zk<|zs<|sim_regionG<|yG 4<|zm<|yc h c122 fun _ w h=>yv h fun _ w h=>zm<|zn<|yg1 3 3 true [7,8,9] 9 h (fun _ T hT h=>?_) fun σ w h=>?_
 · refine zm<|yc h c123 fun _ w h=>yv h fun _ w h=>zn ?_
   exact zt hT h
 refine yG 2<|yp h fun _ h=>zm<|zn<|yg1 2 8 true [12,13] 13 h (fun _ T hT h=>?_) fun σ w h=>?_
 · refine zm<|yb h fun _ w h=>zn ?_
   exact zt hT h
 exact yG 2<|yp h fun _ h=>zm<|zn<|sim_end<|zk<|sim_ret<|body_ret1 rfl rfl h
def n116c1 (t0 t8 t12:Value) (R:RT) (w:World):Prop :=
 joinK (fun (t14:Value) (w:World) =>
 joinK (fun (t15:Value) (w:World) =>
 pickK t8 (.bool true) t15 fun t16 =>
 R (.returned t16) w) fun K4 =>
 guardP t8 false (
 pickK t12 t14 (.bool false) fun t15 =>
 K4 t15 w) (
 K4 undef w)) fun K3 =>
 guardP t12 true (
 opV Pg (binS .leq 5 true t0 (.int .u8 122)) (panK R) w fun t14 w =>
 K3 t14 w) (
 K3 undef w)
def n116c2 (t0 t4 t7:Value) (R:RT) (w:World):Prop :=
 pickK t4 t7 (.bool false) fun t8 =>
 joinK (fun (t12:Value) (w:World) =>
 n116c1 t0 t8 t12 R w) fun K2 =>
 guardP t8 false (
 opV Pg (binS .geq 5 true t0 (.int .u8 97)) (panK R) w fun t11 w =>
 K2 t11 w) (
 K2 undef w)
def n116 (t0:Value) (R:RT) (w:World):Prop :=
 opV Pg (binS .geq 5 true t0 (.int .u8 65)) (panK R) w fun t4 w =>
 joinK (fun (t7:Value) (w:World) =>
 n116c2 t0 t4 t7 R w) fun K1 =>
 guardP t4 true (
 opV Pg (binS .leq 5 true t0 (.int .u8 90)) (panK R) w fun t7 w =>
 K1 t7 w) (
 K1 undef w)
theorem n116s {t0:Value} {R:RT} {w:World} (h:n116 t0 R w):Calls Pg 122 #[t0] w R:=by
 refine yD Tryz.func122 ?_
 refine zs<|zr<|zm<|zn<|zk<|zs<|sim_regionG<|yG 3<|zm<|yb h fun _ w h=>zm<|zn<|yg1 2 2 true [6,7] 7 h (fun _ T hT h=>?_) fun σ w h=>?_
 · refine zm<|yb h fun _ w h=>zn ?_
   exact zt hT h
 refine yG 2<|yp h fun _ h=>zm<|zn<|yg1 3 6 false [10,11,12] 12 h (fun _ T hT h=>?_) fun σ w h=>?_
 · refine zm<|yb h fun _ w h=>zm<|zn ?_
   exact zt hT h
 refine yg1 2 9 true [13,14] 14 h (fun _ T hT h=>?_) fun σ w h=>?_
 · refine zm<|yb h fun _ w h=>zn ?_
   exact zt hT h
 refine yg1 1 6 false [15] 15 h (fun _ T hT h=>?_) fun σ w h=>?_
 · refine yp h fun _ h=>zn ?_
   exact zt hT h
 exact yG 2<|yp h fun _ h=>zm<|zn<|sim_end<|zk<|sim_ret<|body_ret1 rfl rfl h
def n115 (t0:Value) (R:RT) (w:World):Prop :=
 opV Pg (binS .geq 5 true t0 (.int .u8 48)) (panK R) w fun t4 w =>
 joinK (fun (t7:Value) (w:World) =>
 pickK t4 t7 (.bool false) fun t8 =>
 R (.returned t8) w) fun K1 =>
 guardP t4 true (
 opV Pg (binS .leq 5 true t0 (.int .u8 57)) (panK R) w fun t7 w =>
 K1 t7 w) (
 K1 undef w)
theorem n115s {t0:Value} {R:RT} {w:World} (h:n115 t0 R w):Calls Pg 123 #[t0] w R:=by
 refine yD Tryz.func123 ?_
 refine zs<|zr<|zm<|zn<|zk<|zs<|sim_regionG<|yG 3<|zm<|yb h fun _ w h=>zm<|zn<|yg1 2 2 true [6,7] 7 h (fun _ T hT h=>?_) fun σ w h=>?_
 · refine zm<|yb h fun _ w h=>zn ?_
   exact zt hT h
 exact yG 2<|yp h fun _ h=>zm<|zn<|sim_end<|zk<|sim_ret<|body_ret1 rfl rfl h
def n113 (t0:Value) (R:RT) (w:World):Prop :=
 callK Pg 132 #[t0,(.bool false)] (panK R) w fun t4 w =>
 opV Pg (Op.unary .not t4) (panK R) w fun t5 w =>
 R (.returned t5) w
theorem n113s {t0:Value} {R:RT} {w:World} (h:n113 t0 R w):Calls Pg 124 #[t0] w R:=by
 refine yD Tryz.func124 ?_
 exact zs<|zr<|zm<|zn<|zk<|zs<|zr<|zm<|yc h c132 fun _ w h=>yv h fun _ w h=>zm<|zn<|zk<|sim_ret<|body_ret1 rfl rfl h
def n125 (t0 t1:Value) (R:RT) (w:World):Prop :=
 callK Pg 133 #[t0,t1] (panK R) w fun t7 w =>
 opV Pg (binS .geq 3 true t7 (.int .i64 0)) (panK R) w fun t8 w =>
 R (.returned t8) w
theorem n125s {t0 t1:Value} {R:RT} {w:World} (h:n125 t0 t1 R w):Calls Pg 125 #[t0,t1] w R:=by
 refine yD Tryz.func125 ?_
 refine zs<|zr<|zm<|zn<|zk<|zs<|zr<|zm<|zm<|yc h c133 fun _ w h=>yb h fun _ w h=>zm<|zn<|zk<|sim_ret ?_
 exact body_ret1 rfl rfl h
def n67c1 (t0 t3 t6:Value) (R:RT) (w:World):Prop :=
 opV Pg (Instr.fieldAt 208 t6 1) (panK R) w fun t49 w =>
 opV Pg (Instr.loadAt 206 t49) (panK R) w fun t50 w =>
 opV Pg (Instr.loadAt 71 t3) (panK R) w fun t52 w =>
 callV Pg t50 #[t0,t52] (panK R) w fun t53 w =>
 R (.returned (.tuple #[])) w
def n67c2 (t0 t3 t6 t7:Value) (R:RT) (w:World):Prop :=
 opV Pg (Instr.loadAt 71 t7) (panK R) w fun t41 w =>
 opV Pg (Instr.fieldAt 71 t3 0) (panK R) w fun t42 w =>
 opV Pg (Instr.loadAt 9 t42) (panK R) w fun t43 w =>
 opV Pg (Instr.fieldAt 71 t3 1) (panK R) w fun t44 w =>
 opV Pg (Instr.loadAt 65 t44) (panK R) w fun t45 w =>
 opV Pg (Instr.build 71 #[(0,t43),(1,t45)]) (panK R) w fun t46 w =>
 callK Pg 59 #[t41,t46] (panK R) w fun t47 w =>
 callK Pg 105 #[t0,t47,(.int .i64 5)] (panK R) w fun t48 w =>
 n67c1 t0 t3 t6 R w
def n67c3 (t0 t3 t6:Value) (R:RT) (w:World):Prop :=
 opV Pg (Instr.loadAt 71 t3) (panK R) w fun t36 w =>
 opV Pg (Instr.alloc 71 true (.tuple #[])) (panK R) w fun t7 w =>
 opU Pg (Instr.storeAt 71 t7 t36) (panK R) w fun w =>
 opV Pg (Instr.fieldAt 208 t6 0) (panK R) w fun t37 w =>
 opV Pg (Instr.loadAt 205 t37) (panK R) w fun t38 w =>
 callV Pg t38 #[t7] (panK R) w fun t39 w =>
 n67c2 t0 t3 t6 t7 R w
def n67c4 (t27 t29:Value) (C4:World→Prop) (K3:KW) (R:RT) (w:World):Prop :=
 qV Pg C4 (Instr.lookup 210 t27 t29 true) fun t30 =>
 qV Pg C4 (Instr.extract t30 0) fun t31 =>
 qV Pg C4 (Instr.extract t30 1) fun t32 =>
 opV Pg (Instr.alloc 208 true (.tuple #[])) (panK R) w fun t6 w =>
 C4 w∧(
 opU Pg (Instr.storeAt 208 t6 t31) (panK R) w fun w =>
 C4 w∧(
 K3 t32 t6 w))
def n67c5 (t6 t27 t29:Value) (C5:World→Prop) (K3:KW) (R:RT) (w:World):Prop :=
 qV Pg C5 (Instr.lookup 210 t27 t29 true) fun t30 =>
 qV Pg C5 (Instr.extract t30 0) fun t31 =>
 qV Pg C5 (Instr.extract t30 1) fun t32 =>
 opU Pg (Instr.storeAt 208 t6 t31) (panK R) w fun w =>
 C5 w∧(
 K3 t32 t6 w)
def n67c6 (t0 t3:Value) (C2:World→Prop) (R:RT) (w:World):Prop :=
 qV Pg C2 (Instr.fieldAt 71 t3 1) fun t28 =>
 qV Pg C2 (Instr.loadAt 65 t28) fun t29 =>
 joinK (fun (t5:Value) (t6:Value) (w:World) =>
 callK Pg 105 #[t0,t5,(.int .i64 4)] (panK R) w fun t35 w =>
 n67c3 t0 t3 t6 R w) fun K3 =>
 (
 callK Pg 135 #[] (panK R) w fun t27 w =>
 narrowK C2 w fun C4 w =>
 n67c4 t27 t29 C4 K3 R w)∧(
 opV Pg (Instr.alloc 208 true (.tuple #[])) (panK R) w fun t6 w =>
 C2 w∧(
 callK Pg 135 #[] (panK R) w fun t27 w =>
 narrowK C2 w fun C5 w =>
 n67c5 t6 t27 t29 C5 K3 R w))
def n67c7 (t0 t3 t19:Value) (C1:World→Prop) (R:RT) (w:World):Prop :=
 qV Pg C1 (Instr.extract t19 0) fun t20 =>
 qV Pg C1 (Instr.extract t19 1) fun t21 =>
 opV Pg (Op.unary .not t21) (panK R) w fun t24 w =>
 callK Pg 105 #[t0,t24,(.int .i64 2)] (panK R) w fun t25 w =>
 drawK w fun C2 w =>
 n67c6 t0 t3 C2 R w
def n67c8 (t0 t3:Value) (C1:World→Prop) (R:RT) (w:World):Prop :=
 qV Pg C1 (Instr.fieldAt 71 t3 0) fun t17 =>
 qV Pg C1 (Instr.loadAt 9 t17) fun t18 =>
 callK Pg 134 #[t0] (panK R) w fun t15 w =>
 C1 w∧(
 qV Pg C1 (Instr.build 53 #[(1,t15)]) fun t16 =>
 callK Pg 91 #[t16,t18] (panK R) w fun t19 w =>
 C1 w∧(
 n67c7 t0 t3 t19 C1 R w))
def n67 (t0 t1:Value) (R:RT) (w:World):Prop :=
 opV Pg (Instr.box 71 t1) (panK R) w fun t3 w =>
 opV Pg (Instr.fieldAt 71 t3 0) (panK R) w fun t9 w =>
 opV Pg (Instr.loadAt 9 t9) (panK R) w fun t10 w =>
 callK Pg 106 #[t10] (panK R) w fun t11 w =>
 callK Pg 105 #[t0,t11,(.int .i64 1)] (panK R) w fun t12 w =>
 drawK w fun C1 w =>
 n67c8 t0 t3 C1 R w
theorem n67s {t0 t1:Value} {R:RT} {w:World} (h:n67 t0 t1 R w):Calls Pg 126 #[t0,t1] w R:=by
 refine yD Tryz.func126 ?_
 refine zs<|zr<|yv h fun _ w h=>zn<|zk<|zs<|zr<|zm<|yv h fun _ w h=>yv h fun _ w h=>yc h c106 fun _ w h=>yc h c105 fun _ w h=>zn<|zk<|zs ?_
 refine yh [4,5,13,14,15,16,17,18,19,20,21] h fun C hC h=>yw 0 hC ?_
 refine ye 3 hC h fun _ h=>?_
 refine ye 4 hC h fun _ h=>?_
 refine yo 1 ?_
 refine yc h c134 fun _ w h=>zn ?_
 obtain ⟨hC,h⟩:=h
 refine ⟨hC,?_⟩
 refine ye 2 hC h fun _ h=>?_
 refine yo 5 ?_
 refine yc h c91 fun _ w h=>zn ?_
 obtain ⟨hC,h⟩:=h
 refine ⟨hC,?_⟩
 refine yw 6 hC ?_
 refine ye 7 hC h fun _ h=>?_
 refine ye 8 hC h fun _ h=>?_
 refine yw 9 hC ?_
 refine yw 10 hC ?_
 refine yz<|zk<|zs<|zr<|zm<|zm<|yv h fun _ w h=>yc h c105 fun _ w h=>zn<|zk<|zs<|yh [5,6,26,27,28,29,30,31,32] h fun C hC h=>ye 1 hC h fun _ h=>?_
 refine ye 2 hC h fun _ h=>?_
 refine joinK_elim h (fun K3 hK h=>?_)
 refine sim_dmeet [5,6,26,27,30,31,32] (fun ρ w=>K3 (ρ 5) (ρ 6) w) (fun T hT=>?_) (fun σ w h=>?_)
 · obtain ⟨h0,h1⟩:=h
   refine sim_dloud2 0 7 rfl rfl (by kernel_rfl) (fun _ _=>rfl) (fun _ _=>rfl) ?_ ?_
   · have h:=h0
     refine yc h c135 fun _ w h=>zn ?_
     obtain ⟨C4,hs,hC,h⟩:=h
     refine ⟨C4,hs,hC,?_⟩
     refine ye 3 hC h fun _ h=>?_
     refine yw 4 hC ?_
     refine ye 5 hC h fun _ h=>?_
     refine ye 6 hC h fun _ h=>?_
     refine yo 7 ?_
     refine yv h fun _ w h=>zn ?_
     obtain ⟨hC,h⟩:=h
     refine ⟨hC,?_⟩
     refine yo 8 ?_
     refine yu h fun w h=>zn ?_
     obtain ⟨hC,h⟩:=h
     refine ⟨hC,?_⟩
     refine yw 9 hC ?_
     refine yz ?_
     exact zt hT h
   have h:=h1
   refine yv h fun _ w h=>zn ?_
   obtain ⟨hC,h⟩:=h
   refine ⟨_,fun _ h=>h,hC,?_⟩
   refine yr 0 ?_
   refine yc h c135 fun _ w h=>zn ?_
   obtain ⟨C5,hs,hC,h⟩:=h
   refine ⟨C5,hs,hC,?_⟩
   refine ye 3 hC h fun _ h=>?_
   refine yw 4 hC ?_
   refine ye 5 hC h fun _ h=>?_
   refine ye 6 hC h fun _ h=>?_
   refine yo 8 ?_
   refine yu h fun w h=>zn ?_
   obtain ⟨hC,h⟩:=h
   refine ⟨hC,?_⟩
   refine yw 9 hC ?_
   refine yz ?_
   exact zt hT h
 subst hK
 refine zk<|zs<|zr<|zm<|zm<|yc h c105 fun _ w h=>zn<|zk<|zs<|zr<|yv h fun _ w h=>yv h fun _ w h=>yu h fun w h=>zn<|zk ?_
 refine zs<|zr<|yv h fun _ w h=>yv h fun _ w h=>yV h fun _ w h=>zn<|zk<|zs<|zr<|zm<|yv h fun _ w h=>yv h fun _ w h=>yv h fun _ w h=>yv h fun _ w h=>yv h fun _ w h=>?_
 exact yB h fun _ w h=>yc h c59 fun _ w h=>yc h c105 fun _ w h=>zn<|zk<|zr<|yv h fun _ w h=>yv h fun _ w h=>zm<|yv h fun _ w h=>yV h fun _ w h=>zn<|body_normal<|body_ret0 rfl h
def n127 (t0 t1:Value) (R:RT) (w:World):Prop :=
 callK Pg 138 #[t0,t1] (panK R) w fun t7 w =>
 opV Pg (binS .geq 3 true t7 (.int .i64 0)) (panK R) w fun t8 w =>
 R (.returned t8) w
theorem n127s {t0 t1:Value} {R:RT} {w:World} (h:n127 t0 t1 R w):Calls Pg 132 #[t0,t1] w R:=by
 refine yD Tryz.func132 ?_
 refine zs<|zr<|zm<|zn<|zk<|zs<|zr<|zm<|zm<|yc h c138 fun _ w h=>yb h fun _ w h=>zm<|zn<|zk<|sim_ret ?_
 exact body_ret1 rfl rfl h
def n134c1 (t0 t1 t8:Value) (next1:KV) (R:RT) (w:World):Prop :=
 opV Pg (Instr.indexAt 126 t0 t8) (panK R) w fun t14 w =>
 opV Pg (Instr.loadAt 5 t14) (panK R) w fun t15 w =>
 callV Pg t1 #[t15] (panK R) w fun t16 w =>
 condP t16 (
 R (.returned t8) w) (
 opV Pg (binS .add 3 true t8 (.int .i64 1)) (panK R) w fun t18 w =>
 next1 t18 w)
def n134 (t0 t1:Value) (R:RT) (w:World):Prop :=
 opV Pg (Builtin.len_ #[126] 3 #[t0]) (panK R) w fun t7 w =>
 loop1 (fun t8 w next1 =>
 opV Pg (binS .lss 3 false t8 t7) (panK R) w fun t9 w =>
 condP t9 (
 n134c1 t0 t1 t8 next1 R w) (
 R (.returned (.int .i64 (-1))) w)) (.int .i64 0) w
theorem n134s {t0 t1:Value} {R:RT} {w:World} (h:n134 t0 t1 R w):Calls Pg 133 #[t0,t1] w R:=by
 refine yD Tryz.func133 ?_
 refine zs<|zr<|zm<|zn<|zk<|zs<|zs<|zr<|zm<|yx h fun _ w h=>zm<|zn<|zk<|sim_block<|yl1 [4,5,8,9,10,11,12,13,14,15,16,17,18] 8 h fun σ w next h=>?_
 refine zs<|zr<|yb h fun _ w h=>zn<|zk<|zs<|yC h (fun h=>?_) fun h=>?_
 · refine sim_skip<|zk<|zs<|sim_block<|zs<|zr<|zm<|zm<|zn<|zk<|zs<|zr<|zm<|zm<|zm ?_
   refine yv h fun _ w h=>yv h fun _ w h=>yV h fun _ w h=>zn<|zk<|yC h (fun h=>zs<|zr<|zm<|zm<|zn<|zk<|sim_ret<|sim_block_ret<|sim_then_ret<|sim_then_ret<|sim_block_ret<|sim_then_ret<|body_ret1 rfl rfl h) fun h=>sim_skip<|sim_block_normal<|zk<|zr<|yb h fun _ w h=>zm<|zn<|zk ?_
   exact ⟨rfl,h⟩
 exact sim_exit<|sim_then_exit<|sim_then_exit<|sim_block_hit<|zk<|zs<|zr<|zm<|zn<|zk<|sim_ret<|body_ret1 rfl rfl h
def n63c1 (t0:Value) (C1:World→Prop) (R:RT) (w:World):Prop :=
 qN Pg C1 (nilN t0) fun t4 =>
 qV Pg C1 (Instr.fieldAt 175 t4 5) fun t5 =>
 qV Pg C1 (Instr.fieldAt 53 t5 1) fun t6 =>
 qV Pg C1 (Instr.loadAt 51 t6) fun t7 =>
 qN Pg C1 (nilN t0) fun t9 =>
 qV Pg C1 (Instr.fieldAt 175 t9 4) fun t10 =>
 qV Pg C1 (Instr.loadAt 3 t10) fun t11 =>
 qV Pg C1 (Instr.sliceAt 51 t7 none (some t11) none) fun t12 =>
 R (.returned t12) w
def n63 (t0:Value) (R:RT) (w:World):Prop :=
 drawK w fun C1 w =>
 n63c1 t0 C1 R w
theorem n63s {t0:Value} {R:RT} {w:World} (h:n63 t0 R w):Calls Pg 134 #[t0] w R:=by
 refine yD Tryz.func134 ?_
 refine zs<|zr<|zm<|zn<|zk<|zs<|yh [2,3,4,5,6,7,8,9,10,11,12] h fun C hC h=>yw 0 hC ?_
 refine yn 1 hC h fun _ h=>?_
 refine ye 2 hC h fun _ h=>?_
 refine ye 3 hC h fun _ h=>?_
 refine ye 4 hC h fun _ h=>?_
 refine yw 5 hC ?_
 refine yn 6 hC h fun _ h=>?_
 refine ye 7 hC h fun _ h=>?_
 refine ye 8 hC h fun _ h=>?_
 refine ye 9 hC h fun _ h=>?_
 refine yw 10 hC ?_
 exact yz<|zk<|sim_ret<|body_ret1 rfl rfl h
def n77 (R:RT) (w:World):Prop :=
 opV Pg (Instr.makeMap 210 none) (panK R) w fun t1 w =>
 opV Pg (Instr.build 208 #[(0,(.func (.func 139) #[] #[])),(1,(.func (.func 140) #[] #[]))]) (panK R) w fun t2 w =>
 opU Pg (Instr.mapUpdate 210 t1 (.int .i64 1) t2) (panK R) w fun w =>
 opV Pg (Instr.build 208 #[(0,(.func (.func 143) #[] #[])),(1,(.func (.func 144) #[] #[]))]) (panK R) w fun t3 w =>
 opU Pg (Instr.mapUpdate 210 t1 (.int .i64 2) t3) (panK R) w fun w =>
 opV Pg (Instr.build 208 #[(0,(.func (.func 145) #[] #[])),(1,(.func (.func 146) #[] #[]))]) (panK R) w fun t4 w =>
 opU Pg (Instr.mapUpdate 210 t1 (.int .i64 3) t4) (panK R) w fun w =>
 opV Pg (Instr.build 208 #[(0,(.func (.func 147) #[] #[])),(1,(.func (.func 148) #[] #[]))]) (panK R) w fun t5 w =>
 opU Pg (Instr.mapUpdate 210 t1 (.int .i64 4) t5) (panK R) w fun w =>
 opV Pg (Instr.build 208 #[(0,(.func (.func 149) #[] #[])),(1,(.func (.func 150) #[] #[]))]) (panK R) w fun t6 w =>
 opU Pg (Instr.mapUpdate 210 t1 (.int .i64 5) t6) (panK R) w fun w =>
 opV Pg (Instr.build 208 #[(0,(.func (.func 151) #[] #[])),(1,(.func (.func 152) #[] #[]))]) (panK R) w fun t7 w =>
 opU Pg (Instr.mapUpdate 210 t1 (.int .i64 6) t7) (panK R) w fun w =>
 opV Pg (Instr.build 208 #[(0,(.func (.func 153) #[] #[])),(1,(.func (.func 154) #[] #[]))]) (panK R) w fun t8 w =>
 opU Pg (Instr.mapUpdate 210 t1 (.int .i64 7) t8) (panK R) w fun w =>
 opV Pg (Instr.build 208 #[(0,(.func (.func 156) #[] #[])),(1,(.func (.func 157) #[] #[]))]) (panK R) w fun t9 w =>
 opU Pg (Instr.mapUpdate 210 t1 (.int .i64 8) t9) (panK R) w fun w =>
 opV Pg (Instr.build 208 #[(0,(.func (.func 158) #[] #[])),(1,(.func (.func 159) #[] #[]))]) (panK R) w fun t10 w =>
 opU Pg (Instr.mapUpdate 210 t1 (.int .i64 9) t10) (panK R) w fun w =>
 opV Pg (Instr.build 208 #[(0,(.func (.func 160) #[] #[])),(1,(.func (.func 161) #[] #[]))]) (panK R) w fun t11 w =>
 opU Pg (Instr.mapUpdate 210 t1 (.int .i64 10) t11) (panK R) w fun w =>
 opV Pg (Instr.build 208 #[(0,(.func (.func 162) #[] #[])),(1,(.func (.func 163) #[] #[]))]) (panK R) w fun t12 w =>
 opU Pg (Instr.mapUpdate 210 t1 (.int .i64 11) t12) (panK R) w fun w =>
 opV Pg (Instr.build 208 #[(0,(.func (.func 164) #[] #[])),(1,(.func (.func 165) #[] #[]))]) (panK R) w fun t13 w =>
 opU Pg (Instr.mapUpdate 210 t1 (.int .i64 12) t13) (panK R) w fun w =>
 R (.returned t1) w
theorem n77s {R:RT} {w:World} (h:n77 R w):Calls Pg 135 #[] w R:=by
 refine yD Tryz.func135 ?_
 refine zs<|zr<|zm<|zn<|zk<|zs<|zr<|yv h fun _ w h=>yB h fun _ w h=>yu h fun w h=>yB h fun _ w h=>yu h fun w h=>yB h fun _ w h=>yu h fun w h=>yB h fun _ w h=>?_
 refine yu h fun w h=>yB h fun _ w h=>yu h fun w h=>yB h fun _ w h=>yu h fun w h=>yB h fun _ w h=>yu h fun w h=>yB h fun _ w h=>yu h fun w h=>yB h fun _ w h=>yu h fun w h=>yB h fun _ w h=>yu h fun w h=>yB h fun _ w h=>yu h fun w h=>?_
 exact yB h fun _ w h=>yu h fun w h=>zm<|zm<|zn<|zk<|sim_ret<|body_ret1 rfl rfl h
open Go.RowKit (intOf)
theorem IndexFunc_Field_ret (w0:World) (v:Value) (l:List FieldD) (g:FuncId) (caps:Array Value) (p:FieldD→Bool) (hs:FieldsOf w0 v l) (hg:Callable Pg g) (hc:Tests w0 FieldVal g caps p l) :
 Ret Pg 115 #[v,.func (.func g) #[] caps] w0 fun r w'=>r = .int .i64 (idx p l)∧Ext w0 w':=by
 obtain ⟨A,c,rfl,hlc,hcm,hlm,hel⟩:=SliceOf.open hs
 refine n131s (R:=retR _) ?_
 unfold n131
 simp (disch:=try exact DI) only [↓PR,QR,simprocAttr]
 refine loop1_intro (fun i w=>∃ k:Nat,i = .int .i64 k∧k≤l.length∧Ext w0 w∧∀ (j:Nat) y,j < k→l[j]?=some y→p y=false) (fun i _=>l.length - (intOf i).toNat) ⟨0,rfl,by omega,Ext.refl _,fun j y h=>by omega⟩ ?_
 rintro i w ⟨k,rfl,hk,e,hb⟩
 by_cases hlt:k < l.length
 · obtain ⟨x,hx⟩:=getElem?_lt hlt
   obtain ⟨b,o,cs,rfl,hl,hA,hE⟩:=hel k x hx
   have hd:decide ((k:Int) < (l.length:Int))=true:=by simp;omega
   simp (disch:=try exact DI) only [↓PR,QR,simprocAttr,hd]
   unfold n131c1
   simp (disch:=try exact DI) only [↓PR,QR,simprocAttr]
   unfold EField at hE
   obtain ⟨tv,cv,hcs,hT,hC⟩:=hE
   subst hcs
   have hV:FieldVal w0 (.agg (fieldCells x tv cv).toArray) x:=⟨tv,cv,rfl,hT,hC⟩
   simp (disch:=try exact DI) only [↓PR,QR,simprocAttr,hA.c15]
   rw [callV_func hg]
   simp only [Array.empty_append]
   refine callK_ret (hc w _ x (List.mem_of_getElem? hx) e (hV.ext e)) ?_
   rintro r w' ⟨rfl,e'⟩
   cases hp:p x with
   | true => 
    simp (disch:=try exact DI) only [↓PR,QR,simprocAttr]
    exact ⟨by rw [idx_here hx hp hb],e.trans e'⟩
   | false =>
    simp (disch:=try exact DI) only [↓PR,QR,simprocAttr]
    refine ⟨⟨k+1,rfl,by omega,e.trans e',fun j y hj hy=>?_⟩,by simp [intOf];omega⟩
    by_cases hjk:j=k
    · subst hjk;rw [hx] at hy;injection hy with hy;subst hy;exact hp
    · exact hb j y (by omega) hy
 · have hd:decide ((k:Int) < (l.length:Int))=false:=by simp;omega
   simp (disch:=try exact DI) only [↓PR,QR,simprocAttr,hd]
   exact ⟨by rw [idx_none fun j y hy=>hb j y (by have:=(List.getElem?_eq_some_iff.1 hy).1;omega) hy],e⟩
theorem IndexFunc_Message_ret (w0:World) (v:Value) (l:List MsgD) (g:FuncId) (caps:Array Value) (p:MsgD→Bool) (hs:MsgsOf w0 v l) (hg:Callable Pg g) (hc:Tests w0 MsgVal g caps p l) :
 Ret Pg 81 #[v,.func (.func g) #[] caps] w0 fun r w'=>r = .int .i64 (idx p l)∧Ext w0 w':=by
 obtain ⟨A,c,rfl,hlc,hcm,hlm,hel⟩:=SliceOf.open hs
 refine n132s (R:=retR _) ?_
 unfold n132
 simp (disch:=try exact DI) only [↓PR,QR,simprocAttr]
 refine loop1_intro (fun i w=>∃ k:Nat,i = .int .i64 k∧k≤l.length∧Ext w0 w∧∀ (j:Nat) y,j < k→l[j]?=some y→p y=false) (fun i _=>l.length - (intOf i).toNat) ⟨0,rfl,by omega,Ext.refl _,fun j y h=>by omega⟩ ?_
 rintro i w ⟨k,rfl,hk,e,hb⟩
 by_cases hlt:k < l.length
 · obtain ⟨x,hx⟩:=getElem?_lt hlt
   obtain ⟨b,o,cs,rfl,hl,hA,hE⟩:=hel k x hx
   have hd:decide ((k:Int) < (l.length:Int))=true:=by simp;omega
   simp (disch:=try exact DI) only [↓PR,QR,simprocAttr,hd]
   unfold n132c1
   simp (disch:=try exact DI) only [↓PR,QR,simprocAttr]
   unfold EMsg at hE
   obtain ⟨fv,hcs,hF⟩:=hE
   subst hcs
   have hV:MsgVal w0 (.agg (msgCells x fv).toArray) x:=⟨fv,rfl,hF⟩
   simp (disch:=try exact DI) only [↓PR,QR,simprocAttr,hA.c2]
   rw [callV_func hg]
   simp only [Array.empty_append]
   refine callK_ret (hc w _ x (List.mem_of_getElem? hx) e (hV.ext e)) ?_
   rintro r w' ⟨rfl,e'⟩
   cases hp:p x with
   | true => 
    simp (disch:=try exact DI) only [↓PR,QR,simprocAttr]
    exact ⟨by rw [idx_here hx hp hb],e.trans e'⟩
   | false =>
    simp (disch:=try exact DI) only [↓PR,QR,simprocAttr]
    refine ⟨⟨k+1,rfl,by omega,e.trans e',fun j y hj hy=>?_⟩,by simp [intOf];omega⟩
    by_cases hjk:j=k
    · subst hjk;rw [hx] at hy;injection hy with hy;subst hy;exact hp
    · exact hb j y (by omega) hy
 · have hd:decide ((k:Int) < (l.length:Int))=false:=by simp;omega
   simp (disch:=try exact DI) only [↓PR,QR,simprocAttr,hd]
   exact ⟨by rw [idx_none fun j y hy=>hb j y (by have:=(List.getElem?_eq_some_iff.1 hy).1;omega) hy],e⟩
theorem IndexFunc_Term_ret (w0:World) (v:Value) (l:List TermD) (g:FuncId) (caps:Array Value) (p:TermD→Bool) (hs:TermsOf w0 v l) (hg:Callable Pg g) (hc:Tests w0 (fun _ v x=>v=termVal x) g caps p l) :
 Ret Pg 116 #[v,.func (.func g) #[] caps] w0 fun r w'=>r = .int .i64 (idx p l)∧Ext w0 w':=by
 obtain ⟨A,c,rfl,hlc,hcm,hlm,hel⟩:=SliceOf.open hs
 refine n133s (R:=retR _) ?_
 unfold n133
 simp (disch:=try exact DI) only [↓PR,QR,simprocAttr]
 refine loop1_intro (fun i w=>∃ k:Nat,i = .int .i64 k∧k≤l.length∧Ext w0 w∧∀ (j:Nat) y,j < k→l[j]?=some y→p y=false) (fun i _=>l.length - (intOf i).toNat) ⟨0,rfl,by omega,Ext.refl _,fun j y h=>by omega⟩ ?_
 rintro i w ⟨k,rfl,hk,e,hb⟩
 by_cases hlt:k < l.length
 · obtain ⟨x,hx⟩:=getElem?_lt hlt
   obtain ⟨b,o,cs,rfl,hl,hA,hE⟩:=hel k x hx
   have hd:decide ((k:Int) < (l.length:Int))=true:=by simp;omega
   simp (disch:=try exact DI) only [↓PR,QR,simprocAttr,hd]
   unfold n133c1
   simp (disch:=try exact DI) only [↓PR,QR,simprocAttr]
   obtain rfl:=hE
   have hV:(.agg (termCells x).toArray:Value)=termVal x:=rfl
   simp (disch:=try exact DI) only [↓PR,QR,simprocAttr,hA.c2]
   rw [callV_func hg]
   simp only [Array.empty_append]
   refine callK_ret (hc w _ x (List.mem_of_getElem? hx) e (hV)) ?_
   rintro r w' ⟨rfl,e'⟩
   cases hp:p x with
   | true => 
    simp (disch:=try exact DI) only [↓PR,QR,simprocAttr]
    exact ⟨by rw [idx_here hx hp hb],e.trans e'⟩
   | false =>
    simp (disch:=try exact DI) only [↓PR,QR,simprocAttr]
    refine ⟨⟨k+1,rfl,by omega,e.trans e',fun j y hj hy=>?_⟩,by simp [intOf];omega⟩
    by_cases hjk:j=k
    · subst hjk;rw [hx] at hy;injection hy with hy;subst hy;exact hp
    · exact hb j y (by omega) hy
 · have hd:decide ((k:Int) < (l.length:Int))=false:=by simp;omega
   simp (disch:=try exact DI) only [↓PR,QR,simprocAttr,hd]
   exact ⟨by rw [idx_none fun j y hy=>hb j y (by have:=(List.getElem?_eq_some_iff.1 hy).1;omega) hy],e⟩
theorem IndexFunc_byte_ret (w0:World) (v:Value) (l:List UInt8) (g:FuncId) (caps:Array Value) (p:UInt8→Bool) (hs:(fun w v l=>SliceOf w 1 EByte v l) w0 v l) (hg:Callable Pg g) (hc:Tests w0 (fun _ v x=>v = .int .u8 (x.toNat:Int)) g caps p l) :
 Ret Pg 133 #[v,.func (.func g) #[] caps] w0 fun r w'=>r = .int .i64 (idx p l)∧Ext w0 w':=by
 obtain ⟨A,c,rfl,hlc,hcm,hlm,hel⟩:=SliceOf.open hs
 refine n134s (R:=retR _) ?_
 unfold n134
 simp (disch:=try exact DI) only [↓PR,QR,simprocAttr]
 refine loop1_intro (fun i w=>∃ k:Nat,i = .int .i64 k∧k≤l.length∧Ext w0 w∧∀ (j:Nat) y,j < k→l[j]?=some y→p y=false) (fun i _=>l.length - (intOf i).toNat) ⟨0,rfl,by omega,Ext.refl _,fun j y h=>by omega⟩ ?_
 rintro i w ⟨k,rfl,hk,e,hb⟩
 by_cases hlt:k < l.length
 · obtain ⟨x,hx⟩:=getElem?_lt hlt
   obtain ⟨b,o,cs,rfl,hl,hA,hE⟩:=hel k x hx
   have hd:decide ((k:Int) < (l.length:Int))=true:=by simp;omega
   simp (disch:=try exact DI) only [↓PR,QR,simprocAttr,hd]
   unfold n134c1
   simp (disch:=try exact DI) only [↓PR,QR,simprocAttr]
   obtain rfl:=hE
   have hV:(.int .u8 (x.toNat:Int):Value) = .int .u8 (x.toNat:Int):=rfl
   simp (disch:=try exact DI) only [↓PR,QR,simprocAttr,hA.c1]
   rw [callV_func hg]
   simp only [Array.empty_append]
   refine callK_ret (hc w _ x (List.mem_of_getElem? hx) e (hV)) ?_
   rintro r w' ⟨rfl,e'⟩
   cases hp:p x with
   | true => 
    simp (disch:=try exact DI) only [↓PR,QR,simprocAttr]
    exact ⟨by rw [idx_here hx hp hb],e.trans e'⟩
   | false =>
    simp (disch:=try exact DI) only [↓PR,QR,simprocAttr]
    refine ⟨⟨k+1,rfl,by omega,e.trans e',fun j y hj hy=>?_⟩,by simp [intOf];omega⟩
    by_cases hjk:j=k
    · subst hjk;rw [hx] at hy;injection hy with hy;subst hy;exact hp
    · exact hb j y (by omega) hy
 · have hd:decide ((k:Int) < (l.length:Int))=false:=by simp;omega
   simp (disch:=try exact DI) only [↓PR,QR,simprocAttr,hd]
   exact ⟨by rw [idx_none fun j y hy=>hb j y (by have:=(List.getElem?_eq_some_iff.1 hy).1;omega) hy],e⟩
theorem IndexFunc_Term_st (w0 w1:World) (v:Value) (l:List TermD) (g:FuncId) (caps:Array Value) (p:Nat→Bool) (J:Nat→World→Prop) (hs:TermsOf w0 v l) (hg:Callable Pg g) (hJ:∀ k w,J k w→Ext w0 w) (h0:J 0 w1)
 (hc:∀ k x w u,l[k]?=some x→J k w→(fun _ v x=>v=termVal x) w u x→Ret Pg g (#[u]++caps) w fun r w'=>r = .bool (p k)∧J (k+1) w') :
 Ret Pg 116 #[v,.func (.func g) #[] caps] w1 fun r w'=>r = .int .i64 (idx p (List.range l.length))∧∃ k,J k w':=by
 obtain ⟨A,c,rfl,hlc,hcm,hlm,hel⟩:=SliceOf.open hs
 refine n133s (R:=retR _) ?_
 unfold n133
 simp (disch:=try exact DI) only [↓PR,QR,simprocAttr]
 refine loop1_intro (fun i w=>∃ k:Nat,i = .int .i64 k∧k≤l.length∧J k w∧∀ (j:Nat) y,j < k→(List.range l.length)[j]?=some y→p y=false) (fun i _=>l.length - (intOf i).toNat) ⟨0,rfl,by omega,h0,fun j y h=>by omega⟩ ?_
 rintro i w ⟨k,rfl,hk,hj,hb⟩
 have e:=hJ _ _ hj
 by_cases hlt:k < l.length
 · obtain ⟨x,hx⟩:=getElem?_lt hlt
   have hr:(List.range l.length)[k]?=some k:=by simp [hlt]
   obtain ⟨b,o,cs,rfl,hl,hA,hE⟩:=hel k x hx
   have hd:decide ((k:Int) < (l.length:Int))=true:=by simp;omega
   simp (disch:=try exact DI) only [↓PR,QR,simprocAttr,hd]
   unfold n133c1
   simp (disch:=try exact DI) only [↓PR,QR,simprocAttr]
   obtain rfl:=hE
   have hV:(.agg (termCells x).toArray:Value)=termVal x:=rfl
   simp (disch:=try exact DI) only [↓PR,QR,simprocAttr,hA.c2]
   rw [callV_func hg]
   simp only [Array.empty_append]
   refine callK_ret (hc k x w _ hx hj hV) ?_
   rintro r w' ⟨rfl,hj'⟩
   cases hp:p k with
   | true => 
    simp (disch:=try exact DI) only [↓PR,QR,simprocAttr]
    exact ⟨by rw [idx_here hr hp hb],_,hj'⟩
   | false =>
    simp (disch:=try exact DI) only [↓PR,QR,simprocAttr]
    exact ⟨⟨k+1,rfl,by omega,hj',before_succ hb hr hp⟩,by simp [intOf];omega⟩
 · have hd:decide ((k:Int) < (l.length:Int))=false:=by simp;omega
   simp (disch:=try exact DI) only [↓PR,QR,simprocAttr,hd]
   exact ⟨by rw [idx_none fun j y hy=>hb j y (by have:=(List.getElem?_eq_some_iff.1 hy).1;simp at this;omega) hy],_,hj⟩
end Go.Proofs.YtfdecdnmooaegaaGreatDoor
