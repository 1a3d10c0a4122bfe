/-
  phrasebooklaw45.MappingBack returns true for every mapping, text and definition, and leaves its arguments as they were; no condition is asked but that the tables of the library lie as the program lays them (the card ties them).
-/
import Derived.Test.YtgalpdihjbinjaaGreatDoorXb5
set_option linter.all false
set_option maxHeartbeats 4000000
set_option maxRecDepth 100000
open Go.Instr (loadAt storeAt fieldAt indexAt buildSlice mapUpdate makeFunc alloc build box extract fill sliceAt lookup makeInterface)
open Go.Proofs.Tryz
namespace Go.Proofs.YtgalpdihjbinjaaGreatDoor
open Sw
open Go.RowKit (intOf Below)
theorem j0 {w:Wd} (hE:UD w) (s:List UInt8) (c:UInt8) (hs:s.length≤1000000000):Ret Pg 48 #[.string (mkB s),.string ⟨#[c]⟩] w λ r w'=>Ext w w'∧r = .slice (some ⟨w.heap.size,0,none⟩) (Yi c s).length (Yi c s).length∧w'.heap[w.heap.size]?=some (.cells (((XI c (Yi c s)).map mkB).map Value.string).toArray 9 (0,0)):=by
 obtain ⟨m,hm⟩:=hE.len
 have h1:1≤(⟨#[c]⟩:BAr).size:=Nat.le_refl _
 have hle:=Go.Lib.countB_le ⟨#[c]⟩ h1 (mkB s).size (mkB s) (Nat.le_refl _)
 have hl:=Go.Lib.splitB_all ⟨#[c]⟩ h1 1 _ (mkB s) rfl
 have hz:=Xc s
 refine Zhp (R:=ZI _) ?_;unfold Zho
 simp (disch:=try exact DI) only [↓PR,QR,simprocAttr]
 refine Zk (Φ:=λ r w'=>Ext w w'∧r = .slice (some ⟨w.heap.size,0,none⟩) (Yi c s).length (Yi c s).length∧w'.heap[w.heap.size]?=some (.cells (((XI c (Yi c s)).map mkB).map Value.string).toArray 9 (0,0))) ?_ λ v w' h=>⟨v,rfl,h⟩
 have hk:=Gx (mkB s) ⟨#[c]⟩ 1 (-1) (Go.Lib.countB (mkB s) ⟨#[c]⟩+1) m w (by omega) hm h1 h1 (by decide) (by decide) (by rw [if_pos (by decide)];omega)
 rw [Nat.add_sub_cancel,hl] at hk
 refine Calls.mono hk ?_
 rintro e w' ⟨rfl,rfl⟩
 have hsp:=If c (mkB s)
 rw [Qu] at hsp
 rw [hsp] at hl ⊢
 rw [List.length_map,GV] at hl
 refine ⟨_,rfl,(Ext.refl w).alloc _,by rw [hl],?_⟩
 have e2:Go.Lib.cellsOf ((XI c (Yi c s)).map mkB) (Go.Lib.countB (mkB s) ⟨#[c]⟩+1)=(((XI c (Yi c s)).map mkB).map Value.string).toArray:=by
  have:Go.Lib.countB (mkB s) ⟨#[c]⟩+1=((XI c (Yi c s)).map mkB).length:=by rw [List.length_map,GV,hl]
  rw [this]
  exact Go.Lib.cellsOf_full _
 rw [e2]
 exact Zv _ _ _
structure Chg (g:Nat) (w w':Wd):Prop where
 size:w.heap.size≤w'.heap.size
 block:∀ b,b < w.heap.size→b≠g→w'.heap[b]?=w.heap[b]?
theorem WY {α:Type} {w w':Wd} {g lo n:Nat} {T:TypeId} {enc:α→List Vl} {v:Vl} {l:List α} (h:ZW w lo T n enc v l) (hc:Chg g w w') (hg:v.ownBlock≠some g):ZW w' lo T n enc v l:=
 ZW.keep h λ b hb=>hc.block b (World.ownsRow.lt h b hb).2 λ e=>hg (by rw [hb,e])
theorem Q6 {α:Type} {w:Wd} {g lo n:Nat} {T T':TypeId} {enc:α→List Vl} {v:Vl} {l:List α} {cs:AVl} {f:Nat×Nat} (h:ZW w lo T n enc v l) (ho:w.heap[g]?=some (.cells cs T' f)) (hT:T≠T'):v.ownBlock≠some g:=by
 intro hg
 rcases h.2 with ⟨rfl,_⟩ | ⟨g',cap,cur,rfl,_,hg',_⟩
 · cases hg
 · have:g'=g:=by simpa [Value.ownBlock] using hg
   subst this
   rw [ho] at hg'
   injection hg' with hg'
   injection hg' with _ hg'
   exact hT hg'.symm
def E7 (w:Wd) (b0:Nat) (cs:List Vl) (x:FrD):Prop:=∃ bv tv,cs=Zz x bv tv∧ZW w b0 5 1 XV bv x.bytes∧ZW w b0 78 3 Z9 tv x.table
def Vs (w:Wd) (b0 lo hi:Nat) (fv:Vl) (fs:List FrD):Prop:=∃ css:List (Cs 7),ZW w lo 43 7 Subtype.val fv css∧(∀ b,fv.ownBlock=some b→b < hi)∧VB 7 (E7 w b0) css fs
def Fy (w:Wd) (b0 lo hi:Nat) (cs:List Vl) (r:MrD):Prop:=∃ fv,cs=Z6 r fv∧Vs w b0 lo hi fv r.fields
section
variable {w w':Wd} {b0 lo hi g:Nat} {fv:Vl} {fs:List FrD} {cs:List Vl} {x:FrD} {r:MrD} {T:TypeId} {oc:AVl} {f:Nat×Nat}
theorem E7.ext (h:E7 w b0 cs x) (e:Ext w w'):E7 w' b0 cs x:=by obtain ⟨bv,tv,h1,h2,h3⟩:=h;exact ⟨bv,tv,h1,h2.ext e,h3.ext e⟩
theorem E7.chg (h:E7 w b0 cs x) (hc:Chg g w w') (ho:w.heap[g]?=some (.cells oc T f)) (h1:5≠T) (h2:78≠T):E7 w' b0 cs x:=by
 obtain ⟨bv,tv,a1,a2,a3⟩:=h
 exact ⟨bv,tv,a1,WY a2 hc (Q6 a2 ho h1),WY a3 hc (Q6 a3 ho h2)⟩
theorem E7.fr (h:E7 w b0 cs x):EFr w cs x:=by obtain ⟨bv,tv,a1,a2,a3⟩:=h;exact ⟨bv,tv,a1,zy a2,V2 a3⟩
theorem Vs.ext (h:Vs w b0 lo hi fv fs) (e:Ext w w'):Vs w' b0 lo hi fv fs:=by obtain ⟨css,h1,h2,h3⟩:=h;exact ⟨css,h1.ext e,h2,h3.imp λ _ _ h=>h.ext e⟩
theorem Vs.toHi {hi':Nat} (h:Vs w b0 lo hi fv fs) (hh:hi≤hi'):Vs w b0 lo hi' fv fs:=by obtain ⟨css,h1,h2,h3⟩:=h;exact ⟨css,h1,λ b hb=>Nat.lt_of_lt_of_le (h2 b hb) hh,h3⟩
theorem Vs.toLo {lo':Nat} (h:Vs w b0 lo hi fv fs) (hh:lo'≤lo):Vs w b0 lo' hi fv fs:=by obtain ⟨css,h1,h2,h3⟩:=h;exact ⟨css,h1.base hh,h2,h3⟩
theorem Vs.chg (h:Vs w b0 lo hi fv fs) (hc:Chg g w w') (ho:w.heap[g]?=some (.cells oc T f)) (h1:5≠T) (h2:78≠T) (hg:fv.ownBlock≠some g):Vs w' b0 lo hi fv fs:=by
 obtain ⟨css,a1,a2,a3⟩:=h
 exact ⟨css,WY a1 hc hg,a2,a3.imp λ _ _ h=>h.chg hc ho h1 h2⟩
theorem Vs.chgT (h:Vs w b0 lo hi fv fs) (hc:Chg g w w') (ho:w.heap[g]?=some (.cells oc T f)) (h1:5≠T) (h2:78≠T) (h3:43≠T):Vs w' b0 lo hi fv fs:=by
 have h':=h
 obtain ⟨css,a1,a2,a3⟩:=h'
 exact h.chg hc ho h1 h2 (Q6 a1 ho h3)
theorem Vs.frs (h:Vs w b0 lo hi fv fs):QZ w fv fs:=by
 obtain ⟨css,a1,_,a3⟩:=h
 exact a1.reads (a3.imp λ _ _ h=>h.fr)
theorem Fy.ext (h:Fy w b0 lo hi cs r) (e:Ext w w'):Fy w' b0 lo hi cs r:=by obtain ⟨fv,h1,h2⟩:=h;exact ⟨fv,h1,h2.ext e⟩
theorem Fy.mr (h:Fy w b0 lo hi cs r):EMr w cs r:=by obtain ⟨fv,h1,h2⟩:=h;exact ⟨fv,h1,h2.frs⟩
end
structure PS (b16:Nat) (lcs:AVl) (w0 w:Wd) (p2 B:Nat) (st:PsD) (rv:Vl):Prop where
 ln:w.heap[b16]?=some (.cells lcs 9 (0,0))
 e:Ext w0 w
 lp:w0.heap.size≤p2
 obj:w.heap[p2]?=some (.cells #[.string st.name,rv] 24 (0,0))
 b1:w0.heap.size≤B
 b2:B≤w.heap.size
 row:∃ css dss:List (Cs 3),ZW w w0.heap.size 60 3 Subtype.val rv (css++dss)∧VB 3 (Fy w w0.heap.size w0.heap.size B) css st.done∧VB 3 (Fy w w0.heap.size B w.heap.size) dss st.cur.toList
section
variable {b16:Nat} {lcs:AVl} {w0 w w':Wd} {p2 B:Nat} {st:PsD} {rv:Vl}
theorem PS.go (h:PS b16 lcs w0 w p2 B st rv) (e:Ext w w'):PS b16 lcs w0 w' p2 B st rv:=by
 obtain ⟨h0,h1,h2,h3,h4,h5,css,dss,a1,a2,a3⟩:=h
 exact ⟨e.obj h0,h1.trans e,h2,e.obj h3,h4,Nat.le_trans h5 e.size,css,dss,a1.ext e,a2.imp λ _ _ h=>h.ext e,a3.imp λ _ _ ⟨fv,g1,g2⟩=>⟨fv,g1,(g2.ext e).toHi e.size⟩⟩
theorem Gn {n:Nat} {α:Type} {E:List Vl→α→Prop} {c1 c2:List (Cs n)} {l1 l2:List α} (h1:VB n E c1 l1) (h2:VB n E c2 l2):VB n E (c1++c2) (l1++l2):=by
 refine ⟨by rw [List.length_append,List.length_append,h1.1,h2.1],λ k x cs hx hc=>?_⟩
 by_cases hk:k < l1.length
 · rw [List.getElem?_append_left hk] at hx
   rw [List.getElem?_append_left (by rw [h1.1];exact hk)] at hc
   exact h1.2 k x cs hx hc
 · rw [List.getElem?_append_right (by omega)] at hx
   rw [List.getElem?_append_right (by rw [h1.1];omega),h1.1] at hc
   exact h2.2 _ x cs hx hc
theorem PS.read (h:PS b16 lcs w0 w p2 B st rv):VC w rv (st.done++st.cur.toList):=by
 obtain ⟨css,dss,a1,a2,a3⟩:=h.row
 exact a1.reads (Gn (a2.imp λ _ _ h=>h.mr) (a3.imp λ _ _ h=>h.mr))
theorem PS.one (h:PS b16 lcs w0 w p2 B st rv):rv.oneCell'=true:=Zc.oneCell h.read
theorem PS.close {nm:BAr} {done:List MrD} {r:MrD} (h:PS b16 lcs w0 w p2 B ⟨nm,done,some r⟩ rv):PS b16 lcs w0 w p2 w.heap.size ⟨nm,done++[r],none⟩ rv:=by
 obtain ⟨h0,h1,h2,h3,h4,h5,css,dss,a1,a2,a3⟩:=h
 refine ⟨h0,h1,h2,h3,h1.size,Nat.le_refl _,css++dss,[],by rw [List.append_nil];exact a1,Gn (a2.imp λ _ _ ⟨fv,g1,g2⟩=>⟨fv,g1,g2.toHi h5⟩) (a3.imp λ _ _ ⟨fv,g1,g2⟩=>⟨fv,g1,g2.toLo h4⟩),rfl,λ k x cs hx=>by simp at hx⟩
theorem PS.named (h:PS b16 lcs w0 w p2 B st rv) (n:BAr):PS b16 lcs w0 (w.setCell ⟨p2,0,none⟩ (.string n)) p2 B { st with name:=n } rv:=by
 obtain ⟨h0,h1,h2,h3,h4,h5,css,dss,a1,a2,a3⟩:=h
 have n16:b16≠p2:=by
  rintro rfl
  rw [h0] at h3
  cases h3
 have hc:Chg p2 w (w.setCell ⟨p2,0,none⟩ (.string n)):=⟨by rw [World.size_setCell];exact Nat.le_refl _,λ b _ hb=>YG.setCell _ p2 _ _ b hb⟩
 have hz:(w.setCell ⟨p2,0,none⟩ (.string n)).heap.size=w.heap.size:=World.size_setCell ..
 refine ⟨(hc.block b16 (Array.getElem?_eq_some_iff.1 h0).1 n16).trans h0,h1.setCell (p:=⟨p2,0,none⟩) h2 _,h2,Zw (o:=0) h3 _,h4,by rw [hz];exact h5,css,dss,WY a1 hc (Q6 a1 h3 (by decide)),a2.imp λ _ _ ⟨fv,g1,g2⟩=>⟨fv,g1,g2.chgT hc h3 (by decide) (by decide) (by decide)⟩,?_⟩
 rw [hz]
 exact a3.imp λ _ _ ⟨fv,g1,g2⟩=>⟨fv,g1,g2.chgT hc h3 (by decide) (by decide) (by decide)⟩
end
def Rm (a b:Vl) (R:RT) (w:Wd):Prop:=
 opV Pg (build 24 #[]) (Zd R) w λ c w=>
 S0 24 a c R w λ w=>
 qW Pg 24 a w λ r0=>
 R (.returned (.tuple #[r0,b,(.int .i64 6)])) w
def ZbX (b c d e:Vl) (a:WPr) (f:KW) (R:RT) (w:Wd):Prop:=
 opV Pg (Builtin.append_ #[22,22] 22 #[d,e]) (Zd R) w λ g w=>
 a w∧(
 J0 24 b 1 a λ h=>
 S0 22 h g R w λ w=>
 Ut w λ i w=>
 f c (.bool true) w)
def Rr (b d c:Vl) (a:WPr) (e:KW) (R:RT) (w:Wd):Prop:=
 J0 24 b 1 a λ f=>
 I0 22 f a λ g=>
 qV Pg a (indexAt 94 c (.int .i64 1)) λ h=>
 I0 9 h a λ i=>
 qV Pg a (indexAt 94 c (.int .i64 2)) λ j=>
 I0 9 j a λ k=>
 qV Pg a (build 60 #[(0,i),(1,k)]) λ l=>
 opV Pg (buildSlice 22 1 #[(0,l)]) (Zd R) w λ m w=>
 a w∧(
 ZbX b d g m a e R w)
def ZbY (b c d e:Vl) (a:WPr) (f:KW) (R:RT) (w:Wd):Prop:=
 qN Pg a (Y2 d) λ g=>
 J0 60 g 2 a λ h=>
 S0 58 h e R w λ w=>
 Ut w λ i w=>
 f b c w
def ZbZ (c d e b:Vl) (a:WPr) (f:KW) (R:RT) (w:Wd):Prop:=
 qN Pg a (Y2 b) λ g=>
 J0 60 g 2 a λ h=>
 I0 58 h a λ i=>
 I0 43 e a λ j=>
 opV Pg (buildSlice 58 1 #[(0,j)]) (Zd R) w λ k w=>
 a w∧(
 opV Pg (Builtin.append_ #[58,58] 58 #[i,k]) (Zd R) w λ l w=>
 a w∧(
 ZbY c d b l a f R w))
def Rs (a b c d:Vl) (e:KW) (R:RT) (w:Wd):Prop:=
 F0 24 a 1 R w λ f w=>
 L0 22 f R w λ g w=>
 F0 24 a 1 R w λ h w=>
 L0 22 h R w λ i w=>
 G0 22 3 i R w λ j w=>
 B0 .sub 3 true j (.int .i64 1) R w λ k w=>
 X0 22 g k R w λ l w=>
 Yg w λ m w=>
 ZbZ b c d l m e R w
def Rt (c d a e f g:Vl) (h:KV) (i:KW) (R:RT) (w:Wd):Prop:=
 Zo (λ (j:Vl) (w:Wd)=>
 Zy a j (.bool false) λ k=>
 Zs k (
 Rs c d a e i R w) (
 B0 .add 3 true f (.int .i64 1) R w λ l w=>
 h l w)) λ b=>
 Zn a true (
 b g w) (
 b undef w)
def Ht (f c a g h i j:Vl) (k:KV) (d:KW) (R:RT) (w:Wd):Prop:=
 Zo (λ (b:Vl) (w:Wd)=>
 Zy a b (.bool false) λ l=>
 Zs l (
 d c (.bool false) w) (
 Rt f c a g h j k d R w)) λ e=>
 Zn a true (
 opV Pg (ZF .eql 9 true i (.string { data := #[101,110,100] })) (Zd R) w λ b w=>
 e b w) (
 e undef w)
def Dh (b c h i j k d l m n:Vl) (o:KV) (e:KW) (R:RT) (w:Wd):Prop:=
 Zy m n (.bool false) λ f=>
 Zo (λ (a:Vl) (w:Wd)=>
 Zy f a (.bool false) λ p=>
 Zs p (
 Yg w λ q w=>
 Rr b c d q e R w) (
 Ht b c h i j k l o e R w)) λ g=>
 Zn f true (
 opV Pg (sliceAt 94 d (some (.int .i64 1)) none none) (Zd R) w λ r w=>
 C0 52 #[r] R w λ a w=>
 g a w) (
 g undef w)
def A6 (e f g h i j b k l m:Vl) (n:KV) (o:KW) (R:RT) (w:Wd):Prop:=
 Zy l m (.bool false) λ c=>
 Zo (λ (a:Vl) (w:Wd)=>
 Dh e f g h i j b k c a n o R w) λ d=>
 Zn c true (
 opV Pg (indexAt 94 b (.int .i64 0)) (Zd R) w λ p w=>
 L0 9 p R w λ q w=>
 opV Pg (ZF .eql 9 true q (.string { data := #[109,97,112] })) (Zd R) w λ a w=>
 d a w) (
 d undef w)
def EH (e f g h i j b k l m:Vl) (n:KV) (o:KW) (R:RT) (w:Wd):Prop:=
 Zy l m (.bool false) λ c=>
 Zo (λ (a:Vl) (w:Wd)=>
 A6 e f g h i j b k c a n o R w) λ d=>
 Zn c true (
 G0 94 3 b R w λ p w=>
 B0 .eql 3 true p (.int .i64 3) R w λ a w=>
 d a w) (
 d undef w)
def Rn (a b c d:Vl) (e:KW) (R:RT) (w:Wd):Prop:=
 opV Pg (indexAt 94 d (.int .i64 1)) (Zd R) w λ f w=>
 L0 9 f R w λ g w=>
 F0 24 a 0 R w λ h w=>
 S0 9 h g R w λ w=>
 e b c w
def A7 (f g b h c i j k:Vl) (l:KV) (m:KW) (R:RT) (w:Wd):Prop:=
 B0 .gtr 3 true c (.int .i64 0) R w λ d w=>
 Zo (λ (a:Vl) (w:Wd)=>
 EH f g b h c i j k d a l m R w) λ e=>
 Zn d true (
 N0 b R w λ a w=>
 e a w) (
 e undef w)
def A8 (c a b g d h e i j k:Vl) (l:KV) (Yj:Vl→Vl→Vl→Wd→Prop) (R:RT) (w:Wd):Prop:=
 Zy j k (.bool false) λ m=>
 Zo (λ (a:Vl) (b:Vl) (w:Wd)=>
 B0 .add 3 true d (.int .i64 1) R w λ n w=>
 Yj a b n w) λ f=>
 Zs m (
 Rn c a b e f R w) (
 A7 c a b g d h e i l f R w)
def A9 (e f g h i j b k l m:Vl) (n:KV) (Yj:Vl→Vl→Vl→Wd→Prop) (R:RT) (w:Wd):Prop:=
 Zy l m (.bool false) λ c=>
 Zo (λ (a:Vl) (w:Wd)=>
 A8 e f g h i j b k c a n Yj R w) λ d=>
 Zn c true (
 opV Pg (indexAt 94 b (.int .i64 1)) (Zd R) w λ o w=>
 L0 9 o R w λ p w=>
 opV Pg (buildSlice 94 1 #[(0,p)]) (Zd R) w λ q w=>
 C0 52 #[q] R w λ a w=>
 d a w) (
 d undef w)
def EI (e f g h i j b k l m:Vl) (n:KV) (Yj:Vl→Vl→Vl→Wd→Prop) (R:RT) (w:Wd):Prop:=
 Zy l m (.bool false) λ c=>
 Zo (λ (a:Vl) (w:Wd)=>
 A9 e f g h i j b k c a n Yj R w) λ d=>
 Zn c true (
 opV Pg (indexAt 94 b (.int .i64 0)) (Zd R) w λ o w=>
 L0 9 o R w λ p w=>
 opV Pg (ZF .eql 9 true p (.string { data := #[109,97,112,112,105,110,103] })) (Zd R) w λ a w=>
 d a w) (
 d undef w)
def EJ (f g h i b j c k:Vl) (l:KV) (Yj:Vl→Vl→Vl→Wd→Prop) (R:RT) (w:Wd):Prop:=
 B0 .eql 3 true b (.int .i64 0) R w λ d w=>
 Zo (λ (a:Vl) (w:Wd)=>
 EI f g h i b j c k d a l Yj R w) λ e=>
 Zn d true (
 G0 94 3 c R w λ m w=>
 B0 .eql 3 true m (.int .i64 2) R w λ a w=>
 e a w) (
 e undef w)
def I6 (a:Vl) (R:RT) (w:Wd):Prop:=
 L0 24 a R w λ b w=>
 S0 24 a b R w λ w=>
 qW Pg 24 a w λ r0=>
 R (.returned (.tuple #[r0,(.int .i64 0),(.int .i64 0)])) w
def Ba (c d e f a g h i j:Vl) (b:KV) (Yj:Vl→Vl→Vl→Wd→Prop) (R:RT) (w:Wd):Prop:=
 N0 h R w λ k w=>
 Zs k (
 B0 .add 3 true a (.int .i64 1) R w λ l w=>
 b l w) (
 EJ c d e f a g i j b Yj R w)
def xU (b f c g h i j k l m n:Vl) (o:KV) (Yj:Vl→Vl→Vl→Wd→Prop) (R:RT) (w:Wd):Prop:=
 Zy m n (.bool false) λ d=>
 Zo (λ (a:Vl) (w:Wd)=>
 Zy d a (.bool false) λ p=>
 Zs p (
 I6 b R w) (
 Ba b f c g h i j k l o Yj R w)) λ e=>
 Zn d true (
 N0 c R w λ a w=>
 e a w) (
 e undef w)
def zf (e f g h b i j k l m n:Vl) (o:KV) (Yj:Vl→Vl→Vl→Wd→Prop) (R:RT) (w:Wd):Prop:=
 Zy m n (.bool false) λ c=>
 Zo (λ (a:Vl) (w:Wd)=>
 xU e f g h b i j k l c a o Yj R w) λ d=>
 Zn c true (
 B0 .gtr 3 true b (.int .i64 0) R w λ a w=>
 d a w) (
 d undef w)
def Ro (h i j k b c l d:Vl) (m:KV) (Yj:Vl→Vl→Vl→Wd→Prop) (R:RT) (w:Wd):Prop:=
 E0q d 0 R w λ n w=>
 E0q d 1 R w λ o w=>
 opV Pg (alloc 43 true (.tuple #[])) (Zd R) w λ e w=>
 S0 43 e n R w λ w=>
 N0 c R w λ f w=>
 Zo (λ (a:Vl) (w:Wd)=>
 zf h i j e k b c l o f a m Yj R w) λ g=>
 Zn f true (
 opV Pg (ZF .eql 9 true b (.string { data := #[] })) (Zd R) w λ a w=>
 g a w) (
 g undef w)
def Rp (c d e f b:Vl) (g:KV) (Yj:Vl→Vl→Vl→Wd→Prop) (R:RT) (w:Wd):Prop:=
 E0q b 0 R w λ a w=>
 E0q b 1 R w λ h w=>
 ZV Pg 50 #[a,(.string { data := #[32] })] (Zd R) w λ i w=>
 C0 51 #[a] R w λ j w=>
 Ro c d e f a h i j g Yj R w
def I7 (b c d e a:Vl) (f:KV) (Yj:Vl→Vl→Vl→Wd→Prop) (R:RT) (w:Wd):Prop:=
 X0 94 e a R w λ g w=>
 L0 9 g R w λ h w=>
 ZV Pg 49 #[h,(.string { data := #[10] })] (Zd R) w λ i w=>
 Rp b c d a i f Yj R w
def Rq (b c:Vl) (R:RT) (w:Wd):Prop:=
 G0 94 3 c R w λ f w=>
 Zo (λ (a:Vl) (w:Wd)=>
 Rm b a R w) λ d=>
 GD (λ a g e w Yj=>
 B0 .lss 3 false e f R w λ h w=>
 Zs h (
 I7 b a g c e d Yj R w) (
 d a w)) (.int .i64 0) (.bool false) (.int .i64 0) w
def n25 (a:Vl) (R:RT) (w:Wd):Prop:=
 opV Pg (alloc 24 true (.tuple #[])) (Zd R) w λ b w=>
 ZV Pg 48 #[a,(.string { data := #[10] })] (Zd R) w λ c w=>
 Rq b c R w
set_option maxHeartbeats 40000000 in
theorem Zj0 {t0:Vl} {R:RT} {w:Wd} (h:n25 t0 R w):Calls Pg 22 #[t0] w R:=by
 refine yD func22 ?_
 refine zs<|zr<|yv h λ _ w h=>zm<|zm<|zn<|zk<|Oz<|zs<|zr<|zm<|yc h c48 λ _ w h=>zm<|zn<|zk ?_
 refine zs<|zr<|zm<|zn<|zk<|zs<|Oy<|zk<|zs<|zs<|zr<|zm<|yx h λ _ w h=>zm<|zn ?_
 refine zk<|yJ1 [3,4,6,7,8,9,10,11,12,13,14,19,20,21,22,23,24,25,26,27,28,29,30,31,32,33,34,35,36,37,38,39,40,41,42,43,44,45,46,47,48,49,50,51,52,53,54,55,56,57,58,59,60,61,62,63,64,65,66,67,68,69,70,71,72,73,74,75,76,77,78,79,80,81,82,83,84,85,86,87,88,89,90,91,92,93,94,95,96,97,98,99,100,101,102,103,104,105,106,107,108,109,110,111,112,113,114,115,116,117,118,119,120,121,122,123,124,125,126,127,128,129,130,131,132,133,134,135,136,137,138,139,140,141,142,143,144,145,146,147] 3 h (λ _ _ hkK1 h=>?_) λ σ w h=>?_
 · refine Zl<|yl3 [3,4,6,7,8,9,10,11,12,13,14,19,20,21,22,23,24,25,26,27,28,29,30,31,32,33,34,35,36,37,38,39,40,41,42,43,44,45,46,47,48,49,50,51,52,53,54,55,56,57,58,59,60,61,62,63,64,65,66,67,68,69,70,71,72,73,74,75,76,77,78,79,80,81,82,83,84,85,86,87,88,89,90,91,92,93,94,95,96,97,98,99,100,101,102,103,104,105,106,107,108,109,110,111,112,113,114,115,116,117,118,119,120,121,122,123,124,125,126,127,128,129,130,131,132,133,134,135,136,137,138,139,140,141,142,143,144,145,146,147] 3 6 19 h λ σ w next h=>zs<|zr<|yb h λ _ w h=>zn<|zk<|zs<|yC h (λ h=>?_) λ h=>?_
   · refine Zj<|zk<|zs<|Zl<|zs<|zr<|zm<|yv h λ _ w h=>yv h λ _ w h=>zm<|zm<|zn<|zk<|zs<|zr ?_
     refine zm<|yc h c49 λ _ w h=>zm<|yv h λ _ w h=>yv h λ _ w h=>zm<|zm<|zn<|zk<|zs<|zr<|zm<|yc h c50 λ _ w h=>zm<|zn ?_
     refine zk<|zs<|zr<|zm<|yc h c51 λ _ w h=>zm<|yv h λ _ w h=>yv h λ _ w h=>yv h λ _ w h=>yu h λ w h=>zm<|zn<|zk<|Zl<|zs ?_
     refine Zt<|yG 3<|zm<|yv h λ _ w h=>zm<|zn<|yg1 2 2 true [42,43] 43 h (λ _ T hT h=>?_) λ σ w h=>?_
     · refine zm<|yb h λ _ w h=>zn ?_
       exact zt hT h
     refine yG 2<|yp h λ _ h=>zm<|zn<|yg1 2 6 true [46,47] 47 h (λ _ T hT h=>?_) λ σ w h=>?_
     · refine zm<|yb h λ _ w h=>zn ?_
       exact zt hT h
     refine yG 2<|yp h λ _ h=>zm<|zn<|yg1 2 10 true [50,51] 51 h (λ _ T hT h=>?_) λ σ w h=>?_
     · refine zm<|yv h λ _ w h=>zn ?_
       exact zt hT h
     refine yG 2<|yp h λ _ h=>zm<|zn<|ZK<|zk<|yC h (λ h=>?_) λ h=>?_
     · refine zs<|zr<|yv h λ _ w h=>yu h λ w h=>zm<|zm<|zn<|zk<|Zg<|Zh<|Zh<|Zb<|Zb<|Zh<|Zb ?_
       exact Zb<|qu rfl rfl rfl rfl h
     refine zs<|zr<|zm<|yv h λ _ w h=>zm<|zn<|zk<|yC h (λ h=>?_) λ h=>?_
     · refine zs<|zr<|zm<|yb h λ _ w h=>zm<|zn<|zk<|ZM<|QL rfl<|QL rfl<|Ze<|Ze<|Zu<|zk ?_
       exact zt hkK1 h
     refine zs<|Zt<|yG 3<|zm<|yb h λ _ w h=>zm<|zn<|yg1 3 2 true [63,64,65] 65 h (λ _ T hT h=>?_) λ σ w h=>?_
     · refine zm<|yx h λ _ w h=>yb h λ _ w h=>zn ?_
       exact zt hT h
     refine yG 2<|yp h λ _ h=>zm<|zn<|yg1 4 7 true [68,69,70,71] 71 h (λ _ T hT h=>?_) λ σ w h=>?_
     · refine zm<|yv h λ _ w h=>yv h λ _ w h=>yb h λ _ w h=>zn ?_
       exact zt hT h
     refine yG 2<|yp h λ _ h=>zm<|zn<|yg1 5 13 true [74,75,76,77,78] 78 h (λ _ T hT h=>?_) λ σ w h=>?_
     · refine zm<|yv h λ _ w h=>yv h λ _ w h=>yS h λ _ w h=>yc h c52 λ _ w h=>zn ?_
       exact zt hT h
     refine yG 2<|yp h λ _ h=>zm<|zn<|ZK<|zk<|yJ2 [3,6,14,36,37,80,81,82,83,84,85,86,87,88,89,90,91,92,93,94,95,96,97,98,99,100,101,102,103,104,105,106,107,108,109,110,111,112,113,114,115,116,117,118,119,120,121,122,123,124,125,126,127,128,129,130,131,132,133,134,135,136,137,138,139,140,141,142,143,144,145,146] 3 6 h (λ _ _ hkK9 h=>?_) λ σ w h=>?_
     · refine yC h (λ h=>?_) λ h=>?_
       · refine zr<|zm<|yv h λ _ w h=>yv h λ _ w h=>yv h λ _ w h=>yu h λ w h=>zn<|zk ?_
         exact zt hkK9 h
       refine zs<|Zt<|yG 3<|zm<|yb h λ _ w h=>zm<|zn<|yg1 2 2 true [88,89] 89 h (λ _ T hT h=>?_) λ σ w h=>?_
       · refine zm<|yv h λ _ w h=>zn ?_
         exact zt hT h
       refine yG 2<|yp h λ _ h=>zm<|zn<|yg1 3 6 true [92,93,94] 94 h (λ _ T hT h=>?_) λ σ w h=>?_
       · refine zm<|yx h λ _ w h=>yb h λ _ w h=>zn ?_
         exact zt hT h
       refine yG 2<|yp h λ _ h=>zm<|zn<|yg1 4 11 true [97,98,99,100] 100 h (λ _ T hT h=>?_) λ σ w h=>?_
       · refine zm<|yv h λ _ w h=>yv h λ _ w h=>yb h λ _ w h=>zn ?_
         exact zt hT h
       refine yG 2<|yp h λ _ h=>zm<|zn<|yg1 3 17 true [103,104,105] 105 h (λ _ T hT h=>?_) λ σ w h=>?_
       · refine zm<|yv h λ _ w h=>yc h c52 λ _ w h=>zn ?_
         exact zt hT h
       refine yG 2<|yp h λ _ h=>zm<|zn<|ZK<|zk<|yC h (λ h=>?_) λ h=>?_
       · refine zs<|yh [107,108,109,110,111,112,113,114,115,116,117,118] h λ C hC h=>ye 0 hC h λ _ h=>?_
         refine ye 1 hC h λ _ h=>?_
         refine yw 2 hC ?_
         refine ye 3 hC h λ _ h=>?_
         refine ye 4 hC h λ _ h=>?_
         refine yw 5 hC ?_
         refine ye 6 hC h λ _ h=>?_
         refine ye 7 hC h λ _ h=>?_
         refine ye 8 hC h λ _ h=>?_
         refine yo 9 ?_
         refine yS h λ _ w h=>zn ?_
         obtain ⟨hC,h⟩:=h
         refine ⟨hC,?_⟩
         refine yo 10 ?_
         refine yx h λ _ w h=>zn ?_
         obtain ⟨hC,h⟩:=h
         refine ⟨hC,?_⟩
         refine ye 11 hC h λ _ h=>?_
         refine yq 12 1 ?_
         refine yu h λ w h=>zn ?_
         obtain ⟨C15,hC,h⟩:=h
         refine ⟨C15,hC,?_⟩
         refine yz<|zk<|zr<|zm<|zn<|zk ?_
         exact zt hkK9 h
       refine zs<|Zt<|yG 2<|zm<|zm<|zn<|yg1 2 1 true [122,123] 123 h (λ _ T hT h=>?_) λ σ w h=>?_
       · refine zm<|yb h λ _ w h=>zn ?_
         exact zt hT h
       refine yG 2<|yp h λ _ h=>zm<|zn<|ZK<|zk<|yC h (λ h=>?_) λ h=>?_
       · refine zr<|zm<|zn<|zk ?_
         exact zt hkK9 h
       refine zs<|Zt<|yG 2<|zm<|zm<|zn<|yg1 1 1 true [128] 128 h (λ _ T hT h=>?_) λ σ w h=>?_
       · refine zm<|zn ?_
         exact zt hT h
       refine yG 2<|yp h λ _ h=>zm<|zn<|ZK<|zk<|yC h (λ h=>?_) λ h=>?_
       · refine zs<|zr<|yv h λ _ w h=>yv h λ _ w h=>yv h λ _ w h=>yv h λ _ w h=>yx h λ _ w h=>yb h λ _ w h=>yv h λ _ w h=>zm<|zn<|zk<|yh [137,138,139,140,141,142,143,144,145,146] h λ C hC h=>yw 0 hC ?_
         refine yw 1 hC ?_
         refine yn 2 hC h λ _ h=>?_
         refine ye 3 hC h λ _ h=>?_
         refine ye 4 hC h λ _ h=>?_
         refine ye 5 hC h λ _ h=>?_
         refine yo 6 ?_
         refine yS h λ _ w h=>zn ?_
         obtain ⟨hC,h⟩:=h
         refine ⟨hC,?_⟩
         refine yo 7 ?_
         refine yx h λ _ w h=>zn ?_
         obtain ⟨hC,h⟩:=h
         refine ⟨hC,?_⟩
         refine yn 8 hC h λ _ h=>?_
         refine ye 9 hC h λ _ h=>?_
         refine yq 10 2 ?_
         refine yu h λ w h=>zn ?_
         obtain ⟨C19,hC,h⟩:=h
         refine ⟨C19,hC,?_⟩
         refine yz<|zk ?_
         exact zt hkK9 h
       refine zs<|zr<|zm<|yb h λ _ w h=>zm<|zn<|zk<|ZM<|Ze<|QL rfl<|QL rfl<|Ze<|Ze<|Zu<|zk ?_
       exact zt hkK1 h
     exact Zf<|Zf<|zk<|zr<|yb h λ _ w h=>zm<|zn<|zk<|⟨rfl,h⟩
   refine ZM<|Ze<|Ze<|Zu<|zk ?_
   exact zt hkK1 h
 exact zk<|zs<|zr<|yB h λ _ w h=>zm<|yu h λ w h=>zm<|zm<|zn<|zk<|Zg<|qu rfl rfl rfl rfl h
theorem CM {w:Wd} {QP:PEn} {k:KV} {base:Nat} {v:Vl} {l:List (Cs 3)} (x:Cs 3) {b:Nat} (h1:∀ u∈x.1,u.oneCell'=true) (xv:ZW w base 60 3 Subtype.val v l) (hc:w.heap[b]?=some (.cells x.1.toArray 60 (0,0))) (UT:base≤w.heap.size) (hl:l.length≤1048576)
 (hk:∀ v' w',ZW w' base 60 3 Subtype.val v' (l++[x])→w.grownBy w' v.ownBlock→k v' w') :
 opV Pg (Builtin.append_ #[22,22] 22 #[v,.slice (some ⟨b,0,none⟩) 1 1]) QP w k:=by
 have hby:=Ziz
 refine We (l':=[x]) underlying22 B6 rfl (by decide) (λ x=>x.2) (λ y hy u hu=>by rw [List.mem_singleton.1 hy] at hu;exact h1 u hu) xv (λ j y hy=>?_) UT ?_ (by simp;omega) hk
 · cases j with
   | zero=>
    simp at hy;subst hy
    intro j v hv
    rw [(Za hc).1]
    simpa using hv
   | succ j=>simp at hy
 · simp only [List.length_cons,List.length_nil]
   exact Nat.le_trans (Nat.mul_le_mul (Nat.add_le_add_right hl 1) hby) (by decide)
theorem No {w:Wd} {QP:PEn} {k:KV} {base:Nat} {v:Vl} {l:List (Cs 7)} (x:Cs 7) {b:Nat} (h1:∀ u∈x.1,u.oneCell'=true) (xv:ZW w base 43 7 Subtype.val v l) (hc:w.heap[b]?=some (.cells x.1.toArray 43 (0,0))) (UT:base≤w.heap.size) (hl:l.length≤1048576)
 (hk:∀ v' w',ZW w' base 43 7 Subtype.val v' (l++[x])→w.grownBy w' v.ownBlock→k v' w') :
 opV Pg (Builtin.append_ #[58,58] 58 #[v,.slice (some ⟨b,0,none⟩) 1 1]) QP w k:=by
 have hby:=Ze0
 refine We (l':=[x]) underlying58 Ud rfl (by decide) (λ x=>x.2) (λ y hy u hu=>by rw [List.mem_singleton.1 hy] at hu;exact h1 u hu) xv (λ j y hy=>?_) UT ?_ (by simp;omega) hk
 · cases j with
   | zero=>
    simp at hy;subst hy
    intro j v hv
    rw [(Za hc).1]
    simpa using hv
   | succ j=>simp at hy
 · simp only [List.length_cons,List.length_nil]
   exact Nat.le_trans (Nat.mul_le_mul (Nat.add_le_add_right hl 1) hby) (by decide)
section
variable {α:Type} {w w':Wd} {b0 lo hi lo2 n:Nat} {fv v:Vl} {fs:List FrD} {cs:List Vl} {x:FrD} {r:MrD} {T:TypeId} {enc:α→List Vl} {l:List α}
theorem yT (hO:ZW w lo2 T n enc v l) (hg:w.grownBy w' v.ownBlock):Ext w w'∨∃ g oc f,v.ownBlock=some g∧w.heap[g]?=some (.cells oc T f)∧Chg g w w':=by
 rcases hO.2 with ⟨rfl,_⟩ | ⟨g',cap,cur,rfl,_,hg',_⟩
 · exact .inl ((Ext.refl w).grown hg λ k hk=>by cases hk)
 · exact .inr ⟨g',_,_,rfl,hg',hg.size,λ b hb YN=>hg.block b hb λ e=>YN (by injection e)⟩
theorem E7.grow (h:E7 w b0 cs x) (hO:ZW w lo2 T n enc v l) (hg:w.grownBy w' v.ownBlock) (h1:5≠T) (h2:78≠T):E7 w' b0 cs x:=by
 rcases yT hO hg with e | ⟨g,oc,f,_,ho,hc⟩
 · exact h.ext e
 · exact h.chg hc ho h1 h2
theorem Vs.grow (h:Vs w b0 lo hi fv fs) (hO:ZW w lo2 T n enc v l) (hg:w.grownBy w' v.ownBlock) (h1:5≠T) (h2:78≠T) (h3:∀ g,v.ownBlock=some g→fv.ownBlock≠some g):Vs w' b0 lo hi fv fs:=by
 rcases yT hO hg with e | ⟨g,oc,f,hv,ho,hc⟩
 · exact h.ext e
 · exact h.chg hc ho h1 h2 (h3 g hv)
theorem Vs.growT (h:Vs w b0 lo hi fv fs) (hO:ZW w lo2 T n enc v l) (hg:w.grownBy w' v.ownBlock) (h1:5≠T) (h2:78≠T) (h3:43≠T):Vs w' b0 lo hi fv fs:=by
 rcases yT hO hg with e | ⟨g,oc,f,hv,ho,hc⟩
 · exact h.ext e
 · exact h.chgT hc ho h1 h2 h3
theorem LI {b:Nat} {oc:AVl} {T':TypeId} {f:Nat×Nat} (hO:ZW w lo2 T n enc v l) (hb:w.heap[b]?=some (.cells oc T' f)) (hT:T'≠T):b≠v.ownBlock.getD w.heap.size:=by
 have Yq:=(Array.getElem?_eq_some_iff.1 hb).1
 rcases hO.2 with ⟨rfl,_⟩ | ⟨g',cap,cur,rfl,_,hg',_⟩
 · show b≠w.heap.size
   omega
 · show b≠g'
   rintro rfl
   rw [hb] at hg'
   injection hg' with hg'
   injection hg' with _ hg'
   exact hT hg'
theorem Q0 {b:Nat} {oc:AVl} {T':TypeId} {f:Nat×Nat} (hO:ZW w lo2 T n enc v l) (hg:w.grownBy w' v.ownBlock) (hb:w.heap[b]?=some (.cells oc T' f)) (hT:T'≠T):w'.heap[b]?=some (.cells oc T' f):=by
 rw [hg.block b (Array.getElem?_eq_some_iff.1 hb).1 λ e=>LI hO hb hT (by rw [← e];rfl)]
 exact hb
end
section
variable {b16:Nat} {lcs:AVl} {w0 w w1:Wd} {p2 p12 B bw:Nat} {nm:BAr} {done:List MrD} {rv t3 t6:Vl} {r:MrD} {ws:List BAr} {a b:BAr} {K9:KW} {R:RT}
theorem Of (h:PS b16 lcs w0 w1 p2 B ⟨nm,done,none⟩ rv) (e:Ext w1 w) (hl:done.length≤1048576) (hbw:w1.heap.size≤bw) (ha:w.cell? ⟨bw,1,none⟩=some (.string a)) (hb:w.cell? ⟨bw,2,none⟩=some (.string b))
 (hK:∀ w' rv',PS b16 lcs w0 w' p2 B ⟨nm,done,some ⟨a,b,[]⟩⟩ rv'→K9 t3 (.bool true) w') :
 Yg w λ C w=>Rr (.pointer (some ⟨p2,0,none⟩)) t3 (.slice (some ⟨bw,0,none⟩) 3 3) C K9 R w:=by
 obtain ⟨css,dss,hO1,m1,m2⟩:=h.row
 have:dss=[]:=List.eq_nil_of_length_eq_zero m2.1
 subst this
 rw [List.append_nil] at hO1
 have hO:=hO1.ext e
 have lbw:bw < w.heap.size:=World.block_lt_of_cell? _ _ ha
 replace m1:=m1.imp λ _ _ (h:Fy w1 w0.heap.size w0.heap.size B _ _)=>h.ext e
 have h1:=h
 replace h:=h.go e
 obtain ⟨g,hgd⟩:∃ g,rv.ownBlock.getD w.heap.size=g:=⟨_,rfl⟩
 have n2:p2≠g:=by rw [← hgd];exact LI hO h.obj (by decide)
 have nW:bw≠g:=by
  rw [← hgd]
  cases hv:rv.ownBlock with
  | none=>show bw≠w.heap.size;omega
  | some b=>have:=(World.ownsRow.lt hO1 b hv).2;show bw≠b;omega
 refine Xy g g (w1:=w) (λ _ _ _ _=>rfl) ?_
 haveI:Yv (KB w g g):=⟨⟨w,λ _ _ _ _=>rfl⟩⟩
 have q:=Za h.obj
 unfold Rr
 simp (disch:=try exact DI) only [↓PR,QR,simprocAttr,q.1]
 rw [Ym λ QP w' k'=>Yt (k:=k') underlying94 ty9 bw 0 3 3 .i64 1 (by decide) (by decide),show 0+(1:Int).toNat*1=1 from rfl]
 simp (disch:=try exact DI) only [↓PR,QR,simprocAttr,ha]
 rw [Ym λ QP w' k'=>Yt (k:=k') underlying94 ty9 bw 0 3 3 .i64 2 (by decide) (by decide),show 0+(2:Int).toNat*1=2 from rfl]
 simp (disch:=try exact DI) only [↓PR,QR,simprocAttr,hb]
 have eV:Ext w (w.drew.alloc (Obj.cells #[Value.string a,Value.string b,Value.slice none 0 0] 60)):=(Ext.refl w).drew.alloc _
 have oV:=Zv w.drew #[Value.string a,Value.string b,Value.slice none 0 0] 60
 rw [World.size_drew] at oV
 generalize (w.drew.alloc (Obj.cells #[Value.string a,Value.string b,Value.slice none 0 0] 60))=V at eV oV ⊢
 refine ⟨λ b hb _ _=>eV.block b hb,?_⟩
 have hOV:=hO.ext eV
 have hll:css.length=done.length:=m1.1
 have hr1:rv.oneCell'=true:=h.one
 unfold ZbX
 refine CM (x:=⟨Z6 ⟨a,b,[]⟩ (.slice none 0 0),rfl⟩) (λ u hu=>?_) hOV oV (Nat.le_trans h.e.size eV.size) (by omega) ?_
 · simp only [List.mem_cons,List.not_mem_nil,or_false] at hu
   rcases hu with rfl | rfl | rfl<;>rfl
 intro v' w' hO' hg
 have e16:=Q0 hOV hg (eV.obj h.ln) (by decide)
 have e2:=Q0 hOV hg (eV.obj h.obj) (by decide)
 refine ⟨λ b hb hbg _=>(hg.block b (Nat.lt_of_lt_of_le hb eV.size) λ e=>hbg (by rw [← hgd,← e];rfl)).trans (eV.block b hb),?_⟩
 have lo:∀ b,rv.ownBlock=some b→w0.heap.size≤b:=λ b hb=>(World.ownsRow.lt hO b hb).1
 have e':Ext w0 w':=(h.e.trans eV).grown hg lo
 have v1:v'.oneCell'=true:=Zc.oneCell (hO'.slice (E:=λ _ cs x=>cs=x.1) (λ x=>x.2) (λ _ _=>rfl))
 simp (disch:=try exact DI) only [↓PR,QR,simprocAttr,(Za e2).1,(Za e2).2]
 refine Xq ?_
 have n16:b16≠p2:=by
  rintro rfl
  have:=h.ln.symm.trans h.obj
  cases this
 have hc:Chg p2 w' (w'.setCell ⟨p2,1,none⟩ v'):=⟨by rw [World.size_setCell];exact Nat.le_refl _,λ b _ hb=>YG.setCell _ p2 _ _ b hb⟩
 have hz:(w'.setCell ⟨p2,1,none⟩ v').heap.size=w'.heap.size:=World.size_setCell ..
 refine hK _ v' ⟨(hc.block b16 (Array.getElem?_eq_some_iff.1 e16).1 n16).trans e16,e'.setCell (p:=⟨p2,1,none⟩) h.lp _,h.lp,Zw (o:=1) e2 _,h.b1,?_,css,[⟨Z6 ⟨a,b,[]⟩ (.slice none 0 0),rfl⟩],WY hO' hc (Q6 hO' e2 (by decide)),m1.imp λ _ _ ⟨fv,g1,g2⟩=>⟨fv,g1,((g2.ext eV).growT hOV hg (by decide) (by decide) (by decide)).chgT hc e2 (by decide) (by decide) (by decide)⟩,rfl,λ k x cs hx hcs=>?_⟩
 · rw [hz]
   exact Nat.le_trans h.b2 (Nat.le_trans eV.size hg.size)
 · cases k with
   | succ k=>simp at hx
   | zero=>
    simp at hx hcs
    subst hx hcs
    exact ⟨_,rfl,[],ZW.nil _ _ _ _ _,(λ b hb=>by cases hb),rfl,λ k x cs hx=>by simp at hx⟩
theorem IN (h:PS b16 lcs w0 w1 p2 B ⟨nm,done,some r⟩ rv) (e:Ext w1 w) (hp:w1.heap.size≤p12) (x:FrD) (bv tv:Vl) (o12:w.heap[p12]?=some (.cells (Zz x bv tv).toArray 43 (0,0))) (hb:ZW w w0.heap.size 5 1 XV bv x.bytes) (ht:ZW w w0.heap.size 78 3 Z9 tv x.table) (hl:done.length≤1000000) (hf:r.fields.length≤1048576)
 (hK:∀ w' rv',PS b16 lcs w0 w' p2 B ⟨nm,done,some ⟨r.fr,r.to,r.fields++[x]⟩⟩ rv'→K9 t3 t6 w') :
 Rs (.pointer (some ⟨p2,0,none⟩)) t3 t6 (.pointer (some ⟨p12,0,none⟩)) K9 R w:=by
 have h0:=h.go e
 obtain ⟨css,dss,hO,m1,m2⟩:=h.row
 obtain ⟨c,rfl⟩:∃ c,dss=[c]:=List.length_eq_one_iff.1 m2.1
 obtain ⟨fv,hcf,css7,hF,hFlt,hFm⟩:=m2.2 0 r c rfl rfl
 have hO0:=hO.ext e
 have hF0:=hF.ext e
 have Y8:(css++[c]).length=css.length+1:=by simp
 have hdl:css.length=done.length:=m1.1
 obtain ⟨gr,cap,rfl,hlo',hgs,⟨oc,f,hgr⟩,hfz,Y1⟩:=hO0.row (λ x=>x.2) (by rw [Y8];omega)
 have hEl:=Y1 css.length c (by simp)
 rw [hcf] at hEl
 rw [Y8] at h0
 have hwk:IntKind.i64.wrap (((css.length+1:Nat):Int) - 1)=(css.length:Int):=by rw [XC (by omega) (by omega)];omega
 have hr1:=h0.one
 unfold Rs
 simp (disch:=try exact DI) only [↓PR,QR,simprocAttr,(Za h0.obj).1,hwk]
 rw [Nat.zero_add]
 obtain ⟨gf,hgd⟩:∃ gf,fv.ownBlock.getD w.heap.size=gf:=⟨_,rfl⟩
 have nR:gr≠gf:=by rw [← hgd];exact LI hF0 hgr (by decide)
 have l12:=(Array.getElem?_eq_some_iff.1 o12).1
 have n12:p12≠gf:=by
  rw [← hgd]
  cases hv:fv.ownBlock with
  | none=>show p12≠w.heap.size;omega
  | some g=>have:=hFlt g hv;show p12≠g;omega
 refine Xy gf gf (w1:=w) (λ _ _ _ _=>rfl) ?_
 haveI:Yv (KB w gf gf):=⟨⟨w,λ _ _ _ _=>rfl⟩⟩
 have q12:=Za o12
 have hfc:w.cell? ⟨gr,css.length*3+2,none⟩=some fv:=hEl 2 fv rfl
 have L12:∀ w',KB w gf gf w'→QU Pg w' 43 ⟨p12,0,none⟩ (.agg (Zz x bv tv).toArray):=λ w' hw'=>QU.many Ud rfl (λ j u hu=>by
  rw [Addr.add_lit]
  exact KB.cell (b:=p12) hw' n12 n12 (by rw [q12.1];simpa using hu))
 unfold ZbZ
 simp (disch:=try exact DI) only [↓PR,QR,simprocAttr,hfc]
 rw [HV L12]
 simp (disch:=try exact DI) only [↓PR,QR,simprocAttr]
 have eV:Ext w (w.drew.alloc (Obj.cells (Zz x bv tv).toArray 43)):=(Ext.refl w).drew.alloc _
 have oV:=Zv w.drew (Zz x bv tv).toArray 43
 rw [World.size_drew] at oV
 change KB w gf gf (w.drew.alloc (Obj.cells (Zz x bv tv).toArray 43))∧opV _ _ _ (w.drew.alloc (Obj.cells (Zz x bv tv).toArray 43)) _
 generalize (w.drew.alloc (Obj.cells (Zz x bv tv).toArray 43))=V at eV oV ⊢
 refine ⟨λ b hb _ _=>eV.block b hb,?_⟩
 have hFV:=hF0.ext eV
 have hfl:css7.length=r.fields.length:=hFm.1
 have hB1:B≤w1.heap.size:=h.b2
 have hB0:w0.heap.size≤B:=h.b1
 have s1:=e.size
 have s2:=eV.size
 have ob1:bv.oneCell'=true:=Zc.oneCell (zy hb)
 have ot1:tv.oneCell'=true:=Zc.oneCell (V2 ht)
 have hlo:∀ b,fv.ownBlock=some b→B≤b:=λ b hb=>(World.ownsRow.lt hF b hb).1
 refine No (x:=⟨Zz x bv tv,rfl⟩) (λ u hu=>?_) hFV oV (by omega) (by omega) ?_
 · simp only [List.mem_cons,List.not_mem_nil,or_false] at hu
   rcases hu with rfl | rfl | rfl | rfl | rfl | rfl | rfl<;>first | rfl | assumption
 intro v' w' hF' hg
 refine ⟨λ b hb hbg _=>(hg.block b (Nat.lt_of_lt_of_le hb eV.size) λ e=>hbg (by rw [← hgd,← e];rfl)).trans (eV.block b hb),?_⟩
 have e16:=Q0 hFV hg (eV.obj h0.ln) (by decide)
 have e2:=Q0 hFV hg (eV.obj h0.obj) (by decide)
 have eg:=Q0 hFV hg (eV.obj hgr) (by decide)
 have e':Ext w0 w':=(h0.e.trans eV).grown hg λ b hb=>Nat.le_trans hB0 (hlo b hb)
 have hOw:=(hO0.ext eV).grown hg λ b hb hb2=>nR (by
  have:gr=b:=by simpa [Value.ownBlock] using hb
  rw [this,← hgd,hb2]
  rfl)
 obtain ⟨gr2,cap2,hv2,_,_,_,hfz2,hel2⟩:=hOw.row (λ x=>x.2) (by rw [Y8];omega)
 injection hv2 with hv2 _ _
 injection hv2 with hv2
 injection hv2 with hv2
 subst hv2
 have hEl2:=hel2 css.length c (by simp)
 rw [hcf] at hEl2
 have hfc2:w'.cell? ⟨gr,css.length*3+2,none⟩=some fv:=hEl2 2 fv rfl
 have v1:v'.oneCell'=true:=Zc.oneCell (hF'.slice (E:=λ _ cs x=>cs=x.1) (λ x=>x.2) (λ _ _=>rfl))
 unfold ZbY
 simp (disch:=try exact DI) only [↓PR,QR,simprocAttr,hfc2,hfz2]
 refine Xq ?_
 have n16:b16≠gr:=by
  rintro rfl
  rw [e16] at eg
  cases eg
 have n2:p2≠gr:=by
  rintro rfl
  rw [e2] at eg
  cases eg
 have hc:Chg gr w' (w'.setCell ⟨gr,css.length*3+2,none⟩ v'):=⟨by rw [World.size_setCell];exact Nat.le_refl _,λ b _ hb=>YG.setCell _ gr _ _ b hb⟩
 have hz:(w'.setCell ⟨gr,css.length*3+2,none⟩ v').heap.size=w'.heap.size:=World.size_setCell ..
 have s3:=hg.size
 have hset:=hOw.set (k:=css.length) (cs:=c) (by simp) (j:=2) (by decide) v'
 rw [show (css++[c]).set css.length (⟨c.1.set 2 v',by simp [c.2]⟩:Cs 3)=css++[⟨c.1.set 2 v',by simp [c.2]⟩] by simp,Y8] at hset
 refine hK _ _ ⟨(hc.block b16 (Array.getElem?_eq_some_iff.1 e16).1 n16).trans e16,e'.setCell (p:=⟨gr,css.length*3+2,none⟩) hlo' _,h.lp,(hc.block p2 (Array.getElem?_eq_some_iff.1 e2).1 n2).trans e2,h.b1,by rw [hz];omega,css,[⟨c.1.set 2 v',by simp [c.2]⟩],hset,m1.imp λ _ _ ⟨fv2,g1,g2⟩=>⟨fv2,g1,((g2.ext (e.trans eV)).grow hFV hg (by decide) (by decide) λ g hg1 hg2=>by
  obtain ⟨_,_,Yq,_⟩:=g2
  have:=Yq g hg2
  have:=hlo g hg1
  omega).chgT hc eg (by decide) (by decide) (by decide)⟩,rfl,λ k y cs hx hcs=>?_⟩
 cases k with
 | succ k=>simp at hx
 | zero=>
  simp at hx hcs
  subst hx hcs
  refine ⟨v',by show c.1.set 2 v'=_;rw [hcf];rfl,css7++[⟨Zz x bv tv,rfl⟩],WY hF' hc (Q6 hF' eg (by decide)),λ b hb=>by rw [hz];exact (World.ownsRow.lt hF' b hb).2,Gn (hFm.imp λ _ _ q=>((q.ext (e.trans eV)).grow hFV hg (by decide) (by decide)).chg hc eg (by decide) (by decide)) ⟨rfl,λ k y cs hx hcs=>?_⟩⟩
  cases k with
  | succ k=>simp at hx
  | zero=>
   simp at hx hcs
   subst hx hcs
   have hE:E7 w w0.heap.size (Zz x bv tv) x:=⟨bv,tv,rfl,hb,ht⟩
   exact ((hE.ext eV).grow hFV hg (by decide) (by decide)).chg hc eg (by decide) (by decide)
end
def Cnt (st:PsD) (k:Nat):Prop:=st.done.length≤k∧∀ r,st.cur=some r→r.fields.length≤k
theorem Pi {st st':PsD} {k:Nat} {x:List UInt8} (h:Cnt st k) (hs:X1 st k x=some st'):Cnt st' (k+1):=by
 obtain ⟨nm,done,cur⟩:=st
 obtain ⟨h1,h2⟩:=h
 simp only at h1 h2
 unfold X1 at hs
 split at hs
 · cases ho:GC (Yi 32 x) with
   | none=>rw [ho] at hs;cases hs
   | some n=>
    rw [ho,Option.map_some] at hs
    injection hs with hs
    subst hs
    exact ⟨Nat.le_succ_of_le h1,λ r hr=>Nat.le_succ_of_le (h2 r hr)⟩
 · cases cur with
   | some r=>
    simp only at hs
    split at hs
    · injection hs with hs
      subst hs
      exact ⟨by simp;omega,λ r hr=>by cases hr⟩
    · cases ho:QB x with
      | none=>rw [ho] at hs;cases hs
      | some y=>
       rw [ho,Option.map_some] at hs
       injection hs with hs
       subst hs
       refine ⟨Nat.le_succ_of_le h1,λ q hq=>?_⟩
       injection hq with hq
       subst hq
       have:=h2 r rfl
       simp
       omega
   | none=>
    simp only at hs
    cases ho:GI (Yi 32 x) with
    | none=>rw [ho] at hs;cases hs
    | some q=>
     rw [ho,Option.map_some] at hs
     injection hs with hs
     subst hs
     exact ⟨Nat.le_succ_of_le h1,λ q hq=>by injection hq with hq;subst hq;simp⟩
theorem Oe {W:List (List UInt8)} (h:W.length≠3):GI W=none:=by
 unfold GI
 split
 · exact absurd rfl h
 · rfl
structure LnS (b16:Nat) (lcs:AVl) (w0 w w1:Wd) (p2 p12 B bw:Nat) (st:PsD) (rv:Vl) (x:List UInt8) (y:FrD) (bv tv:Vl) (ok:Bool):Prop where
 ps:PS b16 lcs w0 w1 p2 B st rv
 e:Ext w1 w
 lb:w1.heap.size≤bw
 wd:UI w (.slice (some ⟨bw,0,none⟩) (Yi 32 x).length (Yi 32 x).length) ((Yi 32 x).map mkB)
 l12:w1.heap.size≤p12
 o12:w.heap[p12]?=some (.cells (Zz y bv tv).toArray 43 (0,0))
 ob:ZW w w0.heap.size 5 1 XV bv y.bytes
 ot:ZW w w0.heap.size 78 3 Z9 tv y.table
 rd:(ok=true∧QB x=some y)∨(ok=false∧QB x=none)
section
variable {b16:Nat} {lcs:AVl} {w0 w w1:Wd} {p2 p12 B bw:Nat} {st:PsD} {rv t3:Vl} {x:List UInt8} {y:FrD} {bv tv:Vl} {ok:Bool} {K1:KV} {K9:KW} {R:RT} {k:Nat}
theorem LnS.word (h:LnS b16 lcs w0 w w1 p2 p12 B bw st rv x y bv tv ok) {j:Nat} {u:List UInt8} (hu:(Yi 32 x)[j]?=some u):w.cell? ⟨bw,j,none⟩=some (.string (mkB u)):=by
 obtain ⟨A,c,hv,_,_,_,Y1⟩:=Zc.open h.wd
 obtain ⟨b,o,cs,hA,_,hA2,rfl⟩:=Y1 j (mkB u) (by rw [List.getElem?_map,hu];rfl)
 injection hv with hv _ _
 rw [← hv] at hA
 injection hA with hA
 injection hA with g1 g2
 subst g1 g2
 have:=hA2.c1 (Ext.refl w)
 rwa [Nat.mul_one,Nat.zero_add] at this
theorem jC (t2 t12 t27 t35:Vl) (hk:k≤1000000) (hK:K1 (.int .i64 ((k:Int)+1)) w):Ht t2 t3 (.bool false) t12 (.int .i64 k) t27 t35 K1 K9 R w:=by
 have hwk:IntKind.i64.wrap ((k:Int)+1)=(k:Int)+1:=XC (by omega) (by omega)
 unfold Ht
 simp (disch:=try exact DI) only [↓PR,QR,simprocAttr]
 unfold Rt
 simp (disch:=try exact DI) only [↓PR,QR,simprocAttr,hwk]
 exact hK
theorem Ew (a:List UInt8) (b:BAr) (c:List UInt8) (h:b=mkB c):decide (mkB a=b)=decide (a=c):=by rw [h];exact MK
theorem Zab {nm:BAr} {done:List MrD} {r:MrD} (h:LnS b16 lcs w0 w w1 p2 p12 B bw ⟨nm,done,some r⟩ rv x y bv tv ok) (hk:k≤1000000) (hk0:k≠0) (hc:Cnt ⟨nm,done,some r⟩ k)
 (hK1:X1 ⟨nm,done,some r⟩ k x=none→K1 (.int .i64 ((k:Int)+1)) w)
 (hK9:∀ st' w' rv' B',X1 ⟨nm,done,some r⟩ k x=some st'→PS b16 lcs w0 w' p2 B' st' rv'→K9 t3 (.bool st'.cur.isSome) w') :
 Ht (.pointer (some ⟨p2,0,none⟩)) t3 (.bool true) (.pointer (some ⟨p12,0,none⟩)) (.int .i64 k) (.string (mkB x)) (.bool ok) K1 K9 R w:=by
 have hwk:IntKind.i64.wrap ((k:Int)+1)=(k:Int)+1:=XC (by omega) (by omega)
 have dk:=Ew x ⟨#[101,110,100]⟩ G3 rfl
 have hst:X1 ⟨nm,done,some r⟩ k x=if x=G3 then some ⟨nm,done++[r],none⟩ else (QB x).map λ y=>⟨nm,done,some ⟨r.fr,r.to,r.fields++[y]⟩⟩:=by unfold X1;rw [if_neg hk0]
 rw [hst] at hK1 hK9
 unfold Ht
 simp (disch:=try exact DI) only [↓PR,QR,simprocAttr,dk]
 by_cases hx:x=G3
 · rw [if_pos hx] at hK9
   rw [decide_eq_true hx]
   simp (disch:=try exact DI) only [↓PR,QR,simprocAttr]
   exact hK9 _ _ _ _ rfl (h.ps.go h.e).close
 · rw [if_neg hx] at hK1 hK9
   rw [decide_eq_false hx]
   unfold Rt
   simp (disch:=try exact DI) only [↓PR,QR,simprocAttr]
   rcases h.rd with ⟨rfl,hl⟩ | ⟨rfl,hl⟩
   · rw [hl] at hK9
     simp (disch:=try exact DI) only [↓PR,QR,simprocAttr]
     exact IN h.ps h.e h.l12 y bv tv h.o12 h.ob h.ot (by have:=hc.1;simp at this;omega) (by have:=hc.2 r rfl;omega) λ w' rv' h'=>hK9 _ _ _ _ rfl h'
   · rw [hl] at hK1
     simp (disch:=try exact DI) only [↓PR,QR,simprocAttr,hwk]
     exact hK1 rfl
theorem O5 (h:LnS b16 lcs w0 w w1 p2 p12 B bw st rv x y bv tv ok) (hk:k≤1000000) (hk0:k≠0) (hc:Cnt st k)
 (hK1:∀ w',Ext w w'→X1 st k x=none→K1 (.int .i64 ((k:Int)+1)) w')
 (hK9:∀ st' w' rv' B',X1 st k x=some st'→PS b16 lcs w0 w' p2 B' st' rv'→K9 t3 (.bool st'.cur.isSome) w') :
 A7 (.pointer (some ⟨p2,0,none⟩)) t3 (.bool st.cur.isSome) (.pointer (some ⟨p12,0,none⟩)) (.int .i64 k) (.string (mkB x)) (.slice (some ⟨bw,0,none⟩) (Yi 32 x).length (Yi 32 x).length) (.bool ok) K1 K9 R w:=by
 have d0:decide ((k:Int) > 0)=true:=by simp only [decide_eq_true_eq];omega
 obtain ⟨nm,done,cur⟩:=st
 unfold A7
 simp (disch:=try exact DI) only [↓PR,QR,simprocAttr,d0]
 cases cur with
 | some r=>
  unfold EH A6 Dh
  simp (disch:=try exact DI) only [↓PR,QR,simprocAttr]
  exact Zab h hk hk0 hc (hK1 w (Ext.refl w)) hK9
 | none=>
  have hst:X1 ⟨nm,done,none⟩ k x=(GI (Yi 32 x)).map λ q=>⟨nm,done,some ⟨q.1,q.2,[]⟩⟩:=by unfold X1;rw [if_neg hk0]
  rw [hst] at hK1 hK9
  unfold EH
  simp (disch:=try exact DI) only [↓PR,QR,simprocAttr]
  have hw:=λ j u=>h.word (j:=j) (u:=u)
  have hps:=h.ps
  have he:=h.e
  have hlb:=h.lb
  generalize hW:Yi 32 x=W at hw hK1 hK9 ⊢
  by_cases h3:W.length=3
  · obtain ⟨a,b,c,rfl⟩:∃ a b c,W=[a,b,c]:=by
     match W,h3 with
     | [a,b,c],_=>exact ⟨a,b,c,rfl⟩
    have ho:GI [a,b,c]=if a=jt∧(Z4 (mkB b)=true∧Z4 (mkB c)=true) then some (mkB b,mkB c) else none:=rfl
    rw [ho] at hK1 hK9
    have ca:=hw 0 a rfl
    have cb:=hw 1 b rfl
    have cc:=hw 2 c rfl
    have da:=Ew a ⟨#[109,97,112]⟩ jt rfl
    have l3:([a,b,c]:List (List UInt8)).length=3:=rfl
    rw [l3]
    unfold A6
    simp (disch:=try exact DI) only [↓PR,QR,simprocAttr]
    try unfold X0
    rw [Yt underlying94 ty9 bw 0 3 3 .i64 0 (by decide) (by decide),show 0+(0:Int).toNat*1=0 from rfl]
    simp (disch:=try exact DI) only [↓PR,QR,simprocAttr,ca,da]
    by_cases ha:a=jt
    · rw [decide_eq_true ha]
      unfold Dh
      simp (disch:=try exact DI) only [↓PR,QR,simprocAttr]
      refine (JV underlying94 ty9 bw 0 3 3 1 (by decide) (by decide)).mpr ?_
      have hS:UI w (.slice (some ⟨bw,1,none⟩) 2 2) [mkB b,mkB c]:=⟨_,_,rfl,Nat.le_refl _,by decide,λ _=>⟨bw,1,rfl,λ i u hu=>by
       match i,hu with
       | 0,hu=>
        injection hu with hu
        subst hu
        exact ⟨_,rfl,λ j v hv=>by
         cases j with
         | zero=>injection hv with hv;subst hv;exact cb
         | succ j=>simp at hv,rfl⟩
       | 1,hu=>
        injection hu with hu
        subst hu
        exact ⟨_,rfl,λ j v hv=>by
         cases j with
         | zero=>injection hv with hv;subst hv;exact cc
         | succ j=>simp at hv,rfl⟩
       | _+2,hu=>simp at hu⟩⟩
      refine zcr (xZ w _ _ hS) λ w4 e4=>?_
      have hn:[mkB b,mkB c].all Z4=(Z4 (mkB b)&&Z4 (mkB c)):=by simp
      rw [hn]
      cases hnn:(Z4 (mkB b)&&Z4 (mkB c)) with
      | true=>
       rw [Bool.and_eq_true] at hnn
       rw [if_pos ⟨ha,hnn⟩] at hK9
       simp (disch:=try exact DI) only [↓PR,QR,simprocAttr]
       exact Of hps (he.trans e4) (by have:=hc.1;simp at this;omega) hlb (e4.cell cb) (e4.cell cc) λ w' rv' h'=>hK9 _ _ _ _ rfl h'
      | false=>
       rw [if_neg (λ h=>by rw [h.2.1,h.2.2] at hnn;cases hnn)] at hK1
       simp (disch:=try exact DI) only [↓PR,QR,simprocAttr]
       exact jC _ _ _ _ hk (hK1 _ e4 rfl)
    · rw [decide_eq_false ha]
      rw [if_neg (λ h=>ha h.1)] at hK1
      unfold Dh
      simp (disch:=try exact DI) only [↓PR,QR,simprocAttr]
      exact jC _ _ _ _ hk (hK1 w (Ext.refl w) rfl)
  · have d3:((W.length:Int) == 3)=false:=by simp only [beq_eq_false_iff_ne,ne_eq];omega
    rw [Oe h3] at hK1
    unfold A6 Dh
    simp (disch:=try exact DI) only [↓PR,QR,simprocAttr,d3]
    exact jC _ _ _ _ hk (hK1 w (Ext.refl w) rfl)
end
theorem NP {W:List (List UInt8)} (h:W.length≠2):GC W=none:=by
 unfold GC
 split
 · exact absurd rfl h
 · rfl
section
variable {b16:Nat} {lcs:AVl} {w0 w w1:Wd} {p2 p12 B bw:Nat} {st:PsD} {rv t3:Vl} {x:List UInt8} {y:FrD} {bv tv:Vl} {ok:Bool} {K1:KV} {Yj:Vl→Vl→Vl→Wd→Prop} {R:RT} {k:Nat}
theorem xo {K9:KW} (t2 t12 t27 t30 t35:Vl) (hK:K1 (.int .i64 1) w):A7 t2 t3 (.bool false) t12 (.int .i64 0) t27 t30 t35 K1 K9 R w:=by
 unfold A7
 simp (disch:=try exact DI) only [↓PR,QR,simprocAttr]
 unfold EH A6 Dh
 simp (disch:=try exact DI) only [↓PR,QR,simprocAttr]
 exact jC (k:=0) _ _ _ _ (by omega) hK
theorem O6 (h:LnS b16 lcs w0 w w1 p2 p12 B bw st rv x y bv tv ok) (hk:k≤1000000) (hc:Cnt st k) (h0:k=0→st.cur=none)
 (hK1:∀ w' rv' B' st',PS b16 lcs w0 w' p2 B' st' rv'→X1 st k x=none→K1 (.int .i64 ((k:Int)+1)) w')
 (hN:∀ st' w' rv' B',X1 st k x=some st'→PS b16 lcs w0 w' p2 B' st' rv'→Yj t3 (.bool st'.cur.isSome) (.int .i64 ((k:Int)+1)) w') :
 EJ (.pointer (some ⟨p2,0,none⟩)) t3 (.bool st.cur.isSome) (.pointer (some ⟨p12,0,none⟩)) (.int .i64 k) (.string (mkB x)) (.slice (some ⟨bw,0,none⟩) (Yi 32 x).length (Yi 32 x).length) (.bool ok) K1 Yj R w:=by
 have hwk:IntKind.i64.wrap ((k:Int)+1)=(k:Int)+1:=XC (by omega) (by omega)
 have hfail:∀ w',Ext w w'→X1 st k x=none→K1 (.int .i64 ((k:Int)+1)) w':=λ w' e hn=>hK1 w' _ _ _ (h.ps.go (h.e.trans e)) hn
 by_cases hk0:k=0
 · subst hk0
   have hcur:=h0 rfl
   obtain ⟨nm,done,cur⟩:=st
   simp only at hcur
   subst hcur
   have hst:X1 ⟨nm,done,none⟩ 0 x=(GC (Yi 32 x)).map λ n=>⟨n,done,none⟩:=rfl
   rw [hst] at hfail hN
   unfold EJ
   have hw:=λ j u=>h.word (j:=j) (u:=u)
   have hps:=h.ps
   have he:=h.e
   clear hK1
   generalize hW:Yi 32 x=W at hw hfail hN ⊢
   simp (disch:=try exact DI) only [↓PR,QR,simprocAttr]
   by_cases h3:W.length=2
   · obtain ⟨a,b,rfl⟩:∃ a b,W=[a,b]:=by
      match W,h3 with
      | [a,b],_=>exact ⟨a,b,rfl⟩
     have ho:GC [a,b]=if a=Qt∧Z4 (mkB b)=true then some (mkB b) else none:=rfl
     rw [ho] at hfail hN
     have ca:=hw 0 a rfl
     have cb:=hw 1 b rfl
     have da:=Ew a ⟨#[109,97,112,112,105,110,103]⟩ Qt rfl
     have l3:([a,b]:List (List UInt8)).length=2:=rfl
     rw [l3]
     unfold EI
     simp (disch:=try exact DI) only [↓PR,QR,simprocAttr]
     try unfold X0
     rw [Yt underlying94 ty9 bw 0 2 2 .i64 0 (by decide) (by decide),show 0+(0:Int).toNat*1=0 from rfl]
     simp (disch:=try exact DI) only [↓PR,QR,simprocAttr,ca,da]
     by_cases ha:a=Qt
     · rw [decide_eq_true ha]
       unfold A9
       simp (disch:=try exact DI) only [↓PR,QR,simprocAttr]
       try unfold X0
       rw [Yt underlying94 ty9 bw 0 2 2 .i64 1 (by decide) (by decide),show 0+(1:Int).toNat*1=1 from rfl]
       simp (disch:=try exact DI) only [↓PR,QR,simprocAttr,cb]
       refine Zk (Kl w (mkB b)) ?_
       rintro _ w4 ⟨rfl,e4⟩
       have hP4:=hps.go (he.trans e4)
       unfold A8
       cases hnn:Z4 (mkB b) with
       | true=>
        rw [if_pos ⟨ha,hnn⟩] at hN
        simp (disch:=try exact DI) only [↓PR,QR,simprocAttr]
        unfold Rn
        try unfold X0
        rw [Yt underlying94 ty9 bw 0 2 2 .i64 1 (by decide) (by decide),show 0+(1:Int).toNat*1=1 from rfl]
        simp (disch:=try exact DI) only [↓PR,QR,simprocAttr,e4.cell cb,(Za hP4.obj).1,(Za hP4.obj).2]
        exact hN _ _ _ _ rfl (hP4.named (mkB b))
       | false=>
        rw [if_neg (λ h=>by rw [h.2] at hnn;cases hnn)] at hfail
        simp (disch:=try exact DI) only [↓PR,QR,simprocAttr]
        exact xo _ _ _ _ _ (hfail _ e4 rfl)
     · rw [decide_eq_false ha]
       rw [if_neg (λ h=>ha h.1)] at hfail
       unfold A9 A8
       simp (disch:=try exact DI) only [↓PR,QR,simprocAttr]
       exact xo _ _ _ _ _ (hfail w (Ext.refl w) rfl)
   · have d3:((W.length:Int) == 2)=false:=by simp only [beq_eq_false_iff_ne,ne_eq];omega
     rw [NP h3] at hfail
     unfold EI A9 A8
     simp (disch:=try exact DI) only [↓PR,QR,simprocAttr,d3]
     exact xo _ _ _ _ _ (hfail w (Ext.refl w) rfl)
 · have d0:((k:Int) == 0)=false:=by simp only [beq_eq_false_iff_ne,ne_eq];omega
   unfold EJ EI A9 A8
   simp (disch:=try exact DI) only [↓PR,QR,simprocAttr,d0]
   refine O5 h hk hk0 hc hfail ?_
   intro st' w' rv' B' hs hp
   exact hN st' w' rv' B' hs hp
end
theorem Po {w:Wd} {cs:AVl} {T:TypeId} {vs:List Vl} (hl:cs.size=vs.length):Ext w (YA (w.alloc (.cells cs T)) w.heap.size 0 vs)∧(YA (w.alloc (.cells cs T)) w.heap.size 0 vs).heap[w.heap.size]?=some (.cells vs.toArray T (0,0)):=by
 have ho:=Zv w cs T
 have e0:Ext w (w.alloc (.cells cs T)):=(Ext.refl w).alloc _
 obtain ⟨h1,h2,h3⟩:=J4 vs (w.alloc (.cells cs T)) 0 (b:=w.heap.size)
 refine ⟨⟨h1.trans e0.os,h2.trans e0.tape,h3.trans e0.output,by rw [UA];exact e0.size,λ k hk=>?_⟩,?_⟩
 · rw [← e0.block k hk]
   exact WZ vs _ 0 k (by omega)
 · rw [Q8 vs 0 ho,BP (by simp [hl])]
def xg (w0:Wd) (o:Option Yo×Nat) (r:Vl) (w':Wd):Prop:=Ext w0 w'∧((∃ m v,o=(some m,0)∧r = .tuple #[v,.int .i64 0,.int .i64 0]∧YO w' v m)∨(∃ v n,o=(none,n)∧r = .tuple #[v,.int .i64 n,.int .i64 6]∧YO w' v ⟨ByteArray.empty,[]⟩))
section
variable {b16:Nat} {lcs:AVl} {w0 w w1:Wd} {p2 p12 B bw:Nat} {st:PsD} {rv t3:Vl} {x:List UInt8} {y:FrD} {bv tv:Vl} {ok:Bool} {K1:KV} {Yj:Vl→Vl→Vl→Wd→Prop} {R:RT} {k:Nat}
theorem Og {n:Nat} {o:Option Yo×Nat} (h:PS b16 lcs w0 w p2 B st rv) (ho:o=(none,n)):Rm (.pointer (some ⟨p2,0,none⟩)) (.int .i64 n) (ZI (xg w0 o)) w:=by
 unfold Rm
 simp (disch:=try exact DI) only [↓PR,QR,simprocAttr,(Za h.obj).1,(Za h.obj).2]
 have e2:Ext w0 (YA w p2 0 (ZL ⟨ByteArray.empty,[]⟩ (.slice none 0 0))):=(h.e.setCell (p:=⟨p2,0,none⟩) h.lp _).setCell (p:=⟨p2,1,none⟩) h.lp _
 have o2:(YA w p2 0 (ZL ⟨ByteArray.empty,[]⟩ (.slice none 0 0))).heap[p2]?=some (.cells (ZL ⟨ByteArray.empty,[]⟩ (.slice none 0 0)).toArray 24 (0,0)):=Zw (o:=1) (Zw (o:=0) h.obj (.string ByteArray.empty)) (.slice none 0 0)
 exact ⟨e2,.inr ⟨_,n,ho,rfl,_,rfl,Zc.nil ..⟩⟩
theorem LL {nm:BAr} {done:List MrD} {o:Option Yo×Nat} (h:PS b16 lcs w0 w p2 B ⟨nm,done,none⟩ rv) (ho:o=(some ⟨nm,done⟩,0)):I6 (.pointer (some ⟨p2,0,none⟩)) (ZI (xg w0 o)) w:=by
 unfold I6
 have hr:=h.one
 have hrd:=h.read
 simp only [Option.toList_none,List.append_nil] at hrd
 have o1:w.heap[p2]?=some (.cells (ZL ⟨nm,done⟩ rv).toArray 24 (0,0)):=h.obj
 simp (disch:=try exact DI) only [↓PR,QR,simprocAttr,(Za o1).1,(Za o1).2]
 have e2:=Jf h.e o1 (vs:=ZL ⟨nm,done⟩ rv)
 have e3:=Jf (Ext.refl w) o1 (vs:=ZL ⟨nm,done⟩ rv)
 have o2:=e3.obj o1
 have h2:=hrd.ext e3
 exact ⟨e2,.inl ⟨_,_,ho,rfl,_,rfl,h2⟩⟩
theorem O7 {whole:Bool} {o:Option Yo×Nat} {rest:List (List UInt8)} (h:LnS b16 lcs w0 w w1 p2 p12 B bw st rv x y bv tv ok) (hk:k≤1000000) (hc:Cnt st k) (h0:k=0→st.cur=none)
 (ho:o=goQ st k (x::rest)) (hwh:(whole=true∧rest≠[])∨(whole=false∧rest=[]))
 (hK1:∀ w' rv' B' st',PS b16 lcs w0 w' p2 B' st' rv'→o=(none,k+1)→K1 (.int .i64 ((k:Int)+1)) w')
 (hN:∀ st' w' rv' B',rest≠[]→X1 st k x=some st'→PS b16 lcs w0 w' p2 B' st' rv'→Yj t3 (.bool st'.cur.isSome) (.int .i64 ((k:Int)+1)) w') :
 (λ (t40:Bool)=>Zo (λ (t43:Vl) (w:Wd)=>
  zf (.pointer (some ⟨p2,0,none⟩)) t3 (.bool st.cur.isSome) (.pointer (some ⟨p12,0,none⟩)) (.int .i64 k) (.string (mkB x)) (.bool whole) (.slice (some ⟨bw,0,none⟩) (Yi 32 x).length (Yi 32 x).length) (.bool ok) (.bool t40) t43 K1 Yj (ZI (xg w0 o)) w) λ K3=>
  Zn (.bool t40) true (
   opV Pg (ZF .eql 9 true (.string (mkB x)) (.string { data := #[] })) (Zd (ZI (xg w0 o))) w λ t43 w=>
   K3 t43 w) (
   K3 undef w)) (!whole):=by
 have hwk:IntKind.i64.wrap ((k:Int)+1)=(k:Int)+1:=XC (by omega) (by omega)
 have dx:=Ew x ⟨#[]⟩ [] rfl
 rcases hwh with ⟨rfl,hr⟩ | ⟨rfl,hr⟩
 · simp (disch:=try exact DI) only [↓PR,QR,simprocAttr]
   unfold zf xU Ba
   simp (disch:=try exact DI) only [↓PR,QR,simprocAttr]
   refine O6 h hk hc h0 (λ w' rv' B' st' hp hs=>hK1 w' rv' B' st' hp (by rw [ho,Aw hr hs])) λ st' w' rv' B' hs hp=>hN st' w' rv' B' hr hs hp
 · subst hr
   have hg:goQ st k [x]=if x=[]∧(0 < k∧st.cur=none) then (some ⟨st.name,st.done⟩,0) else (none,k+1):=rfl
   have hps:=h.ps.go h.e
   simp (disch:=try exact DI) only [↓PR,QR,simprocAttr,dx]
   have bad:¬ (x=[]∧(0 < k∧st.cur=none))→K1 (.int .i64 ((k:Int)+1)) w:=λ hb=>hK1 _ _ _ _ hps (by rw [ho,hg,if_neg hb])
   by_cases hx:x=[]
   · rw [decide_eq_true hx]
     by_cases hk0:k=0
     · have d0:decide ((k:Int) > 0)=false:=by simp only [decide_eq_false_iff_not];omega
       unfold zf xU Ba
       simp (disch:=try exact DI) only [↓PR,QR,simprocAttr,d0,hwk]
       exact bad λ h=>by omega
     · have d0:decide ((k:Int) > 0)=true:=by simp only [decide_eq_true_eq];omega
       obtain ⟨nm,done,cur⟩:=st
       cases cur with
       | some r=>
        unfold zf xU Ba
        simp (disch:=try exact DI) only [↓PR,QR,simprocAttr,d0,hwk]
        exact bad λ h=>by cases h.2.2
       | none=>
        rw [if_pos ⟨hx,Nat.pos_of_ne_zero hk0,rfl⟩] at hg
        unfold zf xU
        simp (disch:=try exact DI) only [↓PR,QR,simprocAttr,d0]
        exact LL hps (by rw [ho,hg])
   · rw [decide_eq_false hx]
     unfold zf xU Ba
     simp (disch:=try exact DI) only [↓PR,QR,simprocAttr,hwk]
     exact bad λ h=>hx h.1
theorem O8 {L:List (List UInt8)} {o:Option Yo×Nat} (hE:Vf w0) (h:PS b16 lcs w0 w p2 B st rv) (hL:∀ u∈L,(10:UInt8) ∉ u∧u.length≤80000) (hlcs:lcs=(((XI 10 L).map mkB).map Value.string).toArray) (hx:L[k]?=some x) (hk:k≤1000000) (hc:Cnt st k) (h0:k=0→st.cur=none)
 (ho:o=goQ st k (L.drop k))
 (hK1:∀ w' rv' B' st',PS b16 lcs w0 w' p2 B' st' rv'→o=(none,k+1)→K1 (.int .i64 ((k:Int)+1)) w')
 (hN:∀ st' w' rv' B',k+1 < L.length→o=goQ st' (k+1) (L.drop (k+1))→Cnt st' (k+1)→PS b16 lcs w0 w' p2 B' st' rv'→Yj t3 (.bool st'.cur.isSome) (.int .i64 ((k:Int)+1)) w') :
 I7 (.pointer (some ⟨p2,0,none⟩)) t3 (.bool st.cur.isSome) (.slice (some ⟨b16,0,none⟩) L.length L.length) (.int .i64 k) K1 Yj (ZI (xg w0 o)) w:=by
 obtain ⟨hkl,hxe⟩:=List.getElem?_eq_some_iff.1 hx
 have hdrop:L.drop k=x::L.drop (k+1):=by rw [← hxe];exact List.drop_eq_getElem_cons hkl
 rw [hdrop] at ho
 obtain ⟨x10,xz⟩:=hL x (List.mem_of_getElem? hx)
 obtain ⟨u,whole,hu,hu1,hu2,huz,hwh⟩:∃ u whole,(XI 10 L)[k]?=some u∧Go.Lib.hasSuffix u [10]=whole∧Go.Lib.trimSuffix u [10]=x∧u.length≤80001∧((whole=true∧L.drop (k+1)≠[])∨(whole=false∧L.drop (k+1)=[])):=by
  by_cases hl:k+1=L.length
  · have:=OD x10
    exact ⟨x,false,qp hx hl,this.1,this.2,by omega,.inr ⟨rfl,List.drop_eq_nil_of_le (by omega)⟩⟩
  · have:=Mj 10 x
    refine ⟨_,true,CL hx (by omega),this.1,this.2,by simp;omega,.inl ⟨rfl,λ h=>?_⟩⟩
    have:=congrArg List.length h
    rw [List.length_drop,List.length_nil] at this
    omega
 have X4:w.cell? ⟨b16,k*1,none⟩=some (.string (mkB u)):=by
  rw [Nat.mul_one,(Za h.ln).1,hlcs]
  simp [hu]
 unfold I7
 simp (disch:=try exact DI) only [↓PR,QR,simprocAttr,X4]
 refine Zk (Ch w u 10 (by omega)) ?_
 rintro _ w' ⟨rfl,rfl⟩
 rw [hu1,hu2]
 unfold Rp
 simp (disch:=try exact DI) only [↓PR,QR,simprocAttr]
 refine Zk (DP (hE.ext h.e).env x 32 (by omega)) ?_
 rintro _ w1 ⟨e1,rfl,hW⟩
 refine Zk (LZ w1 (hE.ext (h.e.trans e1)) x xz) ?_
 rintro _ w2 ⟨e2,v,y,ok,rfl,⟨bv,tv,rfl,hob,hot⟩,hrd⟩
 unfold Ro
 simp (disch:=try exact DI) only [↓PR,QR,simprocAttr]
 have o1:bv.oneCell'=true:=Zc.oneCell (zy hob)
 have o2:tv.oneCell'=true:=Zc.oneCell (V2 hot)
 rw [U1 Ud (Zv w2 _ _) (vs:=Zz y bv tv) rfl (Nat.le_refl _) (by intro v hv;simp only [List.mem_cons,List.not_mem_nil,or_false] at hv;rcases hv with rfl | rfl | rfl | rfl | rfl | rfl | rfl<;>first | rfl | assumption)]
 have hfill:=Po (w:=w2) (cs := #[Value.string ByteArray.empty,Value.int IntKind.i64 0,Value.string ByteArray.empty,Value.int IntKind.i64 0,Value.int IntKind.i64 0,Value.slice none 0 0,Value.slice none 0 0]) (T:=43) (vs:=Zz y bv tv) rfl
 generalize (YA (w2.alloc (.cells #[Value.string ByteArray.empty,Value.int IntKind.i64 0,Value.string ByteArray.empty,Value.int IntKind.i64 0,Value.int IntKind.i64 0,Value.slice none 0 0,Value.slice none 0 0] 43)) w2.heap.size 0 (Zz y bv tv))=w3 at hfill ⊢
 obtain ⟨e3,o3⟩:=hfill
 have hb1:w0.heap.size≤w1.heap.size:=(h.e.trans e1).size
 have hLn:LnS b16 lcs w0 w3 w' p2 w2.heap.size B w'.heap.size st rv x y bv tv ok:=⟨h,e1.trans (e2.trans e3),Nat.le_refl _,Zc.ext Gj hW (e2.trans e3),(e1.trans e2).size,o3,(hob.ext e3).base hb1,(hot.ext e3).base hb1,hrd⟩
 try unfold N0
 rw [LG]
 exact O7 hLn hk hc h0 ho hwh hK1 λ st' w' rv' B' hr hs hp=>hN st' w' rv' B' (by
  by_cases hl:k+1 < L.length
  · exact hl
  · exact absurd (List.drop_eq_nil_of_le (by omega)) hr) (by rw [ho,W3 hr hs]) (Pi hc hs) hp
end
theorem xh (w0:Wd) (hE:Vf w0) (s:BAr) (hs:s.size≤1000000000) (hl:(Yi 10 s.data.toList).length≤1000000) (hz:∀ u∈Yi 10 s.data.toList,u.length≤80000):Ret Pg 22 #[.string s] w0 (xg w0 (Uy s)):=by
 refine Zj0 (R:=ZI _) ?_;unfold n25
 simp (disch:=try exact DI) only [↓PR,QR,simprocAttr]
 have oV:=Zv w0 (ZL ⟨ByteArray.empty,[]⟩ (.slice none 0 0)).toArray 24
 have eV:Ext w0 (w0.alloc (.cells (ZL ⟨ByteArray.empty,[]⟩ (.slice none 0 0)).toArray 24)):=(Ext.refl w0).alloc _
 change ZV _ _ _ _ (w0.alloc (.cells (ZL ⟨ByteArray.empty,[]⟩ (.slice none 0 0)).toArray 24)) _
 generalize (w0.alloc (.cells (ZL ⟨ByteArray.empty,[]⟩ (.slice none 0 0)).toArray 24))=V at oV eV ⊢
 have hp:s=mkB s.data.toList:=(AM s).symm
 generalize hsl:s.data.toList=l at hl hz hp ⊢
 have hll:l.length≤1000000000:=by rw [← hsl,Vz];exact hs
 subst hp
 have ho:Uy (mkB l)=goQ jl 0 (Yi 10 l):=by unfold Uy;rw [Qu]
 generalize Uy (mkB l)=o at ho ⊢
 refine Zk (j0 (hE.ext eV).env l 10 hll) ?_
 rintro _ w1 ⟨e1,rfl,oL⟩
 have PF:∀ u∈Yi 10 l,(10:UInt8) ∉ u∧u.length≤80000:=λ u hu=>⟨zT hu,hz u hu⟩
 have YN:=WV 10 l
 generalize Yi 10 l=L at hl hz oL PF YN ho ⊢
 have hL0:0 < L.length:=List.length_pos_iff.2 YN
 unfold Rq
 simp (disch:=try exact DI) only [↓PR,QR,simprocAttr]
 generalize hp2:w0.heap.size=p2 at oV ⊢
 have hP0:PS V.heap.size (((XI 10 L).map mkB).map Value.string).toArray w0 w1 p2 w1.heap.size jl (.slice none 0 0):=⟨oL,eV.trans e1,by omega,e1.obj oV,(eV.trans e1).size,Nat.le_refl _,[],[],ZW.nil _ _ _ _ _,⟨rfl,λ k x cs hx=>by simp [jl] at hx⟩,⟨rfl,λ k x cs hx=>by simp [jl] at hx⟩⟩
 refine Uj (λ a b c w=>∃ (k:Nat) (st:PsD) (rv:Vl) (B:Nat),a = .int .i64 0∧b = .bool st.cur.isSome∧c = .int .i64 (k:Int)∧k < L.length∧PS V.heap.size (((XI 10 L).map mkB).map Value.string).toArray w0 w p2 B st rv∧o=goQ st k (L.drop k)∧Cnt st k∧(k=0→st.cur=none)) (λ _ _ c _=>L.length - (intOf c).toNat) ⟨0,jl,_,_,rfl,rfl,rfl,hL0,hP0,ho,⟨Nat.le_refl _,λ r hr=>by cases hr⟩,λ _=>rfl⟩ ?_
 rintro _ _ _ w ⟨k,st,rv,B,rfl,rfl,rfl,hk,hP,hok,hc,h0⟩
 have dk:decide ((k:Int) < L.length)=true:=by simp only [decide_eq_true_eq];omega
 obtain ⟨x,hx⟩:=getElem?_lt hk
 simp (disch:=try exact DI) only [↓PR,QR,simprocAttr,dk]
 refine O8 hE hP PF rfl hx (by omega) hc h0 hok (λ w' rv' B' st' hp ho'=>?_) (λ st' w' rv' B' hk1 ho' hc' hp=>?_)
 · exact Og (n:=k+1) hp ho'
 · exact ⟨⟨k+1,st',rv',B',rfl,rfl,rfl,hk1,hp,ho',hc',λ h=>by omega⟩,Ya (by omega)⟩
def ZaU:FrD:=⟨⟨#[110]⟩,7,⟨#[]⟩,0,0,[],[]⟩
def FH:FrD:=⟨⟨#[98]⟩,1,⟨#[98]⟩,0,0,[],[]⟩
def yy:FrD:=⟨⟨#[110]⟩,1,⟨#[98]⟩,0,0,[],[]⟩
def Kr:Yo:=⟨⟨#[109]⟩,[⟨⟨#[65]⟩,⟨#[65]⟩,[ZaU,FH]⟩]⟩
def nF:Zq:=⟨⟨#[110]⟩,1,8,false,false,0,255,0,[],⟨#[]⟩,⟨#[]⟩,⟨#[]⟩,[],0,0⟩
def bF:Zq:=⟨⟨#[98]⟩,4,0,false,false,0,0,0,[⟨⟨#[110]⟩,1⟩],⟨#[]⟩,⟨#[]⟩,⟨#[]⟩,[],0,0⟩
def Yh:Xv:=⟨⟨#[100]⟩,[⟨⟨#[65]⟩,[nF,bF]⟩],⟨#[65]⟩⟩
theorem heap_alloc (w:Wd) (o:Obj) (k:Nat):(w.alloc o).heap[k]?=if k=w.heap.size then some o else w.heap[k]?:=by
 simp only [World.alloc,Array.getElem?_push]
theorem U6 {α:Type} {w:Wd} {b n:Nat} {T:TypeId} {E:Wd→List Vl→α→Prop} {cs:AVl} {l:List α} (ho:w.heap[b]?=some (.cells cs T (0,0))) (hl:l.length≤1000) (h:∀ k x,l[k]?=some x→∃ c:List Vl,c.length=n∧(cs.toList.drop (k*n)).take n=c∧E w c x):Zc w n E (.slice (some ⟨b,0,none⟩) l.length l.length) l:=by
 refine ⟨_,_,rfl,Nat.le_refl _,by omega,λ _=>⟨b,0,rfl,λ k x hx=>?_⟩⟩
 obtain ⟨c,h1,h2,h3⟩:=h k x hx
 refine ⟨c,h1,λ j v hv=>?_,h3⟩
 rw [(Za ho).1,Nat.zero_add,← Array.getElem?_toList]
 have hj:j < n:=by rw [← h1];exact (List.getElem?_eq_some_iff.1 hv).1
 rw [← h2,List.getElem?_take,if_pos hj,List.getElem?_drop] at hv
 exact hv
abbrev Xd:Vl := .slice none 0 0
structure ZdH (w0 w:Wd) (v:Vl) (bF bM:Nat):Prop where
 e:Ext w0 w
 lF:w0.heap.size≤bF
 lM:w0.heap.size≤bM
 ne:bF≠bM
 oF:w.heap[bF]?=some (.cells (Zz ZaU Xd Xd++Zz FH Xd Xd).toArray 43 (0,0))
 oM:w.heap[bM]?=some (.cells #[.string ⟨#[65]⟩,.string ⟨#[65]⟩,.slice (some ⟨bF,0,none⟩) 2 2] 60 (0,0))
 v:v = .agg #[.string ⟨#[109]⟩,.slice (some ⟨bM,0,none⟩) 1 1]
theorem Gs (w0:Wd):Ret Pg 30 #[] w0 λ r w'=>∃ bF bM,ZdH w0 w' r bF bM:=by
 refine Zkx (R:=ZI _) ?_;unfold n58
 simp (disch:=try exact DI) only [↓PR,QR,simprocAttr]
 refine ⟨w0.heap.size+1,w0.heap.size+1+1,ee,by omega,by omega,by omega,?_,?_,rfl⟩
 · repeat (first | rw [heap_alloc,if_neg (by simp only [World.size_alloc];omega)] | rw [heap_alloc,if_pos (by simp only [World.size_alloc])])
   rfl
 · repeat (first | rw [heap_alloc,if_neg (by simp only [World.size_alloc];omega)] | rw [heap_alloc,if_pos (by simp only [World.size_alloc])])
theorem Er (w:Wd) (x:FrD) (hb:x.bytes=[]) (ht:x.table=[]):EFr w (Zz x Xd Xd) x:=⟨_,_,rfl,by rw [hb];exact Zc.nil ..,by rw [ht];exact Zc.nil ..⟩
theorem MD {w:Wd} {b:Nat} {x y:FrD} (ho:w.heap[b]?=some (.cells (Zz x Xd Xd++Zz y Xd Xd).toArray 43 (0,0))) (hx:x.bytes=[]) (hx':x.table=[]) (hy:y.bytes=[]) (hy':y.table=[]):QZ w (.slice (some ⟨b,0,none⟩) 2 2) [x,y]:=by
 refine U6 (l:=[x,y]) ho (by simp) λ k z hz=>?_
 match k,hz with
 | 0,hz=>cases hz;exact ⟨_,rfl,rfl,Er w _ hx hx'⟩
 | 1,hz=>cases hz;exact ⟨_,rfl,rfl,Er w _ hy hy'⟩
 | _+2,hz=>simp at hz
theorem EG {w:Wd} {b:Nat} {r:MrD} {fv:Vl} (ho:w.heap[b]?=some (.cells (Z6 r fv).toArray 60 (0,0))) (hf:QZ w fv r.fields):VC w (.slice (some ⟨b,0,none⟩) 1 1) [r]:=by
 refine U6 (l:=[r]) ho (by simp) λ k z hz=>?_
 match k,hz with
 | 0,hz=>cases hz;exact ⟨_,rfl,rfl,fv,rfl,hf⟩
 | _+1,hz=>simp at hz
theorem ZdH.val {w0 w:Wd} {v:Vl} {bF bM:Nat} (h:ZdH w0 w v bF bM):YO w v Kr:=⟨_,h.v,EG h.oM (MD h.oF rfl rfl rfl rfl)⟩
theorem Xt (w0:Wd):Ret Pg 31 #[] w0 λ r w'=>Xk w' r Yh∧Ext w0 w':=by
 refine Zky (R:=ZI _) ?_;unfold n59
 simp (disch:=try exact DI) only [↓PR,QR,simprocAttr]
 refine ⟨⟨_,rfl,?_⟩,ee⟩
 generalize hW:World.alloc _ _=W
 have o1:W.heap[w0.heap.size+1+1]?=some (.cells #[.string ⟨#[110]⟩,.int .i64 1] 128 (0,0)):=by rw [← hW]; (repeat (first | rw [heap_alloc,if_neg (by simp only [World.size_alloc];omega)] | rw [heap_alloc,if_pos (by simp only [World.size_alloc])]));try rfl
 have o2:W.heap[w0.heap.size+1+1+1+1]?=some (.cells (Zp nF Xd Xd++Zp bF (.slice (some ⟨w0.heap.size+1+1,0,none⟩) 1 1) Xd).toArray 123 (0,0)):=by rw [← hW]; (repeat (first | rw [heap_alloc,if_neg (by simp only [World.size_alloc];omega)] | rw [heap_alloc,if_pos (by simp only [World.size_alloc])]));try rfl
 have o3:W.heap[w0.heap.size+1+1+1+1+1]?=some (.cells (Yf ⟨⟨#[65]⟩,[nF,bF]⟩ (.slice (some ⟨w0.heap.size+1+1+1+1,0,none⟩) 2 2)).toArray 74 (0,0)):=by rw [← hW]; (repeat (first | rw [heap_alloc,if_neg (by simp only [World.size_alloc];omega)] | rw [heap_alloc,if_pos (by simp only [World.size_alloc])]));try rfl
 refine U6 (l:=Yh.msgs) o3 (by decide) λ k z hz=>?_
 match k,hz with
 | 0,hz=>
  cases hz
  refine ⟨_,rfl,rfl,_,rfl,U6 (l:=[nF,bF]) o2 (by simp) λ k z hz=>?_⟩
  match k,hz with
  | 0,hz=>cases hz;exact ⟨_,rfl,rfl,_,_,rfl,Zc.nil ..,Zc.nil ..⟩
  | 1,hz=>
   cases hz
   refine ⟨_,rfl,rfl,_,_,rfl,U6 (l:=bF.terms) o1 (by decide) λ k z hz=>?_,Zc.nil ..⟩
   match k,hz with
   | 0,hz=>cases hz;exact ⟨_,rfl,rfl,rfl⟩
   | _+1,hz=>simp [bF] at hz
  | _+2,hz=>simp at hz
 | _+1,hz=>simp [Yh] at hz
def Fm:Yo:=⟨⟨#[109]⟩,[⟨⟨#[65]⟩,⟨#[65]⟩,[ZaU]⟩]⟩
def Fx:Yo:=⟨⟨#[109]⟩,[⟨⟨#[65]⟩,⟨#[65]⟩,[yy,FH]⟩]⟩
theorem Zd0:V8 Kr=⟨#[109,97,112,112,105,110,103,32,109,10,109,97,112,32,65,32,65,10,110,32,102,105,116,10,98,32,99,111,112,121,32,98,10,101,110,100,10]⟩:=by rfl
theorem ZdZ:Ug Kr=true:=by rfl
theorem ZaF:KK Kr Yh Yh=none:=by rfl
theorem ME:KK Fm Yh Yh=some (0,-1,10):=by rfl
theorem MF:KK Fx Yh Yh=some (0,0,5):=by rfl
theorem ZbB:Yi 10 [109,97,112,112,105,110,103,32,109,10,109,97,112,32,65]=[[109,97,112,112,105,110,103,32,109],[109,97,112,32,65]]:=by rfl
theorem ZaE:Uy ⟨#[109,97,112,112,105,110,103,32,109,10,109,97,112,32,65]⟩=(none,2):=by
 unfold Uy
 rw [show (⟨#[109,97,112,112,105,110,103,32,109,10,109,97,112,32,65]⟩:BAr).data.toList=[109,97,112,112,105,110,103,32,109,10,109,97,112,32,65] from rfl,ZbB,W3 (by simp) (s':=⟨⟨#[109]⟩,[],none⟩) (by rfl)]
 rfl
def Zft:FrD:=⟨⟨#[]⟩,2,⟨#[]⟩,5,0,[],[]⟩
def xw:FrD:=⟨⟨#[]⟩,5,⟨#[]⟩,0,0,[],[⟨1,2,9⟩]⟩
theorem ZjN:Lv (Cu Zft 3) = .tuple #[.int .i64 8,.bool true]:=by rfl
theorem ZjO:Lv (Cu xw 2) = .tuple #[.int .i64 9,.bool true]:=by rfl
theorem ZjP:Lv (Cu xw 3) = .tuple #[.int .i64 0,.bool false]:=by rfl
theorem ZaD:∀ m∈[Kr,Fm,Fx],∀ r∈m.rules,∀ x∈r.fields,inF x=true:=by decide
theorem ZjQ:SmM Kr:=by
 refine ⟨by decide,by decide,by decide⟩
def ZcS (d e f:Vl) (R:RT) (w:Wd):Prop:=
 Zy e f (.bool false) λ b=>
 Zo (λ (a:Vl) (w:Wd)=>
 Zy b a (.bool false) λ g=>
 R (.returned g) w) λ c=>
 Zn b true (
 B0 .eql 49 true d (.int .i64 6) R w λ a w=>
 c a w) (
 c undef w)
def ZcT (d e f g:Vl) (R:RT) (w:Wd):Prop:=
 Zy f g (.bool false) λ b=>
 Zo (λ (a:Vl) (w:Wd)=>
 ZcS e b a R w) λ c=>
 Zn b true (
 B0 .eql 3 true d (.int .i64 2) R w λ a w=>
 c a w) (
 c undef w)
def ZcU (d e f g h:Vl) (R:RT) (w:Wd):Prop:=
 Zy g h (.bool false) λ b=>
 Zo (λ (a:Vl) (w:Wd)=>
 ZcT e f b a R w) λ c=>
 Zn b true (
 N0 d R w λ a w=>
 c a w) (
 c undef w)
def ZcV (c d e f g h:Vl) (R:RT) (w:Wd):Prop:=
 Zy g h (.bool false) λ a=>
 Zo (λ (i:Vl) (w:Wd)=>
 ZcU d e f a i R w) λ b=>
 Zn a true (
 b c w) (
 b undef w)
def ZcW (d e f g h i j:Vl) (R:RT) (w:Wd):Prop:=
 Zy i j (.bool false) λ b=>
 Zo (λ (a:Vl) (w:Wd)=>
 ZcV e f g h b a R w) λ c=>
 Zn b true (
 B0 .eql 3 true d (.int .i64 9) R w λ a w=>
 c a w) (
 c undef w)
def ZcX (d e f g h a:Vl) (R:RT) (w:Wd):Prop:=
 E0q a 0 R w λ i w=>
 E0q a 1 R w λ j w=>
 E0q a 2 R w λ k w=>
 opV Pg (alloc 24 true (.tuple #[])) (Zd R) w λ l w=>
 S0 24 l i R w λ w=>
 B0 .eql 3 true d (.int .i64 8) R w λ b w=>
 Zo (λ (m:Vl) (w:Wd)=>
 ZcW f g h j k b m R w) λ c=>
 Zn b true (
 c e w) (
 c undef w)
def ZcY (b c d e a:Vl) (R:RT) (w:Wd):Prop:=
 E0q a 0 R w λ h w=>
 E0q a 1 R w λ f w=>
 ZV Pg 22 #[(.string { data := #[109,97,112,112,105,110,103,32,109,10,109,97,112,32,65] })] (Zd R) w λ g w=>
 ZcX b c d e f g R w
def ZcZ (b c d a:Vl) (R:RT) (w:Wd):Prop:=
 E0q a 0 R w λ e w=>
 E0q a 1 R w λ f w=>
 L0 43 b R w λ g w=>
 C0 18 #[g,(.int .i64 3)] R w λ h w=>
 ZcY c d e f h R w
def Su (a b:Vl) (R:RT) (w:Wd):Prop:=
 E0q b 0 R w λ c w=>
 E0q b 1 R w λ d w=>
 L0 43 a R w λ e w=>
 C0 18 #[e,(.int .i64 2)] R w λ f w=>
 ZcZ a c d f R w
def Sh (R:RT) (w:Wd):Prop:=
 opV Pg (build 78 #[(0,(.int .i64 1)),(1,(.int .i64 2)),(2,(.int .i64 9))]) (Zd R) w λ b w=>
 opV Pg (buildSlice 41 1 #[(0,b)]) (Zd R) w λ c w=>
 opV Pg (build 43 #[(1,(.int .i64 5)),(6,c)]) (Zd R) w λ d w=>
 opV Pg (alloc 43 true (.tuple #[])) (Zd R) w λ a w=>
 S0 43 a d R w λ w=>
 opV Pg (build 43 #[(1,(.int .i64 2)),(3,(.int .i64 5))]) (Zd R) w λ e w=>
 C0 18 #[e,(.int .i64 3)] R w λ f w=>
 Su a f R w
def Si (d e f:Vl) (R:RT) (w:Wd):Prop:=
 Zy e (.bool true) f λ b=>
 Zo (λ (a:Vl) (w:Wd)=>
 Zy b (.bool true) a λ g=>
 Zs g (
 R (.returned (.bool false)) w) (
 Sh R w)) λ c=>
 Zn b false (
 N0 d R w λ a w=>
 c a w) (
 c undef w)
def Sj (d e f g:Vl) (R:RT) (w:Wd):Prop:=
 Zy f (.bool true) g λ b=>
 Zo (λ (a:Vl) (w:Wd)=>
 Si e b a R w) λ c=>
 Zn b false (
 N0 d R w λ a w=>
 c a w) (
 c undef w)
def Lb (d e f g:Vl) (R:RT) (w:Wd):Prop:=
 L0 34 d R w λ h w=>
 opV Pg (build 34 #[(0,(.int .i64 0)),(1,(.int .i64 (-1))),(2,(.int .i64 10))]) (Zd R) w λ i w=>
 B0 .neq 34 false h i R w λ b w=>
 Zo (λ (a:Vl) (w:Wd)=>
 Sj e g b a R w) λ c=>
 Zn b false (
 L0 34 f R w λ j w=>
 opV Pg (build 34 #[(2,(.int .i64 5))]) (Zd R) w λ k w=>
 B0 .neq 34 false j k R w λ a w=>
 c a w) (
 c undef w)
def Sk (b:Vl) (a:WPr) (d:KW) (R:RT) (w:Wd):Prop:=
 qV Pg a (extract b 0) λ e=>
 qV Pg a (extract b 1) λ f=>
 opV Pg (alloc 34 true (.tuple #[])) (Zd R) w λ c w=>
 a w∧(
 S0 34 c e R w λ w=>
 a w∧(
 d c f w))
def Lc (b c:Vl) (a:WPr) (d:KW) (R:RT) (w:Wd):Prop:=
 a w∧(
 qV Pg a (extract c 0) λ e=>
 qV Pg a (extract c 1) λ f=>
 S0 34 b e R w λ w=>
 a w∧(
 d b f w))
def Ld (c d e:Vl) (a:WPr) (f:KW) (R:RT) (w:Wd):Prop:=
 (
 C0 14 #[c,d,e] R w λ b w=>
 a w∧(
 Sk b a f R w))∧(
 opV Pg (alloc 34 true (.tuple #[])) (Zd R) w λ g w=>
 a w∧(
 C0 14 #[c,d,e] R w λ b w=>
 Lc g b a f R w))
def Le (b c:Vl) (a:WPr) (d:KW) (R:RT) (w:Wd):Prop:=
 a w∧(
 qV Pg a (extract c 0) λ e=>
 qV Pg a (extract c 1) λ f=>
 S0 34 b e R w λ w=>
 a w∧(
 d b f w))
def EM (c d:Vl) (a:WPr) (e:KW) (R:RT) (w:Wd):Prop:=
 (
 C0 31 #[] R w λ b w=>
 a w∧(
 Ld c d b a e R w))∧(
 opV Pg (alloc 34 true (.tuple #[])) (Zd R) w λ f w=>
 a w∧(
 C0 31 #[] R w λ b w=>
 a w∧(
 C0 14 #[c,d,b] R w λ g w=>
 Le f g a e R w)))
def Lf (b c:Vl) (a:WPr) (d:KW) (R:RT) (w:Wd):Prop:=
 a w∧(
 qV Pg a (extract c 0) λ e=>
 qV Pg a (extract c 1) λ f=>
 S0 34 b e R w λ w=>
 a w∧(
 d b f w))
def Lg (b c:Vl) (a:WPr) (d:KW) (R:RT) (w:Wd):Prop:=
 C0 31 #[] R w λ e w=>
 a w∧(
 C0 31 #[] R w λ f w=>
 a w∧(
 C0 14 #[c,e,f] R w λ g w=>
 Lf b g a d R w))
def Lh (e f g:Vl) (a:WPr) (R:RT) (w:Wd):Prop:=
 I0 24 e a λ c=>
 Zo (λ (b:Vl) (h:Vl) (w:Wd)=>
 Lb f g b h R w) λ d=>
 (
 C0 31 #[] R w λ i w=>
 a w∧(
 EM c i a d R w))∧(
 opV Pg (alloc 34 true (.tuple #[])) (Zd R) w λ b w=>
 a w∧(
 Lg b c a d R w))
def Sl (b:Vl) (a:WPr) (d:KW) (R:RT) (w:Wd):Prop:=
 qV Pg a (extract b 0) λ e=>
 qV Pg a (extract b 1) λ f=>
 opV Pg (alloc 34 true (.tuple #[])) (Zd R) w λ c w=>
 a w∧(
 S0 34 c e R w λ w=>
 a w∧(
 d c f w))
def Li (b c:Vl) (a:WPr) (d:KW) (R:RT) (w:Wd):Prop:=
 a w∧(
 qV Pg a (extract c 0) λ e=>
 qV Pg a (extract c 1) λ f=>
 S0 34 b e R w λ w=>
 a w∧(
 d b f w))
def Lj (c d e:Vl) (a:WPr) (f:KW) (R:RT) (w:Wd):Prop:=
 (
 C0 14 #[c,d,e] R w λ b w=>
 a w∧(
 Sl b a f R w))∧(
 opV Pg (alloc 34 true (.tuple #[])) (Zd R) w λ g w=>
 a w∧(
 C0 14 #[c,d,e] R w λ b w=>
 Li g b a f R w))
def Lk (b c:Vl) (a:WPr) (d:KW) (R:RT) (w:Wd):Prop:=
 a w∧(
 qV Pg a (extract c 0) λ e=>
 qV Pg a (extract c 1) λ f=>
 S0 34 b e R w λ w=>
 a w∧(
 d b f w))
def EN (c d:Vl) (a:WPr) (e:KW) (R:RT) (w:Wd):Prop:=
 (
 C0 31 #[] R w λ b w=>
 a w∧(
 Lj c d b a e R w))∧(
 opV Pg (alloc 34 true (.tuple #[])) (Zd R) w λ f w=>
 a w∧(
 C0 31 #[] R w λ b w=>
 a w∧(
 C0 14 #[c,d,b] R w λ g w=>
 Lk f g a e R w)))
def Ll (b c:Vl) (a:WPr) (d:KW) (R:RT) (w:Wd):Prop:=
 a w∧(
 qV Pg a (extract c 0) λ e=>
 qV Pg a (extract c 1) λ f=>
 S0 34 b e R w λ w=>
 a w∧(
 d b f w))
def Lm (b c:Vl) (a:WPr) (d:KW) (R:RT) (w:Wd):Prop:=
 C0 31 #[] R w λ e w=>
 a w∧(
 C0 31 #[] R w λ f w=>
 a w∧(
 C0 14 #[c,e,f] R w λ g w=>
 Ll b g a d R w))
def Sm (e f:Vl) (a:WPr) (R:RT) (w:Wd):Prop:=
 I0 24 e a λ c=>
 Zo (λ (b:Vl) (g:Vl) (w:Wd)=>
 Yg w λ h w=>
 Lh f b g h R w) λ d=>
 (
 C0 31 #[] R w λ i w=>
 a w∧(
 EN c i a d R w))∧(
 opV Pg (alloc 34 true (.tuple #[])) (Zd R) w λ b w=>
 a w∧(
 Lm b c a d R w))
def Sn (b a:Vl) (R:RT) (w:Wd):Prop:=
 F0 24 a 1 R w λ c w=>
 L0 22 c R w λ d w=>
 opV Pg (indexAt 22 d (.int .i64 0)) (Zd R) w λ e w=>
 F0 60 e 2 R w λ f w=>
 L0 58 f R w λ g w=>
 opV Pg (build 43 #[(0,(.string { data := #[110] })),(1,(.int .i64 1)),(2,(.string { data := #[98] }))]) (Zd R) w λ h w=>
 opV Pg (indexAt 58 g (.int .i64 0)) (Zd R) w λ i w=>
 S0 43 i h R w λ w=>
 Yg w λ j w=>
 Sm b a j R w
def So (b c:Vl) (a:WPr) (R:RT) (w:Wd):Prop:=
 J0 24 b 1 a λ d=>
 I0 22 d a λ e=>
 J0 24 b 1 a λ f=>
 I0 22 f a λ g=>
 qV Pg a (indexAt 22 g (.int .i64 0)) λ h=>
 J0 60 h 2 a λ i=>
 I0 58 i a λ j=>
 qV Pg a (sliceAt 58 j none (some (.int .i64 1)) none) λ k=>
 qV Pg a (indexAt 22 e (.int .i64 0)) λ l=>
 J0 60 l 2 a λ m=>
 S0 58 m k R w λ w=>
 Ut w λ n w=>
 Sn b c R w
def Sp (c d:Vl) (R:RT) (w:Wd):Prop:=
 opV Pg (alloc 24 true (.tuple #[])) (Zd R) w λ a w=>
 opV Pg (alloc 24 true (.tuple #[])) (Zd R) w λ b w=>
 S0 24 a c R w λ w=>
 S0 24 b d R w λ w=>
 Yg w λ e w=>
 So a b e R w
def Sq (a b:Vl) (R:RT) (w:Wd):Prop:=
 Zy a (.bool true) b λ c=>
 Zs c (
 R (.returned (.bool false)) w) (
 C0 30 #[] R w λ d w=>
 C0 30 #[] R w λ e w=>
 Sp d e R w)
def Sr (a:Vl) (b:KV) (R:RT) (w:Wd):Prop:=
 C0 31 #[] R w λ c w=>
 C0 31 #[] R w λ d w=>
 C0 16 #[a,c,d] R w λ e w=>
 N0 e R w λ f w=>
 b f w
def Ss (c d:Vl) (R:RT) (w:Wd):Prop:=
 Zy c (.bool true) d λ a=>
 Zo (λ (e:Vl) (w:Wd)=>
 Sq a e R w) λ b=>
 Zn a false (
 C0 30 #[] R w λ f w=>
 Sr f b R w) (
 b undef w)
def St (b:Vl) (R:RT) (w:Wd):Prop:=
 E0q b 0 R w λ e w=>
 E0q b 1 R w λ f w=>
 opV Pg (ZF .neq 9 true e (.string { data := #[109,97,112,112,105,110,103,32,109,10,109,97,112,32,65,32,65,10,110,32,102,105,116,10,98,32,99,111,112,121,32,98,10,101,110,100,10] })) (Zd R) w λ c w=>
 Zo (λ (a:Vl) (w:Wd)=>
 Ss c a R w) λ d=>
 Zn c false (
 B0 .neq 49 true f (.int .i64 0) R w λ a w=>
 d a w) (
 d undef w)
def n56 (R:RT) (w:Wd):Prop:=
 C0 30 #[] R w λ a w=>
 C0 25 #[a] R w λ b w=>
 St b R w
set_option maxHeartbeats 40000000 in
theorem Zkv {R:RT} {w:Wd} (h:n56 R w):Calls Pg 12 #[] w R:=by
 refine yD func12 ?_
 refine zs<|zr<|zm<|zn<|zk<|zs<|zr<|yc h c30 λ _ w h=>yc h c25 λ _ w h=>zm<|yv h λ _ w h=>yv h λ _ w h=>zm<|zm<|zn ?_
 refine zk<|zs<|zs<|Zt<|yG 3<|zm<|yb h λ _ w h=>zm<|zn<|yg1 2 2 false [27,28] 28 h (λ _ T hT h=>?_) λ σ w h=>?_
 · refine zm<|yb h λ _ w h=>zn ?_
   exact zt hT h
 refine yG 2<|yp h λ _ h=>zm<|zn<|yg1 5 6 false [31,32,33,34,35] 35 h (λ _ T hT h=>?_) λ σ w h=>?_
 · refine yc h c30 λ _ w h=>yc h c31 λ _ w h=>yc h c31 λ _ w h=>yc h c16 λ _ w h=>yv h λ _ w h=>zn ?_
   exact zt hT h
 refine yG 1<|yp h λ _ h=>zn<|ZK<|zk<|yC h (λ h=>zs<|zr<|zm<|zn<|zk<|Zg<|Zb<|Zi rfl rfl h) λ h=>Zj<|zk<|zs<|zr<|yc h c30 λ _ w h=>yc h c30 λ _ w h=>yv h λ _ w h=>yv h λ _ w h=>?_
 refine yu h λ w h=>yu h λ w h=>zn<|zk<|zs<|yh [39,40,41,42,43,44,45,46,47,48] h λ C hC h=>ye 0 hC h λ _ h=>?_
 refine ye 1 hC h λ _ h=>?_
 refine ye 2 hC h λ _ h=>?_
 refine ye 3 hC h λ _ h=>?_
 refine ye 4 hC h λ _ h=>?_
 refine ye 5 hC h λ _ h=>?_
 refine ye 6 hC h λ _ h=>?_
 refine ye 7 hC h λ _ h=>?_
 refine ye 8 hC h λ _ h=>?_
 refine ye 9 hC h λ _ h=>?_
 refine yq 10 2 ?_
 refine yu h λ w h=>zn ?_
 obtain ⟨C4,hC,h⟩:=h
 refine ⟨C4,hC,?_⟩
 refine yz<|zk<|zs<|zr<|yv h λ _ w h=>yv h λ _ w h=>yv h λ _ w h=>yv h λ _ w h=>yv h λ _ w h=>yB h λ _ w h=>yv h λ _ w h=>yu h λ w h=>zn<|zk<|zs ?_
 refine yh [5,6,56,57,58,59,60,61,62] h λ C hC h=>ye 0 hC h λ _ h=>?_
 refine QH h (λ K6 hK h=>?_)
 refine Wo [5,6,56,58,59,60,61,62] (λ ρ w=>K6 (ρ 5) (ρ 6) w) (λ T hT=>?_) (λ σ w h=>?_)
 · obtain ⟨h0,h1⟩:=h
   refine Xm 1 7 rfl rfl (by kernel_rfl) (λ _ _=>rfl) (λ _ _=>rfl) ?_ ?_
   · have h:=h0
     refine yc h c31 λ _ w h=>zn ?_
     obtain ⟨hC,h⟩:=h
     refine ⟨_,λ _ h=>h,hC,?_⟩
     obtain ⟨h0,h1⟩:=h
     refine Xm 2 7 rfl rfl (by kernel_rfl) (λ _ _=>rfl) (λ _ _=>rfl) ?_ ?_
     · have h:=h0
       refine yc h c31 λ _ w h=>zn ?_
       obtain ⟨hC,h⟩:=h
       refine ⟨_,λ _ h=>h,hC,?_⟩
       obtain ⟨h0,h1⟩:=h
       refine Xm 3 7 rfl rfl (by kernel_rfl) (λ _ _=>rfl) (λ _ _=>rfl) ?_ ?_
       · have h:=h0
         refine yc h c14 λ _ w h=>zn ?_
         obtain ⟨hC,h⟩:=h
         refine ⟨_,λ _ h=>h,hC,?_⟩
         refine yw 4 hC ?_
         refine ye 5 hC h λ _ h=>?_
         refine ye 6 hC h λ _ h=>?_
         refine yo 7 ?_
         refine yv h λ _ w h=>zn ?_
         obtain ⟨hC,h⟩:=h
         refine ⟨hC,?_⟩
         refine yo 8 ?_
         refine yu h λ w h=>zn ?_
         obtain ⟨hC,h⟩:=h
         refine ⟨hC,?_⟩
         refine yw 9 hC ?_
         refine yz ?_
         exact zt hT h
       have h:=h1
       refine yv h λ _ w h=>zn ?_
       obtain ⟨hC,h⟩:=h
       refine ⟨_,λ _ h=>h,hC,?_⟩
       refine yo 3 ?_
       refine yc h c14 λ _ w h=>zn ?_
       obtain ⟨hC,h⟩:=h
       refine ⟨hC,?_⟩
       refine yw 4 hC ?_
       refine ye 5 hC h λ _ h=>?_
       refine ye 6 hC h λ _ h=>?_
       refine yo 8 ?_
       refine yu h λ w h=>zn ?_
       obtain ⟨hC,h⟩:=h
       refine ⟨hC,?_⟩
       refine yw 9 hC ?_
       refine yz ?_
       exact zt hT h
     have h:=h1
     refine yv h λ _ w h=>zn ?_
     obtain ⟨hC,h⟩:=h
     refine ⟨_,λ _ h=>h,hC,?_⟩
     refine yo 2 ?_
     refine yc h c31 λ _ w h=>zn ?_
     obtain ⟨hC,h⟩:=h
     refine ⟨hC,?_⟩
     refine yo 3 ?_
     refine yc h c14 λ _ w h=>zn ?_
     obtain ⟨hC,h⟩:=h
     refine ⟨hC,?_⟩
     refine yw 4 hC ?_
     refine ye 5 hC h λ _ h=>?_
     refine ye 6 hC h λ _ h=>?_
     refine yo 8 ?_
     refine yu h λ w h=>zn ?_
     obtain ⟨hC,h⟩:=h
     refine ⟨hC,?_⟩
     refine yw 9 hC ?_
     refine yz ?_
     exact zt hT h
   have h:=h1
   refine yv h λ _ w h=>zn ?_
   obtain ⟨hC,h⟩:=h
   refine ⟨_,λ _ h=>h,hC,?_⟩
   refine yo 1 ?_
   refine yc h c31 λ _ w h=>zn ?_
   obtain ⟨hC,h⟩:=h
   refine ⟨hC,?_⟩
   refine yo 2 ?_
   refine yc h c31 λ _ w h=>zn ?_
   obtain ⟨hC,h⟩:=h
   refine ⟨hC,?_⟩
   refine yo 3 ?_
   refine yc h c14 λ _ w h=>zn ?_
   obtain ⟨hC,h⟩:=h
   refine ⟨hC,?_⟩
   refine yw 4 hC ?_
   refine ye 5 hC h λ _ h=>?_
   refine ye 6 hC h λ _ h=>?_
   refine yo 8 ?_
   refine yu h λ w h=>zn ?_
   obtain ⟨hC,h⟩:=h
   refine ⟨hC,?_⟩
   refine yw 9 hC ?_
   refine yz ?_
   exact zt hT h
 subst hK
 refine zk<|zs<|yh [7,8,63,64,65,66,67,68,69] h λ C hC h=>ye 0 hC h λ _ h=>?_
 refine QH h (λ K8 hK h=>?_)
 refine Wo [7,8,63,65,66,67,68,69] (λ ρ w=>K8 (ρ 7) (ρ 8) w) (λ T hT=>?_) (λ σ w h=>?_)
 · obtain ⟨h0,h1⟩:=h
   refine Xm 1 7 rfl rfl (by kernel_rfl) (λ _ _=>rfl) (λ _ _=>rfl) ?_ ?_
   · have h:=h0
     refine yc h c31 λ _ w h=>zn ?_
     obtain ⟨hC,h⟩:=h
     refine ⟨_,λ _ h=>h,hC,?_⟩
     obtain ⟨h0,h1⟩:=h
     refine Xm 2 7 rfl rfl (by kernel_rfl) (λ _ _=>rfl) (λ _ _=>rfl) ?_ ?_
     · have h:=h0
       refine yc h c31 λ _ w h=>zn ?_
       obtain ⟨hC,h⟩:=h
       refine ⟨_,λ _ h=>h,hC,?_⟩
       obtain ⟨h0,h1⟩:=h
       refine Xm 3 7 rfl rfl (by kernel_rfl) (λ _ _=>rfl) (λ _ _=>rfl) ?_ ?_
       · have h:=h0
         refine yc h c14 λ _ w h=>zn ?_
         obtain ⟨hC,h⟩:=h
         refine ⟨_,λ _ h=>h,hC,?_⟩
         refine yw 4 hC ?_
         refine ye 5 hC h λ _ h=>?_
         refine ye 6 hC h λ _ h=>?_
         refine yo 7 ?_
         refine yv h λ _ w h=>zn ?_
         obtain ⟨hC,h⟩:=h
         refine ⟨hC,?_⟩
         refine yo 8 ?_
         refine yu h λ w h=>zn ?_
         obtain ⟨hC,h⟩:=h
         refine ⟨hC,?_⟩
         refine yw 9 hC ?_
         refine yz ?_
         exact zt hT h
       have h:=h1
       refine yv h λ _ w h=>zn ?_
       obtain ⟨hC,h⟩:=h
       refine ⟨_,λ _ h=>h,hC,?_⟩
       refine yo 3 ?_
       refine yc h c14 λ _ w h=>zn ?_
       obtain ⟨hC,h⟩:=h
       refine ⟨hC,?_⟩
       refine yw 4 hC ?_
       refine ye 5 hC h λ _ h=>?_
       refine ye 6 hC h λ _ h=>?_
       refine yo 8 ?_
       refine yu h λ w h=>zn ?_
       obtain ⟨hC,h⟩:=h
       refine ⟨hC,?_⟩
       refine yw 9 hC ?_
       refine yz ?_
       exact zt hT h
     have h:=h1
     refine yv h λ _ w h=>zn ?_
     obtain ⟨hC,h⟩:=h
     refine ⟨_,λ _ h=>h,hC,?_⟩
     refine yo 2 ?_
     refine yc h c31 λ _ w h=>zn ?_
     obtain ⟨hC,h⟩:=h
     refine ⟨hC,?_⟩
     refine yo 3 ?_
     refine yc h c14 λ _ w h=>zn ?_
     obtain ⟨hC,h⟩:=h
     refine ⟨hC,?_⟩
     refine yw 4 hC ?_
     refine ye 5 hC h λ _ h=>?_
     refine ye 6 hC h λ _ h=>?_
     refine yo 8 ?_
     refine yu h λ w h=>zn ?_
     obtain ⟨hC,h⟩:=h
     refine ⟨hC,?_⟩
     refine yw 9 hC ?_
     refine yz ?_
     exact zt hT h
   have h:=h1
   refine yv h λ _ w h=>zn ?_
   obtain ⟨hC,h⟩:=h
   refine ⟨_,λ _ h=>h,hC,?_⟩
   refine yo 1 ?_
   refine yc h c31 λ _ w h=>zn ?_
   obtain ⟨hC,h⟩:=h
   refine ⟨hC,?_⟩
   refine yo 2 ?_
   refine yc h c31 λ _ w h=>zn ?_
   obtain ⟨hC,h⟩:=h
   refine ⟨hC,?_⟩
   refine yo 3 ?_
   refine yc h c14 λ _ w h=>zn ?_
   obtain ⟨hC,h⟩:=h
   refine ⟨hC,?_⟩
   refine yw 4 hC ?_
   refine ye 5 hC h λ _ h=>?_
   refine ye 6 hC h λ _ h=>?_
   refine yo 8 ?_
   refine yu h λ w h=>zn ?_
   obtain ⟨hC,h⟩:=h
   refine ⟨hC,?_⟩
   refine yw 9 hC ?_
   refine yz ?_
   exact zt hT h
 subst hK
 refine zk<|zs<|zs<|Zt<|yG 4<|yv h λ _ w h=>yB h λ _ w h=>yb h λ _ w h=>zm<|zn<|yg1 3 3 false [74,75,76] 76 h (λ _ T hT h=>?_) λ σ w h=>?_
 · refine yv h λ _ w h=>yB h λ _ w h=>yb h λ _ w h=>zn ?_
   exact zt hT h
 refine yG 2<|yp h λ _ h=>zm<|zn<|yg1 2 8 false [79,80] 80 h (λ _ T hT h=>?_) λ σ w h=>?_
 · refine zm<|yv h λ _ w h=>zn ?_
   exact zt hT h
 refine yG 2<|yp h λ _ h=>zm<|zn<|yg1 2 12 false [83,84] 84 h (λ _ T hT h=>?_) λ σ w h=>?_
 · refine zm<|yv h λ _ w h=>zn ?_
   exact zt hT h
 refine yG 1<|yp h λ _ h=>zn<|ZK<|zk<|yC h (λ h=>zs<|zr<|zm<|zn<|zk<|Zg<|Zb<|Zi rfl rfl h) λ h=>Zj<|zk<|zs<|zr<|yB h λ _ w h=>yS h λ _ w h=>yB h λ _ w h=>yv h λ _ w h=>?_
 refine yu h λ w h=>zn<|zk<|zs<|zr<|yB h λ _ w h=>yc h c18 λ _ w h=>zm<|yv h λ _ w h=>yv h λ _ w h=>zm<|zm<|zn<|zk<|zs ?_
 refine zr<|yv h λ _ w h=>yc h c18 λ _ w h=>zm<|yv h λ _ w h=>yv h λ _ w h=>zm<|zm<|zn<|zk<|zs<|zr<|yv h λ _ w h=>yc h c18 λ _ w h=>zm ?_
 refine yv h λ _ w h=>yv h λ _ w h=>zm<|zm<|zn<|zk<|zs<|zr<|yc h c22 λ _ w h=>zm<|yv h λ _ w h=>yv h λ _ w h=>yv h λ _ w h=>yv h λ _ w h=>yu h λ w h=>?_
 refine zm<|zm<|zn<|zk<|zs<|Zt<|yG 3<|zm<|yb h λ _ w h=>zm<|zn<|yg1 1 2 true [112] 112 h (λ _ T hT h=>?_) λ σ w h=>?_
 · refine zm<|zn ?_
   exact zt hT h
 refine yG 2<|yp h λ _ h=>zm<|zn<|yg1 2 5 true [115,116] 116 h (λ _ T hT h=>?_) λ σ w h=>?_
 · refine zm<|yb h λ _ w h=>zn ?_
   exact zt hT h
 refine yG 2<|yp h λ _ h=>zm<|zn<|yg1 1 9 true [119] 119 h (λ _ T hT h=>?_) λ σ w h=>?_
 · refine zm<|zn ?_
   exact zt hT h
 refine yG 2<|yp h λ _ h=>zm<|zn<|yg1 2 12 true [122,123] 123 h (λ _ T hT h=>?_) λ σ w h=>?_
 · refine zm<|yv h λ _ w h=>zn ?_
   exact zt hT h
 refine yG 2<|yp h λ _ h=>zm<|zn<|yg1 2 16 true [126,127] 127 h (λ _ T hT h=>?_) λ σ w h=>?_
 · refine zm<|yb h λ _ w h=>zn ?_
   exact zt hT h
 refine yG 2<|yp h λ _ h=>zm<|zn<|yg1 2 20 true [130,131] 131 h (λ _ T hT h=>?_) λ σ w h=>?_
 · refine zm<|yb h λ _ w h=>zn ?_
   exact zt hT h
 exact yG 2<|yp h λ _ h=>zm<|zn<|ZK<|zk<|Zg<|Zi rfl rfl h
theorem ZaG:JW Kr = .tuple #[.string ⟨#[109,97,112,112,105,110,103,32,109,10,109,97,112,32,65,32,65,10,110,32,102,105,116,10,98,32,99,111,112,121,32,98,10,101,110,100,10]⟩,.int .i64 0]:=by
 unfold JW
 rw [ZdZ,Zd0]
 rfl
theorem PK:Yi 10 (⟨#[109,97,112,112,105,110,103,32,109,10,109,97,112,32,65]⟩:BAr).data.toList=[[109,97,112,112,105,110,103,32,109],[109,97,112,32,65]]:=ZbB
theorem flV (a f c:Int):EB (some (a,f,c)) = .tuple #[.agg #[.int .i64 a,.int .i64 f,.int .i64 c],.bool true]:=rfl
def FlR (D w:Wd) (p:Nat) (a f c:Int):Prop:=Ext D w∧w.heap[p]?=some (.cells #[.int .i64 a,.int .i64 f,.int .i64 c] 34 (0,0))
section
variable {D w:Wd} {a f c:Int} {K:KW} {R:RT}
theorem Zd3 {w1:Wd} {p:Nat} (e1:Ext D w1) (hp:D.heap.size≤p) (o1:w1.heap[p]?=some (.cells #[.int .i64 0,.int .i64 0,.int .i64 0] 34 (0,0))) (hK:∀ w' p,FlR D w' p a f c→K (.pointer (some ⟨p,0,none⟩)) (.bool true) w'):Li (.pointer (some ⟨p,0,none⟩)) (EB (some (a,f,c))) (EC D) K R w1:=by
 rw [flV]
 unfold Li
 simp (disch:=try exact DI) only [↓PR,QR,simprocAttr,(Za o1).1,(Za o1).2]
 have e3:Ext D (((w1.setCell ⟨p,0,none⟩ (.int .i64 a)).setCell ⟨p,1,none⟩ (.int .i64 f)).setCell ⟨p,2,none⟩ (.int .i64 c)):=((e1.setCell (p:=⟨p,0,none⟩) hp _).setCell (p:=⟨p,1,none⟩) hp _).setCell (p:=⟨p,2,none⟩) hp _
 exact ⟨e1,e3,hK _ _ ⟨e3,Zw (o:=2) (Zw (o:=1) (Zw (o:=0) o1 (.int .i64 a)) (.int .i64 f)) (.int .i64 c)⟩⟩
theorem Zd4 {w1:Wd} {p:Nat} (e1:Ext D w1) (hp:D.heap.size≤p) (o1:w1.heap[p]?=some (.cells #[.int .i64 0,.int .i64 0,.int .i64 0] 34 (0,0))) (hK:∀ w' p,FlR D w' p a f c→K (.pointer (some ⟨p,0,none⟩)) (.bool true) w'):Lk (.pointer (some ⟨p,0,none⟩)) (EB (some (a,f,c))) (EC D) K R w1:=by
 rw [flV]
 unfold Lk
 simp (disch:=try exact DI) only [↓PR,QR,simprocAttr,(Za o1).1,(Za o1).2]
 have e3:Ext D (((w1.setCell ⟨p,0,none⟩ (.int .i64 a)).setCell ⟨p,1,none⟩ (.int .i64 f)).setCell ⟨p,2,none⟩ (.int .i64 c)):=((e1.setCell (p:=⟨p,0,none⟩) hp _).setCell (p:=⟨p,1,none⟩) hp _).setCell (p:=⟨p,2,none⟩) hp _
 exact ⟨e1,e3,hK _ _ ⟨e3,Zw (o:=2) (Zw (o:=1) (Zw (o:=0) o1 (.int .i64 a)) (.int .i64 f)) (.int .i64 c)⟩⟩
theorem Zd5 {w1:Wd} {p:Nat} (e1:Ext D w1) (hp:D.heap.size≤p) (o1:w1.heap[p]?=some (.cells #[.int .i64 0,.int .i64 0,.int .i64 0] 34 (0,0))) (hK:∀ w' p,FlR D w' p a f c→K (.pointer (some ⟨p,0,none⟩)) (.bool true) w'):Ll (.pointer (some ⟨p,0,none⟩)) (EB (some (a,f,c))) (EC D) K R w1:=by
 rw [flV]
 unfold Ll
 simp (disch:=try exact DI) only [↓PR,QR,simprocAttr,(Za o1).1,(Za o1).2]
 have e3:Ext D (((w1.setCell ⟨p,0,none⟩ (.int .i64 a)).setCell ⟨p,1,none⟩ (.int .i64 f)).setCell ⟨p,2,none⟩ (.int .i64 c)):=((e1.setCell (p:=⟨p,0,none⟩) hp _).setCell (p:=⟨p,1,none⟩) hp _).setCell (p:=⟨p,2,none⟩) hp _
 exact ⟨e1,e3,hK _ _ ⟨e3,Zw (o:=2) (Zw (o:=1) (Zw (o:=0) o1 (.int .i64 a)) (.int .i64 f)) (.int .i64 c)⟩⟩
theorem Zfh {v1 v2 v3:Vl} {m:Yo} (e:Ext D w) (h1:YO w v1 m) (h2:Xk w v2 Yh) (h3:Xk w v3 Yh) (hin:∀ r∈m.rules,∀ x∈r.fields,inF x=true) (hm:KK m Yh Yh=some (a,f,c)) (hK:∀ w' p,FlR D w' p a f c→K (.pointer (some ⟨p,0,none⟩)) (.bool true) w') :
 Lj v1 v2 v3 (EC D) K R w:=by
 unfold Lj
 constructor
 · refine zcr (Qj w _ _ _ m Yh Yh h1 h2 h3 hin) λ w1 e1=>?_
   refine ⟨e.trans e1,?_⟩
   rw [hm,flV]
   unfold Sl
   simp (disch:=try exact DI) only [↓PR,QR,simprocAttr]
   have oV:=Zv w1 #[.int .i64 a,.int .i64 f,.int .i64 c] 34
   have e3:=e.trans e1
   exact ⟨e3.alloc _,e3.alloc _,hK _ _ ⟨e3.alloc _,oV⟩⟩
 · 
   simp (disch:=try exact DI) only [↓PR,QR,simprocAttr]
   have oV:=Zv w #[.int .i64 0,.int .i64 0,.int .i64 0] 34
   have eV:Ext w (w.alloc (.cells #[.int .i64 0,.int .i64 0,.int .i64 0] 34)):=(Ext.refl w).alloc _
   generalize (w.alloc (.cells #[.int .i64 0,.int .i64 0,.int .i64 0] 34))=V at oV eV ⊢
   refine ⟨e.trans eV,?_⟩
   refine zcr (Qj V _ _ _ m Yh Yh (h1.ext eV) (h2.ext eV) (h3.ext eV) hin) λ w1 e1=>?_
   rw [hm]
   exact Zd3 (e.trans (eV.trans e1)) e.size (e1.obj oV) hK
theorem Zm8 {v1 v2:Vl} {m:Yo} (e:Ext D w) (h1:YO w v1 m) (h2:Xk w v2 Yh) (hin:∀ r∈m.rules,∀ x∈r.fields,inF x=true) (hm:KK m Yh Yh=some (a,f,c)) (hK:∀ w' p,FlR D w' p a f c→K (.pointer (some ⟨p,0,none⟩)) (.bool true) w') :
 EN v1 v2 (EC D) K R w:=by
 unfold EN
 constructor
 · refine Zk (Xt w) ?_
   rintro v3 w1 ⟨h3,e1⟩
   exact ⟨e.trans e1,Zfh (e.trans e1) (h1.ext e1) (h2.ext e1) h3 hin hm hK⟩
 · 
   simp (disch:=try exact DI) only [↓PR,QR,simprocAttr]
   have oV:=Zv w #[.int .i64 0,.int .i64 0,.int .i64 0] 34
   have eV:Ext w (w.alloc (.cells #[.int .i64 0,.int .i64 0,.int .i64 0] 34)):=(Ext.refl w).alloc _
   generalize (w.alloc (.cells #[.int .i64 0,.int .i64 0,.int .i64 0] 34))=V at oV eV ⊢
   refine ⟨e.trans eV,?_⟩
   refine Zk (Xt V) ?_
   rintro v3 w2 ⟨h3,e2⟩
   refine ⟨e.trans (eV.trans e2),?_⟩
   have e02:=eV.trans e2
   refine zcr (Qj w2 _ _ _ m Yh Yh (h1.ext e02) (h2.ext e02) h3 hin) λ w1 e1=>?_
   rw [hm]
   exact Zd4 (e.trans (e02.trans e1)) e.size (e1.obj (e2.obj oV)) hK
theorem Zig {v1:Vl} {m:Yo} (e:Ext D w) (h1:YO w v1 m) (hin:∀ r∈m.rules,∀ x∈r.fields,inF x=true) (hm:KK m Yh Yh=some (a,f,c)) (hK:∀ w' p,FlR D w' p a f c→K (.pointer (some ⟨p,0,none⟩)) (.bool true) w') :
 ZV Pg 31 #[] (Zd R) w λ t58 w=>EC D w∧EN v1 t58 (EC D) K R w:=by
 refine Zk (Xt w) ?_
 rintro v2 w1 ⟨h2,e1⟩
 exact ⟨e.trans e1,Zm8 (e.trans e1) (h1.ext e1) h2 hin hm hK⟩
theorem Zih {v1:Vl} {m:Yo} (e:Ext D w) (h1:YO w v1 m) (hin:∀ r∈m.rules,∀ x∈r.fields,inF x=true) (hm:KK m Yh Yh=some (a,f,c)) (hK:∀ w' p,FlR D w' p a f c→K (.pointer (some ⟨p,0,none⟩)) (.bool true) w') :
 EC D (w.alloc (.cells #[.int .i64 0,.int .i64 0,.int .i64 0] 34))∧Lm (.pointer (some ⟨w.heap.size,0,none⟩)) v1 (EC D) K R (w.alloc (.cells #[.int .i64 0,.int .i64 0,.int .i64 0] 34)):=by
 have oV:=Zv w #[.int .i64 0,.int .i64 0,.int .i64 0] 34
 have eV:Ext w (w.alloc (.cells #[.int .i64 0,.int .i64 0,.int .i64 0] 34)):=(Ext.refl w).alloc _
 generalize (w.alloc (.cells #[.int .i64 0,.int .i64 0,.int .i64 0] 34))=V at oV eV ⊢
 refine ⟨e.trans eV,?_⟩
 unfold Lm
 refine Zk (Xt V) ?_
 rintro v2 w2 ⟨h2,e2⟩
 refine ⟨e.trans (eV.trans e2),?_⟩
 refine Zk (Xt w2) ?_
 rintro v3 w3 ⟨h3,e3⟩
 have e03:=eV.trans (e2.trans e3)
 refine ⟨e.trans e03,?_⟩
 refine zcr (Qj w3 _ _ _ m Yh Yh (h1.ext e03) (h2.ext e3) h3 hin) λ w1 e1=>?_
 rw [hm]
 exact Zd5 (e.trans (e03.trans e1)) e.size (e1.obj (e3.obj (e2.obj oV))) hK
theorem Zd6 {w1:Wd} {p:Nat} (e1:Ext D w1) (hp:D.heap.size≤p) (o1:w1.heap[p]?=some (.cells #[.int .i64 0,.int .i64 0,.int .i64 0] 34 (0,0))) (hK:∀ w' p,FlR D w' p a f c→K (.pointer (some ⟨p,0,none⟩)) (.bool true) w'):Lc (.pointer (some ⟨p,0,none⟩)) (EB (some (a,f,c))) (EC D) K R w1:=by
 rw [flV]
 unfold Lc
 simp (disch:=try exact DI) only [↓PR,QR,simprocAttr,(Za o1).1,(Za o1).2]
 have e3:Ext D (((w1.setCell ⟨p,0,none⟩ (.int .i64 a)).setCell ⟨p,1,none⟩ (.int .i64 f)).setCell ⟨p,2,none⟩ (.int .i64 c)):=((e1.setCell (p:=⟨p,0,none⟩) hp _).setCell (p:=⟨p,1,none⟩) hp _).setCell (p:=⟨p,2,none⟩) hp _
 exact ⟨e1,e3,hK _ _ ⟨e3,Zw (o:=2) (Zw (o:=1) (Zw (o:=0) o1 (.int .i64 a)) (.int .i64 f)) (.int .i64 c)⟩⟩
theorem Zd7 {w1:Wd} {p:Nat} (e1:Ext D w1) (hp:D.heap.size≤p) (o1:w1.heap[p]?=some (.cells #[.int .i64 0,.int .i64 0,.int .i64 0] 34 (0,0))) (hK:∀ w' p,FlR D w' p a f c→K (.pointer (some ⟨p,0,none⟩)) (.bool true) w'):Le (.pointer (some ⟨p,0,none⟩)) (EB (some (a,f,c))) (EC D) K R w1:=by
 rw [flV]
 unfold Le
 simp (disch:=try exact DI) only [↓PR,QR,simprocAttr,(Za o1).1,(Za o1).2]
 have e3:Ext D (((w1.setCell ⟨p,0,none⟩ (.int .i64 a)).setCell ⟨p,1,none⟩ (.int .i64 f)).setCell ⟨p,2,none⟩ (.int .i64 c)):=((e1.setCell (p:=⟨p,0,none⟩) hp _).setCell (p:=⟨p,1,none⟩) hp _).setCell (p:=⟨p,2,none⟩) hp _
 exact ⟨e1,e3,hK _ _ ⟨e3,Zw (o:=2) (Zw (o:=1) (Zw (o:=0) o1 (.int .i64 a)) (.int .i64 f)) (.int .i64 c)⟩⟩
theorem Zd8 {w1:Wd} {p:Nat} (e1:Ext D w1) (hp:D.heap.size≤p) (o1:w1.heap[p]?=some (.cells #[.int .i64 0,.int .i64 0,.int .i64 0] 34 (0,0))) (hK:∀ w' p,FlR D w' p a f c→K (.pointer (some ⟨p,0,none⟩)) (.bool true) w'):Lf (.pointer (some ⟨p,0,none⟩)) (EB (some (a,f,c))) (EC D) K R w1:=by
 rw [flV]
 unfold Lf
 simp (disch:=try exact DI) only [↓PR,QR,simprocAttr,(Za o1).1,(Za o1).2]
 have e3:Ext D (((w1.setCell ⟨p,0,none⟩ (.int .i64 a)).setCell ⟨p,1,none⟩ (.int .i64 f)).setCell ⟨p,2,none⟩ (.int .i64 c)):=((e1.setCell (p:=⟨p,0,none⟩) hp _).setCell (p:=⟨p,1,none⟩) hp _).setCell (p:=⟨p,2,none⟩) hp _
 exact ⟨e1,e3,hK _ _ ⟨e3,Zw (o:=2) (Zw (o:=1) (Zw (o:=0) o1 (.int .i64 a)) (.int .i64 f)) (.int .i64 c)⟩⟩
theorem Zfi {v1 v2 v3:Vl} {m:Yo} (e:Ext D w) (h1:YO w v1 m) (h2:Xk w v2 Yh) (h3:Xk w v3 Yh) (hin:∀ r∈m.rules,∀ x∈r.fields,inF x=true) (hm:KK m Yh Yh=some (a,f,c)) (hK:∀ w' p,FlR D w' p a f c→K (.pointer (some ⟨p,0,none⟩)) (.bool true) w') :
 Ld v1 v2 v3 (EC D) K R w:=by
 unfold Ld
 constructor
 · refine zcr (Qj w _ _ _ m Yh Yh h1 h2 h3 hin) λ w1 e1=>?_
   refine ⟨e.trans e1,?_⟩
   rw [hm,flV]
   unfold Sk
   simp (disch:=try exact DI) only [↓PR,QR,simprocAttr]
   have oV:=Zv w1 #[.int .i64 a,.int .i64 f,.int .i64 c] 34
   have e3:=e.trans e1
   exact ⟨e3.alloc _,e3.alloc _,hK _ _ ⟨e3.alloc _,oV⟩⟩
 · 
   simp (disch:=try exact DI) only [↓PR,QR,simprocAttr]
   have oV:=Zv w #[.int .i64 0,.int .i64 0,.int .i64 0] 34
   have eV:Ext w (w.alloc (.cells #[.int .i64 0,.int .i64 0,.int .i64 0] 34)):=(Ext.refl w).alloc _
   generalize (w.alloc (.cells #[.int .i64 0,.int .i64 0,.int .i64 0] 34))=V at oV eV ⊢
   refine ⟨e.trans eV,?_⟩
   refine zcr (Qj V _ _ _ m Yh Yh (h1.ext eV) (h2.ext eV) (h3.ext eV) hin) λ w1 e1=>?_
   rw [hm]
   exact Zd6 (e.trans (eV.trans e1)) e.size (e1.obj oV) hK
theorem Zm9 {v1 v2:Vl} {m:Yo} (e:Ext D w) (h1:YO w v1 m) (h2:Xk w v2 Yh) (hin:∀ r∈m.rules,∀ x∈r.fields,inF x=true) (hm:KK m Yh Yh=some (a,f,c)) (hK:∀ w' p,FlR D w' p a f c→K (.pointer (some ⟨p,0,none⟩)) (.bool true) w') :
 EM v1 v2 (EC D) K R w:=by
 unfold EM
 constructor
 · refine Zk (Xt w) ?_
   rintro v3 w1 ⟨h3,e1⟩
   exact ⟨e.trans e1,Zfi (e.trans e1) (h1.ext e1) (h2.ext e1) h3 hin hm hK⟩
 · 
   simp (disch:=try exact DI) only [↓PR,QR,simprocAttr]
   have oV:=Zv w #[.int .i64 0,.int .i64 0,.int .i64 0] 34
   have eV:Ext w (w.alloc (.cells #[.int .i64 0,.int .i64 0,.int .i64 0] 34)):=(Ext.refl w).alloc _
   generalize (w.alloc (.cells #[.int .i64 0,.int .i64 0,.int .i64 0] 34))=V at oV eV ⊢
   refine ⟨e.trans eV,?_⟩
   refine Zk (Xt V) ?_
   rintro v3 w2 ⟨h3,e2⟩
   refine ⟨e.trans (eV.trans e2),?_⟩
   have e02:=eV.trans e2
   refine zcr (Qj w2 _ _ _ m Yh Yh (h1.ext e02) (h2.ext e02) h3 hin) λ w1 e1=>?_
   rw [hm]
   exact Zd7 (e.trans (e02.trans e1)) e.size (e1.obj (e2.obj oV)) hK
theorem Zii {v1:Vl} {m:Yo} (e:Ext D w) (h1:YO w v1 m) (hin:∀ r∈m.rules,∀ x∈r.fields,inF x=true) (hm:KK m Yh Yh=some (a,f,c)) (hK:∀ w' p,FlR D w' p a f c→K (.pointer (some ⟨p,0,none⟩)) (.bool true) w') :
 ZV Pg 31 #[] (Zd R) w λ t58 w=>EC D w∧EM v1 t58 (EC D) K R w:=by
 refine Zk (Xt w) ?_
 rintro v2 w1 ⟨h2,e1⟩
 exact ⟨e.trans e1,Zm9 (e.trans e1) (h1.ext e1) h2 hin hm hK⟩
theorem Zij {v1:Vl} {m:Yo} (e:Ext D w) (h1:YO w v1 m) (hin:∀ r∈m.rules,∀ x∈r.fields,inF x=true) (hm:KK m Yh Yh=some (a,f,c)) (hK:∀ w' p,FlR D w' p a f c→K (.pointer (some ⟨p,0,none⟩)) (.bool true) w') :
 EC D (w.alloc (.cells #[.int .i64 0,.int .i64 0,.int .i64 0] 34))∧Lg (.pointer (some ⟨w.heap.size,0,none⟩)) v1 (EC D) K R (w.alloc (.cells #[.int .i64 0,.int .i64 0,.int .i64 0] 34)):=by
 have oV:=Zv w #[.int .i64 0,.int .i64 0,.int .i64 0] 34
 have eV:Ext w (w.alloc (.cells #[.int .i64 0,.int .i64 0,.int .i64 0] 34)):=(Ext.refl w).alloc _
 generalize (w.alloc (.cells #[.int .i64 0,.int .i64 0,.int .i64 0] 34))=V at oV eV ⊢
 refine ⟨e.trans eV,?_⟩
 unfold Lg
 refine Zk (Xt V) ?_
 rintro v2 w2 ⟨h2,e2⟩
 refine ⟨e.trans (eV.trans e2),?_⟩
 refine Zk (Xt w2) ?_
 rintro v3 w3 ⟨h3,e3⟩
 have e03:=eV.trans (e2.trans e3)
 refine ⟨e.trans e03,?_⟩
 refine zcr (Qj w3 _ _ _ m Yh Yh (h1.ext e03) (h2.ext e3) h3 hin) λ w1 e1=>?_
 rw [hm]
 exact Zd8 (e.trans (e03.trans e1)) e.size (e1.obj (e3.obj (e2.obj oV))) hK
end
theorem Zd2 (w0:Wd) (hE:Vf w0):Ret Pg 12 #[] w0 λ r w'=>r = .bool true∧Ext w0 w':=by
 refine Zkv (R:=ZI _) ?_;unfold n56
 refine Zk (Gs w0) ?_
 rintro v1 w1 ⟨_,_,hP1⟩
 refine zcr (G4 w1 (hE.ext hP1.e) v1 Kr hP1.val (ZaD _ (by simp)) ZjQ) λ w2 e2=>?_
 rw [ZaG]
 have E2:=hP1.e.trans e2
 clear hP1 e2
 unfold St Zo
 simp (disch:=try exact DI) only [↓PR,QR,simprocAttr]
 unfold Ss Zo
 simp (disch:=try exact DI) only [↓PR,QR,simprocAttr]
 refine Zk (Gs w2) ?_
 rintro v3 w3 ⟨_,_,hP3⟩
 unfold Sr
 refine Zk (Xt w3) ?_
 rintro v4 w4 ⟨hD4,e4⟩
 refine Zk (Xt w4) ?_
 rintro v5 w5 ⟨hD5,e5⟩
 refine zcr (AJ w5 _ _ _ Kr Yh Yh (hP3.val.ext (e4.trans e5)) (hD4.ext e5) hD5 (ZaD _ (by simp))) λ w6 e6=>?_
 rw [ZaF]
 have E6:=E2.trans (hP3.e.trans (e4.trans (e5.trans e6)))
 clear hP3 hD4 hD5 e4 e5 e6 E2
 simp (disch:=try exact DI) only [↓PR,QR,simprocAttr]
 unfold Sq
 simp (disch:=try exact DI) only [↓PR,QR,simprocAttr]
 refine Zk (Gs w6) ?_
 rintro v7 w7 ⟨bF1,bM1,hP7⟩
 refine Zk (Gs w7) ?_
 rintro v8 w8 ⟨bF2,bM2,hP8⟩
 unfold Sp
 rw [hP7.v,hP8.v]
 simp (disch:=try exact DI) only [↓PR,QR,simprocAttr]
 have a1:=Zv w8 #[.string ⟨#[109]⟩,.slice (some ⟨bM1,0,none⟩) 1 1] 24
 have ea:Ext w8 (w8.alloc (.cells #[.string ⟨#[109]⟩,.slice (some ⟨bM1,0,none⟩) 1 1] 24)):=(Ext.refl w8).alloc _
 have sa:(w8.alloc (.cells (Value.agg #[.string ByteArray.empty,.slice none 0 0]).cells 24)).heap.size=w8.heap.size+1:=World.size_alloc ..
 have sa':(w8.alloc (.cells #[.string ⟨#[109]⟩,.slice (some ⟨bM1,0,none⟩) 1 1] 24)).heap.size=w8.heap.size+1:=World.size_alloc ..
 rw [sa]
 generalize (w8.alloc (.cells #[.string ⟨#[109]⟩,.slice (some ⟨bM1,0,none⟩) 1 1] 24))=A at a1 ea sa' ⊢
 have a2:=Zv A #[.string ⟨#[109]⟩,.slice (some ⟨bM2,0,none⟩) 1 1] 24
 have eb:Ext A (A.alloc (.cells #[.string ⟨#[109]⟩,.slice (some ⟨bM2,0,none⟩) 1 1] 24)):=(Ext.refl A).alloc _
 rw [sa'] at a2
 generalize (A.alloc (.cells #[.string ⟨#[109]⟩,.slice (some ⟨bM2,0,none⟩) 1 1] 24))=B at a2 eb ⊢
 refine ZE ?_
 have eD:Ext B (drew B):=(Ext.refl B).drew
 generalize (drew B)=D at eD ⊢
 have l8:=hP8.e.size
 have l7:=hP7.e.size
 have lF1:=hP7.lF
 have lM1:=hP7.lM
 have lF2:=hP8.lF
 have lM2:=hP8.lM
 have nF1:=(Array.getElem?_eq_some_iff.1 hP7.oF).1
 have nM1:=(Array.getElem?_eq_some_iff.1 hP7.oM).1
 have nF2:=(Array.getElem?_eq_some_iff.1 hP8.oF).1
 have nM2:=(Array.getElem?_eq_some_iff.1 hP8.oM).1
 have nn1:=hP7.ne
 have nn2:=hP8.ne
 have eBD:=(ea.trans eb).trans eD
 have o3:=(eb.trans eD).obj a1
 have o4:=eD.obj a2
 have oM1:=(hP8.e.trans eBD).obj hP7.oM
 have oF1:=(hP8.e.trans eBD).obj hP7.oF
 have oM2:=eBD.obj hP8.oM
 have oF2:D.heap[bF2]?=some (.cells #[.string ⟨#[110]⟩,.int .i64 7,.string ⟨#[]⟩,.int .i64 0,.int .i64 0,Xd,Xd,.string ⟨#[98]⟩,.int .i64 1,.string ⟨#[98]⟩,.int .i64 0,.int .i64 0,Xd,Xd] 43 (0,0)):=eBD.obj hP8.oF
 have E0:Ext w0 D:=E6.trans (hP7.e.trans (hP8.e.trans eBD))
 have h06:=E6.size
 generalize w8.heap.size=p3 at *
 unfold So
 simp (disch:=try exact DI) only [↓PR,QR,simprocAttr,(Za o3).1]
 rw [Ym λ QP w' k'=>Yt (k:=k') underlying22 B6 bM1 0 1 1 .i64 0 (by decide) (by decide),show 0+(0:Int).toNat*3=0 from rfl]
 simp (disch:=try exact DI) only [↓PR,QR,simprocAttr,(Za oM1).1]
 refine (Ym (s:=sliceAt 58 (.slice (some ⟨bF1,0,none⟩) 2 2) none (some (.int .i64 1)) none) λ QP w' k'=>VZ underlying58 Ud bF1 0 2 2 .i64 1 (by decide)).mpr ?_
 simp (disch:=try exact DI) only [↓PR,QR,simprocAttr]
 rw [Ym λ QP w' k'=>Yt (k:=k') underlying22 B6 bM1 0 1 1 .i64 0 (by decide) (by decide),show 0+(0:Int).toNat*3=0 from rfl]
 simp (disch:=try exact DI) only [↓PR,QR,simprocAttr,(Za oM1).1,(Za oM1).2]
 refine Xq ?_
 have k1:∀ b,b≠bM1→(D.setCell ⟨bM1,2,none⟩ (.slice (some ⟨bF1,0,none⟩) 1 2)).heap[b]?=D.heap[b]?:=λ b hb=>YG.setCell D bM1 2 _ b hb
 have E1:Ext w0 (D.setCell ⟨bM1,2,none⟩ (.slice (some ⟨bF1,0,none⟩) 1 2)):=E0.setCell (p:=⟨bM1,2,none⟩) (show w0.heap.size≤bM1 by omega) _
 replace oM1:=Zw (o:=2) oM1 (.slice (some ⟨bF1,0,none⟩) 1 2)
 replace oF1:=(k1 bF1 (by omega)).trans oF1
 replace oM2:=(k1 bM2 (by omega)).trans oM2
 replace oF2:=(k1 bF2 (by omega)).trans oF2
 replace o3:=(k1 p3 (by omega)).trans o3
 replace o4:=(k1 (p3+1) (by omega)).trans o4
 clear k1 E0 eD eBD
 generalize (D.setCell ⟨bM1,2,none⟩ (.slice (some ⟨bF1,0,none⟩) 1 2))=S at *
 unfold Sn
 simp (disch:=try exact DI) only [↓PR,QR,simprocAttr,(Za o4).1]
 try unfold X0
 rw [Yt underlying22 B6 bM2 0 1 1 .i64 0 (by decide) (by decide),show 0+(0:Int).toNat*3=0 from rfl]
 simp (disch:=try exact DI) only [↓PR,QR,simprocAttr,(Za oM2).1]
 try unfold X0
 rw [Yt underlying58 Ud bF2 0 2 2 .i64 0 (by decide) (by decide),show 0+(0:Int).toNat*7=0 from rfl]
 simp (disch:=try exact DI) only [↓PR,QR,simprocAttr,(Za oF2).1,(Za oF2).2]
 refine (U1 Ud oF2 (vs:=Zz yy Xd Xd) rfl (by decide) (by intro v hv;simp only [List.mem_cons,List.not_mem_nil,or_false] at hv;rcases hv with rfl | rfl | rfl | rfl | rfl | rfl | rfl<;>rfl)).mpr ?_
 have kk:∀ b,b≠bF2→(YA S bF2 0 (Zz yy Xd Xd)).heap[b]?=S.heap[b]?:=λ b hb=>WZ _ _ _ b hb
 have E2:Ext w0 (YA S bF2 0 (Zz yy Xd Xd)):=Kv _ _ _ _ E1 (by omega)
 have oF2':(YA S bF2 0 (Zz yy Xd Xd)).heap[bF2]?=some (.cells (Zz yy Xd Xd++Zz FH Xd Xd).toArray 43 (0,0)):=(Q8 (Zz yy Xd Xd) 0 oF2).trans rfl
 replace oF1:=(kk bF1 (by omega)).trans oF1
 replace oM1:=(kk bM1 (by omega)).trans oM1
 replace oM2:=(kk bM2 (by omega)).trans oM2
 replace o3:=(kk p3 (by omega)).trans o3
 replace o4:=(kk (p3+1) (by omega)).trans o4
 clear kk E1 oF2
 generalize (YA S bF2 0 (Zz yy Xd Xd))=Q at *
 have hM3:YO Q (.agg #[.string ⟨#[109]⟩,.slice (some ⟨bM1,0,none⟩) 1 1]) Fm:=⟨_,rfl,EG (r:=⟨⟨#[65]⟩,⟨#[65]⟩,[ZaU]⟩) oM1 ⟨_,_,rfl,by decide,by decide,λ _=>⟨bF1,0,rfl,λ k x hx=>by
  match k,hx with
  | 0,hx=>
   cases hx
   exact ⟨_,rfl,λ j v hv=>by
    rw [(Za oF1).1]
    have hj:j < 7:=(List.getElem?_eq_some_iff.1 hv).1
    have hs:0+0*7+j=j:=by omega
    rw [hs,List.getElem?_toArray,List.getElem?_append_left hj]
    exact hv,Er _ _ rfl rfl⟩
  | _+1,hx=>simp at hx⟩⟩⟩
 have hM4:YO Q (.agg #[.string ⟨#[109]⟩,.slice (some ⟨bM2,0,none⟩) 1 1]) Fx:=⟨_,rfl,EG (r:=⟨⟨#[65]⟩,⟨#[65]⟩,[yy,FH]⟩) oM2 (MD oF2' rfl rfl rfl rfl)⟩
 refine ZE ?_
 have eH:Ext Q (drew Q):=(Ext.refl Q).drew
 generalize (drew Q)=H at eH ⊢
 unfold Sm Zo
 simp (disch:=try exact DI) only [↓PR,QR,simprocAttr,(Za (eH.obj o3)).1]
 have hin3:=ZaD Fm (by simp)
 have hin4:=ZaD Fx (by simp)
 have go2:∀ w' p,FlR H w' p 0 (-1) 10→Yg w' λ C7 w=>Lh (.pointer (some ⟨p3+1,0,none⟩)) (.pointer (some ⟨p,0,none⟩)) (.bool true) C7 (ZI λ r w'=>r = .bool true∧Ext w0 w') w:=by
  rintro w9 p5 ⟨e9,o5⟩
  refine ZE ?_
  have eI:Ext w9 (drew w9):=(Ext.refl w9).drew
  generalize (drew w9)=I at eI ⊢
  have eQI:=eH.trans (e9.trans eI)
  replace o5:=eI.obj o5
  have oI4:=eQI.obj o4
  have hMI:=hM4.ext eQI
  have go3:∀ w' p,FlR I w' p 0 0 5→Lb (.pointer (some ⟨p5,0,none⟩)) (.bool true) (.pointer (some ⟨p,0,none⟩)) (.bool true) (ZI λ r w'=>r = .bool true∧Ext w0 w') w':=by
   rintro w10 p7 ⟨e10,o7⟩
   replace o5:=e10.obj o5
   have E3:=E2.trans (eQI.trans e10)
   unfold Lb Zo
   have d1:(!(decide ((0:Int)=0)&&(decide ((-1:Int) = -1)&&(decide ((10:Int)=10)&&true))))=false:=by decide
   have d2:(!(decide ((0:Int)=0)&&(decide ((0:Int)=0)&&(decide ((5:Int)=5)&&true))))=false:=by decide
   simp (disch:=try exact DI) only [↓PR,QR,simprocAttr,(Za o5).1,(Za o7).1,d1,d2]
   unfold Sj Zo
   simp (disch:=try exact DI) only [↓PR,QR,simprocAttr,d1,d2]
   unfold Si Zo
   simp (disch:=try exact DI) only [↓PR,QR,simprocAttr]
   unfold Sh
   simp (disch:=try exact DI) only [↓PR,QR,simprocAttr]
   have r1:=Zv w10 (Z9 ⟨1,2,9⟩).toArray 78
   have er:Ext w10 (w10.alloc (.cells (Z9 ⟨1,2,9⟩).toArray 78)):=(Ext.refl w10).alloc _
   change ZV _ _ _ _ ((w10.alloc (.cells (Z9 ⟨1,2,9⟩).toArray 78)).alloc _) (λ t91 w=>Su (.pointer (some ⟨(w10.alloc (.cells (Z9 ⟨1,2,9⟩).toArray 78)).heap.size,0,none⟩)) t91 _ w)
   generalize (w10.alloc (.cells (Z9 ⟨1,2,9⟩).toArray 78))=X at r1 er ⊢
   have r2:=Zv X (Zz xw Xd (.slice (some ⟨w10.heap.size,0,none⟩) 1 1)).toArray 43
   have ex:Ext X (X.alloc (.cells (Zz xw Xd (.slice (some ⟨w10.heap.size,0,none⟩) 1 1)).toArray 43)):=(Ext.refl X).alloc _
   change ZV _ _ _ _ (X.alloc (.cells (Zz xw Xd (.slice (some ⟨w10.heap.size,0,none⟩) 1 1)).toArray 43)) _
   generalize (X.alloc (.cells (Zz xw Xd (.slice (some ⟨w10.heap.size,0,none⟩) 1 1)).toArray 43))=Y at r2 ex ⊢
   have hRow:QX Y (.slice (some ⟨w10.heap.size,0,none⟩) 1 1) xw.table:=U6 (l:=xw.table) (ex.obj r1) (by decide) λ k z hz=>by
    match k,hz with
    | 0,hz=>cases hz;exact ⟨_,rfl,rfl,rfl⟩
    | _+1,hz=>simp [xw] at hz
   have hTab:Wf Y (.agg (Zz xw Xd (.slice (some ⟨w10.heap.size,0,none⟩) 1 1)).toArray) xw:=⟨_,_,rfl,Zc.nil ..,hRow⟩
   generalize X.heap.size=p9 at *
   refine zcr (Jn Y _ Zft 3 ⟨Xd,Xd,rfl,Zc.nil ..,Zc.nil ..⟩ (by decide)) λ w11 e11=>?_
   rw [ZjN]
   unfold Su
   simp (disch:=try exact DI) only [↓PR,QR,simprocAttr,(Za (e11.obj r2)).1]
   refine zcr (Jn w11 _ xw 2 (hTab.ext e11) (by decide)) λ w12 e12=>?_
   rw [ZjO]
   unfold ZcZ
   simp (disch:=try exact DI) only [↓PR,QR,simprocAttr,(Za (e12.obj (e11.obj r2))).1]
   refine zcr (Jn w12 _ xw 3 (hTab.ext (e11.trans e12)) (by decide)) λ w13 e13=>?_
   rw [ZjP]
   have E4:=E3.trans (er.trans (ex.trans (e11.trans (e12.trans e13))))
   unfold ZcY
   simp (disch:=try exact DI) only [↓PR,QR,simprocAttr]
   refine Zk (xh w13 (hE.ext E4) ⟨#[109,97,112,112,105,110,103,32,109,10,109,97,112,32,65]⟩ (by decide) (by rw [PK];decide) (by rw [PK];decide)) ?_
   rintro _ w14 ⟨e14,hr⟩
   rw [ZaE] at hr
   rcases hr with ⟨m,v,ho,_⟩ | ⟨v,n,ho,rfl,hv⟩
   · cases ho
   injection ho with _ hn
   subst hn
   obtain ⟨rv,rfl,_,t1⟩:=hv.op
   unfold ZcX Zo
   simp (disch:=try exact DI) only [↓PR,QR,simprocAttr]
   unfold ZcW Zo
   simp (disch:=try exact DI) only [↓PR,QR,simprocAttr]
   unfold ZcV Zo
   simp (disch:=try exact DI) only [↓PR,QR,simprocAttr]
   unfold ZcU Zo
   simp (disch:=try exact DI) only [↓PR,QR,simprocAttr]
   unfold ZcT Zo
   simp (disch:=try exact DI) only [↓PR,QR,simprocAttr]
   unfold ZcS Zo
   simp (disch:=try exact DI) only [↓PR,QR,simprocAttr]
   refine ⟨by trivial,?_⟩
   exact (E4.trans e14).alloc _
  unfold Lh Zo
  simp (disch:=try exact DI) only [↓PR,QR,simprocAttr,(Za oI4).1]
  exact ⟨Zii (Ext.refl I) hMI hin4 MF go3,Zij (Ext.refl I) hMI hin4 MF go3⟩
 exact ⟨Zig (Ext.refl H) (hM3.ext eH) hin3 ME go2,Zih (Ext.refl H) (hM3.ext eH) hin3 ME go2⟩
def Zc0 (d e f g:Vl) (QJ:KV) (R:RT) (w:Wd):Prop:=
 Zy f (.bool true) g λ b=>
 Zo (λ (a:Vl) (w:Wd)=>
 Zy b (.bool true) a λ h=>
 Zs h (
 R (.returned (.bool true)) w) (
 B0 .add 3 true d (.int .i64 1) R w λ i w=>
 QJ i w)) λ c=>
 Zn b false (
 F0 43 e 6 R w λ j w=>
 L0 41 j R w λ k w=>
 G0 41 3 k R w λ l w=>
 B0 .gtr 3 true l (.int .i64 50) R w λ a w=>
 c a w) (
 c undef w)
def Zc1 (e b f g:Vl) (QJ:KV) (R:RT) (w:Wd):Prop:=
 Zy f (.bool true) g λ c=>
 Zo (λ (a:Vl) (w:Wd)=>
 Zc0 e b c a QJ R w) λ d=>
 Zn c false (
 F0 43 b 5 R w λ h w=>
 L0 40 h R w λ i w=>
 G0 40 3 i R w λ j w=>
 B0 .gtr 3 true j (.int .i64 1100) R w λ a w=>
 d a w) (
 d undef w)
def Zc2 (f c:Vl) (QJ:KV) (R:RT) (w:Wd):Prop:=
 F0 60 f 2 R w λ g w=>
 L0 58 g R w λ h w=>
 X0 58 h c R w λ i w=>
 L0 43 i R w λ j w=>
 opV Pg (alloc 43 true (.tuple #[])) (Zd R) w λ a w=>
 S0 43 a j R w λ w=>
 F0 43 a 0 R w λ k w=>
 L0 9 k R w λ l w=>
 G0 9 3 l R w λ m w=>
 B0 .gtr 3 true m (.int .i64 1100) R w λ d w=>
 Zo (λ (b:Vl) (w:Wd)=>
 Zc1 c a d b QJ R w) λ e=>
 Zn d false (
 F0 43 a 2 R w λ n w=>
 L0 9 n R w λ o w=>
 G0 9 3 o R w λ p w=>
 B0 .gtr 3 true p (.int .i64 1100) R w λ b w=>
 e b w) (
 e undef w)
def Zc3 (c a b:Vl) (Yj:KV) (QJ:KV) (R:RT) (w:Wd):Prop:=
 F0 60 a 2 R w λ d w=>
 L0 58 d R w λ e w=>
 G0 58 3 e R w λ f w=>
 B0 .lss 3 false b f R w λ g w=>
 Zs g (
 Zc2 a b QJ R w) (
 B0 .add 3 true c (.int .i64 1) R w λ h w=>
 Yj h w)
def Zc4 (e b f g:Vl) (Yj:KV) (R:RT) (w:Wd):Prop:=
 Zy f (.bool true) g λ c=>
 Zo (λ (a:Vl) (w:Wd)=>
 Zy c (.bool true) a λ h=>
 Zs h (
 R (.returned (.bool true)) w) (
 Y6 (λ i w QJ=>
 Zc3 e b i Yj QJ R w) (.int .i64 0) w)) λ d=>
 Zn c false (
 F0 60 b 1 R w λ j w=>
 L0 9 j R w λ k w=>
 G0 9 3 k R w λ l w=>
 B0 .gtr 3 true l (.int .i64 1100) R w λ a w=>
 d a w) (
 d undef w)
def Zc5 (f c:Vl) (Yj:KV) (R:RT) (w:Wd):Prop:=
 F0 24 f 1 R w λ g w=>
 L0 22 g R w λ h w=>
 X0 22 h c R w λ i w=>
 L0 60 i R w λ j w=>
 opV Pg (alloc 60 true (.tuple #[])) (Zd R) w λ a w=>
 S0 60 a j R w λ w=>
 F0 60 a 2 R w λ k w=>
 L0 58 k R w λ l w=>
 G0 58 3 l R w λ m w=>
 B0 .gtr 3 true m (.int .i64 50) R w λ d w=>
 Zo (λ (b:Vl) (w:Wd)=>
 Zc4 c a d b Yj R w) λ e=>
 Zn d false (
 F0 60 a 0 R w λ n w=>
 L0 9 n R w λ o w=>
 G0 9 3 o R w λ p w=>
 B0 .gtr 3 true p (.int .i64 1100) R w λ b w=>
 e b w) (
 e undef w)
def Zc6 (a b:Vl) (Yj:KV) (R:RT) (w:Wd):Prop:=
 F0 24 a 1 R w λ c w=>
 L0 22 c R w λ d w=>
 G0 22 3 d R w λ e w=>
 B0 .lss 3 false b e R w λ f w=>
 Zs f (
 Zc5 a b Yj R w) (
 R (.returned (.bool false)) w)
def n57 (e:Vl) (R:RT) (w:Wd):Prop:=
 opV Pg (box 24 e) (Zd R) w λ a w=>
 F0 24 a 1 R w λ f w=>
 L0 22 f R w λ g w=>
 G0 22 3 g R w λ h w=>
 B0 .gtr 3 true h (.int .i64 65) R w λ c w=>
 Zo (λ (b:Vl) (w:Wd)=>
 Zy c (.bool true) b λ i=>
 Zs i (
 R (.returned (.bool true)) w) (
 Y6 (λ j w Yj=>
 Zc6 a j Yj R w) (.int .i64 0) w)) λ d=>
 Zn c false (
 F0 24 a 0 R w λ k w=>
 L0 9 k R w λ l w=>
 G0 9 3 l R w λ m w=>
 B0 .gtr 3 true m (.int .i64 1100) R w λ b w=>
 d b w) (
 d undef w)
set_option maxHeartbeats 40000000 in
theorem Zkw {t0:Vl} {R:RT} {w:Wd} (h:n57 t0 R w):Calls Pg 10 #[t0] w R:=by
 refine yD func10 ?_
 refine zs<|zr<|yv h λ _ w h=>zm<|zn<|zk<|zs<|zs<|Zt<|yG 5<|yv h λ _ w h=>yv h λ _ w h=>yx h λ _ w h=>yb h λ _ w h=>zm ?_
 refine zn<|yg1 4 4 false [12,13,14,15] 15 h (λ _ T hT h=>?_) λ σ w h=>?_
 · refine yv h λ _ w h=>yv h λ _ w h=>yx h λ _ w h=>yb h λ _ w h=>zn ?_
   exact zt hT h
 refine yG 1<|yp h λ _ h=>zn<|ZK<|zk<|yC h (λ h=>zs<|zr<|zm<|zn<|zk<|Zg<|Zb<|Zi rfl rfl h) λ h=>Zj<|zk<|zs<|zs<|zr<|zm<|zn<|zk ?_
 refine Zl<|yl1 [2,3,4,5,6,17,18,19,20,21,22,23,24,25,26,27,28,29,30,31,32,33,34,35,36,37,38,39,40,41,42,43,44,45,46,47,48,49,50,51,52,53,54,55,56,57,58,59,60,61,62,63,64,65,66,67,68,69,70,71,72,73,74,75,76,77,78] 3 h λ σ w next h=>zs<|zs<|zr<|zm<|yv h λ _ w h=>yv h λ _ w h=>yx h λ _ w h=>yb h λ _ w h=>zn<|zk<|yC h (λ h=>?_) λ h=>?_
 · refine Zj<|zk<|zs<|Zl<|zs<|zr<|yv h λ _ w h=>yv h λ _ w h=>zm<|yv h λ _ w h=>yv h λ _ w h=>yv h λ _ w h=>yu h λ w h=>zn<|zk ?_
   refine zs<|zs<|Zt<|yG 5<|yv h λ _ w h=>yv h λ _ w h=>yx h λ _ w h=>yb h λ _ w h=>zm<|zn<|yg1 4 4 false [34,35,36,37] 37 h (λ _ T hT h=>?_) λ σ w h=>?_
   · refine yv h λ _ w h=>yv h λ _ w h=>yx h λ _ w h=>yb h λ _ w h=>zn ?_
     exact zt hT h
   refine yG 2<|yp h λ _ h=>zm<|zn<|yg1 4 10 false [40,41,42,43] 43 h (λ _ T hT h=>?_) λ σ w h=>?_
   · refine yv h λ _ w h=>yv h λ _ w h=>yx h λ _ w h=>yb h λ _ w h=>zn ?_
     exact zt hT h
   refine yG 1<|yp h λ _ h=>zn<|ZK<|zk<|yC h (λ h=>zs<|zr<|zm<|zn<|zk<|Zg<|Zb<|Zh<|Zb<|Zb<|Zh<|Zb<|Zi rfl rfl h) λ h=>Zj<|zk<|zs<|zr<|zm<|zn<|zk<|Zl ?_
   refine yl1 [2,5,6,45,46,47,48,49,50,51,52,53,54,55,56,57,58,59,60,61,62,63,64,65,66,67,68,69,70,71,72,73,74,75,76,77,78] 5 h λ σ w next h=>zs<|zs<|zr<|zm<|yv h λ _ w h=>yv h λ _ w h=>yx h λ _ w h=>yb h λ _ w h=>zn<|zk<|yC h (λ h=>?_) λ h=>?_
   · refine Zj<|zk<|zs<|Zl<|zs<|zr<|yv h λ _ w h=>yv h λ _ w h=>zm<|yv h λ _ w h=>yv h λ _ w h=>yv h λ _ w h=>yu h λ w h=>zn<|zk ?_
     refine zs<|Zt<|yG 5<|yv h λ _ w h=>yv h λ _ w h=>yx h λ _ w h=>yb h λ _ w h=>zm<|zn<|yg1 4 4 false [62,63,64,65] 65 h (λ _ T hT h=>?_) λ σ w h=>?_
     · refine yv h λ _ w h=>yv h λ _ w h=>yx h λ _ w h=>yb h λ _ w h=>zn ?_
       exact zt hT h
     refine yG 2<|yp h λ _ h=>zm<|zn<|yg1 4 10 false [68,69,70,71] 71 h (λ _ T hT h=>?_) λ σ w h=>?_
     · refine yv h λ _ w h=>yv h λ _ w h=>yx h λ _ w h=>yb h λ _ w h=>zn ?_
       exact zt hT h
     refine yG 2<|yp h λ _ h=>zm<|zn<|yg1 4 16 false [74,75,76,77] 77 h (λ _ T hT h=>?_) λ σ w h=>?_
     · refine yv h λ _ w h=>yv h λ _ w h=>yx h λ _ w h=>yb h λ _ w h=>zn ?_
       exact zt hT h
     refine yG 1<|yp h λ _ h=>zn<|ZK<|zk<|yC h (λ h=>?_) λ h=>?_
     · refine zs<|zr<|zm<|zn<|zk<|Zg<|Zh<|Zb<|Zb<|Zh<|Zh<|Zb<|Zb<|Zh<|Zb ?_
       exact Zi rfl rfl h
     exact Zj<|Zf<|zk<|zr<|zm<|yb h λ _ w h=>zm<|zn<|zk<|⟨rfl,h⟩
   exact ZM<|Ze<|Ze<|Zu<|Zf<|zk<|zr<|zm<|yb h λ _ w h=>zm<|zn<|zk<|⟨rfl,h⟩
 exact ZM<|Ze<|Ze<|Zu<|zk<|zs<|zr<|zm<|zn<|zk<|Zg<|Zi rfl rfl h
def Zc7 (b a:Vl) (Zx:KV) (R:RT) (w:Wd):Prop:=
 F0 27 b 1 R w λ c w=>
 L0 25 c R w λ d w=>
 X0 25 d a R w λ e w=>
 F0 74 e 1 R w λ f w=>
 L0 72 f R w λ g w=>
 G0 72 3 g R w λ h w=>
 B0 .gtr 3 true h (.int .i64 20) R w λ i w=>
 Zs i (
 R (.returned (.bool true)) w) (
 B0 .add 3 true a (.int .i64 1) R w λ j w=>
 Zx j w)
def Zc8 (a b:Vl) (Zx:KV) (R:RT) (w:Wd):Prop:=
 F0 27 a 1 R w λ c w=>
 L0 25 c R w λ d w=>
 G0 25 3 d R w λ e w=>
 B0 .lss 3 false b e R w λ f w=>
 Zs f (
 Zc7 a b Zx R w) (
 R (.returned (.bool false)) w)
def n60 (b:Vl) (R:RT) (w:Wd):Prop:=
 opV Pg (box 27 b) (Zd R) w λ a w=>
 F0 27 a 1 R w λ c w=>
 L0 25 c R w λ d w=>
 G0 25 3 d R w λ e w=>
 B0 .gtr 3 true e (.int .i64 12) R w λ f w=>
 Zs f (
 R (.returned (.bool true)) w) (
 Y6 (λ g w Zx=>
 Zc8 a g Zx R w) (.int .i64 0) w)
theorem Zkz {t0:Vl} {R:RT} {w:Wd} (h:n60 t0 R w):Calls Pg 11 #[t0] w R:=by
 refine yD func11 ?_
 refine zs<|zr<|yv h λ _ w h=>zm<|zn<|zk<|zs<|zs<|zr<|yv h λ _ w h=>yv h λ _ w h=>yx h λ _ w h=>yb h λ _ w h=>zn<|zk ?_
 refine yC h (λ h=>zs<|zr<|zm<|zn<|zk<|Zg<|Zb<|Zi rfl rfl h) λ h=>Zj<|zk<|zs<|zs<|zr<|zm<|zn<|zk<|Zl<|yl1 [2,3,8,9,10,11,12,13,14,15,16,17,18,19,20,21,22] 3 h λ σ w next h=>zs<|zs<|zr ?_
 refine zm<|yv h λ _ w h=>yv h λ _ w h=>yx h λ _ w h=>yb h λ _ w h=>zn<|zk<|yC h (λ h=>?_) λ h=>?_
 · refine Zj<|zk<|zs<|Zl<|zs<|zr<|yv h λ _ w h=>yv h λ _ w h=>zm<|yv h λ _ w h=>yv h λ _ w h=>yv h λ _ w h=>yx h λ _ w h=>yb h λ _ w h=>zn ?_
   exact zk<|yC h (λ h=>zs<|zr<|zm<|zn<|zk<|Zg<|Zh<|Zb<|Zb<|Zh<|Zb<|Zi rfl rfl h) λ h=>Zj<|Zf<|zk<|zr<|zm<|yb h λ _ w h=>zm<|zn<|zk<|⟨rfl,h⟩
 exact ZM<|Ze<|Ze<|Zu<|zk<|zs<|zr<|zm<|zn<|zk<|Zg<|Zi rfl rfl h
def XF (n k:Nat):Bool:=decide ((n:Int) > (k:Int))
def Kg (x:FrD):Bool:=XF x.to.size 1100||(XF x.fr.size 1100||(XF x.bytes.length 1100||XF x.table.length 50))
def Jl (r:MrD):Bool:=(XF r.fields.length 50||(XF r.fr.size 1100||XF r.to.size 1100))||r.fields.any Kg
def xy (m:Yo):Bool:=(XF m.rules.length 65||XF m.name.size 1100)||m.rules.any Jl
theorem Qf {n k:Nat} (h:XF n k=false):n≤k:=by
 unfold XF at h
 simp only [decide_eq_false_iff_not] at h
 omega
theorem Df {x:FrD} (h:Kg x=false):x.to.size≤1100∧x.fr.size≤1100∧x.bytes.length≤1100∧x.table.length≤50:=by
 unfold Kg at h
 simp only [Bool.or_eq_false_iff] at h
 exact ⟨Qf h.1,Qf h.2.1,Qf h.2.2.1,Qf h.2.2.2⟩
theorem Gk {r:MrD} (h:Jl r=false):r.fields.length≤50∧r.fr.size≤1100∧r.to.size≤1100∧∀ x∈r.fields,Kg x=false:=by
 unfold Jl at h
 simp only [Bool.or_eq_false_iff,List.any_eq_false] at h
 exact ⟨Qf h.1.1,Qf h.1.2.1,Qf h.1.2.2,λ x hx=>by simpa using h.2 x hx⟩
theorem NY {m:Yo} (h:xy m=false):m.rules.length≤65∧m.name.size≤1100∧∀ r∈m.rules,Jl r=false:=by
 unfold xy at h
 simp only [Bool.or_eq_false_iff,List.any_eq_false] at h
 exact ⟨Qf h.1.1,Qf h.1.2,λ x hx=>by simpa using h.2 x hx⟩
theorem j6 {α:Type} {p:α→Bool} {l:List α} {k:Nat} {x:α} (hx:l[k]?=some x) (h:(l.take k).any p=false):(l.take (k+1)).any p=p x:=by
 rw [XM hx,List.any_append,h]
 simp
theorem D1 {α:Type} {p:α→Bool} {l:List α} {k:Nat} {x:α} (hx:l[k]?=some x) (h:p x=true):l.any p=true:=List.any_eq_true.2 ⟨x,List.mem_of_getElem? hx,h⟩
theorem NZ (w0:Wd) (v:Vl) (m:Yo) (hm:YO w0 v m):Ret Pg 10 #[v] w0 λ r w'=>r = .bool (xy m)∧Ext w0 w':=by
 obtain ⟨rv,rfl,hR,t1⟩:=hm.op
 obtain ⟨A,c,rfl,hlc,hcm,hlm,Y1⟩:=Zc.open hR
 refine Zkw (R:=ZI _) ?_;unfold n57
 rw [YB]
 have o1:=Zv w0 (ZL m (.slice A m.rules.length c)).toArray 24
 have eV:Ext w0 (w0.alloc (.cells (ZL m (.slice A m.rules.length c)).toArray 24)):=(Ext.refl w0).alloc _
 generalize (w0.alloc (.cells (ZL m (.slice A m.rules.length c)).toArray 24))=V at o1 eV ⊢
 generalize w0.heap.size=p1 at o1 ⊢
 have d1:decide ((m.rules.length:Int) > 65)=XF m.rules.length 65:=rfl
 have d2:decide ((m.name.size:Int) > 1100)=XF m.name.size 1100:=rfl
 unfold Zo
 simp (disch:=try exact DI) only [↓PR,QR,simprocAttr,(Za o1).1,d1,d2]
 have hM:xy m=((XF m.rules.length 65||XF m.name.size 1100)||m.rules.any Jl):=rfl
 cases hc0:(XF m.rules.length 65||XF m.name.size 1100) with
 | true=>
  rw [hc0,Bool.true_or] at hM
  rw [hM]
  simp (disch:=try exact DI) only [↓PR,QR,simprocAttr]
  exact ⟨by trivial,eV⟩
 | false=>
  rw [hc0,Bool.false_or] at hM
  rw [hM]
  have hle:m.rules.length≤65:=Qf (Bool.or_eq_false_iff.1 hc0).1
  simp (disch:=try exact DI) only [↓PR,QR,simprocAttr]
  clear hM
  refine ZJ (λ i w=>∃ k:Nat,i = .int .i64 k∧k≤m.rules.length∧(m.rules.take k).any Jl=false∧Ext V w) (λ i _=>m.rules.length - (intOf i).toNat) ⟨0,rfl,by omega,rfl,Ext.refl _⟩ ?_
  rintro _ w1 ⟨k,rfl,hk,ht,e1⟩
  have q1:=Za (e1.obj o1)
  unfold Zc6
  rcases ZT hk with ⟨r,hr,_,Yq,ZY⟩ | ⟨hke,_,ZY⟩
  · have hwk:IntKind.i64.wrap ((k:Int)+1)=(k:Int)+1:=XC (by omega) (by omega)
    obtain ⟨b,o,cs,rfl,_,hA,fv,rfl,hF⟩:=Y1 k r hr
    have t2:=Zc.oneCell hF
    obtain ⟨A2,c2,rfl,hlc2,hcm2,hlm2,hel2⟩:=Zc.open hF
    have hq:=hA.c3 (eV.trans e1)
    simp (disch:=try exact DI) only [↓PR,QR,simprocAttr,q1.1,ZY]
    have d3:decide ((r.fields.length:Int) > 50)=XF r.fields.length 50:=rfl
    have d4:decide ((r.fr.size:Int) > 1100)=XF r.fr.size 1100:=rfl
    have d5:decide ((r.to.size:Int) > 1100)=XF r.to.size 1100:=rfl
    unfold Zc5 Zc4 Zo
    simp (disch:=try exact DI) only [↓PR,QR,simprocAttr,q1.1,hq,d3,d4,d5]
    generalize hW:World.setCell (World.setCell (World.setCell (World.alloc w1 _) _ _) _ _) _ _=W
    have eW:Ext w1 W:=by rw [← hW];exact ((((Ext.refl w1).alloc _).setCell (Nat.le_refl _) _).setCell (Nat.le_refl _) _).setCell (Nat.le_refl _) _
    have oW:W.heap[w1.heap.size]?=some (.cells (Z6 r (.slice A2 r.fields.length c2)).toArray 60 (0,0)):=by rw [← hW];exact Zw (o:=2) (Zw (o:=1) (Zw (o:=0) (Zv w1 _ _) (.string r.fr)) (.string r.to)) (.slice A2 r.fields.length c2)
    clear hW
    generalize w1.heap.size=p4 at oW ⊢
    have hR0:Jl r=((XF r.fields.length 50||XF r.fr.size 1100||XF r.to.size 1100)||r.fields.any Kg):=by unfold Jl;simp only [Bool.or_assoc]
    cases hc1:(XF r.fields.length 50||XF r.fr.size 1100||XF r.to.size 1100) with
    | true=>
     rw [hc1,Bool.true_or] at hR0
     rw [D1 hr hR0]
     simp (disch:=try exact DI) only [↓PR,QR,simprocAttr]
     exact ⟨by trivial,eV.trans (e1.trans eW)⟩
    | false=>
     rw [hc1,Bool.false_or] at hR0
     have hle2:r.fields.length≤50:=Qf (Bool.or_eq_false_iff.1 (Bool.or_eq_false_iff.1 hc1).1).1
     simp (disch:=try exact DI) only [↓PR,QR,simprocAttr]
     refine ZJ (λ i w=>∃ j:Nat,i = .int .i64 j∧j≤r.fields.length∧(r.fields.take j).any Kg=false∧Ext W w) (λ i _=>r.fields.length - (intOf i).toNat) ⟨0,rfl,by omega,rfl,Ext.refl _⟩ ?_
     rintro _ w2 ⟨j,rfl,hj,htj,e2⟩
     have q2:=Za (e2.obj oW)
     unfold Zc3
     rcases ZT hj with ⟨x,hx,_,hlt2,Ax⟩ | ⟨hje,_,Ax⟩
     · have hwj:IntKind.i64.wrap ((j:Int)+1)=(j:Int)+1:=XC (by omega) (by omega)
       obtain ⟨b3,o3,cs,rfl,_,hA3,bv,tv,rfl,hB,hT⟩:=hel2 j x hx
       have u1:=Zc.oneCell hB
       have u2:=Zc.oneCell hT
       obtain ⟨A3,c3,rfl,_,_,_,_⟩:=Zc.open hB
       obtain ⟨A4,c4,rfl,_,_,_,_⟩:=Zc.open hT
       have hq3:=hA3.c7 (eV.trans (e1.trans (eW.trans e2)))
       have f1:decide ((x.to.size:Int) > 1100)=XF x.to.size 1100:=rfl
       have f2:decide ((x.fr.size:Int) > 1100)=XF x.fr.size 1100:=rfl
       have f3:decide ((x.bytes.length:Int) > 1100)=XF x.bytes.length 1100:=rfl
       have f4:decide ((x.table.length:Int) > 50)=XF x.table.length 50:=rfl
       simp (disch:=try exact DI) only [↓PR,QR,simprocAttr,q2.1,Ax]
       unfold Zc2 Zc1 Zc0 Zo
       simp (disch:=try exact DI) only [↓PR,QR,simprocAttr,q2.1,hq3,f1,f2,f3,f4]
       have hX0:Kg x=(XF x.to.size 1100||XF x.fr.size 1100||XF x.bytes.length 1100||XF x.table.length 50):=by unfold Kg;simp only [Bool.or_assoc]
       rw [← hX0]
       cases hX:Kg x with
       | true=>
        rw [D1 hx hX] at hR0
        rw [D1 hr hR0]
        simp (disch:=try exact DI) only [↓PR,QR,simprocAttr]
        exact ⟨by trivial,(eV.trans (e1.trans (eW.trans e2))).alloc _⟩
       | false=>
        simp (disch:=try exact DI) only [↓PR,QR,simprocAttr,hwj]
        exact ⟨⟨j+1,rfl,hlt2,by rw [j6 hx htj,hX],e2.alloc _⟩,Ya (kd := .i64) hlt2⟩
     · rw [hje,List.take_length] at htj
       rw [htj] at hR0
       simp (disch:=try exact DI) only [↓PR,QR,simprocAttr,q2.1,Ax,hwk]
       exact ⟨⟨k+1,rfl,Yq,by rw [j6 hr ht,hR0],e1.trans (eW.trans e2)⟩,Ya (kd := .i64) Yq⟩
  · rw [hke,List.take_length] at ht
    simp (disch:=try exact DI) only [↓PR,QR,simprocAttr,q1.1,ZY]
    exact ⟨by rw [ht],eV.trans e1⟩
theorem ZdT (x y:Qx):(!(decide (x.low=y.low)&&(decide (x.high=y.high)&&decide (x.to=y.to))))=!decide (x=y):=by
 cases x;cases y
 congr 1
 rw [Bool.eq_iff_iff]
 simp
theorem Zas (x y:UInt8):((x.toNat:Int) != (y.toNat:Int))=!decide (x=y):=by
 rw [Bool.eq_iff_iff]
 simp only [bne_iff_ne,ne_eq,Int.natCast_inj,Bool.not_eq_true',decide_eq_false_iff_not]
 exact not_congr ⟨λ h=>UInt8.toNat_inj.1 h,λ h=>by rw [h]⟩
theorem Ci (w0:Wd) (v u:Vl) (l m:List Qx) (hl:QX w0 v l) (hm:QX w0 u m) :
 Ret Pg 64 #[v,u] w0 λ r w'=>r = .bool (decide (l=m))∧Ext w0 w':=by
 obtain ⟨A,c,rfl,hlc,hcm,hlm,Y1⟩:=Zc.open hl
 obtain ⟨A',c',rfl,hlc',hcm',hlm',hel'⟩:=Zc.open hm
 refine ZgU (R:=ZI _) ?_;unfold ZgT
 simp (disch:=try exact DI) only [↓PR,QR,simprocAttr]
 by_cases Y8:l.length=m.length
 · have YN:((l.length:Int) != (m.length:Int))=false:=by simp [Y8]
   simp (disch:=try exact DI) only [↓PR,QR,simprocAttr,↓Jv,↓Jw,YN]
   refine ZJ (λ a0 w=>∃ (k:Nat) , a0 = .int .i64 (k:Int)∧k≤l.length∧Ext w0 w∧l.take k=m.take k) (λ a0 _=>l.length - (intOf a0).toNat) ⟨0,rfl,Nat.zero_le _,ee,rfl⟩ ?_
   rintro _ w ⟨k,rfl,hk,e,hI⟩
   have se:=e.size
   rcases ZT hk with ⟨x,hx,hd,Yq,ZY⟩ | ⟨hk,hd,ZY⟩
   · obtain ⟨b,o,cs,rfl,_,hA,rfl⟩:=Y1 k x hx
     obtain ⟨y,hy⟩:=getElem?_lt (l:=m) (k:=k) (by omega)
     obtain ⟨b',o',cs',rfl,_,hA',rfl⟩:=hel' k y hy
     have hlt':k < m.length:=by omega
     have eD:Ext w0 w.drew:=e.wdrew
     simp (disch:=try exact DI) only [↓PR,QR,simprocAttr,↓Jv,↓Jw,ZY]
     refine ZE ?_
     simp (disch:=try exact DI) only [↓PR,QR,simprocAttr,↓Jv,↓Jw,hA.c3,hA'.c3]
     rw [ZdT]
     by_cases hxy:x=y
     · subst hxy
       simp only [decide_true,Bool.not_true]
       simp (disch:=try exact DI) only [↓PR,QR,simprocAttr,↓Jv,↓Jw]
       exact ⟨⟨k+1,rfl,by omega,ee,by rw [List.take_add_one,List.take_add_one,hx,hy,hI]⟩,Ya (kd := .i64) Yq⟩
     · simp only [hxy,decide_false,Bool.not_false]
       simp (disch:=try exact DI) only [↓PR,QR,simprocAttr,↓Jv,↓Jw]
       refine ⟨?_,eD⟩
       have hne':¬ l=m:=by
        rintro rfl
        rw [hx] at hy
        injection hy with hy
        exact hxy hy
       simp [hne']
   · subst hk
     simp (disch:=try exact DI) only [↓PR,QR,simprocAttr,↓Jv,↓Jw,ZY]
     rw [List.take_length,Y8,List.take_length] at hI
     exact ⟨by simp [hI],e⟩
 · have YN:((l.length:Int) != (m.length:Int))=true:=by simp;omega
   simp (disch:=try exact DI) only [↓PR,QR,simprocAttr,↓Jv,↓Jw,YN]
   have hne':¬ l=m:=λ h=>Y8 (by rw [h])
   exact ⟨by simp [hne'],Ext.refl _⟩
theorem jN (w0:Wd) (v u:Vl) (l m:List UInt8) (hl:zD w0 v l) (hm:zD w0 u m) :
 Ret Pg 63 #[v,u] w0 λ r w'=>r = .bool (decide (l=m))∧Ext w0 w':=by
 obtain ⟨A,c,rfl,hlc,hcm,hlm,Y1⟩:=Zc.open hl
 obtain ⟨A',c',rfl,hlc',hcm',hlm',hel'⟩:=Zc.open hm
 refine ZgY (R:=ZI _) ?_;unfold ZgX
 simp (disch:=try exact DI) only [↓PR,QR,simprocAttr]
 by_cases Y8:l.length=m.length
 · have YN:((l.length:Int) != (m.length:Int))=false:=by simp [Y8]
   simp (disch:=try exact DI) only [↓PR,QR,simprocAttr,↓JA,↓JB,YN]
   refine ZJ (λ a0 w=>∃ (k:Nat) , a0 = .int .i64 (k:Int)∧k≤l.length∧Ext w0 w∧l.take k=m.take k) (λ a0 _=>l.length - (intOf a0).toNat) ⟨0,rfl,Nat.zero_le _,ee,rfl⟩ ?_
   rintro _ w ⟨k,rfl,hk,e,hI⟩
   have se:=e.size
   rcases ZT hk with ⟨x,hx,hd,Yq,ZY⟩ | ⟨hk,hd,ZY⟩
   · obtain ⟨b,o,cs,rfl,_,hA,rfl⟩:=Y1 k x hx
     obtain ⟨y,hy⟩:=getElem?_lt (l:=m) (k:=k) (by omega)
     obtain ⟨b',o',cs',rfl,_,hA',rfl⟩:=hel' k y hy
     have hlt':k < m.length:=by omega
     have eD:Ext w0 w.drew:=e.wdrew
     simp (disch:=try exact DI) only [↓PR,QR,simprocAttr,↓JA,↓JB,ZY]
     refine ZE ?_
     simp (disch:=try exact DI) only [↓PR,QR,simprocAttr,↓JA,↓JB,hA.c1,hA'.c1]
     rw [Zas]
     by_cases hxy:x=y
     · subst hxy
       simp only [decide_true,Bool.not_true]
       simp (disch:=try exact DI) only [↓PR,QR,simprocAttr,↓JA,↓JB]
       exact ⟨⟨k+1,rfl,by omega,ee,by rw [List.take_add_one,List.take_add_one,hx,hy,hI]⟩,Ya (kd := .i64) Yq⟩
     · simp only [hxy,decide_false,Bool.not_false]
       simp (disch:=try exact DI) only [↓PR,QR,simprocAttr,↓JA,↓JB]
       refine ⟨?_,eD⟩
       have hne':¬ l=m:=by
        rintro rfl
        rw [hx] at hy
        injection hy with hy
        exact hxy hy
       simp [hne']
   · subst hk
     simp (disch:=try exact DI) only [↓PR,QR,simprocAttr,↓JA,↓JB,ZY]
     rw [List.take_length,Y8,List.take_length] at hI
     exact ⟨by simp [hI],e⟩
 · have YN:((l.length:Int) != (m.length:Int))=true:=by simp;omega
   simp (disch:=try exact DI) only [↓PR,QR,simprocAttr,↓JA,↓JB,YN]
   have hne':¬ l=m:=λ h=>Y8 (by rw [h])
   exact ⟨by simp [hne'],Ext.refl _⟩
theorem UE (w0:Wd) (v u:Vl) (l m:List FrD) (g:FuncId) (caps:AVl) (hl:QZ w0 v l) (hm:QZ w0 u m) (hg:Callable Pg g)
 (hc:∀ w v u x y,Ext w0 w→Wf w v x→Wf w u y→Ret Pg g (#[v,u]++caps) w λ r w'=>r = .bool (decide (x=y))∧Ext w w') :
 Ret Pg 66 #[v,u,.func (.func g) #[] caps] w0 λ r w'=>r = .bool (decide (l=m))∧Ext w0 w':=by
 obtain ⟨A,c,rfl,hlc,hcm,hlm,Y1⟩:=Zc.open hl
 obtain ⟨A',c',rfl,hlc',hcm',hlm',hel'⟩:=Zc.open hm
 refine ZgO (R:=ZI _) ?_;unfold ZgN
 simp (disch:=try exact DI) only [↓PR,QR,simprocAttr]
 by_cases Y8:l.length=m.length
 · have YN:((l.length:Int) != (m.length:Int))=false:=by simp [Y8]
   simp (disch:=try exact DI) only [↓PR,QR,simprocAttr,↓G8,↓G9,↓za,YN]
   refine ZJ (λ a0 w=>∃ (k:Nat) , a0 = .int .i64 (k:Int)∧k≤l.length∧Ext w0 w∧l.take k=m.take k) (λ a0 _=>l.length - (intOf a0).toNat) ⟨0,rfl,Nat.zero_le _,ee,rfl⟩ ?_
   rintro _ w ⟨k,rfl,hk,e,hI⟩
   have se:=e.size
   rcases ZT hk with ⟨x,hx,hd,Yq,ZY⟩ | ⟨hk,hd,ZY⟩
   · obtain ⟨b,o,cs,rfl,_,hA,hE1⟩:=Y1 k x hx
     obtain ⟨y,hy⟩:=getElem?_lt (l:=m) (k:=k) (by omega)
     obtain ⟨b',o',cs',rfl,_,hA',hE2⟩:=hel' k y hy
     have hlt':k < m.length:=by omega
     obtain ⟨bv1,tv1,rfl,hB1,hT1,hb1,ht1⟩:=hE1.op
     obtain ⟨bv2,tv2,rfl,hB2,hT2,hb2,ht2⟩:=hE2.op
     have ea:∀ o,Ext w0 (w.alloc o):=λ o=>e.alloc o
     have e1:=ea (.cells (Zz x bv1 tv1).toArray 43)
     simp (disch:=try exact DI) only [↓PR,QR,simprocAttr,↓G8,↓G9,↓za,ZY,hA.c7,hA'.c7]
     generalize hW:World.alloc (World.alloc w _) _=W
     have e2:Ext w0 W:=by rw [← hW];exact ee
     clear hW
     rw [YI hg]
     refine zcr (hc W _ _ x y e2 ⟨bv1,tv1,rfl,zD.ext hB1 e2,QX.ext hT1 e2⟩ ⟨bv2,tv2,rfl,zD.ext hB2 e2,QX.ext hT2 e2⟩) λ w1 e3=>?_
     by_cases hxy:x=y
     · subst hxy
       simp only [decide_true]
       simp (disch:=try exact DI) only [↓PR,QR,simprocAttr,↓G8,↓G9,↓za]
       exact ⟨⟨k+1,rfl,by omega,ee,by rw [List.take_add_one,List.take_add_one,hx,hy,hI]⟩,Ya (kd := .i64) Yq⟩
     · simp only [hxy,decide_false]
       simp (disch:=try exact DI) only [↓PR,QR,simprocAttr,↓G8,↓G9,↓za]
       have hne':¬ l=m:=by
        rintro rfl
        rw [hx] at hy
        injection hy with hy
        exact hxy hy
       exact ⟨by simp [hne'],e2.trans e3⟩
   · subst hk
     simp (disch:=try exact DI) only [↓PR,QR,simprocAttr,↓G8,↓G9,↓za,ZY]
     rw [List.take_length,Y8,List.take_length] at hI
     exact ⟨by simp [hI],e⟩
 · have YN:((l.length:Int) != (m.length:Int))=true:=by simp;omega
   simp (disch:=try exact DI) only [↓PR,QR,simprocAttr,↓G8,↓G9,↓za,YN]
   have hne':¬ l=m:=λ h=>Y8 (by rw [h])
   exact ⟨by simp [hne'],Ext.refl _⟩
theorem V9 (w0:Wd) (v u:Vl) (l m:List MrD) (g:FuncId) (caps:AVl) (hl:VC w0 v l) (hm:VC w0 u m) (hg:Callable Pg g)
 (hc:∀ w v u x y,Ext w0 w→UF w v x→UF w u y→Ret Pg g (#[v,u]++caps) w λ r w'=>r = .bool (decide (x=y))∧Ext w w') :
 Ret Pg 67 #[v,u,.func (.func g) #[] caps] w0 λ r w'=>r = .bool (decide (l=m))∧Ext w0 w':=by
 obtain ⟨A,c,rfl,hlc,hcm,hlm,Y1⟩:=Zc.open hl
 obtain ⟨A',c',rfl,hlc',hcm',hlm',hel'⟩:=Zc.open hm
 refine ZgQ (R:=ZI _) ?_;unfold ZgP
 simp (disch:=try exact DI) only [↓PR,QR,simprocAttr]
 by_cases Y8:l.length=m.length
 · have YN:((l.length:Int) != (m.length:Int))=false:=by simp [Y8]
   simp (disch:=try exact DI) only [↓PR,QR,simprocAttr,↓zb,↓zc,↓zd,YN]
   refine ZJ (λ a0 w=>∃ (k:Nat) , a0 = .int .i64 (k:Int)∧k≤l.length∧Ext w0 w∧l.take k=m.take k) (λ a0 _=>l.length - (intOf a0).toNat) ⟨0,rfl,Nat.zero_le _,ee,rfl⟩ ?_
   rintro _ w ⟨k,rfl,hk,e,hI⟩
   have se:=e.size
   rcases ZT hk with ⟨x,hx,hd,Yq,ZY⟩ | ⟨hk,hd,ZY⟩
   · obtain ⟨b,o,cs,rfl,_,hA,hE1⟩:=Y1 k x hx
     obtain ⟨y,hy⟩:=getElem?_lt (l:=m) (k:=k) (by omega)
     obtain ⟨b',o',cs',rfl,_,hA',hE2⟩:=hel' k y hy
     have hlt':k < m.length:=by omega
     obtain ⟨fv1,rfl,hF1,ht1⟩:=hE1.op
     obtain ⟨fv2,rfl,hF2,ht2⟩:=hE2.op
     have ea:∀ o,Ext w0 (w.alloc o):=λ o=>e.alloc o
     have e1:=ea (.cells (Z6 x fv1).toArray 60)
     simp (disch:=try exact DI) only [↓PR,QR,simprocAttr,↓zb,↓zc,↓zd,ZY,hA.c3,hA'.c3]
     generalize hW:World.alloc (World.alloc w _) _=W
     have e2:Ext w0 W:=by rw [← hW];exact ee
     clear hW
     rw [YI hg]
     refine zcr (hc W _ _ x y e2 ⟨fv1,rfl,QZ.ext hF1 e2⟩ ⟨fv2,rfl,QZ.ext hF2 e2⟩) λ w1 e3=>?_
     by_cases hxy:x=y
     · subst hxy
       simp only [decide_true]
       simp (disch:=try exact DI) only [↓PR,QR,simprocAttr,↓zb,↓zc,↓zd]
       exact ⟨⟨k+1,rfl,by omega,ee,by rw [List.take_add_one,List.take_add_one,hx,hy,hI]⟩,Ya (kd := .i64) Yq⟩
     · simp only [hxy,decide_false]
       simp (disch:=try exact DI) only [↓PR,QR,simprocAttr,↓zb,↓zc,↓zd]
       have hne':¬ l=m:=by
        rintro rfl
        rw [hx] at hy
        injection hy with hy
        exact hxy hy
       exact ⟨by simp [hne'],e2.trans e3⟩
   · subst hk
     simp (disch:=try exact DI) only [↓PR,QR,simprocAttr,↓zb,↓zc,↓zd,ZY]
     rw [List.take_length,Y8,List.take_length] at hI
     exact ⟨by simp [hI],e⟩
 · have YN:((l.length:Int) != (m.length:Int))=true:=by simp;omega
   simp (disch:=try exact DI) only [↓PR,QR,simprocAttr,↓zb,↓zc,↓zd,YN]
   have hne':¬ l=m:=λ h=>Y8 (by rw [h])
   exact ⟨by simp [hne'],Ext.refl _⟩
def ZbG (d e f g:Vl) (R:RT) (w:Wd):Prop:=
 Zy f g (.bool false) λ b=>
 Zo (λ (a:Vl) (w:Wd)=>
 Zy b a (.bool false) λ h=>
 R (.returned h) w) λ c=>
 Zn b true (
 F0 43 d 6 R w λ i w=>
 L0 41 i R w λ j w=>
 F0 43 e 6 R w λ k w=>
 L0 41 k R w λ l w=>
 C0 64 #[j,l] R w λ a w=>
 c a w) (
 c undef w)
def ZbH (b c f g:Vl) (R:RT) (w:Wd):Prop:=
 Zy f g (.bool false) λ d=>
 Zo (λ (a:Vl) (w:Wd)=>
 ZbG b c d a R w) λ e=>
 Zn d true (
 F0 43 b 5 R w λ h w=>
 L0 40 h R w λ i w=>
 F0 43 c 5 R w λ j w=>
 L0 40 j R w λ k w=>
 C0 63 #[i,k] R w λ a w=>
 e a w) (
 e undef w)
def ZbI (b c f g:Vl) (R:RT) (w:Wd):Prop:=
 Zy f g (.bool false) λ d=>
 Zo (λ (a:Vl) (w:Wd)=>
 ZbH b c d a R w) λ e=>
 Zn d true (
 F0 43 b 4 R w λ h w=>
 L0 3 h R w λ i w=>
 F0 43 c 4 R w λ j w=>
 L0 3 j R w λ k w=>
 B0 .eql 3 false i k R w λ a w=>
 e a w) (
 e undef w)
def ZbJ (b c f g:Vl) (R:RT) (w:Wd):Prop:=
 Zy f g (.bool false) λ d=>
 Zo (λ (a:Vl) (w:Wd)=>
 ZbI b c d a R w) λ e=>
 Zn d true (
 F0 43 b 3 R w λ h w=>
 L0 3 h R w λ i w=>
 F0 43 c 3 R w λ j w=>
 L0 3 j R w λ k w=>
 B0 .eql 3 false i k R w λ a w=>
 e a w) (
 e undef w)
def ZbK (b c f g:Vl) (R:RT) (w:Wd):Prop:=
 Zy f g (.bool false) λ d=>
 Zo (λ (a:Vl) (w:Wd)=>
 ZbJ b c d a R w) λ e=>
 Zn d true (
 F0 43 b 2 R w λ h w=>
 L0 9 h R w λ i w=>
 F0 43 c 2 R w λ j w=>
 L0 9 j R w λ k w=>
 B0 .eql 9 false i k R w λ a w=>
 e a w) (
 e undef w)
def n18 (f g:Vl) (R:RT) (w:Wd):Prop:=
 opV Pg (box 43 f) (Zd R) w λ a w=>
 opV Pg (box 43 g) (Zd R) w λ b w=>
 F0 43 a 0 R w λ h w=>
 L0 9 h R w λ i w=>
 F0 43 b 0 R w λ j w=>
 L0 9 j R w λ k w=>
 B0 .eql 9 false i k R w λ d w=>
 Zo (λ (c:Vl) (w:Wd)=>
 ZbK a b d c R w) λ e=>
 Zn d true (
 F0 43 a 1 R w λ l w=>
 L0 39 l R w λ m w=>
 F0 43 b 1 R w λ n w=>
 L0 39 n R w λ o w=>
 B0 .eql 39 false m o R w λ c w=>
 e c w) (
 e undef w)
theorem ZjV {t0 t1:Vl} {R:RT} {w:Wd} (h:n18 t0 t1 R w):Calls Pg 62 #[t0,t1] w R:=by
 refine yD func62 ?_
 refine zs<|zr<|yv h λ _ w h=>yv h λ _ w h=>zm<|zn<|zk<|zs<|Zt<|yG 6<|yv h λ _ w h=>yv h λ _ w h=>yv h λ _ w h=>yv h λ _ w h=>yb h λ _ w h=>?_
 refine zm<|zn<|yg1 5 5 true [11,12,13,14,15] 15 h (λ _ T hT h=>?_) λ σ w h=>?_
 · refine yv h λ _ w h=>yv h λ _ w h=>yv h λ _ w h=>yv h λ _ w h=>yb h λ _ w h=>zn ?_
   exact zt hT h
 refine yG 2<|yp h λ _ h=>zm<|zn<|yg1 5 12 true [18,19,20,21,22] 22 h (λ _ T hT h=>?_) λ σ w h=>?_
 · refine yv h λ _ w h=>yv h λ _ w h=>yv h λ _ w h=>yv h λ _ w h=>yb h λ _ w h=>zn ?_
   exact zt hT h
 refine yG 2<|yp h λ _ h=>zm<|zn<|yg1 5 19 true [25,26,27,28,29] 29 h (λ _ T hT h=>?_) λ σ w h=>?_
 · refine yv h λ _ w h=>yv h λ _ w h=>yv h λ _ w h=>yv h λ _ w h=>yb h λ _ w h=>zn ?_
   exact zt hT h
 refine yG 2<|yp h λ _ h=>zm<|zn<|yg1 5 26 true [32,33,34,35,36] 36 h (λ _ T hT h=>?_) λ σ w h=>?_
 · refine yv h λ _ w h=>yv h λ _ w h=>yv h λ _ w h=>yv h λ _ w h=>yb h λ _ w h=>zn ?_
   exact zt hT h
 refine yG 2<|yp h λ _ h=>zm<|zn<|yg1 5 33 true [39,40,41,42,43] 43 h (λ _ T hT h=>?_) λ σ w h=>?_
 · refine yv h λ _ w h=>yv h λ _ w h=>yv h λ _ w h=>yv h λ _ w h=>yc h c63 λ _ w h=>zn ?_
   exact zt hT h
 refine yG 2<|yp h λ _ h=>zm<|zn<|yg1 5 40 true [46,47,48,49,50] 50 h (λ _ T hT h=>?_) λ σ w h=>?_
 · refine yv h λ _ w h=>yv h λ _ w h=>yv h λ _ w h=>yv h λ _ w h=>yc h c64 λ _ w h=>zn ?_
   exact zt hT h
 exact yG 2<|yp h λ _ h=>zm<|zn<|ZK<|zk<|Zg<|Zi rfl rfl h
def Et (x y:FrD):Bool:=decide (x.to=y.to)&&(x.kind == y.kind)&&decide (x.fr=y.fr)&&(x.add == y.add)&&(x.value == y.value)
theorem Zfo (x y:FrD):decide (x=y)=(Et x y&&(decide (x.bytes=y.bytes)&&decide (x.table=y.table))):=by
 obtain ⟨a1,a2,a3,a4,a5,a6,a7⟩:=x
 obtain ⟨b1,b2,b3,b4,b5,b6,b7⟩:=y
 unfold Et
 rw [Bool.eq_iff_iff]
 simp only [FrD.mk.injEq,decide_eq_true_eq,Bool.and_eq_true,beq_iff_eq]
 constructor
 · rintro ⟨h1,h2,h3,h4,h5,h6,h7⟩
   exact ⟨⟨⟨⟨⟨h1,h2⟩,h3⟩,h4⟩,h5⟩,h6,h7⟩
 · rintro ⟨⟨⟨⟨⟨h1,h2⟩,h3⟩,h4⟩,h5⟩,h6,h7⟩
   exact ⟨h1,h2,h3,h4,h5,h6,h7⟩
theorem Ey (w0:Wd) (v u:Vl) (x y:FrD) (hx:Wf w0 v x) (hy:Wf w0 u y):Ret Pg 62 #[v,u] w0 λ r w'=>r = .bool (decide (x=y))∧Ext w0 w':=by
 obtain ⟨bv1,tv1,rfl,hB1,hT1,b1,t1⟩:=hx.op
 obtain ⟨bv2,tv2,rfl,hB2,hT2,b2,t2⟩:=hy.op
 refine ZjV (R:=ZI _) ?_;unfold n18
 rw [YB]
 have o1:=Zv w0 (Zz x bv1 tv1).toArray 43
 have e1:Ext w0 (w0.alloc (.cells (Zz x bv1 tv1).toArray 43)):=(Ext.refl w0).alloc _
 generalize (w0.alloc (.cells (Zz x bv1 tv1).toArray 43))=W1 at o1 e1 ⊢
 rw [YB]
 have o2:=Zv W1 (Zz y bv2 tv2).toArray 43
 have e2:Ext W1 (W1.alloc (.cells (Zz y bv2 tv2).toArray 43)):=(Ext.refl W1).alloc _
 generalize (W1.alloc (.cells (Zz y bv2 tv2).toArray 43))=W at o2 e2 ⊢
 replace o1:=e2.obj o1
 have e:=e1.trans e2
 generalize w0.heap.size=p1 at o1 ⊢
 generalize W1.heap.size=p2 at o2 ⊢
 rw [Zfo]
 unfold ZbK ZbJ ZbI ZbH ZbG Zo
 simp (disch:=try exact DI) only [↓PR,QR,simprocAttr,(Za o1).1,(Za o2).1]
 have hd:(decide (x.to=y.to)&&(x.kind == y.kind)&&decide (x.fr=y.fr)&&(x.add == y.add)&&(x.value == y.value))=Et x y:=rfl
 rw [hd]
 cases hh:Et x y with
 | false=>
  simp (disch:=try exact DI) only [↓PR,QR,simprocAttr]
  exact ⟨by simp,e⟩
 | true=>
  simp (disch:=try exact DI) only [↓PR,QR,simprocAttr]
  refine zcr (jN W bv1 bv2 x.bytes y.bytes (hB1.ext e) (hB2.ext e)) λ w3 e3=>?_
  by_cases hb:x.bytes=y.bytes
  · rw [decide_eq_true hb]
    simp (disch:=try exact DI) only [↓PR,QR,simprocAttr,(Za (e3.obj o1)).1,(Za (e3.obj o2)).1]
    refine zcr (Ci w3 tv1 tv2 x.table y.table (hT1.ext (e.trans e3)) (hT2.ext (e.trans e3))) λ w4 e4=>?_
    simp (disch:=try exact DI) only [↓PR,QR,simprocAttr]
    exact ⟨by simp,e.trans (e3.trans e4)⟩
  · rw [decide_eq_false hb]
    simp (disch:=try exact DI) only [↓PR,QR,simprocAttr]
    exact ⟨by simp,e.trans e3⟩
theorem Zfx (x y:MrD):decide (x=y)=(decide (x.fr=y.fr)&&decide (x.to=y.to)&&decide (x.fields=y.fields)):=by
 obtain ⟨a1,a2,a3⟩:=x
 obtain ⟨b1,b2,b3⟩:=y
 rw [Bool.eq_iff_iff]
 simp only [MrD.mk.injEq,decide_eq_true_eq,Bool.and_eq_true]
 exact ⟨λ ⟨h1,h2,h3⟩=>⟨⟨h1,h2⟩,h3⟩,λ ⟨⟨h1,h2⟩,h3⟩=>⟨h1,h2,h3⟩⟩
theorem Ez (w0:Wd) (v u:Vl) (x y:MrD) (hx:UF w0 v x) (hy:UF w0 u y) (q:Nat) (T:TypeId) (oq:w0.heap[q]?=some (.cells #[.func (.func 62) #[] #[]] T (0,0))):Ret Pg 65 #[v,u,.pointer (some ⟨q,0,none⟩)] w0 λ r w'=>r = .bool (decide (x=y))∧Ext w0 w':=by
 obtain ⟨fv1,rfl,hF1,t1⟩:=hx.op
 obtain ⟨fv2,rfl,hF2,t2⟩:=hy.op
 refine ZjW (R:=ZI _) ?_;unfold n19
 rw [YB]
 have o1:=Zv w0 (Z6 x fv1).toArray 60
 have e1:Ext w0 (w0.alloc (.cells (Z6 x fv1).toArray 60)):=(Ext.refl w0).alloc _
 generalize (w0.alloc (.cells (Z6 x fv1).toArray 60))=W1 at o1 e1 ⊢
 rw [YB]
 have o2:=Zv W1 (Z6 y fv2).toArray 60
 have e2:Ext W1 (W1.alloc (.cells (Z6 y fv2).toArray 60)):=(Ext.refl W1).alloc _
 generalize (W1.alloc (.cells (Z6 y fv2).toArray 60))=W at o2 e2 ⊢
 replace o1:=e2.obj o1
 have e:=e1.trans e2
 have oq':=e.obj oq
 generalize w0.heap.size=p1 at o1 ⊢
 generalize W1.heap.size=p2 at o2 ⊢
 rw [Zfx]
 unfold ZbL Zo
 simp (disch:=try exact DI) only [↓PR,QR,simprocAttr,(Za o1).1,(Za o2).1,(Za oq').1]
 cases hh:(decide (x.fr=y.fr)&&decide (x.to=y.to)) with
 | false=>
  simp (disch:=try exact DI) only [↓PR,QR,simprocAttr]
  exact ⟨by simp,e⟩
 | true=>
  simp (disch:=try exact DI) only [↓PR,QR,simprocAttr]
  refine zcr (UE W fv1 fv2 x.fields y.fields _ #[] (hF1.ext e) (hF2.ext e) c62 λ w v u a b _ h1 h2=>Ey w v u a b h1 h2) λ w3 e3=>?_
  simp (disch:=try exact DI) only [↓PR,QR,simprocAttr]
  exact ⟨by simp,e.trans e3⟩
theorem Zea (x y:Yo):decide (x=y)=(decide (x.name=y.name)&&decide (x.rules=y.rules)):=by
 obtain ⟨a1,a2⟩:=x
 obtain ⟨b1,b2⟩:=y
 rw [Bool.eq_iff_iff]
 simp only [Yo.mk.injEq,decide_eq_true_eq,Bool.and_eq_true]
theorem IX (w0:Wd) (v u:Vl) (x y:Yo) (hx:YO w0 v x) (hy:YO w0 u y):Ret Pg 27 #[v,u] w0 λ r w'=>r = .bool (decide (x=y))∧Ext w0 w':=by
 obtain ⟨fv1,rfl,hF1,t1⟩:=hx.op
 obtain ⟨fv2,rfl,hF2,t2⟩:=hy.op
 refine ZjU (R:=ZI _) ?_;unfold n17
 rw [YB]
 have o1:=Zv w0 (ZL x fv1).toArray 24
 have e1:Ext w0 (w0.alloc (.cells (ZL x fv1).toArray 24)):=(Ext.refl w0).alloc _
 generalize (w0.alloc (.cells (ZL x fv1).toArray 24))=W1 at o1 e1 ⊢
 rw [YB]
 have o2:=Zv W1 (ZL y fv2).toArray 24
 have e2:Ext W1 (W1.alloc (.cells (ZL y fv2).toArray 24)):=(Ext.refl W1).alloc _
 generalize (W1.alloc (.cells (ZL y fv2).toArray 24))=W at o2 e2 ⊢
 replace o1:=e2.obj o1
 have e:=e1.trans e2
 generalize w0.heap.size=p1 at o1 ⊢
 generalize W1.heap.size=p2 at o2 ⊢
 rw [Zea]
 have l1:=(Array.getElem?_eq_some_iff.1 o1).1
 have l2:=(Array.getElem?_eq_some_iff.1 o2).1
 have s1:∀ (w:Wd) (u:Vl) (j:Nat),(w.setCell ⟨W.heap.size,0,none⟩ u).cell? ⟨p1,j,none⟩=w.cell? ⟨p1,j,none⟩:=λ w u j=>YJ (.inl (by omega))
 have s2:∀ (w:Wd) (u:Vl) (j:Nat),(w.setCell ⟨W.heap.size,0,none⟩ u).cell? ⟨p2,j,none⟩=w.cell? ⟨p2,j,none⟩:=λ w u j=>YJ (.inl (by omega))
 have a1:∀ (o:Obj) (j:Nat),(W.alloc o).cell? ⟨p1,j,none⟩=W.cell? ⟨p1,j,none⟩:=λ o j=>World.cell?_of_block (((Ext.refl W).alloc o).block p1 l1)
 have a2:∀ (o:Obj) (j:Nat),(W.alloc o).cell? ⟨p2,j,none⟩=W.cell? ⟨p2,j,none⟩:=λ o j=>World.cell?_of_block (((Ext.refl W).alloc o).block p2 l2)
 unfold Zo
 simp (disch:=try exact DI) only [↓PR,QR,simprocAttr,s1,s2,a1,a2,(Za o1).1,(Za o2).1]
 cases hh:decide (x.name=y.name) with
 | false=>
  simp (disch:=try exact DI) only [↓PR,QR,simprocAttr]
  exact ⟨by trivial,by first | exact e.alloc _ | exact (e.alloc _).setCell (Nat.le_trans e.size (Nat.le_refl _)) _⟩
 | true=>
  simp (disch:=try exact DI) only [↓PR,QR,simprocAttr]
  have oV:=Zv W #[.func (.func 62) #[] #[]] 88
  have eV:Ext W (W.alloc (.cells #[.func (.func 62) #[] #[]] 88)):=(Ext.refl W).alloc _
  generalize (W.alloc (.cells #[.func (.func 62) #[] #[]] 88))=V at oV eV ⊢
  refine zcr (V9 V fv1 fv2 x.rules y.rules _ _ (hF1.ext (e.trans eV)) (hF2.ext (e.trans eV)) c65 λ w v u a b ew h1 h2=>Ez w v u a b h1 h2 _ _ (ew.obj oV)) λ w3 e3=>?_
  simp (disch:=try exact DI) only [↓PR,QR,simprocAttr]
  exact ⟨by trivial,e.trans (eV.trans e3)⟩
def idF (f:Zq):Option FrD:=if 4≤YU f then some ⟨f.name,6,f.name,0,0,[],[]⟩ else if YU f≠0 then some ⟨f.name,1,f.name,0,0,[],[]⟩ else none
def idR (x:YT):MrD:=⟨x.name,x.name,x.fields.filterMap idF⟩
def idM (d:Xv):Yo:=⟨d.name,d.msgs.map idR⟩
theorem Vx (f:Zq):(YU f=0∧idF f=none)∨(4≤YU f∧idF f=some ⟨f.name,6,f.name,0,0,[],[]⟩)∨(YU f≠0∧¬ 4≤YU f∧idF f=some ⟨f.name,1,f.name,0,0,[],[]⟩):=by
 unfold idF
 by_cases h:4≤YU f
 · rw [if_pos h];exact .inr (.inl ⟨h,rfl⟩)
 · rw [if_neg h]
   by_cases h0:YU f=0
   · rw [if_neg (by simpa using h0)];exact .inl ⟨h0,rfl⟩
   · rw [if_pos h0];exact .inr (.inr ⟨h0,h,rfl⟩)
theorem Eu {f:Zq} {r:FrD} (h:idF f=some r):r.to=f.name∧r.fr=f.name∧YU f≠0:=by
 rcases Vx f with ⟨_,h1⟩ | ⟨h0,h1⟩ | ⟨h0,_,h1⟩<;>rw [h1] at h
 · cases h
 · injection h with h;subst h;exact ⟨rfl,rfl,by omega⟩
 · injection h with h;subst h;exact ⟨rfl,rfl,h0⟩
theorem Zfs (d:Xv):∀ r∈(idM d).rules,∀ x∈r.fields,inF x=true:=by
 intro r hr x hx
 obtain ⟨y,_,rfl⟩:=List.mem_map.1 hr
 obtain ⟨f,_,hf⟩:=List.mem_filterMap.1 hx
 rcases Vx f with ⟨_,h1⟩ | ⟨_,h1⟩ | ⟨_,_,h1⟩<;>rw [h1] at hf
 · cases hf
 · injection hf with hf;subst hf;rfl
 · injection hf with hf;subst hf;rfl
theorem Ao {α β:Type} [DecidableEq β] (g:α→β):∀ {l:List α} {f:α},l.Pairwise (λ x y=>g x≠g y)→f∈l→l.find? (λ x=>decide (g x=g f))=some f
 | [],_,_,h=>by cases h
 | x::l,f,hp,h=>by
  rw [List.pairwise_cons] at hp
  by_cases hx:g x=g f
  · rw [List.find?_cons_of_pos (by simpa using hx)]
    rcases List.mem_cons.1 h with rfl | h
    · rfl
    · exact absurd hx (hp.1 f h)
  · rw [List.find?_cons_of_neg (by simpa using hx)]
    rcases List.mem_cons.1 h with rfl | h
    · exact absurd rfl hx
    · exact Ao g hp.2 h
theorem ZdJ {α β:Type} [DecidableEq β] (g:α→β) {l:List α} (hp:l.Pairwise (λ x y=>g x≠g y)) {i:Nat} {f:α} (hi:l[i]?=some f):l.findIdx? (λ x=>decide (g x=g f))=some i:=by
 rcases Fl (λ x:α=>decide (g x=g f)) l with ⟨h1,_⟩ | ⟨k,x,hx,h1,h2,_⟩
 · have:=List.find?_eq_none.1 h1 f (List.mem_of_getElem? hi)
   simp at this
 · rw [h2]
   congr 1
   have hg:g x=g f:=by simpa using List.find?_some h1
   obtain ⟨hk,ek⟩:=List.getElem?_eq_some_iff.1 hx
   obtain ⟨hi',ei⟩:=List.getElem?_eq_some_iff.1 hi
   rw [List.pairwise_iff_getElem] at hp
   rcases Nat.lt_trichotomy k i with h | h | h
   · exact absurd (by rw [ek,ei,hg]) (hp k i hk hi' h)
   · exact h
   · exact absurd (by rw [ek,ei,hg]) (hp i k hi' hk h)
theorem qX {Zr:List (BAr×Int)} {ZC:List (BAr×Bool)}:∀ (l bef:List Zq),(Xb Zr ZC bef l).2=0→bef.Pairwise (λ x y=>x.name≠y.name)→(bef++l).Pairwise (λ x y=>x.name≠y.name)
 | [],bef,_,h=>by rw [List.append_nil];exact h
 | f::l,bef,h,hb=>by
  unfold Xb at h
  by_cases h0:X9 bef (vI Zr) (vB ZC) f=0
  · rw [if_pos h0] at h
    have hn:∀ o∈bef,o.name≠f.name:=by
     unfold X9 at h0
     simp only [WX,Wk (show (2:Int)≠0 by decide)] at h0
     have h2:=h0.2.1
     intro o ho he
     have:(bef.any λ o=>decide (o.name=f.name))=true:=List.any_eq_true.2 ⟨o,ho,by simpa using he⟩
     rw [this] at h2
     cases h2
    have:=qX l (bef++[f]) h (by
     rw [List.pairwise_append]
     refine ⟨hb,by simp,λ a ha b hb'=>?_⟩
     rw [List.mem_singleton.1 hb']
     exact hn a ha)
    rw [List.append_assoc] at this
    exact this
  · rw [if_neg h0] at h
    exact absurd h h0
section
variable {d:Xv}
theorem AP (h:(Xo d).2.2=0):d.msgs.Pairwise (λ x y=>x.name≠y.name):=by
 obtain ⟨_,_,hF,_⟩:=VF h
 rw [List.pairwise_iff_getElem]
 intro i j hi hj hij he
 have hx:d.msgs[j]?=some d.msgs[j]:=List.getElem?_eq_getElem hj
 have hn:=(Kn (hF.next hx)).2.1
 have:(ZS (Xx (d.msgs.take j)) d.msgs[j].name).isSome=true:=isD.2 ⟨d.msgs[i],List.mem_of_getElem? (i:=i) (by rw [List.getElem?_take,if_pos hij,List.getElem?_eq_getElem hi]),he⟩
 rw [hn] at this
 cases this
theorem zW (h:(Xo d).2.2=0) {x:YT} (hx:x∈d.msgs):x.fields.Pairwise (λ a b=>a.name≠b.name):=by
 obtain ⟨_,_,hF,_⟩:=VF h
 obtain ⟨k,hk⟩:=List.getElem?_of_mem hx
 have:=(Kn (hF.next hk)).2.2.2.1
 exact qX _ _ this List.Pairwise.nil
theorem LR (h:(Xo d).2.2=0) {x:YT} (hx:x∈d.msgs) {f:Zq} (hf:f∈x.fields) {s:BAr} (hs:s∈Yy f):∃ y∈d.msgs,y.name=s:=by
 obtain ⟨_,_,hF,_⟩:=VF h
 obtain ⟨k,hk⟩:=List.getElem?_of_mem hx
 have h4:=(Kn (hF.next hk)).2.2.2.1
 have:=(qB (Sub.refl _) (Sub.refl _) (Zfk _) _ _ h4).2 s (List.mem_flatMap.2 ⟨f,hf,hs⟩)
 obtain ⟨y,hy,he⟩:=isD.1 this
 exact ⟨y,List.mem_of_mem_take hy,he⟩
theorem H3 (h:(Xo d).2.2=0):(idM d).rules.Pairwise (λ x y=>x.fr≠y.fr):=by
 unfold idM
 simp only
 rw [List.pairwise_map]
 exact AP h
theorem PG {s:BAr} (h:∃ y∈d.msgs,y.name=s):∃ r,(idM d).rules.find? (λ r=>decide (r.fr=s))=some r∧r.to=s:=by
 obtain ⟨y,hy,he⟩:=h
 rcases Fl (λ r:MrD=>decide (r.fr=s)) (idM d).rules with ⟨h1,_⟩ | ⟨k,x,hx,h1,_⟩
 · have:=List.find?_eq_none.1 h1 (idR y) (List.mem_map.2 ⟨y,hy,rfl⟩)
   simp [idR,he] at this
 · refine ⟨x,h1,?_⟩
   obtain ⟨z,_,rfl⟩:=List.mem_map.1 (List.mem_of_getElem? hx)
   have hz:=List.find?_some h1
   exact of_decide_eq_true hz
theorem ZdW (h:(Xo d).2.2=0) {x:YT} (hx:x∈d.msgs) {f:Zq} (hf:f∈x.fields) {r:FrD} (hr:idF f=some r) {bef:List FrD} (hb:∀ y∈bef,y.to≠r.to):x8 (idM d) r x x bef=0:=by
 obtain ⟨e1,e2,h0⟩:=Eu hr
 have hp:Qa x f.name=some f:=Ao (λ f:Zq=>f.name) (zW h hx) hf
 have hb':(bef.any λ x=>decide (x.to=r.to))=false:=by
  rw [List.any_eq_false]
  intro y hy
  simpa using hb y hy
 unfold x8
 rw [hb',e1,e2,hp,if_neg (show ¬ Co (some f)=0 from h0),if_neg (by simp)]
 rcases Vx f with ⟨h1,_⟩ | ⟨h4,h1⟩ | ⟨_,h4,h1⟩
 · exact absurd h1 h0
 · rw [h1] at hr
   injection hr with hr
   subst hr
   show (if Ws _ ⟨true,false,false,false,false⟩=false then (7:Int) else QV _ _ _ _)=0
   rw [if_neg (by unfold Ws;simp)]
   show (if YU f≠YU f∨YU f < 4 then (5:Int) else Dw (idM d) (some f) (some f))=0
   rw [if_neg (by omega)]
   unfold Dw
   rw [if_pos]
   rw [List.all_eq_true]
   intro s hs
   obtain ⟨r',hr',ht⟩:=PG (LR h hx hf (by rw [GX h4];exact hs))
   unfold okN
   rw [hr']
   exact List.any_eq_true.2 ⟨s,hs,by simpa using ht⟩
 · rw [h1] at hr
   injection hr with hr
   subst hr
   show (if Ws _ ⟨true,false,false,false,false⟩=false then (7:Int) else QV _ _ _ _)=0
   rw [if_neg (by unfold Ws;simp)]
   show (if YU f≠YU f∨3 < YU f then (5:Int) else 0)=0
   rw [if_neg (by omega)]
theorem zV {m:Yo} {a b:YT} {all:List FrD}:∀ (l:List FrD) (k:Nat),(∀ j r,l[j]?=some r→x8 m r a b (all.take (k+j))=0)→X6 m a b all k l=(-1,0)
 | [],_,_=>rfl
 | r::l,k,h=>by
  have h0:=h 0 r rfl
  rw [Nat.add_zero] at h0
  rw [X6,if_neg (by rw [h0];simp)]
  exact zV l (k+1) λ j x hx=>by
   have:=h (j+1) x hx
   rwa [show k+(j+1)=k+1+j by omega] at this
theorem jh {m:Yo} {d e:Xv}:∀ (l:List MrD) (i:Nat),(∀ j r,l[j]?=some r→(yX m d e (i+j) r).2=0)→Ku m d e i l=(-1,-1,0)
 | [],_,_=>rfl
 | r::l,i,h=>by
  have h0:=h 0 r rfl
  rw [Nat.add_zero] at h0
  rw [Ku,if_neg (by rw [h0];simp)]
  exact jh l (i+1) λ j x hx=>by
   have:=h (j+1) x hx
   rwa [show i+(j+1)=i+1+j by omega] at this
theorem ZaC (h:(Xo d).2.2=0) {i:Nat} {x:YT} (hx:d.msgs[i]?=some x):yX (idM d) d d i (idR x)=(-1,0):=by
 have hm:=List.mem_of_getElem? hx
 have h1:AO d x.name=some x:=Ao (λ x:YT=>x.name) (AP h) hm
 have h2:KF (idM d) x.name=some i:=ZdJ (λ r:MrD=>r.fr) (H3 h) (i:=i) (f:=idR x) (by unfold idM;rw [List.getElem?_map,hx];rfl)
 have hto:(idR x).fields.Pairwise (λ a b=>a.to≠b.to):=by
  unfold idR
  simp only
  refine (zW h hm).filterMap _ λ a a' YN b hb b' hb'=>?_
  rw [(Eu hb).1,(Eu hb').1]
  exact YN
 have h3:X6 (idM d) x x (idR x).fields 0 (idR x).fields=(-1,0):=by
  refine zV _ 0 λ j r hr=>?_
  obtain ⟨f,hf,hfr⟩:=List.mem_filterMap.1 (List.mem_of_getElem? hr)
  refine ZdW h hm hf hfr λ y hy=>?_
  rw [Nat.zero_add] at hy
  obtain ⟨k,hk⟩:=List.getElem?_of_mem hy
  rw [List.getElem?_take] at hk
  split at hk
  · rename_i hkj
    obtain ⟨g1,e1⟩:=List.getElem?_eq_some_iff.1 hk
    obtain ⟨g2,e2⟩:=List.getElem?_eq_some_iff.1 hr
    have:=List.pairwise_iff_getElem.1 hto k j g1 g2 hkj
    rwa [e1,e2] at this
  · cases hk
 have h4:x.fields.any (UW (idR x).fields)=false:=by
  rw [List.any_eq_false]
  intro f hf
  unfold UW
  cases ho:idF f with
  | none=>
   rcases Vx f with ⟨h0,_⟩ | ⟨_,h1⟩ | ⟨_,_,h1⟩
   · simp [h0]
   · rw [ho] at h1;cases h1
   · rw [ho] at h1;cases h1
  | some r=>
   have:((idR x).fields.any λ x=>decide (x.to=f.name))=true:=List.any_eq_true.2 ⟨r,List.mem_filterMap.2 ⟨f,hf,ho⟩,by simpa using (Eu ho).1⟩
   rw [this]
   simp
 unfold yX
 show (match AO d x.name,AO d x.name with
  | some a,some b=>if KF (idM d) x.name≠some i then ((-1:Int),(4:Int)) else
   let q:=X6 (idM d) a b (idR x).fields 0 (idR x).fields
   if q.2≠0 then q else if (b.fields.any (UW (idR x).fields))=true then (-1,10) else (-1,0)
  | _,_=>(-1,3))=_
 rw [h1]
 simp only
 rw [h2,if_neg (by simp),h3,h4]
 rfl
theorem PI (h:(Xo d).2.2=0):KK (idM d) d d=none:=by
 obtain ⟨n1,n2,_,n4⟩:=VF h
 have hf:Xn d=false:=by unfold Xn;simpa using h
 have hl:(idM d).rules.length=d.msgs.length:=by unfold idM;rw [List.length_map]
 unfold KK
 rw [hf,if_neg (by simp),show Z4 (idM d).name=true from n1,if_neg (by simp),if_neg (by rw [hl];omega),jh _ 0 λ j r hr=>?_]
 · unfold Em
   rw [if_neg (by simp),if_pos]
   obtain ⟨r,hr,ht⟩:=PG (isD.1 n4)
   unfold Ga
   rw [hr]
   simpa using ht
 · unfold idM at hr
   rw [List.getElem?_map] at hr
   cases hx:d.msgs[j]? with
   | none=>rw [hx] at hr;cases hr
   | some x=>
    rw [hx] at hr
    injection hr with hr
    subst hr
    rw [Nat.zero_add,ZaC h hx]
end
abbrev Je (x:FrD):List Vl:=Zz x Xd Xd
def LP (x:FrD):Prop:=x.bytes=[]∧x.table=[]
theorem j7 {w:Wd} {QP:PEn} {k:KV} {base:Nat} {v:Vl} {l:List FrD} (x:FrD) {b:Nat} (xv:ZW w base 43 7 Je v l) (hc:w.heap[b]?=some (.cells (Je x).toArray 43 (0,0))) (UT:base≤w.heap.size) (hl:l.length≤1048576)
 (hk:∀ v' w',ZW w' base 43 7 Je v' (l++[x])→w.grownBy w' v.ownBlock→k v' w') :
 opV Pg (Builtin.append_ #[58,58] 58 #[v,.slice (some ⟨b,0,none⟩) 1 1]) QP w k:=by
 have hby:=Ze0
 refine We (l':=[x]) underlying58 Ud rfl (by decide) (λ _=>rfl) (λ y hy u hu=>by simp only [List.mem_cons,List.not_mem_nil,or_false] at hu;rcases hu with rfl | rfl | rfl | rfl | rfl | rfl | rfl<;>rfl) xv (λ j y hy=>?_) UT ?_ (by simp;omega) hk
 · cases j with
   | zero=>
    simp at hy;subst hy
    intro j v hv
    rw [(Za hc).1]
    simpa using hv
   | succ j=>simp at hy
 · simp only [List.length_cons,List.length_nil]
   exact Nat.le_trans (Nat.mul_le_mul (Nat.add_le_add_right hl 1) hby) (by decide)
structure InI (w1 w:Wd) (p7:Nat) (n:BAr) (fv:Vl) (fs:List FrD):Prop where
 e:Ext w1 w
 l7:w1.heap.size≤p7
 o7:w.heap[p7]?=some (.cells (Z6 ⟨n,n,fs⟩ fv).toArray 60 (0,0))
 own:ZW w w1.heap.size 43 7 Je fv fs
section
variable {w1 w:Wd} {p7 p9:Nat} {n:BAr} {fv tv cv:Vl} {fs:List FrD} {f:Zq} {K3:WPr} {R:RT}
theorem InI.go {w':Wd} (h:InI w1 w p7 n fv fs) (e:Ext w w'):InI w1 w' p7 n fv fs:=⟨h.e.trans e,h.l7,e.obj h.o7,h.own.ext e⟩
theorem InI.add (h:InI w1 w p7 n fv fs) (x:FrD) {V w':Wd} {v':Vl} (eV:Ext w V) (hO':ZW w' w1.heap.size 43 7 Je v' (fs++[x])) (hg:V.grownBy w' fv.ownBlock):InI w1 (w'.setCell ⟨p7,2,none⟩ v') p7 n v' (fs++[x]):=by
 have hOV:=h.own.ext eV
 have o7:=Q0 hOV hg (eV.obj h.o7) (by decide)
 have e':Ext w1 w':=(h.e.trans eV).grown hg λ b hb=>(World.ownsRow.lt h.own b hb).1
 have hc:Chg p7 w' (w'.setCell ⟨p7,2,none⟩ v'):=⟨by rw [World.size_setCell];exact Nat.le_refl _,λ b _ hb=>YG.setCell _ p7 _ _ b hb⟩
 exact ⟨e'.setCell (p:=⟨p7,2,none⟩) h.l7 _,h.l7,Zw (o:=2) o7 v',WY hO' hc (Q6 hO' o7 (by decide))⟩
theorem ZaB (h:InI w1 w p7 n fv fs) (o9:w.heap[p9]?=some (.cells (Zp f tv cv).toArray 123 (0,0))) (hl:fs.length≤1048576)
 (hK:∀ w' fv',InI w1 w' p7 n fv' (fs++[⟨f.name,6,f.name,0,0,[],[]⟩])→K3 w'):Rh (.pointer (some ⟨p7,0,none⟩)) (.pointer (some ⟨p9,0,none⟩)) K3 R w:=by
 unfold Rh
 simp (disch:=try exact DI) only [↓PR,QR,simprocAttr,(Za h.o7).1,(Za o9).1]
 have eV:Ext w (w.alloc (.cells (Je ⟨f.name,6,f.name,0,0,[],[]⟩).toArray 43)):=(Ext.refl w).alloc _
 have oV:=Zv w (Je ⟨f.name,6,f.name,0,0,[],[]⟩).toArray 43
 change opV _ _ _ (w.alloc (.cells (Je ⟨f.name,6,f.name,0,0,[],[]⟩).toArray 43)) _
 generalize (w.alloc (.cells (Je ⟨f.name,6,f.name,0,0,[],[]⟩).toArray 43))=V at eV oV ⊢
 refine j7 ⟨f.name,6,f.name,0,0,[],[]⟩ (h.own.ext eV) oV (Nat.le_trans h.e.size eV.size) hl ?_
 intro v' w' hO' hg
 have o7:=Q0 (h.own.ext eV) hg (eV.obj h.o7) (by decide)
 have v1:v'.oneCell'=true:=Zc.oneCell (hO'.slice (E:=λ _ cs x=>cs=Je x) (λ _=>rfl) (λ _ _=>rfl))
 simp (disch:=try exact DI) only [↓PR,QR,simprocAttr,(Za o7).1,(Za o7).2]
 exact hK _ _ (h.add _ eV hO' hg)
theorem ZaA (h:InI w1 w p7 n fv fs) (o9:w.heap[p9]?=some (.cells (Zp f tv cv).toArray 123 (0,0))) (hl:fs.length≤1048576)
 (hK:∀ w' fv',InI w1 w' p7 n fv' (fs++[⟨f.name,1,f.name,0,0,[],[]⟩])→K3 w'):Rg (.pointer (some ⟨p7,0,none⟩)) (.pointer (some ⟨p9,0,none⟩)) K3 R w:=by
 unfold Rg
 simp (disch:=try exact DI) only [↓PR,QR,simprocAttr,(Za h.o7).1,(Za o9).1]
 have eV:Ext w (w.alloc (.cells (Je ⟨f.name,1,f.name,0,0,[],[]⟩).toArray 43)):=(Ext.refl w).alloc _
 have oV:=Zv w (Je ⟨f.name,1,f.name,0,0,[],[]⟩).toArray 43
 change opV _ _ _ (w.alloc (.cells (Je ⟨f.name,1,f.name,0,0,[],[]⟩).toArray 43)) _
 generalize (w.alloc (.cells (Je ⟨f.name,1,f.name,0,0,[],[]⟩).toArray 43))=V at eV oV ⊢
 refine j7 ⟨f.name,1,f.name,0,0,[],[]⟩ (h.own.ext eV) oV (Nat.le_trans h.e.size eV.size) hl ?_
 intro v' w' hO' hg
 have o7:=Q0 (h.own.ext eV) hg (eV.obj h.o7) (by decide)
 have v1:v'.oneCell'=true:=Zc.oneCell (hO'.slice (E:=λ _ cs x=>cs=Je x) (λ _=>rfl) (λ _ _=>rfl))
 simp (disch:=try exact DI) only [↓PR,QR,simprocAttr,(Za o7).1,(Za o7).2]
 exact hK _ _ (h.add _ eV hO' hg)
theorem NT {f:Zq} {r:FrD} (h:idF f=some r):LP r:=by
 rcases Vx f with ⟨_,h1⟩ | ⟨_,h1⟩ | ⟨_,_,h1⟩<;>rw [h1] at h
 · cases h
 · injection h with h;subst h;exact ⟨rfl,rfl⟩
 · injection h with h;subst h;exact ⟨rfl,rfl⟩
theorem PH {k:Nat} {Yj:KV} (h:InI w1 w p7 n fv fs) (hf:Z0 w (.agg (Zp f tv cv).toArray) f) (hl:fs.length≤1048576) (hk:k≤1000000000) (o9:w.heap[p9]?=some (.cells (Zp f tv cv).toArray 123 (0,0)))
 (hN:∀ w' fv',InI w1 w' p7 n fv' (fs++(idF f).toList)→Yj (.int .i64 ((k:Int)+1)) w'):Ri (.pointer (some ⟨p7,0,none⟩)) (.pointer (some ⟨p9,0,none⟩)) (.int .i64 k) (.int .i64 (YU f)) Yj R w:=by
 have hwk:IntKind.i64.wrap ((k:Int)+1)=(k:Int)+1:=XC (by omega) (by omega)
 unfold Ri Zo
 rcases Vx f with ⟨h0,h1⟩ | ⟨h0,h1⟩ | ⟨h0,h2,h1⟩
 · rw [h1] at hN
   rw [h0]
   simp (disch:=try exact DI) only [↓PR,QR,simprocAttr,hwk]
   exact hN _ _ (by simpa using h)
 · rw [h1] at hN
   have d1:decide (YU f≥4)=true:=by simp only [decide_eq_true_eq];omega
   simp (disch:=try exact DI) only [↓PR,QR,simprocAttr,d1]
   refine ZaB h o9 hl λ w' fv' h'=>?_
   exact hN _ _ h'
 · rw [h1] at hN
   have d1:decide (YU f≥4)=false:=by simp only [decide_eq_false_iff_not];omega
   have d2:(YU f != 0)=true:=by simp only [bne_iff_ne,ne_eq];exact h0
   simp (disch:=try exact DI) only [↓PR,QR,simprocAttr,d1,d2]
   refine ZaA h o9 hl λ w' fv' h'=>?_
   exact hN _ _ h'
end
def EId (w:Wd) (lo:Nat) (cs:List Vl) (r:MrD):Prop:=∃ fv,cs=Z6 r fv∧ZW w lo 43 7 Je fv r.fields∧∀ x∈r.fields,LP x
theorem EId.ext {w w':Wd} {lo:Nat} {cs:List Vl} {r:MrD} (h:EId w lo cs r) (e:Ext w w'):EId w' lo cs r:=by obtain ⟨fv,h1,h2,h3⟩:=h;exact ⟨fv,h1,h2.ext e,h3⟩
theorem EId.mr {w:Wd} {lo:Nat} {cs:List Vl} {r:MrD} (h:EId w lo cs r):EMr w cs r:=by
 obtain ⟨fv,h1,h2,h3⟩:=h
 exact ⟨fv,h1,h2.slice (λ _=>rfl) λ x hx=>Er w x (h3 x hx).1 (h3 x hx).2⟩
theorem EId.chg {w w':Wd} {lo g:Nat} {cs:List Vl} {r:MrD} {oc:AVl} {T:TypeId} {f:Nat×Nat} (h:EId w lo cs r) (hc:Chg g w w') (ho:w.heap[g]?=some (.cells oc T f)) (hT:43≠T):EId w' lo cs r:=by
 obtain ⟨fv,h1,h2,h3⟩:=h
 exact ⟨fv,h1,WY h2 hc (Q6 h2 ho hT),h3⟩
theorem EId.grow {α:Type} {w w':Wd} {lo lo2 n:Nat} {cs:List Vl} {r:MrD} {v:Vl} {l:List α} {enc:α→List Vl} {T:TypeId} (h:EId w lo cs r) (hO:ZW w lo2 T n enc v l) (hg:w.grownBy w' v.ownBlock) (hT:43≠T):EId w' lo cs r:=by
 rcases yT hO hg with e | ⟨g,oc,f,_,ho,hc⟩
 · exact h.ext e
 · exact h.chg hc ho hT
structure IdS (w0 w:Wd) (p2 p4:Nat) (nm:BAr) (rv:Vl) (done:List MrD):Prop where
 e:Ext w0 w
 l2:w0.heap.size≤p2
 l4:w0.heap.size≤p4
 ne:p2≠p4
 o2:w.heap[p2]?=some (.cells (ZL ⟨ByteArray.empty,[]⟩ Xd).toArray 24 (0,0))
 o4:w.heap[p4]?=some (.cells #[.string nm,rv] 24 (0,0))
 row:∃ css:List (Cs 3),ZW w w0.heap.size 60 3 Subtype.val rv css∧VB 3 (EId w w0.heap.size) css done
section
variable {w0 w1 w:Wd} {p2 p4 p7:Nat} {nm n:BAr} {rv fv:Vl} {done:List MrD} {fs:List FrD} {R:RT} {d:Xv} {k:Nat}
theorem IdS.go (h:IdS w0 w p2 p4 nm rv done) {w':Wd} (e:Ext w w'):IdS w0 w' p2 p4 nm rv done:=by
 obtain ⟨h1,h2,h3,YN,h4,h5,css,h6,h7⟩:=h
 exact ⟨h1.trans e,h2,h3,YN,e.obj h4,e.obj h5,css,h6.ext e,h7.imp λ _ _ q=>q.ext e⟩
theorem IdS.read (h:IdS w0 w p2 p4 nm rv done):VC w rv done:=by
 obtain ⟨css,h6,h7⟩:=h.row
 exact h6.reads (h7.imp λ _ _ q=>q.mr)
theorem ZdV {Zx:KV} (h:IdS w0 w1 p2 p4 nm rv done) (hi:InI w1 w p7 n fv fs) (hp:∀ x∈fs,LP x) (hl:done.length≤1048576) (hk:k≤1000000000)
 (hN:∀ w' rv',IdS w0 w' p2 p4 nm rv' (done++[⟨n,n,fs⟩])→Zx (.int .i64 ((k:Int)+1)) w'):Rj (.pointer (some ⟨p4,0,none⟩)) (.pointer (some ⟨p7,0,none⟩)) (.int .i64 k) Zx R w:=by
 have hwk:IntKind.i64.wrap ((k:Int)+1)=(k:Int)+1:=XC (by omega) (by omega)
 have h0:=h.go hi.e
 obtain ⟨css,hO,hM⟩:=h0.row
 have u1:fv.oneCell'=true:=Zc.oneCell (hi.own.slice (E:=λ _ cs x=>cs=Je x) (λ _=>rfl) (λ _ _=>rfl))
 have u2:rv.oneCell'=true:=Zc.oneCell h0.read
 unfold Rj
 simp (disch:=try exact DI) only [↓PR,QR,simprocAttr,(Za h0.o4).1,(Za hi.o7).1]
 have eV:Ext w (w.alloc (.cells (Z6 ⟨n,n,fs⟩ fv).toArray 60)):=(Ext.refl w).alloc _
 have oV:=Zv w (Z6 ⟨n,n,fs⟩ fv).toArray 60
 change opV _ _ _ (w.alloc (.cells (Z6 ⟨n,n,fs⟩ fv).toArray 60)) _
 generalize (w.alloc (.cells (Z6 ⟨n,n,fs⟩ fv).toArray 60))=V at eV oV ⊢
 have hml:css.length=done.length:=hM.1
 refine CM (x:=⟨Z6 ⟨n,n,fs⟩ fv,rfl⟩) (λ u hu=>?_) (hO.ext eV) oV (Nat.le_trans h0.e.size eV.size) (by omega) ?_
 · simp only [List.mem_cons,List.not_mem_nil,or_false] at hu
   rcases hu with rfl | rfl | rfl<;>first | rfl | assumption
 intro v' w' hO' hg
 have hOV:=hO.ext eV
 have o4:=Q0 hOV hg (eV.obj h0.o4) (by decide)
 have o2:=Q0 hOV hg (eV.obj h0.o2) (by decide)
 have e':Ext w0 w':=(h0.e.trans eV).grown hg λ b hb=>(World.ownsRow.lt hO b hb).1
 have v1:v'.oneCell'=true:=Zc.oneCell (hO'.slice (E:=λ _ cs x=>cs=x.1) (λ x=>x.2) (λ _ _=>rfl))
 simp (disch:=try exact DI) only [↓PR,QR,simprocAttr,(Za o4).1,(Za o4).2,hwk]
 have hc:Chg p4 w' (w'.setCell ⟨p4,1,none⟩ v'):=⟨by rw [World.size_setCell];exact Nat.le_refl _,λ b _ hb=>YG.setCell _ p4 _ _ b hb⟩
 have hnew:EId w w0.heap.size (Z6 ⟨n,n,fs⟩ fv) ⟨n,n,fs⟩:=⟨fv,rfl,hi.own.base h.e.size,hp⟩
 refine hN _ v' ⟨e'.setCell (p:=⟨p4,1,none⟩) h.l4 _,h.l2,h.l4,h.ne,(YG.setCell _ p4 _ _ p2 h.ne).trans o2,Zw (o:=1) o4 v',css++[⟨Z6 ⟨n,n,fs⟩ fv,rfl⟩],WY hO' hc (Q6 hO' o4 (by decide)),Gn (hM.imp λ _ _ q=>((q.ext eV).grow hOV hg (by decide)).chg hc o4 (by decide)) ⟨rfl,λ j y cs hx hcs=>?_⟩⟩
 cases j with
 | succ j=>simp at hx
 | zero=>
  simp at hx hcs
  subst hx hcs
  exact ((hnew.ext eV).grow hOV hg (by decide)).chg hc o4 (by decide)
end
theorem An {α β:Type} {g:α→Option β} {l:List α} {k:Nat} {x:α} (hx:l[k]?=some x):(l.take (k+1)).filterMap g=(l.take k).filterMap g++(g x).toList:=by
 rw [XM hx,List.filterMap_append]
 cases h:g x with
 | none=>simp [h]
 | some y=>simp [h]
def IdR (w0:Wd) (d:Xv) (r:Vl) (w':Wd):Prop:=Ext w0 w'∧∃ u,((Xn d=true∧r = .tuple #[u,.int .i64 2]∧YO w' u ⟨ByteArray.empty,[]⟩)∨(Xn d=false∧r = .tuple #[u,.int .i64 0]∧YO w' u (idM d)))
theorem DS (w0:Wd) (v:Vl) (d:Xv) (hd:Xk w0 v d) (hb:d.msgs.length≤1000000) (hb2:∀ x∈d.msgs,x.fields.length≤1000000):Ret Pg 28 #[v] w0 (IdR w0 d):=by
 obtain ⟨mv,rfl,hM⟩:=hd
 have hm1:=Zc.oneCell hM
 obtain ⟨A,c,rfl,hlc,hcm,hlm,Y1⟩:=Zc.open hM
 refine ZjX (R:=ZI _) ?_;unfold n20
 rw [YB]
 have o1:=Zv w0 (Yd d (.slice A d.msgs.length c)).toArray 27
 have e1:Ext w0 (w0.alloc (.cells (Yd d (.slice A d.msgs.length c)).toArray 27)):=(Ext.refl w0).alloc _
 have s1:(w0.alloc (.cells (Yd d (.slice A d.msgs.length c)).toArray 27)).heap.size=w0.heap.size+1:=World.size_alloc ..
 generalize (w0.alloc (.cells (Yd d (.slice A d.msgs.length c)).toArray 27))=W1 at o1 e1 s1 ⊢
 have o2:=Zv W1 (ZL ⟨ByteArray.empty,[]⟩ Xd).toArray 24
 have e2:Ext W1 (W1.alloc (.cells (ZL ⟨ByteArray.empty,[]⟩ Xd).toArray 24)):=(Ext.refl W1).alloc _
 have oA:=e2.obj o1
 have qA:∀ j,(W1.alloc (.cells #[Value.string ByteArray.empty,Value.slice none 0 0] 24)).cell? ⟨w0.heap.size,j,none⟩=(Yd d (.slice A d.msgs.length c)).toArray[j]?:=(Za oA).1
 simp (disch:=try exact DI) only [↓PR,QR,simprocAttr,qA]
 change ZV _ _ _ _ (W1.alloc (.cells (ZL ⟨ByteArray.empty,[]⟩ Xd).toArray 24)) _
 generalize (W1.alloc (.cells (ZL ⟨ByteArray.empty,[]⟩ Xd).toArray 24))=W at o2 e2 oA ⊢
 clear qA
 have e:=e1.trans e2
 have l1:w0.heap.size≤W1.heap.size:=by omega
 generalize w0.heap.size=p1 at oA ⊢
 generalize hp2:W1.heap.size=p2 at o2 l1 ⊢
 refine zcr (xi _ d ⟨_,rfl,hM.ext e⟩) λ w3 e3=>?_
 have o23:=e3.obj o2
 have e03:=e.trans e3
 have l2w:=(Array.getElem?_eq_some_iff.1 o23).1
 cases hf:Xn d with
 | true=>
  simp (disch:=try exact DI) only [↓PR,QR,simprocAttr]
  unfold ZbP
  simp (disch:=try exact DI) only [↓PR,QR,simprocAttr,(Za o23).1,(Za o23).2]
  exact ⟨(e03.setCell (p:=⟨p2,0,none⟩) l1 _).setCell (p:=⟨p2,1,none⟩) l1 _,_,.inl ⟨hf,rfl,_,rfl,Zc.nil ..⟩⟩
 | false=>
  have oA3:=e3.obj oA
  have la:=(Array.getElem?_eq_some_iff.1 oA3).1
  have a1:∀ (o:Obj) (j:Nat),(w3.alloc o).cell? ⟨p1,j,none⟩=w3.cell? ⟨p1,j,none⟩:=λ o j=>World.cell?_of_block (((Ext.refl w3).alloc o).block p1 la)
  simp (disch:=try exact DI) only [↓PR,QR,simprocAttr]
  unfold ZbQ
  simp (disch:=try exact DI) only [↓PR,QR,simprocAttr,a1,(Za oA3).1]
  have o4:=Zv w3 #[.string d.name,Xd] 24
  have e4:Ext w3 (w3.alloc (.cells #[.string d.name,Xd] 24)):=(Ext.refl w3).alloc _
  change Y6 _ _ (w3.alloc (.cells #[.string d.name,Xd] 24))
  generalize (w3.alloc (.cells #[.string d.name,Xd] 24))=V at o4 e4 ⊢
  have l4:w0.heap.size≤w3.heap.size:=e03.size
  have n24:p2≠w3.heap.size:=by omega
  generalize w3.heap.size=p4 at o4 l4 n24 ⊢
  have hS0:IdS w0 V p2 p4 d.name Xd []:=⟨e03.trans e4,l1,l4,n24,e4.obj o23,o4,[],ZW.nil _ _ _ _ _,rfl,λ k x cs hx=>by simp at hx⟩
  refine ZJ (λ i w=>∃ (k:Nat) (rv:Vl),i = .int .i64 k∧k≤d.msgs.length∧IdS w0 w p2 p4 d.name rv ((d.msgs.take k).map idR)) (λ i _=>d.msgs.length - (intOf i).toNat) ⟨0,Xd,rfl,by omega,hS0⟩ ?_
  rintro _ w ⟨k,rv,rfl,hk,hS⟩
  rcases ZT hk with ⟨x,hx,_,Yq,ZY⟩ | ⟨hke,_,ZY⟩
  · obtain ⟨b,o,cs,rfl,_,hA,fv,rfl,hF⟩:=Y1 k x hx
    have t2:=Zc.oneCell hF
    have hxl:=hb2 x (List.mem_of_getElem? hx)
    obtain ⟨A2,c2,rfl,hlc2,hcm2,hlm2,hel2⟩:=Zc.open hF
    have hq:=hA.c2 hS.e
    simp (disch:=try exact DI) only [↓PR,QR,simprocAttr,ZY]
    unfold ZbO
    simp (disch:=try exact DI) only [↓PR,QR,simprocAttr,hq]
    simp only [World.size_setCell,World.size_alloc]
    have o7:=Zv (w.alloc (.cells #[.string x.name,.slice A2 x.fields.length c2] 74)) (Z6 ⟨x.name,x.name,[]⟩ Xd).toArray 60
    have e7:Ext w ((w.alloc (.cells #[.string x.name,.slice A2 x.fields.length c2] 74)).alloc (.cells (Z6 ⟨x.name,x.name,[]⟩ Xd).toArray 60)):=((Ext.refl w).alloc _).alloc _
    rw [World.size_alloc] at o7
    change Y6 _ _ ((w.alloc (.cells #[.string x.name,.slice A2 x.fields.length c2] 74)).alloc (.cells (Z6 ⟨x.name,x.name,[]⟩ Xd).toArray 60))
    generalize ((w.alloc (.cells #[.string x.name,.slice A2 x.fields.length c2] 74)).alloc (.cells (Z6 ⟨x.name,x.name,[]⟩ Xd).toArray 60))=B at o7 e7 ⊢
    have hI0:InI w B (w.heap.size+1) x.name Xd []:=⟨e7,Nat.le_succ _,o7,ZW.nil _ _ _ _ _⟩
    generalize w.heap.size+1=p7 at hI0 ⊢
    refine ZJ (λ i w'=>∃ (j:Nat) (fv:Vl),i = .int .i64 j∧j≤x.fields.length∧InI w w' p7 x.name fv ((x.fields.take j).filterMap idF)) (λ i _=>x.fields.length - (intOf i).toNat) ⟨0,Xd,rfl,by omega,hI0⟩ ?_
    rintro _ w2 ⟨j,fv,rfl,hj,hI⟩
    rcases ZT hj with ⟨f,hf',_,hlt2,Ax⟩ | ⟨hje,_,Ax⟩
    · obtain ⟨b3,o3,cs,rfl,_,hA3,tv,cv,rfl,hT,hC⟩:=hel2 j f hf'
      have u1:=Zc.oneCell hT
      have u2:=Zc.oneCell hC
      have ew2:=hS.e.trans hI.e
      have hq3:=hA3.c15 ew2
      have hfl:((x.fields.take j).filterMap idF).length≤1048576:=Nat.le_trans (List.length_filterMap_le _ _) (by rw [List.length_take];omega)
      simp (disch:=try exact DI) only [↓PR,QR,simprocAttr,Ax]
      unfold ZbM
      simp (disch:=try exact DI) only [↓PR,QR,simprocAttr,hq3]
      have o9:=Zv w2 (Zp f tv cv).toArray 123
      have e9:Ext w2 (w2.alloc (.cells (Zp f tv cv).toArray 123)):=(Ext.refl w2).alloc _
      change ZV _ _ #[.agg (Zp f tv cv).toArray] _ (w2.alloc (.cells (Zp f tv cv).toArray 123)) _
      generalize (w2.alloc (.cells (Zp f tv cv).toArray 123))=Y at o9 e9 ⊢
      have hfv:Z0 Y (.agg (Zp f tv cv).toArray) f:=⟨tv,cv,rfl,ZZ.ext hT (ew2.trans e9),Yl.ext hC (ew2.trans e9)⟩
      refine zcr (Jd Y _ f hfv) λ w5 e5=>?_
      refine PH (hI.go (e9.trans e5)) (hfv.ext e5) hfl (by omega) (e5.obj o9) λ w' fv' h'=>?_
      exact ⟨⟨j+1,fv',rfl,hlt2,by rw [An hf'];exact h'⟩,Ya (kd := .i64) hlt2⟩
    · rw [hje,List.take_length] at hI
      simp (disch:=try exact DI) only [↓PR,QR,simprocAttr,Ax]
      refine ZdV hS hI (λ y hy=>?_) (by rw [List.length_map,List.length_take];omega) (by omega) λ w' rv' h'=>?_
      · obtain ⟨g,_,hg⟩:=List.mem_filterMap.1 hy
        exact NT hg
      · exact ⟨⟨k+1,rv',rfl,Yq,by rw [XM hx,List.map_append];exact h'⟩,Ya (kd := .i64) Yq⟩
  · rw [hke,List.take_length] at hS
    simp (disch:=try exact DI) only [↓PR,QR,simprocAttr,ZY]
    unfold ZbN
    have u2:rv.oneCell'=true:=Zc.oneCell hS.read
    simp (disch:=try exact DI) only [↓PR,QR,simprocAttr,(Za hS.o4).1,(Za hS.o2).1,(Za hS.o2).2]
    have hc:Chg p2 w ((w.setCell ⟨p2,0,none⟩ (.string d.name)).setCell ⟨p2,1,none⟩ rv):=⟨by rw [World.size_setCell,World.size_setCell];exact Nat.le_refl _,λ b _ hb=>(YG.setCell _ p2 1 _ b hb).trans (YG.setCell w p2 0 _ b hb)⟩
    obtain ⟨css,h6,h7⟩:=hS.row
    have hM':VC ((w.setCell ⟨p2,0,none⟩ (.string d.name)).setCell ⟨p2,1,none⟩ rv) rv (d.msgs.map idR):=(WY h6 hc (Q6 h6 hS.o2 (by decide))).reads (h7.imp λ _ _ q=>(q.chg hc hS.o2 (by decide)).mr)
    exact ⟨(hS.e.setCell (p:=⟨p2,0,none⟩) l1 _).setCell (p:=⟨p2,1,none⟩) l1 _,_,.inr ⟨hf,rfl,_,rfl,hM'⟩⟩
theorem Dd (c:UInt8):∀ {xs:List (List UInt8)} {x:List UInt8},x∈xs→x.length≤(Go.Lib.join xs [c]).length
 | [],_,h=>by cases h
 | [y],x,h=>by rw [List.mem_singleton.1 h,Go.Lib.join_one];exact Nat.le_refl _
 | y::z::r,x,h=>by
  rw [Qs,List.length_append,List.length_cons]
  rcases List.mem_cons.1 h with rfl | h
  · omega
  · have:=Dd c h
    omega
theorem AD (c:UInt8):∀ (xs:List (List UInt8)),xs.length≤(Go.Lib.join xs [c]).length+1
 | []=>by simp
 | [y]=>by simp
 | y::z::r=>by
  have:=AD c (z::r)
  rw [Qs]
  simp only [List.length_append,List.length_cons] at this ⊢
  omega
theorem NJ (l:List UInt8):l.length≤(Qh l).length:=by
 unfold Qh
 split
 · rename_i h
   subst h
   simp
 · rw [Ay];omega
theorem HU {x:FrD} (h:Yu x=true):(x.kind=4∨x.bytes=[])∧(x.kind=5∨x.table=[]):=by
 obtain ⟨to,kind,fr,add,value,bytes,table⟩:=x
 unfold Yu at h
 simp only at h ⊢
 cases hu:XR kind with
 | none=>rw [hu] at h;cases h
 | some u=>
  rw [hu] at h
  simp only [Bool.and_eq_true] at h
  obtain ⟨_,_,_,c4,c5⟩:=Af h.1
  simp only at c4 c5
  unfold XR at hu
  by_cases k1:kind=1
  · rw [if_pos k1] at hu;injection hu with hu;subst hu;exact ⟨.inr (c4 rfl),.inr (c5 rfl)⟩
  by_cases k2:kind=2
  · rw [if_neg k1,if_pos k2] at hu;injection hu with hu;subst hu;exact ⟨.inr (c4 rfl),.inr (c5 rfl)⟩
  by_cases k3:kind=3
  · rw [if_neg k1,if_neg k2,if_pos k3] at hu;injection hu with hu;subst hu;exact ⟨.inr (c4 rfl),.inr (c5 rfl)⟩
  by_cases k4:kind=4
  · rw [if_neg k1,if_neg k2,if_neg k3,if_pos k4] at hu;injection hu with hu;subst hu;exact ⟨.inl k4,.inr (c5 rfl)⟩
  by_cases k5:kind=5
  · rw [if_neg k1,if_neg k2,if_neg k3,if_neg k4,if_pos k5] at hu;injection hu with hu;subst hu;exact ⟨.inr (c4 rfl),.inl k5⟩
  by_cases k6:kind=6
  · rw [if_neg k1,if_neg k2,if_neg k3,if_neg k4,if_neg k5,if_pos k6] at hu;injection hu with hu;subst hu;exact ⟨.inr (c4 rfl),.inr (c5 rfl)⟩
  by_cases k7:kind=7
  · rw [if_neg k1,if_neg k2,if_neg k3,if_neg k4,if_neg k5,if_neg k6,if_pos k7] at hu;injection hu with hu;subst hu;exact ⟨.inr (c4 rfl),.inr (c5 rfl)⟩
  · rw [if_neg k1,if_neg k2,if_neg k3,if_neg k4,if_neg k5,if_neg k6,if_neg k7] at hu;cases hu
theorem ZaL {x:FrD} (h:Yu x=true):x.bytes.length≤(YY x).length+1∧x.table.length≤(YY x).length+1:=by
 obtain ⟨h1,h2⟩:=HU h
 constructor
 · rcases h1 with h1 | h1
   · have hm:Qh x.bytes∈YV x:=by
      unfold YV Vd
      rw [h1]
      simp
     have:=Dd 32 hm
     have:=NJ x.bytes
     unfold YY
     omega
   · rw [h1];simp
 · rcases h2 with h2 | h2
   · have:=AD 32 (YV x)
     have hl:(YV x).length=x.table.length+3:=by
      unfold YV Vd
      rw [h2]
      simp
     unfold YY
     omega
   · rw [h2];simp
theorem N3 {m:Yo} {l:List UInt8} (h:l∈Yx m):l=WD m.name∨∃ r∈m.rules,l=Q4 r∨l=G3∨∃ x∈r.fields,l=YY x:=by
 unfold Yx at h
 rcases List.mem_cons.1 h with h | h
 · exact .inl h
 · obtain ⟨r,hr,h⟩:=List.mem_flatMap.1 h
   refine .inr ⟨r,hr,?_⟩
   unfold Y4 at h
   rcases List.mem_cons.1 h with h | h
   · exact .inl h
   rcases List.mem_append.1 h with h | h
   · obtain ⟨x,hx,rfl⟩:=List.mem_map.1 h
     exact .inr (.inr ⟨x,hx,rfl⟩)
   · exact .inr (.inl (List.mem_singleton.1 h))
theorem PU {m:Yo} {r:MrD} {x:FrD} (hr:r∈m.rules) (hx:x∈r.fields):YY x∈Yx m:=by
 unfold Yx
 refine List.mem_cons_of_mem _ (List.mem_flatMap.2 ⟨r,hr,?_⟩)
 unfold Y4
 exact List.mem_cons_of_mem _ (List.mem_append_left _ (List.mem_map.2 ⟨x,hx,rfl⟩))
theorem FX {α β:Type} {f:α→List β} {n:Nat}:∀ {l:List α},(∀ x∈l,(f x).length≤n)→(l.flatMap f).length≤l.length*n
 | [],_=>by simp
 | x::l,h=>by
  rw [List.flatMap_cons,List.length_append,List.length_cons,Nat.add_mul]
  have:=h x (List.mem_cons_self ..)
  have:=FX (f:=f) (l:=l) λ y hy=>h y (List.mem_cons_of_mem _ hy)
  omega
theorem PO {m:Yo} (h:xy m=false) (hin:∀ r∈m.rules,∀ x∈r.fields,inF x=true):SmM m:=by
 obtain ⟨h1,h2,h3⟩:=NY h
 refine ⟨?_,λ l hl=>?_,λ r hr x hx=>?_⟩
 · have:(m.rules.flatMap Y4).length≤m.rules.length*52:=FX λ r hr=>by
    have:=(Gk (h3 r hr)).1
    unfold Y4
    simp
    omega
   unfold Yx
   rw [List.length_cons]
   omega
 · rcases N3 hl with rfl | ⟨r,hr,rfl | rfl | ⟨x,hx,rfl⟩⟩
   · unfold WD Qt
     simp only [List.length_append,List.length_cons,List.length_nil,Vz]
     omega
   · obtain ⟨_,g1,g2,_⟩:=Gk (h3 r hr)
     unfold Q4 jt
     simp only [List.length_append,List.length_cons,List.length_nil,Vz]
     omega
   · unfold G3;simp
   · obtain ⟨_,_,_,g3⟩:=Gk (h3 r hr)
     obtain ⟨a1,a2,a3,a4⟩:=Df (g3 x hx)
     have:=Hn (hin r hr x hx)
     omega
 · obtain ⟨_,_,_,g3⟩:=Gk (h3 r hr)
   obtain ⟨a1,a2,a3,a4⟩:=Df (g3 x hx)
   omega
theorem TJ {n:Nat}:∀ {l:List Nat},(∀ x∈l,x≤n)→l.sum≤l.length*n
 | [],_=>by simp
 | x::l,h=>by
  rw [List.sum_cons,List.length_cons,Nat.add_mul]
  have:=h x (List.mem_cons_self ..)
  have:=TJ (l:=l) λ y hy=>h y (List.mem_cons_of_mem _ hy)
  omega
theorem Zbq {m:Yo} (h:SmM m):(V8 m).size≤1000000000:=by
 obtain ⟨h1,h2,_⟩:=h
 unfold V8
 rw [Xc]
 unfold yZ
 rw [List.length_append]
 have:=Kf 10 (Yx m)
 have h3:((Yx m).map λ x=>x.length+1).sum≤((Yx m).map λ x=>x.length+1).length*10001:=TJ λ x hx=>by
  obtain ⟨y,hy,rfl⟩:=List.mem_map.1 hx
  have:=h2 y hy
  omega
 rw [List.length_map] at h3
 have:(Yx m).length*10001≤10000*10001:=Nat.mul_le_mul_right _ h1
 simp only [List.length_cons,List.length_nil]
 omega
theorem Zba {m:Yo} (h:okM m=true) (hs:(V8 m).size≤3000):SmM m:=by
 have hf:=Ap h
 unfold V8 at hs
 rw [Xc] at hs
 have hc:=B3 hf.1
 have hn:=zS 10 (yZ m)
 rw [hc] at hn
 have hl:∀ l∈Yx m,l.length≤3000:=λ l hl=>by
  have:l∈Yi 10 (yZ m):=by rw [hc];exact List.mem_append_left _ hl
  exact Nat.le_trans (UQ this) hs
 refine ⟨by simp at hn;omega,λ l h=>by have:=hl l h;omega,λ r hr x hx=>?_⟩
 have h1:=hf.1
 unfold Ug at h1
 simp only [Bool.and_eq_true,List.all_eq_true] at h1
 have h2:=h1.2 r hr
 unfold Wv at h2
 simp only [Bool.and_eq_true,List.all_eq_true] at h2
 have h3:=ZaL (h2.2.2 x hx)
 have h4:=hl _ (PU hr hx)
 omega
def Cb (d:Xv):Bool:=XF d.msgs.length 12||d.msgs.any λ x=>XF x.fields.length 20
theorem Zbs {d:Xv} (h:Cb d=false):d.msgs.length≤12∧∀ x∈d.msgs,x.fields.length≤20:=by
 unfold Cb at h
 simp only [Bool.or_eq_false_iff,List.any_eq_false] at h
 exact ⟨Qf h.1,λ x hx=>Qf (by simpa using h.2 x hx)⟩
theorem TU (w0:Wd) (v:Vl) (d:Xv) (hd:Xk w0 v d):Ret Pg 11 #[v] w0 λ r w'=>r = .bool (Cb d)∧Ext w0 w':=by
 obtain ⟨mv,rfl,hM⟩:=hd
 have hm1:=Zc.oneCell hM
 obtain ⟨A,c,rfl,hlc,hcm,hlm,Y1⟩:=Zc.open hM
 refine Zkz (R:=ZI _) ?_;unfold n60
 rw [YB]
 have o1:=Zv w0 (Yd d (.slice A d.msgs.length c)).toArray 27
 have e1:Ext w0 (w0.alloc (.cells (Yd d (.slice A d.msgs.length c)).toArray 27)):=(Ext.refl w0).alloc _
 generalize (w0.alloc (.cells (Yd d (.slice A d.msgs.length c)).toArray 27))=V at o1 e1 ⊢
 generalize w0.heap.size=p1 at o1 ⊢
 have d1:decide ((d.msgs.length:Int) > 12)=XF d.msgs.length 12:=rfl
 have hM0:Cb d=(XF d.msgs.length 12||d.msgs.any λ x=>XF x.fields.length 20):=rfl
 simp (disch:=try exact DI) only [↓PR,QR,simprocAttr,(Za o1).1,d1]
 cases hc0:XF d.msgs.length 12 with
 | true=>
  rw [hc0,Bool.true_or] at hM0
  rw [hM0]
  simp (disch:=try exact DI) only [↓PR,QR,simprocAttr]
  exact ⟨by trivial,e1⟩
 | false=>
  rw [hc0,Bool.false_or] at hM0
  rw [hM0]
  have hle:=Qf hc0
  simp (disch:=try exact DI) only [↓PR,QR,simprocAttr]
  refine ZJ (λ i w=>∃ k:Nat,i = .int .i64 k∧k≤d.msgs.length∧(d.msgs.take k).any (λ x=>XF x.fields.length 20)=false∧Ext V w) (λ i _=>d.msgs.length - (intOf i).toNat) ⟨0,rfl,by omega,rfl,Ext.refl _⟩ ?_
  rintro _ w1 ⟨k,rfl,hk,ht,e2⟩
  have q1:=Za (e2.obj o1)
  unfold Zc8
  rcases ZT hk with ⟨x,hx,_,Yq,ZY⟩ | ⟨hke,_,ZY⟩
  · have hwk:IntKind.i64.wrap ((k:Int)+1)=(k:Int)+1:=XC (by omega) (by omega)
    obtain ⟨b,o,cs,rfl,_,hA,fv,rfl,hF⟩:=Y1 k x hx
    obtain ⟨A2,c2,rfl,_,_,_,_⟩:=Zc.open hF
    have hq:=hA.c2 (e1.trans e2)
    have d2:decide ((x.fields.length:Int) > 20)=XF x.fields.length 20:=rfl
    simp (disch:=try exact DI) only [↓PR,QR,simprocAttr,q1.1,ZY]
    unfold Zc7
    simp (disch:=try exact DI) only [↓PR,QR,simprocAttr,q1.1,hq,d2]
    cases hb:XF x.fields.length 20 with
    | true=>
     rw [D1 (p:=λ x:YT=>XF x.fields.length 20) hx hb]
     simp (disch:=try exact DI) only [↓PR,QR,simprocAttr]
     exact ⟨by trivial,e1.trans e2⟩
    | false=>
     simp (disch:=try exact DI) only [↓PR,QR,simprocAttr,hwk]
     exact ⟨⟨k+1,rfl,Yq,(j6 (p:=λ x:YT=>XF x.fields.length 20) hx ht).trans hb,e2⟩,Ya (kd := .i64) Yq⟩
  · rw [hke,List.take_length] at ht
    simp (disch:=try exact DI) only [↓PR,QR,simprocAttr,q1.1,ZY]
    exact ⟨by rw [ht],e1.trans e2⟩
def ZcP (b:Vl) (R:RT) (w:Wd):Prop:=
 Zo (λ (a:Vl) (w:Wd)=>
 Zy b a (.bool false) λ d=>
 R (.returned d) w) λ c=>
 Zn b true (
 C0 12 #[] R w λ a w=>
 c a w) (
 c undef w)
def Sc (a b:Vl) (R:RT) (w:Wd):Prop:=
 L0 24 b R w λ c w=>
 L0 27 a R w λ d w=>
 L0 27 a R w λ e w=>
 C0 16 #[c,d,e] R w λ f w=>
 ZcP f R w
def Sd (c a:Vl) (R:RT) (w:Wd):Prop:=
 E0q a 0 R w λ d w=>
 E0q a 1 R w λ e w=>
 opV Pg (alloc 24 true (.tuple #[])) (Zd R) w λ b w=>
 S0 24 b d R w λ w=>
 B0 .eql 49 true e (.int .i64 0) R w λ f w=>
 Zs f (
 Sc c b R w) (
 C0 12 #[] R w λ g w=>
 R (.returned g) w)
def ZcQ (e b:Vl) (f:WPr) (R:RT) (w:Wd):Prop:=
 E0q b 0 R w λ g w=>
 E0q b 1 R w λ h w=>
 B0 .neq 9 false g e R w λ c w=>
 Zo (λ (a:Vl) (w:Wd)=>
 Zy c (.bool true) a λ i=>
 Zs i (
 R (.returned (.bool false)) w) (
 f w)) λ d=>
 Zn c false (
 B0 .neq 49 true h (.int .i64 0) R w λ a w=>
 d a w) (
 d undef w)
def Se (e b a:Vl) (R:RT) (w:Wd):Prop:=
 E0q a 0 R w λ f w=>
 E0q a 1 R w λ m w=>
 E0q a 2 R w λ g w=>
 opV Pg (alloc 24 true (.tuple #[])) (Zd R) w λ c w=>
 S0 24 c f R w λ w=>
 B0 .eql 49 true g (.int .i64 0) R w λ h w=>
 Zo (λ (w:Wd)=>
 L0 27 b R w λ i w=>
 C0 28 #[i] R w λ j w=>
 Sd b j R w) λ d=>
 Zs h (
 L0 24 c R w λ k w=>
 C0 25 #[k] R w λ l w=>
 ZcQ e l d R w) (
 d w)
def Sf (d e f g:Vl) (h:WPr) (R:RT) (w:Wd):Prop:=
 Zy f (.bool true) g λ b=>
 Zo (λ (a:Vl) (w:Wd)=>
 Zy b (.bool true) a λ i=>
 Zs i (
 R (.returned (.bool false)) w) (
 h w)) λ c=>
 Zn b false (
 L0 24 e R w λ j w=>
 L0 24 d R w λ k w=>
 C0 27 #[j,k] R w λ l w=>
 N0 l R w λ a w=>
 c a w) (
 c undef w)
def ZcR (f a:Vl) (g:WPr) (R:RT) (w:Wd):Prop:=
 E0q a 0 R w λ h w=>
 E0q a 1 R w λ i w=>
 E0q a 2 R w λ j w=>
 opV Pg (alloc 24 true (.tuple #[])) (Zd R) w λ c w=>
 S0 24 c h R w λ w=>
 B0 .neq 49 true j (.int .i64 0) R w λ d w=>
 Zo (λ (b:Vl) (w:Wd)=>
 Sf f c d b g R w) λ e=>
 Zn d false (
 B0 .neq 3 true i (.int .i64 0) R w λ b w=>
 e b w) (
 e undef w)
def Sg (a d e b:Vl) (R:RT) (w:Wd):Prop:=
 E0q b 0 R w λ f w=>
 E0q b 1 R w λ g w=>
 B0 .eql 49 true g (.int .i64 0) R w λ h w=>
 Zo (λ (w:Wd)=>
 C0 22 #[a] R w λ i w=>
 Se a e i R w) λ c=>
 Zs h (
 C0 22 #[f] R w λ j w=>
 ZcR d j c R w) (
 c w)
def HA (b a c d e:Vl) (R:RT) (w:Wd):Prop:=
 Zy d (.bool true) e λ f=>
 Zs f (
 C0 12 #[] R w λ g w=>
 R (.returned g) w) (
 L0 24 a R w λ h w=>
 C0 25 #[h] R w λ i w=>
 Sg b a c i R w)
def Sb (e f b g h:Vl) (R:RT) (w:Wd):Prop:=
 Zy g (.bool true) h λ c=>
 Zo (λ (a:Vl) (w:Wd)=>
 HA e f b c a R w) λ d=>
 Zn c false (
 L0 27 b R w λ i w=>
 C0 11 #[i] R w λ a w=>
 d a w) (
 d undef w)
def La (b e f c:Vl) (R:RT) (w:Wd):Prop:=
 Zo (λ (a:Vl) (w:Wd)=>
 Sb b e f c a R w) λ d=>
 Zn c false (
 G0 9 3 b R w λ g w=>
 B0 .gtr 3 true g (.int .i64 3000) R w λ a w=>
 d a w) (
 d undef w)
def n55 (b c d:Vl) (R:RT) (w:Wd):Prop:=
 opV Pg (box 24 b) (Zd R) w λ a w=>
 opV Pg (box 27 d) (Zd R) w λ e w=>
 L0 24 a R w λ f w=>
 C0 10 #[f] R w λ g w=>
 La c a e g R w
set_option maxHeartbeats 40000000 in
theorem Zku {t0 t1 t2:Vl} {R:RT} {w:Wd} (h:n55 t0 t1 t2 R w):Calls Pg 9 #[t0,t1,t2] w R:=by
 refine yD func9 ?_
 refine zs<|zr<|yv h λ _ w h=>yv h λ _ w h=>zm<|zn<|zk<|zs<|zs<|Zt<|yG 3<|yv h λ _ w h=>yc h c10 λ _ w h=>zm<|zn ?_
 refine yg1 3 2 false [22,23,24] 24 h (λ _ T hT h=>?_) λ σ w h=>?_
 · refine zm<|yx h λ _ w h=>yb h λ _ w h=>zn ?_
   exact zt hT h
 refine yG 2<|yp h λ _ h=>zm<|zn<|yg1 2 7 false [27,28] 28 h (λ _ T hT h=>?_) λ σ w h=>?_
 · refine yv h λ _ w h=>yc h c11 λ _ w h=>zn ?_
   exact zt hT h
 refine yG 1<|yp h λ _ h=>zn<|ZK<|zk<|yC h (λ h=>zs<|zr<|yc h c12 λ _ w h=>zm<|zn<|zk<|Zg<|Zb<|Zi rfl rfl h) λ h=>Zj<|zk<|zs<|zs<|zr<|yv h λ _ w h=>yc h c25 λ _ w h=>zm ?_
 refine yv h λ _ w h=>yv h λ _ w h=>zm<|zm<|zn<|zk<|zs<|zr<|zm<|yb h λ _ w h=>zn<|zk<|yJ0 [6,9,10,11,38,39,40,41,42,43,44,45,46,47,48,49,50,51,52,53,54,55] h (λ _ _ hkK3 h=>?_) λ σ w h=>?_
 · refine yC h (λ h=>?_) λ h=>?_
   · refine zs<|zr<|zm<|yc h c22 λ _ w h=>zm<|yv h λ _ w h=>yv h λ _ w h=>yv h λ _ w h=>yv h λ _ w h=>yu h λ w h=>zm<|zm<|zn<|zk<|zs ?_
     refine Zt<|yG 3<|zm<|yb h λ _ w h=>zm<|zn<|yg1 2 2 false [47,48] 48 h (λ _ T hT h=>?_) λ σ w h=>?_
     · refine zm<|yb h λ _ w h=>zn ?_
       exact zt hT h
     refine yG 2<|yp h λ _ h=>zm<|zn<|yg1 4 6 false [51,52,53,54] 54 h (λ _ T hT h=>?_) λ σ w h=>?_
     · refine yv h λ _ w h=>yv h λ _ w h=>yc h c27 λ _ w h=>yv h λ _ w h=>zn ?_
       exact zt hT h
     refine yG 1<|yp h λ _ h=>zn<|ZK<|zk<|yC h (λ h=>zs<|zr<|zm<|zn<|zk<|Zg<|Zb<|Zb<|Zi rfl rfl h) λ h=>Zj<|zk ?_
     exact zt hkK3 h
   refine Zj<|zk ?_
   exact zt hkK3 h
 refine zk<|zs<|zs<|zr<|zm<|yc h c22 λ _ w h=>zm<|yv h λ _ w h=>yv h λ _ w h=>yv h λ _ w h=>yv h λ _ w h=>yu h λ w h=>zm<|zm<|zn ?_
 refine zk<|zs<|zr<|zm<|yb h λ _ w h=>zn<|zk<|yJ0 [6,15,16,64,65,66,67,68,69,70,71,72,73,74,75] h (λ _ _ hkK4 h=>?_) λ σ w h=>?_
 · refine yC h (λ h=>?_) λ h=>?_
   · refine zs<|zr<|yv h λ _ w h=>yc h c25 λ _ w h=>zm<|yv h λ _ w h=>yv h λ _ w h=>zm<|zm<|zn<|zk<|zs<|Zt<|yG 4<|zm ?_
     refine zm<|yb h λ _ w h=>zm<|zn<|yg1 2 3 false [73,74] 74 h (λ _ T hT h=>?_) λ σ w h=>?_
     · refine zm<|yb h λ _ w h=>zn ?_
       exact zt hT h
     refine yG 1<|yp h λ _ h=>zn<|ZK<|zk<|yC h (λ h=>zs<|zr<|zm<|zn<|zk<|Zg<|Zb<|Zb<|Zi rfl rfl h) λ h=>Zj<|zk ?_
     exact zt hkK4 h
   refine Zj<|zk ?_
   exact zt hkK4 h
 refine zk<|zs<|zs<|zr<|yv h λ _ w h=>yc h c28 λ _ w h=>zm<|yv h λ _ w h=>yv h λ _ w h=>yv h λ _ w h=>yu h λ w h=>zm<|zn<|zk<|zs ?_
 refine zr<|zm<|yb h λ _ w h=>zn<|zk<|yC h (λ h=>?_) λ h=>?_
 · refine zs<|Zt<|yG 5<|yv h λ _ w h=>yv h λ _ w h=>yv h λ _ w h=>yc h c16 λ _ w h=>zm<|zn<|yg1 1 4 true [88] 88 h (λ _ T hT h=>?_) λ σ w h=>?_
   · refine yc h c12 λ _ w h=>zn ?_
     exact zt hT h
   exact yG 2<|yp h λ _ h=>zm<|zn<|ZK<|zk<|Zg<|Zb<|Zi rfl rfl h
 exact Zj<|zk<|zs<|zr<|yc h c12 λ _ w h=>zm<|zn<|zk<|Zg<|Zi rfl rfl h
section
variable {w0 W w:Wd} {p1 p2:Nat} {m:Yo} {d:Xv} {s:BAr} {rv mv:Vl}
abbrev TrR (w0:Wd):Ending→Wd→Prop:=ZI λ r w'=>r = .bool true∧Ext w0 w'
theorem zL (hE:Vf w0) (e:Ext w0 w):ZV Pg 12 #[] (Zd (TrR w0)) w λ t w=>TrR w0 (.returned t) w:=by
 refine zcr (Zd2 w (hE.ext e)) λ w1 e9=>?_
 simp (disch:=try exact DI) only [↓PR,QR,simprocAttr]
 exact ⟨by trivial,e.trans e9⟩
theorem Mv (hE:Vf w0) (e:Ext w0 w) (o2:w.heap[p2]?=some (.cells (Yd d mv).toArray 27 (0,0))) (hD:Xk w (.agg (Yd d mv).toArray) d) (hw:Cb d=false) :
 ZV Pg 28 #[.agg #[.string d.name,mv,.string d.start]] (Zd (TrR w0)) w λ t78 w=>Sd (.pointer (some ⟨p2,0,none⟩)) t78 (TrR w0) w:=by
 obtain ⟨g1,g2⟩:=Zbs hw
 refine Zk (DS w _ d hD (by omega) λ x hx=>by have:=g2 x hx;omega) ?_
 rintro _ w1 ⟨e1,u,h⟩
 have E1:=e.trans e1
 unfold Sd
 rcases h with ⟨_,rfl,hv⟩ | ⟨hf,rfl,hv⟩
 · obtain ⟨rv,rfl,hR,t1⟩:=hv.op
   simp (disch:=try exact DI) only [↓PR,QR,simprocAttr]
   exact zL hE (E1.alloc _)
 · obtain ⟨rv,rfl,hR,t1⟩:=hv.op
   have hc:(Xo d).2.2=0:=by
    unfold Xn at hf
    simpa using hf
   simp (disch:=try exact DI) only [↓PR,QR,simprocAttr]
   have o3:=Zv w1 (ZL (idM d) rv).toArray 24
   have e3:Ext w1 (w1.alloc (.cells (ZL (idM d) rv).toArray 24)):=(Ext.refl w1).alloc _
   change Sc _ _ _ (w1.alloc (.cells (ZL (idM d) rv).toArray 24))
   generalize (w1.alloc (.cells (ZL (idM d) rv).toArray 24))=V at o3 e3 ⊢
   have E3:=e1.trans e3
   unfold Sc
   simp (disch:=try exact DI) only [↓PR,QR,simprocAttr,(Za o3).1,(Za (E3.obj o2)).1]
   refine zcr (AJ V _ _ _ (idM d) d d (YO.ext ⟨_,rfl,hR⟩ e3) (hD.ext E3) (hD.ext E3) (Zfs d)) λ w4 e4=>?_
   rw [PI hc]
   unfold ZcP Zo
   simp (disch:=try exact DI) only [↓PR,QR,simprocAttr]
   exact zL hE (e.trans (E3.trans e4))
theorem CN (hE:Vf w0) (e:Ext w0 w) (hs:s.size≤3000) (o2:w.heap[p2]?=some (.cells (Yd d mv).toArray 27 (0,0))) (hD:Xk w (.agg (Yd d mv).toArray) d) (hw:Cb d=false) :
 ZV Pg 22 #[.string s] (Zd (TrR w0)) w λ t58 w=>Se (.string s) (.pointer (some ⟨p2,0,none⟩)) t58 (TrR w0) w:=by
 have hsl:s.data.toList.length≤3000:=by rw [Vz];exact hs
 refine Zk (xh w (hE.ext e) s (by omega) (by have:=zS 10 s.data.toList;omega) λ u hu=>by have:=UQ hu;omega) ?_
 rintro _ w1 ⟨e1,h⟩
 unfold Se Zo
 rcases h with ⟨m,v,ho,rfl,hv⟩ | ⟨v,n,ho,rfl,hv⟩
 · obtain ⟨rv,rfl,hR,t1⟩:=hv.op
   obtain ⟨g1,g2,_⟩:=Ml ho
   simp (disch:=try exact DI) only [↓PR,QR,simprocAttr]
   have o3:=Zv w1 (ZL m rv).toArray 24
   have e3:Ext w1 (w1.alloc (.cells (ZL m rv).toArray 24)):=(Ext.refl w1).alloc _
   change ZV _ _ #[.agg (ZL m rv).toArray] _ (w1.alloc (.cells (ZL m rv).toArray 24)) _
   generalize (w1.alloc (.cells (ZL m rv).toArray 24))=V at o3 e3 ⊢
   have hf:=Ap g2
   refine zcr (G4 V (hE.ext (e.trans (e1.trans e3))) _ m (YO.ext ⟨_,rfl,hR⟩ e3) hf.2 (Zba g2 (by rw [g1];exact hs))) λ w4 e4=>?_
   unfold JW
   rw [if_pos hf.1,if_pos hf.1,g1]
   have E4:=e1.trans (e3.trans e4)
   unfold ZcQ Zo
   have ds:(!decide (s=s))=false:=by simp
   simp (disch:=try exact DI) only [↓PR,QR,simprocAttr,ds,(Za (E4.obj o2)).1]
   exact Mv hE (e.trans E4) (E4.obj o2) (hD.ext E4) hw
 · obtain ⟨rv,rfl,hR,t1⟩:=hv.op
   have o3:=e1.obj o2
   have lp:=(Array.getElem?_eq_some_iff.1 o3).1
   have a1:∀ (o:Obj) (j:Nat),(w1.alloc o).cell? ⟨p2,j,none⟩=w1.cell? ⟨p2,j,none⟩:=λ o j=>World.cell?_of_block (((Ext.refl w1).alloc o).block p2 lp)
   simp (disch:=try exact DI) only [↓PR,QR,simprocAttr,a1,(Za o3).1]
   have eV:Ext w1 (w1.alloc (.cells #[.string ByteArray.empty,rv] 24)):=(Ext.refl w1).alloc _
   exact Mv hE (e.trans (e1.trans eV)) (eV.obj o3) (hD.ext (e1.trans eV)) hw
end
theorem jm (w0:Wd) (hE:Vf w0) (v1 v2:Vl) (m:Yo) (s:BAr) (d:Xv) (hm:YO w0 v1 m) (hd:Xk w0 v2 d) (hin:∀ r∈m.rules,∀ x∈r.fields,inF x=true):Ret Pg 9 #[v1,.string s,v2] w0 λ r w'=>r = .bool true∧Ext w0 w':=by
 obtain ⟨rv,rfl,hR,t1⟩:=hm.op
 obtain ⟨mv,rfl,hM⟩:=hd
 have t2:=Zc.oneCell hM
 refine Zku (R:=ZI _) ?_;unfold n55
 rw [YB]
 have o1:=Zv w0 (ZL m rv).toArray 24
 have e1:Ext w0 (w0.alloc (.cells (ZL m rv).toArray 24)):=(Ext.refl w0).alloc _
 generalize (w0.alloc (.cells (ZL m rv).toArray 24))=W1 at o1 e1 ⊢
 rw [YB]
 have o2:=Zv W1 (Yd d mv).toArray 27
 have e2:Ext W1 (W1.alloc (.cells (Yd d mv).toArray 27)):=(Ext.refl W1).alloc _
 generalize (W1.alloc (.cells (Yd d mv).toArray 27))=W at o2 e2 ⊢
 replace o1:=e2.obj o1
 have e:=e1.trans e2
 generalize w0.heap.size=p1 at o1 ⊢
 generalize W1.heap.size=p2 at o2 ⊢
 have hm':YO W (.agg (ZL m rv).toArray) m:=⟨_,rfl,hR.ext e⟩
 have hd':Xk W (.agg (Yd d mv).toArray) d:=⟨_,rfl,hM.ext e⟩
 simp (disch:=try exact DI) only [↓PR,QR,simprocAttr,(Za o1).1]
 refine zcr (NZ W _ m hm') λ w2 f2=>?_
 change La _ _ _ _ (TrR w0) w2
 unfold La Sb Zo
 have ds:decide ((s.size:Int) > 3000)=XF s.size 3000:=rfl
 cases hlg:xy m with
 | true=>
  unfold HA
  simp (disch:=try exact DI) only [↓PR,QR,simprocAttr]
  exact zL hE (e.trans f2)
 | false=>
  simp (disch:=try exact DI) only [↓PR,QR,simprocAttr,ds]
  have ds':decide ((3000:Int) < (s.size:Int))=XF s.size 3000:=rfl
  rw [ds']
  cases Jj:XF s.size 3000 with
  | true=>
   unfold HA
   simp (disch:=try exact DI) only [↓PR,QR,simprocAttr]
   exact zL hE (e.trans f2)
  | false=>
   have hs3:=Qf Jj
   simp (disch:=try exact DI) only [↓PR,QR,simprocAttr,(Za (f2.obj o2)).1]
   refine zcr (TU w2 _ d (hd'.ext f2)) λ w3 f3=>?_
   have F3:=f2.trans f3
   change HA _ _ _ _ _ (TrR w0) w3
   unfold HA
   cases hwd:Cb d with
   | true=>
    simp (disch:=try exact DI) only [↓PR,QR,simprocAttr]
    exact zL hE (e.trans F3)
   | false=>
    simp (disch:=try exact DI) only [↓PR,QR,simprocAttr,(Za (F3.obj o1)).1]
    have hsm:=PO hlg hin
    refine zcr (G4 w3 (hE.ext (e.trans F3)) _ m (hm'.ext F3) hin hsm) λ w4 f4=>?_
    have F4:=F3.trans f4
    change Sg _ _ _ _ (TrR w0) w4
    unfold Sg Zo JW
    cases hfm:Ug m with
    | false=>
     simp (disch:=try exact DI) only [↓PR,QR,simprocAttr]
     exact CN hE (e.trans F4) hs3 (F4.obj o2) (hd'.ext F4) hwd
    | true=>
     have hok:=Zek hfm hin
     have hpt:=LM hok
     have ZjL:=B3 hfm
     have hts:=Zbq hsm
     have hl3:(Yi 10 (V8 m).data.toList).length≤1000000∧∀ u∈Yi 10 (V8 m).data.toList,u.length≤80000:=by
      unfold V8
      rw [Qu,ZjL]
      refine ⟨by have:=hsm.1;simp;omega,λ u hu=>?_⟩
      rcases List.mem_append.1 hu with hu | hu
      · have:=hsm.2.1 u hu
        omega
      · rw [List.mem_singleton.1 hu];simp
     simp (disch:=try exact DI) only [↓PR,QR,simprocAttr]
     refine Zk (xh w4 (hE.ext (e.trans F4)) (V8 m) hts hl3.1 hl3.2) ?_
     rintro _ w5 ⟨f5,h⟩
     rw [hpt] at h
     rcases h with ⟨m',v,ho,rfl,hv⟩ | ⟨v,n,ho,_,_⟩
     · injection ho with ho _
       injection ho with ho
       subst ho
       obtain ⟨rv',rfl,hR',u1⟩:=hv.op
       have F5:=F4.trans f5
       unfold ZcR Zo
       simp (disch:=try exact DI) only [↓PR,QR,simprocAttr]
       have o9:=Zv w5 (ZL m rv').toArray 24
       have e9:Ext w5 (w5.alloc (.cells (ZL m rv').toArray 24)):=(Ext.refl w5).alloc _
       change Sf _ _ _ _ _ _ (w5.alloc (.cells (ZL m rv').toArray 24))
       generalize (w5.alloc (.cells (ZL m rv').toArray 24))=Y at o9 e9 ⊢
       have F9:=F5.trans e9
       unfold Sf Zo
       simp (disch:=try exact DI) only [↓PR,QR,simprocAttr,(Za o9).1,(Za (F9.obj o1)).1]
       refine zcr (IX Y _ _ m m (YO.ext ⟨_,rfl,hR'⟩ e9) (hm'.ext F9)) λ w6 f6=>?_
       have dm:decide (m=m)=true:=by simp
       rw [dm]
       have F6:=F9.trans f6
       simp (disch:=try exact DI) only [↓PR,QR,simprocAttr]
       exact CN hE (e.trans F6) hs3 (F6.obj o2) (hd'.ext F6) hwd
     · cases ho
end Go.Proofs.YtgalpdihjbinjaaGreatDoor
namespace Go.Sw
open Go.ChangeShapes Go.WideShapes Go.RowKit Go.ChangeAt Go.Deep
theorem MI {α:Type} {p:Nat→α→Prop}:∀ (n:Nat),(∀ i,i < n→∃ x,p i x)→∃ l:List α,l.length=n∧∀ k x,l[k]?=some x→p k x
 | 0,_=>⟨[],rfl,λ k x h=>by simp at h⟩
 | n+1,h=>by
  obtain ⟨l,hl,hp⟩:=MI n (λ i hi=>h i (by omega))
  obtain ⟨x,hx⟩:=h n (by omega)
  refine ⟨l++[x],by simp [hl],λ k y hy=>?_⟩
  rw [List.getElem?_append] at hy
  split at hy
  · exact hp k y hy
  · have hk:k=n:=by
     have:=(List.getElem?_eq_some_iff.1 hy).1
     simp at this
     omega
    subst hk
    simp [hl] at hy
    subst hy
    exact hx
section
variable {H:Type} {enc:TypeId×Vl→H} {P:Program} {w:Wd} {base:Nat} {spare:Nat→Bool} {held:Bool}
theorem Gc {e:TypeId} {m:Nat} {d:DataW H}:∀ {l:List (DataW H)},d∈l→m∈d.weights P e→m∈DataW.weightsAll P e l
 | [],h,_=>by cases h
 | a::l,h,hm=>by
  rw [DataW.weightsAll,List.mem_append]
  rcases List.mem_cons.1 h with rfl | h
  · exact .inl hm
  · exact .inr (Gc h hm)
def XP (P:Program) (t:TypeId) (d:DataW H):Prop:=∀ m∈d.weights P t,m≤reachBytes
theorem BI {ts:List TypeId} {ds:List (DataW H)} (h:(DataW.weightsEach P ts ds).all (· ≤ reachBytes)=true) {j:Nat} {t:TypeId} {d:DataW H} (ht:ts[j]?=some t) (hd:ds[j]?=some d):XP P t d:=λ m hm=>by
 have:=List.all_eq_true.1 h _ (DataW.weights_mem_each ht hd m hm)
 simpa using this
theorem XE {α:Type} {E:Wd→List Vl→α→Prop} {Q:α→Prop} {t e:TypeId} {n fuel:Nat} {cs:List Vl} {x:DataW H×List MemPlace} (ht:P.underlying t=some (.slice e)) (hn:P.cellsOf e=n) (hb1:1≤P.bytesOf e) (h0:0 < n)
 (hE:∀ m cs' y,DataW.trod enc P w base spare held m e cs'=some y→XP P e y.1→∃ x,E w cs' x∧Q x) (h:DataW.trod enc P w base spare held fuel t cs=some x) (hr:XP P t x.1):∃ v l,cs=[v]∧Zc w n E v l∧(∀ x∈l,Q x)∧l.length≤140737488355328:=by
 rcases open_slice ht h with ⟨rfl,_⟩ | ⟨a,len,cap,m,k,D,Pl,rfl,hb,hl,hm,hmm,hx,Y1⟩
 · exact ⟨_,[],rfl,Zc.nil _ _ _,λ x hx=>by (cases hx),Nat.zero_le _⟩
 · have hlm:len≤m:=by rw [hmm];split<;>omega
   subst hx
   have hw0:=hr ((len+(m - len))*P.bytesOf e) (by simp only [DataW.weights,ht];simp)
   have Y8:len≤140737488355328:=by
    have:len*1≤(len+(m - len))*P.bytesOf e:=Nat.mul_le_mul (by omega) hb1
    simp only [reachBytes] at hw0
    omega
   have hD:∀ i,i < len→XP P e (D i):=λ i hi q hq=>hr q (by
    simp only [DataW.weights,ht,List.mem_cons,List.mem_append]
    exact .inr (.inl (Gc (List.mem_map.2 ⟨i,List.mem_range.2 hi,rfl⟩) hq)))
   obtain ⟨l,hll,hp⟩:=MI (p:=λ i (x:α)=>∃ cs',w.cells? base (a.add (i*n)) n=some cs'∧E w cs' x∧Q x) len (λ i hi=>by
    obtain ⟨cs',h1,h2⟩:=Y1 i (by omega)
    rw [hn] at h1
    obtain ⟨x,hx⟩:=hE _ _ _ h2 (hD i hi)
    exact ⟨x,cs',h1,hx⟩)
   refine ⟨_,l,rfl,⟨some a,cap,by rw [hll],by rw [hll];exact hl,by simp only [maxLen] at hm;omega,λ YN=>?_⟩,λ x hx=>?_,by omega⟩
   · obtain ⟨b,o,spot⟩:=a
     have hspot:spot=none:=by
      have:0 < l.length:=List.length_pos_iff.2 YN
      obtain ⟨y,hy⟩:=getElem?_lt this
      obtain ⟨cs',h1,_⟩:=hp 0 y hy
      obtain ⟨_,h2,h3⟩:=World.cells?_some h1
      have h4:=h3 0 h0
      rw [List.getElem?_eq_getElem (by omega)] at h4
      simpa [Addr.add] using World.cell?_spot h4
     subst hspot
     refine ⟨b,o,rfl,λ k x hx=>?_⟩
     obtain ⟨cs',h1,h2,_⟩:=hp k x hx
     obtain ⟨_,h3,h4⟩:=World.cells?_some h1
     refine ⟨cs',h3,λ j v hv=>?_,h2⟩
     have h5:=h4 j (by have:=(List.getElem?_eq_some_iff.1 hv).1;omega)
     rw [hv] at h5
     simpa [Addr.add_lit] using h5
   · obtain ⟨k,hk⟩:=List.getElem?_of_mem hx
     obtain ⟨_,_,_,hq⟩:=hp k x hk
     exact hq
theorem YZ {fs:Array Field} {t:TypeId} {n fuel:Nat} {cs:List Vl} {x:DataW H×List MemPlace} (ht:P.underlying t=some (.struct fs)) (hn:P.cellsOf t=n) (h:DataW.trod enc P w base spare held fuel t cs=some x) (hr:XP P t x.1) :
 cs.length=n∧∃ m,∀ (i:Nat) (ty off k:Nat),(fs[i]?).map (λ f=>(f.type,f.offset))=some (ty,off)→P.cellsOf ty=k→∃ y,DataW.trod enc P w base spare held m ty ((cs.drop off).take k)=some y∧XP P ty y.1:=by
 obtain ⟨xs,m,_,rfl,hl,Y8,hf⟩:=DataW.trod_struct ht h
 refine ⟨hl.trans hn,m,λ i ty off k hi hk=>?_⟩
 obtain ⟨f,hfi,he⟩:=Option.map_eq_some_iff.1 hi
 injection he with h1 h2
 subst h1 h2 hk
 have hil:i < xs.length:=by rw [Y8];exact (Array.getElem?_eq_some_iff.1 hfi).1
 refine ⟨xs[i],(hf i f hfi).trans (List.getElem?_eq_getElem hil),λ q hq=>hr q ?_⟩
 simp only [DataW.weights,ht]
 refine DataW.weights_mem_each (j:=i) (t:=f.type) (d:=xs[i].1) ?_ ?_ q hq
 · rw [List.getElem?_map,Array.getElem?_toList,hfi];rfl
 · rw [List.getElem?_map,List.getElem?_eq_getElem hil];rfl
theorem Tb {r:Reach} {b0:Nat} {t:TypeId} {v:Vl} {d:DataW H} {ps:List MemPlace} (ht:P.underlying t=some .string) (hval:Value.okWide P w r b0 t v) (hd:DataW.Trod enc P w base spare held t v d ps):∃ s:BAr,v = .string s∧d = .lit (.string s.data.toList):=by
 obtain ⟨s,rfl⟩:=okWide_string ht hval
 obtain ⟨fuel,hf⟩:=hd
 obtain ⟨s',h,hx,hs⟩:=DataW.trod_string ht hf
 simp [Value.cells] at h
 simp only [Prod.mk.injEq] at hx
 exact ⟨s,rfl,by rw [hx.1,h]⟩
theorem GM (hl:laidOutB P=true) {W W':Wd} (he:Ext W W'):∀ {ts:List TypeId} {vs:List Vl} {ds:List (DataW H)} {ps:List MemPlace},(∀ t∈ts,P.readableRec t=true∧t < P.types.size)→(∀ x∈ps,x.block < W.heap.size) →
 DataW.TrodAll enc P W 0 (λ _=>true) true ts vs ds ps→DataW.TrodAll enc P W' 0 (λ b=>decide (b < W.heap.size)) true ts vs ds ps
 | [],_,_,_,_,_,h=>by obtain ⟨rfl,rfl,rfl⟩:=trodAll_nil h;exact trodAll_mk0
 | t::ts,_,_,_,hr,Yq,h=>by
  obtain ⟨v,vs1,d,ds1,a,b,rfl,rfl,rfl,h1,h2⟩:=trodAll_cons h
  refine ⟨a,b,?_,GM hl he (λ t ht=>hr t (List.mem_cons_of_mem _ ht)) (λ x hx=>Yq x (List.mem_append_right _ hx)) h2,rfl⟩
  exact Below.trod hl (hr t (List.mem_cons_self ..)).1 (hr t (List.mem_cons_self ..)).2 h1 ⟨he.os,he.tape,he.output,he.size,he.block⟩ (λ x hx=>Yq x (List.mem_append_left _ hx))
theorem PP {f:Func} {s:ChangeSpec} {W W':Wd} {args:AVl} {ds gs:List (DataW H)} {before:List MemPlace} {tb:TypeId} (hl:laidOutB P=true) (hr:∀ t∈f.params.toList,P.readableRec t=true∧t < P.types.size) (hs:s.vars=[])
 (hW:DataW.Whole enc P f.params.toList s.vars false W args.toList ds gs before) (he:Ext W W') (hres:f.resultTypes = #[tb]) (htb:P.underlying tb=some .bool) (hfn:(s.fn H ds).results=[.lit (.bool true)]) (hargs:(s.fn H ds).args=ds) (hvars:(s.fn H ds).vars=[]) :
 s.post enc P f false true false false W args (.bool true) W':=by
 have hW':=hW
 obtain ⟨p,q,hA,hV,rfl,_,_⟩:=hW
 rw [hs] at hV
 obtain ⟨rfl,rfl⟩:=trodVars_none hV
 have Yq:∀ x∈p,x.block < W.heap.size:=λ x hx=>hW'.lt x (by simpa using hx)
 rw [List.append_nil] at hW'
 refine ⟨ds,[],p,[],p,[],hW',?_,?_,?_,Below.frame ⟨he.os,he.tape,he.output,he.size,he.block⟩ _,λ h=>by cases h⟩
 · rw [List.append_nil,hfn,hres]
   exact trodAll_mk1 (shut_bool htb _)
 · rw [List.append_nil,hargs]
   exact GM hl he hr Yq hA
 · rw [List.append_nil,hvars,hs]
   exact rfl
end
end Go.Sw
namespace Go.Proofs.YtgalpdihjbinjaaGreatDoor
open Sw
open Go.ChangeShapes Go.WideShapes Go.RowKit Go.ChangeAt Go.Deep
theorem CR:Pg.cellsOf 128=2:=by kernel_rfl
theorem CP:Pg.cellsOf 213=3:=by kernel_rfl
theorem CQ:Pg.cellsOf 120=2:=by kernel_rfl
theorem Ae:Pg.cellsOf 123=15:=by kernel_rfl
theorem zQ:Pg.cellsOf 74=2:=by kernel_rfl
theorem jo:Pg.cellsOf 27=3:=by kernel_rfl
theorem YX:Pg.cellsOf 9=1:=by kernel_rfl
theorem XX:Pg.cellsOf 3=1:=by kernel_rfl
theorem CO:Pg.cellsOf 4=1:=by kernel_rfl
theorem ND:Pg.cellsOf 117=1:=by kernel_rfl
theorem IG:Pg.cellsOf 118=1:=by kernel_rfl
theorem IF:Pg.cellsOf 121=1:=by kernel_rfl
theorem FK:Pg.cellsOf 72=1:=by kernel_rfl
theorem Ns:1≤Pg.bytesOf 128:=Nat.le_of_ble_eq_true (by kernel_rfl)
theorem Nr:1≤Pg.bytesOf 213:=Nat.le_of_ble_eq_true (by kernel_rfl)
theorem IB:1≤Pg.bytesOf 123:=Nat.le_of_ble_eq_true (by kernel_rfl)
theorem D3:1≤Pg.bytesOf 74:=Nat.le_of_ble_eq_true (by kernel_rfl)
def DQ (f:Zq):Prop:=f.terms.length≤140737488355328∧f.cases.length≤140737488355328∧∀ c∈f.cases,c.of.size≤140737488355328
def OX (m:YT):Prop:=m.fields.length≤140737488355328∧∀ f∈m.fields,DQ f
def OS (d:Xv):Prop:=d.msgs.length≤140737488355328∧∀ m∈d.msgs,OX m
theorem Cn:Pg.cellsOf 25=1:=by kernel_rfl
section
variable {H:Type} {enc:TypeId×Vl→H} {w:Wd} {base:Nat} {spare:Nat→Bool} {held:Bool}
theorem Zbp {m:Nat} {cs:List Vl} {y:DataW H×List MemPlace} (h:DataW.trod enc Pg w base spare held m 128 cs=some y) (hr:XP Pg 128 y.1):∃ x,qo w cs x:=by
 obtain ⟨hl,n,hf⟩:=YZ underlying128 CR h hr
 obtain ⟨y0,h0,r0⟩:=hf 0 9 0 1 rfl YX
 obtain ⟨y1,h1,r1⟩:=hf 1 3 1 1 rfl XX
 match cs,hl with
 | [c0,c1],_=>
  obtain ⟨s,e0,_⟩:=DataW.trod_string underlying9 h0
  obtain ⟨k,e1,_⟩:=DataW.trod_int underlying3 h1
  simp at e0 e1
  subst e0 e1
  exact ⟨⟨s,k⟩,rfl⟩
theorem Zac {m:Nat} {cs:List Vl} {y:DataW H×List MemPlace} (h:DataW.trod enc Pg w base spare held m 213 cs=some y) (hr:XP Pg 213 y.1):∃ x,Ms w cs x∧x.of.size≤140737488355328:=by
 obtain ⟨hl,n,hf⟩:=YZ underlying213 CP h hr
 obtain ⟨y0,h0,r0⟩:=hf 0 3 0 1 rfl XX
 obtain ⟨y1,h1,r1⟩:=hf 1 3 1 1 rfl XX
 obtain ⟨y2,h2,r2⟩:=hf 2 9 2 1 rfl YX
 match cs,hl with
 | [c0,c1,c2],_=>
  obtain ⟨a,e0,_⟩:=DataW.trod_int underlying3 h0
  obtain ⟨b,e1,_⟩:=DataW.trod_int underlying3 h1
  obtain ⟨s,e2,e3,_⟩:=DataW.trod_string underlying9 h2
  simp at e0 e1 e2
  subst e0 e1 e2
  refine ⟨⟨a,b,s⟩,rfl,?_⟩
  have:=r2 s.data.toList.length (by rw [e3];exact List.mem_singleton.2 rfl)
  simp only [reachBytes] at this
  have h4:s.size=s.data.toList.length:=Array.length_toList.symm
  show s.size≤_
  omega
theorem Zbm {m:Nat} {cs:List Vl} {y:DataW H×List MemPlace} (h:DataW.trod enc Pg w base spare held m 120 cs=some y) (hr:XP Pg 120 y.1):∃ b tv ts,cs=[.int .i64 b,tv]∧ZZ w tv ts∧ts.length≤140737488355328:=by
 obtain ⟨hl,n,hf⟩:=YZ underlying120 CQ h hr
 obtain ⟨y0,h0,r0⟩:=hf 0 3 0 1 rfl XX
 obtain ⟨y1,h1,r1⟩:=hf 1 118 1 1 rfl IG
 match cs,hl with
 | [c0,c1],_=>
  obtain ⟨a,e0,_⟩:=DataW.trod_int underlying3 h0
  obtain ⟨v,l,e1,hS,_,hL⟩:=XE (E:=qo) (Q:=λ _=>True) underlying118 CR Ns (by decide) (λ _ _ _ h hr=>let ⟨x,hx⟩:=Zbp h hr; ⟨x,hx,trivial⟩) h1 r1
  simp at e0 e1
  subst e0 e1
  exact ⟨a,_,l,rfl,hS,hL⟩
theorem Pp {m:Nat} {cs:List Vl} {y:DataW H×List MemPlace} (h:DataW.trod enc Pg w base spare held m 123 cs=some y) (hr:XP Pg 123 y.1):∃ x,GS w cs x∧DQ x:=by
 obtain ⟨hl,n,hf⟩:=YZ underlying123 Ae h hr
 obtain ⟨y0,h0,r0⟩:=hf 0 9 0 1 rfl YX
 obtain ⟨y1,h1,r1⟩:=hf 1 117 1 1 rfl ND
 obtain ⟨y2,h2,r2⟩:=hf 2 3 2 1 rfl XX
 obtain ⟨y3,h3,r3⟩:=hf 3 4 3 1 rfl CO
 obtain ⟨y4,h4,r4⟩:=hf 4 4 4 1 rfl CO
 obtain ⟨y5,h5,r5⟩:=hf 5 3 5 1 rfl XX
 obtain ⟨y6,h6,r6⟩:=hf 6 3 6 1 rfl XX
 obtain ⟨y7,h7,r7⟩:=hf 7 120 7 2 rfl CQ
 obtain ⟨y8,h8,r8⟩:=hf 8 9 9 1 rfl YX
 obtain ⟨y9,h9,r9⟩:=hf 9 9 10 1 rfl YX
 obtain ⟨y10,h10,r10⟩:=hf 10 9 11 1 rfl YX
 obtain ⟨y11,h11,r11⟩:=hf 11 121 12 1 rfl IF
 obtain ⟨y12,h12,r12⟩:=hf 12 3 13 1 rfl XX
 obtain ⟨y13,h13,r13⟩:=hf 13 3 14 1 rfl XX
 match cs,hl with
 | [c0,c1,c2,c3,c4,c5,c6,c7,c8,c9,c10,c11,c12,c13,c14],_=>
  obtain ⟨x0,e0,_⟩:=DataW.trod_string underlying9 h0
  obtain ⟨x1,e1,_⟩:=DataW.trod_int underlying117 h1
  obtain ⟨x2,e2,_⟩:=DataW.trod_int underlying3 h2
  obtain ⟨x3,e3,_⟩:=DataW.trod_bool underlying4 h3
  obtain ⟨x4,e4,_⟩:=DataW.trod_bool underlying4 h4
  obtain ⟨x5,e5,_⟩:=DataW.trod_int underlying3 h5
  obtain ⟨x6,e6,_⟩:=DataW.trod_int underlying3 h6
  obtain ⟨x7,tv,ts,e7,hT,hTl⟩:=Zbm h7 r7
  obtain ⟨x9,e9,_⟩:=DataW.trod_string underlying9 h8
  obtain ⟨x10,e10,_⟩:=DataW.trod_string underlying9 h9
  obtain ⟨x11,e11,_⟩:=DataW.trod_string underlying9 h10
  obtain ⟨cv,l,e12,hC,hCq,hCl⟩:=XE (E:=Ms) (Q:=λ c=>c.of.size≤140737488355328) underlying121 CP Nr (by decide) (λ _ _ _ h hr=>Zac h hr) h11 r11
  obtain ⟨x13,e13,_⟩:=DataW.trod_int underlying3 h12
  obtain ⟨x14,e14,_⟩:=DataW.trod_int underlying3 h13
  simp at e0 e1 e2 e3 e4 e5 e6 e7 e9 e10 e11 e12 e13 e14
  obtain ⟨e7,e8⟩:=e7
  subst e0 e1 e2 e3 e4 e5 e6 e7 e8 e9 e10 e11 e12 e13 e14
  exact ⟨⟨x0,x1,x2,x3,x4,x5,x6,x7,ts,x9,x10,x11,l,x13,x14⟩,⟨_,_,rfl,hT,hC⟩,hTl,hCl,hCq⟩
theorem Zec {m:Nat} {cs:List Vl} {y:DataW H×List MemPlace} (h:DataW.trod enc Pg w base spare held m 74 cs=some y) (hr:XP Pg 74 y.1):∃ x,Ir w cs x∧OX x:=by
 obtain ⟨hl,n,hf⟩:=YZ underlying74 zQ h hr
 obtain ⟨y0,h0,r0⟩:=hf 0 9 0 1 rfl YX
 obtain ⟨y1,h1,r1⟩:=hf 1 72 1 1 rfl FK
 match cs,hl with
 | [c0,c1],_=>
  obtain ⟨a,e0,_⟩:=DataW.trod_string underlying9 h0
  obtain ⟨v,l,e1,hS,hQ,hL⟩:=XE (E:=GS) (Q:=DQ) underlying72 Ae IB (by decide) (λ _ _ _ h hr=>Pp h hr) h1 r1
  simp at e0 e1
  subst e0 e1
  exact ⟨⟨a,l⟩,⟨_,rfl,hS⟩,hL,hQ⟩
theorem ZdQ {m:Nat} {cs:List Vl} {y:DataW H×List MemPlace} (h:DataW.trod enc Pg w base spare held m 27 cs=some y) (hr:XP Pg 27 y.1):∃ d mv,cs=Yd d mv∧Vg w mv d.msgs∧OS d:=by
 obtain ⟨hl,n,hf⟩:=YZ underlying27 jo h hr
 obtain ⟨y0,h0,r0⟩:=hf 0 9 0 1 rfl YX
 obtain ⟨y1,h1,r1⟩:=hf 1 25 1 1 rfl Cn
 obtain ⟨y2,h2,r2⟩:=hf 2 9 2 1 rfl YX
 match cs,hl with
 | [c0,c1,c2],_=>
  obtain ⟨a,e0,_⟩:=DataW.trod_string underlying9 h0
  obtain ⟨v,l,e1,hS,hQ,hL⟩:=XE (E:=Ir) (Q:=OX) underlying25 zQ D3 (by decide) (λ _ _ _ h hr=>Zec h hr) h1 r1
  obtain ⟨b,e2,_⟩:=DataW.trod_string underlying9 h2
  simp at e0 e1 e2
  subst e0 e1 e2
  exact ⟨⟨a,l,b⟩,_,rfl,hS,hL,hQ⟩
theorem Zao {r:Reach} {b0:Nat} {v:Vl} {d:DataW H} {ps:List MemPlace} (hval:Value.okWide Pg w r b0 27 v) (h:DataW.Trod enc Pg w base spare held 27 v d ps) (hr:XP Pg 27 d):∃ f,Xk w v f∧OS f:=by
 obtain ⟨cs,rfl,_⟩:=okWide_struct underlying27 hval
 obtain ⟨fuel,hf⟩:=h
 obtain ⟨f,tv,h1,h2,hs⟩:=ZdQ hf hr
 exact ⟨f,⟨tv,congrArg Value.agg (by rw [← h1,ZA]),h2⟩,hs⟩
end
end Go.Proofs.YtgalpdihjbinjaaGreatDoor
namespace Go.Proofs.YtgalpdihjbinjaaGreatDoor
open Sw
open Go.ChangeShapes Go.WideShapes Go.RowKit Go.ChangeAt Go.Deep
theorem FL:Pg.cellsOf 78=3:=by kernel_rfl
theorem Mx:Pg.cellsOf 43=7:=by kernel_rfl
theorem My:Pg.cellsOf 60=3:=by kernel_rfl
theorem Pb:Pg.cellsOf 24=2:=by kernel_rfl
theorem Zae:Pg.cellsOf 39=1:=by kernel_rfl
theorem Zad:Pg.cellsOf 40=1:=by kernel_rfl
theorem NF:Pg.cellsOf 41=1:=by kernel_rfl
theorem Pa:Pg.cellsOf 58=1:=by kernel_rfl
theorem Pc:Pg.cellsOf 22=1:=by kernel_rfl
theorem Pd:Pg.cellsOf 5=1:=by kernel_rfl
theorem bytesRow:1≤Pg.bytesOf 78:=Nat.le_of_ble_eq_true (by kernel_rfl)
theorem T8:1≤Pg.bytesOf 43:=Nat.le_of_ble_eq_true (by kernel_rfl)
theorem T9:1≤Pg.bytesOf 60:=Nat.le_of_ble_eq_true (by kernel_rfl)
theorem O3:1≤Pg.bytesOf 5:=Nat.le_of_ble_eq_true (by kernel_rfl)
theorem JZ {n:Int} (h:(Lit.int .i64 n).wf=true):Qm n=true:=h
section
variable {H:Type} {enc:TypeId×Vl→H} {w:Wd} {base:Nat} {spare:Nat→Bool} {held:Bool}
theorem O2 {m:Nat} {cs:List Vl} {y:DataW H×List MemPlace} (h:DataW.trod enc Pg w base spare held m 5 cs=some y):∃ x:UInt8,CI w cs x:=by
 obtain ⟨k,rfl,_,hw⟩:=DataW.trod_int underlying5 h
 have hk:0≤k∧k≤255:=by
  have h2:(decide (IntKind.u8.min≤k)&&decide (k≤IntKind.u8.max))=true:=hw
  rw [Bool.and_eq_true,decide_eq_true_eq,decide_eq_true_eq,show IntKind.u8.min=0 from rfl,show IntKind.u8.max=255 from rfl] at h2
  exact h2
 refine ⟨UInt8.ofNat k.toNat,?_⟩
 show [Value.int .u8 k]=[Value.int .u8 ((UInt8.ofNat k.toNat).toNat:Int)]
 rw [UInt8.toNat_ofNat',Nat.mod_eq_of_lt (by omega)]
 congr 2
 omega
theorem Zez {m:Nat} {cs:List Vl} {y:DataW H×List MemPlace} (h:DataW.trod enc Pg w base spare held m 78 cs=some y) (hr:XP Pg 78 y.1):∃ x,T0 w cs x∧Vo x=true:=by
 obtain ⟨hl,n,hf⟩:=YZ underlying78 FL h hr
 obtain ⟨y0,h0,r0⟩:=hf 0 3 0 1 rfl XX
 obtain ⟨y1,h1,r1⟩:=hf 1 3 1 1 rfl XX
 obtain ⟨y2,h2,r2⟩:=hf 2 3 2 1 rfl XX
 match cs,hl with
 | [c0,c1,c2],_=>
  obtain ⟨a,e0,_,w0⟩:=DataW.trod_int underlying3 h0
  obtain ⟨b,e1,_,w1⟩:=DataW.trod_int underlying3 h1
  obtain ⟨c,e2,_,w2⟩:=DataW.trod_int underlying3 h2
  simp at e0 e1 e2
  subst e0 e1 e2
  refine ⟨⟨a,b,c⟩,rfl,?_⟩
  unfold Vo
  rw [JZ w0,JZ w1,JZ w2]
  rfl
theorem Zfp {m:Nat} {cs:List Vl} {y:DataW H×List MemPlace} (h:DataW.trod enc Pg w base spare held m 43 cs=some y) (hr:XP Pg 43 y.1):∃ x,EFr w cs x∧inF x=true:=by
 obtain ⟨hl,n,hf⟩:=YZ underlying43 Mx h hr
 obtain ⟨y0,h0,r0⟩:=hf 0 9 0 1 rfl YX
 obtain ⟨y1,h1,r1⟩:=hf 1 39 1 1 rfl Zae
 obtain ⟨y2,h2,r2⟩:=hf 2 9 2 1 rfl YX
 obtain ⟨y3,h3,r3⟩:=hf 3 3 3 1 rfl XX
 obtain ⟨y4,h4,r4⟩:=hf 4 3 4 1 rfl XX
 obtain ⟨y5,h5,r5⟩:=hf 5 40 5 1 rfl Zad
 obtain ⟨y6,h6,r6⟩:=hf 6 41 6 1 rfl NF
 match cs,hl with
 | [c0,c1,c2,c3,c4,c5,c6],_=>
  obtain ⟨x0,e0,_⟩:=DataW.trod_string underlying9 h0
  obtain ⟨x1,e1,_⟩:=DataW.trod_int underlying39 h1
  obtain ⟨x2,e2,_⟩:=DataW.trod_string underlying9 h2
  obtain ⟨x3,e3,_,w3⟩:=DataW.trod_int underlying3 h3
  obtain ⟨x4,e4,_,w4⟩:=DataW.trod_int underlying3 h4
  obtain ⟨v5,l5,e5,hS5,_,_⟩:=XE (E:=CI) (Q:=λ _=>True) underlying40 Pd O3 (by decide) (λ _ _ _ h hr=>let ⟨x,hx⟩:=O2 h; ⟨x,hx,trivial⟩) h5 r5
  obtain ⟨v6,l6,e6,hS6,hQ6,_⟩:=XE (E:=T0) (Q:=λ x=>Vo x=true) underlying41 FL bytesRow (by decide) (λ _ _ _ h hr=>Zez h hr) h6 r6
  simp at e0 e1 e2 e3 e4 e5 e6
  subst e0 e1 e2 e3 e4 e5 e6
  refine ⟨⟨x0,x1,x2,x3,x4,l5,l6⟩,⟨_,_,rfl,hS5,hS6⟩,?_⟩
  unfold inF
  simp only [JZ w3,JZ w4,Bool.true_and,List.all_eq_true]
  exact hQ6
theorem Zfy {m:Nat} {cs:List Vl} {y:DataW H×List MemPlace} (h:DataW.trod enc Pg w base spare held m 60 cs=some y) (hr:XP Pg 60 y.1):∃ x,EMr w cs x∧∀ z∈x.fields,inF z=true:=by
 obtain ⟨hl,n,hf⟩:=YZ underlying60 My h hr
 obtain ⟨y0,h0,r0⟩:=hf 0 9 0 1 rfl YX
 obtain ⟨y1,h1,r1⟩:=hf 1 9 1 1 rfl YX
 obtain ⟨y2,h2,r2⟩:=hf 2 58 2 1 rfl Pa
 match cs,hl with
 | [c0,c1,c2],_=>
  obtain ⟨a,e0,_⟩:=DataW.trod_string underlying9 h0
  obtain ⟨b,e1,_⟩:=DataW.trod_string underlying9 h1
  obtain ⟨v,l,e2,hS,hQ,_⟩:=XE (E:=EFr) (Q:=λ x=>inF x=true) underlying58 Mx T8 (by decide) (λ _ _ _ h hr=>Zfp h hr) h2 r2
  simp at e0 e1 e2
  subst e0 e1 e2
  exact ⟨⟨a,b,l⟩,⟨_,rfl,hS⟩,hQ⟩
def OW (m:Yo):Prop:=∀ r∈m.rules,∀ x∈r.fields,inF x=true
theorem Zeb {m:Nat} {cs:List Vl} {y:DataW H×List MemPlace} (h:DataW.trod enc Pg w base spare held m 24 cs=some y) (hr:XP Pg 24 y.1):∃ d rv,cs=ZL d rv∧VC w rv d.rules∧OW d:=by
 obtain ⟨hl,n,hf⟩:=YZ underlying24 Pb h hr
 obtain ⟨y0,h0,r0⟩:=hf 0 9 0 1 rfl YX
 obtain ⟨y1,h1,r1⟩:=hf 1 22 1 1 rfl Pc
 match cs,hl with
 | [c0,c1],_=>
  obtain ⟨a,e0,_⟩:=DataW.trod_string underlying9 h0
  obtain ⟨v,l,e1,hS,hQ,_⟩:=XE (E:=EMr) (Q:=λ x=>∀ z∈x.fields,inF z=true) underlying22 My T9 (by decide) (λ _ _ _ h hr=>Zfy h hr) h1 r1
  simp at e0 e1
  subst e0 e1
  exact ⟨⟨a,l⟩,_,rfl,hS,hQ⟩
theorem ZaP {r:Reach} {b0:Nat} {v:Vl} {d:DataW H} {ps:List MemPlace} (hval:Value.okWide Pg w r b0 24 v) (h:DataW.Trod enc Pg w base spare held 24 v d ps) (hr:XP Pg 24 d):∃ f,YO w v f∧OW f:=by
 obtain ⟨cs,rfl,_⟩:=okWide_struct underlying24 hval
 obtain ⟨fuel,hf⟩:=h
 obtain ⟨f,tv,h1,h2,hs⟩:=Zeb hf hr
 exact ⟨f,⟨tv,congrArg Value.agg (by rw [← h1,ZA]),h2⟩,hs⟩
end
end Go.Proofs.YtgalpdihjbinjaaGreatDoor
namespace Go.Proofs.YtgalpdihjbinjaaGreatDoor
open Sw
open Go.RowKit Go.Deep
def QT:List (String×DataW Unit):=[("math/bits.deBruijn32tab", Rows.laid_math_bits_deBruijn32tab),("math/bits.deBruijn64tab", Rows.laid_math_bits_deBruijn64tab),("internal/strconv.uint64pow10", Rows.laid_internal_strconv_uint64pow10),("unicode/utf8.acceptRanges", Rows.laid_unicode_utf8_acceptRanges),("strconv.ErrRange", Rows.laid_strconv_ErrRange),("strconv.ErrSyntax", Rows.laid_strconv_ErrSyntax),("unicode/utf8.first", Rows.laid_unicode_utf8_first)]
theorem role_own:ownKnob Pg.godebug=none:=by kernel_rfl
theorem role_laidOut:laidOutB Pg=true:=by kernel_rfl
theorem Tn (os:Os) (args:AVl):laidMetH Pg QT ((World.laidAll Pg os QT).forCall (λ _ _=>0) ⟨#[],args,[]⟩).memory:=by
 rw [MakeChecks.laidMetH_plain _ _ _ (by kernel_rfl)]
 exact laidMet_laidAll _ (by kernel_rfl) (by kernel_rfl)
theorem To {W:Wd} (h:laidMetH Pg QT W):UJ W:=by
 rw [MakeChecks.laidMetH_plain _ _ _ (by kernel_rfl)] at h
 have h3:=laidMet.tail (laidMet.tail h)
 have he:(Rows.laid_internal_strconv_uint64pow10:DataW Unit)=Go.Lib.tabData .u64 Go.Lib.pow10Tab:=by kernel_rfl
 rw [he] at h3
 obtain ⟨g,hg⟩:=Option.isSome_iff_exists.1 Zfq
 have hty:(Pg.globals[g]?).map (·.type)=some 281:=by
  have h1:(Pg.globalNamed "internal/strconv.uint64pow10").bind (λ g=>(Pg.globals[g]?).map (·.type))=some 281:=by kernel_rfl
  rw [hg] at h1
  exact h1
 exact Go.Lib.tabIs_of_head hg hty underlying281 underlying191 (by kernel_rfl) (by kernel_rfl) h3
theorem DF : "*" ++ "errors.errorString" = "*errors.errorString" := by decide
theorem jg (u:TypeId) (h:Pg.typeName? 3 u=some "*errors.errorString"):u=292:=
 typeName_ptr_named (nm := "errors.errorString") (by rw [DF];kernel_rfl) (by kernel_rfl) (by decide) u (by rw [DF];exact h)
theorem Tm {W:Wd} (hs:W.ShapedOpen Pg) (h:laidMetH Pg QT W):UD W:=by
 refine ⟨To h,Go.Proofs.cell_of_shapedOpen_int (k := .i64) hs (of_decide_eq_true (by kernel_rfl)) (zero := #[.int .i64 0]) (t:=3) (by kernel_rfl) rfl (by kernel_rfl) (by kernel_rfl) underlying3,?_,?_⟩
 · rw [MakeChecks.laidMetH_plain _ _ _ (by kernel_rfl)] at h
   have h5:=h.tail.tail.tail.tail.tail
   obtain ⟨a,s,hv,_⟩:=laid_sentinel (g:=3) h5 (by kernel_rfl) (by kernel_rfl) underlying162 jg underlying292 underlying294 rfl rfl underlying9 (by kernel_rfl) (by kernel_rfl)
   refine ⟨_,by rw [World.var?_cell (show Pg.globalNamed "strconv.ErrSyntax" = some 3 by kernel_rfl) hv 0];rfl,.inr ⟨_,_,rfl⟩⟩
 · rw [MakeChecks.laidMetH_plain _ _ _ (by kernel_rfl)] at h
   have h5:=h.tail.tail.tail.tail
   obtain ⟨a,s,hv,_⟩:=laid_sentinel (g:=4) h5 (by kernel_rfl) (by kernel_rfl) underlying162 jg underlying292 underlying294 rfl rfl underlying9 (by kernel_rfl) (by kernel_rfl)
   refine ⟨_,by rw [World.var?_cell (show Pg.globalNamed "strconv.ErrRange" = some 4 by kernel_rfl) hv 0];rfl,.inr ⟨_,_,rfl⟩⟩
def Zfj:List Int:=[0,1,56,2,57,49,28,3,61,58,42,50,38,29,17,4,62,47,59,36,45,43,51,22,53,39,33,30,24,18,12,5,63,55,48,27,60,41,37,16,46,35,44,21,52,32,23,11,54,26,40,15,34,20,31,10,25,14,19,9,13,8,7,6]
theorem ZaN {W:Wd} (hs:W.ShapedOpen Pg) (h:laidMetH Pg QT W):Vf W:=by
 refine ⟨Tm hs h,?_⟩
 rw [MakeChecks.laidMetH_plain _ _ _ (by kernel_rfl)] at h
 have h2:=laidMet.tail h
 have he:(Rows.laid_math_bits_deBruijn64tab:DataW Unit)=Go.Lib.tabData .u8 Zfj:=by kernel_rfl
 rw [he] at h2
 have hg:Pg.globalNamed "math/bits.deBruijn64tab" = some 7:=by kernel_rfl
 have hv:=Go.Lib.tabIs_of_head hg (t:=306) (by kernel_rfl) underlying306 underlying5 (by kernel_rfl) (by kernel_rfl) h2
 rw [World.var?_cell hg hv 15]
 rfl
theorem IR {H:Type} {enc:TypeId×Vl→H} {a:Assume} {C:Checked} {os:Os} {f:FuncId} {fn:Func} {s:ChangeSpec} {conds:List PathCond} {apart fresh handsOn again:Bool} {X:Wd→AVl→Prop}
 (hX:∀ (w w':Wd) (args:AVl),w.heap=w'.heap→X w args→X w' args)
 (own:ownKnob C.prog.godebug=none) (started:os.Started) (noInit:C.prog.inits.idxOf? f=none) (hfn:C.prog.funcs[f]?=some fn)
 (witness:∃ (w:Wd) (tape:Tape) (i:Input),w.os=os∧(w.forCall tape i).Shaped C.prog∧i.vars=[]∧Input.okWide C.prog (w.forCall tape i) .any w.heap.size f i ∧
  ((s.pre enc C.prog fn conds apart (w.forCall tape i).memory i.args∧X (w.forCall tape i).memory i.args)∧sizedMet enc C.prog fn (OpenSpec.ofChange s) apart (w.forCall tape i).memory i.args)∧a.holds C.prog (lone (Frame.enter C.prog f i.args .normal) [] (w.forCall tape i)))
 (contract:∀ (W:Wd) (base:Nat) (args:AVl) (ds gs:List (DataW H)) (before:List MemPlace),
  (∀ (j:Nat) t v,fn.params[j]?=some t→args[j]?=some v→Value.okWide C.prog W .any base t v) →
  DataW.Whole enc C.prog fn.params.toList s.vars apart W args.toList ds gs before →
  conds.all (PathCond.test C.prog ⟨fn.params.toList,ds,s.plain.varTypes C.prog,gs⟩)=true →
  (DataW.weightsEach C.prog (fn.params.toList++s.plain.varTypes C.prog) (ds++gs)).all (· ≤ reachBytes)=true→X W args→W.ShapedOpen C.prog →
  a.holds C.prog (lone (Frame.enter C.prog f args .normal) [] W) →
  Calls C.prog f args W λ e W'=>∃ v,e = .returned v∧s.post enc C.prog fn apart fresh handsOn again W args v W') :
 ReturnsInHanded a C os f .any (λ w args=>(s.pre enc C.prog fn conds apart w args∧X w args)∧sizedMet enc C.prog fn (OpenSpec.ofChange s) apart w args) (s.post enc C.prog fn apart fresh handsOn again):=by
 refine returnsInHanded_of_calls own started noInit witness ?_
 intro w tape i _ hsh _ hok hpre hholds
 obtain ⟨_,_,_,fn',hfn',_,_,_,_,hval⟩:=hok
 have e:fn'=fn:=Option.some.inj (hfn'.symm.trans hfn)
 subst e
 obtain ⟨⟨⟨ds,gs,before,hw,hc⟩,hx⟩,hz⟩:=hpre
 have hw':=DataW.Whole.of_heap (w':=w.forCall tape i) (by rfl) hw
 refine (contract (w.forCall tape i) w.heap.size i.args ds gs before hval hw' hc (hz.weights hw) (hX _ _ _ (by rfl) hx) hsh hholds).mono λ e W' ⟨v,he,hp⟩=>?_
 subst he
 exact ChangeSpec.post_blind hp
end Go.Proofs.YtgalpdihjbinjaaGreatDoor
namespace Go.Proofs.YtgalpdihjbinjaaGreatDoor
open Sw
open Go.ChangeShapes Go.WideShapes Go.RowKit Go.ChangeAt Go.Deep
theorem jV (W:Wd) (v0:Vl) (f0:Yo) (s1:BAr) (v2:Vl) (f2:Xv) (hf0:YO W v0 f0) (hs0:OW f0) (hf2:Xk W v2 f2) (hs2:OS f2) (hE:Vf W):Ret Pg 9 #[v0,.string s1,v2] W λ r w'=>r = .bool true∧Ext W w':=jm W hE v0 v2 f0 s1 f2 hf0 hf2 hs0
theorem mback_lifted (os:Os) (started:os.Started) (H:Type) (enc:TypeId×Vl→H) :
 ReturnsInHanded {} Tryz.checked os 9 .any (λ w args=>(Rows.mappingBackSpec.pre enc Pg Tryz.f9 Rows.mappingBackRow.domain false w args∧laidMetH Pg QT w)∧sizedMet enc Pg Tryz.f9 (OpenSpec.ofChange Rows.mappingBackSpec) false w args) (Rows.mappingBackSpec.post enc Pg Tryz.f9 false true false false):=by
 refine IR (C:=Tryz.checked) (X:=λ w _=>laidMetH Pg QT w) (λ _ _ _ hh h=>h.of_heap hh) role_own started (by kernel_rfl) func9
  (ChangeSpec.witness_shaped (enc:=enc) (C:=Tryz.checked) (os:=os) (X:=λ w _=>laidMetH Pg QT w) false (World.laidAll Pg os QT) #[.agg #[.string ByteArray.empty,.slice none 0 0],.string ByteArray.empty,.agg #[.string ByteArray.empty,.slice none 0 0,.string ByteArray.empty]] 8 (World.laidAll_os _ _ _) (World.shaped_of_ZipB (by kernel_rfl) (by kernel_rfl)) (by kernel_rfl) (by kernel_rfl) (by kernel_rfl) (Tn os _)) ?_
 intro W base args ds gs before hval hW _ Jj hL hsh _
 have hW':=hW
 obtain ⟨p,q,hA0,hV,rfl,_,_⟩:=hW
 have hA:DataW.TrodAll enc Pg W 0 (λ _=>true) true Tryz.f9.params.toList args.toList ds p:=hA0
 rw [Tryz.params9] at hA hval Jj
 obtain ⟨v0,vs0,d0,ds0,p0,q0,ha0,rfl,rfl,h0,r0⟩:=trodAll_cons hA
 obtain ⟨v1,vs1,d1,ds1,p1,q1,ha1,rfl,rfl,h1,r1⟩:=trodAll_cons r0
 obtain ⟨v2,vs2,d2,ds2,p2,q2,ha2,rfl,rfl,h2,r2⟩:=trodAll_cons r1
 obtain ⟨rfl,rfl,rfl⟩:=trodAll_nil r2
 subst ha2 ha1
 obtain rfl:args = #[v0,v1,v2]:=by cases args;simp_all
 obtain ⟨f0,hf0,hs0⟩:=ZaP (hval 0 _ v0 rfl rfl) h0 (BI (j:=0) Jj rfl rfl)
 obtain ⟨s1,rfl,_⟩:=Tb underlying9 (hval 1 _ v1 rfl rfl) h1
 obtain ⟨f2,hf2,hs2⟩:=Zao (hval 2 _ v2 rfl rfl) h2 (BI (j:=2) Jj rfl rfl)
 refine Calls.mono (jV W v0 f0 s1 v2 f2 hf0 hs0 hf2 hs2 (ZaN hsh hL)) λ e W' ⟨v,he,hv,hx⟩=>?_
 subst he hv
 exact ⟨_,rfl,PP role_laidOut (by decide +kernel) rfl hW' hx rfl underlying4 rfl rfl rfl⟩
theorem Ct:Pg.inPlace 9=Rows.mappingBackRow.inPlace:=by kernel_rfl
theorem xF:Pg.unfollowed 9=Rows.mappingBackRow.unfollowed:=by kernel_rfl
theorem AK:Pg.recurses 9=Rows.mappingBackRow.recurses:=by kernel_rfl
theorem ju:Pg.varsNamed 9=Rows.mappingBackRow.named:=by kernel_rfl
theorem Hq:joinedFacts Pg 9 Tryz.f9 Rows.mappingBackSpec Rows.mappingBackRow=true:=by
 unfold joinedFacts
 rw [Ct,xF,AK,ju]
 kernel_rfl
theorem mback_holds:Rows.MappingBackSaid:=
 OpenClaim.holds_of_wide 9 Tryz.f9 rfl rfl rfl rfl rfl rfl rfl ⟨rfl,rfl,rfl,rfl,rfl⟩ rfl rfl rfl rfl rfl (by kernel_rfl) func9 Hq
  (of_decide_eq_true (by kernel_rfl)) (by unfold Func.isWrapper;first | (rw [if_pos (by decide +kernel)];kernel_rfl) | (rw [if_neg (by decide +kernel)];exact ⟨rfl,rfl⟩))
  (λ os started H enc _=>mback_lifted os started H enc)
theorem mback_card:Rows.MappingBackCardSaid:=
 Claim7.holds_tied_plain_at .later [] [.data,.data,.data,.data,.sentinel,.sentinel,.pinned] true (true, "cedc2496089f77d4df55280aa44dc215bf5ea19b61a6b8ccb76ab88a333a5715") true
  mback_holds (λ _ h=>by cases h) (by kernel_rfl) (λ _ h=>by cases h) mappingBack_row_tie rfl ⟨rfl,rfl⟩ (by kernel_rfl) rfl
  (λ f fn hf hfn=>by
   obtain rfl:f=9:=Option.some.inj ((show Pg.funcNamed "phrasebook/phrasebooklaw45.MappingBack" = some 9 by kernel_rfl).symm.trans hf) |>.symm
   obtain rfl:fn=Tryz.f9:=(Option.some.inj (func9.symm.trans hfn)).symm
   exact ⟨by kernel_rfl,λ j t ht=>by
    rw [Tryz.params9] at ht
    have hm:t∈[24,9,27]:=by simpa using Array.mem_of_getElem? ht
    have hall:([24,9,27].all λ u=>!Pg.wantsStandIn u)=true:=by kernel_rfl
    exact (show Pg.wantsStandIn t=false by simpa using List.all_eq_true.1 hall t hm)⟩)
  (by kernel_rfl)
end Go.Proofs.YtgalpdihjbinjaaGreatDoor
