/-
  phrasebooklaw07.ScopePrunes returns true for every definition, and leaves its arguments as they were; no condition is asked.
-/
import Derived.Test.YtfjjgjjlebllmaaGreatQe5
set_option linter.all false
set_option maxHeartbeats 4000000
set_option maxRecDepth 100000
namespace Go.Proofs.YtfjjgjjlebllmaaGreat
open Sw
open Go.RowKit (intOf Below)
theorem Vm (w0:World) (v u:Value) (l m:List Int) (hl:Ze w0 1 GS v l) (hm:Ze w0 1 GS u m) :
 Ret Pg 14 #[v,u] w0 λ r w'=>r = .bool (decide (l=m))∧Ext w0 w':=by
 obtain ⟨A,c,rfl,hlc,hcm,hlm,hel⟩:=Ze.open hl
 obtain ⟨A',c',rfl,hlc',hcm',hlm',hel'⟩:=Ze.open hm
 refine ZfY (R:=ZQ _) ?_;unfold n12
 simp (disch:=try exact DI) only [↓PR,QR,simprocAttr]
 by_cases hlen:l.length=m.length
 · have hne:((l.length:Int) != (m.length:Int))=false:=by simp [hlen]
   simp (disch:=try exact DI) only [↓PR,QR,simprocAttr,hne]
   refine ZA (λ a0 w=>∃ (k:Nat) , a0 = .int .i64 (k:Int)∧k≤l.length∧Ext w0 w∧l.take k=m.take k) (λ a0 _=>l.length - (intOf a0).toNat) ⟨0,rfl,Nat.zero_le _,ee,rfl⟩ ?_
   rintro _ w ⟨k,rfl,hk,e,hI⟩
   have se:=e.size
   rcases ZB hk with ⟨x,hx,hd,hlt,hdec⟩ | ⟨hk,hd,hdec⟩
   · obtain ⟨b,o,cs,rfl,_,hA,rfl⟩:=hel k x hx
     obtain ⟨y,hy⟩:=getElem?_lt (l:=m) (k:=k) (by omega)
     obtain ⟨b',o',cs',rfl,_,hA',rfl⟩:=hel' k y hy
     have hlt':k < m.length:=by omega
     have eD:Ext w0 w.drew:=e.wdrew
     simp (disch:=try exact DI) only [↓PR,QR,simprocAttr,↓M8,hdec]
     refine ZI ?_
     unfold Tk
     by_cases hxy:x=y
     · subst hxy
       have hxx:(x != x)=false:=by simp
       simp (disch:=try exact DI) only [↓PR,QR,simprocAttr,hA.c1,hA'.c1,hxx]
       exact ⟨⟨k+1,rfl,by omega,ee,by rw [List.take_add_one,List.take_add_one,hx,hy,hI]⟩,ZF (kd := .i64) hlt⟩
     · have hxx:(x != y)=true:=by simpa using hxy
       simp (disch:=try exact DI) only [↓PR,QR,simprocAttr,hA.c1,hA'.c1,hxx]
       have hne':¬ l=m:=by
        rintro rfl
        rw [hx] at hy
        injection hy with hy
        exact hxy hy
       exact ⟨by simp [hne'],eD⟩
   · subst hk
     simp (disch:=try exact DI) only [↓PR,QR,simprocAttr,↓M8,hdec]
     rw [List.take_length,hlen,List.take_length] at hI
     exact ⟨by simp [hI],e⟩
 · have hne:((l.length:Int) != (m.length:Int))=true:=by simp;omega
   simp (disch:=try exact DI) only [↓PR,QR,simprocAttr,hne]
   have hne':¬ l=m:=λ h=>hlen (by rw [h])
   exact ⟨by simp [hne'],Ext.refl _⟩
theorem Xf {α:Type} {w:World} {b n:Nat} {T:TypeId} {E:World→List Value→α→Prop} (css:List (List Value)) (l:List α) (hn0:0 < n) (h:w.heap[b]?=some (.cells css.flatten.toArray T (0,0))) (hn:∀ cs∈css,cs.length=n) (hl:l.length=css.length) (hb:l.length≤1048576) (hE:∀ (k:Nat) cs x,css[k]?=some cs→l[k]?=some x→E w cs x):Ze w n E (.slice (some ⟨b,0,none⟩) l.length l.length) l:=by
 refine ⟨_,_,rfl,Nat.le_refl _,by omega,λ _=>⟨b,0,rfl,λ k x hx=>?_⟩⟩
 obtain ⟨cs,hcs⟩:=getElem?_lt (l:=css) (k:=k) (by have:=(List.getElem?_eq_some_iff.1 hx).1;omega)
 refine ⟨cs,hn cs (List.mem_of_getElem? hcs),λ j u hu=>?_,hE k cs x hcs hx⟩
 rw [(Za h).1]
 have hj:j < n:=by have:=(List.getElem?_eq_some_iff.1 hu).1;rw [hn cs (List.mem_of_getElem? hcs)] at this;exact this
 have key:∀ (css:List (List Value)) (k:Nat),(∀ cs∈css,cs.length=n)→css[k]?=some cs→css.flatten[k*n+j]?=some u:=by
  intro css
  induction css with
  | nil=>intro k _ h;cases h
  | cons c css ih =>
   intro k hn h
   have hc:=hn c (List.mem_cons_self ..)
   cases k with
   | zero =>
    injection h with h
    subst h
    rw [List.flatten_cons,Nat.zero_mul,Nat.zero_add,List.getElem?_append_left (by omega)]
    exact hu
   | succ k =>
    rw [List.flatten_cons,List.getElem?_append_right (by rw [hc,Nat.succ_mul];omega),hc,show (k+1)*n+j - n=k*n+j by rw [Nat.succ_mul];omega]
    exact ih k (λ cs hm=>hn cs (List.mem_cons_of_mem _ hm)) h
 have:=key css k hn hcs
 simpa using this
def zF:Zm:={ name:=ByteArray.empty,kind:=0,bits:=0,little:=false,loose:=false,low:=0,high:=0,base:=0,terms:=[],of:=ByteArray.empty,tag:=ByteArray.empty,fr:=ByteArray.empty,cases:=[],check:=0,key:=0 }
def fN:Zm:={ zF with name:=⟨#[110]⟩,kind:=1,bits:=8,high:=9 }
def fX:Zm:={ zF with name:=⟨#[120]⟩,kind:=8,of:=⟨#[97]⟩ }
def fT:Zm:={ zF with name:=⟨#[116]⟩,kind:=3,high:=9 }
def fL:Zm:={ zF with name:=⟨#[108]⟩,kind:=7,of:=⟨#[98]⟩,terms:=[⟨⟨#[110]⟩,2⟩] }
def fS:Zm:={ zF with name:=⟨#[115]⟩,kind:=9,tag:=⟨#[116]⟩,cases:=[⟨0,0,⟨#[97]⟩⟩,⟨1,1,⟨#[98]⟩⟩] }
def fK:Zm:={ zF with name:=⟨#[107]⟩,kind:=11,check:=1,fr:=⟨#[108]⟩ }
def mA:ZD:=⟨⟨#[97]⟩,[fN]⟩
def mB:ZD:=⟨⟨#[98]⟩,[fX]⟩
def mC:ZD:=⟨⟨#[99]⟩,[fN,fT,fL,fS,fK]⟩
def mZ:ZD:=⟨⟨#[122]⟩,[fN]⟩
def gvD:YF:=⟨⟨#[100]⟩,[mA,mB,mC,mZ],⟨#[99]⟩⟩
theorem LD (w0:World):Ret Pg 38 #[] w0 λ r w'=>(∃ b fa fb fc fz,r = .agg #[.string ⟨#[100]⟩,.slice (some ⟨b,0,none⟩) 4 4,.string ⟨#[99]⟩]∧w'.heap[b]?=some (.cells #[.string ⟨#[97]⟩,fa,.string ⟨#[98]⟩,fb,.string ⟨#[99]⟩,fc,.string ⟨#[122]⟩,fz] 24 (0,0))∧Z4 w' fa [fN]∧Z4 w' fb [fX]∧Z4 w' fc mC.fields∧Z4 w' fz [fN])∧Ext w0 w':=by
 refine Zfc (R:=ZQ _) ?_;unfold n10
 simp (disch:=try exact DI) only [↓PR,QR,simprocAttr]
 generalize hn:w0.heap.size=n
 refine ⟨⟨n+8,.slice (some ⟨n+2,0,none⟩) 1 1,.slice (some ⟨n+3,0,none⟩) 1 1,.slice (some ⟨n+6,0,none⟩) 5 5,.slice (some ⟨n+7,0,none⟩) 1 1,rfl,?_,?_,?_,?_,?_⟩,ee⟩
 · subst hn
   simp (disch:=try exact DI) only [↓PR,QR,simprocAttr]
 · subst hn
   exact Xf [Zo fN (.slice none 0 0) (.slice none 0 0)] [fN] (by decide) (by simp (disch:=try exact DI) only [↓PR,QR,simprocAttr];rfl) (by simp [Zo]) rfl (by decide) λ k cs x h1 h2=>by
    match k with
    | 0=>injection h1 with h1;injection h2 with h2;subst h1 h2;exact ⟨_,_,rfl,Ze.nil _ _ _,Ze.nil _ _ _⟩
 · subst hn
   exact Xf [Zo fX (.slice none 0 0) (.slice none 0 0)] [fX] (by decide) (by simp (disch:=try exact DI) only [↓PR,QR,simprocAttr];rfl) (by simp [Zo]) rfl (by decide) λ k cs x h1 h2=>by
    match k with
    | 0=>injection h1 with h1;injection h2 with h2;subst h1 h2;exact ⟨_,_,rfl,Ze.nil _ _ _,Ze.nil _ _ _⟩
 · subst hn
   refine Xf [Zo fN (.slice none 0 0) (.slice none 0 0),Zo fT (.slice none 0 0) (.slice none 0 0),Zo fL (.slice (some ⟨w0.heap.size+4,0,none⟩) 1 1) (.slice none 0 0),Zo fS (.slice none 0 0) (.slice (some ⟨w0.heap.size+5,0,none⟩) 2 2),Zo fK (.slice none 0 0) (.slice none 0 0)] mC.fields (by decide) (by simp (disch:=try exact DI) only [↓PR,QR,simprocAttr];rfl) (by simp [Zo]) rfl (by decide) λ k cs x h1 h2=>?_
   match k with
   | 0=>injection h1 with h1;injection h2 with h2;subst h1 h2;exact ⟨_,_,rfl,Ze.nil _ _ _,Ze.nil _ _ _⟩
   | 1=>injection h1 with h1;injection h2 with h2;subst h1 h2;exact ⟨_,_,rfl,Ze.nil _ _ _,Ze.nil _ _ _⟩
   | 2 =>
    injection h1 with h1;injection h2 with h2;subst h1 h2
    refine ⟨_,_,rfl,?_,Ze.nil _ _ _⟩
    exact Xf (T:=62) [Wj ⟨⟨#[110]⟩,2⟩] fL.terms (by decide) (by simp (disch:=try exact DI) only [↓PR,QR,simprocAttr];rfl) (by simp [Wj]) rfl (by decide) λ k cs x h1 h2=>by
     match k with
     | 0=>injection h1 with h1;injection h2 with h2;subst h1 h2;rfl
   | 3 =>
    injection h1 with h1;injection h2 with h2;subst h1 h2
    refine ⟨_,_,rfl,Ze.nil _ _ _,?_⟩
    exact Xf (T:=60) [Ql ⟨0,0,⟨#[97]⟩⟩,Ql ⟨1,1,⟨#[98]⟩⟩] fS.cases (by decide) (by simp (disch:=try exact DI) only [↓PR,QR,simprocAttr];rfl) (by simp [Ql]) rfl (by decide) λ k cs x h1 h2=>by
     match k with
     | 0=>injection h1 with h1;injection h2 with h2;subst h1 h2;rfl
     | 1=>injection h1 with h1;injection h2 with h2;subst h1 h2;rfl
   | 4=>injection h1 with h1;injection h2 with h2;subst h1 h2;exact ⟨_,_,rfl,Ze.nil _ _ _,Ze.nil _ _ _⟩
 · subst hn
   exact Xf [Zo fN (.slice none 0 0) (.slice none 0 0)] [fN] (by decide) (by simp (disch:=try exact DI) only [↓PR,QR,simprocAttr];rfl) (by simp [Zo]) rfl (by decide) λ k cs x h1 h2=>by
    match k with
    | 0=>injection h1 with h1;injection h2 with h2;subst h1 h2;exact ⟨_,_,rfl,Ze.nil _ _ _,Ze.nil _ _ _⟩
def Ao (m:ZD):Prop:=m.fields.length≤1048576∧∀ f∈m.fields,f.terms.length≤1048576
theorem Eg (w0:World) (v:Value) (m:ZD) (k:Nat) (hm:Xe w0 v m) (hk:k < m.fields.length) (hb:Ao m):Ret Pg 40 #[v,.int .i64 (k:Int)] w0 λ r w'=>Yy w' w0.heap.size r (Kj m.fields k)∧Ext w0 w':=by
 obtain ⟨fv,rfl,hF⟩:=hm
 obtain ⟨f,hf⟩:=getElem?_lt hk
 have hF0:=hF
 obtain ⟨b,o,c,rfl,_,hcm,_,_,hel⟩:=UT hF hf
 obtain ⟨cs,_,hA,hE⟩:=hel k f hf
 obtain ⟨tv,cv,rfl,hT,hC,ht1,hc1⟩:=hE.op
 refine Zcg (R:=ZQ _) ?_;unfold Za2
 rw [Xk]
 have o2:=ZE w0 (Zx m (.slice (some ⟨b,o,none⟩) m.fields.length c)).toArray 24
 have eW:Ext w0 (w0.alloc (.cells (Zx m (.slice (some ⟨b,o,none⟩) m.fields.length c)).toArray 24)):=ee
 generalize (w0.alloc (.cells (Zx m (.slice (some ⟨b,o,none⟩) m.fields.length c)).toArray 24))=W at o2 eW ⊢
 generalize hp2:w0.heap.size=p2 at o2 ⊢
 simp (disch:=try exact DI) only [↓PR,QR,simprocAttr,(Za o2).1,hA.c15 eW]
 have o5:=ZE W (Zo f tv cv).toArray 48
 have e1:Ext W (W.alloc (.cells (Zo f tv cv).toArray 48)):=ee
 generalize (W.alloc (.cells (Zo f tv cv).toArray 48))=V at o5 e1 ⊢
 generalize W.heap.size=p5 at o5 ⊢
 have x2:=e1.obj o2
 have E1:=eW.trans e1
 refine ZI ?_
 have eD:Ext V V.drew:=(Ext.refl V).wdrew
 have E2:=E1.trans eD
 have y2:=eD.obj x2
 have y5:=eD.obj o5
 unfold Pr
 simp (disch:=try exact DI) only [↓PR,QR,simprocAttr,(Za y5).1]
 refine Zt (Pu _) ?_
 rintro _ w3 ⟨r,L,cc,rfl,hr,hM,hL,e3⟩
 refine J7 e3 hM ?_
 haveI:YV (KM V.drew r QG L cc):=⟨⟨w3,e3,hM⟩⟩
 unfold Nw
 simp only [JW]
 rw [Ko Tryz.underlying128 (Wg.int Tryz.underlying42) ZdD ⟨w3,e3,hM⟩]
 obtain ⟨hn,h4,h9,h11⟩:=hL
 have hb':=hb.2 f (List.mem_of_getElem? hf)
 subst hp2
 by_cases k4:f.kind=4∨f.kind=7∨f.kind=12
 · rw [h4 _ k4]
   simp (disch:=try exact DI) only [↓PR,QR,simprocAttr]
   exact zT hf hF0 hb' hT hC (E2.trans e3) Zfj _ Do (by unfold W4;rw [if_pos k4]) (e3.obj y2) (e3.obj y5)
 by_cases k9:f.kind=9
 · rw [k9,h9]
   simp (disch:=try exact DI) only [↓PR,QR,simprocAttr]
   exact zT hf hF0 hb' hT hC (E2.trans e3) ZdF _ DC (by unfold W4;rw [if_neg k4,if_pos k9]) (e3.obj y2) (e3.obj y5)
 by_cases k11:f.kind=11
 · rw [k11,h11]
   simp (disch:=try exact DI) only [↓PR,QR,simprocAttr]
   exact zT hf hF0 hb' hT hC (E2.trans e3) Zd3 _ DR (by unfold W4;rw [if_neg k4,if_neg k9,if_pos k11]) (e3.obj y2) (e3.obj y5)
 rw [hn _ (by omega)]
 simp (disch:=try exact DI) only [↓PR,QR,simprocAttr]
 rw [Nf hf (by unfold W4;rw [if_neg k4,if_neg k9,if_neg k11])]
 exact ⟨Z5.nil _ _ _ _ _,E2.trans e3⟩
theorem Nx (w0:World) (v:Value) (m:ZD) (k:Int) (hm:Xe w0 v m):Ret Pg 39 #[v,.int .i64 k] w0 λ r w'=>r = .bool (decide (0≤k∧k < m.fields.length))∧Ext w0 w':=by
 obtain ⟨fv,rfl,hF⟩:=hm
 obtain ⟨A,c,rfl,hlc,hcm,hlm,hel⟩:=Ze.open hF
 refine ZbT (R:=ZQ _) ?_;unfold ZcZ
 simp (disch:=try exact DI) only [↓PR,QR,simprocAttr]
 exact ⟨by rw [Bool.decide_and],ee⟩
def AG (m:ZD) (k:Int):Int:=if 0≤k∧k < m.fields.length then 0 else 3
def ID (m:ZD) (k:Int):List Int:=if 0≤k∧k < m.fields.length then Kj m.fields k.toNat else []
def Gk (m:ZD) (k:Int):List Int:=if 0≤k∧k < m.fields.length then Vq m.fields k.toNat else []
theorem Dx (w0:World) (v:Value) (m:ZD) (k:Int) (hm:Xe w0 v m) (hb:Ao m):Ret Pg 12 #[v,.int .i64 k] w0 λ r w'=>(∃ u,r = .tuple #[u,.int .i64 (AG m k)]∧Yy w' w0.heap.size u (ID m k))∧Ext w0 w':=by
 obtain ⟨fv,rfl,hF⟩:=hm
 have hf1:=Ze.oneCell hF
 refine Zby (R:=ZQ _) ?_;unfold Zcw
 rw [Xk]
 have hBW:=ZS.new (w:=w0) (Zx m fv) (24)
 have eW:Ext w0 (w0.alloc (Obj.cells (List.toArray (Zx m fv)) (24))):=(Ext.refl _).alloc _
 generalize (w0.alloc (Obj.cells (List.toArray (Zx m fv)) (24)))=W at hBW eW ⊢
 simp (disch:=try exact DI) only [↓PR,QR,simprocAttr,hBW.c2 (Ext.refl W)]
 refine zcr (Nx _ _ m k ⟨_,rfl,Z4.ext hF eW⟩) λ w1 e1=>?_
 unfold OC
 by_cases hk:0≤k∧k < m.fields.length
 · obtain ⟨j,rfl⟩:∃ j:Nat,k=j:=⟨k.toNat,by omega⟩
   rw [decide_eq_true hk,show AG m (j:Int)=0 from if_pos hk,show ID m (j:Int)=Kj m.fields j from if_pos hk]
   simp (disch:=try exact DI) only [↓PR,QR,simprocAttr,hBW.c2 e1]
   refine Zt (Eg _ _ m j ⟨_,rfl,Z4.ext hF (eW.trans e1)⟩ (by omega) hb) ?_
   rintro r w2 ⟨hR,e2⟩
   have s:=(eW.trans e1).size
   exact ⟨_,rfl,⟨r,rfl,hR.base s⟩,eW.trans (e1.trans e2)⟩
 · rw [decide_eq_false hk,show AG m k=3 from if_neg hk,show ID m k=[] from if_neg hk]
   simp (disch:=try exact DI) only [↓PR,QR,simprocAttr]
   exact ⟨⟨.slice none 0 0,rfl,Z5.nil _ _ _ _ _⟩,eW.trans e1⟩
theorem AI (w0:World) (v:Value) (l:List Int) (n:Int) (hs:Ze w0 1 GS v l):Ret Pg 85 #[v,.int .i64 n] w0 λ r w'=>r = .int .i64 (idx (λ x=>decide (x=n)) l)∧Ext w0 w':=by
 obtain ⟨A,c,rfl,hlc,hcm,hlm,hel⟩:=Ze.open hs
 refine ZcR (R:=ZQ _) ?_;unfold Zcm
 simp (disch:=try exact DI) only [↓PR,QR,simprocAttr]
 refine ZA (λ a0 w=>∃ (k:Nat) , a0 = .int .i64 (k:Int)∧k≤l.length∧Ext w0 w∧∀ (j:Nat) (y:Int),j < k→l[j]?=some y→(λ x=>decide (x=n)) y=false) (λ a0 _=>l.length - (intOf a0).toNat) ⟨0,rfl,Nat.zero_le _,ee,λ j y hj=>absurd hj (Nat.not_lt_zero _)⟩ ?_
 rintro _ w ⟨k,rfl,hk,e,hI⟩
 have se:=e.size
 rcases ZB hk with ⟨x,hx,hd,hlt,hdec⟩ | ⟨hk,hd,hdec⟩
 · obtain ⟨b,o,cs,rfl,hl',hA,rfl⟩:=hel k x hx
   have hA':=hA.ext e
   by_cases hxn:n=x
   · have hd:(n == x)=true:=by simpa using hxn
     simp (disch:=try exact DI) only [↓PR,QR,simprocAttr,hdec,↓FT,hA'.c1 (Ext.refl _),hd]
     exact ⟨by rw [Qs hx (by simp [hxn]) hI],e⟩
   · have hd:(n == x)=false:=by simpa using hxn
     simp (disch:=try exact DI) only [↓PR,QR,simprocAttr,hdec,↓FT,hA'.c1 (Ext.refl _),hd]
     exact ⟨⟨k+1,rfl,by omega,ee,Wi hI hx (decide_eq_false (λ h=>hxn h.symm))⟩,ZF (kd := .i64) hlt⟩
 · subst hk
   simp (disch:=try exact DI) only [↓PR,QR,simprocAttr,hdec]
   exact ⟨by rw [Wq λ j y hy=>hI j y (List.getElem?_eq_some_iff.1 hy).1 hy],e⟩
theorem CU (l:List Int) (n:Int):l.any (λ x=>decide (x=n))=l.contains n:=by
 rw [Bool.eq_iff_iff,List.any_eq_true,List.contains_iff_mem]
 constructor
 · rintro ⟨x,hx,h⟩
   rw [← of_decide_eq_true h];exact hx
 · exact λ h=>⟨n,h,by simp⟩
theorem zK (w0:World) (v:Value) (l:List Int) (n:Int) (hs:Ze w0 1 GS v l):Ret Pg 43 #[v,.int .i64 n] w0 λ r w'=>r = .bool (l.contains n)∧Ext w0 w':=by
 refine Zbg (R:=ZQ _) ?_;unfold ZaW
 refine zcr (AI _ _ l n hs) λ w1 e1=>?_
 have h:=Y7 (p:=λ x=>decide (x=n)) (l:=l)
 rw [CU] at h
 simp (disch:=try exact DI) only [↓PR,QR,simprocAttr,h]
 exact ⟨trivial,e1⟩
theorem Hg {w:World} {m:ZD} {fv:Value} {p2 p3:Nat} {k:Int} (i:Nat) (x:Zm) (u:Value) (hi:m.fields[i]?=some x) (hF:Z4 w fv m.fields) (hb:Ao m) (o2:w.heap[p2]?=some (.cells (Zx m fv).toArray 24 (0,0))) (o3:w.heap[p3]?=some (.cells #[.int .i64 k] 3 (0,0))) (hu:ZV w u x) :
 Ret Pg 42 #[.int .i64 (i:Int),u,.pointer (some ⟨p2,0,none⟩),.pointer (some ⟨p3,0,none⟩)] w λ r w'=>r = .bool ((Kj m.fields i).contains k)∧Ext w w':=by
 obtain ⟨tv,cv,rfl,hT,hC⟩:=hu
 have ht1:=Ze.oneCell hT
 have hc1:=Ze.oneCell hC
 have hf1:=Ze.oneCell hF
 refine Zbe (R:=ZQ _) ?_;unfold ZbH
 rw [Xk]
 have hBW:=ZS.new (w:=w) (Zo x tv cv) (48)
 have eW:Ext w (w.alloc (Obj.cells (List.toArray (Zo x tv cv)) (48))):=(Ext.refl _).alloc _
 generalize (w.alloc (Obj.cells (List.toArray (Zo x tv cv)) (48)))=W at hBW eW ⊢
 refine ZI ?_
 have eD:Ext W W.drew:=(Ext.refl W).wdrew
 have E:=eW.trans eD
 unfold Oc
 simp (disch:=try exact DI) only [↓PR,QR,simprocAttr,(Za (E.obj o2)).1,(Za (E.obj o3)).1]
 refine Zt (Eg _ _ m i ⟨_,rfl,Z4.ext hF E⟩ (List.getElem?_eq_some_iff.1 hi).1 hb) ?_
 rintro r w1 ⟨hR,e1⟩
 refine ⟨e1,?_⟩
 refine zcr (zK _ _ _ _ hR.ints) λ w2 e2=>?_
 exact ⟨e1.trans e2,_,rfl,rfl,E.trans (e1.trans e2)⟩
theorem zx (w0:World) (v:Value) (m:ZD) (k:Int) (hm:Xe w0 v m) (hb:Ao m):Ret Pg 13 #[v,.int .i64 k] w0 λ r w'=>(∃ u,r = .tuple #[u,.int .i64 (AG m k)]∧Yy w' w0.heap.size u (Gk m k))∧Ext w0 w':=by
 obtain ⟨fv,rfl,hF⟩:=hm
 have hf1:=Ze.oneCell hF
 refine Zbz (R:=ZQ _) ?_;unfold Zc2
 simp (disch:=try exact DI) only [↓PR,QR,simprocAttr]
 generalize hV:World.alloc (World.alloc w0 _) _=V
 have eV:Ext w0 V:=by rw [← hV];exact ee
 have o2:V.heap[w0.heap.size]?=some (.cells (Zx m fv).toArray 24 (0,0)):=by rw [← hV];simp (disch:=try exact DI) only [↓PR,QR,simprocAttr]
 have o3:V.heap[w0.heap.size+1]?=some (.cells #[.int .i64 k] 3 (0,0)):=by rw [← hV];simp (disch:=try exact DI) only [↓PR,QR,simprocAttr]
 clear hV
 refine zcr (Nx _ _ m k ⟨_,rfl,Z4.ext hF eV⟩) λ w1 e1=>?_
 by_cases hk:0≤k∧k < m.fields.length
 · obtain ⟨j,rfl⟩:∃ j:Nat,k=j:=⟨k.toNat,by omega⟩
   rw [decide_eq_true hk,show AG m (j:Int)=0 from if_pos hk,show Gk m (j:Int)=Vq m.fields j from if_pos hk]
   simp (disch:=try exact DI) only [↓PR,QR,simprocAttr,↓Oo,(Za (e1.obj o2)).1]
   refine Zt (UU _ _ m.fields _ _ (λ i=>(Kj m.fields i).contains (j:Int)) (Z4.ext hF (eV.trans e1)) hb.1 c42 ?_) ?_
   · intro w i x u hx e hu
     exact Hg i x u hx (Z4.ext hF (eV.trans (e1.trans e))) hb ((e1.trans e).obj o2) ((e1.trans e).obj o3) hu
   rintro r w2 ⟨hR,e2⟩
   have s:=(eV.trans e1).size
   exact ⟨_,rfl,⟨r,rfl,hR.base (by omega)⟩,eV.trans (e1.trans e2)⟩
 · rw [decide_eq_false hk,show AG m k=3 from if_neg hk,show Gk m k=[] from if_neg hk]
   simp (disch:=try exact DI) only [↓PR,QR,simprocAttr]
   exact ⟨⟨.slice none 0 0,rfl,Z5.nil _ _ _ _ _⟩,eV.trans e1⟩
def HQ (_:World) (cs:List Value) (f:Zm):Prop:=∃ tv cv,cs=Zo f tv cv∧tv.oneCell'=true∧cv.oneCell'=true
theorem E0:jJ HQ:=λ _ _ _ _ _ h=>h
def xS (w:World) (v:Value) (l:List Zm):Prop:=Ze w 15 HQ v l
theorem xS.ext {w w':World} {v:Value} {l:List Zm} (h:xS w v l) (e:Ext w w'):xS w' v l:=Ze.ext E0 h e
def MI (pb:Nat) (v:Value) (l:List Zm) (w:World):Prop:=w.heap[pb]?=some (.cells #[v] 22 (0,0))∧xS w v l
theorem MI.ext {pb:Nat} {v:Value} {l:List Zm} {w w':World} (h:MI pb v l w) (e:Ext w w'):MI pb v l w':=⟨e.obj h.1,h.2.ext e⟩
theorem HC {L:List (Option TypeId×Value)} {R:RT} {bs:List Nat}:∀ {w w0:World},bs.Nodup→(∀ b∈bs,Z6 b w∧w0.heap.size≤b)→Ext w0 w →
 (∀ w',Ext w0 w'→(∀ (b:Nat) (o:Obj),(∀ d,o ≠ .deferred d)→w.heap[b]?=some o→w'.heap[b]?=some o)→VP Pg [] L R w')→VP Pg (bs.map Sw.mark) L R w:=by
 induction bs with
 | nil=>exact λ _ _ e h=>h _ e λ _ _ _ h=>h
 | cons b bs ih =>
  intro w w0 hn hm e h
  obtain ⟨hb,hn'⟩:=List.nodup_cons.1 hn
  have hmb:=hm b (List.mem_cons_self ..)
  refine WL hmb.1 (ih (w0:=w0) hn' (λ c hc=>⟨?_,(hm c (List.mem_cons_of_mem _ hc)).2⟩) (e.putObj hmb.2 _) (λ w' e' h'=>h w' e' (λ c o ho hc=>h' c o ho ((World.putObj_heap_other ?_).trans hc))))
  · exact (World.putObj_heap_other (λ (e:c=b)=>hb (by rw [← e];exact hc))).trans (hm c (List.mem_cons_of_mem _ hc)).1
  · rintro rfl
    have:=hmb.1
    unfold Z6 at this
    rw [hc] at this
    injection this with this
    exact ho _ this
theorem Zas {T:TypeId} {cs:Array Value}:∀ d,Obj.cells cs T (0,0) ≠ .deferred d:=λ _ h=>by cases h
def zJ (w:World) (pb:Nat) (sv:Value) (l:List Int):Prop:=w.cell? ⟨pb,0,none⟩=some sv∧Ze w 1 GS sv l
theorem zJ.ext {w w':World} {pb:Nat} {sv:Value} {l:List Int} (h:zJ w pb sv l) (e:Ext w w'):zJ w' pb sv l:=⟨e.cell h.1,h.2.ext xT e⟩
def LJ (l:List Int) (k:Nat):Value:=match l[k]? with
 | some n => .int .i64 n
 | none=>undef
theorem HG (pb:Nat) (sv:Value) (l:List Int):IB Pg 86 #[.pointer (some ⟨pb,0,none⟩)] l.length (LJ l) (λ w=>zJ w pb sv l):=by
 intro yv J Jx Jp w hFP hJe hJx hstep h0
 obtain ⟨hc,hT⟩:=hFP 0 w h0
 obtain ⟨A,c,rfl,hlc,hcm,hlm,hel⟩:=Ze.open hT
 refine ZbR (t0:=yv) (t1 := .pointer (some ⟨pb,0,none⟩)) ?_
 unfold Zct
 simp (disch:=try exact DI) only [↓PR,QR,simprocAttr,hc]
 refine ZA (λ i w=>∃ k:Nat,i = .int .i64 k∧k≤l.length∧J k w) (λ i _=>l.length - (intOf i).toNat) ⟨0,rfl,by omega,h0⟩ ?_
 rintro _ w' ⟨k,rfl,hk,hJ⟩
 rcases ZB hk with ⟨x,hx,hd,hlt,hdec⟩ | ⟨hk,hd,hdec⟩
 · obtain ⟨hc',hT'⟩:=hFP k w' hJ
   obtain ⟨A',c',hv,_,hcm',_,hel'⟩:=Ze.open hT'
   injection hv with hv _ hv'
   subst hv hv'
   obtain ⟨b,o,cs,rfl,hl,hA,rfl⟩:=hel' k x hx
   have er:=Ext.refl w'
   have hs:=hstep k hlt w' hJ
   rw [show LJ l k = .int .i64 x by unfold LJ;rw [hx]] at hs
   simp (disch:=try exact DI) only [↓PR,QR,simprocAttr,↓xV,↓qg,hdec,hA.c1 er]
   refine J1 hs (λ ch w h=>h) ?_
   rintro v w3 (⟨rfl,h2⟩ | ⟨rfl,h2⟩)
   · simp (disch:=try exact DI) only [↓PR,QR,simprocAttr,↓xV,↓qg]
     exact ⟨⟨k+1,rfl,by omega,h2⟩,ZF (kd := .i64) hlt⟩
   · simp (disch:=try exact DI) only [↓PR,QR,simprocAttr,↓xV,↓qg]
     exact .inr h2
 · subst hk
   simp (disch:=try exact DI) only [↓PR,QR,simprocAttr,↓xV,↓qg,hdec]
   exact .inl hJ
theorem PQ {l:List Zm} {i:Nat} {x:Zm} (h:l[i]?=some x):((match l[i]? with
 | some f=>YB f
 | none=>false)&&(Vq l i).isEmpty)=(YB x&&(Vq l i).isEmpty):=by rw [h]
theorem I0 {w:World} {m:ZD} {fv:Value} {p1:Nat} (i:Nat) (x:Zm) (u:Value) (hi:m.fields[i]?=some x) (hF:Z4 w fv m.fields) (hb:Ao m) (o1:w.heap[p1]?=some (.cells (Zx m fv).toArray 24 (0,0))) (hu:ZV w u x) :
 Ret Pg 48 #[.int .i64 (i:Int),u,.pointer (some ⟨p1,0,none⟩)] w λ r w'=>r = .bool (YB x&&(Vq m.fields i).isEmpty)∧Ext w w':=by
 obtain ⟨tv,cv,rfl,hT,hC⟩:=hu
 have ht1:=Ze.oneCell hT
 have hc1:=Ze.oneCell hC
 have hf1:=Ze.oneCell hF
 have hil:=(List.getElem?_eq_some_iff.1 hi).1
 refine ZgO (R:=ZQ _) ?_;unfold n96
 rw [Xk]
 have o4:=ZE w (Zo x tv cv).toArray 48
 have eW:Ext w (w.alloc (.cells (Zo x tv cv).toArray 48)):=ee
 generalize (w.alloc (.cells (Zo x tv cv).toArray 48))=W at o4 eW ⊢
 generalize w.heap.size=p4 at o4 ⊢
 simp (disch:=try exact DI) only [↓PR,QR,simprocAttr,(Za (eW.obj o1)).1]
 refine Zt (zx _ _ m i ⟨_,rfl,Z4.ext hF eW⟩ hb) ?_
 rintro _ w1 ⟨⟨uv,rfl,hR⟩,e1⟩
 have hin:0≤(i:Int)∧(i:Int) < m.fields.length:=by omega
 rw [show Gk m (i:Int)=Vq m.fields i by unfold Gk;rw [if_pos hin,Int.toNat_natCast]] at hR
 unfold RN
 simp (disch:=try exact DI) only [↓PR,QR,simprocAttr,(Za (e1.obj o4)).1]
 refine zcr (qB _ _ x ⟨_,_,rfl,hT.ext (eW.trans e1),hC.ext (eW.trans e1)⟩) λ w2 e2=>?_
 obtain ⟨A,c,rfl,_⟩:=Ze.open hR.ints
 have hz:(((Vq m.fields i).length:Int) == 0)=(Vq m.fields i).isEmpty:=by
  cases Vq m.fields i with
  | nil=>rfl
  | cons a l=>simp;omega
 have E:=eW.trans (e1.trans e2)
 unfold RV
 cases hn:YB x with
 | true=>simp (disch:=try exact DI) only [↓PR,QR,simprocAttr,hz];exact ⟨by trivial,E⟩
 | false=>simp (disch:=try exact DI) only [↓PR,QR,simprocAttr];exact ⟨by trivial,E⟩
theorem Pa (w0:World) (v:Value) (m:ZD) (hm:Xe w0 v m) (hb:Ao m):Ret Pg 19 #[v] w0 λ r w'=>∃ pb sv,r = .func (.func 86) #[] #[.pointer (some ⟨pb,0,none⟩)]∧zJ w' pb sv (Ee m.fields)∧w0.heap.size≤pb∧(∀ A n c,sv = .slice (some A) n c→w0.heap.size≤A.block)∧Ext w0 w':=by
 obtain ⟨fv,rfl,hF⟩:=hm
 have hf1:=Ze.oneCell hF
 refine Zgq (R:=ZQ _) ?_;unfold n95
 rw [Xk]
 have o1:=ZE w0 (Zx m fv).toArray 24
 have eW:Ext w0 (w0.alloc (.cells (Zx m fv).toArray 24)):=ee
 generalize (w0.alloc (.cells (Zx m fv).toArray 24))=W at o1 eW ⊢
 simp (disch:=try exact DI) only [↓PR,QR,simprocAttr,(Za o1).1]
 refine Zt (UU _ _ m.fields _ _ (λ i=>(match m.fields[i]? with
  | some f=>YB f
  | none=>false)&&(Vq m.fields i).isEmpty) (Z4.ext hF eW) hb.1 c48 ?_) ?_
 · intro w i x u hx e hu
   rw [PQ hx]
   exact I0 i x u hx (Z4.ext hF (eW.trans e)) hb (e.obj o1) hu
 rintro sv w1 ⟨hR,e1⟩
 have s1:=(eW.trans e1).size
 have h1:=Ze.oneCell hR.ints
 simp (disch:=try exact DI) only [↓PR,QR,simprocAttr]
 have hV:Ret Pg 50 #[sv] w1 λ r w'=>r = .func (.func 86) #[] #[.pointer (some ⟨w1.heap.size,0,none⟩)]∧w'.cell? ⟨w1.heap.size,0,none⟩=some sv∧Ext w1 w':=by
  refine ZbJ (R:=ZQ _) ?_;unfold Zco
  simp (disch:=try exact DI) only [↓PR,QR,simprocAttr]
  exact ⟨by trivial,by rw [Zp h1];rfl,ee⟩
 refine Zt hV ?_
 rintro _ w2 ⟨rfl,hc,e2⟩
 refine ⟨_,rfl,_,sv,rfl,⟨hc,hR.ints.ext xT e2⟩,s1,λ A n c h=>?_,eW.trans (e1.trans e2)⟩
 subst h
 have:=(hR.lt A.block rfl).1
 have:=eW.size
 omega
section
variable {R:RT}
def EF (a:Value) (w:World):Nat:=match a with
 | .pointer (some p)=>(match w.cell? p with
  | some (.int _ t)=>(2 - t).toNat
  | _=>0)
 | _=>0
theorem Nj (B:Nat) (l:List Nat):ZO B (λ w=>∀ b∈l,Z6 b w):=⟨λ w w' h e b hb=>(h b hb).ext e,λ w q r r' hl h hr b hb=>by
 have:=h b hb
 exact (World.putObj_heap_other (by rintro rfl;unfold Z6 at this;rw [this] at hr;cases hr)).trans this⟩
theorem F9 {w2:World} {pA pB pC pD pE:Nat} {many:Int} {t k n:Nat} {A:Option Addr} {cc:Nat} {ds:List Deferred} {next1:List Deferred→Value→World→Prop} (xA:w2.heap[pA]?=some (.cells #[.int .i64 many] 3 (0,0))) (xB:w2.heap[pB]?=some (.cells #[.slice A n cc] 30 (0,0))) (yD:w2.heap[pD]?=some (.cells #[.int .i64 (t:Int)] 3 (0,0))) (yE:w2.heap[pE]?=some (.cells #[.int .i64 (k:Int)] 3 (0,0)))
 (ht:t < 2) (h0:t=0→(k:Int)=min (n:Int) (max 1 many)) (h1:t=1→k=n) (hn:∀ w',w2.heap.size < w'.heap.size→w'.heap[w2.heap.size]?=some (.cells #[.int .i64 ((t+1:Nat):Int)] 3 (0,0))→Ext w2 w'→next1 ds (.pointer (some ⟨w2.heap.size,0,none⟩)) w') :
 Zaz (.pointer (some ⟨pA,0,none⟩)) (.pointer (some ⟨pB,0,none⟩)) (.pointer (some ⟨pC,0,none⟩)) (.pointer (some ⟨pD,0,none⟩)) (.pointer (some ⟨pE,0,none⟩)) next1 ds R w2:=by
 have fin:Zao (.pointer (some ⟨pC,0,none⟩)) (.pointer (some ⟨pD,0,none⟩)) next1 ds R w2:=by
  unfold Zao
  simp (disch:=try exact DI) only [↓PR,QR,simprocAttr,(Za yD).1]
  exact hn _ (by simp only [World.size_alloc];omega) (by simpa using ZE w2 #[.int .i64 ((t+1:Nat):Int)] 3) ee
 unfold Zaz
 have hcase:t=0∨t=1:=by omega
 rcases hcase with rfl | rfl
 · have hm:(if (if many > 1 then many else 1) < (n:Int) then (if many > 1 then many else 1) else (n:Int))=(k:Int):=by
    rw [h0 rfl]
    split<;>split<;>omega
   have d0:((((0:Nat):Int)) == 0)=true:=rfl
   have d1:((((0:Nat):Int)) == 1)=false:=rfl
   have dk:((k:Int) != (k:Int))=false:=by simp
   simp (disch:=try exact DI) only [↓PR,QR,simprocAttr,(Za yD).1,d0,(Za yE).1,(Za xB).1,(Za xA).1,hm,dk,d1,↓TN,↓ZaE,↓Zar,↓T1]
   exact fin
 · have d0:((((1:Nat):Int)) == 0)=false:=rfl
   have d1:((((1:Nat):Int)) == 1)=true:=rfl
   have dk:((k:Int) != (n:Int))=false:=by rw [h1 rfl];simp
   simp (disch:=try exact DI) only [↓PR,QR,simprocAttr,(Za yD).1,d0,d1,(Za yE).1,(Za xB).1,dk,↓TN,↓ZaE,↓Zar,↓T1]
   exact fin
theorem FG {w2:World} {pA pB pC pD pE:Nat} {many:Int} {t k n:Nat} {A:Option Addr} {cc:Nat} {ds:List Deferred} {next1:List Deferred→Value→World→Prop} (xA:w2.heap[pA]?=some (.cells #[.int .i64 many] 3 (0,0))) (xB:w2.heap[pB]?=some (.cells #[.slice A n cc] 30 (0,0))) (yD:w2.heap[pD]?=some (.cells #[.int .i64 (t:Int)] 3 (0,0))) (yE:w2.heap[pE]?=some (.cells #[.int .i64 (k:Int)] 3 (0,0)))
 (ht:t < 2) (h0:t=0→(k:Int)=min (n:Int) (max 1 many)) (h1:t=1→k=n) (hn:∀ w',w2.heap.size < w'.heap.size→w'.heap[w2.heap.size]?=some (.cells #[.int .i64 ((t+1:Nat):Int)] 3 (0,0))→Ext w2 w'→next1 ds (.pointer (some ⟨w2.heap.size,0,none⟩)) w') :
 My (.pointer (some ⟨pA,0,none⟩)) (.pointer (some ⟨pB,0,none⟩)) (.pointer (some ⟨pC,0,none⟩)) (.pointer (some ⟨pD,0,none⟩)) (.pointer (some ⟨pE,0,none⟩)) next1 ds R w2:=by
 have fin:TQ (.pointer (some ⟨pC,0,none⟩)) (.pointer (some ⟨pD,0,none⟩)) next1 ds R w2:=by
  unfold TQ
  simp (disch:=try exact DI) only [↓PR,QR,simprocAttr,(Za yD).1]
  exact hn _ (by simp only [World.size_alloc];omega) (by simpa using ZE w2 #[.int .i64 ((t+1:Nat):Int)] 3) ee
 unfold My
 have hcase:t=0∨t=1:=by omega
 rcases hcase with rfl | rfl
 · have hm:(if (if many > 1 then many else 1) < (n:Int) then (if many > 1 then many else 1) else (n:Int))=(k:Int):=by
    rw [h0 rfl]
    split<;>split<;>omega
   have d0:((((0:Nat):Int)) == 0)=true:=rfl
   have d1:((((0:Nat):Int)) == 1)=false:=rfl
   have dk:((k:Int) != (k:Int))=false:=by simp
   simp (disch:=try exact DI) only [↓PR,QR,simprocAttr,(Za yD).1,d0,(Za yE).1,(Za xB).1,(Za xA).1,hm,dk,d1,↓Na,↓Nn,↓NY,↓D7,↓D7]
   exact fin
 · have d0:((((1:Nat):Int)) == 0)=false:=rfl
   have d1:((((1:Nat):Int)) == 1)=true:=rfl
   have dk:((k:Int) != (n:Int))=false:=by rw [h1 rfl];simp
   simp (disch:=try exact DI) only [↓PR,QR,simprocAttr,(Za yD).1,d0,d1,(Za yE).1,(Za xB).1,dk,↓Na,↓Nn,↓NY,↓D7,↓D7]
   exact fin
end
theorem BJ (w0:World) (v:Value) (m:ZD) (many:Int) (wv:Value) (hm:Xe w0 v m) (hb:Ao m) (hL:Ze w0 1 GS wv (Ee m.fields)):Ret Pg 18 #[v,.int .i64 many,wv] w0 λ r w'=>r = .bool true∧Ext w0 w':=by
 obtain ⟨fv,rfl,hF⟩:=hm
 have hm1:=Ze.oneCell hF
 have hw1:=Ze.oneCell hL
 refine n9s (R:=ZQ _) ?_;unfold n9
 simp (disch:=try exact DI) only [↓PR,QR,simprocAttr]
 simp only [World.size_alloc,Zp hw1]
 generalize hW:World.alloc (World.alloc (World.alloc (World.alloc w0 _) _) _) _=W
 have e0:Ext w0 W:=by rw [← hW];exact ee
 have oA:W.heap[w0.heap.size+1]?=some (.cells #[.int .i64 many] 3 (0,0)):=by rw [← hW];simp (disch:=try exact DI) only [↓PR,QR,simprocAttr]
 have oB:W.heap[w0.heap.size+1+1]?=some (.cells #[wv] 30 (0,0)):=by rw [← hW];simp (disch:=try exact DI) only [↓PR,QR,simprocAttr]
 have oC:W.heap[w0.heap.size+1+1+1]?=some (.cells #[.bool false] 4 (0,0)):=by rw [← hW];simp (disch:=try exact DI) only [↓PR,QR,simprocAttr]
 clear hW
 generalize hpA:w0.heap.size+1=pA at *
 generalize hpB:pA+1=pB at *
 generalize hpC:pB+1=pC at *
 refine Zt (Pa _ _ m ⟨_,rfl,Z4.ext hF e0⟩ hb) ?_
 rintro _ w1 ⟨pb,sv,rfl,hIt,_,_,e1⟩
 have E1:=e0.trans e1
 have xA:=e1.obj oA
 have xB:=e1.obj oB
 have xC:=e1.obj oC
 have hL1:=hL.ext xT E1
 generalize Ee m.fields=l at hIt hL1
 clear oA oB oC hL
 obtain ⟨A,cc,rfl,hlc,hcm,hlm,hel⟩:=Ze.open hL1
 unfold TB
 simp (disch:=try exact DI) only [↓PR,QR,simprocAttr]
 unfold Tt
 simp (disch:=try exact DI) only [↓PR,QR,simprocAttr]
 have lC:=(Array.getElem?_eq_some_iff.1 xC).1
 have oD:=ZE w1 #[.int .i64 0] 3
 have eX:Ext w1 (w1.alloc (Obj.cells #[.int .i64 0] 3)):=ee
 generalize (w1.alloc (Obj.cells #[.int .i64 0] 3))=X at oD eX ⊢
 refine BV (λ ds a w'=>∃ (pD:Nat) (t:Nat),a = .pointer (some ⟨pD,0,none⟩)∧t≤2∧w1.heap.size≤pD∧w'.heap[pD]?=some (.cells #[.int .i64 (t:Int)] 3 (0,0))∧Ext w1 w'∧(∃ bs:List Nat,ds=bs.map Sw.mark∧bs.Nodup∧∀ b∈bs,Z6 b w'∧w1.heap.size≤b)) EF ⟨w1.heap.size,0,rfl,by omega,Nat.le_refl _,oD,eX,[],rfl,by simp,by simp⟩ ?_
 rintro ds _ w2 ⟨pD,t,rfl,ht2,hpD,yD,e2,bs,rfl,hnd,hbs⟩
 have hcw:∀ (w':World) (p u:Nat),w'.heap[p]?=some (.cells #[.int .i64 (u:Int)] 3 (0,0))→EF (.pointer (some ⟨p,0,none⟩)) w'=2 - u:=by
  intro w' p u h
  unfold EF
  simp only
  rw [(Za h).1 0]
  show ((2:Int) - (u:Int)).toNat=2 - u
  omega
 unfold S0
 by_cases ht:t < 2
 · have dt:decide ((t:Int) < 2)=true:=by simp;omega
   simp (disch:=try exact DI) only [↓PR,QR,simprocAttr,(Za yD).1,dt]
   unfold Tu
   simp (disch:=try exact DI) only [↓PR,QR,simprocAttr]
   have lD:pD < w2.heap.size:=(Array.getElem?_eq_some_iff.1 yD).1
   have eB:Ext w2 (w2.alloc (Obj.cells #[.int .i64 0] 3)):=ee
   have oE:=ZE w2 #[.int .i64 0] 3
   have hs3:(w2.alloc (Obj.cells #[.int .i64 0] 3)).heap.size=w2.heap.size+1:=by simp only [World.size_alloc]
   generalize hpE:w2.heap.size=pE at oE hs3 ⊢
   generalize (w2.alloc (Obj.cells #[.int .i64 0] 3))=w3 at eB oE hs3 ⊢
   have s2:=e2.size
   let I:Nat→World→Prop:=λ k w'=>Ext w1 w'∧(∀ b∈bs,Z6 b w')∧w'.heap[pD]?=some (.cells #[.int .i64 (t:Int)] 3 (0,0))∧w'.heap[pE]?=some (.cells #[.int .i64 (k:Int)] 3 (0,0))∧(t=0→k=0∨(k:Int) < many)
   let Ix:Nat→World→Prop:=λ c w'=>c=1∧Ext w1 w'∧(∀ b∈bs,Z6 b w')∧w'.heap[pD]?=some (.cells #[.int .i64 (t:Int)] 3 (0,0))∧∃ k:Nat,w'.heap[pE]?=some (.cells #[.int .i64 (k:Int)] 3 (0,0))∧t=0∧(k:Int)=min (l.length:Int) (max 1 many)
   have hLI:∀ k,ZO w3.heap.size (I k):=λ k=>ZO.and (ZO.from (by omega)) (ZO.and (Nj _ _) (ZO.and (ZO.has _ (by simp)) (ZO.and (ZO.has _ (by simp)) (ZO.const _ _))))
   have hLX:∀ k,ZO w3.heap.size (Ix k):=λ k=>ZO.and (ZO.const _ _) (ZO.and (ZO.from (by omega)) (ZO.and (Nj _ _) (ZO.and (ZO.has _ (by simp)) (ZO.ex λ k=>ZO.and (ZO.has _ (by simp)) (ZO.const _ _)))))
   have hfin:∀ (w4:World),Ext w1 w4→(∀ b∈bs,Z6 b w4)→Z6 w3.heap.size w4→∀ w5,w4.heap.size < w5.heap.size→w5.heap[w4.heap.size]?=some (.cells #[.int .i64 ((t+1:Nat):Int)] 3 (0,0))→Ext w4 w5 →
    (∃ (pD:Nat) (t':Nat),Value.pointer (some ⟨w4.heap.size,0,none⟩) = .pointer (some ⟨pD,0,none⟩)∧t'≤2∧w1.heap.size≤pD∧w5.heap[pD]?=some (.cells #[.int .i64 (t':Int)] 3 (0,0))∧Ext w1 w5∧(∃ bs':List Nat,(Sw.mark w3.heap.size::bs.map Sw.mark)=bs'.map Sw.mark∧bs'.Nodup∧∀ b∈bs',Z6 b w5∧w1.heap.size≤b)) ∧
    EF (.pointer (some ⟨w4.heap.size,0,none⟩)) w5 < EF (.pointer (some ⟨pD,0,none⟩)) w2:=by
    intro w4 e4 hm4 hmk w5 hlt5 h5 e5
    have s4:=e4.size
    refine ⟨⟨w4.heap.size,t+1,rfl,by omega,by omega,h5,e4.trans e5,w3.heap.size::bs,rfl,List.nodup_cons.2 ⟨λ hin=>?_,hnd⟩,λ b hb=>?_⟩,?_⟩
    · have:=(Array.getElem?_eq_some_iff.1 (hbs _ hin).1).1
      omega
    · rcases List.mem_cons.1 hb with rfl | hb
      · exact ⟨hmk.ext e5,by omega⟩
      · exact ⟨(hm4 b hb).ext e5,(hbs b hb).2⟩
    · rw [hcw w5 _ (t+1) h5,hcw w2 pD t yD];omega
   refine ⟨_,_,l.length,LJ l,λ w=>zJ w pb sv l,I,Ix,λ _ _=>False,rfl,c86,HG pb sv l,⟨e2.trans eB,λ b hb=>(hbs b hb).1.ext eB,eB.obj yD,oE,λ _ => .inl rfl⟩,λ k w' h=>hIt.ext h.1,hLI,hLX,?_,?_,?_,?_⟩
   · intro rec j w4 hj hI4 hrec hready
     refine ⟨hready,λ w5 hbz=>?_⟩
     have hrec5:=hrec.busied hbz
     have hI5:=(hLI j).busied hbz (Nat.le_succ _) hI4
     clear hI4 hrec hready hbz
     obtain ⟨e5,hm5,qD,qE,hjm⟩:=hI5
     obtain ⟨n,hn⟩:=getElem?_lt hj
     obtain ⟨b,o,cs,rfl,_,hE,hcs⟩:=hel j n hn
     subst hcs
     rw [show LJ l j = .int .i64 n by unfold LJ;rw [hn]]
     have lE:pE < w5.heap.size:=(Array.getElem?_eq_some_iff.1 qE).1
     have hge:decide ((j:Int)≥(l.length:Int))=false:=by simp;omega
     have hss:(n != n)=false:=by simp
     unfold Zb7
     simp (disch:=try exact DI) only [↓PR,QR,simprocAttr,(Za qE).1,(Za (e5.obj xB)).1,hge,hE.c1 e5,hss]
     unfold Za3
     have hw:IntKind.i64.wrap ((j:Int)+1)=((j+1:Nat):Int):=by rw [Yk (by omega) (by omega)];omega
     have rE:(w5.setCell ⟨pE,0,none⟩ (.int .i64 ((j+1:Nat):Int))).heap[pE]?=some (.cells #[.int .i64 ((j+1:Nat):Int)] 3 (0,0)):=by simpa using Z2 (o:=0) qE (.int .i64 ((j+1:Nat):Int))
     have rD:=(Yu.setCell w5 pE 0 (.int .i64 ((j+1:Nat):Int)) pD (by omega)).trans qD
     have e6:Ext w1 (w5.setCell ⟨pE,0,none⟩ (.int .i64 ((j+1:Nat):Int))):=e5.setCell (by show w1.heap.size≤pE;omega) _
     have hm6:∀ b∈bs,Z6 b (w5.setCell ⟨pE,0,none⟩ (.int .i64 ((j+1:Nat):Int))):=λ b hb=>(hm5 b hb).setCell _ _
     have hrec6:=hrec5.setCell ⟨pE,0,none⟩ (.int .i64 ((j+1:Nat):Int))
     have xA':=e5.obj xA
     have hcase:t=0∨t=1:=by omega
     rcases hcase with ht0 | ht1
     · have d0:((t:Int) == 0)=true:=by rw [ht0];rfl
       by_cases hmy:((j+1:Nat):Int)≥many
       · have dm:decide (((j+1:Nat):Int)≥many)=true:=by simpa using hmy
         simp (disch:=try exact DI) only [↓PR,QR,simprocAttr,(Za qE).1,(Za qE).2,(Za qD).1,d0,(Za rE).1,(Za xA').1,dm]
         refine ⟨hrec6,rfl,e6,hm6,rD,j+1,rE,ht0,?_⟩
         have:=hjm ht0
         omega
       · have dm:decide (((j+1:Nat):Int)≥many)=false:=by simpa using hmy
         simp (disch:=try exact DI) only [↓PR,QR,simprocAttr,(Za qE).1,(Za qE).2,(Za qD).1,d0,(Za rE).1,(Za xA').1,dm]
         exact ⟨hrec6,e6,hm6,rD,rE,λ _ => .inr (by omega)⟩
     · have d0:((t:Int) == 0)=false:=by rw [ht1];rfl
       simp (disch:=try exact DI) only [↓PR,QR,simprocAttr,(Za qE).1,(Za qE).2,(Za qD).1,d0]
       exact ⟨hrec6,e6,hm6,rD,rE,λ h=>by omega⟩
   · rintro w4 ⟨e4,hm4,qD,qE,hjm⟩ hmk
     exact F9 (e4.obj xA) (e4.obj xB) qD qE ht (λ h=>by have:=hjm h;omega) (λ _=>rfl) (hfin w4 e4 hm4 hmk)
   · rintro c w4 ⟨rfl,e4,hm4,qD,k,qE,ht0,hk⟩ hmk
     exact FG (e4.obj xA) (e4.obj xB) qD qE ht (λ _=>hk) (λ h=>by omega) (hfin w4 e4 hm4 hmk)
   · rintro ch w4 h
     exact h.elim
 · have dt:decide ((t:Int) < 2)=false:=by simp;omega
   have qC:=e2.obj xC
   simp (disch:=try exact DI) only [↓PR,QR,simprocAttr,(Za yD).1,dt,(Za qC).1,(Za qC).2]
   have rC:(w2.setCell ⟨pC,0,none⟩ (.bool true)).heap[pC]?=some (.cells #[.bool true] 4 (0,0)):=by simpa using Z2 (o:=0) qC (.bool true)
   refine HC (w0:=w0) hnd (λ b hb=>⟨(hbs b hb).1.setCell _ _,by have:=(hbs b hb).2;have:=E1.size;omega⟩) ((E1.trans e2).setCell (by show w0.heap.size≤pC;omega) _) (λ w' e' hh=>?_)
   have zC:=hh _ _ Zas rC
   simp (disch:=try exact DI) only [↓PR,QR,simprocAttr,WT,jp,Qf,(Za zC).1]
   exact ⟨by trivial,e'⟩
def RQ:Nat→List Int
 | 2=>[0]
 | 3=>[1]
 | 4=>[2]
 | _=>[]
theorem PY:∀ k:Nat,k < 5→ID mC k=RQ k∧AG mC k=0:=by decide +kernel
theorem Zbs:AG mC 5=3:=by decide +kernel
theorem ZcG:AG mC 0=0:=by decide +kernel
theorem ZbU:AG mC 2=0:=by decide +kernel
theorem Wa (w:World) (l:List Int) (hl:l.length≤1048576):Ze (w.alloc (.cells (l.map λ n=>Value.int .i64 n).toArray 3)) 1 GS (.slice (some ⟨w.heap.size,0,none⟩) l.length l.length) l :=
 Xf (T:=3) (l.map λ n=>[Value.int .i64 n]) l (by decide) (by rw [ZE];congr 3;clear hl;induction l<;>simp_all) (by simp) (by simp) hl λ k cs x h1 h2=>by
  rw [List.getElem?_map,h2] at h1
  injection h1 with h1
  exact h1.symm
theorem TY:Gk mC 0=[2]:=by decide +kernel
theorem Zau:Gk mC 2=[4]:=by decide +kernel
theorem T9:Ee mC.fields=[]:=by decide +kernel
theorem ZaC:Ee mA.fields=[0]:=by decide +kernel
theorem SM:jN gvD=0:=by decide +kernel
theorem Zam:V4 gvD true=[0,1,2]:=by decide +kernel
theorem T6:V4 gvD false=[3]:=by decide +kernel
theorem SQ:KU gvD 0=[2,0]∧Az gvD 0=0:=by decide +kernel
theorem R6:KU gvD 1=[2,1]∧Az gvD 1=0:=by decide +kernel
theorem ZbL:Az gvD 3=9:=by decide +kernel
theorem G4:UN gvD:=by unfold UN;decide +kernel
theorem zH:Ao mC∧Ao mA:=by unfold Ao;decide +kernel
def EJ (n:Nat):Nat→Value
 | 0 => .slice (some ⟨n+2,0,none⟩) 0 0
 | 1 => .slice (some ⟨n+3,0,none⟩) 0 0
 | 2 => .slice (some ⟨n+4,0,none⟩) 1 1
 | 3 => .slice (some ⟨n+5,0,none⟩) 1 1
 | _ => .slice (some ⟨n+6,0,none⟩) 1 1
theorem BY {w:World} (n:Int):∀ (k:Nat) cs (x:Int),[[Value.int .i64 n]][k]?=some cs→[n][k]?=some x→GS w cs x:=λ k cs x h1 h2=>by
 match k with
 | 0=>injection h1 with h1;injection h2 with h2;subst h1 h2;rfl
theorem zU (w0:World):Ret Pg 11 #[] w0 λ r w'=>r = .bool true∧Ext w0 w':=by
 refine Zg4 (R:=ZQ _) ?_;unfold n11
 refine Zt (LD _) ?_
 rintro _ w1 ⟨⟨b,fa,fb,fc,fz,rfl,hb,hfa,hfb,hfc,hfz⟩,e1⟩
 have ha1:=Ze.oneCell hfa
 have hb1:=Ze.oneCell hfb
 have hc1:=Ze.oneCell hfc
 have hz1:=Ze.oneCell hfz
 have hidx2:∀ (w:World) (QP:List PanicEntry→World→Prop) (K:Value→World→Prop),opV Pg (Instr.indexAt 26 (.slice (some ⟨b,0,none⟩) 4 4) (.int .i64 2)) QP w K=K (.pointer (some ⟨b,4,none⟩)) w:=λ w QP K=>YT (w:=w) (QP:=QP) (k:=K) Tryz.underlying26 Uh b 0 4 4 .i64 2 (by decide)
 have hidx0:∀ (w:World) (QP:List PanicEntry→World→Prop) (K:Value→World→Prop),opV Pg (Instr.indexAt 26 (.slice (some ⟨b,0,none⟩) 4 4) (.int .i64 0)) QP w K=K (.pointer (some ⟨b,0,none⟩)) w:=λ w QP K=>YT (w:=w) (QP:=QP) (k:=K) Tryz.underlying26 Uh b 0 4 4 .i64 0 (by decide)
 have hc4:∀ O,(w1.alloc O).cell? ⟨b,4,none⟩=some (.string ⟨#[99]⟩):=λ O=>by rw [(Za ((Ext.alloc (Ext.refl w1) O).obj hb)).1];rfl
 have hc5:∀ O,(w1.alloc O).cell? ⟨b,5,none⟩=some fc:=λ O=>by rw [(Za ((Ext.alloc (Ext.refl w1) O).obj hb)).1];rfl
 unfold NA
 simp (disch:=try exact DI) only [↓PR,QR,simprocAttr,↓hidx2,hc4,hc5]
 simp only [World.size_alloc,World.size_setCell]
 generalize hV:World.alloc (World.alloc _ _) _=V
 generalize hn:w1.heap.size=n at hV ⊢
 have eV:Ext w1 V:=by rw [← hV];exact ee
 have oD:V.heap[n]?=some (.cells #[.string ⟨#[100]⟩,.slice (some ⟨b,0,none⟩) 4 4,.string ⟨#[99]⟩] 28 (0,0)):=by rw [← hV,← hn];simp (disch:=try exact DI) only [↓PR,QR,simprocAttr]
 have oM:V.heap[n+1]?=some (.cells #[.string ⟨#[99]⟩,fc] 24 (0,0)):=by rw [← hV,← hn];simp (disch:=try exact DI) only [↓PR,QR,simprocAttr]
 have oR:V.heap[n+7]?=some (.cells #[EJ n 0,EJ n 1,EJ n 2,EJ n 3,EJ n 4] TS (0,0)):=by rw [← hV,← hn];simp (disch:=try exact DI) only [↓PR,QR,simprocAttr];rfl
 have o2:V.heap[n+4]?=some (.cells #[.int .i64 0] 3 (0,0)):=by rw [← hV,← hn];simp (disch:=try exact DI) only [↓PR,QR,simprocAttr]
 have o3:V.heap[n+5]?=some (.cells #[.int .i64 1] 3 (0,0)):=by rw [← hV,← hn];simp (disch:=try exact DI) only [↓PR,QR,simprocAttr]
 have o4:V.heap[n+6]?=some (.cells #[.int .i64 2] 3 (0,0)):=by rw [← hV,← hn];simp (disch:=try exact DI) only [↓PR,QR,simprocAttr]
 clear hV
 have E1:=e1.trans eV
 have hrow:∀ k,k < 5→V.cell? ⟨n+7,k,none⟩=some (EJ n k)∧Ze V 1 GS (EJ n k) (RQ k)∧(EJ n k).oneCell'=true:=by
  intro k hk
  rw [(Za oR).1]
  match k,hk with
  | 0,_=>exact ⟨rfl,⟨_,0,rfl,Nat.le_refl _,by decide,λ h=>absurd rfl h⟩,rfl⟩
  | 1,_=>exact ⟨rfl,⟨_,0,rfl,Nat.le_refl _,by decide,λ h=>absurd rfl h⟩,rfl⟩
  | 2,_=>exact ⟨rfl,Xf [[.int .i64 0]] [0] (by decide) o2 (by simp) rfl (by decide) (BY 0),rfl⟩
  | 3,_=>exact ⟨rfl,Xf [[.int .i64 1]] [1] (by decide) o3 (by simp) rfl (by decide) (BY 1),rfl⟩
  | 4,_=>exact ⟨rfl,Xf [[.int .i64 2]] [2] (by decide) o4 (by simp) rfl (by decide) (BY 2),rfl⟩
 have hmsg:∀ w,Ext V w→Xe w (.agg #[.string ⟨#[99]⟩,fc]) mC:=λ w e=>⟨fc,rfl,hfc.ext (eV.trans e)⟩
 have hmsA:∀ w,Ext V w→Xe w (.agg #[.string ⟨#[97]⟩,fa]) mA:=λ w e=>⟨fa,rfl,hfa.ext (eV.trans e)⟩
 have hdef:∀ w,Ext V w→Yv w (.agg #[.string ⟨#[100]⟩,.slice (some ⟨b,0,none⟩) 4 4,.string ⟨#[99]⟩]) gvD:=by
  intro w e
  refine ⟨_,rfl,Xf (T:=24) [Zx mA fa,Zx mB fb,Zx mC fc,Zx mZ fz] gvD.msgs (by decide) ((eV.trans e).obj hb) (by simp [Zx]) rfl (by decide) λ k cs x h1 h2=>?_⟩
  have e':=eV.trans e
  match k with
  | 0=>injection h1 with h1;injection h2 with h2;subst h1 h2;exact ⟨fa,rfl,hfa.ext e'⟩
  | 1=>injection h1 with h1;injection h2 with h2;subst h1 h2;exact ⟨fb,rfl,hfb.ext e'⟩
  | 2=>injection h1 with h1;injection h2 with h2;subst h1 h2;exact ⟨fc,rfl,hfc.ext e'⟩
  | 3=>injection h1 with h1;injection h2 with h2;subst h1 h2;exact ⟨fz,rfl,hfz.ext e'⟩
 rw [show n+1+1+1+1+1+1+1=n+7 by omega]
 refine ZA (λ i w'=>∃ k:Nat,i = .int .i64 k∧k≤5∧Ext V w') (λ i _=>5 - (intOf i).toNat) ⟨0,rfl,by omega,Ext.refl _⟩ ?_
 rintro _ w2 ⟨k,rfl,hk,e2⟩
 have hM2:=(Za (e2.obj oM)).1
 rcases Nat.lt_or_ge k 5 with hlt | hge
 · have hdec:decide ((k:Int) < 5)=true:=decide_eq_true (by omega)
   obtain ⟨h1,h2,h3⟩:=hrow k hlt
   have h1':=e2.cell h1
   obtain ⟨hu,he⟩:=PY k hlt
   unfold Fk
   simp (disch:=try exact DI) only [↓PR,QR,simprocAttr,hdec,↓O2,h1',hM2,Nat.mul_one,Nat.zero_add]
   refine Zt (Dx _ _ mC k (hmsg _ e2) zH.1) ?_
   rintro _ w3 ⟨⟨u,rfl,hU⟩,e3⟩
   rw [he]
   rw [hu] at hU
   have hu1:=Ze.oneCell hU.ints
   unfold So
   simp (disch:=try exact DI) only [↓PR,QR,simprocAttr]
   refine zcr (Vm _ _ _ _ _ hU.ints (Ze.ext xT h2 (e2.trans e3))) λ w4 e4=>?_
   have hwr:IntKind.i64.wrap ((k:Int)+1)=(k:Int)+1:=Yk (by omega) (by omega)
   simp (disch:=try exact DI) only [↓PR,QR,simprocAttr,↓SU,decide_true,hwr]
   exact ⟨⟨k+1,rfl,by omega,e2.trans (e3.trans e4)⟩,ZF (kd := .i64) hlt⟩
 · have hdec:decide ((k:Int) < 5)=false:=decide_eq_false (by omega)
   unfold Fk
   simp (disch:=try exact DI) only [↓PR,QR,simprocAttr,hdec,hM2]
   refine Zt (Dx _ _ mC 5 (hmsg _ e2) zH.1) ?_
   rintro _ w3 ⟨⟨u3,rfl,hU3⟩,e3⟩
   have f3:=e2.trans e3
   rw [Zbs]
   simp (disch:=try exact DI) only [↓PR,QR,simprocAttr,↓M7,(Za (f3.obj oM)).1]
   refine Zt (zx _ _ mC 0 (hmsg _ f3) zH.1) ?_
   rintro _ w4 ⟨⟨u4,rfl,hU4⟩,e4⟩
   have f4:=f3.trans e4
   rw [ZcG]
   rw [TY] at hU4
   have hu4:=Ze.oneCell hU4.ints
   simp (disch:=try exact DI) only [↓PR,QR,simprocAttr,↓Nc,(Za (f4.obj oM)).1]
   refine Zt (zx _ _ mC 2 (hmsg _ f4) zH.1) ?_
   rintro _ w5 ⟨⟨u5,rfl,hU5⟩,e5⟩
   have f5:=f4.trans e5
   rw [ZbU]
   rw [Zau] at hU5
   have hu5:=Ze.oneCell hU5.ints
   unfold Pb
   simp (disch:=try exact DI) only [↓PR,QR,simprocAttr]
   have eY5:Ext w5 (w5.alloc (.cells #[.int .i64 2] 3)):=ee
   refine zcr (Vm _ _ _ _ [2] (Yy.ints (hU4.ext (e5.trans eY5))) (Wa w5 [2] (by decide))) λ w6 e6=>?_
   have f6:=f5.trans (eY5.trans e6)
   simp (disch:=try exact DI) only [↓PR,QR,simprocAttr,↓PJ,decide_true]
   have eY6:Ext w6 (w6.alloc (.cells #[.int .i64 4] 3)):=ee
   refine zcr (Vm _ _ _ _ [4] (Yy.ints (hU5.ext (eY5.trans (e6.trans eY6)))) (Wa w6 [4] (by decide))) λ w7 e7=>?_
   have f7:=f6.trans (eY6.trans e7)
   simp (disch:=try exact DI) only [↓PR,QR,simprocAttr,↓O6,↓OI,↓Ni,decide_true,(Za (f7.obj oM)).1]
   refine zcr (BJ _ _ mC 9 _ (hmsg _ f7) zH.1 (by rw [T9];exact Ze.nil _ _ _)) λ w8 e8=>?_
   have f8:=f7.trans e8
   have hA0:w8.cell? ⟨b,0,none⟩=some (.string ⟨#[97]⟩):=by rw [(Za ((eV.trans f8).obj hb)).1];rfl
   have hA1:w8.cell? ⟨b,1,none⟩=some fa:=by rw [(Za ((eV.trans f8).obj hb)).1];rfl
   simp (disch:=try exact DI) only [↓PR,QR,simprocAttr,↓Ph,↓Nu,↓hidx0,(Za (f8.obj oD)).1,hA0,hA1]
   have eY8:Ext w8 (w8.alloc (.cells #[.int .i64 0] 3)):=ee
   refine zcr (BJ _ _ mA 9 _ (hmsA _ (f8.trans eY8)) zH.2 (by rw [ZaC];exact Wa w8 [0] (by decide))) λ w9 e9=>?_
   have f9:=f8.trans (eY8.trans e9)
   simp (disch:=try exact DI) only [↓PR,QR,simprocAttr,↓Po,(Za (f9.obj oD)).1]
   refine Zt (Bz _ _ gvD (hdef _ f9) G4) ?_
   rintro _ w10 ⟨⟨u10,rfl,hU10⟩,e10⟩
   have f10:=f9.trans e10
   rw [SM]
   rw [Zam] at hU10
   have hu10:=Ze.oneCell hU10.ints
   simp (disch:=try exact DI) only [↓PR,QR,simprocAttr,↓OO,(Za (f10.obj oD)).1]
   refine Zt (Fx _ _ gvD (hdef _ f10) G4) ?_
   rintro _ w11 ⟨⟨u11,rfl,hU11⟩,e11⟩
   have f11:=f10.trans e11
   rw [SM]
   rw [T6] at hU11
   have hu11:=Ze.oneCell hU11.ints
   simp (disch:=try exact DI) only [↓PR,QR,simprocAttr,↓Mz,(Za (f11.obj oD)).1]
   refine Zt (jx _ _ gvD 0 (hdef _ f11) G4) ?_
   rintro _ w12 ⟨⟨u12,rfl,hU12⟩,e12⟩
   have f12:=f11.trans e12
   rw [SQ.2]
   rw [SQ.1] at hU12
   have hu12:=Ze.oneCell hU12.ints
   simp (disch:=try exact DI) only [↓PR,QR,simprocAttr,↓Pp,(Za (f12.obj oD)).1]
   refine Zt (jx _ _ gvD 1 (hdef _ f12) G4) ?_
   rintro _ w13 ⟨⟨u13,rfl,hU13⟩,e13⟩
   have f13:=f12.trans e13
   rw [R6.2]
   rw [R6.1] at hU13
   have hu13:=Ze.oneCell hU13.ints
   simp (disch:=try exact DI) only [↓PR,QR,simprocAttr,↓Ou,(Za (f13.obj oD)).1]
   refine Zt (jx _ _ gvD 3 (hdef _ f13) G4) ?_
   rintro _ w14 ⟨⟨u14,rfl,_⟩,e14⟩
   have f14:=f13.trans e14
   rw [ZbL]
   simp (disch:=try exact DI) only [↓PR,QR,simprocAttr,↓MM]
   have eY14:Ext w14 (w14.alloc (.cells #[.int .i64 0,.int .i64 1,.int .i64 2] 3)):=ee
   refine zcr (Vm _ _ _ _ [0,1,2] (Yy.ints (hU10.ext (e11.trans (e12.trans (e13.trans (e14.trans eY14)))))) (Wa w14 [0,1,2] (by decide))) λ w15 e15=>?_
   have f15:=f14.trans (eY14.trans e15)
   simp (disch:=try exact DI) only [↓PR,QR,simprocAttr,↓NW,decide_true]
   have eY15:Ext w15 (w15.alloc (.cells #[.int .i64 3] 3)):=ee
   have g15:=eY14.trans (e15.trans eY15)
   refine zcr (Vm _ _ _ _ [3] (Yy.ints (hU11.ext (e12.trans (e13.trans (e14.trans g15))))) (Wa w15 [3] (by decide))) λ w16 e16=>?_
   have f16:=f15.trans (eY15.trans e16)
   simp (disch:=try exact DI) only [↓PR,QR,simprocAttr,↓RS,decide_true]
   have eY16:Ext w16 (w16.alloc (.cells #[.int .i64 2,.int .i64 0] 3)):=ee
   have g16:=g15.trans (e16.trans eY16)
   refine zcr (Vm _ _ _ _ [2,0] (Yy.ints (hU12.ext (e13.trans (e14.trans g16)))) (Wa w16 [2,0] (by decide))) λ w17 e17=>?_
   have f17:=f16.trans (eY16.trans e17)
   simp (disch:=try exact DI) only [↓PR,QR,simprocAttr,↓R1,decide_true]
   have eY17:Ext w17 (w17.alloc (.cells #[.int .i64 2,.int .i64 1] 3)):=ee
   have g17:=g16.trans (e17.trans eY17)
   refine zcr (Vm _ _ _ _ [2,1] (Yy.ints (hU13.ext (e14.trans g17))) (Wa w17 [2,1] (by decide))) λ w18 e18=>?_
   have f18:=f17.trans (eY17.trans e18)
   simp (disch:=try exact DI) only [↓PR,QR,simprocAttr,↓ST,↓R0,↓Sv,↓RZ,↓Tc,decide_true]
   exact ⟨by trivial,E1.trans f18⟩
section
variable {lo hi B:Nat} {w w':World}
def Uc (w:World) (lo hi B:Nat) (cv:Value):Prop:=cv = .slice none 0 0∨∃ g len cap cur,cv = .slice (some ⟨g,0,none⟩) len cap∧lo≤g∧g < hi∧w.heap[g]?=some (.cells cur TC (0,0))∧len≤50∧∀ j,j < len→∃ s:ByteArray,cur[j*3+2]?=some (.string s)∧s.size≤B
def W5 (w:World) (lo hi:Nat) (tv:Value):Prop:=tv = .slice none 0 0∨∃ g len cap cur,tv = .slice (some ⟨g,0,none⟩) len cap∧lo≤g∧g < hi∧w.heap[g]?=some (.cells cur TT (0,0))∧len≤10∧∀ j,j < len→∃ n:Int,cur[j*2+1]?=some (.int .i64 n)
def UE (w:World) (lo hi B:Nat) (fv:Value) (n:Nat):Prop:=(fv = .slice none 0 0∧n=0)∨∃ g cap cur,fv = .slice (some ⟨g,0,none⟩) n cap∧lo≤g∧g < hi∧w.heap[g]?=some (.cells cur TF (0,0))∧(∀ j,j < n*15→∃ u,cur[j]?=some u∧u.oneCell'=true)∧∀ k,k < n→∃ tv cv,cur[k*15+8]?=some tv∧W5 w lo hi tv∧cur[k*15+12]?=some cv∧Uc w lo hi B cv
def Ua (w:World) (lo hi B:Nat) (mv:Value) (n:Nat):Prop:=(mv = .slice none 0 0∧n=0)∨∃ g cap cur,mv = .slice (some ⟨g,0,none⟩) n cap∧lo≤g∧g < hi∧w.heap[g]?=some (.cells cur TM (0,0))∧n*2≤cur.size∧∀ k,k < n→∃ fv nf,cur[k*2+1]?=some fv∧nf≤400∧UE w lo hi B fv nf
def Fit (T:TypeId) (o:Nat) (v:Value) (B:Nat):Prop:=(T=TM→o % 2=0)∧(T=TF→o % 15=0∧v.oneCell'=true)∧(T=TC→o % 3=2→∃ s:ByteArray,v = .string s∧s.size≤B)∧(T=TT→o % 2=1∧∃ n:Int,v = .int .i64 n)
theorem CR {cur:Array Value} {i j:Nat} {v u:Value} (h:cur[i]?=some u):(cur.setIfInBounds j v)[i]?=some (if j=i then v else u):=by
 by_cases e:j=i
 · subst e
   rw [if_pos rfl,Array.getElem?_setIfInBounds_self]
   rw [if_pos (Array.getElem?_eq_some_iff.1 h).1]
 · rw [if_neg e,Array.getElem?_setIfInBounds_ne e,h]
variable {b o:Nat} {v:Value} {T:TypeId} {cur0:Array Value} (hb:w.heap[b]?=some (.cells cur0 T (0,0))) {B':Nat} (hBB:B≤B') (hf:Fit T o v B')
 include hb hBB hf
theorem Uc.put {cv:Value} (h:Uc w lo hi B cv):Uc (w.setCell ⟨b,o,none⟩ v) lo hi B' cv:=by
 rcases h with h | ⟨g,len,cap,cur,h1,h2,h3,h4,h5,h6⟩
 · exact .inl h
 · by_cases e:g=b
   · subst e
     rw [hb] at h4
     injection h4 with h4
     injection h4 with h4 h4T
     subst h4 h4T
     refine .inr ⟨g,len,cap,_,h1,h2,h3,Z2 hb v,h5,λ j hj=>?_⟩
     obtain ⟨s,hs,hsz⟩:=h6 j hj
     rw [CR hs]
     split
     · obtain ⟨s',hv,hs'⟩:=hf.2.2.1 rfl (by omega)
       exact ⟨s',by rw [hv],hs'⟩
     · exact ⟨s,rfl,by omega⟩
   · exact .inr ⟨g,len,cap,cur,h1,h2,h3,(Yu.setCell w b o v g e).trans h4,h5,λ j hj=>let ⟨s,a,c⟩:=h6 j hj; ⟨s,a,by omega⟩⟩
omit hBB in
theorem W5.put {cv:Value} (h:W5 w lo hi cv):W5 (w.setCell ⟨b,o,none⟩ v) lo hi cv:=by
 rcases h with h | ⟨g,len,cap,cur,h1,h2,h3,h4,h5,h6⟩
 · exact .inl h
 · by_cases e:g=b
   · subst e
     rw [hb] at h4
     injection h4 with h4
     injection h4 with h4 h4T
     subst h4 h4T
     refine .inr ⟨g,len,cap,_,h1,h2,h3,Z2 hb v,h5,λ j hj=>?_⟩
     obtain ⟨s,hs⟩:=h6 j hj
     rw [CR hs]
     obtain ⟨_,s',hv⟩:=hf.2.2.2 rfl
     split
     · exact ⟨s',by rw [hv]⟩
     · exact ⟨s,rfl⟩
   · exact .inr ⟨g,len,cap,cur,h1,h2,h3,(Yu.setCell w b o v g e).trans h4,h5,h6⟩
theorem UE.put {fv:Value} {n:Nat} (h:UE w lo hi B fv n):UE (w.setCell ⟨b,o,none⟩ v) lo hi B' fv n:=by
 rcases h with h | ⟨g,cap,cur,h1,h2,h3,h4,h5,h6⟩
 · exact .inl h
 · by_cases e:g=b
   · subst e
     have hb':=hb
     rw [hb] at h4
     injection h4 with h4
     injection h4 with h4 h4T
     subst h4 h4T
     obtain ⟨ho,hv⟩:=hf.2.1 rfl
     refine .inr ⟨g,cap,_,h1,h2,h3,Z2 hb v,λ j hj=>?_,λ k hk=>?_⟩
     · obtain ⟨u,hu,hu1⟩:=h5 j hj
       rw [CR hu]
       split
       · exact ⟨v,rfl,hv⟩
       · exact ⟨u,rfl,hu1⟩
     · obtain ⟨tv,cv,a1,a2,a3,a4⟩:=h6 k hk
       refine ⟨tv,cv,?_,a2.put hb' hf,?_,a4.put hb' hBB hf⟩
       · rw [Array.getElem?_setIfInBounds_ne (by omega)];exact a1
       · rw [Array.getElem?_setIfInBounds_ne (by omega)];exact a3
   · exact .inr ⟨g,cap,cur,h1,h2,h3,(Yu.setCell w b o v g e).trans h4,h5,λ k hk=>let ⟨tv,cv,a1,a2,a3,a4⟩:=h6 k hk; ⟨tv,cv,a1,a2.put hb hf,a3,a4.put hb hBB hf⟩⟩
theorem Ua.put {mv:Value} {n:Nat} (h:Ua w lo hi B mv n):Ua (w.setCell ⟨b,o,none⟩ v) lo hi B' mv n:=by
 rcases h with h | ⟨g,cap,cur,h1,h2,h3,h4,h5,h6⟩
 · exact .inl h
 · by_cases e:g=b
   · subst e
     have hb':=hb
     rw [hb] at h4
     injection h4 with h4
     injection h4 with h4 h4T
     subst h4 h4T
     have ho:=hf.1 rfl
     refine .inr ⟨g,cap,_,h1,h2,h3,Z2 hb v,by simpa using h5,λ k hk=>?_⟩
     obtain ⟨fv,nf,a1,a2,a3⟩:=h6 k hk
     refine ⟨fv,nf,?_,a2,a3.put hb' hBB hf⟩
     rw [Array.getElem?_setIfInBounds_ne (by omega)];exact a1
   · exact .inr ⟨g,cap,cur,h1,h2,h3,(Yu.setCell w b o v g e).trans h4,h5,λ k hk=>let ⟨fv,nf,a1,a2,a3⟩:=h6 k hk; ⟨fv,nf,a1,a2,a3.put hb hBB hf⟩⟩
end
section
variable {lo hi B:Nat} {w w':World}
theorem Uc.ext {cv:Value} (h:Uc w lo hi B cv) (e:Ext w w'):Uc w' lo hi B cv:=by
 rcases h with h | ⟨g,len,cap,cur,h1,h2,h3,h4,h5⟩
 · exact .inl h
 · exact .inr ⟨g,len,cap,cur,h1,h2,h3,e.obj h4,h5⟩
theorem W5.ext {cv:Value} (h:W5 w lo hi cv) (e:Ext w w'):W5 w' lo hi cv:=by
 rcases h with h | ⟨g,len,cap,cur,h1,h2,h3,h4,h5⟩
 · exact .inl h
 · exact .inr ⟨g,len,cap,cur,h1,h2,h3,e.obj h4,h5⟩
theorem UE.ext {fv:Value} {n:Nat} (h:UE w lo hi B fv n) (e:Ext w w'):UE w' lo hi B fv n:=by
 rcases h with h | ⟨g,cap,cur,h1,h2,h3,h4,h5,h6⟩
 · exact .inl h
 · exact .inr ⟨g,cap,cur,h1,h2,h3,e.obj h4,h5,λ k hk=>let ⟨tv,cv,a1,a2,a3,a4⟩:=h6 k hk; ⟨tv,cv,a1,a2.ext e,a3,a4.ext e⟩⟩
theorem Ua.ext {mv:Value} {n:Nat} (h:Ua w lo hi B mv n) (e:Ext w w'):Ua w' lo hi B mv n:=by
 rcases h with h | ⟨g,cap,cur,h1,h2,h3,h4,h5,h6⟩
 · exact .inl h
 · exact .inr ⟨g,cap,cur,h1,h2,h3,e.obj h4,h5,λ k hk=>let ⟨fv,nf,a1,a2,a3⟩:=h6 k hk; ⟨fv,nf,a1,a2,a3.ext e⟩⟩
theorem DV {w:World} {lo hi n:Nat} {T:TypeId} {v:Value} {css:List (Cs n)} (h:WI w lo hi T n Subtype.val v css):(v = .slice none 0 0∧css=[])∨∃ g cap cur,v = .slice (some ⟨g,0,none⟩) css.length cap∧lo≤g∧g < hi∧w.heap[g]?=some (.cells cur T (0,0))∧css.length*n≤cur.size∧∀ (k:Nat) (cs:Cs n) (j:Nat) (u:Value),css[k]?=some cs→cs.1[j]?=some u→cur[k*n+j]?=some u:=by
 obtain ⟨⟨h1,h2⟩,h3⟩:=h
 rcases h2 with ⟨hv,h0⟩ | ⟨g,cap,cur,hv,hb,hc,hn,_,hsz,htake⟩
 · exact .inl ⟨hv,List.eq_nil_of_length_eq_zero h0⟩
 · refine .inr ⟨g,cap,cur,hv,hb,h3 g (by rw [hv];rfl),hc,by rw [hsz];exact Nat.mul_le_mul_right _ hn,λ k cs j u hk hu=>?_⟩
   have:=X6 (enc:=(Subtype.val:Cs n→List Value)) (λ x=>x.2) css k cs j u hk hu
   rw [← htake,List.getElem?_take] at this
   split at this
   · simpa using this
   · cases this
theorem IS {α:Type} {w:World} {lo hi n:Nat} {T:TypeId} {v:Value} {enc:α→List Value} {l:List α} (hn:∀ x,(enc x).length=n) (h:WI w lo hi T n enc v l):(v = .slice none 0 0∧l=[])∨∃ g cap cur,v = .slice (some ⟨g,0,none⟩) l.length cap∧lo≤g∧g < hi∧w.heap[g]?=some (.cells cur T (0,0))∧∀ (k:Nat) (x:α) (j:Nat) (u:Value),l[k]?=some x→(enc x)[j]?=some u→cur[k*n+j]?=some u:=by
 obtain ⟨⟨h1,h2⟩,h3⟩:=h
 rcases h2 with ⟨hv,h0⟩ | ⟨g,cap,cur,hv,hb,hc,hle,_,hsz,htake⟩
 · exact .inl ⟨hv,List.eq_nil_of_length_eq_zero h0⟩
 · refine .inr ⟨g,cap,cur,hv,hb,h3 g (by rw [hv];rfl),hc,λ k x j u hk hu=>?_⟩
   have:=X6 hn l k x j u hk hu
   rw [← htake,List.getElem?_take] at this
   split at this
   · simpa using this
   · cases this
def okG (B:Nat) (f:Zm):Prop:=f.cases.length≤50∧f.terms.length≤10∧∀ c∈f.cases,c.of.size≤B
theorem Xl.shapeG {fv:Value} {l:List Zm} (h:Xl w lo hi fv l) (ht:∀ f∈l,okG B f):UE w lo hi B fv l.length:=by
 obtain ⟨css,hO,hm1,hm2⟩:=h
 rcases DV hO with ⟨hv,h0⟩ | ⟨g,cap,cur,hv,h1,h2,h3,h4,h5⟩
 · refine .inl ⟨hv,?_⟩
   rw [h0] at hm1;exact hm1.symm
 · rw [hm1] at hv h4
   refine .inr ⟨g,cap,cur,hv,h1,h2,h3,λ j hj=>?_,λ k hk=>?_⟩
   · have hq:j / 15 < l.length:=Nat.div_lt_of_lt_mul (by rw [Nat.mul_comm];exact hj)
     obtain ⟨x,hx⟩:=getElem?_lt hq
     obtain ⟨cs,hcs⟩:=getElem?_lt (l:=css) (k:=j / 15) (by rw [hm1];exact hq)
     have hr:j % 15 < cs.1.length:=by rw [cs.2];exact Nat.mod_lt _ (by decide)
     have:=h5 (j / 15) cs (j % 15) _ hcs (List.getElem?_eq_getElem hr)
     rw [show j / 15*15+j % 15=j by omega] at this
     refine ⟨_,this,?_⟩
     obtain ⟨tv,cv,he,hT,hC⟩:=hm2 _ x cs hx hcs
     have ho:=Qa.plain ⟨tv,cv,he,hT,hC⟩
     have hT1:tv.oneCell'=true:=(Z5.slice hT.1 (E:=G8) (λ _=>rfl) (λ _ _=>rfl)).oneCell
     have hC1:cv.oneCell'=true:=(Z5.slice hC.1 (E:=Ag) (λ _=>rfl) (λ _ _=>rfl)).oneCell
     have hmem:cs.1[j % 15]∈Zo x tv cv:=by rw [← he];exact List.getElem_mem hr
     simp only [Zo,List.mem_cons,List.not_mem_nil,or_false] at hmem
     have:∀ u,(u = .string x.name∨u = .int .i64 x.kind∨u = .int .i64 x.bits∨u = .bool x.little∨u = .bool x.loose∨u = .int .i64 x.low∨u = .int .i64 x.high∨u = .int .i64 x.base∨u=tv∨u = .string x.of∨u = .string x.tag∨u = .string x.fr∨u=cv∨u = .int .i64 x.check∨u = .int .i64 x.key)→u.oneCell'=true:=by
      rintro u (rfl | rfl | rfl | rfl | rfl | rfl | rfl | rfl | rfl | rfl | rfl | rfl | rfl | rfl | rfl)<;>first | rfl | assumption
     exact this _ hmem
   · obtain ⟨x,hx⟩:=getElem?_lt hk
     obtain ⟨cs,hcs⟩:=getElem?_lt (l:=css) (k:=k) (by rw [hm1];exact hk)
     obtain ⟨tv,cv,he,hT,hC⟩:=hm2 k x cs hx hcs
     have hx':=ht x (List.mem_of_getElem? hx)
     refine ⟨tv,cv,h5 k cs 8 tv hcs (by rw [he];rfl),?_,h5 k cs 12 cv hcs (by rw [he];rfl),?_⟩
     · rcases IS (enc:=λ t:ZX=>Wj t) (λ _=>rfl) hT with ⟨hv,h0⟩ | ⟨g,cap,cur,hv,h1,h2,h3,h4⟩
       · exact .inl hv
       · refine .inr ⟨g,_,cap,cur,hv,h1,h2,h3,hx'.2.1,λ j hj=>?_⟩
         obtain ⟨t,ht⟩:=getElem?_lt hj
         exact ⟨t.factor,h4 j t 1 _ ht rfl⟩
     · rcases IS (enc:=λ t:V0=>Ql t) (λ _=>rfl) hC with ⟨hv,h0⟩ | ⟨g,cap,cur,hv,h1,h2,h3,h4⟩
       · exact .inl hv
       · refine .inr ⟨g,_,cap,cur,hv,h1,h2,h3,hx'.1,λ j hj=>?_⟩
         obtain ⟨t,ht⟩:=getElem?_lt hj
         exact ⟨t.of,h4 j t 2 _ ht rfl,hx'.2.2 t (List.mem_of_getElem? ht)⟩
theorem Q4.shapeM {mv:Value} {l:List ZD} (h:Q4 w lo hi mv l) (ht:∀ m∈l,m.fields.length≤400∧∀ f∈m.fields,okG B f):Ua w lo hi B mv l.length:=by
 obtain ⟨css,hO,hm1,hm2⟩:=h
 rcases DV hO with ⟨hv,h0⟩ | ⟨g,cap,cur,hv,h1,h2,h3,h4,h5⟩
 · refine .inl ⟨hv,?_⟩
   rw [h0] at hm1;exact hm1.symm
 · rw [hm1] at hv h4
   refine .inr ⟨g,cap,cur,hv,h1,h2,h3,h4,λ k hk=>?_⟩
   obtain ⟨x,hx⟩:=getElem?_lt hk
   obtain ⟨cs,hcs⟩:=getElem?_lt (l:=css) (k:=k) (by rw [hm1];exact hk)
   obtain ⟨fv,he,hF⟩:=hm2 k x cs hx hcs
   have hx':=ht x (List.mem_of_getElem? hx)
   exact ⟨fv,_,h5 k cs 1 fv hcs (by rw [he];rfl),hx'.1,hF.shapeG hx'.2⟩
end
def WK (l:List ZD) (s t:Nat) (ns:List ByteArray) (i:Nat):Bool:=Z9 l s t i||(Z9 l s t (l.length - 1 - t)&&ns.any λ nm=>idx (λ x=>decide (x.name=nm)) l == (i:Int))
theorem Ho (l:List ZD) (s t i:Nat):WK l s t [] i=Z9 l s t i:=by simp [WK]
theorem HH {l:List ZD} {s t:Nat} {m:ZD} (hm:l[l.length - 1 - t]?=some m) (i:Nat):WK l s t (XN m) i=Z9 l s (t+1) i:=by
 unfold WK
 rw [Z9,toB,hm]
theorem Dn {l:List ZD} {s t:Nat} (h:Z9 l s t (l.length - 1 - t)=false) (ns:List ByteArray) (i:Nat):WK l s t ns i=Z9 l s (t+1) i:=by
 unfold WK
 rw [Z9,h,Bool.false_and,Bool.false_and]
theorem Mc {l:List ZD} (hf:YL l) {s t:Nat} {m:ZD} (hm:l[l.length - 1 - t]?=some m) (k:Nat):WK l s t ((XN m).take k) (l.length - 1 - t)=Z9 l s t (l.length - 1 - t):=by
 unfold WK
 have:(((XN m).take k).any λ nm=>idx (λ x=>decide (x.name=nm)) l == ((l.length - 1 - t:Nat):Int))=false:=by
  rw [Bool.eq_false_iff]
  intro h
  obtain ⟨nm,hn,he⟩:=List.any_eq_true.1 h
  obtain ⟨i,_,hi,_,_,hx,_⟩:=VO hf hm (List.mem_of_mem_take hn)
  rw [hx] at he
  simp at he
  omega
 rw [this,Bool.and_false,Bool.or_false]
theorem Da {l:List ZD} {s t j:Nat} {ns:List ByteArray} {nm:ByteArray} (hr:Z9 l s t (l.length - 1 - t)=true) (hj:idx (λ x=>decide (x.name=nm)) l=(j:Int)) (i:Nat):WK l s t (ns++[nm]) i=if i=j then true else WK l s t ns i:=by
 unfold WK
 rw [hr,List.any_append,Bool.true_and,Bool.true_and,← Bool.or_assoc]
 simp only [List.any_cons,List.any_nil,Bool.or_false,hj]
 by_cases h:i=j
 · subst h;simp
 · rw [if_neg h]
   have:((j:Int) == (i:Int))=false:=by simp;omega
   rw [this,Bool.or_false]
theorem Hd (w0:World) (v:Value) (d:YF) (hd:Yv w0 v d) (ht:UN d) (hc:(Yl d).2.2=0):Ret Pg 23 #[v] w0 λ r w'=>Yy w' w0.heap.size r (WD d.msgs (Yz d))∧Ext w0 w':=by
 obtain ⟨mv,rfl,hM⟩:=hd
 have hm1:=Ze.oneCell hM
 have hM0:=hM
 obtain ⟨A,c,rfl,hlc,hcm,hlm,hel⟩:=Ze.open hM
 obtain ⟨hs,hany,hidx⟩:=Ge hc
 have hf:=(Xh hc).2.2.1
 have hl60:=(Xh hc).2.1.2
 have hidx2:idx (λ m:ZD=>decide (m.name=d.start)) d.msgs=Yz d:=by
  have ha:=hany
  rw [← Y7] at ha
  rw [← hidx]
  unfold LI
  simp at ha
  rw [if_neg (by omega)]
 generalize Yz d=s at hs hidx2 ⊢
 refine ZdS (R:=ZQ _) ?_;unfold n43
 rw [Xk]
 have o1:=ZE w0 (Zz d (.slice A d.msgs.length c)).toArray 28
 have eW:Ext w0 (w0.alloc (.cells (Zz d (.slice A d.msgs.length c)).toArray 28)):=ee
 generalize (w0.alloc (.cells (Zz d (.slice A d.msgs.length c)).toArray 28))=W at o1 eW ⊢
 generalize hp1:w0.heap.size=p1 at o1 ⊢
 simp (disch:=try exact DI) only [↓PR,QR,simprocAttr,(Za o1).1]
 rw [Uy d.msgs.length (by omega)]
 have eV:Ext W (W.alloc (.cells ((List.replicate d.msgs.length false).map λ x=>Value.bool x).toArray 4)):=ee
 have oR:Q1 (W.alloc (.cells ((List.replicate d.msgs.length false).map λ x=>Value.bool x).toArray 4)) W.heap.size (tab d.msgs.length λ _=>false):=by
  have:=ZE W ((List.replicate d.msgs.length false).map λ x=>Value.bool x).toArray 4
  rw [show tab d.msgs.length (λ _=>false)=List.replicate d.msgs.length false by unfold tab;rw [List.map_const'];simp]
  exact this
 have sV:=eV.size
 generalize (W.alloc (.cells ((List.replicate d.msgs.length false).map λ x=>Value.bool x).toArray 4))=V at eV oR sV ⊢
 generalize hr:W.heap.size=r at oR ⊢
 simp (disch:=try exact DI) only [↓PR,QR,simprocAttr,(Za (eV.obj o1)).1]
 refine zcr (Qk _ _ d d.start d.msgs.length ⟨_,rfl,hM0.ext (eW.trans eV)⟩ (Nat.le_refl _)) λ w2 e2=>?_
 rw [List.take_length,hidx2]
 have oR2:=oR.ext e2
 have g2:Ext W w2:=eV.trans e2
 have hfz:∀ o,w2.frozen? ⟨r,o,none⟩=false:=(Za oR2).2
 have hcs:w2.cell? ⟨r,s,none⟩=some (.bool false):=oR2.get (Q7 hs)
 unfold R2
 have oR3:=oR2.set s true
 rw [zb hs] at oR3
 have g3:Ext W (w2.setCell ⟨r,s,none⟩ (.bool true)):=g2.setCell (by show W.heap.size≤r;omega) _
 have hwl:IntKind.i64.wrap ((d.msgs.length:Int) - 1)=(d.msgs.length:Int) - 1:=Yk (by omega) (by omega)
 have q1:=g3.obj o1
 simp (disch:=try exact DI) only [↓PR,QR,simprocAttr,hcs,hfz,Nat.mul_one,Nat.zero_add,(Za q1).1,hwl]
 clear hfz hcs q1
 generalize (w2.setCell ⟨r,s,none⟩ (.bool true))=w3 at oR3 g3 ⊢
 have h0:tab d.msgs.length (λ j=>if j=s then true else false)=tab d.msgs.length (Z9 d.msgs s 0):=QE λ i _=>by
  by_cases h:i=s<;>simp [h,Z9]
 rw [h0] at oR3
 refine ZA (λ a w=>∃ t:Nat,a = .int .i64 ((d.msgs.length:Int) - 1 - t)∧t≤d.msgs.length∧Ext W w∧Q1 w r (tab d.msgs.length (Z9 d.msgs s t))) (λ a _=>(intOf a+1).toNat) ⟨0,by rw [Int.natCast_zero,Int.sub_zero],by omega,g3,oR3⟩ ?_
 rintro _ w4 ⟨t,rfl,htl,g4,oR4⟩
 unfold R5
 by_cases hlt:t < d.msgs.length
 · have hge:decide (((d.msgs.length:Int) - 1 - t)≥0)=true:=decide_eq_true (by omega)
   obtain ⟨at_,hat⟩:∃ k:Nat,k=d.msgs.length - 1 - t:=⟨_,rfl⟩
   have hatI:((d.msgs.length:Int) - 1 - t)=(at_:Int):=by omega
   rw [hatI] at hge ⊢
   have hal:at_ < d.msgs.length:=by omega
   obtain ⟨m,hm⟩:=getElem?_lt hal
   obtain ⟨b,o,cs,rfl,_,hA,fv,rfl,hF⟩:=hel at_ m hm
   have hfv:=Ze.oneCell hF
   have hm':d.msgs[d.msgs.length - 1 - t]?=some m:=by rw [← hat];exact hm
   simp (disch:=try exact DI) only [↓PR,QR,simprocAttr,hge,↓Sz,(Za (g4.obj o1)).1,hA.c2 (eW.trans g4)]
   refine Zt (Kz _ _ m ⟨_,rfl,hF.ext (eW.trans g4)⟩ (ht m (List.mem_of_getElem? hm)).1) ?_
   rintro rv w5 ⟨hT,e5⟩
   have g5:=g4.trans e5
   have oR5:=oR4.ext e5
   have hTs:Ze w5 1 KQ rv (XN m):=hT.slice (λ _=>rfl) (λ _ _=>rfl)
   have hrl:(XN m).length≤1048576:=Nat.le_trans (Jg _ _) (ht m (List.mem_of_getElem? hm)).1
   obtain ⟨Ar,cr,rfl,hlr,hcr,hlmr,helr⟩:=Ze.open hTs
   have s4:=(Array.getElem?_eq_some_iff.1 oR4).1
   refine ZA (λ a w=>∃ k:Nat,a = .int .i64 k∧k≤(XN m).length∧Ext W w∧Vg w w4.heap.size (.slice Ar (XN m).length cr) (XN m)∧Q1 w r (tab d.msgs.length (WK d.msgs s t ((XN m).take k)))) (λ a _=>(XN m).length - (intOf a).toNat) ⟨0,rfl,by omega,g5,hT,by rw [List.take_zero,QE λ i _=>Ho d.msgs s t i];exact oR5⟩ ?_
   rintro _ w6 ⟨k,rfl,hk,g6,hT6,oR6⟩
   have c2:w6.cell? ⟨r,at_,none⟩=some (.bool (Z9 d.msgs s t at_)):=by
    rw [oR6.get (Q7 hal),hat,Mc hf hm']
   have hwr:IntKind.i64.wrap ((at_:Int) - 1)=(d.msgs.length:Int) - 1 - ((t+1:Nat):Int):=by rw [Yk (by omega) (by omega)];omega
   unfold SX
   cases hb:Z9 d.msgs s t at_ with
   | false =>
    rw [hb] at c2
    simp (disch:=try exact DI) only [↓PR,QR,simprocAttr,c2,↓HO,hwr,Nat.mul_one,Nat.zero_add]
    refine ⟨⟨t+1,rfl,by omega,g6,?_⟩,?_⟩
    · rw [QE λ i _=>Dn (by rw [← hat];exact hb) _ i] at oR6
      exact oR6
    · simp only [intOf]
      omega
   | true =>
    rw [hb] at c2
    rcases ZB hk with ⟨x,hx,_,hltk,hdec⟩ | ⟨hke,_,hdec⟩
    · obtain ⟨j,_,hjl,_,_,hix,hix2⟩:=VO hf hm (List.mem_of_getElem? hx)
      obtain ⟨_,_,hv,_,_,_,hel6⟩:=Ze.open (hT6.slice (E:=KQ) (λ _=>rfl) (λ _ _=>rfl))
      injection hv with hv _ hv'
      subst hv hv'
      obtain ⟨b6,o6,cs6,rfl,_,hA6,rfl⟩:=hel6 k _ hx
      have hjn:j < d.msgs.length:=by omega
      simp (disch:=try exact DI) only [↓PR,QR,simprocAttr,c2,hdec,↓HO,Nat.mul_one,Nat.zero_add]
      refine ZI ?_
      have g7:=g6.wdrew
      unfold St
      simp (disch:=try exact DI) only [↓PR,QR,simprocAttr,(Za (g6.obj o1)).1,hA6.c1 (Ext.refl _)]
      refine zcr (Qk _ _ d x at_ ⟨_,rfl,hM0.ext (eW.trans g7)⟩ (by omega)) λ w7 e7=>?_
      refine ⟨e7,?_⟩
      rw [hix2]
      have eD:Ext w6 w6.drew:=(Ext.refl w6).wdrew
      have oR7:=oR6.ext (eD.trans e7)
      have hT7:=hT6.ext (eD.trans e7)
      have g8:=g7.trans e7
      have s7:=(eD.trans e7).size
      have c1:w7.cell? ⟨r,j,none⟩=some (.bool (WK d.msgs s t ((XN m).take k) j)):=oR7.get (Q7 hjn)
      have hfz:∀ o,w7.frozen? ⟨r,o,none⟩=false:=(Za oR7).2
      have oR8:=oR7.set j true
      rw [zb hjn] at oR8
      rw [QE λ i _=>(Da (ns:=(XN m).take k) (by rw [← hat];exact hb) hix i).symm,← ZU hx] at oR8
      unfold Tv
      simp (disch:=try exact DI) only [↓PR,QR,simprocAttr,c1,hfz,Nat.mul_one,Nat.zero_add]
      refine YZ ?_
      have hwk:IntKind.i64.wrap ((k:Int)+1)=(k:Int)+1:=Yk (by omega) (by omega)
      simp (disch:=try exact DI) only [↓PR,QR,simprocAttr,hwk]
      refine ⟨⟨k+1,rfl,by omega,g8.setCell (by show W.heap.size≤r;omega) _,?_,oR8⟩,ZF (kd := .i64) hltk⟩
      exact (WI.only (lo:=w4.heap.size) (hi:=w7.heap.size) ⟨hT7,λ b hb=>(hT7.lt b hb).2⟩ (Yu.setCell w7 r j _) (.inr (.inl s4))).1
    · subst hke
      simp (disch:=try exact DI) only [↓PR,QR,simprocAttr,c2,hdec,↓HO,hwr,Nat.mul_one,Nat.zero_add]
      refine ⟨⟨t+1,rfl,by omega,g6,?_⟩,?_⟩
      · rw [List.take_length,QE λ i _=>HH hm' i] at oR6
        exact oR6
      · simp only [intOf]
        omega
 · obtain rfl:t=d.msgs.length:=by omega
   have hge:decide (((d.msgs.length:Int) - 1 - (d.msgs.length:Int))≥0)=false:=decide_eq_false (by omega)
   simp (disch:=try exact DI) only [↓PR,QR,simprocAttr,hge]
   have s4:=g4.size
   refine Ye (λ a i w=>∃ j:Nat,i = .int .i64 j∧j≤d.msgs.length∧Ext w4 w∧Yy w w4.heap.size a (Wz j (Z9 d.msgs s d.msgs.length))) (λ _ i _=>d.msgs.length - (intOf i).toNat) ⟨0,rfl,by omega,Ext.refl _,Z5.nil _ _ _ _ _⟩ ?_
   rintro a _ w5 ⟨j,rfl,hj,e5,hR⟩
   have ha1:=Ze.oneCell hR.ints
   have oR5:=oR4.ext e5
   have q1:=(Za ((g4.trans e5).obj o1)).1
   unfold Tl
   rcases Nat.lt_or_ge j d.msgs.length with hlt | hge2
   · have hdec:decide ((j:Int) < (d.msgs.length:Int))=true:=decide_eq_true (by omega)
     have hwj:IntKind.i64.wrap ((j:Int)+1)=(j:Int)+1:=Yk (by omega) (by omega)
     have c1:w5.cell? ⟨r,j,none⟩=some (.bool (Z9 d.msgs s d.msgs.length j)):=oR5.get (Q7 hlt)
     have hss:=jG j (Z9 d.msgs s d.msgs.length)
     have hsl:=UF j (Z9 d.msgs s d.msgs.length)
     cases hb:Z9 d.msgs s d.msgs.length j with
     | false =>
      rw [hb] at hss c1
      simp only [Bool.false_eq_true,if_false,List.append_nil] at hss
      simp (disch:=try exact DI) only [↓PR,QR,simprocAttr,q1,hdec,↓Ob,c1,hwj,Nat.mul_one,Nat.zero_add]
      exact ⟨⟨j+1,rfl,by omega,e5,by rw [hss];exact hR⟩,ZF (kd := .i64) hlt⟩
     | true =>
      rw [hb] at hss c1
      simp only [if_true] at hss
      simp (disch:=try exact DI) only [↓PR,QR,simprocAttr,q1,hdec,↓Ob,c1,Nat.mul_one,Nat.zero_add]
      generalize hY:World.alloc w5 _=Y
      have eY:Ext w5 Y:=by rw [← hY];exact ee
      have oY:Y.heap[w5.heap.size]?=some (.cells #[.int .i64 (j:Int)] 3 (0,0)):=by rw [← hY];exact ZE _ _ _
      clear hY
      refine UC (j:Int) (hR.ext eY) (by rw [(Za oY).1];rfl) (e5.trans eY).size (by omega) ?_
      intro v' w' hO' hg'
      have e':=hg'.2.1 w4 (e5.trans eY) (Nat.le_refl _)
      simp (disch:=try exact DI) only [↓PR,QR,simprocAttr,hwj]
      exact ⟨⟨j+1,rfl,by omega,e',by rw [hss];exact hO'⟩,ZF (kd := .i64) hlt⟩
   · have hjk:j=d.msgs.length:=by omega
     subst hjk
     have hdec:decide ((d.msgs.length:Int) < (d.msgs.length:Int))=false:=decide_eq_false (by omega)
     simp (disch:=try exact DI) only [↓PR,QR,simprocAttr,q1,hdec]
     exact ⟨Z5.base hR (by have:=eW.size;omega),eW.trans (g4.trans e5)⟩
def pick {α:Type} (l:List α) (L:List Int):List α:=L.filterMap λ i=>l[i.toNat]?
theorem AQ {α:Type} {l:List α} {L:List Int} {i:Nat} {x:α} (h:l[i]?=some x):pick l (L++[(i:Int)])=pick l L++[x]:=by
 unfold pick
 rw [List.filterMap_append]
 simp [h]
theorem qv {α:Type} {l:List α}:∀ {L:List Int},(∀ x∈L,x.toNat < l.length)→(pick l L).length=L.length
 | [],_=>rfl
 | x::L,h=>by
  obtain ⟨y,hy⟩:=getElem?_lt (h x (List.mem_cons_self ..))
  have:=qv (L:=L) λ z hz=>h z (List.mem_cons_of_mem _ hz)
  unfold pick at this ⊢
  rw [List.filterMap_cons,hy]
  simp [this]
theorem qT {α:Type} {l:List α}:∀ {L:List Int} (k:Nat) (x:α),(∀ x∈L,x.toNat < l.length)→(pick l L)[k]?=some x→∃ i:Int,L[k]?=some i∧l[i.toNat]?=some x
 | [],k,x,_,h=>by simp [pick] at h
 | y::L,k,x,hL,h=>by
  obtain ⟨z,hz⟩:=getElem?_lt (hL y (List.mem_cons_self ..))
  unfold pick at h
  rw [List.filterMap_cons,hz] at h
  cases k with
  | zero=>injection h with h;subst h;exact ⟨y,rfl,hz⟩
  | succ k=>exact qT (L:=L) k x (λ w hw=>hL w (List.mem_cons_of_mem _ hw)) h
theorem ji {α:Type} {n:Nat} {E:List Value→α→Prop} {css:List (Cs n)} {l:List α} (h:Uf n E css l) {L:List Int} (hL:∀ x∈L,x.toNat < l.length):Uf n E (pick css L) (pick l L):=by
 have hL':∀ x∈L,x.toNat < css.length:=λ x hx=>by rw [h.1];exact hL x hx
 refine ⟨by rw [qv hL,qv hL'],λ k x cs hx hcs=>?_⟩
 obtain ⟨i,h1,h2⟩:=qT k x hL hx
 obtain ⟨j,h3,h4⟩:=qT k cs hL' hcs
 rw [h1] at h3
 injection h3 with h3
 subst h3
 exact h.2 _ _ _ h2 h4
def J4:YF:=⟨ByteArray.empty,[],ByteArray.empty⟩
def VK (d:YF):YF:=if (Yl d).2.2=0 then ⟨d.name,pick d.msgs (WD d.msgs (Yz d)),d.start⟩ else J4
theorem ju {w:World} {QP:List PanicEntry→World→Prop} {k:Value→World→Prop} {base b:Nat} {v:Value} {css:List (Cs 2)} {cs:Cs 2} (hown:Z5 w base TM 2 Subtype.val v css) (h1:∀ u∈cs.1,u.oneCell'=true) (hc:ZS w b 0 cs.1) (hb:base≤w.heap.size) (hl:css.length≤1000)
 (hk:∀ v' w',Z5 w' base TM 2 Subtype.val v' (css++[cs])→w.grownBy w' v.ownBlock→k v' w') :
 opV Pg (Builtin.append_ #[26,26] 26 #[v,.slice (some ⟨b,0,none⟩) 1 1]) QP w k:=by
 refine X7 (l':=[cs]) Tryz.underlying26 Uh rfl (by decide) (λ x=>x.2) (λ x hx u hu=>?_) hown (λ j x hx=>?_) hb (Nat.le_trans (Nat.mul_le_mul (show css.length+[cs].length≤1001 by simp;omega) ZcU) (by decide)) (by simp;omega) hk
 · simp only [List.mem_singleton] at hx
   subst hx
   exact h1 u hu
 · cases j with
   | zero=>injection hx with hx;subst hx;rw [Nat.zero_mul,Nat.zero_add];exact hc
   | succ j=>cases hx
theorem Md (w0:World) (v:Value) (d:YF) (hd:Yv w0 v d) (ht:UN d) (htm:Ra d):Ret Pg 26 #[v] w0 λ r w'=>(∃ u,r = .tuple #[u,.int .i64 (jN d)]∧Hx w' w0.heap.size w'.heap.size u (VK d))∧Ext w0 w':=by
 obtain ⟨mv,rfl,hM⟩:=hd
 have hm1:=Ze.oneCell hM
 refine Zdu (R:=ZQ _) ?_;unfold n98
 simp (disch:=try exact DI) only [↓PR,QR,simprocAttr]
 simp only [World.size_alloc]
 generalize hV:World.alloc (World.alloc w0 _) _=V
 have eV:Ext w0 V:=by rw [← hV];exact ee
 have o1:V.heap[w0.heap.size]?=some (.cells (Zz d mv).toArray 28 (0,0)):=by rw [← hV];simp (disch:=try exact DI) only [↓PR,QR,simprocAttr]
 have o2:V.heap[w0.heap.size+1]?=some (.cells #[.string ByteArray.empty,.slice none 0 0,.string ByteArray.empty] 28 (0,0)):=by rw [← hV];simp (disch:=try exact DI) only [↓PR,QR,simprocAttr]
 have sV:V.heap.size=w0.heap.size+1+1:=by rw [← hV];simp only [World.size_alloc]
 clear hV
 have hD:∀ w,Ext V w→Yv w (.agg (Zz d mv).toArray) d:=λ w e=>⟨_,rfl,hM.ext (eV.trans e)⟩
 refine Zt (Bz _ _ d (hD _ (Ext.refl _)) ht) ?_
 rintro _ w1 ⟨⟨u1,rfl,hU1⟩,e1⟩
 have hu1:=Ze.oneCell hU1.ints
 have x2:=e1.obj o2
 unfold R7
 by_cases hc:(Yl d).2.2=0
 case neg =>
  rw [show jN d=2 from if_neg hc,show VK d=J4 from if_neg hc]
  simp (disch:=try exact DI) only [↓PR,QR,simprocAttr,(Za x2).1,(Za x2).2]
  have y0:∀ (w:World) (o:Nat) (u:Value),Ext w0 w→Ext w0 (w.setCell ⟨w0.heap.size+1,o,none⟩ u):=λ w o u e=>e.setCell (p:=⟨w0.heap.size+1,o,none⟩) (by show w0.heap.size≤w0.heap.size+1;omega) _
  exact ⟨⟨_,rfl,_,rfl,[],⟨Z5.nil _ _ _ _ _,λ b h=>by cases h⟩,rfl,λ k x cs h=>by cases h⟩,y0 _ _ _ (y0 _ _ _ (y0 _ _ _ (eV.trans e1)))⟩
 rw [show jN d=0 from if_pos hc]
 rw [show V4 d true=_ from if_pos hc,show Wz d.msgs.length (λ i=>Xp d.msgs (Yz d) i == true)=WD d.msgs (Yz d) from Bk λ i _=>by cases Xp d.msgs (Yz d) i<;>rfl] at hU1
 rw [show VK d=_ from if_pos hc]
 simp (disch:=try exact DI) only [↓PR,QR,simprocAttr,(Za (e1.obj o1)).1]
 refine Zt (Ez _ _ d (hD _ e1) htm) ?_
 rintro _ w2 ⟨⟨mc,rfl,hN⟩,e2⟩
 have hmc:=Ze.oneCell hN.plain
 have f2:=e1.trans e2
 have hc1:∀ O o,(w2.alloc O).cell? ⟨w0.heap.size,o,none⟩=(Zz d mv).toArray[o]?:=λ O o=>(Za ((Ext.alloc (Ext.refl w2) O).obj (f2.obj o1))).1 o
 unfold RH
 simp (disch:=try exact DI) only [↓PR,QR,simprocAttr,(Za (f2.obj o1)).1,hc1]
 simp only [World.size_alloc,World.size_setCell]
 generalize hW:World.alloc (World.alloc w2 _) _=W
 have eW:Ext w2 W:=by rw [← hW];exact ee
 have o6:W.heap[w2.heap.size]?=some (.cells #[.string d.name,mc,.string d.start] 28 (0,0)):=by rw [← hW];simp (disch:=try exact DI) only [↓PR,QR,simprocAttr]
 have o7:W.heap[w2.heap.size+1]?=some (.cells #[.string d.name,.slice none 0 0,.string d.start] 28 (0,0)):=by rw [← hW];simp (disch:=try exact DI) only [↓PR,QR,simprocAttr]
 have sW:W.heap.size=w2.heap.size+1+1:=by rw [← hW];simp only [World.size_alloc]
 clear hW
 obtain ⟨css,hO,hmt⟩:=hN
 have hlen:1≤d.msgs.length:=(Xh hc).2.1.1
 have hl60:=(Xh hc).2.1.2
 obtain ⟨gM,capM,rfl,hgM,hgMl,hTM,hfM,hElM⟩:=hO.1.row (λ x=>x.2) (by rw [hmt.1];omega)
 have hLb:∀ x∈WD d.msgs (Yz d),∃ i:Nat,x=i∧i < d.msgs.length:=λ x hx=>by
  obtain ⟨i,h1,_,h3⟩:=WR.1 hx
  exact ⟨i,h3,h1⟩
 have hLl:(WD d.msgs (Yz d)).length≤d.msgs.length:=UF _ _
 generalize WD d.msgs (Yz d)=L at hU1 hLb hLl ⊢
 generalize hp6:w2.heap.size=p6 at o6 o7 sW ⊢
 have hU2:=Yy.ints (hU1.ext e2)
 obtain ⟨A5,c5,rfl,hl5,_,_,hel5⟩:=Ze.open hU2
 simp (disch:=try exact DI) only [↓PR,QR,simprocAttr]
 refine ZA (λ a w=>∃ (k:Nat) (v:Value),a = .int .i64 k∧k≤L.length∧Ext w2 w∧w.heap[p6]?=some (.cells #[.string d.name,.slice (some ⟨gM,0,none⟩) d.msgs.length capM,.string d.start] 28 (0,0))∧w.heap[p6+1]?=some (.cells #[.string d.name,v,.string d.start] 28 (0,0))∧Z5 w (p6+1+1) TM 2 Subtype.val v (pick css (L.take k))∧p6+1+1≤w.heap.size) (λ a _=>L.length - (intOf a).toNat) ⟨0,_,rfl,by omega,eW,by rw [← hmt.1];exact o6,o7,Z5.nil _ _ _ _ _,by omega⟩ ?_
 rintro _ w ⟨k,v,rfl,hk,e,y6,y7,hOv,hsz⟩
 have hv1:v.oneCell'=true:=Ze.oneCell (hOv.slice (E:=λ _ cs x=>cs=x.1) (λ x=>x.2) (λ _ _=>rfl))
 have hwk:IntKind.i64.wrap ((k:Int)+1)=(k:Int)+1:=Yk (by omega) (by omega)
 rcases ZB hk with ⟨x,hx,_,hlt,hdec⟩ | ⟨hke,_,hdec⟩
 · obtain ⟨i,rfl,hil⟩:=hLb x (List.mem_of_getElem? hx)
   obtain ⟨b5,o5,cs5,rfl,_,hA5,rfl⟩:=hel5 _ _ hx
   obtain ⟨ck,hck⟩:=getElem?_lt (l:=css) (k:=i) (by rw [hmt.1];exact hil)
   obtain ⟨m,hm⟩:=getElem?_lt hil
   obtain ⟨fv,he,hFN⟩:=hmt.2 i m ck hm hck
   have hfv:=Ze.oneCell hFN.plain
   have hEk:=hElM i ck hck
   rw [he] at hEk
   simp (disch:=try exact DI) only [↓PR,QR,simprocAttr,hdec,↓RX,hA5.c1 e]
   obtain ⟨g,hgd⟩:∃ g,g=v.ownBlock.getD w.heap.size:=⟨_,rfl⟩
   have hgB:p6+1+1≤g:=by
    rw [hgd]
    cases hv:v.ownBlock with
    | none=>exact hsz
    | some b=>exact (hOv.lt b hv).1
   have n6:p6≠g:=by omega
   have n7:p6+1≠g:=by omega
   have nM:gM≠g:=by omega
   have hck2:=hEk.c2 e
   have hq:∀ K:Value→Prop,qV Pg (KB w g g) (Instr.loadAt TM (.pointer (some ⟨gM,i*2,none⟩))) K=K (.agg (Zx m fv).toArray):=λ K=>UI λ w' hw=>XX λ QP k=>V1 (ZS.loads (w:=w') (b:=gM) (o:=i*2) (cs:=Zx m fv) (λ j u hu=>KB.cell hw nM nM ((hEk.ext e) j u hu)) Uh rfl)
   refine Ve (w1:=w) g g (λ _ _ _ _=>rfl) ?_
   unfold RM
   simp (disch:=try exact DI) only [↓PR,QR,simprocAttr,(Za y7).1,(Za y6).1,↓hq]
   generalize hA':World.alloc (World.drew w) _=Z
   have eZ:Ext w Z:=by rw [← hA'];exact ee
   have oZ:Z.heap[w.heap.size]?=some (.cells (Zx m fv).toArray TM (0,0)):=by
    rw [← hA']
    have:=ZE w.drew (Zx m fv).toArray TM
    rw [World.size_drew] at this
    exact this
   clear hA'
   refine ⟨λ b hb _ _=>eZ.block b hb,?_⟩
   have s0:=eZ.size
   have hpl:(pick css (L.take k)).length≤1000:=Nat.le_trans (List.length_filterMap_le _ _) (by rw [List.length_take];omega)
   refine ju (cs:=ck) (hOv.ext eZ) (λ u hu=>?_) ?_ (by omega) hpl ?_
   · rw [he] at hu
     simp only [Zx,List.mem_cons,List.not_mem_nil,or_false] at hu
     rcases hu with rfl | rfl
     · rfl
     · exact hfv
   · rw [he]
     exact λ j u hu=>by rw [Nat.zero_add,(Za oZ).1];simpa using hu
   intro v' w' hO' hg'
   have hown:∀ b,v.ownBlock=some b→p6+1+1≤b:=λ b hb=>(hOv.lt b hb).1
   refine ⟨λ b hb hbg _=>(hg'.block b (by omega) λ h=>hbg (by rw [hgd,← h];rfl)).trans (eZ.block b hb),?_⟩
   have z7:w'.heap[p6+1]?=_:=(hg'.block (p6+1) (by omega) λ h=>by have:=hown _ h.symm;omega).trans (eZ.obj y7)
   have z6:w'.heap[p6]?=_:=(hg'.block p6 (by omega) λ h=>by have:=hown _ h.symm;omega).trans (eZ.obj y6)
   have e':Ext w2 w':=(e.trans eZ).grown hg' λ b hb=>by have:=hown b hb;omega
   have s':=hg'.size
   have hv'1:v'.oneCell'=true:=Ze.oneCell (hO'.slice (E:=λ _ cs x=>cs=x.1) (λ x=>x.2) (λ _ _=>rfl))
   unfold Te
   simp (disch:=try exact DI) only [↓PR,QR,simprocAttr,(Za z7).1,(Za z7).2]
   refine YZ ?_
   have ho:=Yu.setCell w' (p6+1) 1 v'
   have u7:(w'.setCell ⟨p6+1,1,none⟩ v').heap[p6+1]?=some (.cells #[.string d.name,v',.string d.start] 28 (0,0)):=by simpa using Z2 (o:=1) z7 v'
   simp (disch:=try exact DI) only [↓PR,QR,simprocAttr,hwk]
   refine ⟨⟨k+1,v',rfl,by omega,e'.setCell (p:=⟨p6+1,1,none⟩) (by show w2.heap.size≤p6+1;omega) _,z6,u7,?_,by omega⟩,ZF (kd := .i64) hlt⟩
   rw [ZU hx,AQ hck]
   exact (WI.only (Z5.range hO') ho (.inr (.inl (by omega)))).1
 · subst hke
   rw [List.take_length] at hOv
   have x2':=(e2.trans e).obj x2
   have s1:=e1.size
   have s2:=e2.size
   have hMN:Q4 w w1.heap.size w.heap.size v (pick d.msgs L):=by
    refine ⟨pick css L,⟨hOv.base (by omega),λ b hb=>(hOv.lt b hb).2⟩,(ji hmt λ x hx=>?_).imp λ cs m h=>(h.ext e).mono (Nat.le_refl _) (by omega)⟩
    obtain ⟨i,rfl,hi⟩:=hLb x hx
    simpa using hi
   simp (disch:=try exact DI) only [↓PR,QR,simprocAttr,hdec,↓S9,(Za y7).1,(Za x2').1,(Za x2').2]
   have st:∀ (w':World) (o:Nat) (u:Value),(Ext w0 w'∧Q4 w' w1.heap.size w.heap.size v (pick d.msgs L))→(Ext w0 (w'.setCell ⟨w0.heap.size+1,o,none⟩ u)∧Q4 (w'.setCell ⟨w0.heap.size+1,o,none⟩ u) w1.heap.size w.heap.size v (pick d.msgs L)):=λ w' o u ⟨a,b⟩ =>
    ⟨a.setCell (p:=⟨w0.heap.size+1,o,none⟩) (by show w0.heap.size≤w0.heap.size+1;omega) _,b.only (Yu.setCell w' (w0.heap.size+1) o u) (.inr (.inl (by omega)))⟩
   obtain ⟨E3,N3⟩:=st _ 2 (.string d.start) (st _ 1 v (st _ 0 (.string d.name) ⟨eV.trans (f2.trans e),hMN⟩))
   exact ⟨⟨_,rfl,v,rfl,N3.mono (by omega) (Nat.le_refl _)⟩,E3⟩
def ZaY (t28 t31:Value) (R:RT) (w:World):Prop :=
 Zu t28 t31 (.bool false) λ t32 =>
 Zq (λ (t34:Value) (w:World) =>
 Zu t32 t34 (.bool false) λ t35 =>
 R (.returned t35) w) λ K2 =>
 Zl t32 true (
 C0 11 #[] R w λ t34 w =>
 K2 t34 w) (
 K2 undef w)
def Zcs (t22 t28:Value) (R:RT) (w:World):Prop :=
 Zq (λ (t31:Value) (w:World) =>
 ZaY t28 t31 R w) λ K1 =>
 Zl t28 true (
 B0 .eql 31 true t22 (.int .i64 2) R w λ t31 w =>
 K1 t31 w) (
 K1 undef w)
def ZaP (t5 t7 t60:Value) (C4:World→Prop) (next3:KV) (R:RT) (w:World):Prop :=
 qV Pg C4 (Instr.fieldAt 28 t5 1) λ t61 =>
 opU Pg (Instr.storeAt 26 t61 t60) (Zd R) w λ w =>
 VS w λ C5 w =>
 B0 .add 3 true t7 (.int .i64 1) R w λ t48 w =>
 next3 t48 w
def ZcB (t1 t5 t7 t42:Value) (C4:World→Prop) (next3:KV) (R:RT) (w:World):Prop :=
 qV Pg C4 (Instr.fieldAt 28 t5 1) λ t49 =>
 qV Pg C4 (Instr.loadAt 26 t49) λ t50 =>
 qV Pg C4 (Instr.fieldAt 28 t1 1) λ t51 =>
 qV Pg C4 (Instr.loadAt 26 t51) λ t52 =>
 qV Pg C4 (Instr.indexAt 30 t42 t7) λ t55 =>
 qV Pg C4 (Instr.loadAt 3 t55) λ t56 =>
 qV Pg C4 (Instr.indexAt 26 t52 t56) λ t57 =>
 qV Pg C4 (Instr.loadAt 24 t57) λ t58 =>
 opV Pg (Instr.buildSlice 26 1 #[(0,t58)]) (Zd R) w λ t59 w =>
 C4 w∧(
 opV Pg (Builtin.append_ #[26,26] 26 #[t50,t59]) (Zd R) w λ t60 w =>
 C4 w∧(
 ZaP t5 t7 t60 C4 next3 R w))
def Rc (t3 t9 t10:Value) (next8:KV) (R:RT) (w:World):Prop :=
 F0 28 t3 1 R w λ t125 w =>
 L0 26 t125 R w λ t126 w =>
 X0 26 t126 t9 R w λ t128 w =>
 F0 24 t128 1 R w λ t129 w =>
 L0 22 t129 R w λ t130 w =>
 X0 22 t130 t10 R w λ t132 w =>
 F0 48 t132 0 R w λ t133 w =>
 opU Pg (Instr.storeAt 9 t133 (.string { data := #[] })) (Zd R) w λ w =>
 B0 .add 3 true t10 (.int .i64 1) R w λ t89 w =>
 next8 t89 w
def ZaQ (t11 t13:Value) (next10:KV) (R:RT) (w:World):Prop :=
 F0 48 t11 7 R w λ t119 w =>
 F0 45 t119 1 R w λ t120 w =>
 L0 43 t120 R w λ t121 w =>
 X0 43 t121 t13 R w λ t123 w =>
 F0 62 t123 1 R w λ t124 w =>
 opU Pg (Instr.storeAt 3 t124 (.int .i64 0)) (Zd R) w λ w =>
 B0 .add 3 true t13 (.int .i64 1) R w λ t118 w =>
 next10 t118 w
def Zan (t3 t9 t10 t11 t13:Value) (next10:KV) (next8:KV) (R:RT) (w:World):Prop :=
 F0 48 t11 7 R w λ t112 w =>
 F0 45 t112 1 R w λ t113 w =>
 L0 43 t113 R w λ t114 w =>
 opV Pg (Builtin.len_ #[43] 3 #[t114]) (Zd R) w λ t115 w =>
 B0 .lss 3 false t13 t115 R w λ t116 w =>
 Zr t116 (
 ZaQ t11 t13 next10 R w) (
 Rc t3 t9 t10 next8 R w)
def Zcy (t11 t12:Value) (next9:KV) (R:RT) (w:World):Prop :=
 F0 48 t11 11 R w λ t106 w =>
 L0 46 t106 R w λ t107 w =>
 X0 46 t107 t12 R w λ t109 w =>
 F0 60 t109 0 R w λ t110 w =>
 opU Pg (Instr.storeAt 3 t110 (.int .i64 (-1))) (Zd R) w λ w =>
 B0 .add 3 true t12 (.int .i64 1) R w λ t105 w =>
 next9 t105 w
def T8 (t3 t9 t10 t11 t12:Value) (next8:KV) (next9:KV) (R:RT) (w:World):Prop :=
 F0 48 t11 11 R w λ t100 w =>
 L0 46 t100 R w λ t101 w =>
 opV Pg (Builtin.len_ #[46] 3 #[t101]) (Zd R) w λ t102 w =>
 B0 .lss 3 false t12 t102 R w λ t103 w =>
 Zr t103 (
 Zcy t11 t12 next9 R w) (
 Yi (λ t13 w next10 =>
 Zan t3 t9 t10 t11 t13 next10 next8 R w) (.int .i64 0) w)
def S8 (t3 t9 t10:Value) (next8:KV) (R:RT) (w:World):Prop :=
 F0 28 t3 1 R w λ t90 w =>
 L0 26 t90 R w λ t91 w =>
 X0 26 t91 t9 R w λ t93 w =>
 F0 24 t93 1 R w λ t94 w =>
 L0 22 t94 R w λ t95 w =>
 X0 22 t95 t10 R w λ t97 w =>
 L0 48 t97 R w λ t98 w =>
 opV Pg (Instr.alloc 48 true (.tuple #[])) (Zd R) w λ t11 w =>
 opU Pg (Instr.storeAt 48 t11 t98) (Zd R) w λ w =>
 Yi (λ t12 w next9 =>
 T8 t3 t9 t10 t11 t12 next8 next9 R w) (.int .i64 0) w
def OB (t3 t9 t10:Value) (next7:KV) (next8:KV) (R:RT) (w:World):Prop :=
 F0 28 t3 1 R w λ t80 w =>
 L0 26 t80 R w λ t81 w =>
 X0 26 t81 t9 R w λ t83 w =>
 F0 24 t83 1 R w λ t84 w =>
 L0 22 t84 R w λ t85 w =>
 opV Pg (Builtin.len_ #[22] 3 #[t85]) (Zd R) w λ t86 w =>
 B0 .lss 3 false t10 t86 R w λ t87 w =>
 Zr t87 (
 S8 t3 t9 t10 next8 R w) (
 B0 .add 3 true t9 (.int .i64 1) R w λ t78 w =>
 next7 t78 w)
def Th (t136:Value) (R:RT) (w:World):Prop :=
 Zq (λ (t138:Value) (w:World) =>
 Zu t136 t138 (.bool false) λ t139 =>
 R (.returned t139) w) λ K11 =>
 Zl t136 true (
 C0 11 #[] R w λ t138 w =>
 K11 t138 w) (
 K11 undef w)
def MW (t1 t8:Value) (R:RT) (w:World):Prop :=
 L0 28 t8 R w λ t134 w =>
 L0 28 t1 R w λ t135 w =>
 C0 27 #[t134,t135] R w λ t136 w =>
 Th t136 R w
def OD (t1 t3 t8 t9:Value) (next7:KV) (R:RT) (w:World):Prop :=
 F0 28 t3 1 R w λ t73 w =>
 L0 26 t73 R w λ t74 w =>
 opV Pg (Builtin.len_ #[26] 3 #[t74]) (Zd R) w λ t75 w =>
 B0 .lss 3 false t9 t75 R w λ t76 w =>
 Zr t76 (
 Yi (λ t10 w next8 =>
 OB t3 t9 t10 next7 next8 R w) (.int .i64 0) w) (
 MW t1 t8 R w)
def Tp (t1 t3 t71:Value) (R:RT) (w:World):Prop :=
 opV Pg (Instr.alloc 28 true (.tuple #[])) (Zd R) w λ t8 w =>
 opU Pg (Instr.storeAt 28 t8 t71) (Zd R) w λ w =>
 Yi (λ t9 w next7 =>
 OD t1 t3 t8 t9 next7 R w) (.int .i64 0) w
def Ss (t1 t3 t63 t68:Value) (R:RT) (w:World):Prop :=
 Zu t63 (.bool true) t68 λ t69 =>
 Zr t69 (
 R (.returned (.bool false)) w) (
 L0 28 t1 R w λ t70 w =>
 C0 28 #[t70] R w λ t71 w =>
 Tp t1 t3 t71 R w)
def OQ (t1 t3 t5 t22:Value) (R:RT) (w:World):Prop :=
 B0 .neq 31 true t22 (.int .i64 0) R w λ t63 w =>
 Zq (λ (t68:Value) (w:World) =>
 Ss t1 t3 t63 t68 R w) λ K6 =>
 Zl t63 false (
 L0 28 t3 R w λ t65 w =>
 L0 28 t5 R w λ t66 w =>
 C0 27 #[t65,t66] R w λ t67 w =>
 opV Pg (Op.unary .not t67) (Zd R) w λ t68 w =>
 K6 t68 w) (
 K6 undef w)
def Px (t1 t3 t5 t7 t22 t42:Value) (next3:KV) (R:RT) (w:World):Prop :=
 opV Pg (Builtin.len_ #[30] 3 #[t42]) (Zd R) w λ t45 w =>
 B0 .lss 3 false t7 t45 R w λ t46 w =>
 Zr t46 (
 Yp w λ C4 w =>
 ZcB t1 t5 t7 t42 C4 next3 R w) (
 OQ t1 t3 t5 t22 R w)
def Sx (t3 t22:Value) (R:RT) (w:World):Prop :=
 L0 28 t3 R w λ t26 w =>
 opV Pg (Instr.build 28 #[]) (Zd R) w λ t27 w =>
 C0 27 #[t26,t27] R w λ t28 w =>
 Zcs t22 t28 R w
def Tz (t1 t3 t22:Value) (R:RT) (w:World):Prop :=
 F0 28 t1 0 R w λ t36 w =>
 L0 9 t36 R w λ t37 w =>
 F0 28 t1 2 R w λ t38 w =>
 L0 9 t38 R w λ t39 w =>
 opV Pg (Instr.build 28 #[(0,t37),(2,t39)]) (Zd R) w λ t40 w =>
 opV Pg (Instr.alloc 28 true (.tuple #[])) (Zd R) w λ t5 w =>
 opU Pg (Instr.storeAt 28 t5 t40) (Zd R) w λ w =>
 L0 28 t1 R w λ t41 w =>
 C0 23 #[t41] R w λ t42 w =>
 Yi (λ t7 w next3 =>
 Px t1 t3 t5 t7 t22 t42 next3 R w) (.int .i64 0) w
def SP (t1 t20:Value) (R:RT) (w:World):Prop :=
 opV Pg (Instr.extract t20 0) (Zd R) w λ t21 w =>
 opV Pg (Instr.extract t20 1) (Zd R) w λ t22 w =>
 opV Pg (Instr.alloc 28 true (.tuple #[])) (Zd R) w λ t3 w =>
 opU Pg (Instr.storeAt 28 t3 t21) (Zd R) w λ w =>
 L0 28 t1 R w λ t23 w =>
 C0 22 #[t23] R w λ t24 w =>
 opV Pg (Op.unary .not t24) (Zd R) w λ t25 w =>
 Zr t25 (
 Sx t3 t22 R w) (
 Tz t1 t3 t22 R w)
def Sa (t1 t15:Value) (R:RT) (w:World):Prop :=
 opV Pg (Op.unary .not t15) (Zd R) w λ t16 w =>
 Zr t16 (
 C0 11 #[] R w λ t17 w =>
 R (.returned t17) w) (
 L0 28 t1 R w λ t19 w =>
 C0 26 #[t19] R w λ t20 w =>
 SP t1 t20 R w)
def n4 (t0:Value) (R:RT) (w:World):Prop :=
 opV Pg (Instr.box 28 t0) (Zd R) w λ t1 w =>
 L0 28 t1 R w λ t14 w =>
 C0 10 #[t14] R w λ t15 w =>
 Sa t1 t15 R w
set_option maxHeartbeats 40000000 in
theorem n4s {t0:Value} {R:RT} {w:World} (h:n4 t0 R w):Calls Pg 7 #[t0] w R:=by
 refine yD Tryz.func7 ?_
 refine zs<|zr<|yv h λ _ w h=>zm<|zn<|zk<|zs<|zs<|zr<|yv h λ _ w h=>yc h c10 λ _ w h=>yv h λ _ w h=>zn<|zk<|yC h (λ h=>zs<|zr<|yc h c11 λ _ w h=>zm<|zn<|zk<|Zk<|Zb<|Zi rfl rfl h) λ h=>?_
 refine Zh<|zk<|zs<|zr<|yv h λ _ w h=>yc h c26 λ _ w h=>zm<|yv h λ _ w h=>yv h λ _ w h=>yv h λ _ w h=>yu h λ w h=>zm<|zn<|zk<|zs ?_
 refine zs<|zr<|yv h λ _ w h=>yc h c22 λ _ w h=>yv h λ _ w h=>zn<|zk<|yC h (λ h=>?_) λ h=>?_
 · refine zs<|Zs<|yG 4<|yv h λ _ w h=>yB h λ _ w h=>yc h c27 λ _ w h=>zm<|zn<|yg1 2 3 true [30,31] 31 h (λ _ T hT h=>?_) λ σ w h=>?_
   · refine zm<|yb h λ _ w h=>zn ?_
     exact zt hT h
   refine yG 2<|yp h λ _ h=>zm<|zn<|yg1 1 7 true [34] 34 h (λ _ T hT h=>?_) λ σ w h=>?_
   · refine yc h c11 λ _ w h=>zn ?_
     exact zt hT h
   exact yG 2<|yp h λ _ h=>zm<|zn<|ZG<|zk<|Zk<|Zb<|Zi rfl rfl h
 refine Zh<|zk<|zs<|zr<|yv h λ _ w h=>yv h λ _ w h=>yv h λ _ w h=>yv h λ _ w h=>yB h λ _ w h=>yv h λ _ w h=>yu h λ w h=>zn<|zk<|zs<|zr ?_
 refine yv h λ _ w h=>yc h c23 λ _ w h=>zm<|zn<|zk<|zs<|zs<|zr<|zm<|zn<|zk<|Zj<|yl1 [7,43,44,45,46,47,48,49,50,51,52,53,54,55,56,57,58,59,60,61] 7 h λ σ w next h=>zs<|zs ?_
 refine zr<|zm<|zm<|yx h λ _ w h=>yb h λ _ w h=>zn<|zk<|yC h (λ h=>?_) λ h=>?_
 · refine Zh<|zk<|zs<|Zj<|yh [49,50,51,52,53,54,55,56,57,58,59,60,61] h λ C hC h=>ye 0 hC h λ _ h=>?_
   refine ye 1 hC h λ _ h=>?_
   refine ye 2 hC h λ _ h=>?_
   refine ye 3 hC h λ _ h=>?_
   refine yw 4 hC ?_
   refine yw 5 hC ?_
   refine ye 6 hC h λ _ h=>?_
   refine ye 7 hC h λ _ h=>?_
   refine ye 8 hC h λ _ h=>?_
   refine ye 9 hC h λ _ h=>?_
   refine yo 10 ?_
   refine yS h λ _ w h=>zn ?_
   obtain ⟨hC,h⟩:=h
   refine ⟨hC,?_⟩
   refine yo 11 ?_
   refine yx h λ _ w h=>zn ?_
   obtain ⟨hC,h⟩:=h
   refine ⟨hC,?_⟩
   refine ye 12 hC h λ _ h=>?_
   refine yq 13 1 ?_
   refine yu h λ w h=>zn ?_
   obtain ⟨C5,hC,h⟩:=h
   refine ⟨C5,hC,?_⟩
   exact yz<|Zg<|zk<|zr<|zm<|yb h λ _ w h=>zm<|zn<|zk<|⟨rfl,h⟩
 refine Zy<|Zc<|Zc<|Zn<|zk<|zs<|zs<|Zs<|yG 3<|zm<|yb h λ _ w h=>zm<|zn<|yg1 4 2 false [65,66,67,68] 68 h (λ _ T hT h=>?_) λ σ w h=>?_
 · refine yv h λ _ w h=>yv h λ _ w h=>yc h c27 λ _ w h=>yv h λ _ w h=>zn ?_
   exact zt hT h
 refine yG 1<|yp h λ _ h=>zn<|ZG<|zk<|yC h (λ h=>zs<|zr<|zm<|zn<|zk<|Zk<|Zb<|Zi rfl rfl h) λ h=>Zh<|zk<|zs<|zr<|yv h λ _ w h=>yc h c28 λ _ w h=>yv h λ _ w h=>yu h λ w h=>?_
 refine zn<|zk<|zs<|zs<|zr<|zm<|zn<|zk<|Zj<|yl1 [9,10,11,12,13,72,73,74,75,76,77,78,79,80,81,82,83,84,85,86,87,88,89,90,91,92,93,94,95,96,97,98,99,100,101,102,103,104,105,106,107,108,109,110,111,112,113,114,115,116,117,118,119,120,121,122,123,124,125,126,127,128,129,130,131,132,133] 9 h λ σ w next h=>zs<|zs<|zr<|zm<|yv h λ _ w h=>?_
 refine yv h λ _ w h=>yx h λ _ w h=>yb h λ _ w h=>zn<|zk<|yC h (λ h=>?_) λ h=>?_
 · refine Zh<|zk<|zs<|Zj<|zs<|zr<|zm<|zn<|zk<|Zj<|yl1 [10,11,12,13,79,80,81,82,83,84,85,86,87,88,89,90,91,92,93,94,95,96,97,98,99,100,101,102,103,104,105,106,107,108,109,110,111,112,113,114,115,116,117,118,119,120,121,122,123,124,125,126,127,128,129,130,131,132,133] 10 h λ σ w next h=>zs<|zs<|zr<|zm ?_
   refine yv h λ _ w h=>yv h λ _ w h=>zm<|yv h λ _ w h=>yv h λ _ w h=>yv h λ _ w h=>yx h λ _ w h=>yb h λ _ w h=>zn<|zk<|yC h (λ h=>?_) λ h=>?_
   · refine Zh<|zk<|zs<|Zj<|zs<|zr<|yv h λ _ w h=>yv h λ _ w h=>zm<|yv h λ _ w h=>yv h λ _ w h=>yv h λ _ w h=>zm<|yv h λ _ w h=>yv h λ _ w h=>?_
     refine yv h λ _ w h=>yu h λ w h=>zn<|zk<|zs<|zs<|zr<|zm<|zn<|zk<|Zj<|yl1 [12,99,100,101,102,103,104,105,106,107,108,109,110] 12 h λ σ w next h=>zs<|zs<|zr ?_
     refine zm<|yv h λ _ w h=>yv h λ _ w h=>yx h λ _ w h=>yb h λ _ w h=>zn<|zk<|yC h (λ h=>?_) λ h=>?_
     · refine Zh<|zk<|zs<|Zj<|zr<|yv h λ _ w h=>yv h λ _ w h=>zm<|yv h λ _ w h=>yv h λ _ w h=>yu h λ w h=>zn<|Zg<|zk<|zr ?_
       exact zm<|yb h λ _ w h=>zm<|zn<|zk<|⟨rfl,h⟩
     refine Zy<|Zc<|Zc<|Zn<|zk<|zs<|zs<|zr<|zm<|zn<|zk<|Zj<|yl1 [13,111,112,113,114,115,116,117,118,119,120,121,122,123,124] 13 h λ σ w next h=>zs<|zs ?_
     refine zr<|zm<|yv h λ _ w h=>yv h λ _ w h=>yv h λ _ w h=>yx h λ _ w h=>yb h λ _ w h=>zn<|zk<|yC h (λ h=>?_) λ h=>?_
     · refine Zh<|zk<|zs<|Zj<|zr<|yv h λ _ w h=>yv h λ _ w h=>yv h λ _ w h=>zm<|yv h λ _ w h=>yv h λ _ w h=>yu h λ w h=>zn<|Zg<|zk ?_
       exact zr<|zm<|yb h λ _ w h=>zm<|zn<|zk<|⟨rfl,h⟩
     refine Zy<|Zc<|Zc<|Zn<|zk<|zr<|yv h λ _ w h=>yv h λ _ w h=>zm<|yv h λ _ w h=>yv h λ _ w h=>yv h λ _ w h=>zm<|yv h λ _ w h=>yv h λ _ w h=>?_
     exact yu h λ w h=>zn<|Zg<|zk<|zr<|zm<|yb h λ _ w h=>zm<|zn<|zk<|⟨rfl,h⟩
   exact Zy<|Zc<|Zc<|Zn<|Zg<|zk<|zr<|zm<|yb h λ _ w h=>zm<|zn<|zk<|⟨rfl,h⟩
 refine Zy<|Zc<|Zc<|Zn<|zk<|zs<|Zs<|yG 4<|yv h λ _ w h=>yv h λ _ w h=>yc h c27 λ _ w h=>zm<|zn<|yg1 1 3 true [138] 138 h (λ _ T hT h=>?_) λ σ w h=>?_
 · refine yc h c11 λ _ w h=>zn ?_
   exact zt hT h
 exact yG 2<|yp h λ _ h=>zm<|zn<|ZG<|zk<|Zk<|Zi rfl rfl h
theorem zB {A A':Option Addr} {n n' c c':Nat} (h:Value.slice A n c = .slice A' n' c'):n=n':=by injection h
section
variable {R:RT} {W:World} {lo hi n B p3:Nat} {mv t1 t8:Value}
structure KH (W w:World) (lo hi n B:Nat) (mv fv:Value) (g k:Nat):Prop where
 save:Qe lo hi W w
 shape:Ua w lo hi B mv n
 at_:∃ cur,w.heap[g]?=some (.cells cur TM (0,0))∧cur[k*2+1]?=some fv
theorem KH.put {w:World} {fv v:Value} {g k b o:Nat} {T:TypeId} {cur:Array Value} (h:KH W w lo hi n B mv fv g k) (hb:w.heap[b]?=some (.cells cur T (0,0))) (h1:lo≤b) (h2:b < hi) (hf:Fit T o v B):KH W (w.setCell ⟨b,o,none⟩ v) lo hi n B mv fv g k:=by
 refine ⟨h.save.setCell h1 h2 v,h.shape.put hb (Nat.le_refl _) hf,?_⟩
 obtain ⟨cm,h3,h4⟩:=h.at_
 by_cases e:g=b
 · subst e
   rw [hb] at h3
   injection h3 with h3
   injection h3 with h3 h3T
   subst h3 h3T
   have:=hf.1 rfl
   exact ⟨_,Z2 hb v,by rw [Array.getElem?_setIfInBounds_ne (by omega)];exact h4⟩
 · exact ⟨cm,(Yu.setCell w b o v g e).trans h3,h4⟩
theorem KH.go {w w':World} {fv:Value} {g k:Nat} (h:KH W w lo hi n B mv fv g k) (e:Ext w w'):KH W w' lo hi n B mv fv g k:=⟨h.save.ext e,h.shape.ext e,let ⟨c,a,b⟩:=h.at_; ⟨c,e.obj a,b⟩⟩
theorem KH.fields {w:World} {fv:Value} {g cap k:Nat} (h:KH W w lo hi n B (.slice (some ⟨g,0,none⟩) n cap) fv g k) (hk:k < n):∃ nf,nf≤400∧UE w lo hi B fv nf:=by
 rcases h.shape with ⟨h0,_⟩ | ⟨g',cap',cur,h1,_,_,h4,_,h6⟩
 · cases h0
 · injection h1 with h1 _ _
   injection h1 with h1
   injection h1 with h1
   subst h1
   obtain ⟨cm,h7,h8⟩:=h.at_
   rw [h4] at h7
   injection h7 with h7
   injection h7 with h7 _
   subst h7
   obtain ⟨fv',nf,a1,a2,a3⟩:=h6 k hk
   rw [h8] at a1
   injection a1 with a1
   subst a1
   exact ⟨nf,a2,a3⟩
theorem LR {w:World} {g cap k q:Nat} {fv tv:Value} {p11:Nat} {next8:Value→World→Prop} {cells:List Value} (hM:KH W w lo hi n B (.slice (some ⟨g,0,none⟩) n cap) fv g k) (hT:W5 w lo hi tv) (hg:lo≤g) (hgh:g < hi)
 (o11:w.heap[p11]?=some (.cells cells.toArray TF (0,0))) (h8:cells[8]?=some tv) (hp11:hi≤p11)
 (hK:∀ w',KH W w' lo hi n B (.slice (some ⟨g,0,none⟩) n cap) fv g k→Rc (.pointer (some ⟨p3,0,none⟩)) (.int .i64 (k:Int)) (.int .i64 (q:Int)) next8 R w') :
 Yi (λ t13 w next10=>Zan (.pointer (some ⟨p3,0,none⟩)) (.int .i64 (k:Int)) (.int .i64 (q:Int)) (.pointer (some ⟨p11,0,none⟩)) t13 next10 next8 R w) (.int .i64 0) w:=by
 obtain ⟨len,hlen,hlen10⟩:∃ len:Nat,(∃ A cc,tv = .slice A len cc)∧len≤10:=by
  rcases hT with rfl | ⟨gc,len,cc,cur,rfl,_,_,_,h,_⟩
  · exact ⟨0,⟨_,_,rfl⟩,by omega⟩
  · exact ⟨len,⟨_,_,rfl⟩,h⟩
 refine ZA (λ i w'=>∃ j:Nat,i = .int .i64 j∧j≤len∧KH W w' lo hi n B (.slice (some ⟨g,0,none⟩) n cap) fv g k∧W5 w' lo hi tv∧w'.heap[p11]?=some (.cells cells.toArray TF (0,0))) (λ i _=>len - (intOf i).toNat) ⟨0,rfl,by omega,hM,hT,o11⟩ ?_
 rintro _ w1 ⟨j,rfl,hj,hM1,hT1,y11⟩
 have a8:w1.cell? ⟨p11,8,none⟩=some tv:=by rw [(Za y11).1];simpa using h8
 unfold Zan
 by_cases hjl:j < len
 · rcases hT1 with rfl | ⟨gt,len',cc,cur,rfl,h1,h2,h3,h4,h5⟩
   · obtain ⟨A,cc,h⟩:=hlen
     have:=zB h
     omega
   · obtain ⟨A,cc',h⟩:=hlen
     have:=zB h
     subst this
     obtain ⟨m,hm⟩:=h5 j hjl
     have a1:w1.cell? ⟨gt,j*2+1,none⟩=some (.int .i64 m):=by rw [(Za h3).1];exact hm
     have d1:decide ((j:Int) < (len':Int))=true:=decide_eq_true (by omega)
     have hwj:IntKind.i64.wrap ((j:Int)+1)=(j:Int)+1:=Yk (by omega) (by omega)
     simp (disch:=try exact DI) only [↓PR,QR,simprocAttr,a8,d1,↓ZaQ,a1,(Za h3).2,hwj]
     have hfit:Fit TT (j*2+1) (.int .i64 0) B:=⟨λ h=>absurd h (by decide),λ h=>absurd h (by decide),λ h=>absurd h (by decide),λ _=>⟨by omega,_,rfl⟩⟩
     refine ⟨⟨j+1,rfl,by omega,hM1.put h3 h1 h2 hfit,W5.put h3 hfit (.inr ⟨gt,_,cc,cur,rfl,h1,h2,h3,h4,h5⟩),?_⟩,ZF (kd := .i64) hjl⟩
     first | exact y11 | exact (Yu.setCell w1 gt _ _ p11 (by omega)).trans y11
 · obtain ⟨A,cc,rfl⟩:=hlen
   have d1:decide ((j:Int) < (len:Int))=false:=decide_eq_false (by omega)
   simp (disch:=try exact DI) only [↓PR,QR,simprocAttr,a8,d1]
   exact hK w1 hM1
theorem Mb {w:World} {g cap k q:Nat} {fv tv cv:Value} {p11:Nat} {next8:Value→World→Prop} {cells:List Value} (hM:KH W w lo hi n B (.slice (some ⟨g,0,none⟩) n cap) fv g k) (hT:W5 w lo hi tv) (hS:Uc w lo hi B cv) (hg:lo≤g) (hgh:g < hi)
 (o11:w.heap[p11]?=some (.cells cells.toArray TF (0,0))) (h8:cells[8]?=some tv) (h12:cells[12]?=some cv) (hp11:hi≤p11)
 (hK:∀ w',KH W w' lo hi n B (.slice (some ⟨g,0,none⟩) n cap) fv g k→Rc (.pointer (some ⟨p3,0,none⟩)) (.int .i64 (k:Int)) (.int .i64 (q:Int)) next8 R w') :
 Yi (λ t12 w next9=>T8 (.pointer (some ⟨p3,0,none⟩)) (.int .i64 (k:Int)) (.int .i64 (q:Int)) (.pointer (some ⟨p11,0,none⟩)) t12 next8 next9 R w) (.int .i64 0) w:=by
 obtain ⟨len,hlen,hlen50⟩:∃ len:Nat,(∃ A cc,cv = .slice A len cc)∧len≤50:=by
  rcases hS with rfl | ⟨gc,len,cc,cur,rfl,_,_,_,h,_⟩
  · exact ⟨0,⟨_,_,rfl⟩,by omega⟩
  · exact ⟨len,⟨_,_,rfl⟩,h⟩
 refine ZA (λ i w'=>∃ j:Nat,i = .int .i64 j∧j≤len∧KH W w' lo hi n B (.slice (some ⟨g,0,none⟩) n cap) fv g k∧W5 w' lo hi tv∧Uc w' lo hi B cv∧w'.heap[p11]?=some (.cells cells.toArray TF (0,0))) (λ i _=>len - (intOf i).toNat) ⟨0,rfl,by omega,hM,hT,hS,o11⟩ ?_
 rintro _ w1 ⟨j,rfl,hj,hM1,hT1,hS1,y11⟩
 have a12:w1.cell? ⟨p11,12,none⟩=some cv:=by rw [(Za y11).1];simpa using h12
 unfold T8
 by_cases hjl:j < len
 · rcases hS1 with rfl | ⟨gc,len',cc,cur,rfl,h1,h2,h3,h4,h5⟩
   · obtain ⟨A,cc,h⟩:=hlen
     have:=zB h
     omega
   · obtain ⟨A,cc',h⟩:=hlen
     have:=zB h
     subst this
     obtain ⟨s,hs,hsz⟩:=h5 j hjl
     obtain ⟨u,hu⟩:∃ u,cur[j*3]?=some u:=⟨_,Array.getElem?_eq_getElem (by have:=(Array.getElem?_eq_some_iff.1 hs).1;omega)⟩
     have a1:w1.cell? ⟨gc,j*3,none⟩=some u:=by rw [(Za h3).1];exact hu
     have d1:decide ((j:Int) < (len':Int))=true:=decide_eq_true (by omega)
     have hwj:IntKind.i64.wrap ((j:Int)+1)=(j:Int)+1:=Yk (by omega) (by omega)
     simp (disch:=try exact DI) only [↓PR,QR,simprocAttr,a12,d1,↓Zcy,a1,(Za h3).2,hwj]
     have hfit:Fit TC (j*3) (.int .i64 (-1)) B:=⟨λ h=>absurd h (by decide),λ h=>absurd h (by decide),λ _ h=>absurd h (by omega),λ h=>absurd h (by decide)⟩
     refine ⟨⟨j+1,rfl,by omega,hM1.put h3 h1 h2 hfit,hT1.put h3 hfit,Uc.put h3 (Nat.le_refl _) hfit (.inr ⟨gc,_,cc,cur,rfl,h1,h2,h3,h4,h5⟩),?_⟩,ZF (kd := .i64) hjl⟩
     first | exact y11 | exact (Yu.setCell w1 gc _ _ p11 (by omega)).trans y11
 · obtain ⟨A,cc,rfl⟩:=hlen
   have d1:decide ((j:Int) < (len:Int))=false:=decide_eq_false (by omega)
   simp (disch:=try exact DI) only [↓PR,QR,simprocAttr,a12,d1]
   exact LR hM1 hT1 hg hgh y11 h8 hp11 hK
theorem Fe {w:World} {d:YF} {g cap k:Nat} {fv:Value} {next7:Value→World→Prop} (hM:KH W w lo hi n B (.slice (some ⟨g,0,none⟩) n cap) fv g k) (hk:k < n) (hn:n≤70) (hg:lo≤g) (hgh:g < hi)
 (o3:W.heap[p3]?=some (.cells (Zz d (.slice (some ⟨g,0,none⟩) n cap)).toArray 28 (0,0))) (h6:p3 < lo∨hi≤p3) (hhi:hi≤W.heap.size)
 (hK:∀ w',KH W w' lo hi n B (.slice (some ⟨g,0,none⟩) n cap) fv g k→next7 (.int .i64 ((k:Int)+1)) w') :
 Yi (λ t10 w next8=>OB (.pointer (some ⟨p3,0,none⟩)) (.int .i64 (k:Int)) t10 next7 next8 R w) (.int .i64 0) w:=by
 obtain ⟨nf,hnf,hG0⟩:=hM.fields hk
 have hfv:∃ A cc,fv = .slice A nf cc:=by
  rcases hG0 with ⟨h,rfl⟩ | ⟨g2,cc,cur,h,_⟩
  · exact ⟨_,_,h⟩
  · exact ⟨_,_,h⟩
 refine ZA (λ i w'=>∃ q:Nat,i = .int .i64 q∧q≤nf∧KH W w' lo hi n B (.slice (some ⟨g,0,none⟩) n cap) fv g k) (λ i _=>nf - (intOf i).toNat) ⟨0,rfl,by omega,hM⟩ ?_
 clear hG0
 rintro _ w1 ⟨q,rfl,hq,hM1⟩
 have dk:(k:Int) < (n:Int):=by omega
 have y3:=hM1.save.obj o3 h6
 have a3:w1.cell? ⟨p3,1,none⟩=some (.slice (some ⟨g,0,none⟩) n cap):=by rw [(Za y3).1];rfl
 obtain ⟨cm,hcm,hcmk⟩:=hM1.at_
 have a1:w1.cell? ⟨g,k*2+1,none⟩=some fv:=by rw [(Za hcm).1];exact hcmk
 have hfv1:fv.oneCell'=true:=by obtain ⟨A,cc,rfl⟩:=hfv;rfl
 obtain ⟨nf',hnf',hG⟩:=hM1.fields hk
 have hwk:IntKind.i64.wrap ((k:Int)+1)=(k:Int)+1:=Yk (by omega) (by omega)
 unfold OB
 by_cases hqn:q < nf
 · rcases hG with ⟨rfl,_⟩ | ⟨g2,cc,cur,rfl,h1,h2,h3,h4,h5⟩
   · obtain ⟨A,cc,h⟩:=hfv
     have:=zB h
     omega
   · obtain ⟨A,cc',h⟩:=hfv
     have:=zB h
     subst this
     have d1:decide ((q:Int) < (nf':Int))=true:=decide_eq_true (by omega)
     have hwq:IntKind.i64.wrap ((q:Int)+1)=(q:Int)+1:=Yk (by omega) (by omega)
     simp (disch:=try exact DI) only [↓PR,QR,simprocAttr,a3,a1,d1]
     unfold S8
     obtain ⟨tv,cv,b1,hT,b2,hS⟩:=h5 q hqn
     have hcell:∀ j,j < 15→∃ u,cur[q*15+j]?=some u∧u.oneCell'=true:=λ j hj=>h4 (q*15+j) (by omega)
     obtain ⟨u0,x0,z0⟩:=hcell 0 (by omega)
     obtain ⟨u1,x1,z1⟩:=hcell 1 (by omega)
     obtain ⟨u2,x2,z2⟩:=hcell 2 (by omega)
     obtain ⟨u3,x3,z3⟩:=hcell 3 (by omega)
     obtain ⟨u4,x4,z4⟩:=hcell 4 (by omega)
     obtain ⟨u5,x5,z5⟩:=hcell 5 (by omega)
     obtain ⟨u6,x6,z6⟩:=hcell 6 (by omega)
     obtain ⟨u7,x7,z7⟩:=hcell 7 (by omega)
     obtain ⟨u8,x8,z8⟩:=hcell 8 (by omega)
     obtain ⟨u9,x9,z9⟩:=hcell 9 (by omega)
     obtain ⟨u10,x10,z10⟩:=hcell 10 (by omega)
     obtain ⟨u11,x11,z11⟩:=hcell 11 (by omega)
     obtain ⟨u12,x12,z12⟩:=hcell 12 (by omega)
     obtain ⟨u13,x13,z13⟩:=hcell 13 (by omega)
     obtain ⟨u14,x14,z14⟩:=hcell 14 (by omega)
     clear hcell
     rw [b1] at x8;injection x8 with x8;subst x8
     rw [b2] at x12;injection x12 with x12;subst x12
     have hc:∀ {j u},cur[q*15+j]?=some u→w1.cell? ⟨g2,q*15+j,none⟩=some u:=λ h=>by rw [(Za h3).1];exact h
     have h0:w1.cell? ⟨g2,q*15,none⟩=some u0:=hc x0
     simp (disch:=try exact DI) only [↓PR,QR,simprocAttr,a3,a1,h0,hc x1,hc x2,hc x3,hc x4,hc x5,hc x6,hc x7,hc b1,hc x9,hc x10,hc x11,hc b2,hc x13,hc x14]
     have eD:Ext w1 (w1.alloc (Obj.cells [u0,u1,u2,u3,u4,u5,u6,u7,tv,u9,u10,u11,cv,u13,u14].toArray TF)):=ee
     have o11:=ZE w1 [u0,u1,u2,u3,u4,u5,u6,u7,tv,u9,u10,u11,cv,u13,u14].toArray TF
     have sz1:=hM1.save.size
     have hp:hi≤w1.heap.size:=by omega
     have hM2:=hM1.go eD
     have hT2:=hT.ext eD
     have hS2:=hS.ext eD
     show Yi _ _ (w1.alloc (Obj.cells [u0,u1,u2,u3,u4,u5,u6,u7,tv,u9,u10,u11,cv,u13,u14].toArray TF))
     generalize hW:(w1.alloc (Obj.cells [u0,u1,u2,u3,u4,u5,u6,u7,tv,u9,u10,u11,cv,u13,u14].toArray TF))=w2 at eD o11 hM2 hT2 hS2 ⊢
     refine Mb hM2 hT2 hS2 hg hgh o11 rfl rfl hp (λ w3 hM3=>?_)
     have y3:=hM3.save.obj o3 h6
     have a3:w3.cell? ⟨p3,1,none⟩=some (.slice (some ⟨g,0,none⟩) n cap):=by rw [(Za y3).1];rfl
     obtain ⟨cm,hcm,hcmk⟩:=hM3.at_
     have a1:w3.cell? ⟨g,k*2+1,none⟩=some (.slice (some ⟨g2,0,none⟩) nf' cc):=by rw [(Za hcm).1];exact hcmk
     obtain ⟨nf3,hnf3,hG3⟩:=hM3.fields hk
     rcases hG3 with ⟨h,_⟩ | ⟨g3,cc3,cur3,hv3,c1,c2,c3,c4,c5⟩
     · cases h
     injection hv3 with hv3 hv4 _
     injection hv3 with hv3
     injection hv3 with hv3
     subst hv3 hv4
     have dq:(q:Int) < (nf':Int):=by omega
     unfold Rc
     obtain ⟨u,hu,_⟩:=c4 (q*15) (by omega)
     have a0:w3.cell? ⟨g2,q*15,none⟩=some u:=by rw [(Za c3).1];exact hu
     simp (disch:=try exact DI) only [↓PR,QR,simprocAttr,a3,a1,a0,(Za c3).2,hwq]
     have hfit:Fit TF (q*15) (.string ⟨#[]⟩) B:=⟨λ h=>absurd h (by decide),λ _=>⟨by omega,rfl⟩,λ h=>absurd h (by decide),λ h=>absurd h (by decide)⟩
     exact ⟨⟨q+1,rfl,by omega,hM3.put c3 c1 c2 hfit⟩,ZF (kd := .i64) hqn⟩
 · obtain ⟨A,cc,rfl⟩:=hfv
   have d1:decide ((q:Int) < (nf:Int))=false:=decide_eq_false (by omega)
   simp (disch:=try exact DI) only [↓PR,QR,simprocAttr,a3,a1,d1,hwk]
   exact hK w1 hM1
theorem ND {w:World} {d:YF} {mv:Value} (hS:Ua w lo hi B mv n) (hn:n≤70)
 (o3:w.heap[p3]?=some (.cells (Zz d mv).toArray 28 (0,0))) (h6:p3 < lo∨hi≤p3) (hhi:hi≤w.heap.size)
 (hK:∀ w',Qe lo hi w w'→MW t1 t8 R w') :
 Yi (λ t9 w next7=>OD t1 (.pointer (some ⟨p3,0,none⟩)) t8 t9 next7 R w) (.int .i64 0) w:=by
 have hmv:∃ A cc,mv = .slice A n cc:=by
  rcases hS with ⟨h,rfl⟩ | ⟨g2,cc,cur,h,_⟩
  · exact ⟨_,_,h⟩
  · exact ⟨_,_,h⟩
 refine ZA (λ i w'=>∃ k:Nat,i = .int .i64 k∧k≤n∧Qe lo hi w w'∧Ua w' lo hi B mv n) (λ i _=>n - (intOf i).toNat) ⟨0,rfl,by omega,Qe.refl _ _ _,hS⟩ ?_
 clear hS
 rintro _ w1 ⟨k,rfl,hk,hs1,hS1⟩
 have y3:=hs1.obj o3 h6
 have a3:w1.cell? ⟨p3,1,none⟩=some mv:=by rw [(Za y3).1];rfl
 have hmv1:mv.oneCell'=true:=by obtain ⟨A,cc,rfl⟩:=hmv;rfl
 unfold OD
 by_cases hkn:k < n
 · rcases hS1 with ⟨rfl,rfl⟩ | ⟨g,cap,cur,rfl,h1,h2,h3,h4,h5⟩
   · omega
   have d1:decide ((k:Int) < (n:Int))=true:=decide_eq_true (by omega)
   obtain ⟨fv,nf,b1,b2,b3⟩:=h5 k hkn
   simp (disch:=try exact DI) only [↓PR,QR,simprocAttr,a3,d1]
   refine Fe (d:=d) (fv:=fv) (g:=g) (cap:=cap) ⟨hs1,.inr ⟨g,cap,cur,rfl,h1,h2,h3,h4,h5⟩,cur,h3,b1⟩ hkn hn h1 h2 o3 h6 hhi (λ w3 hM3=>?_)
   exact ⟨⟨k+1,rfl,by omega,hM3.save,hM3.shape⟩,ZF (kd := .i64) hkn⟩
 · obtain ⟨A,cc,rfl⟩:=hmv
   have d1:decide ((k:Int) < (n:Int))=false:=decide_eq_false (by omega)
   simp (disch:=try exact DI) only [↓PR,QR,simprocAttr,a3,d1]
   exact hK w1 hs1
end
theorem JQ (w0:World) (v:Value) (m:ZD) (i:Nat) (f:Zm) (hm:Xe w0 v m) (hi:m.fields[i]?=some f) (hd:Ha (m.fields.take i)) (ht:f.terms.length≤1048576):Ret Pg 150 #[v,.int .i64 (i:Int)] w0 λ r w'=>r = .int .i64 (QA (YS (m.fields.take i)) f)∧Ext w0 w':=by
 obtain ⟨fv,rfl,hF⟩:=hm
 have hF0:=hF
 refine Zf2 (R:=ZQ _) ?_;unfold n38
 simp (disch:=try exact DI) only [↓PR,QR,simprocAttr]
 have hBW:=ZS.new (w:=w0) (Zx m fv) (24)
 have eW:Ext w0 (w0.alloc (Obj.cells (List.toArray (Zx m fv)) (24))):=(Ext.refl _).alloc _
 generalize (w0.alloc (Obj.cells (List.toArray (Zx m fv)) (24)))=W at hBW eW ⊢
 obtain ⟨b,o,c,rfl,hlc,hcm,hlm,hil,hel⟩:=UT hF hi
 obtain ⟨cs,_,hA,hE⟩:=hel i f hi
 obtain ⟨tv,cv,rfl,hT,hC,ht1,hc1⟩:=hE.op
 have hT0:=hT
 obtain ⟨At,ct,rfl,hlct,hcmt,hlmt,helt⟩:=Ze.open hT
 have hcA:=hA.c15 eW
 simp (disch:=try exact DI) only [↓PR,QR,simprocAttr,hBW.c2 (Ext.refl W),hcA]
 have hBX:=ZS.new (w:=W) ([.int .i64 f.base,.slice At f.terms.length ct]) (45)
 have eX:Ext W (W.alloc (Obj.cells (List.toArray ([.int .i64 f.base,.slice At f.terms.length ct])) (45))):=(Ext.refl _).alloc _
 generalize (W.alloc (Obj.cells (List.toArray ([.int .i64 f.base,.slice At f.terms.length ct])) (45)))=X at hBX eX ⊢
 refine zcr (Kp _ _ f.base f.terms ⟨_,rfl,ZW.ext hT0 (eW.trans eX)⟩) λ w1 e1=>?_
 have E1:Ext w0 w1:=eW.trans (eX.trans e1)
 unfold Tm
 cases hs:Q3 f.base f.terms with
 | false =>
  simp (disch:=try exact DI) only [↓PR,QR,simprocAttr]
  exact ⟨by unfold QA;rw [hs];rfl,E1⟩
 | true =>
 obtain ⟨_,h4,_⟩:=V5 hs
 have hsz:QA (YS (m.fields.take i)) f=orC (QY (YS (m.fields.take i)) f.terms) (Ya (LS f.base f.terms (YS (m.fields.take i))) 9):=by unfold QA;rw [hs];rfl
 rw [hsz]
 have hnf:=Bu hd
 generalize hrp:YS (m.fields.take i)=rp at hnf ⊢
 simp (disch:=try exact DI) only [↓PR,QR,simprocAttr]
 refine Ye (λ a b w'=>∃ (k:Nat) (sv:Value),a=sv∧b = .int .i64 k∧k≤f.terms.length∧Ext w1 w'∧Z5 w' w1.heap.size 206 3 Ad sv (KA rp (f.terms.take k))∧∀ t∈f.terms.take k,(Yn rp t.field).isSome=true) (λ _ b _=>f.terms.length - (intOf b).toNat) ⟨0,_,rfl,rfl,by omega,Ext.refl _,Z5.nil _ _ _ _ _,by simp⟩ ?_
 rintro sv _ w ⟨k,_,rfl,rfl,hk,e,hO,hin⟩
 have E:=E1.trans e
 have hcX:=hBX.c2 (e1.trans e)
 have hcW:=hBW.c2 (eX.trans (e1.trans e))
 unfold Tw
 rcases ZB hk with ⟨x,hx,hdr,hlt,hdec⟩ | ⟨hk,hdr,hdec⟩
 · obtain ⟨bt,ot,cst,rfl,_,hAt,rfl⟩:=helt k x hx
   simp (disch:=try exact DI) only [↓PR,QR,simprocAttr,hdec,hcX]
   refine ZI ?_
   unfold TD
   simp (disch:=try exact DI) only [↓PR,QR,simprocAttr,hcX,hcW,hAt.c2 E]
   refine zcr (UB _ _ m x.field i ⟨_,rfl,hF0.ext ee⟩ (Nat.le_of_lt hil)) λ w2 e2=>?_
   refine ⟨e2,?_⟩
   unfold SL
   rcases hnf x.field with ⟨h1,h2⟩ | ⟨kk,g,h1,h2,h3⟩
   · rw [h1]
     simp (disch:=try exact DI) only [↓PR,QR,simprocAttr]
     exact ⟨by rw [Gd (List.mem_of_getElem? hx) h2];rfl,ee⟩
   · have hg:=GN h2
     have hkk:kk < m.fields.length:=(List.getElem?_eq_some_iff.1 hg).1
     obtain ⟨csg,_,hAg,hEg⟩:=hel kk g hg
     obtain ⟨tg,cg,rfl,hTg,hCg,htg,hcg⟩:=hEg.op
     have f2:Ext w0 w2:=E.drew.trans e2
     have hcg2:=hAg.c15 f2
     have hcW2:=hBW.c2 (eX.trans (e1.trans (e.drew.trans e2)))
     have hcX2:=hBX.c2 (e1.trans (e.drew.trans e2))
     rw [h1]
     simp (disch:=try exact DI) only [↓PR,QR,simprocAttr,show decide ((kk:Int) < 0)=false by simp,hcW2,hcg2]
     refine zcr (yK _ _ g ⟨tg,cg,rfl,hTg.ext f2,hCg.ext f2⟩) λ w3 e3=>?_
     have f3:=f2.trans e3
     have hd0:decide ((kk:Int) < 0)=false:=by simp
     cases hn:YB g with
     | false =>
      rw [hn,if_neg (by simp)] at h3
      simp (disch:=try exact DI) only [↓PR,QR,simprocAttr,hd0]
      exact ⟨by rw [Gd (List.mem_of_getElem? hx) h3];rfl,f3⟩
     | true =>
      rw [hn,if_pos rfl] at h3
      have eW3:Ext w1 w3:=e.drew.trans (e2.trans e3)
      simp (disch:=try exact DI) only [↓PR,QR,simprocAttr,hd0]
      unfold SG
      simp (disch:=try exact DI) only [↓PR,QR,simprocAttr,hBW.c2 (eX.trans (e1.trans eW3)),hAg.c15 f3]
      refine zcr (Ae _ _ g ⟨tg,cg,rfl,hTg.ext f3,hCg.ext f3⟩) λ w4 e4=>?_
      have eW4:Ext w1 w4:=eW3.trans e4
      have f4:=f3.trans e4
      unfold Sy
      simp (disch:=try exact DI) only [↓PR,QR,simprocAttr,hBX.c2 (e1.trans eW4),hAt.c2 f4]
      have hO4:=hO.ext (((((Ext.refl w).drew.trans e2).trans e3).trans e4).alloc (Obj.cells #[.string x.field,.int .i64 g.low,.int .i64 (Y5 g)] 206))
      have hlk:(KA rp (f.terms.take k)).length=k:=by unfold KA;rw [List.length_map,List.length_take];omega
      have sw:=eW4.size
      refine qL Tryz.underlying173 jc ZbE rfl (by decide) (λ _=>rfl) (x.field,g.low,Y5 g) (by simp only [Ad,List.forall_mem_cons];exact ⟨rfl,rfl,rfl,by simp⟩) hO4 (ZS.new _ _) (by simp only [World.size_alloc];omega) (by rw [hlk];omega) ?_
      intro v' w' hO' hext
      have eN:Ext w1 w':=hext w1 (eW4.alloc _) (Nat.le_refl _)
      simp (disch:=try exact DI) only [↓PR,QR,simprocAttr]
      refine ⟨⟨k+1,v',rfl,rfl,by omega,eN,?_,O7 hin hx (by rw [h3];rfl)⟩,ZF (kd := .i64) hlt⟩
      have:KA rp (f.terms.take (k+1))=KA rp (f.terms.take k)++[(x.field,g.low,Y5 g)]:=by
       unfold KA
       rw [ZU hx,List.map_append]
       simp only [List.map_cons,List.map_nil]
       rw [jS h3]
      rw [this]
      exact hO'
 · subst hk
   rw [List.take_length] at hO hin
   simp (disch:=try exact DI) only [↓PR,QR,simprocAttr,hdec,hcX]
   have hs3:zW w sv (KA rp f.terms):=hO.slice (E:=TZ) (λ _=>rfl) (λ _ _=>rfl)
   have hcon:=Om (base:=f.base) (rp:=KA rp f.terms) (rp':=rp) (ts:=f.terms) λ t ht=>jT hin ht
   refine zcr (AD _ _ sv f.base f.terms (KA rp f.terms) ⟨_,rfl,hT0.ext E⟩ hs3 (λ t ht=>by rw [jT hin ht];exact hin t ht)) λ w2 e2=>?_
   have E2:=E.trans e2
   unfold Ed
   rw [hcon.1,hcon.2.1,hcon.2.2,yL hin]
   unfold Tj
   have hL:(Yw f.base f.terms rp != 0||decide (X3 f.base f.terms rp < 0)||decide (1048576 < X1 f.base f.terms rp))=!LS f.base f.terms rp:=by
    unfold LS
    rw [Bool.eq_iff_iff]
    simp only [Bool.or_eq_true,bne_iff_ne,decide_eq_true_eq,Bool.not_eq_true',Bool.and_eq_false_iff,beq_eq_false_iff_ne,decide_eq_false_iff_not]
    omega
   simp (disch:=try exact DI) only [↓PR,QR,simprocAttr,SB,hL]
   cases LS f.base f.terms rp with
   | false=>simp (disch:=try exact DI) only [↓PR,QR,simprocAttr];exact ⟨rfl,E2⟩
   | true=>simp (disch:=try exact DI) only [↓PR,QR,simprocAttr];exact ⟨rfl,E2⟩
theorem xP {hi n a b:Int}:Z1 hi n [a,b]=if a < n∨hi < a∨b < a∨hi < b then 7 else 0:=by
 by_cases h1:a < n<;>by_cases h2:hi < a<;>by_cases h3:b < a<;>by_cases h4:hi < b<;>simp [Z1,Ya,orC, *]<;>omega
theorem Kc {α:Type} {p:α→Bool} {l:List α}:decide (idx p l < 0)=!l.any p:=by
 rw [← Y7]
 by_cases h:idx p l < 0
 · have:¬ 0≤idx p l:=by omega
   simp [h,this]
 · have:0≤idx p l:=by omega
   simp [h,this]
theorem Fh (w0:World) (v u:Value) (d:YF) (n:Nat) (f:Zm) (lo hi:Int) (deps:List (ByteArray×Int)) (hd:Yv w0 v d) (hn:n≤d.msgs.length) (hf:ZV w0 u f) (hD:∀ s,(ZC deps s).isSome=(d.msgs.take n).any λ m=>decide (m.name=s)) (hlo : -4611686018427387904≤lo) (hhi:hi≤4611686018427387904) :
 Ret Pg 153 #[v,.int .i64 (n:Int),u,.int .i64 lo,.int .i64 hi] w0 λ r w'=>r = .int .i64 (orC (Ya (decide (1≤(f.cases.length:Int))&&decide ((f.cases.length:Int)≤40)) 3) (QZ hi (vI deps) lo f.cases))∧Ext w0 w':=by
 obtain ⟨mv,rfl,hM⟩:=hd
 obtain ⟨tv,cv,rfl,hT,hC,ht1,hc1⟩:=hf.op
 refine Ze8 (R:=ZQ _) ?_;unfold n32
 rw [Xk]
 have hBW:=ZS.new (w:=w0) (Zz d mv) (28)
 have eW:Ext w0 (w0.alloc (Obj.cells (List.toArray (Zz d mv)) (28))):=(Ext.refl _).alloc _
 generalize (w0.alloc (Obj.cells (List.toArray (Zz d mv)) (28)))=W at hBW eW ⊢
 rw [Xk]
 have hBX:=ZS.new (w:=W) (Zo f tv cv) (48)
 have eX:Ext W (W.alloc (Obj.cells (List.toArray (Zo f tv cv)) (48))):=(Ext.refl _).alloc _
 generalize (W.alloc (Obj.cells (List.toArray (Zo f tv cv)) (48)))=X at hBX eX ⊢
 obtain ⟨A,c,rfl,hlc,hcm,hlm,hel⟩:=Ze.open hC
 have hcX:=hBX.c15 (Ext.refl X)
 simp (disch:=try exact DI) only [↓PR,QR,Int.reduceBEq,Int.reduceBNe,Int.reduceLT,Int.reduceLE,Int.reduceGT,Int.reduceGE,Int.reduceNeg,hcX]
 have hlen:(decide ((f.cases.length:Int) < 1)||decide (40 < (f.cases.length:Int)))=!(decide (1≤(f.cases.length:Int))&&decide ((f.cases.length:Int)≤40)):=by
  rw [Bool.eq_iff_iff];simp only [Bool.or_eq_true,decide_eq_true_eq,Bool.not_eq_true',Bool.and_eq_false_iff,decide_eq_false_iff_not];omega
 rw [hlen]
 have EX:Ext w0 X:=eW.trans eX
 cases hl:(decide (1≤(f.cases.length:Int))&&decide ((f.cases.length:Int)≤40)) with
 | false=>simp (disch:=try exact DI) only [↓PR,QR,simprocAttr];exact ⟨rfl,EX⟩
 | true =>
 simp (disch:=try exact DI) only [↓PR,QR,Int.reduceBEq,Int.reduceBNe,Int.reduceLT,Int.reduceLE,Int.reduceGT,Int.reduceGE,Int.reduceNeg]
 refine ZA (λ a w'=>∃ (k:Nat) (b:Int),a = .int .i64 k∧k≤f.cases.length∧Ext X w'∧QZ hi (vI deps) b (f.cases.drop k)=QZ hi (vI deps) lo f.cases∧lo≤b∧(k=0→b=lo)∧∀ j p,k=j+1→f.cases[j]?=some p→b=p.high+1) (λ b _=>f.cases.length - (intOf b).toNat) ⟨0,lo,rfl,by omega,Ext.refl _,rfl,Int.le_refl _,λ _=>rfl,λ j p h=>by omega⟩ ?_
 rintro _ w ⟨k,b,rfl,hk,e,hI,hb0,hb1,hb2⟩
 have hcX:=hBX.c15 e
 have E:=EX.trans e
 unfold G6
 rcases ZB hk with ⟨x,hx,hdr,hlt,hdec⟩ | ⟨hk,hdr,hdec⟩
 ·
  simp (disch:=try exact DI) only [↓PR,QR,Int.reduceBEq,Int.reduceBNe,Int.reduceLT,Int.reduceLE,Int.reduceGT,Int.reduceGE,Int.reduceNeg,hdec,hcX]
  obtain ⟨bc,oc,cc,hA,_,_,_,_,hel2⟩:=UT hC hx
  injection hA with hA _ _
  subst hA
  obtain ⟨csc,_,hAc,rfl⟩:=hel2 k x hx
  have hcx:=hAc.c3 E
  unfold GW
  simp (disch:=try exact DI) only [↓PR,QR,Int.reduceBEq,Int.reduceBNe,Int.reduceLT,Int.reduceLE,Int.reduceGT,Int.reduceGE,Int.reduceNeg,hcX,hcx]
  have hBY:=ZS.new (w:=w) (Ql x) (60)
  have eY:Ext w (w.alloc (Obj.cells (List.toArray (Ql x)) (60))):=(Ext.refl _).alloc _
  generalize (w.alloc (Obj.cells (List.toArray (Ql x)) (60)))=Y at hBY eY ⊢
  have hcY:=hBY.c3 (Ext.refl Y)
  have hcW:=hBW.c3 (eX.trans (e.trans eY))
  have EY:Ext w0 Y:=E.trans eY
  refine ZI ?_
  rw [hdr] at hI
  simp only [QZ,xP] at hI
  have hI7:(x.low < b∨hi < x.low∨x.high < x.low∨hi < x.high)→QZ hi (vI deps) lo f.cases=7:=λ h=>by rw [← hI,if_pos h];rfl
  have hI0:¬ (x.low < b∨hi < x.low∨x.high < x.low∨hi < x.high)→orC (Ya (Yh (vI deps) x.of).isSome 8) (QZ hi (vI deps) (x.high+1) (f.cases.drop (k+1)))=QZ hi (vI deps) lo f.cases:=λ h=>by
   rw [← hI,if_neg h,Yk (by omega) (by omega)];rfl
  clear hI
  unfold G5
  rcases k with _ | k'
  case' zero =>
   have hb:=hb1 rfl
   subst hb
   simp (disch:=try exact DI) only [↓PR,QR,Int.reduceBEq,Int.reduceBNe,Int.reduceLT,Int.reduceLE,Int.reduceGT,Int.reduceGE,Int.reduceNeg,hcY,hcX,↓yZ,↓yY,↓yg,↓xf,↓xj,↓xw,↓G5,↓GW,↓G6,show decide ((0:Int) < ((0:Nat):Int))=false by decide]
   refine VV (λ hg=>?_) (λ hg=>?_)
   all_goals simp (disch:=try exact DI) only [↓PR,QR,Int.reduceBEq,Int.reduceBNe,Int.reduceLT,Int.reduceLE,Int.reduceGT,Int.reduceGE,Int.reduceNeg,hg,hcW,hcY,↓yZ,↓yY,↓yg,↓xf,↓xj,↓xw,↓G5,↓GW,↓G6]
   all_goals simp only [Bool.or_eq_true,Bool.or_eq_false_iff,decide_eq_true_eq,decide_eq_false_iff_not] at hg
   · exact ⟨by rw [hI7 (by omega)];rfl,EY.drew⟩
   have hI0:=hI0 (by omega)
  case' succ =>
   obtain ⟨p,hp⟩:=getElem?_lt (l:=f.cases) (k:=k') (by omega)
   have hb:=hb2 k' p rfl hp
   subst hb
   obtain ⟨csp,_,hAp,rfl⟩:=hel2 k' p hp
   have hcp:=hAp.c3 EY
   simp (disch:=try exact DI) only [↓PR,QR,Int.reduceBEq,Int.reduceBNe,Int.reduceLT,Int.reduceLE,Int.reduceGT,Int.reduceGE,Int.reduceNeg,hcY,hcp,hBX.c15 (e.trans eY),↓yZ,↓yY,↓yg,↓xf,↓xj,↓xw,↓G5,↓GW,↓G6,show decide ((0:Int) < ((k'+1:Nat):Int))=true by simp only [decide_eq_true_eq];omega,show IntKind.i64.wrap (((k'+1:Nat):Int) - 1)=(k':Int) by rw [Yk (by omega) (by omega)];omega]
   refine VV (λ hg=>?_) (λ hg=>?_)
   all_goals simp (disch:=try exact DI) only [↓PR,QR,Int.reduceBEq,Int.reduceBNe,Int.reduceLT,Int.reduceLE,Int.reduceGT,Int.reduceGE,Int.reduceNeg,hg,hcW,hcY,↓yZ,↓yY,↓yg,↓xf,↓xj,↓xw,↓G5,↓GW,↓G6]
   all_goals simp only [Bool.or_eq_true,Bool.or_eq_false_iff,decide_eq_true_eq,decide_eq_false_iff_not] at hg
   · exact ⟨by rw [hI7 (by omega)];rfl,EY.drew⟩
   refine We (λ hg2=>⟨_,rfl,by simp only [decide_eq_true_eq] at hg2;rw [hI7 (by omega)];rfl,EY.drew⟩) (λ hg2=>?_)
   simp only [decide_eq_false_iff_not] at hg2
   have hI0:=hI0 (by omega)
   simp (disch:=try exact DI) only [↓PR,QR,Int.reduceBEq,Int.reduceBNe,Int.reduceLT,Int.reduceLE,Int.reduceGT,Int.reduceGE,Int.reduceNeg,hcW,hcY,↓yZ,↓yY,↓yg,↓xf,↓xj,↓xw,↓G5,↓GW,↓G6]
  all_goals
   refine zcr (Qk _ _ d x.of n ⟨_,rfl,hM.ext EY.drew⟩ hn) λ w2 e2=>?_
   have e3:Ext X w2:=(e.trans eY).drew.trans e2
   rw [Wh,Option.isSome_map,hD] at hI0
   have hdi:=Kc (p:=λ m:ZD=>decide (m.name=x.of)) (l:=d.msgs.take n)
   cases hs:(d.msgs.take n).any (λ m=>decide (m.name=x.of)) with
   | false =>
    rw [hs] at hI0 hdi
    simp (disch:=try exact DI) only [↓PR,QR,Int.reduceBEq,Int.reduceBNe,Int.reduceLT,Int.reduceLE,Int.reduceGT,Int.reduceGE,Int.reduceNeg,hdi,↓yZ,↓yY,↓yg,↓xf,↓xj,↓xw,↓G5,↓GW,↓G6]
    exact ⟨by rw [← hI0];rfl,EX.trans e3⟩
   | true =>
    rw [hs] at hI0 hdi
    simp (disch:=try exact DI) only [↓PR,QR,Int.reduceBEq,Int.reduceBNe,Int.reduceLT,Int.reduceLE,Int.reduceGT,Int.reduceGE,Int.reduceNeg,hdi,↓yZ,↓yY,↓yg,↓xf,↓xj,↓xw,↓G5,↓GW,↓G6]
    exact ⟨⟨_,x.high+1,rfl,hlt,e3,hI0,by omega,λ h=>by omega,λ j p h hp=>by injection h with h;subst h;rw [hx] at hp;injection hp with hp;subst hp;rfl⟩,ZF (kd := .i64) hlt⟩
 · rw [hdr] at hI
   simp (disch:=try exact DI) only [↓PR,QR,Int.reduceBEq,Int.reduceBNe,Int.reduceLT,Int.reduceLE,Int.reduceGT,Int.reduceGE,Int.reduceNeg,hdec,hcX]
   exact ⟨by rw [← hI];rfl,E⟩
def xz (l:List ZD):Prop:=l.Pairwise λ a b=>a.name≠b.name
theorem AM:∀ (l:List ZD) (a:List (ByteArray×Bool)),(l.foldl WV a).map (·.1)=a.map (·.1)++l.map (·.name)
 | [],a=>by simp
 | m::l,a=>by rw [List.foldl_cons,AM l,WV,List.map_append];simp
theorem Bo:∀ (l:List ZD) (a:List (ByteArray×Int)),(l.foldl Ww a).map (·.1)=a.map (·.1)++l.map (·.name)
 | [],a=>by simp
 | m::l,a=>by rw [List.foldl_cons,Bo l,Ww,List.map_append];simp
theorem UG {β:Type} {ps:List (ByteArray×β)} {l:List ZD} (hp:ps.map (·.1)=l.map (·.name)) (hd:xz l) (s:ByteArray):(idx (λ m:ZD=>decide (m.name=s)) l = -1∧ZC ps s=none)∨∃ (k:Nat) (b:β),idx (λ m:ZD=>decide (m.name=s)) l=k∧k < l.length∧ps[k]?=some (s,b)∧ZC ps s=some b:=by
 have hlen:ps.length=l.length:=by simpa using congrArg List.length hp
 have hk:∀ (k:Nat) (m:ZD),l[k]?=some m→∃ b,ps[k]?=some (m.name,b):=by
  intro k m hm
  obtain ⟨q,hq⟩:=getElem?_lt (l:=ps) (k:=k) (by rw [hlen];exact (List.getElem?_eq_some_iff.1 hm).1)
  have:=congrArg (λ x=>x[k]?) hp
  simp only [List.getElem?_map,hm,hq,Option.map_some] at this
  injection this with this
  exact ⟨q.2,by rw [hq,← this]⟩
 have hin:∀ q∈ps,∃ (k:Nat) (m:ZD),l[k]?=some m∧ps[k]?=some q∧m.name=q.1:=by
  intro q hq
  obtain ⟨k,hkq⟩:=List.getElem?_of_mem hq
  obtain ⟨m,hm⟩:=getElem?_lt (l:=l) (k:=k) (by rw [← hlen];exact (List.getElem?_eq_some_iff.1 hkq).1)
  obtain ⟨b,hb⟩:=hk k m hm
  rw [hkq] at hb
  injection hb with hb
  exact ⟨k,m,hm,hkq,by rw [hb]⟩
 have hone:∀ (k j:Nat) (a b:ZD),l[k]?=some a→l[j]?=some b→a.name=b.name→k=j:=by
  intro k j a b ha hb hn
  obtain ⟨h1,ha'⟩:=List.getElem?_eq_some_iff.1 ha
  obtain ⟨h2,hb'⟩:=List.getElem?_eq_some_iff.1 hb
  have hpw:=List.pairwise_iff_getElem.1 hd
  rcases Nat.lt_trichotomy k j with h | h | h
  · have:=hpw k j h1 h2 h;rw [ha',hb'] at this;exact absurd hn this
  · exact h
  · have:=hpw j k h2 h1 h;rw [ha',hb'] at this;exact absurd hn.symm this
 unfold idx
 cases h:l.findIdx? (λ m=>decide (m.name=s)) with
 | none =>
  rw [List.findIdx?_eq_none_iff] at h
  refine .inl ⟨rfl,?_⟩
  cases hl:ZC ps s with
  | none=>rfl
  | some b =>
   obtain ⟨k,m,h1,_,h3⟩:=hin _ (Vj hl)
   simpa [h3] using h m (List.mem_of_getElem? h1)
 | some k =>
  obtain ⟨hkl,hpk,_⟩:=List.findIdx?_eq_some_iff_getElem.1 h
  simp only [decide_eq_true_eq] at hpk
  obtain ⟨b,hb⟩:=hk k _ (List.getElem?_eq_getElem hkl)
  rw [hpk] at hb
  refine .inr ⟨k,b,rfl,hkl,hb,?_⟩
  cases hl:ZC ps s with
  | none =>
   have hmem:=List.mem_of_getElem? hb
   unfold ZC at hl
   rw [Option.map_eq_none_iff,List.find?_eq_none] at hl
   exact absurd (hl (s,b) (List.mem_reverse.2 hmem)) (by simp)
  | some b' =>
   obtain ⟨j,m,h1,h2,h3⟩:=hin _ (Vj hl)
   have:=hone k j _ m (List.getElem?_eq_getElem hkl) h1 (hpk.trans h3.symm)
   subst this
   rw [hb] at h2
   injection h2 with h2
   injection h2 with _ h2
   rw [h2]
abbrev IG (b:Bool):List Value:=[.bool b]
abbrev ZfP (w:World) (base:Nat) (v:Value) (l:List Bool):Prop:=Z5 w base 4 1 IG v l
theorem M5 (l:List ZD):(Z7 l).map (·.1)=l.map (·.name):=by unfold Z7;rw [AM];rfl
theorem Pn (l:List ZD):(ZK l).map (·.1)=l.map (·.name):=by unfold ZK;rw [Bo];rfl
def Co (l:List ZD) (n:Nat):Prop:=∀ (k:Nat) (m:ZD),k < n→l[k]?=some m→∀ s∈QT m,((l.take k).any λ m=>decide (m.name=s))=true
theorem B1 (w0:World) (v:Value) (d:YF) (n:Nat) (hd:Yv w0 v d) (hn:n≤d.msgs.length) (hN:xz (d.msgs.take n)) (hR:Co d.msgs n) (hb:∀ m∈d.msgs,(Z0 m.fields).length≤1048576) (hn1:n≤1048576) :
 Ret Pg 154 #[v,.int .i64 (n:Int)] w0 λ r w'=>Ze w' 1 EM r ((Z7 (d.msgs.take n)).map (·.2))∧Ext w0 w':=by
 obtain ⟨mv,rfl,hM⟩:=hd
 refine Zfb (R:=ZQ _) ?_;unfold n30
 rw [Xk]
 have hBW:=ZS.new (w:=w0) (Zz d mv) (28)
 have eW:Ext w0 (w0.alloc (Obj.cells (List.toArray (Zz d mv)) (28))):=(Ext.refl _).alloc _
 generalize (w0.alloc (Obj.cells (List.toArray (Zz d mv)) (28)))=W at hBW eW ⊢
 refine Ye (λ a b w'=>∃ k:Nat,b = .int .i64 k∧k≤n∧Ext W w'∧ZfP w' W.heap.size a ((Z7 (d.msgs.take k)).map (·.2))) (λ _ b _=>n - (intOf b).toNat) ⟨0,rfl,by omega,Ext.refl _,Z5.nil _ _ _ _ _⟩ ?_
 rintro out _ w ⟨k,rfl,hk,e,hO⟩
 have E:=eW.trans e
 unfold TL
 by_cases hkn:k < n
 · have d1:decide ((k:Int) < (n:Int))=true:=by simp only [decide_eq_true_eq];omega
   obtain ⟨m,hm⟩:=getElem?_lt (l:=d.msgs) (k:=k) (by omega)
   have hM0:=hM
   obtain ⟨bm,om,cm,rfl,hlc,hcm,hlm,hkl,hel⟩:=UT hM hm
   obtain ⟨csm,_,hAm,hEm⟩:=hel k m hm
   obtain ⟨fv,rfl,hF⟩:=hEm
   have hF0:=hF
   obtain ⟨Af,cf,rfl,hlf,hcf,hlmf,helf⟩:=Ze.open hF
   simp (disch:=try exact DI) only [↓PR,QR,simprocAttr,d1]
   refine Ye (λ a b w'=>∃ i:Nat,a = .bool ((m.fields.take i).all λ f=>!f.loose)∧b = .int .i64 i∧i≤m.fields.length∧Ext w w') (λ _ b _=>m.fields.length - (intOf b).toNat) ⟨0,by simp,rfl,by omega,Ext.refl _⟩ ?_
   rintro _ _ w2 ⟨i,rfl,rfl,hi,e2⟩
   have hcW:=hBW.c3 (e.trans e2)
   have hcm2:=hAm.c2 (E.trans e2)
   unfold SW
   rcases ZB hi with ⟨x,hx,hdr,hlt,hdec⟩ | ⟨hi,hdr,hdec⟩
   · have hall:((m.fields.take (i+1)).all λ f=>!f.loose)=(((m.fields.take i).all λ f=>!f.loose)&&!x.loose):=by rw [ZU hx,List.all_append];simp
     obtain ⟨bf,of,csf,rfl,_,hAf,hEf⟩:=helf i x hx
     obtain ⟨tf,cf',rfl,hTf,hCf,_,_⟩:=hEf.op
     have hcf:=hAf.c15 (E.trans e2)
     simp (disch:=try exact DI) only [↓PR,QR,simprocAttr,hcW,hcm2,hdec]
     unfold Tg
     cases hs:(m.fields.take i).all (λ f=>!f.loose) with
     | false =>
      rw [hs] at hall
      simp (disch:=try exact DI) only [↓PR,QR,simprocAttr]
      exact ⟨⟨i+1,by rw [hall];rfl,rfl,hlt,e2⟩,ZF (kd := .i64) hlt⟩
     | true =>
      rw [hs] at hall
      simp (disch:=try exact DI) only [↓PR,QR,simprocAttr,hcW,hcm2,hcf,Sc]
      exact ⟨⟨i+1,by rw [hall];rfl,rfl,hlt,e2⟩,ZF (kd := .i64) hlt⟩
   · subst hi
     rw [List.take_length]
     simp (disch:=try exact DI) only [↓PR,QR,simprocAttr,hcW,hcm2,hdec]
     unfold Tn
     simp (disch:=try exact DI) only [↓PR,QR,simprocAttr,hcW,hcm2]
     refine Zt (Kz _ _ m ⟨_,rfl,hF0.ext (E.trans e2)⟩ (hb m (List.mem_of_getElem? hm))) ?_
     rintro rv w3 ⟨hS,e3⟩
     have e23:=e2.trans e3
     have hSl:=hS.slice (E:=KQ) (λ _=>rfl) (λ _ _=>rfl)
     obtain ⟨Ar,cr,rfl,hlr,hcr,hlmr,helr⟩:=Ze.open hSl
     have hsM:VU (Z7 (d.msgs.take k)) m=((m.fields.all λ f=>!f.loose)&&(QT m).all λ s=>(ZC (Z7 (d.msgs.take k)) s).getD false):=rfl
     generalize hA:(m.fields.all λ f=>!f.loose)=A0 at hsM ⊢
     have hDk:xz (d.msgs.take k):=by
      have:=List.Pairwise.sublist (List.take_sublist k (d.msgs.take n)) hN
      rwa [List.take_take,Nat.min_eq_left (by omega)] at this
     refine Ye (λ a b w'=>∃ j:Nat,a = .bool (A0&&((QT m).take j).all λ s=>(ZC (Z7 (d.msgs.take k)) s).getD false)∧b = .int .i64 j∧j≤(QT m).length∧Ext w3 w') (λ _ b _=>(QT m).length - (intOf b).toNat) ⟨0,by simp,rfl,by omega,Ext.refl _⟩ ?_
     rintro _ _ w4 ⟨j,rfl,rfl,hj,e4⟩
     have e24:=e23.trans e4
     unfold Sp
     rcases ZB hj with ⟨s,hx,hdr,hlt,hdec⟩ | ⟨hj,hdr,hdec⟩
     · obtain ⟨bs,os,css,rfl,_,hAs,rfl⟩:=helr j s hx
       have hall:(A0&&((QT m).take (j+1)).all λ s=>(ZC (Z7 (d.msgs.take k)) s).getD false)=((A0&&((QT m).take j).all λ s=>(ZC (Z7 (d.msgs.take k)) s).getD false)&&(ZC (Z7 (d.msgs.take k)) s).getD false):=by rw [ZU hx,List.all_append];simp [Bool.and_assoc]
       simp (disch:=try exact DI) only [↓PR,QR,simprocAttr,hdec]
       refine ZI ?_
       unfold TK
       generalize (A0&&((QT m).take j).all λ s=>(ZC (Z7 (d.msgs.take k)) s).getD false)=B at hall ⊢
       cases B with
       | false =>
        simp (disch:=try exact DI) only [↓PR,QR,simprocAttr]
        exact ⟨⟨j+1,by rw [hall];rfl,rfl,hlt,e4.drew⟩,ZF (kd := .i64) hlt⟩
       | true =>
        simp (disch:=try exact DI) only [↓PR,QR,simprocAttr,hBW.c3 (e.trans e24),hAs.c1 e4]
        refine zcr (Qk _ _ d s k ⟨_,rfl,hM0.ext (E.trans e24).drew⟩ (by omega)) λ w5 e5=>?_
        refine ⟨e5,?_⟩
        have hex:=hR k m hkn hm s (List.mem_of_getElem? hx)
        rcases UG (M5 (d.msgs.take k)) hDk s with ⟨h1,_⟩ | ⟨q,b,h1,h2,h3,h4⟩
        · have:=Y7 (p:=λ m:ZD=>decide (m.name=s)) (l:=d.msgs.take k)
          rw [hex,h1] at this
          exact absurd this (by decide)
        · rw [h1]
          have hO4:=(hO.ext e24).slice (E:=EM) (λ _=>rfl) (λ _ _=>rfl)
          have hq:((Z7 (d.msgs.take k)).map (·.2))[q]?=some b:=by rw [List.getElem?_map,h3];rfl
          obtain ⟨bo,oo,co,rfl,_,_,_,hql,helo⟩:=UT hO4 hq
          obtain ⟨cso,_,hAo,rfl⟩:=helo q b hq
          rw [h4] at hall
          simp (disch:=try exact DI) only [↓PR,QR,simprocAttr,hAo.c1 (Ext.refl _)]
          exact ⟨⟨j+1,by rw [hall];rfl,rfl,hlt,e4.drew.trans e5⟩,ZF (kd := .i64) hlt⟩
     · subst hj
       rw [List.take_length,← hsM]
       simp (disch:=try exact DI) only [↓PR,QR,simprocAttr,hdec]
       unfold Sb
       simp (disch:=try exact DI) only [↓PR,QR,simprocAttr]
       have sw:=e24.size
       have s0:=e.size
       have hlk:((Z7 (d.msgs.take k)).map (·.2)).length=k:=by
        have:=congrArg List.length (M5 (d.msgs.take k))
        simp only [List.length_map,List.length_take] at this ⊢
        omega
       refine qL Tryz.underlying93 ty4 by4 rfl (by decide) (λ _=>rfl) (VU (Z7 (d.msgs.take k)) m) (by simp only [IG,List.forall_mem_cons];exact ⟨rfl,by simp⟩) (hO.ext (e24.alloc (Obj.cells #[.bool (VU (Z7 (d.msgs.take k)) m)] 4))) (ZS.new _ _) (by simp only [World.size_alloc];omega) (by rw [hlk];omega) ?_
       intro v' w' hO' hext
       have eN:Ext W w':=hext W ((e.trans e24).alloc _) (Nat.le_refl _)
       simp (disch:=try exact DI) only [↓PR,QR,simprocAttr]
       refine ⟨⟨k+1,rfl,by omega,eN,?_⟩,ZF (kd := .i64) hkn⟩
       rw [ZU hm,AW,List.map_append]
       exact hO'
 · have hke:k=n:=by omega
   subst hke
   have d1:decide ((k:Int) < (k:Int))=false:=by simp
   simp (disch:=try exact DI) only [↓PR,QR,simprocAttr,d1]
   exact ⟨hO.slice (λ _=>rfl) (λ _ _=>rfl),E⟩
def QN (t8 t52 t56:Value) (K2:World→Prop) (R:RT) (w:World):Prop :=
 Zu t52 (.bool true) t56 λ t57 =>
 Zq (λ (t61:Value) (w:World) =>
 Zu t57 (.bool true) t61 λ t62 =>
 Zr t62 (
 R (.returned (.int .i64 7)) w) (
 K2 w)) λ K5 =>
 Zl t57 false (
 F0 48 t8 6 R w λ t59 w =>
 L0 3 t59 R w λ t60 w =>
 B0 .gtr 3 true t60 (.int .i64 1048576) R w λ t61 w =>
 K5 t61 w) (
 K5 undef w)
def QX (t8 t47 t51:Value) (K2:World→Prop) (R:RT) (w:World):Prop :=
 Zu t47 (.bool true) t51 λ t52 =>
 Zq (λ (t56:Value) (w:World) =>
 QN t8 t52 t56 K2 R w) λ K4 =>
 Zl t52 false (
 F0 48 t8 6 R w λ t54 w =>
 L0 3 t54 R w λ t55 w =>
 B0 .lss 3 true t55 (.int .i64 0) R w λ t56 w =>
 K4 t56 w) (
 K4 undef w)
def QQ (t2 t7 t79:Value) (R:RT) (w:World):Prop :=
 B0 .lss 3 true t79 (.int .i64 0) R w λ t80 w =>
 Zr t80 (
 R (.returned (.int .i64 8)) w) (
 L0 24 t7 R w λ t81 w =>
 C0 150 #[t81,t2] R w λ t83 w =>
 R (.returned t83) w)
def QO (t1 t3 t8 t123:Value) (R:RT) (w:World):Prop :=
 opV Pg (Instr.extract t123 0) (Zd R) w λ t124 w =>
 opV Pg (Instr.extract t123 1) (Zd R) w λ t125 w =>
 L0 28 t3 R w λ t126 w =>
 L0 48 t8 R w λ t128 w =>
 C0 153 #[t126,t1,t128,t124,t125] R w λ t131 w =>
 R (.returned t131) w
def QU (t1 t3 t7 t8 t98:Value) (R:RT) (w:World):Prop :=
 F0 24 t7 1 R w λ t118 w =>
 L0 22 t118 R w λ t119 w =>
 X0 22 t119 t98 R w λ t121 w =>
 L0 48 t121 R w λ t122 w =>
 C0 152 #[t122] R w λ t123 w =>
 QO t1 t3 t8 t123 R w
def QS (t1 t2 t3 t7 t8 t98 t100 t108:Value) (R:RT) (w:World):Prop :=
 Zu t100 (.bool true) t108 λ t109 =>
 Zq (λ (t115:Value) (w:World) =>
 Zu t109 (.bool true) t115 λ t116 =>
 Zr t116 (
 R (.returned (.int .i64 8)) w) (
 QU t1 t3 t7 t8 t98 R w)) λ K8 =>
 Zl t109 false (
 L0 24 t7 R w λ t111 w =>
 F0 48 t8 9 R w λ t112 w =>
 L0 9 t112 R w λ t113 w =>
 C0 151 #[t111,t113,t2] R w λ t115 w =>
 K8 t115 w) (
 K8 undef w)
def QM (t1 t2 t3 t7 t8 t98:Value) (R:RT) (w:World):Prop :=
 B0 .lss 3 true t98 (.int .i64 0) R w λ t100 w =>
 Zq (λ (t108:Value) (w:World) =>
 QS t1 t2 t3 t7 t8 t98 t100 t108 R w) λ K7 =>
 Zl t100 false (
 F0 24 t7 1 R w λ t102 w =>
 L0 22 t102 R w λ t103 w =>
 X0 22 t103 t98 R w λ t105 w =>
 L0 48 t105 R w λ t106 w =>
 C0 47 #[t106] R w λ t107 w =>
 opV Pg (Op.unary .not t107) (Zd R) w λ t108 w =>
 K7 t108 w) (
 K7 undef w)
def QV (t141 t151 t155:Value) (K2:World→Prop) (R:RT) (w:World):Prop :=
 Zq (λ (t156:Value) (w:World) =>
 Zu t141 t156 (.bool false) λ t157 =>
 Zr t157 (
 R (.returned (.int .i64 6)) w) (
 K2 w)) λ K14 =>
 Zl t141 true (
 Zu t151 (.bool true) t155 λ t156 =>
 K14 t156 w) (
 K14 undef w)
def QW (t8 t141 t151:Value) (K2:World→Prop) (R:RT) (w:World):Prop :=
 Zq (λ (t155:Value) (w:World) =>
 QV t141 t151 t155 K2 R w) λ K13 =>
 Zl t151 false (
 F0 48 t8 2 R w λ t152 w =>
 L0 3 t152 R w λ t153 w =>
 B0 .rem 3 true t153 (.int .i64 8) R w λ t154 w =>
 B0 .neq 3 true t154 (.int .i64 0) R w λ t155 w =>
 K13 t155 w) (
 K13 undef w)
def Xx (t8 t141 t146:Value) (K2:World→Prop) (R:RT) (w:World):Prop :=
 Zq (λ (t149:Value) (w:World) =>
 Zq (λ (t151:Value) (w:World) =>
 QW t8 t141 t151 K2 R w) λ K12 =>
 Zl t141 true (
 Zu t146 (.bool true) t149 λ t150 =>
 K12 t150 w) (
 K12 undef w)) λ K11 =>
 Zl t146 false (
 F0 48 t8 2 R w λ t147 w =>
 L0 3 t147 R w λ t148 w =>
 B0 .gtr 3 true t148 (.int .i64 512) R w λ t149 w =>
 K11 t149 w) (
 K11 undef w)
def Xr (t8 t136 t140:Value) (K2:World→Prop) (R:RT) (w:World):Prop :=
 Zu t136 t140 (.bool false) λ t141 =>
 Zq (λ (t146:Value) (w:World) =>
 Xx t8 t141 t146 K2 R w) λ K10 =>
 Zl t141 true (
 F0 48 t8 2 R w λ t143 w =>
 L0 3 t143 R w λ t144 w =>
 B0 .lss 3 true t144 (.int .i64 8) R w λ t145 w =>
 K10 t145 w) (
 K10 undef w)
def XK (t2 t7 t8:Value) (K2:World→Prop) (R:RT) (w:World):Prop :=
 L0 24 t7 R w λ t168 w =>
 F0 48 t8 10 R w λ t169 w =>
 L0 9 t169 R w λ t170 w =>
 C0 45 #[t168,t170,t2] R w λ t172 w =>
 B0 .lss 3 true t172 (.int .i64 0) R w λ t173 w =>
 Zr t173 (
 R (.returned (.int .i64 8)) w) (
 K2 w)
def Xv (t2 t7 t190 t198:Value) (R:RT) (w:World):Prop :=
 Zu t190 (.bool true) t198 λ t199 =>
 Zr t199 (
 R (.returned (.int .i64 8)) w) (
 L0 24 t7 R w λ t200 w =>
 C0 150 #[t200,t2] R w λ t202 w =>
 R (.returned t202) w)
def XA (t188 t194:Value) (K17:KV) (R:RT) (w:World):Prop :=
 X0 93 t194 t188 R w λ t196 w =>
 L0 4 t196 R w λ t197 w =>
 opV Pg (Op.unary .not t197) (Zd R) w λ t198 w =>
 K17 t198 w
def XG (t1 t2 t3 t7 t188:Value) (R:RT) (w:World):Prop :=
 B0 .lss 3 true t188 (.int .i64 0) R w λ t190 w =>
 Zq (λ (t198:Value) (w:World) =>
 Xv t2 t7 t190 t198 R w) λ K17 =>
 Zl t190 false (
 L0 28 t3 R w λ t192 w =>
 C0 154 #[t192,t1] R w λ t194 w =>
 XA t188 t194 K17 R w) (
 K17 undef w)
def XF (t1 t2 t3 t7 t8:Value) (R:RT) (w:World):Prop :=
 L0 28 t3 R w λ t184 w =>
 F0 48 t8 8 R w λ t185 w =>
 L0 9 t185 R w λ t186 w =>
 C0 53 #[t184,t186,t1] R w λ t188 w =>
 XG t1 t2 t3 t7 t188 R w
def Xy (t1 t2 t3 t7 t8:Value) (R:RT) (w:World):Prop :=
 F0 48 t8 13 R w λ t176 w =>
 L0 3 t176 R w λ t177 w =>
 B0 .lss 3 true t177 (.int .i64 0) R w λ t178 w =>
 Zq (λ (t182:Value) (w:World) =>
 Zu t178 (.bool true) t182 λ t183 =>
 Zr t183 (
 R (.returned (.int .i64 7)) w) (
 XF t1 t2 t3 t7 t8 R w)) λ K16 =>
 Zl t178 false (
 F0 48 t8 13 R w λ t180 w =>
 L0 3 t180 R w λ t181 w =>
 B0 .gtr 3 true t181 (.int .i64 4294967295) R w λ t182 w =>
 K16 t182 w) (
 K16 undef w)
def Xz (t2 t7 t8:Value) (K2:World→Prop) (R:RT) (w:World):Prop :=
 F0 48 t8 12 R w λ t160 w =>
 L0 3 t160 R w λ t161 w =>
 B0 .lss 3 true t161 (.int .i64 1) R w λ t162 w =>
 Zq (λ (t166:Value) (w:World) =>
 Zu t162 (.bool true) t166 λ t167 =>
 Zr t167 (
 R (.returned (.int .i64 7)) w) (
 XK t2 t7 t8 K2 R w)) λ K15 =>
 Zl t162 false (
 F0 48 t8 12 R w λ t164 w =>
 L0 3 t164 R w λ t165 w =>
 B0 .gtr 3 true t165 (.int .i64 3) R w λ t166 w =>
 K15 t166 w) (
 K15 undef w)
def Xm (t8:Value) (K2:World→Prop) (R:RT) (w:World):Prop :=
 F0 48 t8 2 R w λ t134 w =>
 L0 3 t134 R w λ t135 w =>
 B0 .neq 3 true t135 (.int .i64 2) R w λ t136 w =>
 Zq (λ (t140:Value) (w:World) =>
 Xr t8 t136 t140 K2 R w) λ K9 =>
 Zl t136 true (
 F0 48 t8 2 R w λ t138 w =>
 L0 3 t138 R w λ t139 w =>
 B0 .neq 3 true t139 (.int .i64 4) R w λ t140 w =>
 K9 t140 w) (
 K9 undef w)
def XE (t1 t2 t3 t7 t8 t24:Value) (K2:World→Prop) (R:RT) (w:World):Prop :=
 B0 .eql 3 true t24 (.int .i64 11) R w λ t159 w =>
 Zr t159 (
 Xz t2 t7 t8 K2 R w) (
 B0 .eql 3 true t24 (.int .i64 12) R w λ t175 w =>
 Zr t175 (
 Xy t1 t2 t3 t7 t8 R w) (
 K2 w))
def XH (t1 t2 t3 t7 t8:Value) (R:RT) (w:World):Prop :=
 L0 24 t7 R w λ t94 w =>
 F0 48 t8 9 R w λ t95 w =>
 L0 9 t95 R w λ t96 w =>
 C0 45 #[t94,t96,t2] R w λ t98 w =>
 QM t1 t2 t3 t7 t8 t98 R w
def XJ (t1 t3 t8:Value) (K2:World→Prop) (R:RT) (w:World):Prop :=
 L0 28 t3 R w λ t86 w =>
 F0 48 t8 8 R w λ t87 w =>
 L0 9 t87 R w λ t88 w =>
 C0 53 #[t86,t88,t1] R w λ t90 w =>
 B0 .lss 3 true t90 (.int .i64 0) R w λ t91 w =>
 Zr t91 (
 R (.returned (.int .i64 8)) w) (
 K2 w)
def XD (t1 t2 t3 t7 t8 t24:Value) (K2:World→Prop) (R:RT) (w:World):Prop :=
 B0 .eql 3 true t24 (.int .i64 9) R w λ t93 w =>
 Zr t93 (
 XH t1 t2 t3 t7 t8 R w) (
 B0 .eql 3 true t24 (.int .i64 10) R w λ t133 w =>
 Zr t133 (
 Xm t8 K2 R w) (
 XE t1 t2 t3 t7 t8 t24 K2 R w))
def Xw (t1 t2 t3 t7 t8:Value) (R:RT) (w:World):Prop :=
 L0 28 t3 R w λ t75 w =>
 F0 48 t8 8 R w λ t76 w =>
 L0 9 t76 R w λ t77 w =>
 C0 53 #[t75,t77,t1] R w λ t79 w =>
 QQ t2 t7 t79 R w
def Xq (t8:Value) (K2:World→Prop) (R:RT) (w:World):Prop :=
 F0 48 t8 6 R w λ t65 w =>
 L0 3 t65 R w λ t66 w =>
 B0 .lss 3 true t66 (.int .i64 2) R w λ t67 w =>
 Zq (λ (t71:Value) (w:World) =>
 Zu t67 (.bool true) t71 λ t72 =>
 Zr t72 (
 R (.returned (.int .i64 7)) w) (
 K2 w)) λ K6 =>
 Zl t67 false (
 F0 48 t8 6 R w λ t69 w =>
 L0 3 t69 R w λ t70 w =>
 B0 .gtr 3 true t70 (.int .i64 1048576) R w λ t71 w =>
 K6 t71 w) (
 K6 undef w)
def Xn (t1 t2 t3 t7 t8 t24:Value) (K2:World→Prop) (R:RT) (w:World):Prop :=
 B0 .eql 3 true t24 (.int .i64 7) R w λ t74 w =>
 Zr t74 (
 Xw t1 t2 t3 t7 t8 R w) (
 B0 .eql 3 true t24 (.int .i64 8) R w λ t85 w =>
 Zr t85 (
 XJ t1 t3 t8 K2 R w) (
 XD t1 t2 t3 t7 t8 t24 K2 R w))
def Xu (t8:Value) (K2:World→Prop) (R:RT) (w:World):Prop :=
 F0 48 t8 5 R w λ t45 w =>
 L0 3 t45 R w λ t46 w =>
 B0 .lss 3 true t46 (.int .i64 0) R w λ t47 w =>
 Zq (λ (t51:Value) (w:World) =>
 QX t8 t47 t51 K2 R w) λ K3 =>
 Zl t47 false (
 F0 48 t8 5 R w λ t49 w =>
 L0 3 t49 R w λ t50 w =>
 B0 .gtr 3 true t50 (.int .i64 255) R w λ t51 w =>
 K3 t51 w) (
 K3 undef w)
def XB (t1 t2 t3 t7 t8 t24:Value) (K2:World→Prop) (R:RT) (w:World):Prop :=
 B0 .eql 3 true t24 (.int .i64 5) R w λ t44 w =>
 Zr t44 (
 Xu t8 K2 R w) (
 B0 .eql 3 true t24 (.int .i64 6) R w λ t64 w =>
 Zr t64 (
 Xq t8 K2 R w) (
 Xn t1 t2 t3 t7 t8 t24 K2 R w))
def Xo (t8:Value) (K2:World→Prop) (R:RT) (w:World):Prop :=
 F0 48 t8 5 R w λ t32 w =>
 L0 3 t32 R w λ t33 w =>
 F0 48 t8 6 R w λ t34 w =>
 L0 3 t34 R w λ t35 w =>
 C0 149 #[t33,t35] R w λ t36 w =>
 opV Pg (Op.unary .not t36) (Zd R) w λ t37 w =>
 Zr t37 (
 R (.returned (.int .i64 7)) w) (
 K2 w)
def XI (t1 t2 t3 t7 t8 t24:Value) (K2:World→Prop) (R:RT) (w:World):Prop :=
 B0 .eql 3 true t24 (.int .i64 4) R w λ t39 w =>
 Zr t39 (
 L0 24 t7 R w λ t40 w =>
 C0 150 #[t40,t2] R w λ t42 w =>
 R (.returned t42) w) (
 XB t1 t2 t3 t7 t8 t24 K2 R w)
def XC (t1 t2 t3 t7 t8 t24:Value) (R:RT) (w:World):Prop :=
 B0 .eql 3 true t24 (.int .i64 3) R w λ t31 w =>
 Zq (λ (w:World) =>
 R (.returned (.int .i64 0)) w) λ K2 =>
 Zr t31 (
 Xo t8 K2 R w) (
 XI t1 t2 t3 t7 t8 t24 K2 R w)
def Xt (t1 t2 t3 t7 t8 t24 t25:Value) (R:RT) (w:World):Prop :=
 Zr t25 (
 L0 48 t8 R w λ t28 w =>
 C0 148 #[t28] R w λ t29 w =>
 R (.returned t29) w) (
 XC t1 t2 t3 t7 t8 t24 R w)
def n35 (t0 t1 t2:Value) (R:RT) (w:World):Prop :=
 opV Pg (Instr.box 28 t0) (Zd R) w λ t3 w =>
 F0 28 t3 1 R w λ t13 w =>
 L0 26 t13 R w λ t14 w =>
 X0 26 t14 t1 R w λ t16 w =>
 L0 24 t16 R w λ t17 w =>
 opV Pg (Instr.alloc 24 true (.tuple #[])) (Zd R) w λ t7 w =>
 opU Pg (Instr.storeAt 24 t7 t17) (Zd R) w λ w =>
 F0 24 t7 1 R w λ t18 w =>
 L0 22 t18 R w λ t19 w =>
 X0 22 t19 t2 R w λ t21 w =>
 L0 48 t21 R w λ t22 w =>
 opV Pg (Instr.alloc 48 true (.tuple #[])) (Zd R) w λ t8 w =>
 opU Pg (Instr.storeAt 48 t8 t22) (Zd R) w λ w =>
 F0 48 t8 1 R w λ t23 w =>
 L0 42 t23 R w λ t24 w =>
 B0 .eql 3 true t24 (.int .i64 1) R w λ t26 w =>
 Zq (λ (t25:Value) (w:World) =>
 Xt t1 t2 t3 t7 t8 t24 t25 R w) λ K1 =>
 Zr t26 (
 K1 t26 w) (
 B0 .eql 3 true t24 (.int .i64 2) R w λ t27 w =>
 K1 t27 w)
set_option maxHeartbeats 40000000 in
theorem ZeR {t0 t1 t2:Value} {R:RT} {w:World} (h:n35 t0 t1 t2 R w):Calls Pg 120 #[t0,t1,t2] w R:=by
 refine yD Tryz.func120 ?_
 refine zs<|zr<|yv h λ _ w h=>zm<|zn<|zk<|zs<|zr<|yv h λ _ w h=>yv h λ _ w h=>zm<|yv h λ _ w h=>yv h λ _ w h=>yv h λ _ w h=>yu h λ w h=>?_
 refine zn<|zk<|zs<|zr<|yv h λ _ w h=>yv h λ _ w h=>zm<|yv h λ _ w h=>yv h λ _ w h=>yv h λ _ w h=>yu h λ w h=>zn<|zk<|zs<|zs ?_
 refine zr<|yv h λ _ w h=>yv h λ _ w h=>zn<|zk<|Zj<|zs<|zs<|zr<|yb h λ _ w h=>zm<|zn<|zk<|yJ1 [25,27] 25 h (λ _ _ hkK1 h=>?_) λ σ w h=>?_
 · refine yC h (λ h=>?_) λ h=>?_
   · refine Zh<|zk ?_
     exact zt hkK1 h
   refine zr<|yb h λ _ w h=>zm<|zn<|zk ?_
   exact zt hkK1 h
 refine zk<|yC h (λ h=>zs<|zr<|yv h λ _ w h=>yc h ZgJ λ _ w h=>zm<|zn<|zk<|Zk<|Zf<|Zb<|Zi rfl rfl h) λ h=>zs<|zr<|yb h λ _ w h=>zm<|zn<|zk<|yJ0 [6,9,10,11,12,32,33,34,35,36,37,38,39,40,41,42,43,44,45,46,47,48,49,50,51,52,53,54,55,56,57,58,59,60,61,62,63,64,65,66,67,68,69,70,71,72,73,74,75,76,77,78,79,80,81,82,83,84,85,86,87,88,89,90,91,92,93,94,95,96,97,98,99,100,101,102,103,104,105,106,107,108,109,110,111,112,113,114,115,116,117,118,119,120,121,122,123,124,125,126,127,128,129,130,131,132,133,134,135,136,137,138,139,140,141,142,143,144,145,146,147,148,149,150,151,152,153,154,155,156,157,158,159,160,161,162,163,164,165,166,167,168,169,170,171,172,173,174,175,176,177,178,179,180,181,182,183,184,185,186,187,188,189,190,191,192,193,194,195,196,197,198,199,200,201,202] h (λ _ _ hkK2 h=>?_) λ σ w h=>?_
 · refine yC h (λ h=>?_) λ h=>?_
   · refine zs<|zr<|yv h λ _ w h=>yv h λ _ w h=>yv h λ _ w h=>yv h λ _ w h=>yc h ZfC λ _ w h=>yv h λ _ w h=>zn<|zk<|yC h (λ h=>zs<|zr<|zm<|zn<|zk<|Zk<|Zb<|Zf<|Zb<|Zi rfl rfl h) λ h=>Zh<|zk ?_
     exact zt hkK2 h
   refine zs<|zr<|yb h λ _ w h=>zm<|zn<|zk<|yC h (λ h=>zs<|zr<|yv h λ _ w h=>zm<|yc h TR λ _ w h=>zm<|zn<|zk<|Zk<|Zb<|Zf<|Zb<|Zi rfl rfl h) λ h=>zs<|zr<|yb h λ _ w h=>zm<|zn<|zk<|yC h (λ h=>?_) λ h=>?_
   · refine zs<|Zs<|yG 4<|yv h λ _ w h=>yv h λ _ w h=>yb h λ _ w h=>zm<|zn<|yg1 3 3 false [49,50,51] 51 h (λ _ T hT h=>?_) λ σ w h=>?_
     · refine yv h λ _ w h=>yv h λ _ w h=>yb h λ _ w h=>zn ?_
       exact zt hT h
     refine yG 2<|yp h λ _ h=>zm<|zn<|yg1 3 8 false [54,55,56] 56 h (λ _ T hT h=>?_) λ σ w h=>?_
     · refine yv h λ _ w h=>yv h λ _ w h=>yb h λ _ w h=>zn ?_
       exact zt hT h
     refine yG 2<|yp h λ _ h=>zm<|zn<|yg1 3 13 false [59,60,61] 61 h (λ _ T hT h=>?_) λ σ w h=>?_
     · refine yv h λ _ w h=>yv h λ _ w h=>yb h λ _ w h=>zn ?_
       exact zt hT h
     refine yG 1<|yp h λ _ h=>zn<|ZG<|zk<|yC h (λ h=>zs<|zr<|zm<|zn<|zk<|Zk<|Zb<|Zf<|Zb<|Zi rfl rfl h) λ h=>Zh<|zk ?_
     exact zt hkK2 h
   refine zs<|zr<|yb h λ _ w h=>zm<|zn<|zk<|yC h (λ h=>?_) λ h=>?_
   · refine zs<|Zs<|yG 4<|yv h λ _ w h=>yv h λ _ w h=>yb h λ _ w h=>zm<|zn<|yg1 3 3 false [69,70,71] 71 h (λ _ T hT h=>?_) λ σ w h=>?_
     · refine yv h λ _ w h=>yv h λ _ w h=>yb h λ _ w h=>zn ?_
       exact zt hT h
     refine yG 1<|yp h λ _ h=>zn<|ZG<|zk<|yC h (λ h=>zs<|zr<|zm<|zn<|zk<|Zk<|Zb<|Zf<|Zb<|Zi rfl rfl h) λ h=>Zh<|zk ?_
     exact zt hkK2 h
   refine zs<|zr<|yb h λ _ w h=>zm<|zn<|zk<|yC h (λ h=>?_) λ h=>?_
   · refine zs<|zs<|zr<|yv h λ _ w h=>yv h λ _ w h=>yv h λ _ w h=>zm<|yc h c53 λ _ w h=>yb h λ _ w h=>zn<|zk<|yC h (λ h=>zs<|zr<|zm<|zn<|zk<|Zk<|Zb<|Zb<|Zf<|Zb<|Zi rfl rfl h) λ h=>Zh<|zk ?_
     exact zs<|zr<|yv h λ _ w h=>zm<|yc h TR λ _ w h=>zm<|zn<|zk<|Zk<|Zb<|Zf<|Zb<|Zi rfl rfl h
   refine zs<|zr<|yb h λ _ w h=>zm<|zn<|zk<|yC h (λ h=>?_) λ h=>?_
   · refine zs<|zr<|yv h λ _ w h=>yv h λ _ w h=>yv h λ _ w h=>zm<|yc h c53 λ _ w h=>yb h λ _ w h=>zn<|zk<|yC h (λ h=>zs<|zr<|zm<|zn<|zk<|Zk<|Zb<|Zf<|Zb<|Zi rfl rfl h) λ h=>Zh<|zk ?_
     exact zt hkK2 h
   refine zs<|zr<|yb h λ _ w h=>zm<|zn<|zk<|yC h (λ h=>?_) λ h=>?_
   · refine zs<|zr<|yv h λ _ w h=>yv h λ _ w h=>yv h λ _ w h=>zm<|yc h c45 λ _ w h=>zm<|zn<|zk<|zs<|zs<|Zs<|yG 3<|zm ?_
     refine yb h λ _ w h=>zm<|zn<|yg1 7 2 false [102,103,104,105,106,107,108] 108 h (λ _ T hT h=>?_) λ σ w h=>?_
     · refine yv h λ _ w h=>yv h λ _ w h=>zm<|yv h λ _ w h=>yv h λ _ w h=>yc h c47 λ _ w h=>yv h λ _ w h=>zn ?_
       exact zt hT h
     refine yG 2<|yp h λ _ h=>zm<|zn<|yg1 5 11 false [111,112,113,114,115] 115 h (λ _ T hT h=>?_) λ σ w h=>?_
     · refine yv h λ _ w h=>yv h λ _ w h=>yv h λ _ w h=>zm<|yc h ZgE λ _ w h=>zn ?_
       exact zt hT h
     refine yG 1<|yp h λ _ h=>zn<|ZG<|zk<|yC h (λ h=>zs<|zr<|zm<|zn<|zk<|Zk<|Zb<|Zb<|Zf<|Zb<|Zi rfl rfl h) λ h=>Zh<|zk<|zs<|zr<|yv h λ _ w h=>yv h λ _ w h=>zm<|yv h λ _ w h=>?_
     refine yv h λ _ w h=>yc h ZbD λ _ w h=>zm<|yv h λ _ w h=>yv h λ _ w h=>zm<|zm<|zn<|zk<|zs<|zr<|yv h λ _ w h=>zm<|yv h λ _ w h=>zm ?_
     exact zm<|yc h ZfA λ _ w h=>zm<|zn<|zk<|Zk<|Zb<|Zf<|Zb<|Zi rfl rfl h
   refine zs<|zr<|yb h λ _ w h=>zm<|zn<|zk<|yC h (λ h=>?_) λ h=>?_
   · refine zs<|Zs<|yG 4<|yv h λ _ w h=>yv h λ _ w h=>yb h λ _ w h=>zm<|zn<|yg1 3 3 true [138,139,140] 140 h (λ _ T hT h=>?_) λ σ w h=>?_
     · refine yv h λ _ w h=>yv h λ _ w h=>yb h λ _ w h=>zn ?_
       exact zt hT h
     refine yG 2<|yp h λ _ h=>zm<|zn<|yg1 4 8 true [143,144,145,146] 146 h (λ _ T hT h=>?_) λ σ w h=>?_
     · refine yv h λ _ w h=>yv h λ _ w h=>yb h λ _ w h=>zm<|zn ?_
       exact zt hT h
     refine yg1 3 12 false [147,148,149] 149 h (λ _ T hT h=>?_) λ σ w h=>?_
     · refine yv h λ _ w h=>yv h λ _ w h=>yb h λ _ w h=>zn ?_
       exact zt hT h
     refine yg1 2 8 true [150,151] 151 h (λ _ T hT h=>?_) λ σ w h=>?_
     · refine yp h λ _ h=>zm<|zn ?_
       exact zt hT h
     refine yg1 4 17 false [152,153,154,155] 155 h (λ _ T hT h=>?_) λ σ w h=>?_
     · refine yv h λ _ w h=>yv h λ _ w h=>yb h λ _ w h=>yb h λ _ w h=>zn ?_
       exact zt hT h
     refine yg1 1 8 true [156] 156 h (λ _ T hT h=>?_) λ σ w h=>?_
     · refine yp h λ _ h=>zn ?_
       exact zt hT h
     refine yG 1<|yp h λ _ h=>zn<|ZG<|zk<|yC h (λ h=>zs<|zr<|zm<|zn<|zk<|Zk<|Zb<|Zf<|Zb<|Zi rfl rfl h) λ h=>Zh<|zk ?_
     exact zt hkK2 h
   refine zs<|zr<|yb h λ _ w h=>zm<|zn<|zk<|yC h (λ h=>?_) λ h=>?_
   · refine zs<|zs<|Zs<|yG 4<|yv h λ _ w h=>yv h λ _ w h=>yb h λ _ w h=>zm<|zn<|yg1 3 3 false [164,165,166] 166 h (λ _ T hT h=>?_) λ σ w h=>?_
     · refine yv h λ _ w h=>yv h λ _ w h=>yb h λ _ w h=>zn ?_
       exact zt hT h
     refine yG 1<|yp h λ _ h=>zn<|ZG<|zk<|yC h (λ h=>zs<|zr<|zm<|zn<|zk<|Zk<|Zb<|Zb<|Zf<|Zb<|Zi rfl rfl h) λ h=>Zh<|zk<|zs<|zr<|yv h λ _ w h=>yv h λ _ w h=>yv h λ _ w h=>zm ?_
     refine yc h c45 λ _ w h=>yb h λ _ w h=>zn<|zk<|yC h (λ h=>zs<|zr<|zm<|zn<|zk<|Zk<|Zb<|Zf<|Zb<|Zi rfl rfl h) λ h=>Zh<|zk ?_
     exact zt hkK2 h
   refine zs<|zr<|yb h λ _ w h=>zm<|zn<|zk<|yC h (λ h=>?_) λ h=>?_
   · refine zs<|zs<|Zs<|yG 4<|yv h λ _ w h=>yv h λ _ w h=>yb h λ _ w h=>zm<|zn<|yg1 3 3 false [180,181,182] 182 h (λ _ T hT h=>?_) λ σ w h=>?_
     · refine yv h λ _ w h=>yv h λ _ w h=>yb h λ _ w h=>zn ?_
       exact zt hT h
     refine yG 1<|yp h λ _ h=>zn<|ZG<|zk<|yC h (λ h=>zs<|zr<|zm<|zn<|zk<|Zk<|Zb<|Zb<|Zf<|Zb<|Zi rfl rfl h) λ h=>Zh<|zk<|zs<|zr<|yv h λ _ w h=>yv h λ _ w h=>yv h λ _ w h=>zm ?_
     refine yc h c53 λ _ w h=>zm<|zn<|zk<|zs<|zs<|Zs<|yG 3<|zm<|yb h λ _ w h=>zm<|zn<|yg1 7 2 false [192,193,194,195,196,197,198] 198 h (λ _ T hT h=>?_) λ σ w h=>?_
     · refine yv h λ _ w h=>zm<|yc h Ze6 λ _ w h=>zm<|yv h λ _ w h=>yv h λ _ w h=>yv h λ _ w h=>zn ?_
       exact zt hT h
     refine yG 1<|yp h λ _ h=>zn<|ZG<|zk<|yC h (λ h=>zs<|zr<|zm<|zn<|zk<|Zk<|Zb<|Zb<|Zf<|Zb<|Zi rfl rfl h) λ h=>Zh<|zk<|zs<|zr<|yv h λ _ w h=>zm<|yc h TR λ _ w h=>zm ?_
     exact zn<|zk<|Zk<|Zb<|Zf<|Zb<|Zi rfl rfl h
   refine Zh<|zk ?_
   exact zt hkK2 h
 exact Zg<|zk<|zs<|zr<|zm<|zn<|zk<|Zk<|Zi rfl rfl h
theorem OA (l:List ZD) (hd:xz l) (s:ByteArray):(ZC (ZK l) s).isSome=l.any λ m=>decide (m.name=s):=by
 rcases UG (Pn l) hd s with ⟨h1,h2⟩ | ⟨k,b,h1,_,_,h2⟩
 · rw [h2,← Y7,h1];rfl
 · rw [h2,← Y7,h1];simp
theorem EL {lo hi:Int}:Z1 34359738367 0 [lo,hi]=if Ws lo hi then 0 else 7:=by
 rw [xP]
 unfold Ws
 by_cases h1:0≤lo<;>by_cases h2:lo≤hi<;>by_cases h3:hi < 34359738368<;>simp [*]<;>omega
theorem Jj {hi n a:Int}:Z1 hi n [a]=if a < n∨hi < a then 7 else 0:=by
 by_cases h1:a < n<;>by_cases h2:hi < a<;>simp [Z1,Ya,orC, *]<;>omega
theorem Ft (w0:World) (v:Value) (d:YF) (n i:Nat) (m:ZD) (f:Zm) (hd:Yv w0 v d) (hm:d.msgs[n]?=some m) (hi:m.fields[i]?=some f) (hN:xz (d.msgs.take n)) (hR:Co d.msgs n) (hD:Ha (m.fields.take i)) (hb:UN d) (hn1:n≤1048576)
 (hg:∀ g∈m.fields.take i,YB g=true → -4611686018427387904≤g.low∧Y5 g≤4611686018427387904) (hk:1≤f.kind∧f.kind≤12) :
 Ret Pg 120 #[v,.int .i64 (n:Int),.int .i64 (i:Int)] w0 λ r w'=>r = .int .i64 (ZT (m.fields.take i) (vI (ZK (d.msgs.take n))) (vB (Z7 (d.msgs.take n))) f)∧Ext w0 w':=by
 obtain ⟨mv,rfl,hM⟩:=hd
 have hM0:=hM
 have hmem:=List.mem_of_getElem? hm
 have hfm:=List.mem_of_getElem? hi
 have hft:=(hb m hmem).2 f hfm
 refine ZeR (R:=ZQ _) ?_;unfold n35
 rw [Xk]
 have hBW:=ZS.new (w:=w0) (Zz d mv) (28)
 have eW:Ext w0 (w0.alloc (Obj.cells (List.toArray (Zz d mv)) (28))):=(Ext.refl _).alloc _
 generalize (w0.alloc (Obj.cells (List.toArray (Zz d mv)) (28)))=W at hBW eW ⊢
 obtain ⟨bm,om,cm,rfl,_,_,_,hnl,hel⟩:=UT hM hm
 obtain ⟨csm,_,hAm,hEm⟩:=hel n m hm
 obtain ⟨fv,rfl,hF⟩:=hEm
 have hF0:=hF
 have hf1:=Ze.oneCell hF
 simp (disch:=try exact DI) only [↓PR,QR,simprocAttr,hBW.c3 (Ext.refl W),hAm.c2 eW]
 have hBX:=ZS.new (w:=W) (Zx m fv) (24)
 have eX:Ext W (W.alloc (Obj.cells (List.toArray (Zx m fv)) (24))):=(Ext.refl _).alloc _
 generalize (W.alloc (Obj.cells (List.toArray (Zx m fv)) (24)))=X at hBX eX ⊢
 obtain ⟨bf,of,cf,rfl,_,_,_,hil,helf⟩:=UT hF hi
 obtain ⟨csf,_,hAf,hEf⟩:=helf i f hi
 obtain ⟨tv,cv,rfl,hT,hC,ht1,hc1⟩:=hEf.op
 simp (disch:=try exact DI) only [↓PR,QR,simprocAttr,hBX.c2 (Ext.refl X),hAf.c15 (eW.trans eX)]
 have hBY:=ZS.new (w:=X) (Zo f tv cv) (48)
 have eY:Ext X (X.alloc (Obj.cells (List.toArray (Zo f tv cv)) (48))):=(Ext.refl _).alloc _
 generalize (X.alloc (Obj.cells (List.toArray (Zo f tv cv)) (48)))=Y at hBY eY ⊢
 have hcY:=hBY.c15 (Ext.refl Y)
 have EY:Ext w0 Y:=eW.trans (eX.trans eY)
 have this:f.kind=1∨f.kind=2∨f.kind=3∨f.kind=4∨f.kind=5∨f.kind=6∨f.kind=7∨f.kind=8∨f.kind=9∨f.kind=10∨f.kind=11∨f.kind=12:=by omega
 have hdv:∀ w,Ext Y w→Yv w (.agg (Zz d (.slice (some ⟨bm,om,none⟩) d.msgs.length cm)).toArray) d:=λ w e=>⟨_,rfl,hM0.ext (EY.trans e)⟩
 have hmv:∀ w,Ext Y w→Xe w (.agg (Zx m (.slice (some ⟨bf,of,none⟩) m.fields.length cf)).toArray) m:=λ w e=>⟨_,rfl,hF0.ext (EY.trans e)⟩
 have hfv:∀ w,Ext Y w→ZV w (.agg (Zo f tv cv).toArray) f:=λ w e=>⟨_,_,rfl,hT.ext (EY.trans e),hC.ext (EY.trans e)⟩
 generalize hDD:vI (ZK (d.msgs.take n))=D
 generalize hSS:vB (Z7 (d.msgs.take n))=S
 rcases this with hk | hk | hk | hk | hk | hk | hk | hk | hk | hk | hk | hk
 all_goals rw [show Zo f tv cv=[.string f.name,.int .i64 f.kind,.int .i64 f.bits,.bool f.little,.bool f.loose,.int .i64 f.low,.int .i64 f.high,.int .i64 f.base,tv,.string f.of,.string f.tag,.string f.fr,cv,.int .i64 f.check,.int .i64 f.key] from rfl,hk] at hfv
 all_goals simp (disch:=try exact DI) only [↓PR,QR,simprocAttr,hcY,hBX.c2 eY,hBW.c3 (eX.trans eY),hk,↓QN,↓QX,↓QQ,↓QO,↓QU,↓QS,↓QM,↓QV,↓QW,↓Xx,↓Xr,↓XK,↓Xv,↓XA,↓XG,↓XF,↓Xy,↓Xz,↓Xm,↓XE,↓XH,↓XJ,↓XD,↓Xw,↓Xq,↓Xn,↓Xu,↓XB,↓Xo,↓XI,↓XC,↓Xt]
 · have hcc:ZT (m.fields.take i) D S f=xH f:=by rw [Mx hk];unfold ZT;rw [hk];rfl
   refine zcr (yH _ _ f (hfv _ (Ext.refl Y))) λ w1 e1=>?_
   exact ⟨_,rfl,by rw [hcc],EY.trans e1⟩
 · have hcc:ZT (m.fields.take i) D S f=xH f:=by rw [N6 hk];unfold ZT;rw [hk];rfl
   refine zcr (yH _ _ f (hfv _ (Ext.refl Y))) λ w1 e1=>?_
   exact ⟨_,rfl,by rw [hcc],EY.trans e1⟩
 · have hcc:ZT (m.fields.take i) D S f=if Ws f.low f.high then 0 else 7:=by rw [← EL];unfold ZT;rw [hk];rfl
   refine zcr (Lc _ _ _) λ w1 e1=>?_
   cases hw:Ws f.low f.high<;>rw [hw] at hcc<;>simp (disch:=try exact DI) only [↓PR,QR,simprocAttr]<;>exact ⟨by rw [hcc];rfl,EY.trans e1⟩
 · have hcc:ZT (m.fields.take i) D S f=QA (YS (m.fields.take i)) f:=by unfold ZT;rw [hk];rfl
   refine zcr (JQ _ _ m i f (hmv _ (Ext.refl Y)) hi hD hft) λ w1 e1=>?_
   exact ⟨_,rfl,by rw [hcc],EY.trans e1⟩
 · have hcc:ZT (m.fields.take i) D S f=if (decide (f.low < 0)||decide (255 < f.low)||decide (f.high < 0)||decide (1048576 < f.high)) then 7 else 0:=by
    rw [show ZT (m.fields.take i) D S f=orC (Z1 255 0 [f.low]) (Z1 1048576 0 [f.high]) by unfold ZT;rw [hk];rfl,Jj,Jj]
    by_cases h1:f.low < 0<;>by_cases h2:255 < f.low<;>by_cases h3:f.high < 0<;>by_cases h4:1048576 < f.high<;>simp [orC, *]
   refine We (λ h=>⟨_,rfl,by rw [hcc,if_pos h],EY⟩) (λ h=>⟨_,rfl,by rw [hcc,if_neg (by rw [h];decide)],EY⟩)
 · have hcc:ZT (m.fields.take i) D S f=if (decide (f.high < 2)||decide (1048576 < f.high)) then 7 else 0:=by
    rw [show ZT (m.fields.take i) D S f=Z1 1048576 2 [f.high] by unfold ZT;rw [hk];rfl,Jj]
    by_cases h3:f.high < 2<;>by_cases h4:1048576 < f.high<;>simp [orC, *]
   refine We (λ h=>⟨_,rfl,by rw [hcc,if_pos h],EY⟩) (λ h=>⟨_,rfl,by rw [hcc,if_neg (by rw [h];decide)],EY⟩)
 · have hcc:ZT (m.fields.take i) D S f=orC (Ya (Yh (vI (ZK (d.msgs.take n))) f.of).isSome 8) (QA (YS (m.fields.take i)) f):=by rw [← hDD];unfold ZT;rw [hk];rfl
   refine zcr (Qk _ _ d f.of n (hdv _ (Ext.refl Y)) (Nat.le_of_lt hnl)) λ w1 e1=>?_
   have hdi:=Kc (p:=λ m:ZD=>decide (m.name=f.of)) (l:=d.msgs.take n)
   rw [Wh,Option.isSome_map,OA _ hN] at hcc
   cases hs:(d.msgs.take n).any (λ m=>decide (m.name=f.of)) with
   | false =>
    rw [hs] at hdi hcc
    simp (disch:=try exact DI) only [↓PR,QR,simprocAttr,hdi,↓QN,↓QX,↓QQ,↓QO,↓QU,↓QS,↓QM,↓QV,↓QW,↓Xx,↓Xr,↓XK,↓Xv,↓XA,↓XG,↓XF,↓Xy,↓Xz,↓Xm,↓XE,↓XH,↓XJ,↓XD,↓Xw,↓Xq,↓Xn,↓Xu,↓XB,↓Xo,↓XI,↓XC,↓Xt]
    exact ⟨by rw [hcc];rfl,EY.trans e1⟩
   | true =>
    rw [hs] at hdi hcc
    simp (disch:=try exact DI) only [↓PR,QR,simprocAttr,hdi,hBX.c2 (eY.trans e1),↓QN,↓QX,↓QQ,↓QO,↓QU,↓QS,↓QM,↓QV,↓QW,↓Xx,↓Xr,↓XK,↓Xv,↓XA,↓XG,↓XF,↓Xy,↓Xz,↓Xm,↓XE,↓XH,↓XJ,↓XD,↓Xw,↓Xq,↓Xn,↓Xu,↓XB,↓Xo,↓XI,↓XC,↓Xt]
    refine zcr (JQ _ _ m i f (hmv _ e1) hi hD hft) λ w2 e2=>?_
    exact ⟨_,rfl,by rw [hcc];rfl,EY.trans (e1.trans e2)⟩
 · have hcc:ZT (m.fields.take i) D S f=Ya (Yh (vI (ZK (d.msgs.take n))) f.of).isSome 8:=by rw [← hDD];unfold ZT;rw [hk];rfl
   refine zcr (Qk _ _ d f.of n (hdv _ (Ext.refl Y)) (Nat.le_of_lt hnl)) λ w1 e1=>?_
   have hdi:=Kc (p:=λ m:ZD=>decide (m.name=f.of)) (l:=d.msgs.take n)
   rw [Wh,Option.isSome_map,OA _ hN] at hcc
   cases hs:(d.msgs.take n).any (λ m=>decide (m.name=f.of)) with
   | false =>
    rw [hs] at hdi hcc
    simp (disch:=try exact DI) only [↓PR,QR,simprocAttr,hdi,↓QN,↓QX,↓QQ,↓QO,↓QU,↓QS,↓QM,↓QV,↓QW,↓Xx,↓Xr,↓XK,↓Xv,↓XA,↓XG,↓XF,↓Xy,↓Xz,↓Xm,↓XE,↓XH,↓XJ,↓XD,↓Xw,↓Xq,↓Xn,↓Xu,↓XB,↓Xo,↓XI,↓XC,↓Xt]
    exact ⟨by rw [hcc];rfl,EY.trans e1⟩
   | true =>
    rw [hs] at hdi hcc
    simp (disch:=try exact DI) only [↓PR,QR,simprocAttr,hdi,↓QN,↓QX,↓QQ,↓QO,↓QU,↓QS,↓QM,↓QV,↓QW,↓Xx,↓Xr,↓XK,↓Xv,↓XA,↓XG,↓XF,↓Xy,↓Xz,↓Xm,↓XE,↓XH,↓XJ,↓XD,↓Xw,↓Xq,↓Xn,↓Xu,↓XB,↓Xo,↓XI,↓XC,↓Xt]
    exact ⟨by rw [hcc];rfl,EY.trans e1⟩
 · have hcc:ZT (m.fields.take i) D S f=WB (m.fields.take i) (vI (ZK (d.msgs.take n))) f:=by rw [← hDD];unfold ZT;rw [hk];rfl
   refine zcr (UB _ _ m f.tag i (hmv _ (Ext.refl Y)) (Nat.le_of_lt hil)) λ w1 e1=>?_
   have E1:=EY.trans e1
   unfold WB at hcc
   rcases Bu hD f.tag with ⟨h1,h2⟩ | ⟨k,g,h1,h2,h3⟩
   · rw [h1]
     rw [h2] at hcc
     simp (disch:=try exact DI) only [↓PR,QR,simprocAttr,↓QN,↓QX,↓QQ,↓QO,↓QU,↓QS,↓QM,↓QV,↓QW,↓Xx,↓Xr,↓XK,↓Xv,↓XA,↓XG,↓XF,↓Xy,↓Xz,↓Xm,↓XE,↓XH,↓XJ,↓XD,↓Xw,↓Xq,↓Xn,↓Xu,↓XB,↓Xo,↓XI,↓XC,↓Xt]
     exact ⟨by rw [hcc];rfl,E1⟩
   · have hgk:=GN h2
     have hgm:=List.mem_of_getElem? h2
     obtain ⟨csg,_,hAg,hEg⟩:=helf k g hgk
     have hkl:k < m.fields.length:=(List.getElem?_eq_some_iff.1 hgk).1
     obtain ⟨tg,cg,rfl,hTg,hCg,_,_⟩:=hEg.op
     have hd0:decide ((k:Int) < 0)=false:=by simp
     rw [h1]
     simp (disch:=try exact DI) only [↓PR,QR,simprocAttr,hd0,hBX.c2 (eY.trans e1),hAg.c15 E1,↓QN,↓QX,↓QQ,↓QO,↓QU,↓QS,↓QM,↓QV,↓QW,↓Xx,↓Xr,↓XK,↓Xv,↓XA,↓XG,↓XF,↓Xy,↓Xz,↓Xm,↓XE,↓XH,↓XJ,↓XD,↓Xw,↓Xq,↓Xn,↓Xu,↓XB,↓Xo,↓XI,↓XC,↓Xt]
     refine zcr (yK _ _ g ⟨_,_,rfl,hTg.ext E1,hCg.ext E1⟩) λ w2 e2=>?_
     cases hng:YB g with
     | false =>
      rw [hng,if_neg (by simp)] at h3
      rw [h3] at hcc
      simp (disch:=try exact DI) only [↓PR,QR,simprocAttr,hd0,↓QN,↓QX,↓QQ,↓QO,↓QU,↓QS,↓QM,↓QV,↓QW,↓Xx,↓Xr,↓XK,↓Xv,↓XA,↓XG,↓XF,↓Xy,↓Xz,↓Xm,↓XE,↓XH,↓XJ,↓XD,↓Xw,↓Xq,↓Xn,↓Xu,↓XB,↓Xo,↓XI,↓XC,↓Xt]
      exact ⟨by rw [hcc];rfl,E1.trans e2⟩
     | true =>
     rw [hng,if_pos rfl] at h3
     rw [h3] at hcc
     have f2:Ext Y w2:=e1.trans e2
     simp (disch:=try exact DI) only [↓PR,QR,simprocAttr,hd0,hBX.c2 (eY.trans f2),hBY.c15 f2,↓QN,↓QX,↓QQ,↓QO,↓QU,↓QS,↓QM,↓QV,↓QW,↓Xx,↓Xr,↓XK,↓Xv,↓XA,↓XG,↓XF,↓Xy,↓Xz,↓Xm,↓XE,↓XH,↓XJ,↓XD,↓Xw,↓Xq,↓Xn,↓Xu,↓XB,↓Xo,↓XI,↓XC,↓Xt]
     refine zcr (Ea _ _ m f.tag i (hmv _ f2) (Nat.le_of_lt hil)) λ w3 e3=>?_
     have f3:=f2.trans e3
     cases htg:(m.fields.take i).any (QB f.tag) with
     | true =>
      rw [htg] at hcc
      simp (disch:=try exact DI) only [↓PR,QR,simprocAttr,hd0,↓QN,↓QX,↓QQ,↓QO,↓QU,↓QS,↓QM,↓QV,↓QW,↓Xx,↓Xr,↓XK,↓Xv,↓XA,↓XG,↓XF,↓Xy,↓Xz,↓Xm,↓XE,↓XH,↓XJ,↓XD,↓Xw,↓Xq,↓Xn,↓Xu,↓XB,↓Xo,↓XI,↓XC,↓Xt]
      exact ⟨by rw [hcc];rfl,EY.trans f3⟩
     | false =>
     rw [htg] at hcc
     simp (disch:=try exact DI) only [↓PR,QR,simprocAttr,hd0,hBX.c2 (eY.trans f3),hAg.c15 (EY.trans f3),↓QN,↓QX,↓QQ,↓QO,↓QU,↓QS,↓QM,↓QV,↓QW,↓Xx,↓Xr,↓XK,↓Xv,↓XA,↓XG,↓XF,↓Xy,↓Xz,↓Xm,↓XE,↓XH,↓XJ,↓XD,↓Xw,↓Xq,↓Xn,↓Xu,↓XB,↓Xo,↓XI,↓XC,↓Xt]
     refine zcr (Ae _ _ g ⟨_,_,rfl,hTg.ext (EY.trans f3),hCg.ext (EY.trans f3)⟩) λ w4 e4=>?_
     have f4:=f3.trans e4
     simp (disch:=try exact DI) only [↓PR,QR,simprocAttr,hBW.c3 (eX.trans (eY.trans f4)),hBY.c15 f4,↓QN,↓QX,↓QQ,↓QO,↓QU,↓QS,↓QM,↓QV,↓QW,↓Xx,↓Xr,↓XK,↓Xv,↓XA,↓XG,↓XF,↓Xy,↓Xz,↓Xm,↓XE,↓XH,↓XJ,↓XD,↓Xw,↓Xq,↓Xn,↓Xu,↓XB,↓Xo,↓XI,↓XC,↓Xt]
     have hgb:=hg g hgm hng
     refine zcr (Fh _ _ _ d n f g.low (Y5 g) (ZK (d.msgs.take n)) (hdv _ f4) (Nat.le_of_lt hnl) ⟨_,_,rfl,hT.ext (EY.trans f4),hC.ext (EY.trans f4)⟩ (OA _ hN) hgb.1 hgb.2) λ w5 e5=>?_
     exact ⟨_,rfl,by rw [hcc];rfl,EY.trans (f4.trans e5)⟩
 · have hcc:ZT (m.fields.take i) D S f=Ya (As f) 6:=by unfold ZT;rw [hk];rfl
   have hP:As f=!((f.bits != 2&&f.bits != 4)&&(decide (f.bits < 8)||decide (512 < f.bits)||f.bits.tmod 8 != 0)):=by
    unfold As
    rw [show decide (f.bits < 8)=!decide (8≤f.bits) by rw [Bool.eq_iff_iff];simp,show decide (512 < f.bits)=!decide (f.bits≤512) by rw [Bool.eq_iff_iff];simp,bne,bne,bne]
    generalize (f.bits == 2)=a1
    generalize (f.bits == 4)=a2
    generalize decide (8≤f.bits)=a3
    generalize decide (f.bits≤512)=a4
    generalize (f.bits.tmod 8 == 0)=a5
    cases a1<;>cases a2<;>cases a3<;>cases a4<;>cases a5<;>rfl
   rw [hP] at hcc
   clear hP
   repeat' first
    | exact ⟨by rw [hcc];rfl,EY⟩
    | (refine VV (λ hg=>?_) (λ hg=>?_)<;>(try rw [hg] at hcc)<;>simp (disch:=try exact DI) only [↓PR,QR,simprocAttr,hg,hcY,↓QN,↓QX,↓QQ,↓QO,↓QU,↓QS,↓QM,↓QV,↓QW,↓Xx,↓Xr,↓XK,↓Xv,↓XA,↓XG,↓XF,↓Xy,↓Xz,↓Xm,↓XE,↓XH,↓XJ,↓XD,↓Xw,↓Xq,↓Xn,↓Xu,↓XB,↓Xo,↓XI,↓XC,↓Xt])
    | (refine We (λ hg=>?_) (λ hg=>?_)<;>(try rw [hg] at hcc)<;>simp (disch:=try exact DI) only [↓PR,QR,simprocAttr,hg,↓QN,↓QX,↓QQ,↓QO,↓QU,↓QS,↓QM,↓QV,↓QW,↓Xx,↓Xr,↓XK,↓Xv,↓XA,↓XG,↓XF,↓Xy,↓Xz,↓Xm,↓XE,↓XH,↓XJ,↓XD,↓Xw,↓Xq,↓Xn,↓Xu,↓XB,↓Xo,↓XI,↓XC,↓Xt])
 · have hcc:ZT (m.fields.take i) D S f=orC (Z1 3 1 [f.check]) (Ya ((m.fields.take i).any λ o=>decide (o.name=f.fr)) 8):=by unfold ZT;rw [hk];rfl
   rw [Jj] at hcc
   refine We (λ h=>⟨_,rfl,by rw [hcc,if_pos (by simpa using h)];rfl,EY⟩) (λ h=>?_)
   rw [if_neg (by simpa using h)] at hcc
   simp (disch:=try exact DI) only [↓PR,QR,simprocAttr,hBX.c2 eY,hcY,↓QN,↓QX,↓QQ,↓QO,↓QU,↓QS,↓QM,↓QV,↓QW,↓Xx,↓Xr,↓XK,↓Xv,↓XA,↓XG,↓XF,↓Xy,↓Xz,↓Xm,↓XE,↓XH,↓XJ,↓XD,↓Xw,↓Xq,↓Xn,↓Xu,↓XB,↓Xo,↓XI,↓XC,↓Xt]
   refine zcr (UB _ _ m f.fr i (hmv _ (Ext.refl Y)) (Nat.le_of_lt hil)) λ w1 e1=>?_
   have hdi:=Kc (p:=λ m:Zm=>decide (m.name=f.fr)) (l:=m.fields.take i)
   cases hs:(m.fields.take i).any (λ m=>decide (m.name=f.fr))<;>rw [hs] at hdi hcc<;>simp (disch:=try exact DI) only [↓PR,QR,simprocAttr,hdi,↓QN,↓QX,↓QQ,↓QO,↓QU,↓QS,↓QM,↓QV,↓QW,↓Xx,↓Xr,↓XK,↓Xv,↓XA,↓XG,↓XF,↓Xy,↓Xz,↓Xm,↓XE,↓XH,↓XJ,↓XD,↓Xw,↓Xq,↓Xn,↓Xu,↓XB,↓Xo,↓XI,↓XC,↓Xt]<;>exact ⟨by rw [hcc];rfl,EY.trans e1⟩
 · have hcc:ZT (m.fields.take i) D S f=orC (Z1 4294967295 0 [f.key]) (orC (Ya (Ci (vB (Z7 (d.msgs.take n))) f.of) 8) (QA (YS (m.fields.take i)) f)):=by rw [← hSS];unfold ZT;rw [hk];rfl
   rw [Jj,BZ] at hcc
   refine We (λ h=>⟨_,rfl,by rw [hcc,if_pos (by simpa using h)];rfl,EY⟩) (λ h=>?_)
   rw [if_neg (by simpa using h)] at hcc
   simp (disch:=try exact DI) only [↓PR,QR,simprocAttr,hBW.c3 (eX.trans eY),hcY,↓QN,↓QX,↓QQ,↓QO,↓QU,↓QS,↓QM,↓QV,↓QW,↓Xx,↓Xr,↓XK,↓Xv,↓XA,↓XG,↓XF,↓Xy,↓Xz,↓Xm,↓XE,↓XH,↓XJ,↓XD,↓Xw,↓Xq,↓Xn,↓Xu,↓XB,↓Xo,↓XI,↓XC,↓Xt]
   refine zcr (Qk _ _ d f.of n (hdv _ (Ext.refl Y)) (Nat.le_of_lt hnl)) λ w1 e1=>?_
   rcases UG (M5 (d.msgs.take n)) hN f.of with ⟨h1,h2⟩ | ⟨k,b,h1,_,h3,h4⟩
   · rw [h1]
     rw [h2] at hcc
     simp (disch:=try exact DI) only [↓PR,QR,simprocAttr,↓QN,↓QX,↓QQ,↓QO,↓QU,↓QS,↓QM,↓QV,↓QW,↓Xx,↓Xr,↓XK,↓Xv,↓XA,↓XG,↓XF,↓Xy,↓Xz,↓Xm,↓XE,↓XH,↓XJ,↓XD,↓Xw,↓Xq,↓Xn,↓Xu,↓XB,↓Xo,↓XI,↓XC,↓Xt]
     exact ⟨by rw [hcc];rfl,EY.trans e1⟩
   · rw [h1]
     rw [h4] at hcc
     have hd0:decide ((k:Int) < 0)=false:=by simp
     simp (disch:=try exact DI) only [↓PR,QR,simprocAttr,hd0,hBW.c3 (eX.trans (eY.trans e1)),↓QN,↓QX,↓QQ,↓QO,↓QU,↓QS,↓QM,↓QV,↓QW,↓Xx,↓Xr,↓XK,↓Xv,↓XA,↓XG,↓XF,↓Xy,↓Xz,↓Xm,↓XE,↓XH,↓XJ,↓XD,↓Xw,↓Xq,↓Xn,↓Xu,↓XB,↓Xo,↓XI,↓XC,↓Xt]
     refine Zt (B1 _ _ d n (hdv _ e1) (Nat.le_of_lt hnl) hN hR (λ m hm=>(hb m hm).1) hn1) ?_
     rintro _ w2 ⟨hO,e2⟩
     have hq:((Z7 (d.msgs.take n)).map (·.2))[k]?=some b:=by rw [List.getElem?_map,h3];rfl
     obtain ⟨bo,oo,co,rfl,_,_,_,hql,helo⟩:=UT hO hq
     obtain ⟨cso,_,hAo,rfl⟩:=helo k b hq
     cases b with
     | false =>
      simp (disch:=try exact DI) only [↓PR,QR,simprocAttr,hd0,hAo.c1 (Ext.refl _),↓QN,↓QX,↓QQ,↓QO,↓QU,↓QS,↓QM,↓QV,↓QW,↓Xx,↓Xr,↓XK,↓Xv,↓XA,↓XG,↓XF,↓Xy,↓Xz,↓Xm,↓XE,↓XH,↓XJ,↓XD,↓Xw,↓Xq,↓Xn,↓Xu,↓XB,↓Xo,↓XI,↓XC,↓Xt]
      exact ⟨by rw [hcc];rfl,EY.trans (e1.trans e2)⟩
     | true =>
      simp (disch:=try exact DI) only [↓PR,QR,simprocAttr,hd0,hAo.c1 (Ext.refl _),hBX.c2 (eY.trans (e1.trans e2)),↓QN,↓QX,↓QQ,↓QO,↓QU,↓QS,↓QM,↓QV,↓QW,↓Xx,↓Xr,↓XK,↓Xv,↓XA,↓XG,↓XF,↓Xy,↓Xz,↓Xm,↓XE,↓XH,↓XJ,↓XD,↓Xw,↓Xq,↓Xn,↓Xu,↓XB,↓Xo,↓XI,↓XC,↓Xt]
      refine zcr (JQ _ _ m i f (hmv _ (e1.trans e2)) hi hD hft) λ w3 e3=>?_
      exact ⟨_,rfl,by rw [hcc];rfl,EY.trans (e1.trans (e2.trans e3))⟩
theorem F2 (w0:World) (v:Value) (d:YF) (n i:Nat) (m:ZD) (f:Zm) (hd:Yv w0 v d) (hm:d.msgs[n]?=some m) (hi:m.fields[i]?=some f) (hN:xz (d.msgs.take n)) (hR:Co d.msgs n) (hD:Ha (m.fields.take i)) (hb:UN d) (hn1:n≤1048576)
 (hg:∀ g∈m.fields.take i,YB g=true → -4611686018427387904≤g.low∧Y5 g≤4611686018427387904) :
 Ret Pg 90 #[v,.int .i64 (n:Int),.int .i64 (i:Int)] w0 λ r w'=>r = .int .i64 (YH (m.fields.take i) (vI (ZK (d.msgs.take n))) (vB (Z7 (d.msgs.take n))) f)∧Ext w0 w':=by
 obtain ⟨mv,rfl,hM⟩:=hd
 have hM0:=hM
 refine Zd8 (R:=ZQ _) ?_;unfold n33
 rw [Xk]
 have hBW:=ZS.new (w:=w0) (Zz d mv) (28)
 have eW:Ext w0 (w0.alloc (Obj.cells (List.toArray (Zz d mv)) (28))):=(Ext.refl _).alloc _
 generalize (w0.alloc (Obj.cells (List.toArray (Zz d mv)) (28)))=W at hBW eW ⊢
 obtain ⟨bm,om,cm,rfl,_,_,_,hnl,hel⟩:=UT hM hm
 obtain ⟨csm,_,hAm,hEm⟩:=hel n m hm
 obtain ⟨fv,rfl,hF⟩:=hEm
 have hF0:=hF
 obtain ⟨bf,of,cf,rfl,_,_,_,hil,helf⟩:=UT hF hi
 obtain ⟨csf,_,hAf,hEf⟩:=helf i f hi
 obtain ⟨tv,cv,rfl,hT,hC,ht1,hc1⟩:=hEf.op
 simp (disch:=try exact DI) only [↓PR,QR,simprocAttr,hBW.c3 (Ext.refl W),hAm.c2 eW,hAf.c15 eW]
 have hBX:=ZS.new (w:=W) (Zo f tv cv) (48)
 have eX:Ext W (W.alloc (Obj.cells (List.toArray (Zo f tv cv)) (48))):=(Ext.refl _).alloc _
 generalize (W.alloc (Obj.cells (List.toArray (Zo f tv cv)) (48)))=X at hBX eX ⊢
 have EX:Ext w0 X:=eW.trans eX
 unfold YH
 refine zcr (Jl _ _) λ w1 e1=>?_
 have E1:=EX.trans e1
 cases hnm:XT f.name with
 | false=>simp (disch:=try exact DI) only [↓PR,QR,simprocAttr];exact ⟨rfl,E1⟩
 | true =>
 simp (disch:=try exact DI) only [↓PR,QR,simprocAttr]
 refine ZI ?_
 simp (disch:=try exact DI) only [↓PR,QR,simprocAttr,hBW.c3 (eX.trans e1),hBX.c15 e1,hAm.c2 E1,↓BK,↓BB,↓AZ,↓Bs]
 refine zcr (UB _ _ m f.name i ⟨_,rfl,hF0.ext E1.drew⟩ (Nat.le_of_lt hil)) λ w2 e2=>?_
 have e12:=e1.drew.trans e2
 refine ⟨e2,?_⟩
 have hdi:=Y7 (p:=λ m:Zm=>decide (m.name=f.name)) (l:=m.fields.take i)
 cases hs:(m.fields.take i).any (λ m=>decide (m.name=f.name)) with
 | true =>
  rw [hs] at hdi
  simp (disch:=try exact DI) only [↓PR,QR,simprocAttr,hdi,↓BK,↓BB,↓AZ,↓Bs]
  exact ⟨rfl,EX.trans e12⟩
 | false =>
 rw [hs] at hdi
 simp (disch:=try exact DI) only [↓PR,QR,simprocAttr,hdi,hBX.c15 e12,↓BK,↓BB,↓AZ,↓Bs]
 have hkk:(decide (f.kind < 1)||decide (12 < f.kind))=!decide (1≤f.kind∧f.kind≤12):=by
  rw [Bool.eq_iff_iff];simp only [Bool.or_eq_true,decide_eq_true_eq,Bool.not_eq_true',decide_eq_false_iff_not];omega
 rw [hkk]
 cases hk:decide (1≤f.kind∧f.kind≤12) with
 | false=>simp (disch:=try exact DI) only [↓PR,QR,simprocAttr];exact ⟨rfl,EX.trans e12⟩
 | true =>
 have hk':1≤f.kind∧f.kind≤12:=by simpa using hk
 simp (disch:=try exact DI) only [↓PR,QR,simprocAttr,hBX.c15 e12]
 refine zcr (Mo _ _ f ⟨_,_,rfl,hT.ext (EX.trans e12),hC.ext (EX.trans e12)⟩ hk') λ w3 e3=>?_
 have e13:=e12.trans e3
 rw [EE hk']
 cases hz:decide (YA f=Kd f) with
 | false=>simp (disch:=try exact DI) only [↓PR,QR,simprocAttr,↓BK,↓BB,↓AZ,↓Bs];exact ⟨rfl,EX.trans e13⟩
 | true =>
 simp (disch:=try exact DI) only [↓PR,QR,simprocAttr,hBW.c3 (eX.trans e13),↓BK,↓BB,↓AZ,↓Bs]
 refine zcr (Ft _ _ d n i m f ⟨_,rfl,hM0.ext (EX.trans e13)⟩ hm hi hN hR hD hb hn1 hg hk') λ w4 e4=>?_
 exact ⟨_,rfl,rfl,EX.trans (e13.trans e4)⟩
theorem YL.dist {l:List ZD} (h:YL l):xz l:=by
 refine List.pairwise_iff_getElem.2 λ i j hi hj hij hn=>?_
 have h6:=(Vz (h.next (List.getElem?_eq_getElem hj))).2.1
 rw [← Option.not_isSome_iff_eq_none,isD] at h6
 exact h6 ⟨l[i],List.mem_of_getElem? (i:=i) (by rw [List.getElem?_take,if_pos hij];exact List.getElem?_eq_getElem hi),hn⟩
theorem Bm {deps:List (ByteArray×Int)} {strs:List (ByteArray×Bool)} (hds:∀ s,(ZC strs s).isSome=true→(ZC deps s).isSome=true) {m:ZD} (h:(Y2 deps strs [] m.fields).2=0):∀ s∈QT m,(ZC deps s).isSome=true :=
 λ s hs=>(Kg (Sub.refl _) (Sub.refl _) hds _ _ h).2 s (Bw hs)
theorem Rs {l:List ZD} {s:ByteArray} (h:(ZC (ZK l) s).isSome=true):(l.any λ m=>decide (m.name=s))=true:=by
 obtain ⟨m,hm,hn⟩:=isD.1 h
 exact List.any_eq_true.2 ⟨m,hm,by simpa using hn⟩
theorem YL.refsIn {l:List ZD} {n:Nat} (h:YL (l.take n)):Co l n:=by
 intro k m hk hm s hs
 have hm':(l.take n)[k]?=some m:=by rw [List.getElem?_take,if_pos hk];exact hm
 obtain ⟨_,_,_,h4,_⟩:=Vz (h.next hm')
 rw [List.take_take,Nat.min_eq_left (by omega)] at h4
 exact Rs (Bm (Pv _) h4 s hs)
def JK (deps:List (ByteArray×Int)) (strs:List (ByteArray×Bool)) (l:List Zm):Prop:=∀ (j:Nat) (f:Zm),l[j]?=some f→YH (l.take j) (vI deps) (vB strs) f=0
section
variable {deps:List (ByteArray×Int)} {strs:List (ByteArray×Bool)} {l:List Zm}
theorem jr {bef:List Zm} {D S:List (ByteArray×Value)} {f:Zm} (h:YH bef D S f=0):(bef.any λ o=>decide (o.name=f.name))=false∧ZT bef D S f=0:=by
 unfold YH at h
 obtain ⟨_,h⟩:=X9.1 h
 obtain ⟨h2,h⟩:=X9.1 h
 obtain ⟨_,h⟩:=X9.1 h
 obtain ⟨_,h⟩:=X9.1 h
 exact ⟨by simpa using (Qm (by decide)).1 h2,h⟩
theorem JK.dist (h:JK deps strs l):Ha l:=by
 refine List.pairwise_iff_getElem.2 λ i j hi hj hij hn=>?_
 have h6:=(jr (h j _ (List.getElem?_eq_getElem hj))).1
 rw [List.any_eq_false] at h6
 exact h6 l[i] (List.mem_of_getElem? (i:=i) (by rw [List.getElem?_take,if_pos hij];exact List.getElem?_eq_getElem hi)) (by simpa using hn)
theorem JK.step {k:Nat} {f:Zm} (h:JK deps strs (l.take k)) (hk:l[k]?=some f) (hf:YH (l.take k) (vI deps) (vB strs) f=0):JK deps strs (l.take (k+1)):=by
 intro j g hg
 rw [List.getElem?_take] at hg
 split at hg
 · rename_i hj
   rw [List.take_take,Nat.min_eq_left (by omega)]
   by_cases hjk:j=k
   · subst hjk;rw [hk] at hg;injection hg with hg;subst hg;exact hf
   · have:=h j g (by rw [List.getElem?_take,if_pos (by omega)];exact hg)
     rwa [List.take_take,Nat.min_eq_left (by omega)] at this
 · cases hg
theorem Er {n:Int} (h1:1≤n) (h2:n≤32):(2:Int) ^ n.toNat≤4294967296:=by
 have hle:n.toNat≤32:=by omega
 have hq:(2:Nat) ^ n.toNat≤2 ^ 32:=Nat.pow_le_pow_right (by decide) hle
 have hc:(2:Int) ^ n.toNat=((2 ^ n.toNat:Nat):Int):=by simp
 rw [hc]
 have:(2:Nat) ^ 32=4294967296:=rfl
 omega
theorem FW {bef:List Zm} {D S:List (ByteArray×Value)} {g:Zm} (h:ZT bef D S g=0) (hn:YB g=true):0≤g.low∧g.low≤Y5 g∧Y5 g≤34359738367:=by
 unfold YB at hn
 simp only [Bool.or_eq_true,beq_iff_eq] at hn
 unfold Y5
 rcases hn with (hk | hk) | hk
 · rw [show ZT bef D S g=orC (Ya (Xg g) 6) (Z1 (U2 g) 0 [g.low,g.high]) by unfold ZT;rw [hk];rfl] at h
   obtain ⟨h1,h2⟩:=X9.1 h
   have hb:=(Qm (by decide)).1 h1
   unfold Xg at hb
   simp only [Bool.and_eq_true,decide_eq_true_eq] at hb
   have hp:=Er hb.1.1 hb.1.2
   rw [xP] at h2
   unfold U2 at h2
   split at h2
   · cases h2
   · rw [hk]
     show 0≤g.low∧g.low≤g.high∧g.high≤34359738367
     omega
 · rw [show ZT bef D S g=orC (Ya (Xg g) 6) (Z1 (U2 g) 0 [g.low]) by unfold ZT;rw [hk];rfl] at h
   obtain ⟨h1,h2⟩:=X9.1 h
   have hb:=(Qm (by decide)).1 h1
   unfold Xg at hb
   simp only [Bool.and_eq_true,decide_eq_true_eq] at hb
   have hp:=Er hb.1.1 hb.1.2
   rw [Jj] at h2
   unfold U2 at h2
   split at h2
   · cases h2
   · rw [hk]
     show 0≤g.low∧g.low≤g.low∧g.low≤34359738367
     omega
 · rw [show ZT bef D S g=Z1 34359738367 0 [g.low,g.high] by unfold ZT;rw [hk];rfl,xP] at h
   split at h
   · cases h
   · rw [hk]
     show 0≤g.low∧g.low≤g.high∧g.high≤34359738367
     omega
theorem JK.bounds (h:JK deps strs l):∀ g∈l,YB g=true → -4611686018427387904≤g.low∧Y5 g≤4611686018427387904:=by
 intro g hg hn
 obtain ⟨j,hj⟩:=List.getElem?_of_mem hg
 have:=FW (jr (h j g hj)).2 hn
 omega
end
def Kw (w:World) (b:Nat) (L:List Int):Prop:=w.heap[b]?=some (.cells (L.map λ n=>Value.int .i64 n).toArray 3 (0,0))
theorem Kw.ext {w w':World} {b:Nat} {L:List Int} (h:Kw w b L) (e:Ext w w'):Kw w' b L:=e.obj h
theorem Kw.cell {w:World} {b:Nat} {L:List Int} (h:Kw w b L) {k:Nat} {n:Int} (hk:L[k]?=some n):w.cell? ⟨b,k*1,none⟩=some (.int .i64 n):=by
 rw [(Za h).1];simp [hk]
theorem Kw.free {w:World} {b:Nat} {L:List Int} (h:Kw w b L) (k:Nat):w.frozen? ⟨b,k,none⟩=false:=(Za h).2 k
theorem Kw.set {w:World} {b:Nat} {L:List Int} (h:Kw w b L) (k:Nat) (n:Int):Kw (w.setCell ⟨b,k*1,none⟩ (.int .i64 n)) b (L.set k n):=by
 rw [Nat.mul_one]
 have:=Z2 (o:=k) h (.int .i64 n)
 unfold Kw
 rw [this]
 congr 2
 rw [List.setIfInBounds_toArray,List.map_set]
theorem Dh {QP:List PanicEntry→World→Prop} {w:World} {k:Value→World→Prop} (n:Nat) (hn:n≤1048576):opV Pg (Instr.makeSlice 30 (.int .i64 (n:Int)) (.int .i64 (n:Int))) QP w k =
 k (.slice (some ⟨w.heap.size,0,none⟩) n n) (w.alloc (.cells ((List.replicate n (0:Int)).map λ n=>Value.int .i64 n).toArray 3)):=by
 obtain ⟨⟨i,hi,hs,hby,hz⟩,_⟩:=ty3
 have h1:=by3
 rw [Z3 (run_make_row (P:=Pg) 30 3 i _ Tryz.underlying30 hi hz hs rfl .i64 .i64 n (by rw [hby];exact Nat.le_trans (Nat.mul_le_mul h1 hn) (by decide)) (by omega) w)]
 congr 3
 rw [List.map_replicate,← toList_madeCells_one]
section
variable {w0 W w:World} {d:YF} {mv:Value} (hBW:ZS W w0.heap.size 0 (Zz d mv)) (eW:Ext w0 W) (hM:Q0 w0 mv d.msgs)
 include hBW eW hM
theorem Dq {k N lo bd:Nat} {m:ZD} {L:List Int} {rv t2:Value} {R:RT} {next2:Value→World→Prop} (hkl:k < d.msgs.length) (hN:xz (d.msgs.take k)) (hrefs:∀ s∈QT m,(ZC (ZK (d.msgs.take k)) s).isSome=true) (e:Ext W w) (hbd:W.heap.size≤bd) (hL:Kw w bd L) (hlen:L.length=N)
 (hLk:∀ (j:Nat) (n:Int),((ZK (d.msgs.take k)).map (·.2))[j]?=some n→L[j]?=some n∧j < k) (h0:L[k]?=some 0) (hS:Vg w lo rv (QT m)) (hlo:bd < lo)
 (hn:∀ w',Ext W w'→Kw w' bd (L.set k (XU (ZK (d.msgs.take k)) m))→H3 t2 (.int .i64 (k:Int)) (.slice (some ⟨bd,0,none⟩) N N) next2 R w') :
 Yi (λ t10 w next5=>Ie (.pointer (some ⟨w0.heap.size,0,none⟩)) t2 (.int .i64 (k:Int)) t10 (.slice (some ⟨bd,0,none⟩) N N) rv next2 next5 R w) (.int .i64 0) w:=by
 have hkN:k < N:=by rw [← hlen];exact (List.getElem?_eq_some_iff.1 h0).1
 refine ZA (λ a w'=>∃ j:Nat,a = .int .i64 j∧j≤(QT m).length∧Ext W w'∧Kw w' bd (L.set k (((QT m).take j).foldl (λ d' s=>Qh d' ((ZC (ZK (d.msgs.take k)) s).getD 0)) 0))∧Vg w' lo rv (QT m)) (λ b _=>(QT m).length - (intOf b).toNat) ⟨0,rfl,by omega,e,by
  have:L.set k (((QT m).take 0).foldl (λ d' s=>Qh d' ((ZC (ZK (d.msgs.take k)) s).getD 0)) 0)=L:=by
   refine List.ext_getElem? λ j=>?_
   rw [List.getElem?_set]
   split
   · rename_i h;subst h;rw [h0];simp [hlen,hkN]
   · rfl
  rw [this];exact hL,hS⟩ ?_
 rintro _ w1 ⟨j,rfl,hj,e1,hL1,hS1⟩
 have hSl:=hS1.slice (E:=KQ) (λ _=>rfl) (λ _ _=>rfl)
 obtain ⟨Ar,cr,rfl,hlr,hcr,hlmr,helr⟩:=Ze.open hSl
 have E1:=eW.trans e1
 unfold Ie
 rcases ZB hj with ⟨s,hx,hdr,hlt,hdec⟩ | ⟨hj,hdr,hdec⟩
 · obtain ⟨bs,os,css,rfl,_,hAs,rfl⟩:=helr j s hx
   have hstep:((QT m).take (j+1)).foldl (λ d' s=>Qh d' ((ZC (ZK (d.msgs.take k)) s).getD 0)) 0=Qh (((QT m).take j).foldl (λ d' s=>Qh d' ((ZC (ZK (d.msgs.take k)) s).getD 0)) 0) ((ZC (ZK (d.msgs.take k)) s).getD 0):=by rw [ZU hx,List.foldl_append];rfl
   generalize (((QT m).take j).foldl (λ d' s=>Qh d' ((ZC (ZK (d.msgs.take k)) s).getD 0)) 0)=c at hL1 hstep
   have hck:(L.set k c)[k]?=some c:=by rw [List.getElem?_set,if_pos rfl,if_pos (by omega)]
   simp (disch:=try exact DI) only [↓PR,QR,simprocAttr,hdec]
   refine ZI ?_
   unfold MH
   simp (disch:=try exact DI) only [↓PR,QR,simprocAttr,hL1.cell hck,hBW.c3 e1,hAs.c1 (Ext.refl w1)]
   refine zcr (Qk _ _ d s k ⟨_,rfl,hM.ext E1.drew⟩ (Nat.le_of_lt hkl)) λ w2 e2=>?_
   have e12:Ext w1 w2:=(Ext.refl w1).drew.trans e2
   refine UL e2 ?_
   unfold MN
   rcases UG (Pn (d.msgs.take k)) hN s with ⟨_,h2⟩ | ⟨q,b,h1,_,h3,h4⟩
   · have:=hrefs s (List.mem_of_getElem? hx)
     rw [h2] at this
     cases this
   · obtain ⟨hLq,hqk⟩:=hLk q b (by rw [List.getElem?_map,h3];rfl)
     have hcq:(L.set k c)[q]?=some b:=by rw [List.getElem?_set,if_neg (by omega)];exact hLq
     rw [h1]
     have hq2:q < N:=by omega
     have hL2:=hL1.ext e12
     simp (disch:=try exact DI) only [↓PR,QR,simprocAttr,hL1.cell hcq,hL2.cell hck,hL2.free]
     refine YZ ?_
     simp (disch:=try exact DI) only [↓PR,QR,simprocAttr]
     refine ⟨⟨j+1,rfl,hlt,(e1.trans e12).setCell hbd _,?_,((hS1.ext e12).range.only (Yu.setCell w2 bd _ _) (.inr (.inl hlo))).1⟩,ZF (kd := .i64) hlt⟩
     rw [hstep,h4]
     have:=hL2.set k (if b > c then b else c)
     rw [List.set_set] at this
     exact this
 · subst hj
   rw [List.take_length] at hL1
   simp (disch:=try exact DI) only [↓PR,QR,simprocAttr,hdec]
   exact hn w1 e1 hL1
end
theorem W0 {w0 w:World} {bt:Nat} {x0 x1 x2:Value} {QP QP':List PanicEntry→World→Prop} {k:Value→World→Prop} (e:Ext w0 w) (hb:w0.heap.size≤bt) (h:w.heap[bt]?=some (.cells #[x0,x1,x2] 90 (0,0))) (a f c:Int) (hk:∀ w',Ext w0 w'→k (Uv a f c) w') :
 opV Pg (Instr.build 90 #[(0,.int .i64 a),(1,.int .i64 f),(2,.int .i64 c)]) QP w λ t w=>opU Pg (Instr.storeAt 90 (.pointer (some ⟨bt,0,none⟩)) t) QP' w λ w=>qW Pg 90 (.pointer (some ⟨bt,0,none⟩)) w λ r0=>k r0 w:=by
 simp (disch:=try exact DI) only [↓PR,QR,simprocAttr,(Za h).1,(Za h).2]
 exact hk _ (((e.setCell hb _).setCell hb _).setCell hb _)
theorem WW {d:YF} {a f c:Int} (h:Yl d=(a,f,c)) (h0:c≠0):Value.tuple #[Uv a f c,.bool true] = .tuple #[qK (Yl d),.bool (Qc d)]:=by
 unfold Qc qK
 rw [h]
 simp [h0]
theorem qf {l:List ZD} {k:Nat} (h:YL (l.take k)) (hk:k≤l.length):Qr [] [] 0 l=Qr (ZK (l.take k)) (Z7 (l.take k)) k (l.drop k):=by
 have:=(WY (l.drop k) (l.take k) [] [] 0).1 h
 rw [List.take_append_drop] at this
 rw [this,List.length_take,Nat.min_eq_left hk,Nat.zero_add]
 rfl
theorem YL.step {l:List ZD} {k:Nat} {m:ZD} (h:YL (l.take k)) (hm:l[k]?=some m) (h0:(Qg (ZK (l.take k)) (Z7 (l.take k)) m).2=0):YL (l.take (k+1)):=by
 rw [ZU hm]
 unfold YL
 rw [(WY [m] (l.take k) [] [] 0).1 h]
 show (Qr (ZK (l.take k)) (Z7 (l.take k)) _ [m]).2.2=0
 rw [Gh h0]
 rfl
theorem I6 {d:YF} {k:Nat} {m:ZD} {a c:Int} (h1:XT d.name=true) (h2:1≤d.msgs.length∧d.msgs.length≤60) (h:YL (d.msgs.take k)) (hm:d.msgs[k]?=some m) (hn:Qg (ZK (d.msgs.take k)) (Z7 (d.msgs.take k)) m=(a,c)) (h0:c≠0):Yl d=((k:Int),a,c):=by
 have hk:=(List.getElem?_eq_some_iff.1 hm).1
 unfold Yl
 rw [if_pos h1,if_pos h2,qf h (Nat.le_of_lt hk),List.drop_eq_getElem_cons hk,UP (by rw [(List.getElem?_eq_some_iff.1 hm).2,hn];exact h0),(List.getElem?_eq_some_iff.1 hm).2,hn]
 unfold FS
 rw [if_neg h0]
def xJ (l:List ZD) (k:Nat):List Int:=(ZK (l.take k)).map (·.2)++List.replicate (l.length - k) 0
theorem VE (l:List ZD) {k:Nat} (hk:k≤l.length):((ZK (l.take k)).map (·.2)).length=k:=by
 have:=congrArg List.length (Pn (l.take k))
 simp only [List.length_map,List.length_take] at this ⊢
 omega
theorem DS (l:List ZD) {k:Nat} (hk:k≤l.length):(xJ l k).length=l.length:=by
 unfold xJ
 rw [List.length_append,VE l hk,List.length_replicate];omega
theorem Ly (l:List ZD) {k:Nat} (hk:k < l.length):(xJ l k)[k]?=some 0:=by
 unfold xJ
 rw [List.getElem?_append_right (by rw [VE l (by omega)];omega),VE l (by omega),List.getElem?_replicate,if_pos (by omega)]
theorem ME (l:List ZD) {k:Nat} (hk:k < l.length) (j:Nat) (n:Int) (h:((ZK (l.take k)).map (·.2))[j]?=some n):(xJ l k)[j]?=some n∧j < k:=by
 have hj:=(List.getElem?_eq_some_iff.1 h).1
 rw [VE l (by omega)] at hj
 unfold xJ
 rw [List.getElem?_append_left (by rw [VE l (by omega)];exact hj)]
 exact ⟨h,hj⟩
theorem Mj {l:List ZD} {k:Nat} {m:ZD} (hm:l[k]?=some m):(xJ l k).set k (XU (ZK (l.take k)) m+1)=xJ l (k+1):=by
 have hk:=(List.getElem?_eq_some_iff.1 hm).1
 unfold xJ
 rw [List.set_append_right _ _ (by rw [VE l (by omega)];omega),VE l (by omega),Nat.sub_self,ZU hm,Jh,List.map_append,List.append_assoc]
 congr 1
 rw [show l.length - k=(l.length - (k+1))+1 by omega,List.replicate_succ]
 rfl
theorem xq {deps:List (ByteArray×Int)} {strs:List (ByteArray×Bool)}:∀ (l:List Zm) (bef:List Zm) (k:Nat),(∀ (j:Nat) (f:Zm),j < k→l[j]?=some f→YH (bef++l.take j) (vI deps) (vB strs) f=0)→Y2 deps strs (bef++l.take k) (l.drop k)=Y2 deps strs bef l
 | [],bef,k,_=>by simp
 | f::l,bef,0,_=>by simp
 | f::l,bef,k+1,h=>by
  have h0:=h 0 f (by omega) rfl
  rw [List.take_zero,List.append_nil] at h0
  have ih:=xq l (bef++[f]) k λ j g hj hg=>by
   have:=h (j+1) g (by omega) (by simpa using hg)
   rw [List.take_succ_cons] at this
   rw [List.append_assoc];exact this
  rw [List.take_succ_cons,List.drop_succ_cons,Y2,if_pos h0,← ih,List.append_assoc]
  rfl
theorem JK.fields {deps:List (ByteArray×Int)} {strs:List (ByteArray×Bool)} {l:List Zm} {k:Nat} (h:JK deps strs (l.take k)):Y2 deps strs (l.take k) (l.drop k)=Y2 deps strs [] l:=by
 have:=xq (deps:=deps) (strs:=strs) l [] k λ j f hj hf=>by
  have:=h j f (by rw [List.getElem?_take,if_pos hj];exact hf)
  rwa [List.take_take,Nat.min_eq_left (by omega)] at this
 simpa using this
theorem FL (w0:World) (v:Value) (d:YF) (hd:Yv w0 v d) (hb:UN d):Ret Pg 52 #[v] w0 λ r w'=>r = .tuple #[qK (Yl d),.bool (Qc d)]∧Ext w0 w':=by
 obtain ⟨mv,rfl,hM⟩:=hd
 have hM0:=hM
 refine Zfs (R:=ZQ _) ?_;unfold n22
 rw [Xk]
 have hBW:=ZS.new (w:=w0) (Zz d mv) (28)
 have eW:Ext w0 (w0.alloc (Obj.cells (List.toArray (Zz d mv)) (28))):=(Ext.refl _).alloc _
 generalize (w0.alloc (Obj.cells (List.toArray (Zz d mv)) (28)))=W at hBW eW ⊢
 obtain ⟨A,cm,rfl,hlc,hcm,hlm,hel⟩:=Ze.open hM
 have sB:w0.heap.size < W.heap.size:=World.block_lt_of_cell? W ⟨w0.heap.size,0,none⟩ (hBW.c3 (Ext.refl W)).1
 simp (disch:=try exact DI) only [↓PR,QR,simprocAttr,hBW.c3 (Ext.refl W)]
 have oV:=ZE W #[.int .i64 0,.int .i64 0,.int .i64 0] 90
 have eV:Ext W (W.alloc (.cells #[.int .i64 0,.int .i64 0,.int .i64 0] 90)):=(Ext.refl W).alloc _
 have sV:(W.alloc (.cells #[.int .i64 0,.int .i64 0,.int .i64 0] 90)).heap.size=W.heap.size+1:=World.size_alloc _ _
 generalize W.alloc (.cells #[.int .i64 0,.int .i64 0,.int .i64 0] 90)=V at oV eV sV ⊢
 have EV:Ext w0 V:=eW.trans eV
 have sW:=eW.size
 refine zcr (Jl _ _) λ w1 e1=>?_
 have E1:=EV.trans e1
 cases hnm:XT d.name with
 | false =>
  have hc:Yl d=(-1,-1,1):=by unfold Yl;rw [hnm];rfl
  simp (disch:=try exact DI) only [↓PR,QR,simprocAttr]
  unfold E7
  exact W0 E1 sW (e1.obj oV) _ _ _ λ w' e'=>⟨_,rfl,WW hc (by decide),e'⟩
 | true =>
 simp (disch:=try exact DI) only [↓PR,QR,simprocAttr,hBW.c3 (eV.trans e1),Fy]
 have hlen:(decide ((d.msgs.length:Int) < 1)||decide (60 < (d.msgs.length:Int)))=!decide (1≤d.msgs.length∧d.msgs.length≤60):=by
  rw [Bool.eq_iff_iff];simp only [Bool.or_eq_true,decide_eq_true_eq,Bool.not_eq_true',decide_eq_false_iff_not];omega
 rw [hlen]
 by_cases hl:1≤d.msgs.length∧d.msgs.length≤60
 case neg =>
  have hc:Yl d=(-1,-1,3):=by unfold Yl;rw [hnm,if_pos rfl,if_neg hl]
  simp (disch:=try exact DI) only [↓PR,QR,simprocAttr,show decide (1≤d.msgs.length∧d.msgs.length≤60)=false by simpa using hl]
  unfold FU
  exact W0 E1 sW (e1.obj oV) _ _ _ λ w' e'=>⟨_,rfl,WW hc (by decide),e'⟩
 case pos =>
 simp (disch:=try exact DI) only [↓PR,QR,simprocAttr,show decide (1≤d.msgs.length∧d.msgs.length≤60)=true by simpa using hl]
 unfold He
 simp (disch:=try exact DI) only [↓PR,QR,simprocAttr,hBW.c3 (eV.trans e1)]
 rw [Dh _ (by omega)]
 have oD:Kw (w1.alloc (.cells ((List.replicate d.msgs.length (0:Int)).map λ n=>Value.int .i64 n).toArray 3)) w1.heap.size (xJ d.msgs 0):=ZE w1 _ _
 have eD:Ext w1 (w1.alloc (.cells ((List.replicate d.msgs.length (0:Int)).map λ n=>Value.int .i64 n).toArray 3)):=(Ext.refl w1).alloc _
 generalize w1.alloc (.cells ((List.replicate d.msgs.length (0:Int)).map λ n=>Value.int .i64 n).toArray 3)=w2 at oD eD ⊢
 have sw1:=e1.size
 generalize hbd:w1.heap.size=bd at oD sw1 ⊢
 have e2:Ext V w2:=e1.trans eD
 refine ZA (λ a w'=>∃ k:Nat,a = .int .i64 k∧k≤d.msgs.length∧Ext V w'∧Kw w' bd (xJ d.msgs k)∧YL (d.msgs.take k)) (λ b _=>d.msgs.length - (intOf b).toNat) ⟨0,rfl,by omega,e2,oD,rfl⟩ ?_
 rintro _ w ⟨k,rfl,hk,e,hL,hfine⟩
 have E:=EV.trans e
 have hcW:=hBW.c3 (eV.trans e)
 unfold Fi
 rcases ZB hk with ⟨m,hm,hdr,hlt,hdec⟩ | ⟨hk,hdr,hdec⟩
 · obtain ⟨bm,om,csm,rfl,_,hAm,fv,rfl,hF⟩:=hel k m hm
   have hF0:=hF
   obtain ⟨Af,cf,rfl,hlf,hcf,hlmf,helf⟩:=Ze.open hF
   have hdist:=hfine.dist
   have hbad:=λ (a c:Int)=>I6 (d:=d) (k:=k) (m:=m) (a:=a) (c:=c) hnm hl hfine hm
   simp (disch:=try exact DI) only [↓PR,QR,simprocAttr,hdec,hcW,hAm.c2 E,Ht]
   have hBY:=ZS.new (w:=w) (Zx m (.slice Af m.fields.length cf)) (24)
   have eY:Ext w (w.alloc (Obj.cells (List.toArray (Zx m (.slice Af m.fields.length cf))) (24))):=(Ext.refl _).alloc _
   generalize (w.alloc (Obj.cells (List.toArray (Zx m (.slice Af m.fields.length cf))) (24)))=Y at hBY eY ⊢
   have eY':Ext V Y:=e.trans eY
   refine zcr (Jl _ _) λ w3 e3=>?_
   have f3:Ext V w3:=eY'.trans e3
   cases hmn:XT m.name with
   | false =>
    have hc:=hbad (-1) 1 (by unfold Qg;rw [hmn];rfl) (by decide)
    simp (disch:=try exact DI) only [↓PR,QR,simprocAttr]
    unfold Hp
    exact W0 (EV.trans f3) sW (f3.obj oV) _ _ _ λ w' e'=>⟨_,rfl,WW hc (by decide),e'⟩
   | true =>
   simp (disch:=try exact DI) only [↓PR,QR,simprocAttr,hBW.c3 (eV.trans f3),hBY.c2 e3,HA]
   refine zcr (Qk _ _ d m.name k ⟨_,rfl,hM0.ext (EV.trans f3)⟩ hk) λ w4 e4=>?_
   have f4:=f3.trans e4
   have hdi:=Y7 (p:=λ x:ZD=>decide (x.name=m.name)) (l:=d.msgs.take k)
   rw [← OA _ hdist] at hdi
   cases hls:(ZC (ZK (d.msgs.take k)) m.name).isSome with
   | true =>
    rw [hls] at hdi
    have hc:=hbad (-1) 2 (by unfold Qg;rw [hmn,hls];rfl) (by decide)
    simp (disch:=try exact DI) only [↓PR,QR,simprocAttr,hdi]
    unfold Fa
    exact W0 (EV.trans f4) sW (f4.obj oV) _ _ _ λ w' e'=>⟨_,rfl,WW hc (by decide),e'⟩
   | false =>
   rw [hls] at hdi
   have hcY4:=hBY.c2 (e3.trans e4)
   simp (disch:=try exact DI) only [↓PR,QR,simprocAttr,hdi,hcY4,↓NP,↓HL,↓MN,↓MH,↓OE,↓H3,↓Ie,↓MO,↓Ow,↓MS,↓O8,↓Fa,↓N0,↓Hp,↓HA,↓Fs,↓HE,↓F5,↓Ht,↓Fi,↓FU,↓He,↓E7,↓Fy]
   have hlen2:(decide ((m.fields.length:Int) < 1)||decide (40 < (m.fields.length:Int)))=!decide (1≤m.fields.length∧m.fields.length≤40):=by
    rw [Bool.eq_iff_iff];simp only [Bool.or_eq_true,decide_eq_true_eq,Bool.not_eq_true',decide_eq_false_iff_not];omega
   rw [hlen2]
   by_cases hl2:1≤m.fields.length∧m.fields.length≤40
   case neg =>
    have hc:=hbad (-1) 3 (by unfold Qg;rw [hmn,hls,if_pos rfl,if_neg (by simp),if_neg hl2]) (by decide)
    rw [show decide (1≤m.fields.length∧m.fields.length≤40)=false by simpa using hl2]
    exact W0 (EV.trans f4) sW (f4.obj oV) _ _ _ λ w' e'=>⟨_,rfl,WW hc (by decide),e'⟩
   case pos =>
   have hnx:Qg (ZK (d.msgs.take k)) (Z7 (d.msgs.take k)) m=KK (ZK (d.msgs.take k)) m (Y2 (ZK (d.msgs.take k)) (Z7 (d.msgs.take k)) [] m.fields):=by
    unfold Qg;rw [hmn,hls,if_pos rfl,if_neg (by simp),if_pos hl2]
   rw [show decide (1≤m.fields.length∧m.fields.length≤40)=true by simpa using hl2]
   simp (disch:=try exact DI) only [↓PR,QR,simprocAttr]
   refine ZA (λ a w'=>∃ i:Nat,a = .int .i64 i∧i≤m.fields.length∧Ext w4 w'∧JK (ZK (d.msgs.take k)) (Z7 (d.msgs.take k)) (m.fields.take i)) (λ b _=>m.fields.length - (intOf b).toNat) ⟨0,rfl,by omega,Ext.refl _,by intro j f h;simp at h⟩ ?_
   rintro _ w5 ⟨i,rfl,hi,e5,hff⟩
   have f5:=f4.trans e5
   have hsp:=hff.fields
   unfold Ow
   rcases ZB hi with ⟨f,hx,hdf,hltf,hdecf⟩ | ⟨hi,hdf,hdecf⟩
   · rw [hdf,Y2] at hsp
     simp (disch:=try exact DI) only [↓PR,QR,simprocAttr,hdecf,hBY.c2 (e3.trans (e4.trans e5)),hBW.c3 (eV.trans f5)]
     refine zcr (F2 _ _ d k i m f ⟨_,rfl,hM0.ext (EV.trans f5)⟩ hm hx hdist hfine.refsIn hff.dist hb (by omega) hff.bounds) λ w6 e6=>?_
     have f6:=f5.trans e6
     by_cases h0:YH (m.fields.take i) (vI (ZK (d.msgs.take k))) (vB (Z7 (d.msgs.take k))) f=0
     · simp (disch:=try exact DI) only [↓PR,QR,simprocAttr,h0,HL,show ((0:Int) != 0)=false from rfl]
       exact ⟨⟨i+1,rfl,hltf,e5.trans e6,hff.step hx h0⟩,ZF (kd := .i64) hltf⟩
     · rw [if_neg h0,List.length_take,Nat.min_eq_left (by omega)] at hsp
       have hc:=hbad i _ (by rw [hnx,← hsp];unfold KK;rw [if_neg h0]) h0
       simp (disch:=try exact DI) only [↓PR,QR,simprocAttr,HL,show (YH (m.fields.take i) (vI (ZK (d.msgs.take k))) (vB (Z7 (d.msgs.take k))) f != 0)=true by simpa using h0]
       unfold NP
       exact W0 (EV.trans f6) sW (f6.obj oV) _ _ _ λ w' e'=>⟨_,rfl,WW hc h0,e'⟩
   · subst hi
     rw [hdf,Y2] at hsp
     rw [← hsp] at hnx
     have hfd:(Y2 (ZK (d.msgs.take k)) (Z7 (d.msgs.take k)) [] m.fields).2=0:=by rw [← hsp]
     simp (disch:=try exact DI) only [↓PR,QR,simprocAttr,hdecf,hBY.c2 (e3.trans (e4.trans e5))]
     have hkl:k < d.msgs.length:=(List.getElem?_eq_some_iff.1 hm).1
     have hlow:=hfine.low k
     rw [List.take_take,Nat.min_self] at hlow
     have hdm:=UA (λ s=>(ZC (ZK (d.msgs.take k)) s).getD 0) (XN m) 0 (by decide) (λ s _=>hlow.get s) (by decide)
     have hlo5:bd < w5.heap.size:=by
      have:=(Array.getElem?_eq_some_iff.1 hL).1
      have h1:=eY.size
      have h2:=e3.size
      have h3:=e4.size
      have h4:=e5.size
      omega
     unfold MO
     simp (disch:=try exact DI) only [↓PR,QR,simprocAttr,hBY.c2 (e3.trans (e4.trans e5))]
     refine Zt (Kz _ _ m ⟨_,rfl,hF0.ext (EV.trans (e.trans (eY.trans (e3.trans (e4.trans e5)))))⟩ (hb m (List.mem_of_getElem? hm)).1) ?_
     rintro rv w6 ⟨hS,e6⟩
     have f6:=f5.trans e6
     have hL6:Kw w6 bd (xJ d.msgs k):=((((hL.ext eY).ext e3).ext e4).ext e5).ext e6
     refine Dq (hBW.ext eV) EV hM0 hkl hdist (Bm (Pv _) hfd) f6 (by omega) hL6 (DS _ (by omega)) (ME _ hkl) (Ly _ hkl) hS hlo5 ?_
     intro w7 f7 hL7
     have hdp:0≤XU (ZK (d.msgs.take k)) m∧XU (ZK (d.msgs.take k)) m≤16:=hdm
     have hst:=Mj hm
     generalize hDM:XU (ZK (d.msgs.take k)) m=dm at hL7 hdp hst
     have hlL:=DS d.msgs (k:=k) (by omega)
     have hc7:=hL7.cell (k:=k) (n:=dm) (by rw [List.getElem?_set,if_pos rfl,if_pos (by omega)])
     have hL8:=hL7.set k (dm+1)
     rw [List.set_set,hst] at hL8
     unfold H3
     simp (disch:=try exact DI) only [↓PR,QR,simprocAttr,hc7,hL7.free,show IntKind.i64.wrap (dm+1)=dm+1 from Yk (by omega) (by omega)]
     have f8:Ext V (w7.setCell ⟨bd,k*1,none⟩ (.int .i64 (dm+1))):=f7.setCell (by omega) _
     have htl:Qg (ZK (d.msgs.take k)) (Z7 (d.msgs.take k)) m=if dm < 16 then (-1,0) else (-1,10):=by rw [hnx];unfold KK;rw [if_pos rfl,hDM]
     by_cases h16:dm < 16
     · rw [if_pos h16] at htl
       simp (disch:=try exact DI) only [↓PR,QR,simprocAttr,show decide (16 < dm+1)=false by simp only [decide_eq_false_iff_not];omega]
       rw [Yk (by omega) (by omega)]
       exact ⟨⟨k+1,rfl,hlt,f8,hL8,hfine.step hm (by rw [htl])⟩,ZF (kd := .i64) hlt⟩
     · rw [if_neg h16] at htl
       have hc:=hbad _ _ htl (by decide)
       simp (disch:=try exact DI) only [↓PR,QR,simprocAttr,show decide (16 < dm+1)=true by simp only [decide_eq_true_eq];omega]
       rw [Yk (by omega) (by omega)]
       unfold OE
       exact W0 (EV.trans f8) sW (f8.obj oV) _ _ _ λ w' e'=>⟨_,rfl,WW hc (by decide),e'⟩
 · subst hk
   rw [List.take_length] at hfine
   have hmp:Qr [] [] 0 d.msgs=(0,0,0):=by
    have:=qf (l:=d.msgs) (k:=d.msgs.length) (by rw [List.take_length];exact hfine) (Nat.le_refl _)
    rw [this,List.drop_length];rfl
   have hcp:Yl d=if (ZC (ZK d.msgs) d.start).isSome then (0,0,0) else (-1,-1,11):=by
    unfold Yl;rw [if_pos hnm,if_pos hl,hmp];rfl
   simp (disch:=try exact DI) only [↓PR,QR,simprocAttr,hdec,hcW,F5]
   refine zcr (Qk _ _ d d.start d.msgs.length ⟨_,rfl,hM0.ext E⟩ (Nat.le_refl _)) λ w3 e3=>?_
   have f3:=e.trans e3
   have hdi:=Kc (p:=λ x:ZD=>decide (x.name=d.start)) (l:=d.msgs.take d.msgs.length)
   rw [← OA _ (by rw [List.take_length];exact hfine.dist)] at hdi
   rw [List.take_length] at hdi
   cases hls:(ZC (ZK d.msgs) d.start).isSome with
   | false =>
    rw [hls] at hdi hcp
    simp (disch:=try exact DI) only [↓PR,QR,simprocAttr,hdi,List.take_length]
    unfold Fs
    exact W0 (EV.trans f3) sW (f3.obj oV) _ _ _ λ w' e'=>⟨_,rfl,WW hcp (by decide),e'⟩
   | true =>
    rw [hls] at hdi hcp
    simp (disch:=try exact DI) only [↓PR,QR,simprocAttr,hdi,List.take_length,HE,(Za (f3.obj oV)).1,(Za (f3.obj oV)).2]
    rw [if_pos rfl] at hcp
    exact ⟨by unfold Qc qK;rw [hcp];rfl,(((EV.trans f3).setCell sW _).setCell sW _).setCell sW _⟩
theorem FJ (w0:World) (v:Value) (d:YF) (hd:Yv w0 v d) (hb:UN d):Ret Pg 22 #[v] w0 λ r w'=>r = .bool (!Qc d)∧Ext w0 w':=by
 obtain ⟨mv,rfl,hM⟩:=hd
 have hm1:=Ze.oneCell hM
 refine Zgx (R:=ZQ _) ?_;unfold n31
 simp (disch:=try exact DI) only [↓PR,QR,simprocAttr]
 refine zcr (FL _ _ d ⟨mv,rfl,hM.ext ee⟩ hb) λ w1 e1=>?_
 unfold Sl
 simp (disch:=try exact DI) only [↓PR,QR,simprocAttr]
 exact ⟨by first | trivial | rfl,ee⟩
theorem qb (w0:World) (v u:Value) (l m:List V0) (hl:Yc w0 v l) (hm:Yc w0 u m) :
 Ret Pg 92 #[v,u] w0 λ r w'=>r = .bool (decide (l=m))∧Ext w0 w':=by
 obtain ⟨A,c,rfl,hlc,hcm,hlm,hel⟩:=Ze.open hl
 obtain ⟨A',c',rfl,hlc',hcm',hlm',hel'⟩:=Ze.open hm
 refine ZfR (R:=ZQ _) ?_;unfold n37
 simp (disch:=try exact DI) only [↓PR,QR,simprocAttr]
 by_cases hlen:l.length=m.length
 · have hne:((l.length:Int) != (m.length:Int))=false:=by simp [hlen]
   simp (disch:=try exact DI) only [↓PR,QR,simprocAttr,hne]
   refine ZA (λ a0 w=>∃ (k:Nat) , a0 = .int .i64 (k:Int)∧k≤l.length∧Ext w0 w∧l.take k=m.take k) (λ a0 _=>l.length - (intOf a0).toNat) ⟨0,rfl,Nat.zero_le _,ee,rfl⟩ ?_
   rintro _ w ⟨k,rfl,hk,e,hI⟩
   have se:=e.size
   rcases ZB hk with ⟨x,hx,hd,hlt,hdec⟩ | ⟨hk,hd,hdec⟩
   · obtain ⟨b,o,cs,rfl,_,hA,rfl⟩:=hel k x hx
     obtain ⟨y,hy⟩:=getElem?_lt (l:=m) (k:=k) (by omega)
     obtain ⟨b',o',cs',rfl,_,hA',rfl⟩:=hel' k y hy
     have hlt':k < m.length:=by omega
     have eD:Ext w0 w.drew:=e.wdrew
     simp (disch:=try exact DI) only [↓PR,QR,simprocAttr,↓AS,↓Bd,hdec]
     refine ZI ?_
     simp (disch:=try exact DI) only [↓PR,QR,simprocAttr,↓AS,↓Bd,hA.c3,hA'.c3]
     rw [HX]
     by_cases hxy:x=y
     · subst hxy
       simp only [decide_true,Bool.not_true]
       simp (disch:=try exact DI) only [↓PR,QR,simprocAttr,↓AS,↓Bd]
       exact ⟨⟨k+1,rfl,by omega,ee,by rw [List.take_add_one,List.take_add_one,hx,hy,hI]⟩,ZF (kd := .i64) hlt⟩
     · simp only [hxy,decide_false,Bool.not_false]
       simp (disch:=try exact DI) only [↓PR,QR,simprocAttr,↓AS,↓Bd]
       have hne':¬ l=m:=by
        rintro rfl
        rw [hx] at hy
        injection hy with hy
        exact hxy hy
       exact ⟨by simp [hne'],eD⟩
   · subst hk
     simp (disch:=try exact DI) only [↓PR,QR,simprocAttr,↓AS,↓Bd,hdec]
     rw [List.take_length,hlen,List.take_length] at hI
     exact ⟨by simp [hI],e⟩
 · have hne:((l.length:Int) != (m.length:Int))=true:=by simp;omega
   simp (disch:=try exact DI) only [↓PR,QR,simprocAttr,hne]
   have hne':¬ l=m:=λ h=>hlen (by rw [h])
   exact ⟨by simp [hne'],Ext.refl _⟩
theorem LA (w0:World) (v u:Value) (p q:Int) (l m:List ZX) (hl:Q6 w0 v p l) (hm:Q6 w0 u q m) :
 Ret Pg 91 #[v,u] w0 λ r w'=>r = .bool (decide (p=q∧l=m))∧Ext w0 w':=by
 obtain ⟨tv,rfl,hT⟩:=hl
 obtain ⟨sv,rfl,hS⟩:=hm
 obtain ⟨A,c,rfl,hlc,hcm,hlm,hel⟩:=Ze.open hT
 obtain ⟨A',c',rfl,hlc',hcm',hlm',hel'⟩:=Ze.open hS
 refine ZfH (R:=ZQ _) ?_;unfold n16
 simp (disch:=try exact DI) only [↓PR,QR,simprocAttr]
 by_cases hpq:p=q∧l.length=m.length
 · obtain ⟨h1,hlen⟩:=hpq
   have hn1:(p != q)=false:=by simp [h1]
   have hn2:((l.length:Int) != (m.length:Int))=false:=by simp [hlen]
   simp (disch:=try exact DI) only [↓PR,QR,simprocAttr,hn1,hn2]
   generalize hW:World.alloc (World.alloc w0 _) _=W
   have e0:Ext w0 W:=by rw [← hW];exact ee
   have o3:W.heap[w0.heap.size]?=some (.cells #[.int .i64 p,.slice A l.length c] 45 (0,0)):=by rw [← hW];simp (disch:=try exact DI) only [↓PR,QR,simprocAttr]
   have o4:W.heap[w0.heap.size+1]?=some (.cells #[.int .i64 q,.slice A' m.length c'] 45 (0,0)):=by rw [← hW];simp (disch:=try exact DI) only [↓PR,QR,simprocAttr]
   clear hW
   refine ZA (λ a0 w=>∃ (k:Nat) , a0 = .int .i64 (k:Int)∧k≤l.length∧Ext W w∧l.take k=m.take k) (λ a0 _=>l.length - (intOf a0).toNat) ⟨0,rfl,Nat.zero_le _,ee,rfl⟩ ?_
   rintro _ w ⟨k,rfl,hk,e,hI⟩
   have se:=e.size
   rcases ZB hk with ⟨x,hx,hd,hlt,hdec⟩ | ⟨hk,hd,hdec⟩
   · obtain ⟨b,o,cs,rfl,_,hA,rfl⟩:=hel k x hx
     obtain ⟨y,hy⟩:=getElem?_lt (l:=m) (k:=k) (by omega)
     obtain ⟨b',o',cs',rfl,_,hA',rfl⟩:=hel' k y hy
     have hlt':k < m.length:=by omega
     have e1:=e0.trans e
     have eD:Ext w0 w.drew:=e1.wdrew
     simp (disch:=try exact DI) only [↓PR,QR,simprocAttr,↓Bg,↓BC,hdec,(Za (e.obj o3)).1]
     refine ZI ?_
     simp (disch:=try exact DI) only [↓PR,QR,simprocAttr,↓Bg,↓BC,(Za (e.obj o3)).1,(Za (e.obj o4)).1,hA.c2,hA'.c2]
     rw [II]
     by_cases hxy:x=y
     · subst hxy
       simp only [decide_true,Bool.not_true]
       simp (disch:=try exact DI) only [↓PR,QR,simprocAttr,↓Bg,↓BC]
       exact ⟨⟨k+1,rfl,by omega,ee,by rw [List.take_add_one,List.take_add_one,hx,hy,hI]⟩,ZF (kd := .i64) hlt⟩
     · simp only [hxy,decide_false,Bool.not_false]
       simp (disch:=try exact DI) only [↓PR,QR,simprocAttr,↓Bg,↓BC]
       have hne':¬ l=m:=by
        rintro rfl
        rw [hx] at hy
        injection hy with hy
        exact hxy hy
       exact ⟨by simp [hne'],eD⟩
   · subst hk
     simp (disch:=try exact DI) only [↓PR,QR,simprocAttr,↓Bg,↓BC,hdec,(Za (e.obj o3)).1]
     rw [List.take_length,hlen,List.take_length] at hI
     exact ⟨by simp [hI,h1],e0.trans e⟩
 · have hf:((p != q)||((l.length:Int) != (m.length:Int)))=true:=by
    by_cases h:p=q
    · simp [h];intro h2;exact hpq ⟨h,by omega⟩
    · simp [h]
   have hne':¬ (p=q∧l=m):=by rintro ⟨h1,rfl⟩;exact hpq ⟨h1,rfl⟩
   simp only [hf]
   simp (disch:=try exact DI) only [↓PR,QR,simprocAttr]
   exact ⟨by simp [hne'],ee⟩
theorem Aa (w0:World) (v u:Value) (f g:Zm) (hf:ZV w0 v f) (hg:ZV w0 u g):Ret Pg 57 #[v,u] w0 λ r w'=>r = .bool (decide (f=g))∧Ext w0 w':=by
 obtain ⟨tv,cv,rfl,hT,hC,ht1,hc1⟩:=hf.op
 obtain ⟨tv',cv',rfl,hT',hC',ht1',hc1'⟩:=hg.op
 refine Zdy (R:=ZQ _) ?_;unfold n29
 have no:∀ w',Ext w0 w'→f≠g→ZQ (λ r w'=>r = .bool (decide (f=g))∧Ext w0 w') (.returned (.bool false)) w':=λ w' e h=>by rw [U6];exact ⟨by rw [decide_eq_false h],e⟩
 have yes:∀ w' b,Ext w0 w'→b=decide (f=g)→ZQ (λ r w'=>r = .bool (decide (f=g))∧Ext w0 w') (.returned (.bool b)) w':=λ w' b e h=>by rw [U6];exact ⟨by rw [h],e⟩
 generalize (ZQ λ r w'=>r = .bool (decide (f=g))∧Ext w0 w')=R at no yes ⊢
 simp (disch:=try exact DI) only [↓PR,QR,simprocAttr]
 have e0:Ext w0 ((w0.alloc (Obj.cells (Zo f tv cv).toArray 48)).alloc (Obj.cells (Zo g tv' cv').toArray 48)):=ee
 have o3:=ZE (w0.alloc (Obj.cells (Zo f tv cv).toArray 48)) (Zo g tv' cv').toArray 48
 have o2:=((Ext.refl (w0.alloc (Obj.cells (Zo f tv cv).toArray 48))).alloc (Obj.cells (Zo g tv' cv').toArray 48)).obj (ZE w0 (Zo f tv cv).toArray 48)
 rw [World.size_alloc] at o3
 generalize hp3:w0.heap.size+1=p3 at o3 ⊢
 generalize hp2:w0.heap.size=p2 at o2 ⊢
 generalize ((w0.alloc (Obj.cells (Zo f tv cv).toArray 48)).alloc (Obj.cells (Zo g tv' cv').toArray 48))=W at e0 o2 o3 ⊢
 by_cases h1:f.name=g.name
 case neg =>
  have d:decide (f.name=g.name)=false:=by simpa using h1
  simp (disch:=try exact DI) only [↓PR,QR,simprocAttr,d,↓Vt,↓VB,↓VL,↓VN,↓VC,↓Vo,↓VG,↓VM,↓Vs,↓Wd,↓Wb,↓Wf]
  exact no _ e0 (λ e=>h1 (by rw [e]))
 have d10:decide (f.name=g.name)=true:=by simpa using h1
 simp (disch:=try exact DI) only [↓PR,QR,simprocAttr,d10,(Za o2).1,(Za o3).1]
 by_cases h2:f.kind=g.kind
 case neg =>
  have d:(f.kind == g.kind)=false:=by simpa using h2
  simp (disch:=try exact DI) only [↓PR,QR,simprocAttr,d,d10,↓Vt,↓VB,↓VL,↓VN,↓VC,↓Vo,↓VG,↓VM,↓Vs,↓Wd,↓Wb,↓Wf]
  exact no _ e0 (λ e=>h2 (by rw [e]))
 have d11:(f.kind == g.kind)=true:=by simpa using h2
 simp (disch:=try exact DI) only [↓PR,QR,simprocAttr,d11,d10,(Za o2).1,(Za o3).1,Wf]
 by_cases h3:f.bits=g.bits
 case neg =>
  have d:(f.bits == g.bits)=false:=by simpa using h3
  simp (disch:=try exact DI) only [↓PR,QR,simprocAttr,d,d11,↓Vt,↓VB,↓VL,↓VN,↓VC,↓Vo,↓VG,↓VM,↓Vs,↓Wd,↓Wb,↓Wf]
  exact no _ e0 (λ e=>h3 (by rw [e]))
 have d12:(f.bits == g.bits)=true:=by simpa using h3
 simp (disch:=try exact DI) only [↓PR,QR,simprocAttr,d12,d11,(Za o2).1,(Za o3).1,Wb]
 by_cases h4:f.little=g.little
 case neg =>
  have d:(f.little == g.little)=false:=by simpa using h4
  simp (disch:=try exact DI) only [↓PR,QR,simprocAttr,d,d12,↓Vt,↓VB,↓VL,↓VN,↓VC,↓Vo,↓VG,↓VM,↓Vs,↓Wd,↓Wb,↓Wf]
  exact no _ e0 (λ e=>h4 (by rw [e]))
 have d13:(f.little == g.little)=true:=by simpa using h4
 simp (disch:=try exact DI) only [↓PR,QR,simprocAttr,d13,d12,(Za o2).1,(Za o3).1,Wd]
 by_cases h5:f.loose=g.loose
 case neg =>
  have d:(f.loose == g.loose)=false:=by simpa using h5
  simp (disch:=try exact DI) only [↓PR,QR,simprocAttr,d,d13,↓Vt,↓VB,↓VL,↓VN,↓VC,↓Vo,↓VG,↓VM,↓Vs,↓Wd,↓Wb,↓Wf]
  exact no _ e0 (λ e=>h5 (by rw [e]))
 have d14:(f.loose == g.loose)=true:=by simpa using h5
 simp (disch:=try exact DI) only [↓PR,QR,simprocAttr,d14,d13,(Za o2).1,(Za o3).1,Vs]
 by_cases h6:f.low=g.low
 case neg =>
  have d:(f.low == g.low)=false:=by simpa using h6
  simp (disch:=try exact DI) only [↓PR,QR,simprocAttr,d,d14,↓Vt,↓VB,↓VL,↓VN,↓VC,↓Vo,↓VG,↓VM,↓Vs,↓Wd,↓Wb,↓Wf]
  exact no _ e0 (λ e=>h6 (by rw [e]))
 have d15:(f.low == g.low)=true:=by simpa using h6
 simp (disch:=try exact DI) only [↓PR,QR,simprocAttr,d15,d14,(Za o2).1,(Za o3).1,VM]
 by_cases h7:f.high=g.high
 case neg =>
  have d:(f.high == g.high)=false:=by simpa using h7
  simp (disch:=try exact DI) only [↓PR,QR,simprocAttr,d,d15,↓Vt,↓VB,↓VL,↓VN,↓VC,↓Vo,↓VG,↓VM,↓Vs,↓Wd,↓Wb,↓Wf]
  exact no _ e0 (λ e=>h7 (by rw [e]))
 have d16:(f.high == g.high)=true:=by simpa using h7
 simp (disch:=try exact DI) only [↓PR,QR,simprocAttr,d16,d15,(Za o2).1,(Za o3).1,VG]
 refine zcr (LA _ _ _ f.base g.base f.terms g.terms ⟨_,rfl,ZW.ext hT e0⟩ ⟨_,rfl,ZW.ext hT' e0⟩) λ w1 d1=>?_
 have x2:=d1.obj o2
 have x3:=d1.obj o3
 have e1:=e0.trans d1
 by_cases h8:f.base=g.base∧f.terms=g.terms
 case neg =>
  have d:decide (f.base=g.base∧f.terms=g.terms)=false:=by simpa using h8
  simp (disch:=try exact DI) only [↓PR,QR,simprocAttr,d,d16,↓Vt,↓VB,↓VL,↓VN,↓VC,↓Vo,↓VG,↓VM,↓Vs,↓Wd,↓Wb,↓Wf]
  exact no _ e1 (λ e=>h8 ⟨by rw [e],by rw [e]⟩)
 have d17:decide (f.base=g.base∧f.terms=g.terms)=true:=by simpa using h8
 simp (disch:=try exact DI) only [↓PR,QR,simprocAttr,d17,d16,(Za x2).1,(Za x3).1,Vo]
 by_cases h9:f.of=g.of
 case neg =>
  have d:decide (f.of=g.of)=false:=by simpa using h9
  simp (disch:=try exact DI) only [↓PR,QR,simprocAttr,d,d17,↓Vt,↓VB,↓VL,↓VN,↓VC,↓Vo,↓VG,↓VM,↓Vs,↓Wd,↓Wb,↓Wf]
  exact no _ e1 (λ e=>h9 (by rw [e]))
 have d18:decide (f.of=g.of)=true:=by simpa using h9
 simp (disch:=try exact DI) only [↓PR,QR,simprocAttr,d18,d17,(Za x2).1,(Za x3).1,VC]
 by_cases h10:f.tag=g.tag
 case neg =>
  have d:decide (f.tag=g.tag)=false:=by simpa using h10
  simp (disch:=try exact DI) only [↓PR,QR,simprocAttr,d,d18,↓Vt,↓VB,↓VL,↓VN,↓VC,↓Vo,↓VG,↓VM,↓Vs,↓Wd,↓Wb,↓Wf]
  exact no _ e1 (λ e=>h10 (by rw [e]))
 have d19:decide (f.tag=g.tag)=true:=by simpa using h10
 simp (disch:=try exact DI) only [↓PR,QR,simprocAttr,d19,d18,(Za x2).1,(Za x3).1,VN]
 by_cases h11:f.fr=g.fr
 case neg =>
  have d:decide (f.fr=g.fr)=false:=by simpa using h11
  simp (disch:=try exact DI) only [↓PR,QR,simprocAttr,d,d19,↓Vt,↓VB,↓VL,↓VN,↓VC,↓Vo,↓VG,↓VM,↓Vs,↓Wd,↓Wb,↓Wf]
  exact no _ e1 (λ e=>h11 (by rw [e]))
 have d20:decide (f.fr=g.fr)=true:=by simpa using h11
 simp (disch:=try exact DI) only [↓PR,QR,simprocAttr,d20,d19,(Za x2).1,(Za x3).1,VL]
 refine zcr (qb _ _ _ f.cases g.cases (Yc.ext hC e1) (Yc.ext hC' e1)) λ w2 d2=>?_
 have y2:=d2.obj x2
 have y3:=d2.obj x3
 have e2:=e1.trans d2
 by_cases h12:f.cases=g.cases
 case neg =>
  have d:decide (f.cases=g.cases)=false:=by simpa using h12
  simp (disch:=try exact DI) only [↓PR,QR,simprocAttr,d,d20,↓Vt,↓VB,↓VL,↓VN,↓VC,↓Vo,↓VG,↓VM,↓Vs,↓Wd,↓Wb,↓Wf]
  exact no _ e2 (λ e=>h12 (by rw [e]))
 have d21:decide (f.cases=g.cases)=true:=by simpa using h12
 simp (disch:=try exact DI) only [↓PR,QR,simprocAttr,d21,d20,(Za y2).1,(Za y3).1,VB]
 by_cases h13:f.check=g.check
 case neg =>
  have d:(f.check == g.check)=false:=by simpa using h13
  simp (disch:=try exact DI) only [↓PR,QR,simprocAttr,d,d21,↓Vt,↓VB,↓VL,↓VN,↓VC,↓Vo,↓VG,↓VM,↓Vs,↓Wd,↓Wb,↓Wf]
  exact no _ e2 (λ e=>h13 (by rw [e]))
 have d22:(f.check == g.check)=true:=by simpa using h13
 simp (disch:=try exact DI) only [↓PR,QR,simprocAttr,d22,d21,(Za y2).1,(Za y3).1,Vt]
 have dl:(f.key == g.key)=decide (f=g):=by
  rw [Bool.eq_iff_iff]
  simp only [beq_iff_eq,decide_eq_true_eq]
  refine ⟨λ h14=>?_,λ h=>by rw [h]⟩
  obtain ⟨a0,a1,a2,a3,a4,a5,a6,a7,a8,a9,a10,a11,a12,a13,a14⟩:=f
  obtain ⟨b0,b1,b2,b3,b4,b5,b6,b7,b8,b9,b10,b11,b12,b13,b14⟩:=g
  obtain ⟨h8a,h8b⟩:=h8
  simp only at h1 h2 h3 h4 h5 h6 h7 h8a h8b h9 h10 h11 h12 h13 h14
  subst h1 h2 h3 h4 h5 h6 h7 h8a h8b h9 h10 h11 h12 h13 h14
  rfl
 exact yes _ _ e2 dl
theorem Gf (w0:World) (v u:Value) (x y:YF) (hx:Yv w0 v x) (hy:Yv w0 u y):Ret Pg 27 #[v,u] w0 λ r w'=>r = .bool (decide (x=y))∧Ext w0 w':=by
 obtain ⟨mv,rfl,hM⟩:=hx
 obtain ⟨mv',rfl,hM'⟩:=hy
 obtain ⟨A,c,rfl,hlc,hcm,hlm,hel⟩:=Ze.open hM
 obtain ⟨A',c',rfl,hlc',hcm',hlm',hel'⟩:=Ze.open hM'
 refine Zfh (R:=ZQ _) ?_;unfold n23
 have no:∀ w',Ext w0 w'→x≠y→ZQ (λ r w'=>r = .bool (decide (x=y))∧Ext w0 w') (.returned (.bool false)) w':=λ w' e h=>by rw [U6];exact ⟨by rw [decide_eq_false h],e⟩
 have yes:∀ w',Ext w0 w'→x=y→ZQ (λ r w'=>r = .bool (decide (x=y))∧Ext w0 w') (.returned (.bool true)) w':=λ w' e h=>by rw [U6];exact ⟨by rw [decide_eq_true h],e⟩
 generalize (ZQ λ r w'=>r = .bool (decide (x=y))∧Ext w0 w')=R at no yes ⊢
 simp (disch:=try exact DI) only [↓PR,QR,simprocAttr]
 have e0:Ext w0 ((w0.alloc (Obj.cells (Zz x (.slice A x.msgs.length c)).toArray 28)).alloc (Obj.cells (Zz y (.slice A' y.msgs.length c')).toArray 28)):=ee
 have o3:=ZE (w0.alloc (Obj.cells (Zz x (.slice A x.msgs.length c)).toArray 28)) (Zz y (.slice A' y.msgs.length c')).toArray 28
 have o2:=((Ext.refl (w0.alloc (Obj.cells (Zz x (.slice A x.msgs.length c)).toArray 28))).alloc (Obj.cells (Zz y (.slice A' y.msgs.length c')).toArray 28)).obj (ZE w0 (Zz x (.slice A x.msgs.length c)).toArray 28)
 rw [World.size_alloc] at o3
 generalize hp3:w0.heap.size+1=p3 at o3 ⊢
 generalize hp2:w0.heap.size=p2 at o2 ⊢
 generalize ((w0.alloc (Obj.cells (Zz x (.slice A x.msgs.length c)).toArray 28)).alloc (Obj.cells (Zz y (.slice A' y.msgs.length c')).toArray 28))=W at e0 o2 o3 ⊢
 by_cases h1:x.name=y.name
 case neg =>
  have d:(!decide (x.name=y.name))=true:=by simpa using h1
  simp (disch:=try exact DI) only [↓PR,QR,simprocAttr,d,↓HU,↓Ig,↓HY,↓DO,↓Il,↓Ij,↓IT,↓IR,↓Dm]
  exact no _ e0 (λ e=>h1 (by rw [e]))
 have d1:(!decide (x.name=y.name))=false:=by simpa using h1
 by_cases h2:x.start=y.start
 case neg =>
  have d:(!decide (x.start=y.start))=true:=by simpa using h2
  simp (disch:=try exact DI) only [↓PR,QR,simprocAttr,d1,d,(Za o2).1,(Za o3).1,↓HU,↓Ig,↓HY,↓DO,↓Il,↓Ij,↓IT,↓IR,↓Dm]
  exact no _ e0 (λ e=>h2 (by rw [e]))
 have d2:(!decide (x.start=y.start))=false:=by simpa using h2
 by_cases h3:x.msgs.length=y.msgs.length
 case neg =>
  have d:((x.msgs.length:Int) != (y.msgs.length:Int))=true:=by simp;omega
  simp (disch:=try exact DI) only [↓PR,QR,simprocAttr,d1,d2,d,(Za o2).1,(Za o3).1,Dm]
  exact no _ e0 (λ e=>h3 (by rw [e]))
 have d3:((x.msgs.length:Int) != (y.msgs.length:Int))=false:=by simp;omega
 simp (disch:=try exact DI) only [↓PR,QR,simprocAttr,d1,d2,d3,(Za o2).1,(Za o3).1,Dm]
 refine ZA (λ i w'=>∃ k:Nat,i = .int .i64 k∧k≤x.msgs.length∧Ext W w'∧∀ j,j < k→x.msgs[j]?=y.msgs[j]?) (λ i _=>x.msgs.length - (intOf i).toNat) ⟨0,rfl,by omega,Ext.refl _,λ j h=>by omega⟩ ?_
 rintro _ w1 ⟨k,rfl,hk,e1,hpre⟩
 have E1:=e0.trans e1
 have x2:=e1.obj o2
 have x3:=e1.obj o3
 unfold IR
 rcases ZB hk with ⟨a,ha,hd,hlt,hdec⟩ | ⟨hk,hd,hdec⟩
 case inr =>
  simp (disch:=try exact DI) only [↓PR,QR,simprocAttr,(Za x2).1,hdec]
  refine yes _ E1 ?_
  have hl:x.msgs=y.msgs:=by
   apply List.ext_getElem?
   intro j
   by_cases hj:j < k
   · exact hpre j hj
   · rw [List.getElem?_eq_none (by omega),List.getElem?_eq_none (by omega)]
  obtain ⟨a1,a2,a3⟩:=x
  obtain ⟨b1,b2,b3⟩:=y
  simp only at h1 h2 hl
  subst h1 h2 hl
  rfl
 obtain ⟨b,hb⟩:=getElem?_lt (l:=y.msgs) (k:=k) (by omega)
 obtain ⟨g,o,cs,rfl,hl,hA,fv,rfl,hF⟩:=hel k a ha
 obtain ⟨g',o',cs',rfl,hl',hA',fv',rfl,hF'⟩:=hel' k b hb
 have hlt':k < y.msgs.length:=by omega
 have hf1:=Ze.oneCell hF
 have hf1':=Ze.oneCell hF'
 simp (disch:=try exact DI) only [↓PR,QR,simprocAttr,(Za x2).1,hdec]
 have hD:a≠b→x≠y:=λ hne e=>hne (by rw [e] at ha;rw [ha] at hb;exact Option.some.inj hb)
 have main:∀ (w4:World) (p6 p7:Nat),Ext w1 w4→w4.heap[p6]?=some (.cells (Zx a fv).toArray 24 (0,0))→w4.heap[p7]?=some (.cells (Zx b fv').toArray 24 (0,0)) →
  DO (.int .i64 (k:Int)) (.pointer (some ⟨p6,0,none⟩)) (.pointer (some ⟨p7,0,none⟩)) (λ a0' w'=>(∃ k:Nat,a0' = .int .i64 k∧k≤x.msgs.length∧Ext W w'∧∀ j,j < k→x.msgs[j]?=y.msgs[j]?)∧x.msgs.length - (intOf a0').toNat < x.msgs.length - (intOf (Value.int .i64 (k:Int))).toNat) R w4:=by
  intro w4 p6 p7 e4 q6 q7
  have E4:=E1.trans e4
  unfold DO
  obtain ⟨A2,c2,rfl,hlc2,hcm2,hlm2,hel2⟩:=Ze.open hF
  obtain ⟨A3,c3,rfl,hlc3,hcm3,hlm3,hel3⟩:=Ze.open hF'
  by_cases m1:a.name=b.name
  case neg =>
   have d:(!decide (a.name=b.name))=true:=by simpa using m1
   simp (disch:=try exact DI) only [↓PR,QR,simprocAttr,(Za q6).1,(Za q7).1,d]
   exact no _ E4 (hD λ e=>m1 (by rw [e]))
  have f1:(!decide (a.name=b.name))=false:=by simpa using m1
  by_cases m2:a.fields.length=b.fields.length
  case neg =>
   have d:((a.fields.length:Int) != (b.fields.length:Int))=true:=by simp;omega
   simp (disch:=try exact DI) only [↓PR,QR,simprocAttr,(Za q6).1,(Za q7).1,f1,d]
   exact no _ E4 (hD λ e=>m2 (by rw [e]))
  have f2:((a.fields.length:Int) != (b.fields.length:Int))=false:=by simp;omega
  simp (disch:=try exact DI) only [↓PR,QR,simprocAttr,(Za q6).1,(Za q7).1,f1,f2]
  refine ZA (λ i w'=>∃ n:Nat,i = .int .i64 n∧n≤a.fields.length∧Ext w4 w'∧∀ j,j < n→a.fields[j]?=b.fields[j]?) (λ i _=>a.fields.length - (intOf i).toNat) ⟨0,rfl,by omega,Ext.refl _,λ j h=>by omega⟩ ?_
  rintro _ w5 ⟨n,rfl,hn,e5,hpre'⟩
  have E5:=E4.trans e5
  have r6:=e5.obj q6
  have r7:=e5.obj q7
  unfold HY
  rcases ZB hn with ⟨f,hf,hd',hltn,hdecn⟩ | ⟨hn,hd',hdecn⟩
  case inr =>
   simp (disch:=try exact DI) only [↓PR,QR,simprocAttr,(Za r6).1,hdecn]
   have hl:a.fields=b.fields:=by
    apply List.ext_getElem?
    intro j
    by_cases hj:j < n
    · exact hpre' j hj
    · rw [List.getElem?_eq_none (by omega),List.getElem?_eq_none (by omega)]
   have hab:a=b:=by
    obtain ⟨a1,a2⟩:=a
    obtain ⟨b1,b2⟩:=b
    simp only at m1 hl
    subst m1 hl
    rfl
   refine ⟨⟨k+1,rfl,by omega,e1.trans (e4.trans e5),λ j hj=>?_⟩,ZF (kd := .i64) hlt⟩
   by_cases hjk:j < k
   · exact hpre j hjk
   · have:j=k:=by omega
     subst this
     rw [ha,hb,hab]
  obtain ⟨f',hf'⟩:=getElem?_lt (l:=b.fields) (k:=n) (by omega)
  obtain ⟨g5,o5,cs5,rfl,hl5,hA5,tv,cv,rfl,hT5,hC5⟩:=hel2 n f hf
  obtain ⟨g6,o6,cs6,rfl,hl6,hA6,tv6,cv6,rfl,hT6,hC6⟩:=hel3 n f' hf'
  have hltn':n < b.fields.length:=by omega
  simp (disch:=try exact DI) only [↓PR,QR,simprocAttr,(Za r6).1,hdecn]
  refine ZI ?_
  unfold Ig
  simp (disch:=try exact DI) only [↓PR,QR,simprocAttr,(Za r6).1,(Za r7).1,hA5.c15 E5,hA6.c15 E5]
  have eD:Ext w5 w5.drew:=(Ext.refl w5).wdrew
  have ED:=E5.trans eD
  refine zcr (Aa _ _ _ f f' ⟨tv,cv,rfl,ZW.ext hT5 ED,Yc.ext hC5 ED⟩ ⟨tv6,cv6,rfl,ZW.ext hT6 ED,Yc.ext hC6 ED⟩) λ w6 e6=>?_
  unfold HU
  refine ⟨e6,?_⟩
  by_cases hff:f=f'
  · rw [decide_eq_true hff]
    simp (disch:=try exact DI) only [↓PR,QR,simprocAttr]
    refine ⟨⟨n+1,rfl,by omega,e5.trans (eD.trans e6),λ j hj=>?_⟩,ZF (kd := .i64) hltn⟩
    by_cases hjn:j < n
    · exact hpre' j hjn
    · have:j=n:=by omega
      subst this
      rw [hf,hf',hff]
  · rw [decide_eq_false hff]
    simp (disch:=try exact DI) only [↓PR,QR,simprocAttr]
    refine no _ (ED.trans e6) (hD λ e=>hff ?_)
    rw [e,hf'] at hf
    exact (Option.some.inj hf).symm
 refine ZI ?_
 unfold IT
 simp (disch:=try exact DI) only [↓PR,QR,simprocAttr,(Za x2).1,(Za x3).1,(hA.c2 E1).1,(hA.c2 E1).2,(hA'.c2 E1).1,(hA'.c2 E1).2]
 refine ⟨?_,?_⟩
 · refine ⟨ee,?_⟩
   unfold Il
   simp (disch:=try exact DI) only [↓PR,QR,simprocAttr]
   refine ⟨ee,ee,YZ ?_⟩
   simp only [World.size_alloc,World.size_drew]
   have q6:=((Ext.refl (w1.drew.alloc (Obj.cells (Zx a fv).toArray 24))).alloc (Obj.cells (Zx b fv').toArray 24)).obj (ZE w1.drew _ _)
   have q7:=ZE (w1.drew.alloc (Obj.cells (Zx a fv).toArray 24)) (Zx b fv').toArray 24
   rw [World.size_alloc,World.size_drew] at q7
   exact main _ _ _ ee q6 q7
 · refine ⟨ee,?_⟩
   unfold Ij
   simp (disch:=try exact DI) only [↓PR,QR,simprocAttr]
   refine ⟨ee,ee,YZ ?_⟩
   simp only [World.size_alloc,World.size_drew]
   have q7:=((Ext.refl (w1.drew.alloc (Obj.cells (Zx b fv').toArray 24))).alloc (Obj.cells (Zx a fv).toArray 24)).obj (ZE w1.drew _ _)
   have q6:=ZE (w1.drew.alloc (Obj.cells (Zx b fv').toArray 24)) (Zx a fv).toArray 24
   rw [World.size_alloc,World.size_drew] at q6
   exact main _ _ _ ee q6 q7
theorem Qe.grown {lo hi:Nat} {w w1 w2:World} {row:Option Nat} (h:Qe lo hi w w1) (hg:w1.grownBy w2 row) (hr:∀ b,row=some b→w.heap.size≤b):Qe lo hi w w2 :=
 ⟨hg.os.trans h.os,hg.tape.trans h.tape,hg.output.trans h.output,Nat.le_trans h.size hg.size,λ k hk hb=>(hg.block k (Nat.lt_of_lt_of_le hk h.size) (λ e=>by have:=hr k e.symm;omega)).trans (h.block k hk hb)⟩
section
variable {W w7:World} {R:RT}
theorem OF {d:YF} {A:Option Addr} {c p1 p3 p5:Nat} {t22 lv:Value} {L:List Int} (hM:Q0 W (.slice A d.msgs.length c) d.msgs) (o1:W.heap[p1]?=some (.cells (Zz d (.slice A d.msgs.length c)).toArray 28 (0,0))) (h15:W.heap.size≤p5) (e7:Ext W w7)
 (o5:w7.heap[p5]?=some (.cells #[.string d.name,.slice none 0 0,.string d.start] 28 (0,0))) (hL:Yy w7 (p5+1) lv L) (hLb:∀ x∈L,∃ i:Nat,x=i∧i < d.msgs.length) (hLl:L.length≤70)
 (hK:∀ w v,Ext W w→Qe p5 (p5+1) w7 w→w.heap[p5]?=some (.cells #[.string d.name,v,.string d.start] 28 (0,0))→Q0 w v (pick d.msgs L)→OQ (.pointer (some ⟨p1,0,none⟩)) (.pointer (some ⟨p3,0,none⟩)) (.pointer (some ⟨p5,0,none⟩)) t22 R w) :
 Yi (λ t7 w next3=>Px (.pointer (some ⟨p1,0,none⟩)) (.pointer (some ⟨p3,0,none⟩)) (.pointer (some ⟨p5,0,none⟩)) t7 t22 lv next3 R w) (.int .i64 0) w7:=by
 obtain ⟨css,hraw,hmt⟩:=Ze.raw hM
 have hA0:=hM
 obtain ⟨_,_,hAA,_,_,_,hel⟩:=Ze.open hM
 injection hAA with hA1 _ hA2
 subst hA1 hA2
 have hLs:=hL.ints
 have hLlt:∀ b,lv.ownBlock=some b→p5+1≤b∧b < w7.heap.size:=λ b h=>hL.lt b h
 obtain ⟨A5,c5,rfl,hl5,_,_,hel5⟩:=Ze.open hLs
 have s7:=e7.size
 have l1:=(Array.getElem?_eq_some_iff.1 o1).1
 have l5:=(Array.getElem?_eq_some_iff.1 o5).1
 refine ZA (λ a w=>∃ (k:Nat) (v:Value),a = .int .i64 k∧k≤L.length∧Ext W w∧Qe p5 (p5+1) w7 w∧w.heap[p5]?=some (.cells #[.string d.name,v,.string d.start] 28 (0,0))∧Z5 w w7.heap.size TM 2 Subtype.val v (pick css (L.take k))) (λ a _=>L.length - (intOf a).toNat) ⟨0,_,rfl,by omega,e7,Qe.refl _ _ _,o5,Z5.nil _ _ _ _ _⟩ ?_
 rintro _ w ⟨k,v,rfl,hk,e,sv,y5,hOv⟩
 have hv1:v.oneCell'=true:=Ze.oneCell (hOv.slice (E:=λ _ cs x=>cs=x.1) (λ x=>x.2) (λ _ _=>rfl))
 have hwk:IntKind.i64.wrap ((k:Int)+1)=(k:Int)+1:=Yk (by omega) (by omega)
 unfold Px
 rcases ZB hk with ⟨x,hx,_,hlt,hdec⟩ | ⟨hke,_,hdec⟩
 · obtain ⟨i,rfl,hil⟩:=hLb x (List.mem_of_getElem? hx)
   obtain ⟨b5,o5',cs5,rfl,_,hA5,rfl⟩:=hel5 _ _ hx
   have hb5:=hLlt b5 rfl
   obtain ⟨ck,hck⟩:=getElem?_lt (l:=css) (k:=i) (by rw [hmt.1];exact hil)
   obtain ⟨m,hm⟩:=getElem?_lt hil
   obtain ⟨bM,oM,cs,rfl,_,hEk,fv,rfl,hF⟩:=hel i m hm
   have hfv:=Ze.oneCell hF
   have hcke:ck.1=Zx m fv:=by
    obtain ⟨A',c',hAv,_,_,hne⟩:=hraw
    injection hAv with hAv1 _ _
    obtain ⟨b',o',hA',hcs'⟩:=hne (by rintro rfl;simp at hck)
    rw [← hAv1] at hA'
    injection hA' with hA'
    injection hA' with hA1 hA2 _
    subst hA1 hA2
    obtain ⟨cs',hl',h2,rfl⟩:=hcs' i ck hck
    apply List.ext_getElem?
    intro j
    by_cases hj:j < 2
    · have a:=h2 j _ (List.getElem?_eq_getElem (by rw [ck.2];exact hj))
      have b:=hEk j _ (List.getElem?_eq_getElem (show j < (Zx m fv).length from hj))
      rw [a] at b
      rw [List.getElem?_eq_getElem (by rw [ck.2];exact hj),List.getElem?_eq_getElem (show j < (Zx m fv).length from hj)]
      exact b
    · rw [List.getElem?_eq_none (by rw [ck.2];omega),List.getElem?_eq_none (show (Zx m fv).length≤j from by show 2≤j;omega)]
   have lM:bM < W.heap.size:=World.block_lt_of_cell? W _ (hEk 0 _ rfl)
   obtain ⟨g,hgd⟩:∃ g,g=v.ownBlock.getD w.heap.size:=⟨_,rfl⟩
   have s1:=sv.size
   have hgB:w7.heap.size≤g:=by
    rw [hgd]
    cases hv:v.ownBlock with
    | none=>exact s1
    | some b=>exact (hOv.lt b hv).1
   have n1:p1≠g:=by omega
   have n5:p5≠g:=by omega
   have nb:b5≠g:=by omega
   have nM:bM≠g:=by omega
   have a5:w.cell? ⟨b5,o5'+k,none⟩=some (.int .i64 (i:Int)):=by
    have:=sv.cell (hA5 0 _ rfl) (.inr (by omega))
    simpa using this
   have hq:∀ K:Value→Prop,qV Pg (KB w g g) (Instr.loadAt TM (.pointer (some ⟨bM,oM+i*2,none⟩))) K=K (.agg (Zx m fv).toArray):=λ K=>UI λ w' hw=>XX λ QP k=>V1 (ZS.loads (w:=w') (b:=bM) (o:=oM+i*2) (cs:=Zx m fv) (λ j u hu=>KB.cell hw nM nM ((hEk.ext e) j u hu)) Uh rfl)
   simp (disch:=try exact DI) only [↓PR,QR,simprocAttr,hdec]
   refine Ve (w1:=w) g g (λ _ _ _ _=>rfl) ?_
   unfold ZcB
   simp (disch:=try exact DI) only [↓PR,QR,simprocAttr,(Za y5).1,(Za (e.obj o1)).1,a5,↓hq,Nat.mul_one]
   generalize hA':World.alloc (World.drew w) _=Z
   have eZ:Ext w Z:=by rw [← hA'];exact ee
   have oZ:Z.heap[w.heap.size]?=some (.cells (Zx m fv).toArray TM (0,0)):=by
    rw [← hA']
    have:=ZE w.drew (Zx m fv).toArray TM
    rw [World.size_drew] at this
    exact this
   clear hA'
   refine ⟨λ b hb _ _=>eZ.block b hb,?_⟩
   have s0:=eZ.size
   have hpl:(pick css (L.take k)).length≤1000:=Nat.le_trans (List.length_filterMap_le _ _) (by rw [List.length_take];omega)
   refine ju (cs:=ck) (hOv.ext eZ) (λ u hu=>?_) ?_ (by omega) hpl ?_
   · rw [hcke] at hu
     simp only [Zx,List.mem_cons,List.not_mem_nil,or_false] at hu
     rcases hu with rfl | rfl
     · rfl
     · exact hfv
   · rw [hcke]
     exact λ j u hu=>by rw [Nat.zero_add,(Za oZ).1];simpa using hu
   intro v' w' hO' hg'
   have hown:∀ b,v.ownBlock=some b→w7.heap.size≤b:=λ b hb=>(hOv.lt b hb).1
   refine ⟨λ b hb hbg _=>(hg'.block b (by omega) λ h=>hbg (by rw [hgd,← h];rfl)).trans (eZ.block b hb),?_⟩
   have z5:w'.heap[p5]?=_:=(hg'.block p5 (by omega) λ h=>by have:=hown _ h.symm;omega).trans (eZ.obj y5)
   have e':Ext W w':=(e.trans eZ).grown hg' λ b hb=>by have:=hown b hb;omega
   have sv':Qe p5 (p5+1) w7 w':=(sv.ext eZ).grown hg' hown
   have s':=hg'.size
   have hv'1:v'.oneCell'=true:=Ze.oneCell (hO'.slice (E:=λ _ cs x=>cs=x.1) (λ x=>x.2) (λ _ _=>rfl))
   unfold ZaP
   simp (disch:=try exact DI) only [↓PR,QR,simprocAttr,(Za z5).1,(Za z5).2]
   refine YZ ?_
   have ho:=Yu.setCell w' p5 1 v'
   have u5:(w'.setCell ⟨p5,1,none⟩ v').heap[p5]?=some (.cells #[.string d.name,v',.string d.start] 28 (0,0)):=by simpa using Z2 (o:=1) z5 v'
   simp (disch:=try exact DI) only [↓PR,QR,simprocAttr,hwk]
   refine ⟨⟨k+1,v',rfl,by omega,e'.setCell (p:=⟨p5,1,none⟩) (by exact h15) _,sv'.setCell (Nat.le_refl _) (by omega) _,u5,?_⟩,ZF (kd := .i64) hlt⟩
   rw [ZU hx,AQ hck]
   exact (WI.only (Z5.range hO') ho (.inr (.inl (by omega)))).1
 · subst hke
   rw [List.take_length] at hOv
   simp (disch:=try exact DI) only [↓PR,QR,simprocAttr,hdec]
   refine hK w v e sv y5 (hOv.reads (E:=GZ) ((ji hmt λ x hx=>?_).imp λ cs m h=>Ik _ _ _ _ e h))
   obtain ⟨i,rfl,hi⟩:=hLb x hx
   simpa using hi
end
theorem Lh {d:YF} {L:List Int} (hf:Ii d) (hs:Eq d):∀ m∈pick d.msgs L,m.fields.length≤400∧∀ f∈m.fields,okG 140737488355328 f:=by
 intro m hm
 unfold pick at hm
 obtain ⟨i,_,hi⟩:=List.mem_filterMap.1 hm
 have hmm:=List.mem_of_getElem? hi
 exact ⟨by have:=CF hmm;have:=hf.2.1;omega,λ f hff=>⟨(hf.2.2 m hmm f hff).1,(hf.2.2 m hmm f hff).2,((hs.2 m hmm).2 f hff).2.2⟩⟩
theorem xK (w0:World) (v:Value) (d:YF) (hd:Yv w0 v d) (hs:Eq d):Ret Pg 7 #[v] w0 λ r w'=>r = .bool true∧Ext w0 w':=by
 obtain ⟨mv,rfl,hM⟩:=hd
 have hm1:=Ze.oneCell hM
 have hM0:=hM
 obtain ⟨A,c,rfl,hlc,hcm,hlm,hel⟩:=Ze.open hM
 refine n4s (R:=ZQ _) ?_;unfold n4
 rw [Xk]
 have o1:=ZE w0 (Zz d (.slice A d.msgs.length c)).toArray 28
 have eW:Ext w0 (w0.alloc (.cells (Zz d (.slice A d.msgs.length c)).toArray 28)):=ee
 generalize (w0.alloc (.cells (Zz d (.slice A d.msgs.length c)).toArray 28))=W at o1 eW ⊢
 generalize hp1:w0.heap.size=p1 at o1 ⊢
 have hD:∀ w,Ext W w→Yv w (.agg (Zz d (.slice A d.msgs.length c)).toArray) d:=λ w e=>⟨_,rfl,hM0.ext (eW.trans e)⟩
 have sW:=eW.size
 have l1:=(Array.getElem?_eq_some_iff.1 o1).1
 simp (disch:=try exact DI) only [↓PR,QR,simprocAttr,(Za o1).1]
 refine Zt (Np _ _ d (hD _ (Ext.refl _)) hs) ?_
 rintro _ w1 ⟨b,rfl,hfit,e1⟩
 unfold Sa
 cases b with
 | false =>
  simp (disch:=try exact DI) only [↓PR,QR,simprocAttr]
  refine zcr (zU _) λ w2 e2=>?_
  simp (disch:=try exact DI) only [↓PR,QR,simprocAttr]
  exact ⟨by trivial,eW.trans (e1.trans e2)⟩
 | true =>
 have hfitd:=hfit rfl
 have ht:=Lr hfitd
 have htm:=Lx hfitd
 have s1:=e1.size
 simp (disch:=try exact DI) only [↓PR,QR,simprocAttr,(Za (e1.obj o1)).1]
 refine Zt (Md _ _ d (hD _ e1) ht htm) ?_
 rintro _ w2 ⟨⟨u2,rfl,mp,rfl,hN⟩,e2⟩
 have f2:=e1.trans e2
 have s2:=e2.size
 have hmp:=Ze.oneCell hN.plain
 unfold SP
 have hc2:∀ O o,(w2.alloc O).cell? ⟨p1,o,none⟩=(Zz d (.slice A d.msgs.length c)).toArray[o]?:=λ O o=>(Za ((Ext.alloc (Ext.refl w2) O).obj (f2.obj o1))).1 o
 simp (disch:=try exact DI) only [↓PR,QR,simprocAttr,hc2]
 have eY:Ext w2 (w2.alloc (.cells #[.string (VK d).name,mp,.string (VK d).start] 28)):=ee
 have oY:=ZE w2 #[.string (VK d).name,mp,.string (VK d).start] 28
 generalize (w2.alloc (.cells #[.string (VK d).name,mp,.string (VK d).start] 28))=Y at eY oY ⊢
 have fY:=f2.trans eY
 generalize hp3:w2.heap.size=p3 at oY ⊢
 refine zcr (FJ _ _ d (hD _ fY) ht) λ w4 e4=>?_
 have f4:=fY.trans e4
 have x3:=e4.obj oY
 have g4:=eY.trans e4
 by_cases hc:(Yl d).2.2=0
 case neg =>
  have hpn:VK d=J4:=if_neg hc
  rw [show Qc d=true by unfold Qc;simp [hc],show jN d=2 from if_neg hc]
  rw [hpn] at x3 hN
  have dd:decide (J4=J4)=true:=by simp
  unfold Sx
  simp (disch:=try exact DI) only [↓PR,QR,simprocAttr,(Za x3).1]
  refine zcr (Gf _ _ _ J4 J4 ⟨mp,rfl,hN.plain.ext g4⟩ ⟨.slice none 0 0,rfl,Ze.nil _ _ _⟩) λ w5 e5=>?_
  simp (disch:=try exact DI) only [↓PR,QR,simprocAttr,dd,↓Zcs,↓ZaY]
  refine zcr (zU _) λ w8 e8=>?_
  simp (disch:=try exact DI) only [↓PR,QR,simprocAttr]
  exact ⟨by trivial,eW.trans (f4.trans (e5.trans e8))⟩
 have hpp:VK d=⟨d.name,pick d.msgs (WD d.msgs (Yz d)),d.start⟩:=if_pos hc
 have hl60:=(Xh hc).2.1.2
 rw [show Qc d=false by unfold Qc;simp [hc],show jN d=0 from if_pos hc]
 rw [hpp] at x3 hN
 have hLb:∀ x∈WD d.msgs (Yz d),∃ i:Nat,x=i∧i < d.msgs.length:=λ x hx=>by
  obtain ⟨i,h1,_,h3⟩:=WR.1 hx
  exact ⟨i,h3,h1⟩
 have hLl:(WD d.msgs (Yz d)).length≤d.msgs.length:=UF _ _
 have hpf:=Lh (L:=WD d.msgs (Yz d)) hfitd hs
 have hc4:∀ O o,(w4.alloc O).cell? ⟨p1,o,none⟩=(Zz d (.slice A d.msgs.length c)).toArray[o]?:=λ O o=>(Za ((Ext.alloc (Ext.refl w4) O).obj (f4.obj o1))).1 o
 unfold Tz
 simp (disch:=try exact DI) only [↓PR,QR,simprocAttr,(Za (f4.obj o1)).1,hc4]
 have eZ:Ext w4 (w4.alloc (.cells #[.string d.name,.slice none 0 0,.string d.start] 28)):=ee
 have oZ:=ZE w4 #[.string d.name,.slice none 0 0,.string d.start] 28
 have sZ:(w4.alloc (.cells #[.string d.name,.slice none 0 0,.string d.start] 28)).heap.size=w4.heap.size+1:=by simp only [World.size_alloc]
 generalize (w4.alloc (.cells #[.string d.name,.slice none 0 0,.string d.start] 28))=Z at eZ oZ sZ ⊢
 have s4:=g4.size
 generalize hp5:w4.heap.size=p5 at oZ sZ s4 ⊢
 have fZ:=f4.trans eZ
 refine Zt (Hd _ _ d (hD _ fZ) ht hc) ?_
 rintro lv w7 ⟨hL,e7⟩
 have f7:=fZ.trans e7
 have lZ:=(Array.getElem?_eq_some_iff.1 x3).1
 have sx:=f4.size
 refine OF (W:=W) (d:=d) (hM0.ext eW) o1 (by omega) f7 (e7.obj oZ) (by rw [← sZ];exact hL) hLb (by omega) ?_
 intro w v e sv y5 hV
 have hv1:=Ze.oneCell hV
 have g7:Ext w4 w7:=eZ.trans e7
 have y3:=sv.obj (g7.obj x3) (.inl (by omega))
 have hN7:Q4 w w1.heap.size p3 mp (pick d.msgs (WD d.msgs (Yz d))):=by
  have:=A1 (hN.ext (g4.trans g7)) sv (.inl (by omega))
  rw [hp3] at this
  exact this
 generalize hPd:(⟨d.name,pick d.msgs (WD d.msgs (Yz d)),d.start⟩:YF)=P at y3 hN
 have hPm:P.msgs=pick d.msgs (WD d.msgs (Yz d)):=by rw [← hPd]
 have hPn:P.name=d.name:=by rw [← hPd]
 have hPs:P.start=d.start:=by rw [← hPd]
 rw [← hPm] at hN7 hV hpf
 rw [← hPn,← hPs] at y5
 have hPl:P.msgs.length≤70:=by rw [hPm];exact Nat.le_trans (List.length_filterMap_le _ _) (by omega)
 have dP:decide (P=P)=true:=by simp
 have dd:decide (d=d)=true:=by simp
 unfold OQ
 simp (disch:=try exact DI) only [↓PR,QR,simprocAttr,(Za y3).1,(Za y5).1]
 refine zcr (Gf _ _ _ P P ⟨mp,rfl,hN7.plain⟩ ⟨v,rfl,hV⟩) λ w8 e8=>?_
 have E8:=e.trans e8
 simp (disch:=try exact DI) only [↓PR,QR,simprocAttr,dP,↓Ss,(Za (E8.obj o1)).1]
 refine Zt (Ez _ _ d (hD _ E8) htm) ?_
 rintro _ w9 ⟨⟨mb,rfl,hB⟩,e9⟩
 have hmb:=Ze.oneCell hB.plain
 have E9:=E8.trans e9
 have g9:=e8.trans e9
 unfold Tp
 simp (disch:=try exact DI) only [↓PR,QR,simprocAttr]
 have eU:Ext w9 (w9.alloc (.cells #[.string d.name,mb,.string d.start] 28)):=ee
 have oU:=ZE w9 #[.string d.name,mb,.string d.start] 28
 generalize (w9.alloc (.cells #[.string d.name,mb,.string d.start] 28))=U at eU oU ⊢
 have s8:=e8.size
 have s9:=e9.size
 have s10:=eU.size
 have sv7:=sv.size
 have s7:=g7.size
 generalize hp8:w9.heap.size=p8 at oU ⊢
 refine ND (B:=140737488355328) (d:=P) (((hN7.ext g9).ext eU).shapeM hpf) hPl ((g9.trans eU).obj y3) (.inr (Nat.le_refl _)) (by omega) ?_
 intro w10 hs10
 have E10:Ext W w10:=hs10.to_ext (E9.trans eU) s1
 have z8:=hs10.obj oU (.inr (by omega))
 have hB10:=A1 (hB.ext eU) hs10 (.inr (.inl (by omega)))
 unfold MW
 simp (disch:=try exact DI) only [↓PR,QR,simprocAttr,(Za z8).1,(Za (E10.obj o1)).1]
 refine zcr (Gf _ _ _ d d ⟨mb,rfl,hB10.plain⟩ (hD _ E10)) λ w11 e11=>?_
 simp (disch:=try exact DI) only [↓PR,QR,simprocAttr,dd,↓Th]
 refine zcr (zU _) λ w12 e12=>?_
 simp (disch:=try exact DI) only [↓PR,QR,simprocAttr]
 exact ⟨by trivial,eW.trans (E10.trans (e11.trans e12))⟩
end Go.Proofs.YtfjjgjjlebllmaaGreat
namespace Go.Proofs.YtfjjgjjlebllmaaGreat
open Sw
open Go.ChangeShapes Go.WideShapes Go.RowKit Go.ChangeAt Go.Deep
theorem scprunes_own:ownKnob Pg.godebug=none:=by kernel_rfl
theorem scprunes_laidOut:laidOutB Pg=true:=by kernel_rfl
theorem scprunes_lifted (os:Os) (started:os.Started) (H:Type) (enc:TypeId×Value→H) :
 ReturnsInHanded {} Tryz.checked os 7 .any (Rows.scopePrunesSpec.pre6 enc Pg Tryz.f7 Rows.scopePrunesRow.domain false) (Rows.scopePrunesSpec.post enc Pg Tryz.f7 false true false false):=by
 refine returnsInHanded_of_change_sized (C:=Tryz.checked) scprunes_own started (by kernel_rfl) Tryz.func7
  (ChangeSpec.witness6 (enc:=enc) (C:=Tryz.checked) false ⟨#[],#[.agg #[.string ByteArray.empty,.slice none 0 0,.string ByteArray.empty]],[]⟩ 8 (by kernel_rfl) (by kernel_rfl) (by kernel_rfl) (by kernel_rfl)) ?_
 intro W base args ds gs before hval hW _ hsz _
 have hW':=hW
 obtain ⟨p,q,hA0,hV,rfl,_,_⟩:=hW
 have hA:DataW.TrodAll enc Pg W 0 (λ _=>true) true Tryz.f7.params.toList args.toList ds p:=hA0
 rw [Tryz.params7] at hA hval hsz
 obtain ⟨v0,vs0,d0,ds0,p0,q0,ha0,rfl,rfl,h0,r0⟩:=trodAll_cons hA
 obtain ⟨rfl,rfl,rfl⟩:=trodAll_nil r0
 obtain rfl:args = #[v0]:=by cases args;simp_all
 obtain ⟨f0,hf0,hs0⟩:=Rm (hval 0 _ v0 rfl rfl) h0 (Hf (j:=0) hsz rfl rfl)
 refine Calls.mono (xK W v0 f0 hf0 hs0) λ e W' ⟨v,he,hv,hx⟩=>?_
 subst he hv
 exact ⟨_,rfl,NT scprunes_laidOut (by decide +kernel) rfl hW' hx rfl Tryz.underlying4 rfl rfl rfl⟩
theorem scprunes_holds:Rows.ScopePrunesSaid :=
 OpenClaim.holds_of_wide 7 Tryz.f7 rfl rfl rfl rfl rfl rfl rfl ⟨rfl,rfl,rfl,rfl,rfl⟩ rfl rfl rfl rfl rfl (by kernel_rfl) Tryz.func7 (by kernel_rfl)
  (of_decide_eq_true (by kernel_rfl)) (by unfold Func.isWrapper;first | (rw [if_pos (by decide +kernel)];kernel_rfl) | (rw [if_neg (by decide +kernel)];exact ⟨rfl,rfl⟩))
  (λ os started H enc _=>scprunes_lifted os started H enc)
end Go.Proofs.YtfjjgjjlebllmaaGreat
