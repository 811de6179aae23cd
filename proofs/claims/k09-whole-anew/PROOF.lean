import PyProof.Rows.All
import Wide.All
import OpenK.AllK
import Wide.FinOn
import HandS.ForMost
import HandS.ForExc
import HandS.Walk
import HandS.Evl
import HandS.IsInst
import HandS.Strs
import HandS.SetFor
import HandS.SortInts
import HandS.Wide
import HandS.ExcCtx
import HandS.HotCalls
import HandS.ExcIs
import HandS.Style
import HandS.RevRange
import HandS.Conv
import HandS.TupLe
import HandS.New0
import HandS.CallRecv
import HandS.Text
import HandS.Nested
import HandS.EndTab
import HandS.EndOwn
import PySem.Challenge.RW_stonesround_k09_whole_anew
set_option Elab.async false
set_option linter.all false
set_option maxRecDepth 100000
set_option maxHeartbeats 4000000
/-! Sr0: words over the hand layer: what is evaluated with the heap grown, promises by ghost data, walks. -/
namespace Sr
open PySem PySem.Spec PyProof.Rows L2 Evl

/-! ### values of any kind -/
/-- te gives some v of which P holds (the heap ahead, the value, the heap behind) -/
def EvP (te : TE) (σ : L2.St) (H : Hp) (P : Hp → V → Hp → Prop) : Prop :=
  ∀ H1, Ex H H1 → ∀ Q : VK, (∀ v H2, Ex H1 H2 → P H1 v H2 → Q v H2) → te σ H1 Q
def EvAP (ta : TA) (σ : L2.St) (H : Hp) (P : Hp → List V → Hp → Prop) : Prop :=
  ∀ H1, Ex H H1 → ∀ Q : List V → Hp → Prop, (∀ vs H2, Ex H1 H2 → P H1 vs H2 → Q vs H2) → ta σ H1 Q

section
variable {K : PySem.W.Frag} {σ : L2.St} {H H' : Hp} {ta tb te tx : TE} {t u : TT} {x y z v : V} {r : R2}
theorem EvP.of (h : Ev te σ H v) : EvP te σ H (fun _ w _ => w = v) := fun H1 e Q q => h H1 e Q fun H2 e2 => q v H2 e2 rfl
theorem EvP.ofL {xs : List V} (h : EvL te σ H xs) : EvP te σ H (fun H1 w H2 => ∃ p, w = .ref p ∧ H1 p = none ∧ H2 p = some (.lst xs)) :=
  fun H1 e Q q => h H1 e Q fun p H2 n e2 h2 => q _ H2 e2 ⟨p, rfl, n, h2⟩
theorem EvP.imp {P P' : Hp → V → Hp → Prop} (h : EvP te σ H P) (i : ∀ H1 w H2, Ex H H1 → Ex H1 H2 → P H1 w H2 → P' H1 w H2) : EvP te σ H P' :=
  fun H1 e Q q => h H1 e Q fun w H2 e2 p => q w H2 e2 (i H1 w H2 e e2 p)
theorem EvP.val {P : Hp → V → Hp → Prop} (h : EvP te σ H P) (i : ∀ H1 w H2, Ex H H1 → Ex H1 H2 → P H1 w H2 → w = v) : Ev te σ H v :=
  fun H1 e Q q => h H1 e Q fun w H2 e2 p => by rw [i H1 w H2 e e2 p]; exact q H2 e2
theorem EvP.mono {P : Hp → V → Hp → Prop} (e : Ex H H') (h : EvP te σ H P) : EvP te σ H' P := fun H1 a Q q => h H1 (e.trans a) Q q

theorem EvAP.of {ta : TA} {vs : List V} (h : EvA ta σ H vs) : EvAP ta σ H (fun _ w _ => w = vs) := fun H1 e Q q => h H1 e Q fun H2 e2 => q vs H2 e2 rfl
theorem eap_nil : EvAP tNil σ H (fun _ w _ => w = []) := fun H1 _ _ q => q [] H1 (Ex.refl H1) rfl

/-! ### one argument that is a new list, for a built-in or a def -/
theorem ev_cbL {r : List V → Hp → VK → Prop} {xs : List V} (h : EvL te σ H xs) (hr : ∀ p H1, Ex H H1 → H1 p = some (.lst xs) → RC r [.ref p] H1 z) : Ev (tCB r (tCons te tNil)) σ H z :=
  fun H1 e Q q => h H1 e _ fun p H2 _ e2 hp => hr p H2 (e.trans e2) hp H2 (Ex.refl H2) Q fun H3 e3 => q H3 (e2.trans e3)
theorem el_cbL {r : List V → Hp → VK → Prop} {xs ys : List V} (h : EvL te σ H xs) (hr : ∀ p H1, Ex H H1 → H1 p = some (.lst xs) → RCL r [.ref p] H1 ys) : EvL (tCB r (tCons te tNil)) σ H ys :=
  fun H1 e Q q => h H1 e _ fun p H2 _ e2 hp => hr p H2 (e.trans e2) hp H2 (Ex.refl H2) Q fun p' H3 n e3 h3 => q p' H3 (fresh_back e2 n) (e2.trans e3) h3
end

/-! ### promises by ghost data: A what is handed in, R what is handed back -/
def spOf {α : Type} (A : α → List V → Hp → Prop) (R : α → Hp → V → Hp → Prop) : Sp := fun vs H Q _ => ∃ a, A a vs H ∧ ∀ v H', Ex H H' → R a H v H' → Q v H'
section
variable {K : PySem.W.Frag} {σ : L2.St} {H H' : Hp} {te : TE} {z : V} {α : Type} {A : α → List V → Hp → Prop} {R : α → Hp → V → Hp → Prop} {ta : TA} {E : XK}
theorem ep_call {PA : Hp → List V → Hp → Prop} (a : α) (h : EvAP ta σ H PA) (hA : ∀ H1 vs H2, Ex H H1 → Ex H1 H2 → PA H1 vs H2 → A a vs H2) : EvP (tCall (spOf A R) [] E ta) σ H (fun H1 v H2 => ∃ H0, Ex H1 H0 ∧ R a H0 v H2) :=
  fun H1 e Q q => h H1 e _ fun vs H2 e2 p => by
    refine ⟨a, ?_, fun v H3 e3 r => q v H3 (e2.trans e3) ⟨H2, e2, r⟩⟩
    rw [List.append_nil]
    exact hA H1 vs H2 e e2 p
theorem ep_callI {PA : Hp → List V → Hp → Prop} {P : Hp → V → Hp → Prop} (a : α) (h : EvAP ta σ H PA) (hA : ∀ H1 vs H2, Ex H H1 → Ex H1 H2 → PA H1 vs H2 → A a vs H2) (i : ∀ H1 H0 v H2, Ex H H1 → Ex H1 H0 → Ex H0 H2 → R a H0 v H2 → P H1 v H2) : EvP (tCall (spOf A R) [] E ta) σ H P :=
  fun H1 e Q q => h H1 e _ fun vs H2 e2 p => by
    refine ⟨a, ?_, fun v H3 e3 r => q v H3 (e2.trans e3) (i H1 H2 v H3 e e2 e3 r)⟩
    rw [List.append_nil]
    exact hA H1 vs H2 e e2 p
theorem ep_callA {vs : List V} {P : Hp → V → Hp → Prop} (a : α) (h : EvA ta σ H vs) (hA : ∀ H2, Ex H H2 → A a vs H2) (i : ∀ H1 H0 v H2, Ex H H1 → Ex H1 H0 → Ex H0 H2 → R a H0 v H2 → P H1 v H2) : EvP (tCall (spOf A R) [] E ta) σ H P :=
  ep_callI a (EvAP.of h) (fun H1 w H2 e1 e2 p => by rw [p]; exact hA H2 (e1.trans e2)) i
theorem ev_callV {vs : List V} (a : α) (h : EvA ta σ H vs) (hA : ∀ H1, Ex H H1 → A a vs H1) (hR : ∀ H1 v H2, R a H1 v H2 → v = z) : Ev (tCall (spOf A R) [] E ta) σ H z :=
  EvP.val (ep_call a (EvAP.of h) fun H1 w H2 e e2 p => by rw [p]; exact hA H2 (e.trans e2)) fun _ w _ _ _ ⟨H0, _, r⟩ => hR H0 w _ r
theorem ev_callL {xs : List V} (a : α) (h : EvL te σ H xs) (hA : ∀ p H1, Ex H H1 → H1 p = some (.lst xs) → A a [.ref p] H1) (hR : ∀ H1 v H2, R a H1 v H2 → v = z) : Ev (tCall (spOf A R) [] E (tCons te tNil)) σ H z :=
  fun H1 e Q q => h H1 e _ fun p H2 _ e2 hp => ⟨a, hA p H2 (e.trans e2) hp, fun v H3 e3 r => by rw [hR H2 v H3 r]; exact q H3 (e2.trans e3)⟩
end

/-! ### statements with values of any kind -/
section
variable {K : PySem.W.Frag} {σ : L2.St} {H H' : Hp} {ta tb te tx : TE} {t u : TT} {x y z v : V} {D : Ends} {tu tw tz : TS} {g : TG} {P : Hp → V → Hp → Prop}
theorem s_asgP {i : Nat} (h : EvP te σ H P) (k : ∀ w H1, Ex H H1 → P H w H1 → D.nx (σ.set i (some w)) H1) : tAsg te (gName i) D σ H := h H (Ex.refl H) _ k
theorem q_asgP {i : Nat} (h : EvP te σ H P) (k : ∀ w H1, Ex H H1 → P H w H1 → tz D (σ.set i (some w)) H1) : tSeq (tAsg te (gName i)) tz D σ H := h H (Ex.refl H) _ k
theorem s_retP (h : EvP te σ H P) (k : ∀ w H1, Ex H H1 → P H w H1 → D.rt w H1) : tRet te D σ H := h H (Ex.refl H) _ k
theorem s_dropP (h : EvP te σ H P) (k : ∀ w H1, Ex H H1 → P H w H1 → D.nx σ H1) : tDrop te D σ H := h H (Ex.refl H) _ k
theorem q_dropP (h : EvP te σ H P) (k : ∀ w H1, Ex H H1 → P H w H1 → tz D σ H1) : tSeq (tDrop te) tz D σ H := h H (Ex.refl H) _ k

/-! ### walks: a for over enumerate, over zip, over a walk at large -/
def EvI (wi : TI) (σ : L2.St) (H : Hp) (J : It) (G : Hp → Prop) : Prop := ∀ H1, Ex H H1 → ∀ R : It → Hp → Prop, (∀ H2, Ex H1 H2 → G H2 → R J H2) → wi σ H1 R
theorem ei_list {a : Addr} {xs : List V} {tl : TE} (h : Ev tl σ H (.ref a)) (hx : SqL K H a xs) : EvI (iList K tl) σ H (Itl K a) (fun H => SqL K H a xs) :=
  fun H1 e R q => h H1 e _ fun H2 e2 => ⟨a, rfl, ⟨xs, ex_l (e.trans e2) hx⟩, q H2 e2 (ex_l (e.trans e2) hx)⟩
theorem ei_enum {a : Addr} {xs : List V} {tl : TE} (h : Ev tl σ H (.ref a)) (hx : SqL K H a xs) : EvI (iEnum K (tCons tl tNil)) σ H (Ite K a) (fun H => SqL K H a xs) :=
  fun H1 e R q => h H1 e _ fun H2 e2 => ⟨a, xs, rfl, ex_l (e.trans e2) hx, q H2 e2 (ex_l (e.trans e2) hx)⟩
theorem ei_range1 {ta : TE} {n : Nat} (h : Ev ta σ H (.int (n : Int))) (hn : n ≤ 100000) : EvI (iRng1 (tCons ta tNil)) σ H (Itr 0 n) (fun _ => True) :=
  fun H1 e R q => h H1 e _ fun H2 e2 => ⟨(n : Int), rfl, by omega, by omega, by rw [Int.toNat_natCast]; exact q H2 e2 trivial⟩
theorem ei_range2 {ta tb : TE} {lo hi : Int} (h : Ev ta σ H (.int lo)) (h' : Ev tb σ H (.int hi)) (hl : -100000 ≤ lo ∧ lo ≤ 100000 ∧ -100000 ≤ hi ∧ hi ≤ 100000) : EvI (iRng2 (tCons ta (tCons tb tNil))) σ H (Itr lo (hi - lo).toNat) (fun _ => True) :=
  fun H1 e R q => h H1 e _ fun H2 e2 => h' H2 (e.trans e2) _ fun H3 e3 => ⟨lo, hi, rfl, ⟨by omega, by omega, by omega, by omega⟩, q H3 (e2.trans e3) trivial⟩
theorem s_forW {wi : TI} {J : It} {n : Nat} {G : Hp → Prop} {Y : Nat → Hp → V → Hp → Prop} (hi : EvI wi σ H J G) (w : Walk J n G Y) (Pv : Nat → L2.St → Hp → Prop) (h0 : ∀ H1, Ex H H1 → G H1 → Pv 0 σ H1) (hG : ∀ i σ' H', i ≤ n → Pv i σ' H' → G H')
    (hs : ∀ i x σ' H1 H', i < n → Pv i σ' H1 → Y i H1 x H' → g x σ' H' fun σ2 H2 => tu { D with nx := Pv (i + 1), ct := Pv (i + 1), bk := D.nx } σ2 H2) (hd : ∀ σ' H', Pv n σ' H' → D.nx σ' H') : tFor wi g tu D σ H :=
  hi H (Ex.refl H) _ fun H1 e g1 => for_it w Pv (h0 H1 e g1) hG hs hd
/-- for i, x in enumerate(xs) -/
theorem s_forE {a : Addr} {xs : List V} {tl : TE} {j k : Nat} (h : Ev tl σ H (.ref a)) (hx : SqL K H a xs) (Pv : Nat → L2.St → Hp → Prop) (h0 : ∀ H1, Ex H H1 → Pv 0 σ H1) (hl : ∀ i σ' H', i ≤ xs.length → Pv i σ' H' → SqL K H' a xs)
    (hs : ∀ i x σ' H' H2, xs[i]? = some x → Pv i σ' H' → Ex H' H2 → tu { D with nx := Pv (i + 1), ct := Pv (i + 1), bk := D.nx } ((σ'.set j (some (.int (i : Nat)))).set k (some x)) H2) (hd : ∀ σ' H', Pv xs.length σ' H' → D.nx σ' H') :
    tFor (iEnum K (tCons tl tNil)) (gTup K 2 (gCons (gName j) (gCons (gName k) gNil))) tu D σ H := by
  refine s_forW (ei_enum h hx) walk_enum Pv (fun H1 e _ => h0 H1 e) hl (fun i x σ' H1 H' hi p y => ?_) hd
  obtain ⟨T, x1, x2, rfl, nT, rfl, f1, f2⟩ := y
  have e1 : x1 = .int (i : Nat) := (Option.some.inj f1).symm
  subst e1
  refine ⟨T, [.int (i : Nat), x2], rfl, st_of upd_same, rfl, _, [x2], rfl, x2, [], rfl, rfl, ?_⟩
  exact hs i x2 σ' H1 _ f2 p (Ex.new nT)
theorem s_forR {ta : TE} {n j : Nat} (h : Ev ta σ H (.int (n : Int))) (hn : n ≤ 100000) (Pv : Nat → L2.St → Hp → Prop) (h0 : ∀ H1, Ex H H1 → Pv 0 σ H1)
    (hs : ∀ i σ' H', i < n → Pv i σ' H' → tu { D with nx := Pv (i + 1), ct := Pv (i + 1), bk := D.nx } (σ'.set j (some (.int (i : Nat)))) H') (hd : ∀ σ' H', Pv n σ' H' → D.nx σ' H') : tFor (iRng1 (tCons ta tNil)) (gName j) tu D σ H := by
  refine s_forW (ei_range1 h hn) walk_range Pv (fun H1 e _ => h0 H1 e) (fun _ _ _ _ _ => trivial) (fun i x σ' H1 H' hi p y => ?_) hd
  obtain ⟨rfl, rfl⟩ := y
  have e0 : (fun i : Nat => V.int ((0 : Int) + (i : Int))) i = .int (i : Int) := by
    show V.int ((0 : Int) + (i : Int)) = .int (i : Int)
    rw [Int.zero_add]
  rw [e0]
  exact hs i σ' H' hi p
/-- .. with more behind -/
theorem q_of (h : tu { D with nx := tz D } σ H) : tSeq tu tz D σ H := h
end

/-! ### list comprehensions whose items are plain values -/
section
variable {K : PySem.W.Frag} {σ : L2.St} {H H' : Hp} {te : TE} {tt : TT}
/-- what is given so far -/
def CwA {α : Type} (H : Hp) (zs : List α) (f : α → Bool) (v : α → V) (D : Addr) (i : Nat) (H' : Hp) : Prop := H D = none ∧ Ex H H' ∧ H' D = some (.lst (((zs.take i).filter f).map v))
theorem take_snoc {α : Type} {zs : List α} {i : Nat} {z : α} (h : zs[i]? = some z) : zs.take (i + 1) = zs.take i ++ [z] := by
  rw [List.take_add_one, h]
  rfl
theorem el_lcW {α : Type} {wi : TI} {J : It} {G : Hp → Prop} {Y : Nat → Hp → V → Hp → Prop} {g : TG} {vs : List Nat} (zs : List α) (f : α → Bool) (v : α → V) (hi : EvI wi σ H J G) (w : Walk J zs.length G Y) (hG : ∀ H1 H2, Ex H1 H2 → G H1 → G H2) (hz : zs.length ≤ 50000)
    (hs : ∀ (i : Nat) (z : α) (x : V) (H1 H2 : Hp), zs[i]? = some z → Ex H H1 → Y i H1 x H2 → ∃ σ2, Ex H1 H2 ∧ (∀ Q : L2.St → Hp → Prop, (∀ H3, Ex H2 H3 → Q σ2 H3) → g x (wipe σ vs) H2 Q) ∧ wipe σ2 vs = wipe σ vs ∧ EvT tt σ2 H1 (f z) ∧ (f z = true → Ev te σ2 H1 (v z))) :
    EvL (tLc wi g tt te vs) σ H ((zs.filter f).map v) := fun H0 e Q q => hi H0 e _ fun H1 e1 g1 D hD => by
  refine lc_it w (fun i H' => CwA H1 zs f v D i H') ⟨hD, Ex.new hD, upd_same⟩ (fun i H' _ p => hG H1 H' p.2.1 g1) (fun i x Ha Hb hlt p y => ?_) (fun H' p => ?_)
  · obtain ⟨p1, p2, p3⟩ := p
    have hz' : zs[i]? = some zs[i] := List.getElem?_eq_getElem hlt
    obtain ⟨σ2, eab, hg, hw, ht, he⟩ := hs i zs[i] x Ha Hb hz' ((e.trans e1).trans p2) y
    refine hg _ fun H3 e3 => ⟨hw, ?_⟩
    refine ht H3 (eab.trans e3) _ fun H4 e4 => ?_
    have ea4 : Ex Ha H4 := (eab.trans e3).trans e4
    cases hf : f zs[i] with
    | true =>
      show te σ2 H4 fun y H5 => ∃ acc, H5 D = some (.lst acc) ∧ acc.length < sizeLine ∧ CwA H1 zs f v D (i + 1) (upd H5 D (.lst (acc ++ [y])))
      refine he hf H4 ea4 _ fun H5 e5 => ⟨_, e5 D _ (ea4 D _ p3), ?_, p1, Ex.mut ((p2.trans ea4).trans e5) p1, ?_⟩
      · rw [List.length_map]
        refine sz_lt (Nat.lt_of_le_of_lt (List.length_filter_le _ _) ?_)
        rw [List.length_take]
        omega
      · rw [take_snoc hz', List.filter_append, List.map_append, upd_same, List.filter_cons, if_pos hf]
        rfl
    | false =>
      show CwA H1 zs f v D (i + 1) H4
      refine ⟨p1, p2.trans ea4, ?_⟩
      rw [take_snoc hz', List.filter_append, List.filter_cons, if_neg (by rw [hf]; decide), List.filter_nil, List.append_nil]
      exact ea4 D _ p3
  · obtain ⟨p1, p2, p3⟩ := p
    rw [List.take_length] at p3
    exact q D H' (fresh_back e1 p1) (e1.trans p2) p3
theorem et_yes : EvT tYes σ H true := fun H1 _ _ q => q H1 (Ex.refl H1)
/-- over a list, the target a name: zs the items as data -/
theorem el_lcN {α : Type} {a : Addr} {tl : TE} {j : Nat} {vs : List Nat} (zs : List α) (c : α → V) (f : α → Bool) (v : α → V) (h : Ev tl σ H (.ref a)) (hx : SqL K H a (zs.map c)) (hz : zs.length ≤ 50000) (hw : ∀ x, wipe ((wipe σ vs).set j (some x)) vs = wipe σ vs)
    (ht : ∀ (i : Nat) (z : α) (H1 : Hp), zs[i]? = some z → Ex H H1 → EvT tt ((wipe σ vs).set j (some (c z))) H1 (f z)) (he : ∀ (i : Nat) (z : α) (H1 : Hp), zs[i]? = some z → Ex H H1 → f z = true → Ev te ((wipe σ vs).set j (some (c z))) H1 (v z)) :
    EvL (tLc (iList K tl) (gName j) tt te vs) σ H ((zs.filter f).map v) := by
  have w := walk_list (K := K) (a := a) (xs := zs.map c)
  rw [List.length_map] at w
  refine el_lcW zs f v (ei_list h hx) w (fun _ _ e g => ex_l e g) hz fun i z x H1 H2 hi e y => ?_
  obtain ⟨rfl, hx'⟩ := y
  rw [List.getElem?_map, hi] at hx'
  have ex : c z = x := Option.some.inj hx'
  subst ex
  exact ⟨_, Ex.refl _, fun Q q => q _ (Ex.refl _), hw _, ht i z _ hi e, he i z _ hi e⟩
/-- over a new list -/
theorem el_lcNN {α : Type} {tl : TE} {j : Nat} {vs : List Nat} (zs : List α) (c : α → V) (f : α → Bool) (v : α → V) (h : EvL tl σ H (zs.map c)) (hz : zs.length ≤ 50000) (hw : ∀ x, wipe ((wipe σ vs).set j (some x)) vs = wipe σ vs)
    (ht : ∀ (i : Nat) (z : α) (H1 : Hp), zs[i]? = some z → Ex H H1 → EvT tt ((wipe σ vs).set j (some (c z))) H1 (f z)) (he : ∀ (i : Nat) (z : α) (H1 : Hp), zs[i]? = some z → Ex H H1 → f z = true → Ev te ((wipe σ vs).set j (some (c z))) H1 (v z)) :
    EvL (tLc (iList K tl) (gName j) tt te vs) σ H ((zs.filter f).map v) := fun H0 e Q q => h H0 e _ fun a H1 na e1 ha => by
  have hh : Ev (fun _ H2 Q2 => Q2 (.ref a) H2) σ H1 (.ref a) := fun H2 _ _ k => k H2 (Ex.refl H2)
  have hr := el_lcN (K := K) (σ := σ) (H := H1) (te := te) (tt := tt) (a := a) (tl := fun _ H2 Q2 => Q2 (.ref a) H2) (j := j) (vs := vs) zs c f v hh (sq_of ha) hz hw (fun i z H2 hi e2 => ht i z H2 hi ((e.trans e1).trans e2)) (fun i z H2 hi e2 => he i z H2 hi ((e.trans e1).trans e2))
  exact hr H1 (Ex.refl H1) Q fun p H2 n e2 hp => q p H2 (fresh_back e1 n) (e1.trans e2) hp
/-- over zip of two lists, the target a pair of names -/
theorem el_lcZ {α : Type} {a b : Addr} {ta tb : TE} {j k : Nat} {vs : List Nat} {xs ys : List V} (zs : List α) (c d : α → V) (f : α → Bool) (v : α → V) (h : EvI (iZip K (tCons ta (tCons tb tNil))) σ H (Itz K a b) (fun H => SqL K H a xs ∧ SqL K H b ys))
    (hl : zs.length = min xs.length ys.length) (hx : ∀ (i : Nat) (z : α), zs[i]? = some z → xs[i]? = some (c z) ∧ ys[i]? = some (d z)) (hz : zs.length ≤ 50000) (hw : ∀ x y, wipe (((wipe σ vs).set j (some x)).set k (some y)) vs = wipe σ vs)
    (ht : ∀ (i : Nat) (z : α) (H1 : Hp), zs[i]? = some z → Ex H H1 → EvT tt (((wipe σ vs).set j (some (c z))).set k (some (d z))) H1 (f z)) (he : ∀ (i : Nat) (z : α) (H1 : Hp), zs[i]? = some z → Ex H H1 → f z = true → Ev te (((wipe σ vs).set j (some (c z))).set k (some (d z))) H1 (v z)) :
    EvL (tLc (iZip K (tCons ta (tCons tb tNil))) (gTup K 2 (gCons (gName j) (gCons (gName k) gNil))) tt te vs) σ H ((zs.filter f).map v) := by
  refine el_lcW zs f v h (walk_zip hl) (fun _ _ e g => ⟨ex_l e g.1, ex_l e g.2⟩) hz fun i z x H1 H2 hi e y => ?_
  obtain ⟨T, x1, x2, rfl, nT, rfl, f1, f2⟩ := y
  obtain ⟨g1, g2⟩ := hx i z hi
  have f1' : xs[i]? = some x1 := f1
  have f2' : ys[i]? = some x2 := f2
  rw [g1] at f1'
  rw [g2] at f2'
  cases f1'
  cases f2'
  exact ⟨_, Ex.new nT, fun Q q => ⟨T, [c z, d z], rfl, st_of upd_same, rfl, _, [d z], rfl, d z, [], rfl, rfl, q _ (Ex.refl _)⟩, hw _ _, ht i z _ hi e, he i z _ hi e⟩
/-- over enumerate of a list -/
theorem el_lcE {α : Type} {a : Addr} {tl : TE} {j k : Nat} {vs : List Nat} (zs : List α) (c : α → V) (f : Nat × α → Bool) (v : Nat × α → V) (h : Ev tl σ H (.ref a)) (hx : SqL K H a (zs.map c)) (hz : zs.length ≤ 50000) (hw : ∀ x y, wipe (((wipe σ vs).set j (some x)).set k (some y)) vs = wipe σ vs)
    (ht : ∀ (i : Nat) (z : α) (H1 : Hp), zs[i]? = some z → Ex H H1 → EvT tt (((wipe σ vs).set j (some (.int (i : Nat)))).set k (some (c z))) H1 (f (i, z))) (he : ∀ (i : Nat) (z : α) (H1 : Hp), zs[i]? = some z → Ex H H1 → f (i, z) = true → Ev te (((wipe σ vs).set j (some (.int (i : Nat)))).set k (some (c z))) H1 (v (i, z))) :
    EvL (tLc (iEnum K (tCons tl tNil)) (gTup K 2 (gCons (gName j) (gCons (gName k) gNil))) tt te vs) σ H (((zs.zipIdx.map fun p => (p.2, p.1)).filter f).map v) := by
  have w := walk_enum (K := K) (a := a) (xs := zs.map c)
  rw [List.length_map] at w
  have wl : (zs.zipIdx.map fun p => (p.2, p.1)).length = zs.length := by simp
  refine el_lcW (zs.zipIdx.map fun p => (p.2, p.1)) f v (ei_enum h hx) (by rw [wl]; exact w) (fun _ _ e g => ex_l e g) (by omega) fun i z x H1 H2 hi e y => ?_
  obtain ⟨T, x1, x2, rfl, nT, rfl, f1, f2⟩ := y
  have hz2 : ∃ z', zs[i]? = some z' ∧ z = (i, z') := by
    rw [List.getElem?_map, List.getElem?_zipIdx] at hi
    cases q : zs[i]? with
    | none => rw [q] at hi; cases hi
    | some z' =>
      rw [q] at hi
      refine ⟨z', rfl, ?_⟩
      have hh := (Option.some.inj hi).symm
      simpa using hh
  obtain ⟨z', hz', rfl⟩ := hz2
  have f2' : (zs.map c)[i]? = some x2 := f2
  rw [List.getElem?_map, hz'] at f2'
  cases f1
  cases f2'
  exact ⟨_, Ex.new nT, fun Q q => ⟨T, [.int (i : Nat), c z'], rfl, st_of upd_same, rfl, _, [c z'], rfl, c z', [], rfl, rfl, q _ (Ex.refl _)⟩, hw _ _, ht i z' _ hz' e, he i z' _ hz' e⟩
/-- over range(n) -/
theorem el_lcR {ta : TE} {n j : Nat} {vs : List Nat} (f : Nat → Bool) (v : Nat → V) (h : Ev ta σ H (.int (n : Int))) (hn : n ≤ 50000) (hw : ∀ x, wipe ((wipe σ vs).set j (some x)) vs = wipe σ vs)
    (ht : ∀ i H1, i < n → Ex H H1 → EvT tt ((wipe σ vs).set j (some (.int (i : Nat)))) H1 (f i)) (he : ∀ i H1, i < n → Ex H H1 → f i = true → Ev te ((wipe σ vs).set j (some (.int (i : Nat)))) H1 (v i)) :
    EvL (tLc (iRng1 (tCons ta tNil)) (gName j) tt te vs) σ H (((List.range n).filter f).map v) := by
  have w : Walk (Itr 0 n) (List.range n).length (fun _ => True) (YFn fun i => .int ((0 : Int) + i)) := by rw [List.length_range]; exact walk_range
  refine el_lcW (List.range n) f v (ei_range1 h (by omega)) w (fun _ _ _ _ => trivial) (by simpa using hn) fun i z x H1 H2 hi e y => ?_
  obtain ⟨rfl, rfl⟩ := y
  have hlt : i < n := by
    obtain ⟨q, _⟩ := List.getElem?_eq_some_iff.mp hi
    simpa using q
  have ez : z = i := by
    rw [List.getElem?_range hlt] at hi
    exact (Option.some.inj hi).symm
  subst ez
  have e0 : (fun i : Nat => V.int ((0 : Int) + (i : Int))) z = .int (z : Int) := by
    show V.int ((0 : Int) + (z : Int)) = .int (z : Int)
    rw [Int.zero_add]
  rw [e0]
  exact ⟨_, Ex.refl _, fun Q q => q _ (Ex.refl _), hw _, ht z _ hlt e, he z _ hlt e⟩
theorem filt_true {α : Type} (l : List α) : (l.filter fun _ => true) = l := List.filter_eq_self.mpr fun _ _ => rfl
/-! .. without a test -/
theorem el_mW {α : Type} {wi : TI} {J : It} {G : Hp → Prop} {Y : Nat → Hp → V → Hp → Prop} {g : TG} {vs : List Nat} (zs : List α) (v : α → V) (hi : EvI wi σ H J G) (w : Walk J zs.length G Y) (hG : ∀ H1 H2, Ex H1 H2 → G H1 → G H2) (hz : zs.length ≤ 50000)
    (hs : ∀ (i : Nat) (z : α) (x : V) (H1 H2 : Hp), zs[i]? = some z → Ex H H1 → Y i H1 x H2 → ∃ σ2, Ex H1 H2 ∧ (∀ Q : L2.St → Hp → Prop, (∀ H3, Ex H2 H3 → Q σ2 H3) → g x (wipe σ vs) H2 Q) ∧ wipe σ2 vs = wipe σ vs ∧ Ev te σ2 H1 (v z)) :
    EvL (tLc wi g tYes te vs) σ H (zs.map v) := by
  have h := el_lcW (tt := tYes) zs (fun _ => true) v hi w hG hz fun i z x H1 H2 h1 h2 h3 => by
    obtain ⟨σ2, a, b, c, d⟩ := hs i z x H1 H2 h1 h2 h3
    exact ⟨σ2, a, b, c, et_yes, fun _ => d⟩
  rw [filt_true] at h
  exact h
theorem el_m {α : Type} {a : Addr} {tl : TE} {j : Nat} {vs : List Nat} (zs : List α) (c v : α → V) (h : Ev tl σ H (.ref a)) (hx : SqL K H a (zs.map c)) (hz : zs.length ≤ 50000) (hw : ∀ x, wipe ((wipe σ vs).set j (some x)) vs = wipe σ vs)
    (he : ∀ (i : Nat) (z : α) (H1 : Hp), zs[i]? = some z → Ex H H1 → Ev te ((wipe σ vs).set j (some (c z))) H1 (v z)) : EvL (tLc (iList K tl) (gName j) tYes te vs) σ H (zs.map v) := by
  have h := el_lcN (K := K) (tt := tYes) zs c (fun _ => true) v h hx hz hw (fun _ _ _ _ _ => et_yes) (fun i z H1 h1 h2 _ => he i z H1 h1 h2)
  rw [filt_true] at h
  exact h
theorem el_mN {α : Type} {tl : TE} {j : Nat} {vs : List Nat} (zs : List α) (c v : α → V) (h : EvL tl σ H (zs.map c)) (hz : zs.length ≤ 50000) (hw : ∀ x, wipe ((wipe σ vs).set j (some x)) vs = wipe σ vs)
    (he : ∀ (i : Nat) (z : α) (H1 : Hp), zs[i]? = some z → Ex H H1 → Ev te ((wipe σ vs).set j (some (c z))) H1 (v z)) : EvL (tLc (iList K tl) (gName j) tYes te vs) σ H (zs.map v) := by
  have h := el_lcNN (K := K) (tt := tYes) zs c (fun _ => true) v h hz hw (fun _ _ _ _ _ => et_yes) (fun i z H1 h1 h2 _ => he i z H1 h1 h2)
  rw [filt_true] at h
  exact h
theorem el_mE {α : Type} {a : Addr} {tl : TE} {j k : Nat} {vs : List Nat} (zs : List α) (c : α → V) (v : Nat × α → V) (h : Ev tl σ H (.ref a)) (hx : SqL K H a (zs.map c)) (hz : zs.length ≤ 50000) (hw : ∀ x y, wipe (((wipe σ vs).set j (some x)).set k (some y)) vs = wipe σ vs)
    (he : ∀ (i : Nat) (z : α) (H1 : Hp), zs[i]? = some z → Ex H H1 → Ev te (((wipe σ vs).set j (some (.int (i : Nat)))).set k (some (c z))) H1 (v (i, z))) :
    EvL (tLc (iEnum K (tCons tl tNil)) (gTup K 2 (gCons (gName j) (gCons (gName k) gNil))) tYes te vs) σ H ((zs.zipIdx.map fun p => (p.2, p.1)).map v) := by
  have h := el_lcE (K := K) (tt := tYes) zs c (fun _ => true) v h hx hz hw (fun _ _ _ _ _ => et_yes) (fun i z H1 h1 h2 _ => he i z H1 h1 h2)
  rw [filt_true] at h
  exact h
theorem el_mR {ta : TE} {n j : Nat} {vs : List Nat} (v : Nat → V) (h : Ev ta σ H (.int (n : Int))) (hn : n ≤ 50000) (hw : ∀ x, wipe ((wipe σ vs).set j (some x)) vs = wipe σ vs)
    (he : ∀ i H1, i < n → Ex H H1 → Ev te ((wipe σ vs).set j (some (.int (i : Nat)))) H1 (v i)) : EvL (tLc (iRng1 (tCons ta tNil)) (gName j) tYes te vs) σ H ((List.range n).map v) := by
  have h := el_lcR (tt := tYes) (fun _ => true) v h hn hw (fun _ _ _ _ => et_yes) (fun i H1 h1 h2 _ => he i H1 h1 h2)
  rw [filt_true] at h
  exact h
end
end Sr
set_option Elab.async false
set_option linter.all false
set_option maxRecDepth 100000
set_option maxHeartbeats 4000000
/-! Sr1: defs of the text and their calls; kinds of values; lists of lists. -/
namespace Sr
open PySem PySem.Spec PyProof.Rows L2 Evl

/-! ### defs -/
structure Cal (P : Program) (w : World) (K : PySem.W.Frag) (mg : Str → Option Value) (base : Heap) (CX : CXT) (k : Nat) (x : Str) (sp : Sp) : Prop where
  ex : ∃ (f : Addr) (fd : FuncData) (ps : List Str), FnOk P w K mg base CX k f fd ps sp ∧ mg x = some (.ref f) ∧ PySem.W.keepIn K (.ref f) = true ∧ Binds K fd ps []
structure Df (K : PySem.W.Frag) (mg : Str → Option Value) (x : Str) (st : Stmt) (ps : List Str) : Prop where
  ex : ∃ (f : Addr) (fd : FuncData), Fun K x x st f fd ∧ mg x = some (.ref f) ∧ Binds K fd ps []
section
variable {P : Program} {w : World} {K : PySem.W.Frag} {mg : Str → Option Value} {base : Heap}
theorem df_mk {h : Heap} {x : Str} {st : Stmt} {ps : List Str} {f : Addr} {oc : Value} {od an : Option Addr} {osl : Array (Option Value)} {kV doc pm cdv ct : Value} (X : K.In h) (G : h.Ns mainGlobals mg)
    (a : PySem.W.nsIn K mainGlobals x = some (some (.ref f))) (l : K.lookup f = some ⟨oc, od, .func (PySem.W.fnOf x x (defArgs st) (defBody st) (defScope st) .none kV doc pm an cdv ct), osl⟩)
    (c : PySem.W.codeIn K cdv x = true) (k : PySem.W.keepIn K (.ref f) = true)
    (hb : ∀ (kV doc pm : Value) (an : Option Addr) (cdv ct : Value) (us : List Value), us.length = ps.length → bindArgs (PySem.W.fnOf x x (defArgs st) (defBody st) (defScope st) .none kV doc pm an cdv ct) ⟨us, []⟩ = pure (ps.zip us)) : Df K mg x st ps :=
  ⟨f, _, fun_mk l c k, PySem.W.mg_of X G a, (fun_mk l c k).binds hb⟩
theorem Df.cal {x : Str} {st : Stmt} {N ps : List Str} {k : Nat} {sp : Sp} (d : Df K mg x st ps) (S : FnScope N ps (defScope st)) (len : ∀ vs H Q E, sp vs H Q E → vs.length = ps.length)
    (hbody : ∀ (f : Addr) (cdv : Value) (A : Around) (outer : List Env) (s : Shared) (H : Hp) (vs : List V) (Q : VK) (E : XK), Room k (A.deeper (envOfC x (defScope st) s.heap.objs.size f cdv)) → sp vs H Q E →
      ∃ t, PSs (cxOf CX0 P w K mg base N x (defScope st) f cdv A outer s H E).nox (defBody st) t ∧ t { nx := fun _ H' => Q .non H', rt := Q } (start N vs) H) : Cal P w K mg base CX0 (k + 1) x sp := by
  obtain ⟨f, fd, F, hm, hb⟩ := d.ex
  exact ⟨f, fd, ps, F.ok S len (hbody f), hm, F.kp, hb⟩
theorem Df.calX {x : Str} {st : Stmt} {N ps : List Str} {k : Nat} {sp : Sp} (d : Df K mg x st ps) (S : FnScope N ps (defScope st)) (len : ∀ vs H Q E, sp vs H Q E → vs.length = ps.length)
    (hbody : ∀ (f : Addr) (cdv : Value) (A : Around) (outer : List Env) (s : Shared) (H : Hp) (vs : List V) (Q : VK) (E : XK), Room k (A.deeper (envOfC x (defScope st) s.heap.objs.size f cdv)) → sp vs H Q E →
      ∃ t, PSs (cxOf (L2.CX P w) P w K mg base N x (defScope st) f cdv A outer s H E) (defBody st) t ∧ t { nx := fun _ H' => Q .non H', rt := Q } (start N vs) H) : Cal P w K mg base (L2.CX P w) (k + 1) x sp := by
  obtain ⟨f, fd, F, hm, hb⟩ := d.ex
  exact ⟨f, fd, ps, F.okX S len (hbody f), hm, F.kp, hb⟩
theorem Cal.mono {CX : CXT} {j k : Nat} {x : Str} {sp : Sp} (c : Cal P w K mg base CX j x sp) (h : j ≤ k) : Cal P w K mg base CX k x sp := by
  obtain ⟨f, fd, ps, F, r⟩ := c.ex
  exact ⟨f, fd, ps, F.mono h, r⟩
end
section
variable {X : Cx} {k j : Nat} {sp : Sp} {x : Str} {p pos : Pos} {e : Expr} {es : List Expr} {t : TA}
theorem pe_c (c : Cal X.prog X.w X.K X.mg X.base CX0 k x sp) (hr : Room j X.A) (hk : k ≤ j) (hg : Gl X x) (ha : PA X (e :: es) t)
    (hdb : (x == ("__debug__" : Str)) = false := by decide) (he : starEach (e :: es) X.env = (false, eval e X.env) :: starEach es X.env := by rfl) (hpl : (backTo pos (starEach es X.env)).any (·.1) = false := by rfl) :
    PE X (.Call (.Name x p) (e :: es) [] pos) (tCall sp [] E0 t) := by
  obtain ⟨f, fd, ps, F, hm, kp, b⟩ := c.ex
  exact pe_call F (hr.mono hk) hg hm kp b .nil pass0 ha hdb he hpl
theorem pe_c0 (c : Cal X.prog X.w X.K X.mg X.base CX0 k x sp) (hr : Room j X.A) (hk : k ≤ j) (hg : Gl X x) (hdb : (x == ("__debug__" : Str)) = false := by decide) : PE X (.Call (.Name x p) [] [] pos) (tCall sp [] E0 tNil) := by
  obtain ⟨f, fd, ps, F, hm, kp, b⟩ := c.ex
  exact pe_call0 F (hr.mono hk) hg hm kp b .nil pass0 hdb
end

/-- the built-ins' names are the built-ins' still -/
structure Bi (mg : Str → Option Value) : Prop where
  m_len : mg "len" = none
  m_isinstance : mg "isinstance" = none
  m_int : mg "int" = none
  m_bool : mg "bool" = none
  m_list : mg "list" = none
  m_all : mg "all" = none
  m_any : mg "any" = none
  m_zip : mg "zip" = none
  m_enumerate : mg "enumerate" = none
  m_range : mg "range" = none
  m_reversed : mg "reversed" = none
  m_set : mg "set" = none
  m_sorted : mg "sorted" = none
  m_tuple : mg "tuple" = none
  m_str : mg "str" = none
  m_max : mg "max" = none
  m_min : mg "min" = none
  m_abs : mg "abs" = none
  m_ValueError : mg "ValueError" = none

/-! ### kinds -/
section
variable {K : PySem.W.Frag} {σ : L2.St} {H H' : Hp} {ta tb tc te tx : TE} {t u : TT} {x y z v : V} {r : R2}
theorem tyx_sqL {a : Addr} {xs : List V} (h : SqL K H a xs) : TyX K H (.ref a) (.type "list") := by
  rcases h with (h | ⟨o, h⟩) | ⟨o, its, n, hk, hc, _⟩
  · exact .base (.lst h)
  · exact .base (.frz h)
  · exact .kList hk hc
theorem tyx_sqT {a : Addr} {xs : List V} (h : SqT K H a xs) : TyX K H (.ref a) (.type "tuple") := by
  rcases h with (h | ⟨o, h⟩) | ⟨o, its, n, hk, hc, _⟩
  · exact .base (.tup h)
  · exact .fTuple h
  · exact .kTuple hk hc
theorem rc_isi {S T : String} {b : Bool} (h : ∀ H1, Ex H H1 → TyX K H1 x (.type S)) (hk : kitB S T = some b) : RC (rIsi K) [x, .ty T] H (.bl b) :=
  fun H1 e _ q => ⟨x, .ty T, .type S, .type T, b, rfl, .ty T, h H1 e, kit_ty hk, q H1 (Ex.refl H1)⟩
/-- isinstance(x, T) -/
theorem ev_isi {S T : String} {b : Bool} (hx : Ev ta σ H x) (h : ∀ H1, Ex H H1 → TyX K H1 x (.type S)) (hk : kitB S T = some b) : Ev (tCB (rIsi K) (tCons ta (tCons (tC (.ty T)) tNil))) σ H (.bl b) :=
  ev_cb (ea_cons hx (ea_cons ev_c ea_nil)) (rc_isi h hk)
theorem ev_chain {p q : Int → Int → Bool} {i j k : Int} (ha : Ev ta σ H (.int i)) (hb : Ev tb σ H (.int j)) (hc : Ev tc σ H (.int k)) : Ev (tChain (rI0 fun i j => .bl (p i j)) (rI0 fun i j => .bl (q i j)) ta tb tc) σ H (.bl (p i j && q j k)) :=
  fun H1 e Q w => ha H1 e _ fun H2 e2 => hb H2 (e.trans e2) _ fun H3 e3 => ⟨i, j, rfl, rfl, p i j, rfl, by
    cases hp : p i j with
    | true =>
      rw [hp] at w
      refine iteT (hc H3 ((e.trans e2).trans e3) _ fun H4 e4 => ⟨j, k, rfl, rfl, ?_⟩)
      have w' := w H4 ((e2.trans e3).trans e4)
      rw [Bool.true_and] at w'
      exact w'
    | false =>
      rw [hp] at w
      exact iteF (w H3 (e2.trans e3))⟩
theorem rc_len {p : Addr} {xs : List V} (h : SqL K H p xs) : RC (rLenS K) [.ref p] H (.int xs.length) :=
  fun H1 e _ q => ⟨p, xs, rfl, .inl (ex_l e h), q H1 (Ex.refl H1)⟩
theorem rc_lenT {p : Addr} {xs : List V} (h : SqT K H p xs) : RC (rLenS K) [.ref p] H (.int xs.length) :=
  fun H1 e _ q => ⟨p, xs, rfl, .inr (ex_t e h), q H1 (Ex.refl H1)⟩
/-- len(xs) -/
theorem ev_lenL {p : Addr} {xs : List V} (ha : Ev ta σ H (.ref p)) (h : SqL K H p xs) : Ev (tCB (rLenS K) (tCons ta tNil)) σ H (.int xs.length) :=
  ev_cb (ea_cons ha ea_nil) (rc_len h)
/-- all(xs), any(xs) of a new list of truths -/
theorem ev_allN {bs : List Bool} (h : EvL te σ H (bs.map V.bl)) : Ev (tCB (rAll K) (tCons te tNil)) σ H (.bl (bs.all id)) :=
  ev_cbL h fun p H1 e hp H2 e2 Q q => ⟨p, bs, rfl, sq_of (e2 p _ hp), q H2 (Ex.refl H2)⟩
theorem ev_anyN {bs : List Bool} (h : EvL te σ H (bs.map V.bl)) : Ev (tCB (rAny K) (tCons te tNil)) σ H (.bl (bs.any id)) :=
  ev_cbL h fun p H1 e hp H2 e2 Q q => ⟨p, bs, rfl, sq_of (e2 p _ hp), q H2 (Ex.refl H2)⟩
/-- all([f(z) for z in zs]) -/
theorem ev_allC {α : Type} {zs : List α} {f g : α → Bool} (h : EvL te σ H ((zs.filter g).map fun z => V.bl (f z))) : Ev (tCB (rAll K) (tCons te tNil)) σ H (.bl ((zs.filter g).all f)) := by
  have e : (zs.filter g).map (fun z => V.bl (f z)) = ((zs.filter g).map f).map V.bl := by rw [List.map_map]; rfl
  rw [e] at h
  have r := ev_allN (K := K) h
  rw [List.all_map] at r
  exact r
theorem ev_anyC {α : Type} {zs : List α} {f g : α → Bool} (h : EvL te σ H ((zs.filter g).map fun z => V.bl (f z))) : Ev (tCB (rAny K) (tCons te tNil)) σ H (.bl ((zs.filter g).any f)) := by
  have e : (zs.filter g).map (fun z => V.bl (f z)) = ((zs.filter g).map f).map V.bl := by rw [List.map_map]; rfl
  rw [e] at h
  have r := ev_anyN (K := K) h
  rw [List.any_map] at r
  exact r
/-- over zip of a list at an address and a new one -/
theorem el_lcZN {tt : TT} {α : Type} {a : Addr} {j k : Nat} {vs : List Nat} {xs ys : List V} (zs : List α) (c d : α → V) (f : α → Bool) (v : α → V) (ha : Ev ta σ H (.ref a)) (hb : EvL tb σ H ys) (hq : SqL K H a xs)
    (hl : zs.length = min xs.length ys.length) (hx : ∀ (i : Nat) (z : α), zs[i]? = some z → xs[i]? = some (c z) ∧ ys[i]? = some (d z)) (hz : zs.length ≤ 50000) (hw : ∀ x y, wipe (((wipe σ vs).set j (some x)).set k (some y)) vs = wipe σ vs)
    (ht : ∀ (i : Nat) (z : α) (H1 : Hp), zs[i]? = some z → Ex H H1 → EvT tt (((wipe σ vs).set j (some (c z))).set k (some (d z))) H1 (f z)) (he : ∀ (i : Nat) (z : α) (H1 : Hp), zs[i]? = some z → Ex H H1 → f z = true → Ev te (((wipe σ vs).set j (some (c z))).set k (some (d z))) H1 (v z)) :
    EvL (tLc (iZip K (tCons ta (tCons tb tNil))) (gTup K 2 (gCons (gName j) (gCons (gName k) gNil))) tt te vs) σ H ((zs.filter f).map v) := fun H0 e Q q => ha H0 e _ fun H1 e1 => hb H1 (e.trans e1) _ fun b H2 nb e2 h2 => by
  have eall : Ex H H2 := (e.trans e1).trans e2
  have hI : EvI (iZip K (tCons (fun _ H3 Q3 => Q3 (.ref a) H3) (tCons (fun _ H3 Q3 => Q3 (.ref b) H3) tNil))) σ H2 (Itz K a b) (fun H => SqL K H a xs ∧ SqL K H b ys) :=
    fun H3 e3 R k => ⟨a, b, xs, ys, rfl, ex_l (eall.trans e3) hq, sq_of (e3 b _ h2), k H3 (Ex.refl H3) ⟨ex_l (eall.trans e3) hq, sq_of (e3 b _ h2)⟩⟩
  have hr := el_lcZ (K := K) (σ := σ) (H := H2) (te := te) (tt := tt) (j := j) (k := k) (vs := vs) zs c d f v hI hl hx hz hw (fun i z H3 hi e3 => ht i z H3 hi (eall.trans e3)) (fun i z H3 hi e3 => he i z H3 hi (eall.trans e3))
  exact hr H2 (Ex.refl H2) Q fun p H3 n e3 hp => q p H3 (fresh_back (e1.trans e2) n) ((e1.trans e2).trans e3) hp
theorem el_mZN {α : Type} {a : Addr} {j k : Nat} {vs : List Nat} {xs ys : List V} (zs : List α) (c d : α → V) (v : α → V) (ha : Ev ta σ H (.ref a)) (hb : EvL tb σ H ys) (hq : SqL K H a xs)
    (hl : zs.length = min xs.length ys.length) (hx : ∀ (i : Nat) (z : α), zs[i]? = some z → xs[i]? = some (c z) ∧ ys[i]? = some (d z)) (hz : zs.length ≤ 50000) (hw : ∀ x y, wipe (((wipe σ vs).set j (some x)).set k (some y)) vs = wipe σ vs)
    (he : ∀ (i : Nat) (z : α) (H1 : Hp), zs[i]? = some z → Ex H H1 → Ev te (((wipe σ vs).set j (some (c z))).set k (some (d z))) H1 (v z)) :
    EvL (tLc (iZip K (tCons ta (tCons tb tNil))) (gTup K 2 (gCons (gName j) (gCons (gName k) gNil))) tYes te vs) σ H (zs.map v) := by
  have h := el_lcZN (K := K) (tt := tYes) zs c d (fun _ => true) v ha hb hq hl hx hz hw (fun _ _ _ _ _ => et_yes) (fun i z H1 h1 h2 _ => he i z H1 h1 h2)
  rw [filt_true] at h
  exact h
/-- all([..]), any([..]) without a test -/
theorem ev_allM {α : Type} {zs : List α} {f : α → Bool} (h : EvL te σ H (zs.map fun z => V.bl (f z))) : Ev (tCB (rAll K) (tCons te tNil)) σ H (.bl (zs.all f)) := by
  have e : zs.map (fun z => V.bl (f z)) = (zs.map f).map V.bl := by rw [List.map_map]; rfl
  rw [e] at h
  have r := ev_allN (K := K) h
  rw [List.all_map] at r
  exact r
theorem ev_anyM {α : Type} {zs : List α} {f : α → Bool} (h : EvL te σ H (zs.map fun z => V.bl (f z))) : Ev (tCB (rAny K) (tCons te tNil)) σ H (.bl (zs.any f)) := by
  have e : zs.map (fun z => V.bl (f z)) = (zs.map f).map V.bl := by rw [List.map_map]; rfl
  rw [e] at h
  have r := ev_anyN (K := K) h
  rw [List.any_map] at r
  exact r
end
end Sr
set_option Elab.async false
set_option linter.all false
set_option maxRecDepth 100000
set_option maxHeartbeats 4000000
/-! Sr2: kinds of things handed in, webs in the heap, the looks at webs and stones. -/
namespace Sr
open PySem PySem.Spec PyProof.Rows L2 Evl

/-- a thing whose kind is known -/
inductive Typ (K : PySem.W.Frag) (H : Hp) : V → Prop
  | non : Typ K H .non
  | bl (b : Bool) : Typ K H (.bl b)
  | int (i : Int) : Typ K H (.int i)
  | str (x : Str) : Typ K H (.str x)
  | lst {a : Addr} {xs : List V} (h : SqL K H a xs) : Typ K H (.ref a)
  | tup {a : Addr} {xs : List V} (h : SqT K H a xs) : Typ K H (.ref a)
  | dct {a : Addr} {kvs : List (Key × V)} (h : H a = some (.dK kvs)) : Typ K H (.ref a)
/-- .. and it is no list -/
inductive NoL (K : PySem.W.Frag) (H : Hp) : V → Prop
  | non : NoL K H .non
  | bl (b : Bool) : NoL K H (.bl b)
  | int (i : Int) : NoL K H (.int i)
  | str (x : Str) : NoL K H (.str x)
  | tup {a : Addr} {xs : List V} (h : SqT K H a xs) : NoL K H (.ref a)
  | dct {a : Addr} {kvs : List (Key × V)} (h : H a = some (.dK kvs)) : NoL K H (.ref a)
def isI : V → Bool
  | .int _ => true
  | .bl _ => true
  | _ => false
def isB : V → Bool
  | .bl _ => true
  | _ => false
/-- a whole number from 0 to below n -/
def within (n : Int) : V → Bool
  | .int i => decide (0 ≤ i) && decide (i < n)
  | _ => false
section
variable {K : PySem.W.Frag} {σ : L2.St} {H H' : Hp} {ta tb tc te tx : TE} {t u : TT} {x y z v : V} {r : R2}
theorem Typ.mono (e : Ex H H') (h : Typ K H v) : Typ K H' v := by
  cases h with
  | non => exact .non
  | bl b => exact .bl b
  | int i => exact .int i
  | str x => exact .str x
  | lst h => exact .lst (ex_l e h)
  | tup h => exact .tup (ex_t e h)
  | dct h => exact .dct (e _ _ h)
theorem NoL.mono (e : Ex H H') (h : NoL K H v) : NoL K H' v := by
  cases h with
  | non => exact .non
  | bl b => exact .bl b
  | int i => exact .int i
  | str x => exact .str x
  | tup h => exact .tup (ex_t e h)
  | dct h => exact .dct (e _ _ h)
theorem NoL.typ (h : NoL K H v) : Typ K H v := by
  cases h with
  | non => exact .non
  | bl b => exact .bl b
  | int i => exact .int i
  | str x => exact .str x
  | tup h => exact .tup h
  | dct h => exact .dct h
theorem ev_isInt (hx : Ev ta σ H v) (h : Typ K H v) : Ev (tCB (rIsi K) (tCons ta (tCons (tC (.ty "int")) tNil))) σ H (.bl (isI v)) := by
  cases h with
  | non => exact ev_isi hx (fun _ _ => .base .non) (show kitB _ _ = some false by decide +kernel)
  | bl b => exact ev_isi hx (fun _ _ => .base (.bl b)) (show kitB _ _ = some true by decide +kernel)
  | int i => exact ev_isi hx (fun _ _ => .base (.int i)) (show kitB _ _ = some true by decide +kernel)
  | str x => exact ev_isi hx (fun _ _ => .base (.str x)) (show kitB _ _ = some false by decide +kernel)
  | lst h => exact ev_isi hx (fun _ e => tyx_sqL (ex_l e h)) (show kitB _ _ = some false by decide +kernel)
  | tup h => exact ev_isi hx (fun _ e => tyx_sqT (ex_t e h)) (show kitB _ _ = some false by decide +kernel)
  | dct h => exact ev_isi hx (fun _ e => .base (.dK (e _ _ h))) (show kitB _ _ = some false by decide +kernel)
theorem ev_isBool (hx : Ev ta σ H v) (h : Typ K H v) : Ev (tCB (rIsi K) (tCons ta (tCons (tC (.ty "bool")) tNil))) σ H (.bl (isB v)) := by
  cases h with
  | non => exact ev_isi hx (fun _ _ => .base .non) (show kitB _ _ = some false by decide +kernel)
  | bl b => exact ev_isi hx (fun _ _ => .base (.bl b)) (show kitB _ _ = some true by decide +kernel)
  | int i => exact ev_isi hx (fun _ _ => .base (.int i)) (show kitB _ _ = some false by decide +kernel)
  | str x => exact ev_isi hx (fun _ _ => .base (.str x)) (show kitB _ _ = some false by decide +kernel)
  | lst h => exact ev_isi hx (fun _ e => tyx_sqL (ex_l e h)) (show kitB _ _ = some false by decide +kernel)
  | tup h => exact ev_isi hx (fun _ e => tyx_sqT (ex_t e h)) (show kitB _ _ = some false by decide +kernel)
  | dct h => exact ev_isi hx (fun _ e => .base (.dK (e _ _ h))) (show kitB _ _ = some false by decide +kernel)
theorem ev_isList {a : Addr} {xs : List V} (hx : Ev ta σ H (.ref a)) (h : SqL K H a xs) : Ev (tCB (rIsi K) (tCons ta (tCons (tC (.ty "list")) tNil))) σ H (.bl true) :=
  ev_isi hx (fun _ e => tyx_sqL (ex_l e h)) (by decide +kernel)
theorem ev_noList (hx : Ev ta σ H v) (h : NoL K H v) : Ev (tCB (rIsi K) (tCons ta (tCons (tC (.ty "list")) tNil))) σ H (.bl false) := by
  cases h with
  | non => exact ev_isi hx (fun _ _ => .base .non) (by decide +kernel)
  | bl b => exact ev_isi hx (fun _ _ => .base (.bl b)) (by decide +kernel)
  | int i => exact ev_isi hx (fun _ _ => .base (.int i)) (by decide +kernel)
  | str x => exact ev_isi hx (fun _ _ => .base (.str x)) (by decide +kernel)
  | tup h => exact ev_isi hx (fun _ e => tyx_sqT (ex_t e h)) (by decide +kernel)
  | dct h => exact ev_isi hx (fun _ e => .base (.dK (e _ _ h))) (by decide +kernel)
end

/-! ### promises of the looks -/
def sp_is_within (K : PySem.W.Frag) : Sp := spOf (α := V × Int) (fun a vs H => vs = [a.1, .int a.2] ∧ Typ K H a.1) (fun a _ v _ => v = .bl (within a.2 a.1))
/-- what are_roads says of a thing: none: no list -/
def risingV : List V → Bool
  | .int i :: .int j :: r => decide (i < j) && risingV (.int j :: r)
  | _ => true
def roadsOk (n : Int) : Option (List V) → Bool
  | none => false
  | some xs => xs.all (within n) && risingV xs
/-- a thing: a list of things of known kinds, or no list -/
def Thing (K : PySem.W.Frag) (H : Hp) (v : V) : Option (List V) → Prop
  | none => NoL K H v
  | some xs => ∃ a, v = .ref a ∧ SqL K H a xs ∧ xs.length ≤ 5000 ∧ ∀ x ∈ xs, Typ K H x
theorem Thing.mono {K : PySem.W.Frag} {H H' : Hp} {v : V} {o : Option (List V)} (e : Ex H H') (h : Thing K H v o) : Thing K H' v o := by
  cases o with
  | none => exact NoL.mono e h
  | some xs =>
    obtain ⟨a, rfl, h1, hl, h2⟩ := h
    exact ⟨a, rfl, ex_l e h1, hl, fun x hx => (h2 x hx).mono e⟩
def sp_are_roads (K : PySem.W.Frag) : Sp := spOf (α := V × Option (List V) × Int) (fun a vs H => vs = [a.1, .int a.2.2] ∧ Thing K H a.1 a.2.1) (fun a _ v _ => v = .bl (roadsOk a.2.2 a.2.1))

theorem ints_of_within {n : Int} : ∀ {xs : List V}, xs.all (within n) = true → ∃ is : List Int, xs = is.map V.int ∧ ∀ i ∈ is, 0 ≤ i ∧ i < n
  | [], _ => ⟨[], rfl, fun _ h => nomatch h⟩
  | x :: r, h => by
    rw [List.all_cons, Bool.and_eq_true] at h
    obtain ⟨is, e, h2⟩ := ints_of_within h.2
    cases x with
    | int i =>
      have h1 : (decide (0 ≤ i) && decide (i < n)) = true := h.1
      rw [Bool.and_eq_true, decide_eq_true_eq, decide_eq_true_eq] at h1
      refine ⟨i :: is, by rw [e]; rfl, fun j hj => ?_⟩
      rcases List.mem_cons.mp hj with rfl | hj
      · exact h1
      · exact h2 j hj
    | _ => cases h.1
def rising : List Int → Bool
  | i :: j :: r => decide (i < j) && rising (j :: r)
  | _ => true
theorem risingV_ints : ∀ is : List Int, risingV (is.map V.int) = rising is
  | [] => rfl
  | [_] => rfl
  | i :: j :: r => by
    show (decide (i < j) && risingV ((j :: r).map V.int)) = (decide (i < j) && rising (j :: r))
    rw [risingV_ints (j :: r)]
theorem rising_zip : ∀ is : List Int, ((is.zip (is.drop 1)).all fun p => decide (p.1 < p.2)) = rising is
  | [] => rfl
  | [_] => rfl
  | i :: j :: r => by
    have ih := rising_zip (j :: r)
    show (((i, j) :: ((j :: r).zip r)).all fun p => decide (p.1 < p.2)) = (decide (i < j) && rising (j :: r))
    rw [List.all_cons]
    show (decide (i < j) && _) = _
    congr 1
theorem cutV_one (xs : List V) : cutV xs (some 1) none = xs.drop 1 := by
  unfold cutV
  rw [show HT.sIx xs.length 0 (some 1) = min 1 xs.length from HT.sIx_nat xs.length 0 1, HT.sIx_none]
  cases xs with
  | nil => rfl
  | cons x r =>
    rw [show min 1 (x :: r).length = 1 by rw [List.length_cons]; omega]
    rw [List.take_of_length_le]
    rw [List.length_drop]
    exact Nat.le_refl _
end Sr
set_option Elab.async false
set_option linter.all false
set_option maxRecDepth 100000
set_option maxHeartbeats 4000000
/-! Sr3: webs and stones in the heap; promises over them. -/
namespace Sr
open PySem PySem.Spec PyProof.Rows L2 Evl

abbrev nv (n : Nat) : V := .int (n : Int)
/-- a list of lists of numbers at a -/
def LL (K : PySem.W.Frag) (H : Hp) (a : Addr) (web : List (List Nat)) : Prop :=
  ∃ as : List Addr, SqL K H a (as.map V.ref) ∧ as.length = web.length ∧ ∀ (i : Nat) (r : Addr) (row : List Nat), as[i]? = some r → web[i]? = some row → SqL K H r (row.map nv)
def LI (K : PySem.W.Frag) (H : Hp) (a : Addr) (xs : List Nat) : Prop := SqL K H a (xs.map nv)
/-- rows rising, within -/
def Good (web : List (List Nat)) : Prop := ∀ row ∈ web, row.Pairwise (· < ·) ∧ ∀ x ∈ row, x < web.length
instance (web : List (List Nat)) : Decidable (Good web) := by unfold Good; infer_instance
structure Ok60 (web : List (List Nat)) : Prop where
  pos : 1 ≤ web.length
  le : web.length ≤ 60
  good : Good web
structure OkSt (web : List (List Nat)) (st : List Nat) : Prop where
  le : st.length ≤ 20
  lt : ∀ x ∈ st, x < web.length
theorem LL.mono {K : PySem.W.Frag} {H H' : Hp} {a : Addr} {web : List (List Nat)} (e : Ex H H') (h : LL K H a web) : LL K H' a web := by
  obtain ⟨as, h1, h2, h3⟩ := h
  exact ⟨as, ex_l e h1, h2, fun i r row a b => ex_l e (h3 i r row a b)⟩
theorem LI.mono {K : PySem.W.Frag} {H H' : Hp} {a : Addr} {xs : List Nat} (e : Ex H H') (h : LI K H a xs) : LI K H' a xs := ex_l e h
theorem LL.row {K : PySem.W.Frag} {H : Hp} {a : Addr} {as : List Addr} {web : List (List Nat)} (h2 : as.length = web.length) {i : Nat} {r : Addr} (hi : as[i]? = some r) : ∃ row, web[i]? = some row := by
  have hlt := (List.getElem?_eq_some_iff.mp hi).1
  exact ⟨web[i]'(by omega), List.getElem?_eq_getElem _⟩
/-- roads of a place: the row's address -/
theorem LL.at {K : PySem.W.Frag} {H : Hp} {a : Addr} {web : List (List Nat)} (h : LL K H a web) {i : Nat} {row : List Nat} (hi : web[i]? = some row) : ∃ (xs : List V) (r : Addr), SqL K H a xs ∧ xs.length = web.length ∧ xs[i]? = some (.ref r) ∧ LI K H r row := by
  obtain ⟨as, h1, h2, h3⟩ := h
  have hlt := (List.getElem?_eq_some_iff.mp hi).1
  have ha : as[i]? = some (as[i]'(by omega)) := List.getElem?_eq_getElem _
  exact ⟨as.map V.ref, as[i]'(by omega), h1, by rw [List.length_map, h2], by rw [List.getElem?_map, ha]; rfl, h3 i _ row ha hi⟩

theorem rising_of : ∀ {row : List Nat}, row.Pairwise (· < ·) → rising (row.map fun n : Nat => (n : Int)) = true
  | [], _ => rfl
  | [_], _ => rfl
  | i :: j :: r, h => by
    have h' := List.pairwise_cons.mp h
    have ih := rising_of h'.2
    show (decide ((i : Int) < (j : Int)) && rising ((j :: r).map fun n : Nat => (n : Int))) = true
    rw [ih, Bool.and_true, decide_eq_true_eq]
    have := h'.1 j (List.mem_cons_self ..)
    omega
theorem roads_good {n : Nat} {row : List Nat} (h : row.Pairwise (· < ·)) (hl : ∀ x ∈ row, x < n) : roadsOk (n : Int) (some (row.map nv)) = true := by
  show ((row.map nv).all (within n) && risingV (row.map nv)) = true
  have e : row.map nv = (row.map fun n : Nat => (n : Int)).map V.int := by rw [List.map_map]; rfl
  rw [Bool.and_eq_true]
  refine ⟨List.all_eq_true.mpr fun x hx => ?_, ?_⟩
  · obtain ⟨k, hk, rfl⟩ := List.mem_map.mp hx
    have := hl k hk
    show (decide ((0 : Int) ≤ (k : Int)) && decide ((k : Int) < (n : Int))) = true
    rw [Bool.and_eq_true, decide_eq_true_eq, decide_eq_true_eq]
    omega
  · rw [e, risingV_ints]
    exact rising_of h
theorem typ_nat {K : PySem.W.Frag} {H : Hp} {xs : List Nat} : ∀ x ∈ xs.map nv, Typ K H x := fun x hx => by
  obtain ⟨k, _, rfl⟩ := List.mem_map.mp hx
  exact .int _
/-- a rising list below n has at most n items -/
theorem rising_len : ∀ {row : List Nat} {m n : Nat}, row.Pairwise (· < ·) → (∀ x ∈ row, m ≤ x ∧ x < n) → row.length ≤ n - m
  | [], _, _, _, _ => Nat.zero_le _
  | x :: r, m, n, h, hl => by
    have h' := List.pairwise_cons.mp h
    have hx := hl x (List.mem_cons_self ..)
    have ih := rising_len (row := r) (m := x + 1) (n := n) h'.2 fun y hy => ⟨h'.1 y hy, (hl y (List.mem_cons_of_mem _ hy)).2⟩
    rw [List.length_cons]
    omega
theorem Good.len {web : List (List Nat)} (g : Good web) {row : List Nat} (h : row ∈ web) : row.length ≤ web.length := by
  have := rising_len (row := row) (m := 0) (n := web.length) (g row h).1 fun x hx => ⟨Nat.zero_le _, (g row h).2 x hx⟩
  omega
theorem Good.lt {web : List (List Nat)} (g : Good web) {i : Nat} {row : List Nat} (h : web[i]? = some row) {x : Nat} (hx : x ∈ row) : x < web.length := (g row (List.mem_of_getElem? h)).2 x hx

/-! ### promises -/
def sp_check_web (K : PySem.W.Frag) : Sp := spOf (α := Addr × List (List Nat)) (fun a vs H => vs = [.ref a.1] ∧ LL K H a.1 a.2 ∧ Ok60 a.2) (fun _ _ v _ => v = .non)
def sp_check_stones (K : PySem.W.Frag) : Sp := spOf (α := (Addr × List (List Nat)) × (Addr × List Nat)) (fun a vs H => vs = [.ref a.1.1, .ref a.2.1] ∧ LL K H a.1.1 a.1.2 ∧ LI K H a.2.1 a.2.2 ∧ OkSt a.1.2 a.2.2) (fun _ _ v _ => v = .non)
def sp_check_place (K : PySem.W.Frag) : Sp := spOf (α := (Addr × List (List Nat)) × Nat) (fun a vs H => vs = [.ref a.1.1, nv a.2] ∧ LL K H a.1.1 a.1.2 ∧ a.2 < a.1.2.length) (fun _ _ v _ => v = .non)

section
variable {K : PySem.W.Frag} {σ : L2.St} {H H' : Hp} {ta tb tc te tx : TE} {t u : TT} {x y z v : V} {r : R2}
theorem ev_lenLL {a : Addr} {web : List (List Nat)} (ha : Ev ta σ H (.ref a)) (h : LL K H a web) : Ev (tCB (rLenS K) (tCons ta tNil)) σ H (nv web.length) := by
  obtain ⟨as, h1, h2, _⟩ := h
  exact ev_is (ev_lenL ha h1) (by rw [List.length_map, h2])
theorem ev_lenLI {a : Addr} {xs : List Nat} (ha : Ev ta σ H (.ref a)) (h : LI K H a xs) : Ev (tCB (rLenS K) (tCons ta tNil)) σ H (nv xs.length) :=
  ev_is (ev_lenL ha h) (by rw [List.length_map])
end
end Sr
set_option Elab.async false
set_option linter.all false
set_option maxRecDepth 100000
set_option maxHeartbeats 4000000
/-! Sr4: the law's own draws: promises and what they need. -/
namespace Sr
open PySem PySem.Spec PyProof.Rows L2 Evl

def sp_cell_at (K : PySem.W.Frag) : Sp := spOf (α := Addr × List Int × Nat) (fun a vs H => vs = [.ref a.1, nv a.2.2] ∧ SqL K H a.1 (a.2.1.map V.int)) (fun a _ v _ => v = .int (a.2.1.getD a.2.2 0))
/-- a number below most, whichever -/
def sp_draw : Sp := spOf (α := Int × Nat × Nat) (fun a vs _ => vs = [.int a.1, nv a.2.1, nv a.2.2] ∧ 0 < a.2.2) (fun a _ v _ => ∃ r : Nat, r < a.2.2 ∧ v = nv r)
def sp_number : Sp := spOf (α := Int × Nat × Nat) (fun a vs _ => vs = [.int a.1, nv a.2.1, nv a.2.2] ∧ 0 < a.2.2 ∧ a.2.2 ≤ 100000 ∧ a.2.1 ≤ 100000) (fun a _ v _ => ∃ r : Nat, r < a.2.2 ∧ v = nv r)
def sp_size (K : PySem.W.Frag) : Sp := spOf (α := Addr × List Int × Nat × Nat) (fun a vs H => vs = [.ref a.1, nv a.2.2.1, nv a.2.2.2] ∧ SqL K H a.1 (a.2.1.map V.int) ∧ 0 < a.2.2.2) (fun a _ v _ => ∃ r : Nat, 1 ≤ r ∧ r ≤ a.2.2.2 ∧ v = nv r)

/-- an item of written numbers, each of them at least 1 -/
theorem item_pos {ps : List Int} {m : Int} (h : (ps.all fun z => decide (0 < z) && decide (z ≤ m)) = true) {j : Nat} (hj : j < ps.length) : ∃ z : Int, 0 < z ∧ z ≤ m ∧ (ps.map V.int)[j]? = some (.int z) := by
  have := List.all_eq_true.mp h ps[j] (List.getElem_mem hj)
  rw [Bool.and_eq_true, decide_eq_true_eq, decide_eq_true_eq] at this
  exact ⟨ps[j], this.1, this.2, by rw [List.getElem?_map, List.getElem?_eq_getElem hj]; rfl⟩
section
variable {K : PySem.W.Frag} {σ : L2.St} {H H' : Hp} {ta tb tc te tx : TE} {t u : TT} {x y z v : V} {r : R2}
/-- an item of a tuple made on the way -/
theorem ev_ixU {xs : List V} {i : Nat} (ha : EvU ta σ H xs) (hb : Ev tb σ H (nv i)) (hi : xs[i]? = some v) : Ev (tOp (rIxT K) ta tb) σ H v :=
  fun H1 e Q q => ha H1 e _ fun p H2 _ e2 hp => hb H2 (e.trans e2) _ fun H3 e3 => ⟨p, xs, (i : Int), v, rfl, rfl, st_of (e3 p _ hp), atI_nat hi, q H3 (e2.trans e3)⟩
/-- an item of a list at an address -/
theorem ev_ixL {p : Addr} {xs : List V} {i : Nat} (ha : Ev ta σ H (.ref p)) (hs : SqL K H p xs) (hb : Ev tb σ H (nv i)) (hi : xs[i]? = some v) : Ev (tOp (rIxL K) ta tb) σ H v :=
  ev_op ha hb (rv_ixL hs (atI_nat hi))
theorem ev_add {i j : Int} (ha : Ev ta σ H (.int i)) (hb : Ev tb σ H (.int j)) : Ev (tOp (rI0 fun i j => .int (i + j)) ta tb) σ H (.int (i + j)) := ev_op ha hb rv_I0
theorem ev_sub {i j : Int} (ha : Ev ta σ H (.int i)) (hb : Ev tb σ H (.int j)) : Ev (tOp (rI0 fun i j => .int (i - j)) ta tb) σ H (.int (i - j)) := ev_op ha hb rv_I0
theorem ev_mul {i j : Int} (ha : Ev ta σ H (.int i)) (hb : Ev tb σ H (.int j)) (hc : CMul i j) : Ev (tOp (rI CMul fun i j => .int (i * j)) ta tb) σ H (.int (i * j)) := ev_op ha hb (rv_I hc)
theorem ev_mod {i j : Int} (ha : Ev ta σ H (.int i)) (hb : Ev tb σ H (.int j)) (hc : 0 < j) : Ev (tOp (rI (fun _ j => 0 < j) fun i j => .int (i % j)) ta tb) σ H (.int (i % j)) := ev_op ha hb (rv_I (C := fun _ j => 0 < j) hc)
theorem ev_lt {i j : Int} (ha : Ev ta σ H (.int i)) (hb : Ev tb σ H (.int j)) : Ev (tOp (rI0 fun i j => .bl (decide (i < j))) ta tb) σ H (.bl (decide (i < j))) := ev_op ha hb rv_I0
theorem ev_le {i j : Int} (ha : Ev ta σ H (.int i)) (hb : Ev tb σ H (.int j)) : Ev (tOp (rI0 fun i j => .bl (decide (i ≤ j))) ta tb) σ H (.bl (decide (i ≤ j))) := ev_op ha hb rv_I0
theorem ev_ge {i j : Int} (ha : Ev ta σ H (.int i)) (hb : Ev tb σ H (.int j)) : Ev (tOp (rI0 fun i j => .bl (decide (j ≤ i))) ta tb) σ H (.bl (decide (j ≤ i))) := ev_op ha hb rv_I0
theorem ev_gt {i j : Int} (ha : Ev ta σ H (.int i)) (hb : Ev tb σ H (.int j)) : Ev (tOp (rI0 fun i j => .bl (decide (j < i))) ta tb) σ H (.bl (decide (j < i))) := ev_op ha hb rv_I0
theorem ev_eqI {i j : Int} (ha : Ev ta σ H (.int i)) (hb : Ev tb σ H (.int j)) : Ev (tOp rEq ta tb) σ H (.bl (decide (i = j))) :=
  ev_is (ev_op ha hb (rv_eq rfl)) (by congr 1; simp)
theorem ev_neI {i j : Int} (ha : Ev ta σ H (.int i)) (hb : Ev tb σ H (.int j)) : Ev (tOp rNe ta tb) σ H (.bl (!decide (i = j))) :=
  ev_is (ev_op ha hb (rv_ne rfl)) (by congr 1; simp)
/-- a value of any kind, then an operation -/
theorem ep_op1 {P : Hp → V → Hp → Prop} {P' : V → Prop} (ha : EvP ta σ H P) (hb : Ev tb σ H y) (hr : ∀ w, (∃ H1 H2, P H1 w H2) → ∃ z', P' z' ∧ RV r w y H z') : EvP (tOp r ta tb) σ H (fun _ w _ => P' w) :=
  fun H1 e Q q => ha H1 e _ fun w H2 e2 p => hb H2 (e.trans e2) _ fun H3 e3 => by
    obtain ⟨z', hz, hv⟩ := hr w ⟨H1, H2, p⟩
    exact hv H3 ((e.trans e2).trans e3) Q fun H4 e4 => q z' H4 ((e2.trans e3).trans e4) hz
theorem ep_op2 {P : Hp → V → Hp → Prop} {P' : V → Prop} (ha : Ev ta σ H x) (hb : EvP tb σ H P) (hr : ∀ w, (∃ H1 H2, P H1 w H2) → ∃ z', P' z' ∧ RV r x w H z') : EvP (tOp r ta tb) σ H (fun _ w _ => P' w) :=
  fun H1 e Q q => ha H1 e _ fun H2 e2 => hb H2 (e.trans e2) _ fun w H3 e3 p => by
    obtain ⟨z', hz, hv⟩ := hr w ⟨H2, H3, p⟩
    exact hv H3 ((e.trans e2).trans e3) Q fun H4 e4 => q z' H4 ((e2.trans e3).trans e4) hz
end
end Sr
set_option Elab.async false
set_option linter.all false
set_option maxRecDepth 100000
set_option maxHeartbeats 4000000
/-! SrSet: set(xs) of a list of whole numbers, and sorted of it. -/
namespace Sr
open PySem PySem.Spec PyProof.Rows L2 Evl

/-- the set object as it is laid, empty -/
abbrev eS (w : World) : Obj := { cls := .type "set", dict := none, data := .set #[] 0 (.fresh 0 0 (!w.params.followText "set-order")) }
section
variable {P : Program} {w : World} {A : Around} {E : Value → Shared → Prop} {s : Shared}
set_option maxRecDepth 100000 in
set_option maxHeartbeats 3200000 in
theorem set_of_list {l : Addr} {its : Array Value} (ns : List Int) {Q : Value → Shared → Prop} (nh : A.handled = none) (isl : s.heap.IsList l its) (hin : IntsAre its.toList ns) (few : ns.length + 1 < scanBound)
    (k : ∀ (h' : Heap) (tk c : Nat), SetR w h' s.heap.objs.size (fun j => decide (j ∈ ns)) c → c ≤ ns.length → (∀ b o, s.heap.get? b = some o → h'.get? b = some o) → Q (.ref s.heap.objs.size) { s with heap := h', toks := tk }) :
    wpAny (model P w) A (call (.type "set") [.ref l]) Q E s := by
  have esz : its.size = ns.length := by
    have q := hin.length
    simpa using q
  obtain ⟨_, _, mro⟩ := F.called_set.mro
  have made := F.called_set.made
  have sub := F.called_set.sub
  refine wpAny_call (codeAny_of_tree ?_)
  show wpAny _ _ (callAny (.type "set") _) _ _ _
  refine wpAny_pure ⟨Code.quiet_builtin _ (by decide +kernel), codeAny_builtin F.entry_type_call ?_⟩
  rw [Around.under_plain (weight_type_call_type "set" [.ref l] []) rfl]
  have n1 := F.called_set.notType
  have n2 := F.called_set.canCreate
  have n3 := F.typeCall_set_1 (.ref l)
  repeat (any_goals (first | assumption | wp_step))
  refine codeAny_mono (code_set_led1 (.ref l) (E := E) (Q₁ := fun v s1 => v = .ref s.heap.objs.size ∧ s1 = { s with heap := s.heap.push (eS w) }) ⟨rfl, rfl⟩) fun r s1 hr => ?_
  cases r with
  | error e => exact hr
  | ok fl =>
    cases fl with
    | ret v =>
      obtain ⟨rfl, rfl⟩ := hr
      have gS : (s.heap.push (eS w)).get? s.heap.objs.size = some (eS w) := Heap.get?_push_size _ rfl
      have tS : Shared.TypeIs { s with heap := s.heap.push (eS w) } (.ref s.heap.objs.size) "set" := ⟨_, gS, rfl⟩
      have i1 := F.called_set.init.lookup
      have i2 := F.called_set.init.bind (.ref s.heap.objs.size)
      repeat (any_goals (first | assumption | wp_step))
      refine codeAny_mono (codeAny_call_builtin (R := wants (fun r s2 => r = .none ∧ ∃ h' tk c, s2 = { s with heap := h', toks := tk } ∧ SetR w h' s.heap.objs.size (fun j => decide (j ∈ ns)) c ∧ c ≤ ns.length ∧
          (∀ b o, s.heap.get? b = some o → h'.get? b = some o)) E) F.called_set.init.plain F.entry_set_init (check_set_init_1 tS ?_)) fun r2 s2 hr2 => ?_
      · obtain ⟨ol, gl, cl, nl, dl⟩ := isl
        obtain ⟨oc, od, oda, osl⟩ := ol
        simp only at cl dl
        subst cl dl
        have gl1 : (s.heap.push (eS w)).get? l = some { cls := .type "list", dict := od, data := .seq its nl, slots := osl } := Heap.get?_push_of_some _ gl
        have u1 := F.sub_list_set
        have u2 := F.sub_list_frozenset
        have ne0 : (Value.type "list" == Value.type "dict") = false := by decide
        have isl1 : (s.heap.push (eS w)).IsList l its := ⟨_, gl1, rfl, nl, rfl⟩
        unfold Builtin.«set.__init__» noKeywords Builtin.Frozenset.updateFrom
        generalize hPI : pyIter = PI
        wp_walk
        subst hPI
        refine wpAny_pyIter_list isl1 ?_
        refine wpAny_bind (wpAny_runValue ?_)
        have lS : l < s.heap.objs.size := Heap.lt_size gl
        have nh3 : A.in1.in1.in1.handled = none := by simp [nh]
        have neI : l ≠ (s.heap.push (eS w)).objs.size := by
          rw [Heap.size_push]; exact Nat.ne_of_lt (Nat.lt_succ_of_lt lS)
        have nSf : s.heap.objs.size ∉ [(s.heap.push (eS w)).objs.size, l] := by
          rw [Heap.size_push]
          intro z
          rcases List.mem_cons.mp z with z | z
          · exact absurd z (Nat.ne_of_lt (Nat.lt_succ_self _))
          · exact absurd (List.mem_singleton.mp z) (Nat.ne_of_gt lS)
        have hval : ∀ (i : Nat) (v : Value), its[i]? = some v → ∃ k t, ns[i]? = some k ∧ v = .int k t := fun i v hv => by
          have hi : i < ns.length := by rw [← esz]; exact (Array.getElem?_eq_some_iff.mp hv).1
          obtain ⟨t, e⟩ := PyProof.Rows.IntsAre.int_at hin i v (by rw [Array.getElem?_toList]; exact hv)
          refine ⟨ns[i], t, List.getElem?_eq_getElem hi, ?_⟩
          rw [e, List.getD_eq_getElem?_getD, List.getElem?_eq_getElem hi] <;> rfl
        refine set_update_ints ((Walks.list nh3 _ l neI its).toS) s.heap.objs.size nSf ns esz few hval (its.size - 0) 0 _ (by omega) (Nat.zero_le _) ⟨⟨_, Heap.get?_push_size _ rfl, rfl, rfl⟩, (isl1.push _)⟩ ?start ?fin
        case start =>
          refine ⟨0, Nat.le_refl 0, setR_new_at ?_⟩
          exact Heap.get?_push_of_some _ gS
        case fin =>
          intro s' c' mv hc' hS'
          obtain ⟨h', g2, d2, tk', os2⟩ := s'
          have eg : g2 = s.gens := mv.gens
          have ed : d2 = s.drawn := mv.drawn
          have eo : os2 = s.os := mv.os
          subst eg ed eo
          show wpAny _ _ _ _ _ _
          refine wpAny_pure ?_
          show wpAny _ _ (ret Value.none) _ _ _
          rw [esz] at hc'
          refine wpAny_pure ⟨rfl, h', tk', c', rfl, hS', hc', fun b o e => ?_⟩
          have lb : b < s.heap.objs.size := Heap.lt_size e
          refine mv.heap b o (fun z => ?_) (Heap.get?_push_of_some _ (Heap.get?_push_of_some _ e))
          rcases List.mem_cons.mp z with z | z
          · exact absurd z (Nat.ne_of_lt lb)
          · have z' := List.mem_singleton.mp z
            rw [Heap.size_push] at z'
            exact absurd z' (Nat.ne_of_lt (Nat.lt_succ_of_lt lb))
      · cases r2 with
        | error e => exact hr2
        | ok fl2 =>
          cases fl2 with
          | ret r =>
            obtain ⟨rfl, h', tk, c', rfl, hS', hc', hk'⟩ := hr2
            repeat (any_goals (first | assumption | wp_step))
            exact k _ _ _ hS' hc' hk'
          | _ => exact hr2.elim
    | _ => exact hr.elim
end

/-- set(xs) -/
def rSetOf (K : PySem.W.Frag) (w : World) : List V → Hp → VK → Prop := fun vs H Q => ∃ (a : Addr) (ns : List Int), vs = [.ref a] ∧ SqL K H a (ns.map V.int) ∧ ns.length + 1 < scanBound ∧
  ∀ p c, H p = none → c ≤ ns.length → Q (.ref p) (upd H p (SetO w p (fun j => decide (j ∈ ns)) c))
theorem call_set_of {X : Cx} (hc : X.calm = true) : CallR X (.type "set") (rSetOf X.K X.w) := by
  intro pins s σ H vs us Q I r h
  obtain ⟨a, ns, rfl, hs, few, q⟩ := h
  rw [Vals.ref1 r]
  obtain ⟨its, rv, p, hz⟩ := I.list hs
  refine set_of_list ns (I.ok.hd hc) p.isList (by simpa using Vals.ints rv) few fun h' tk c R hc' kk => ?_
  have hn : H s.heap.objs.size = none := I.hok.fresh (Nat.le_refl _)
  exact ⟨.ref _, upd H s.heap.objs.size (SetO X.w s.heap.objs.size (fun j => decide (j ∈ ns)) c), I.laid (t' := tk) kk (Nat.le_refl _) (setO_new R), rfl, q _ c hn hc'⟩

/-! ### the rising list of the members -/
def insU (x : Int) : List Int → List Int
  | [] => [x]
  | y :: r => if x < y then x :: y :: r else if x = y then y :: r else y :: insU x r
def sortU (ns : List Int) : List Int := ns.foldr insU []
theorem mem_insU {x z : Int} : ∀ {l : List Int}, z ∈ insU x l ↔ z = x ∨ z ∈ l
  | [] => by simp [insU]
  | y :: r => by
    unfold insU
    split
    · simp
    · split
      · rename_i h1 h2
        subst h2
        simp
      · rw [List.mem_cons, mem_insU, List.mem_cons]
        constructor
        · rintro (h | h | h)
          · exact .inr (.inl h)
          · exact .inl h
          · exact .inr (.inr h)
        · rintro (h | h | h)
          · exact .inr (.inl h)
          · exact .inl h
          · exact .inr (.inr h)
theorem insU_rise {x : Int} : ∀ {l : List Int}, l.Pairwise (· < ·) → (insU x l).Pairwise (· < ·)
  | [], _ => by simp [insU]
  | y :: r, h => by
    have h' := List.pairwise_cons.mp h
    unfold insU
    split
    · rename_i hx
      refine List.pairwise_cons.mpr ⟨fun z hz => ?_, h⟩
      rcases List.mem_cons.mp hz with rfl | hz
      · exact hx
      · exact Int.lt_trans hx (h'.1 z hz)
    · split
      · exact h
      · rename_i h1 h2
        refine List.pairwise_cons.mpr ⟨fun z hz => ?_, insU_rise h'.2⟩
        rcases mem_insU.mp hz with rfl | hz
        · omega
        · exact h'.1 z hz
theorem mem_sortU {z : Int} : ∀ {ns : List Int}, z ∈ sortU ns ↔ z ∈ ns
  | [] => Iff.rfl
  | x :: r => by
    show z ∈ insU x (sortU r) ↔ _
    rw [mem_insU, mem_sortU, List.mem_cons]
theorem sortU_rise : ∀ (ns : List Int), (sortU ns).Pairwise (· < ·)
  | [] => List.Pairwise.nil
  | x :: r => insU_rise (sortU_rise r)
/-- two rising lists with the same members are one -/
theorem rise_one : ∀ {a b : List Int}, a.Pairwise (· < ·) → b.Pairwise (· < ·) → (∀ z, z ∈ a ↔ z ∈ b) → a = b
  | [], [], _, _, _ => rfl
  | [], y :: r, _, _, h => absurd ((h y).mpr (List.mem_cons_self ..)) (by simp)
  | x :: r, [], _, _, h => absurd ((h x).mp (List.mem_cons_self ..)) (by simp)
  | x :: r, y :: t, ha, hb, h => by
    have ha' := List.pairwise_cons.mp ha
    have hb' := List.pairwise_cons.mp hb
    have exy : x = y := by
      rcases List.mem_cons.mp ((h x).mp (List.mem_cons_self ..)) with e | e
      · exact e
      · rcases List.mem_cons.mp ((h y).mpr (List.mem_cons_self ..)) with e' | e'
        · exact e'.symm
        · have h1 := hb'.1 x e
          have h2 := ha'.1 y e'
          omega
    subst exy
    have hr : r = t := rise_one ha'.2 hb'.2 fun z => by
      constructor
      · intro hz
        rcases List.mem_cons.mp ((h z).mp (List.mem_cons_of_mem _ hz)) with e | e
        · have := ha'.1 z hz
          omega
        · exact e
      · intro hz
        rcases List.mem_cons.mp ((h z).mpr (List.mem_cons_of_mem _ hz)) with e | e
        · have := hb'.1 z hz
          omega
        · exact e
    rw [hr]
section
variable {K : PySem.W.Frag} {w : World} {σ : L2.St} {H H' : Hp} {te : TE}
/-- sorted(set(xs)) of a new list, fewer than 63 -/
theorem el_sortedSet {ns : List Int} (h : EvL te σ H (ns.map V.int)) (hl : ns.length < 63) : EvL (tCB (rSortedSet w) (tCons (tCB (rSetOf K w) (tCons te tNil)) tNil)) σ H ((sortU ns).map V.int) := fun H0 e Q q => h H0 e _ fun p H1 np e1 hp => by
  refine ⟨p, ns, rfl, sq_of hp, Nat.lt_trans (show ns.length + 1 < 64 by omega) (by decide), fun p2 c n2 hc => ?_⟩
  refine ⟨p2, _, c, rfl, upd_same, by omega, fun ns' p3 hr hm hlen n3 => ?_⟩
  have e2 : Ex H1 (upd H1 p2 (SetO w p2 (fun j => decide (j ∈ ns)) c)) := Ex.new n2
  have e3 := Ex.new (o := .lst (ns'.map V.int)) n3
  have en : ns' = sortU ns := rise_one hr (sortU_rise ns) fun z => by rw [hm, mem_sortU, decide_eq_true_eq]
  subst en
  exact q p3 _ (fresh_back (e1.trans e2) n3) ((e1.trans e2).trans e3) upd_same
end
end Sr
set_option Elab.async false
set_option linter.all false
set_option maxRecDepth 100000
set_option maxHeartbeats 4000000
/-! SrD: data at any depth: what stands in the heap as data, == and !=. -/
namespace Sr
open PySem PySem.Spec PyProof.Rows L2 Evl

/-! ### shapes -/
def Sh (n : Nat) (d : PyData) : Prop := d.canLay0 = true ∧ d.depth ≤ n
theorem sh_int {n : Nat} (i : Int) : Sh n (.int i) := ⟨rfl, Nat.zero_le _⟩
theorem sh_bool {n : Nat} (b : Bool) : Sh n (.bool b) := ⟨rfl, Nat.zero_le _⟩
theorem sh_none {n : Nat} : Sh n .none := ⟨rfl, Nat.zero_le _⟩
theorem shAll {n : Nat} : ∀ {ds : List PyData}, (∀ d ∈ ds, Sh n d) → PyData.canLayAll0 ds = true ∧ PyData.depthAll ds ≤ n
  | [], _ => ⟨rfl, Nat.zero_le _⟩
  | d :: r, h => by
    obtain ⟨h1, h2⟩ := h d (List.mem_cons_self ..)
    obtain ⟨h3, h4⟩ := shAll (ds := r) fun x hx => h x (List.mem_cons_of_mem _ hx)
    constructor
    · show (PyData.canLay0 d && PyData.canLayAll0 r) = true
      rw [h1, h3]
      rfl
    · show max (PyData.depth d) (PyData.depthAll r) ≤ n
      omega
theorem sh_list {n : Nat} {ds : List PyData} (h : ∀ d ∈ ds, Sh n d) : Sh (n + 1) (.list ds) := by
  obtain ⟨h1, h2⟩ := shAll h
  exact ⟨h1, Nat.succ_le_succ h2⟩
theorem sh_tuple {n : Nat} {ds : List PyData} (h : ∀ d ∈ ds, Sh n d) : Sh (n + 1) (.tuple ds) := by
  obtain ⟨h1, h2⟩ := shAll h
  exact ⟨h1, Nat.succ_le_succ h2⟩
theorem sh_map {α : Type} {n : Nat} {f : α → PyData} {xs : List α} (h : ∀ x, Sh n (f x)) : ∀ d ∈ xs.map f, Sh n d := fun d hd => by
  obtain ⟨x, _, rfl⟩ := List.mem_map.mp hd
  exact h x
theorem Sh.mono {m n : Nat} {d : PyData} (h : Sh m d) (hl : m ≤ n) : Sh n d := ⟨h.1, Nat.le_trans h.2 hl⟩
theorem Sh.ok {n : Nat} {d : PyData} (h : Sh n d) (hn : n ≤ 64) : SeqAt.shaped d = true := by
  show (d.canLay0 && decide (d.depth ≤ 64)) = true
  rw [h.1, Bool.true_and, decide_eq_true_eq]
  exact Nat.le_trans h.2 hn
theorem Sh.refl {n : Nat} {d : PyData} (h : Sh n d) : PyData.eqv d d = true := SeqAt.eqv_refl d h.1

/-! ### encodings that == tells apart -/
def Inj {α : Type} [DecidableEq α] (f : α → PyData) : Prop := ∀ x y, PyData.eqv (f x) (f y) = decide (x = y)
theorem inj_int : Inj PyData.int := fun x y => by
  show (x == y) = _
  by_cases h : x = y
  · subst h; simp
  · rw [decide_eq_false h]; exact beq_eq_false_iff_ne.mpr h
theorem inj_nat : Inj fun n : Nat => PyData.int (n : Int) := fun x y => by
  show ((x : Int) == (y : Int)) = _
  by_cases h : x = y
  · subst h; simp
  · rw [decide_eq_false h]; exact beq_eq_false_iff_ne.mpr (by omega)
theorem inj_all {α : Type} [DecidableEq α] {f : α → PyData} (h : Inj f) : ∀ xs ys : List α, PyData.eqvAll (xs.map f) (ys.map f) = decide (xs = ys)
  | [], [] => rfl
  | [], y :: r => by rw [decide_eq_false (by simp)]; rfl
  | x :: r, [] => by rw [decide_eq_false (by simp)]; rfl
  | x :: r, y :: t => by
    show (PyData.eqv (f x) (f y) && PyData.eqvAll (r.map f) (t.map f)) = _
    rw [h x y, inj_all h r t, ← Bool.decide_and]
    congr 1
    simp
theorem inj_list {α : Type} [DecidableEq α] {f : α → PyData} (h : Inj f) : Inj fun xs : List α => PyData.list (xs.map f) := fun xs ys => inj_all h xs ys
abbrev dI (xs : List Nat) : PyData := .list (xs.map fun n : Nat => .int (n : Int))
abbrev dZ (xs : List Int) : PyData := .list (xs.map PyData.int)
abbrev dW (web : List (List Nat)) : PyData := .list (web.map dI)
theorem inj_dI : Inj dI := inj_list inj_nat
theorem inj_dW : Inj dW := inj_list inj_dI
theorem sh_dI (xs : List Nat) : Sh 1 (dI xs) := sh_list (sh_map fun _ => sh_int _)
theorem sh_dZ (xs : List Int) : Sh 1 (dZ xs) := sh_list (sh_map fun _ => sh_int _)
theorem sh_dW (web : List (List Nat)) : Sh 2 (dW web) := sh_list (sh_map sh_dI)

/-! ### in the heap -/
section
variable {K : PySem.W.Frag} {σ : L2.St} {H H' : Hp} {ta tb tc te tx : TE} {t u : TT} {x y z v : V} {r : R2}
mutual
theorem Dp.mono (e : Ex H H') : ∀ {v : V} {d : PyData}, Dp K H v d → Dp K H' v d
  | _, _, .non => .non
  | _, _, .bl b => .bl b
  | _, _, .int i => .int i
  | _, _, .str x => .str x
  | _, _, .lst h a => .lst (ex_l e h) (DpAll.mono e a)
  | _, _, .tup h a => .tup (ex_t e h) (DpAll.mono e a)
theorem DpAll.mono (e : Ex H H') : ∀ {vs : List V} {ds : List PyData}, DpAll K H vs ds → DpAll K H' vs ds
  | _, _, .nil => .nil
  | _, _, .cons h a => .cons (Dp.mono e h) (DpAll.mono e a)
end
theorem dpAll_map {α : Type} {f : α → V} {g : α → PyData} (h : ∀ x, Dp K H (f x) (g x)) : ∀ xs : List α, DpAll K H (xs.map f) (xs.map g)
  | [] => .nil
  | x :: r => .cons (h x) (dpAll_map h r)
theorem dp_LI {a : Addr} {xs : List Nat} (h : LI K H a xs) : Dp K H (.ref a) (dI xs) := .lst h (dpAll_map (fun n => .int _) xs)
theorem dp_Z {a : Addr} {xs : List Int} (h : SqL K H a (xs.map V.int)) : Dp K H (.ref a) (dZ xs) := .lst h (dpAll_map (fun n => .int _) xs)
theorem dpAll_of {vs : List V} {ds : List PyData} (hl : vs.length = ds.length) (h : ∀ (i : Nat) (v : V) (d : PyData), vs[i]? = some v → ds[i]? = some d → Dp K H v d) : DpAll K H vs ds := by
  induction vs generalizing ds with
  | nil =>
    cases ds with
    | nil => exact .nil
    | cons => cases hl
  | cons v r ih =>
    cases ds with
    | nil => cases hl
    | cons d s => exact .cons (h 0 v d rfl rfl) (ih (Nat.succ.inj hl) fun i w e a b => h (i + 1) w e a b)
theorem dp_LL {a : Addr} {web : List (List Nat)} (h : LL K H a web) : Dp K H (.ref a) (dW web) := by
  obtain ⟨as, h1, h2, h3⟩ := h
  refine .lst h1 (dpAll_of (by rw [List.length_map, List.length_map, h2]) fun i v d hv hd => ?_)
  rw [List.getElem?_map] at hv hd
  cases ha : as[i]? with
  | none => rw [ha] at hv; cases hv
  | some q =>
    cases hw : web[i]? with
    | none => rw [hw] at hd; cases hd
    | some row =>
      rw [ha] at hv
      rw [hw] at hd
      cases hv
      cases hd
      exact dp_LI (h3 i q row ha hw)
/-! ### == and != -/
theorem rv_eqD {d e : PyData} {m n : Nat} (hd : Dp K H x d) (he : Dp K H y e) (sd : Sh m d) (se : Sh n e) (hm : m ≤ 64 := by decide) (hn : n ≤ 64 := by decide) : RV (rEqD K) x y H (.bl (PyData.eqv d e)) :=
  fun H1 ex _ q => ⟨d, e, Dp.mono ex hd, Dp.mono ex he, sd.ok hm, se.ok hn, q H1 (Ex.refl H1)⟩
theorem rv_neD {d e : PyData} {m n : Nat} (hd : Dp K H x d) (he : Dp K H y e) (sd : Sh m d) (se : Sh n e) (hm : m ≤ 64 := by decide) (hn : n ≤ 64 := by decide) : RV (rNeD K) x y H (.bl (!PyData.eqv d e)) :=
  fun H1 ex _ q => ⟨d, e, Dp.mono ex hd, Dp.mono ex he, sd.ok hm, se.ok hn, q H1 (Ex.refl H1)⟩
/-- xs != [] -/
theorem ev_neNil {a : Addr} {xs : List V} {d : PyData} {n : Nat} (ha : Ev ta σ H (.ref a)) (hd : Dp K H (.ref a) d) (sd : Sh n d) (hn : n ≤ 64 := by decide) : Ev (tOp (rNeD K) ta (tLst tNil)) σ H (.bl (!PyData.eqv d (.list []))) :=
  ev_opL ha (el_lst ea_nil (by decide)) fun p H1 hp e => rv_neD (Dp.mono e hd) (.lst (sq_of hp) .nil) sd (sh_list (n := 0) fun _ h => nomatch h) hn
end
end Sr
set_option Elab.async false
set_option linter.all false
set_option maxRecDepth 100000
set_option maxHeartbeats 4000000
/-! Sr5: a list of rows that grows; the drawn web's promise. -/
namespace Sr
open PySem PySem.Spec PyProof.Rows L2 Evl

/-- rows of its own at q -/
structure MW (q : Addr) (as : List Addr) (web : List (List Nat)) (H : Hp) : Prop where
  top : H q = some (.lst (as.map V.ref))
  len : as.length = web.length
  row : ∀ (j : Nat) (r : Addr) (row : List Nat), as[j]? = some r → web[j]? = some row → r ≠ q ∧ H r = some (.lst (row.map nv))
theorem MW.ex {q : Addr} {as : List Addr} {web : List (List Nat)} {H H' : Hp} (e : Ex H H') (m : MW q as web H) : MW q as web H' :=
  ⟨e _ _ m.top, m.len, fun j r row a b => ⟨(m.row j r row a b).1, e _ _ (m.row j r row a b).2⟩⟩
theorem MW.nil {q : Addr} {H : Hp} (h : H q = some (.lst [])) : MW q [] [] H := ⟨h, rfl, fun j r row a _ => by simp at a⟩
theorem MW.app {q r : Addr} {as : List Addr} {web : List (List Nat)} {row : List Nat} {H : Hp} (m : MW q as web H) (hr : H r = some (.lst (row.map nv))) (ne : r ≠ q) : MW q (as ++ [r]) (web ++ [row]) (upd H q (.lst (as.map V.ref ++ [.ref r]))) := by
  refine ⟨by rw [upd_same, List.map_append]; rfl, by rw [List.length_append, List.length_append, m.len]; rfl, fun j r' row' a b => ?_⟩
  by_cases hj : j < as.length
  · rw [List.getElem?_append_left hj] at a
    rw [List.getElem?_append_left (by rw [← m.len]; exact hj)] at b
    obtain ⟨h1, h2⟩ := m.row j r' row' a b
    exact ⟨h1, by rw [upd_ne h1]; exact h2⟩
  · rw [List.getElem?_append_right (by omega)] at a
    rw [List.getElem?_append_right (by rw [← m.len]; omega)] at b
    have e1 : j - as.length = 0 := by
      have := (List.getElem?_eq_some_iff.mp a).1
      simp at this
      omega
    rw [← m.len, e1] at b
    rw [e1] at a
    cases a
    cases b
    exact ⟨ne, by rw [upd_ne ne]; exact hr⟩
theorem MW.set {q r : Addr} {as : List Addr} {web : List (List Nat)} {row : List Nat} {i : Nat} {H : Hp} (m : MW q as web H) (hr : H r = some (.lst (row.map nv))) (ne : r ≠ q) : MW q (as.set i r) (web.set i row) (upd H q (.lst ((as.map V.ref).set i (.ref r)))) := by
  refine ⟨by rw [upd_same, List.map_set], by rw [List.length_set, List.length_set, m.len], fun j r' row' a b => ?_⟩
  by_cases hj : i = j
  · subst hj
    have hlt : i < as.length := by
      have := (List.getElem?_eq_some_iff.mp a).1
      rw [List.length_set] at this
      exact this
    rw [List.getElem?_set_self hlt] at a
    rw [List.getElem?_set_self (by rw [← m.len]; exact hlt)] at b
    cases a
    cases b
    exact ⟨ne, by rw [upd_ne ne]; exact hr⟩
  · rw [List.getElem?_set_ne hj] at a b
    obtain ⟨h1, h2⟩ := m.row j r' row' a b
    exact ⟨h1, by rw [upd_ne h1]; exact h2⟩
theorem MW.ll {K : PySem.W.Frag} {q : Addr} {as : List Addr} {web : List (List Nat)} {H : Hp} (m : MW q as web H) : LL K H q web := ⟨as, sq_of m.top, m.len, fun i r row a b => sq_of (m.row i r row a b).2⟩

def sp_web (K : PySem.W.Frag) : Sp := spOf (α := Addr × List Int × Nat × Nat) (fun a vs H => vs = [.ref a.1, nv a.2.2.1, nv a.2.2.2] ∧ SqL K H a.1 (a.2.1.map V.int) ∧ 1 ≤ a.2.2.1 ∧ a.2.2.1 ≤ 60 ∧ a.2.2.2 ≤ 10)
  (fun a H v H' => ∃ p web, v = .ref p ∧ H p = none ∧ LL K H' p web ∧ Good web ∧ web.length = a.2.2.1)

theorem cutV_take (xs : List V) (n : Nat) : cutV xs none (some (n : Int)) = xs.take n := by
  unfold cutV
  rw [HT.sIx_none, HT.sIx_nat, List.drop_zero, Nat.sub_zero]
  by_cases h : n ≤ xs.length
  · rw [Nat.min_eq_left h]
  · rw [Nat.min_eq_right (by omega), List.take_of_length_le (by omega), List.take_of_length_le (by omega)]
theorem cutV_drop (xs : List V) (n : Nat) : cutV xs (some (n : Int)) none = xs.drop n := by
  unfold cutV
  rw [HT.sIx_none, HT.sIx_nat]
  by_cases h : n ≤ xs.length
  · rw [Nat.min_eq_left h, List.take_of_length_le]
    rw [List.length_drop]
    exact Nat.le_refl _
  · rw [Nat.min_eq_right (by omega), List.drop_eq_nil_of_le (by omega), List.drop_eq_nil_of_le (by omega), List.take_nil]
theorem set_cut {st : List Nat} {i : Nat} (h : i < st.length) (j : Nat) : (st.map nv).take i ++ [nv j] ++ (st.map nv).drop (i + 1) = (st.set i j).map nv := by
  rw [List.set_eq_take_append_cons_drop, if_pos h, List.map_append, List.map_cons, List.map_take, List.map_drop, List.append_assoc]
  rfl
section
variable {K : PySem.W.Frag} {σ : L2.St} {H H' : Hp} {ta tb tc te tx : TE} {t u : TT} {x y z v : V} {D : Ends} {tu tw tz : TS} {P1 P2 : Hp → V → Hp → Prop}
theorem q_parP {i j : Nat} (h1 : EvP ta σ H P1) (h2 : EvP tb σ H P2) (k : ∀ v w H1 H2, Ex H H1 → Ex H1 H2 → P1 H v H1 → P2 H1 w H2 → tz D ((σ.set i (some v)).set j (some w)) H2) : tSeq (tPar i j (tCons ta (tCons tb tNil))) tz D σ H :=
  h1 H (Ex.refl H) _ fun v H1 e1 p1 => h2 H1 e1 _ fun w H2 e2 p2 => ⟨v, w, rfl, k v w H1 H2 e1 e2 p1 p2⟩
theorem ep_if {b : Bool} {P : Hp → V → Hp → Prop} (h : EvT t σ H b) (hP : ∀ H1 H2 w H3, Ex H1 H2 → Ex H2 H3 → P H2 w H3 → P H1 w H3) (h1 : b = true → EvP ta σ H P) (h2 : b = false → EvP tb σ H P) : EvP (tIf t ta tb) σ H P := fun H1 e Q q => h H1 e _ fun H2 e2 => by
  cases b with
  | true => exact h1 rfl H2 (e.trans e2) Q fun w H3 e3 p => q w H3 (e2.trans e3) (hP H1 H2 w H3 e2 e3 p)
  | false => exact h2 rfl H2 (e.trans e2) Q fun w H3 e3 p => q w H3 (e2.trans e3) (hP H1 H2 w H3 e2 e3 p)
theorem ep_sortedSet {w : World} {C : List Int → Prop} (h : EvP te σ H (fun _ v H2 => ∃ p ns, C ns ∧ v = .ref p ∧ H2 p = some (.lst (ns.map V.int)))) (hl : ∀ ns, C ns → ns.length < 63) :
    EvP (tCB (rSortedSet w) (tCons (tCB (rSetOf K w) (tCons te tNil)) tNil)) σ H (fun H1 v H2 => ∃ p ns, C ns ∧ v = .ref p ∧ H1 p = none ∧ H2 p = some (.lst ((sortU ns).map V.int))) := fun H0 e Q q => h H0 e _ fun v H1 e1 ⟨p, ns, hc, hv, hp⟩ => by
  subst hv
  have hh : EvL (fun _ H3 Q3 => Q3 (.ref p) H3) σ H1 (ns.map V.int) → True := fun _ => trivial
  have hn := hl ns hc
  refine ⟨p, ns, rfl, sq_of hp, Nat.lt_trans (show ns.length + 1 < 64 by omega) (by decide), fun p2 c n2 hc2 => ?_⟩
  refine ⟨p2, _, c, rfl, upd_same, by omega, fun ns' p3 hr hm hlen n3 => ?_⟩
  have e2 : Ex H1 (upd H1 p2 (SetO w p2 (fun j => decide (j ∈ ns)) c)) := Ex.new n2
  have e3 := Ex.new (o := .lst (ns'.map V.int)) n3
  have en : ns' = sortU ns := rise_one hr (sortU_rise ns) fun z => by rw [hm, mem_sortU, decide_eq_true_eq]
  subst en
  exact q _ _ ((e1.trans e2).trans e3) ⟨p3, ns, hc, rfl, fresh_back (e1.trans e2) n3, upd_same⟩
theorem ep_lst1 {P : V → Prop} (h : EvP te σ H (fun _ v _ => P v)) : EvP (tLst (tCons te tNil)) σ H (fun H1 v H2 => ∃ p x, P x ∧ v = .ref p ∧ H1 p = none ∧ H2 p = some (.lst [x])) :=
  fun H1 e Q q => h H1 e _ fun x H2 e2 hx => ⟨sz_of (show 1 ≤ 100000 by decide), fun p hp => q _ _ (e2.trans (Ex.new hp)) ⟨p, x, hx, rfl, fresh_back e2 hp, upd_same⟩⟩
theorem ep_cat {C : List V → Prop} {l : Addr} {xs : List V} (ha : Ev ta σ H (.ref l)) (hl : H l = some (.lst xs)) (hb : EvP tb σ H (fun _ v H2 => ∃ p ys, C ys ∧ v = .ref p ∧ H2 p = some (.lst ys))) (hz : ∀ ys, C ys → xs.length + ys.length ≤ 100000) :
    EvP (tOp rCat ta tb) σ H (fun H1 v H2 => ∃ p ys, C ys ∧ v = .ref p ∧ H1 p = none ∧ H2 p = some (.lst (xs ++ ys))) :=
  fun H1 e Q q => ha H1 e _ fun H2 e2 => hb H2 (e.trans e2) _ fun v H3 e3 ⟨p, ys, hc, hv, hp⟩ => by
    subst hv
    exact ⟨l, p, xs, ys, rfl, rfl, ((e.trans e2).trans e3) _ _ hl, hp, sz_of (hz ys hc), fun r hr => q _ _ ((e2.trans e3).trans (Ex.new hr)) ⟨r, ys, hc, rfl, fresh_back (e2.trans e3) hr, upd_same⟩⟩
theorem s_setP {P : Hp → V → Hp → Prop} {l : Addr} {xs : List V} {j : Nat} (hl : H l = some (.lst xs)) (h : EvP te σ H P) (ho : Ev ta σ H (.ref l)) (hi : Ev tb σ H (nv j)) (hj : j < xs.length) (k : ∀ w H1 H2, Ex H H1 → Ex H1 H2 → P H w H1 → D.nx σ (upd H2 l (.lst (xs.set j w)))) :
    tAsg te (gSub ta tb rSetL) D σ H := h H (Ex.refl H) _ fun w H1 e1 p => ho H1 e1 _ fun H2 e2 => hi H2 (e1.trans e2) _ fun H3 e3 =>
  ⟨l, xs, (j : Int), j, rfl, rfl, ((e1.trans e2).trans e3) l _ hl, ixN_nat hj, k w H1 H3 e1 (e2.trans e3) p⟩
theorem ep_draw {ta : TA} {c : Int} {k m : Nat} (h : EvA ta σ H [.int c, nv k, nv m]) (hm : 0 < m) : EvP (tCall sp_draw [] E0 ta) σ H (fun _ v _ => ∃ r : Nat, r < m ∧ v = nv r) :=
  ep_callA (c, k, m) h (fun _ _ => ⟨rfl, hm⟩) fun _ _ _ _ _ _ _ r => r
theorem ep_number {ta : TA} {c : Int} {k m : Nat} (h : EvA ta σ H [.int c, nv k, nv m]) (hm : 0 < m) (hm2 : m ≤ 100000) (hk : k ≤ 100000) : EvP (tCall sp_number [] E0 ta) σ H (fun _ v _ => ∃ r : Nat, r < m ∧ v = nv r) :=
  ep_callA (c, k, m) h (fun _ _ => ⟨rfl, hm, hm2, hk⟩) fun _ _ _ _ _ _ _ r => r
theorem ep_size {ta : TA} {a : Addr} {xs : List Int} {b m : Nat} (h : EvA ta σ H [.ref a, nv b, nv m]) (hs : SqL K H a (xs.map V.int)) (hm : 0 < m) : EvP (tCall (sp_size K) [] E0 ta) σ H (fun _ v _ => ∃ r : Nat, 1 ≤ r ∧ r ≤ m ∧ v = nv r) :=
  ep_callA (a, xs, b, m) h (fun _ e => ⟨rfl, ex_l e hs, hm⟩) fun _ _ _ _ _ _ _ r => r
theorem ep_web {ta : TA} {a : Addr} {xs : List Int} {n b : Nat} (h : EvA ta σ H [.ref a, nv n, nv b]) (hs : SqL K H a (xs.map V.int)) (hn : 1 ≤ n) (hn2 : n ≤ 60) (hb : b ≤ 10) : EvP (tCall (sp_web K) [] E0 ta) σ H (fun H1 v H2 => ∃ p web, v = .ref p ∧ H1 p = none ∧ LL K H2 p web ∧ Good web ∧ web.length = n) :=
  ep_callA (a, xs, n, b) h (fun _ e => ⟨rfl, ex_l e hs, hn, hn2, hb⟩) fun _ _ _ _ _ e0 _ ⟨p, web, h1, h2, h3⟩ => ⟨p, web, h1, fresh_back e0 h2, h3⟩
theorem el_cat {xs ys : List V} (ha : EvL ta σ H xs) (hb : EvL tb σ H ys) (hz : xs.length + ys.length ≤ 100000) : EvL (tOp rCat ta tb) σ H (xs ++ ys) := fun H1 e Q q => ha H1 e _ fun p H2 n2 e2 hp => hb H2 (e.trans e2) _ fun p' H3 n3 e3 hp' =>
  ⟨p, p', xs, ys, rfl, rfl, e3 _ _ hp, hp', sz_of hz, fun r hr => q r _ (fresh_back (e2.trans e3) hr) ((e2.trans e3).trans (Ex.new hr)) upd_same⟩
theorem el_is {xs ys : List V} (h : EvL te σ H xs) (e : xs = ys) : EvL te σ H ys := by rw [← e]; exact h
/-- st[:i] + [j] + st[i + 1:] -/
theorem el_setcut {tl ti tj ti2 : TE} {b : Addr} {st : List Nat} {i j : Nat} (hb : Ev tl σ H (.ref b)) (hs : LI K H b st) (hi : Ev ti σ H (nv i)) (hj : Ev tj σ H (nv j)) (hi2 : Ev ti2 σ H (.int ((i : Int) + 1))) (hl : i < st.length) (hz : st.length ≤ 1000) :
    EvL (tOp rCat (tOp rCat (tSl (rSlL K) tl tNoPart (tPart ti)) (tLst (tCons tj tNil))) (tSl (rSlL K) tl (tPart ti2) tNoPart)) σ H ((st.set i j).map nv) := by
  have h1 := cutV_length (st.map nv) none (some (i : Int))
  have h2 := cutV_length (st.map nv) (some ((i : Int) + 1)) none
  rw [List.length_map] at h1 h2
  refine el_is (el_cat (el_cat (el_sl hb eo_none (eo_some hi) hs) (el_lst (ea_cons hj ea_nil) (show 1 ≤ 100000 by decide)) ?_) (el_sl hb (eo_some hi2) eo_none hs) ?_) ?_
  · show _ + 1 ≤ 100000
    omega
  · rw [List.length_append]
    show _ + 1 + _ ≤ 100000
    omega
  · rw [cutV_take, show (i : Int) + 1 = ((i + 1 : Nat) : Int) from rfl, cutV_drop, set_cut hl]
theorem sz_nil : ([] : List V).length ≤ 100000 := by decide
end
theorem rise_snoc {row : List Nat} {j : Nat} (h : row.Pairwise (· < ·)) (hl : ∀ x ∈ row, x < j) : (row ++ [j]).Pairwise (· < ·) := by
  rw [List.pairwise_append]
  refine ⟨h, List.pairwise_singleton _ _, fun a ha b hb => ?_⟩
  rw [List.mem_singleton] at hb
  subst hb
  exact hl a ha
end Sr
set_option Elab.async false
set_option linter.all false
set_option maxRecDepth 100000
set_option maxHeartbeats 4000000
/-! SrX: refusals: raised, caught, asked for their class. -/
namespace Sr
open PySem PySem.Spec PyProof.Rows L2 Evl

/-! ### the end of a list that is walked while an exception is handled -/
section
variable {prog : Program} {w : World} {A : Around} {E : Value → Shared → Prop} {s : Shared}
theorem next_list_end_hot {it l x1 : Addr} {i : Nat} {its : Array Value} {Q : Option Value → Shared → Prop} (hot : HotX.HotAt A x1 s.heap) (nx : x1 ≠ it) (hit : s.heap.IsListIter it l i) (hl : s.heap.IsList l its) (hx : its[i]? = none)
    (hQ : ∀ h', Heap.ExtBut it s.heap h' → Q none { s with heap := h' }) : wpAny (model prog w) A (pyNext (.ref it)) Q E s := by
  obtain ⟨o, ho, hc, hd⟩ := id hit
  obtain ⟨ol, hol, _, nl, hdl⟩ := hl
  obtain ⟨hh, o1, vs1, h1, d1, c1⟩ := hot
  unfold pyNext
  refine wpAny_bind (wpAny_attempt (wpAny_callSpecial?_slot (name := Str.ofString "__next__") hit.typeIs slot_listiter_next (wpAny_call_entry slot_listiter_next hit.typeIs entry_listiter_next ?_ (args_listiter_next _))))
  show wpAny _ _ (field (.ref it) 0 >>= _) _ _ s
  refine wpAny_bind (wpAny_field ho hd (x := .ref l) rfl ?_)
  show wpAny _ _ (if (Value.ref l == Value.none) = true then _ else _) _ _ s
  rw [if_neg (show ¬ ((Value.ref l == Value.none) = true) from Bool.false_ne_true)]
  show wpAny _ _ (field (.ref it) 1 >>= _) _ _ s
  refine wpAny_bind (wpAny_field ho hd (x := .int i 0) rfl ?_)
  show wpAny _ _ (seqItems? (.ref l) >>= _) _ _ s
  refine wpAny_bind (wpAny_seqItems hol hdl ?_)
  simp only [Int.toNat_natCast, hx]
  refine wpAny_bind (wpAny_rule (wpAny_bind (wpAny_setField ho hd (by simp) ?_)))
  show wpAny _ _ (newExc (.type "StopIteration") [] >>= _) _ _ _
  refine wpAny_bind ?_
  simp only [newExc, newTuple]
  refine wpAny_bind (wpAny_newObj_type ?_ (by size_fits))
  refine wpAny_bind (m := firstArgMember _ _) (wpAny_of_eq (a := Value.none) (by first | rfl | (simp only [firstArgMember]; rfl)) ?_)
  refine wpAny_newObj_type ?_ (by size_fits)
  have g1 : ∀ f : Obj → Obj, (s.heap.update it f).get? x1 = some o1 := fun f => by rw [Heap.get?_update_other _ _ (Ne.symm nx)]; exact h1
  refine HotX.raiseNew_hot ⟨hh, o1, vs1, Heap.get?_push_of_some _ (Heap.get?_push_of_some _ (g1 _)), d1, c1⟩ (Nat.ne_of_lt (Heap.lt_size (Heap.get?_push_of_some _ (g1 _)))) (Heap.get?_push_size _ rfl) rfl (by first | (simp; done) | (simp; omega) | (simp only [Array.size_append]; simp; omega)) ?_
  refine wpAny_bind (wpAny_isInstance (T := "StopIteration") (b := true) ⟨_, Heap.get?_update_self _ (Heap.get?_push_size _ rfl) rfl, rfl⟩ isSubtype_stop ?_)
  refine wpAny_pure (hQ _ fun b ob nb e => ?_)
  have e1 : ∀ f : Obj → Obj, (s.heap.update it f).get? b = some ob := fun f => by rw [Heap.get?_update_other _ _ (Ne.symm nb)]; exact e
  rw [Heap.get?_update_other _ _ (Nat.ne_of_gt (Heap.lt_size (Heap.get?_push_of_some _ (e1 _))))]
  exact Heap.get?_push_of_some _ (Heap.get?_push_of_some _ (e1 _))
theorem walks_list_hot {x1 : Addr} (hh : A.handled = some (.ref x1)) (I ax : Addr) (hne : ax ≠ I) (hx : x1 ≠ I) (its : Array Value) :
    Walks prog w A I [I, ax, x1] [I] its.size (fun i v => its[i]? = some v) (fun i h => (h.IsListIter I ax i ∧ h.IsList ax its) ∧ ∃ (o : Obj) (vs : Array Value), h.get? x1 = some o ∧ o.data = .fields vs ∧ vs[2]? = some .none) where
  sub := fun b hb => by simp at hb; simp [hb]
  frame := fun _ _ _ st hk => by
    obtain ⟨⟨h1, h2⟩, o, vs, h3, h4⟩ := st
    exact ⟨⟨h1.at fun o e => hk I (by simp) o e, h2.at fun o e => hk ax (by simp) o e⟩, o, vs, hk x1 (by simp) o h3, h4⟩
  item := fun i s Q E hi st hQ => by
    obtain ⟨⟨h1, h2⟩, o, vs, h3, h4⟩ := st
    refine wpAny_pyNext_list_item h1 h2 (x := its[i]) (by simp [hi]) fun h' hit' hs' => ?_
    exact hQ _ h' s.toks (by simp [hi]) ⟨⟨hit', h2.extBut hs'.extBut hne⟩, o, vs, hs'.extBut x1 o hx h3, h4⟩ fun b o hb e => hs'.extBut b o (fun h => hb (by simp [h])) e
  done := fun s Q E st hQ => by
    obtain ⟨⟨h1, h2⟩, o, vs, h3, h4⟩ := st
    exact next_list_end_hot ⟨hh, o, vs, h3, h4⟩ hx h1 h2 (by simp) fun h' he' => hQ h' s.toks fun b o hb e => he' b o (fun h => hb (by simp [h])) e
  self := fun _ _ _ _ st hQ => wpAny_pyIter_listiter st.1.1 hQ
end
/-- any(xs) of truths, while an exception is handled -/
theorem cr_anyH {X : Cx} (hc : L2H.HotC X) : CallR X (.builtin "any") (rAny X.K) := by
  intro pins s σ H vs us Q I r h
  obtain ⟨a, bs, rfl, hs, q⟩ := h
  obtain ⟨its, rv, hl, _⟩ := I.list hs
  rw [Vals.ref1 r]
  have hb := rv.bls
  obtain ⟨x1, hh, o, vs1, h3, h4⟩ := hc.at I
  refine call_any_walk (iter_any hl.isList fun s2 e2 st hne => ?_)
  subst e2
  refine ⟨_, _, _, _, _, _, _, rfl, walks_list_hot (A := X.A.in1) hh _ a hne (Nat.ne_of_lt (Heap.lt_size h3)) its.toArray, ⟨st, o, vs1, Heap.get?_push_of_some _ h3, h4⟩, truth_bools hb, fun h' tk hk => ?_⟩
  refine ⟨.bl _, H, I.kept fun b o eo => hk b o (fun z => ?_) (Heap.get?_push_of_some _ eo), ?_, q⟩
  · rw [List.mem_singleton] at z
    exact absurd z (Nat.ne_of_lt (Heap.lt_size eo))
  · show Value.bool _ = Value.bool _
    rw [← L2.any_range, hb, List.size_toArray, List.length_map]

/-! ### defs that may refuse -/
section
variable {P : Program} {w : World} {K : PySem.W.Frag} {mg : Str → Option Value} {base : Heap}
theorem Df.calN {x : Str} {st : Stmt} {N ps : List Str} {k : Nat} {sp : Sp} (d : Df K mg x st ps) (S : FnScope N ps (defScope st)) (len : ∀ vs H Q E, sp vs H Q E → vs.length = ps.length)
    (hbody : ∀ (f : Addr) (cdv : Value) (A : Around) (outer : List Env) (s : Shared) (H : Hp) (vs : List V) (Q : VK) (E : XK), Room k (A.deeper (envOfC x (defScope st) s.heap.objs.size f cdv)) → sp vs H Q E →
      ∃ t, PSs (cxOf (L2N.CX P w) P w K mg base N x (defScope st) f cdv A outer s H E) (defBody st) t ∧ t { nx := fun _ H' => Q .non H', rt := Q } (start N vs) H) : Cal P w K mg base (L2N.CX P w) (k + 1) x sp := by
  obtain ⟨f, fd, F, hm, hb⟩ := d.ex
  obtain ⟨oc, od, kV, doc, pm, an, cdv, ct, osl, hfd, lk, hcd⟩ := F.ex
  subst hfd
  exact ⟨f, _, ps, fn_of lk hcd S len (hbody f cdv), hm, F.kp, hb⟩
end
/-- a refusal's class of the program -/
structure XC (K : PySem.W.Frag) (mg : Str → Option Value) (x : Str) (C : Addr) : Prop where
  g : mg x = some (.ref C)
  q : PySem.W.excIn K C [.type "ValueError", .type "Exception", .type "BaseException", .type "object"] "ValueError.__new__" = true
  k : PySem.W.keepIn K (.ref C) = true
  b : PySem.W.subIn K (.ref C) (.type "BaseException") = some true
  t : PySem.W.typeIn K (.ref C) = some (.type "type")
section
variable {X : Cx} {k j : Nat} {sp : Sp} {x : Str} {p pos : Pos} {e : Expr} {es : List Expr} {t : TA}
/-- a call in a try's body -/
theorem pe_cS {W : WX} (c : Cal X.prog X.w X.K X.mg X.base (L2N.CX X.prog X.w) k x sp) (hr : Room j X.A) (hk : k ≤ j) (hg : Gl X x) (tk : L2N.Takes X W) (ha : PA X (e :: es) t)
    (hdb : (x == ("__debug__" : Str)) = false := by decide) (he : starEach (e :: es) X.env = (false, eval e X.env) :: starEach es X.env := by rfl) (hpl : (backTo pos (starEach es X.env)).any (·.1) = false := by rfl) :
    PE X (.Call (.Name x p) (e :: es) [] pos) (tCallS sp (WE W) t) := by
  obtain ⟨f, fd, ps, F, hm, kp, b⟩ := c.ex
  exact pe_callS F (hr.mono hk) hg hm kp b (fun σ => L2N.passAt tk σ) ha hdb he hpl
/-- a call whose refusals are not met: in a def that lets nothing out -/
theorem pe_cN (c : Cal X.prog X.w X.K X.mg X.base (L2N.CX X.prog X.w) k x sp) (hr : Room j X.A) (hk : k ≤ j) (hg : Gl X x) (ha : PA X (e :: es) t)
    (hdb : (x == ("__debug__" : Str)) = false := by decide) (he : starEach (e :: es) X.env = (false, eval e X.env) :: starEach es X.env := by rfl) (hpl : (backTo pos (starEach es X.env)).any (·.1) = false := by rfl) :
    PE X (.Call (.Name x p) (e :: es) [] pos) (tCall sp [] E0 t) := by
  obtain ⟨f, fd, ps, F, hm, kp, b⟩ := c.ex
  exact pe_call F (hr.mono hk) hg hm kp b .nil (fun _ _ _ _ _ _ _ h => by
    obtain ⟨_, _, _, _, _, _, _, _, _, _, _, _, z⟩ := h
    exact z.elim) ha hdb he hpl
end

/-! ### pushes -/
/-- the stones behind a push, none where there is no such push -/
def pushM (web : List (List Nat)) (st : List Nat) (s p : V) : Option (List Nat) :=
  match s, p with
  | .int i, .int j => if 0 ≤ i ∧ i < st.length ∧ 0 ≤ j ∧ j < web.length ∧ j.toNat ∈ web.getD (st.getD i.toNat 0) [] then some (st.set i.toNat j.toNat) else none
  | _, _ => none
theorem inV_nat (j : Nat) (row : List Nat) : inV (nv j) (row.map nv) = decide (j ∈ row) := by
  unfold inV
  rw [List.any_map]
  induction row with
  | nil => rfl
  | cons x r ih =>
    rw [List.any_cons, ih]
    show (eqV (nv x) (nv j) || decide (j ∈ r)) = _
    have : eqV (nv x) (nv j) = decide (j = x) := by
      show ((x : Int) == (j : Int)) = _
      by_cases h : j = x
      · subst h; simp
      · rw [decide_eq_false h]; exact beq_eq_false_iff_ne.mpr (by omega)
    rw [this, ← Bool.decide_or]
    congr 1
    simp
theorem flat_nats (row : List Nat) : (row.map nv).all flatV = true := by
  rw [List.all_map]
  exact List.all_eq_true.mpr fun _ _ => rfl
def sp_pushed (K : PySem.W.Frag) (C : Addr) : Sp := fun vs H Q E => ∃ (a b : Addr) (web : List (List Nat)) (st : List Nat) (s p : V), vs = [.ref a, .ref b, s, p] ∧ LL K H a web ∧ LI K H b st ∧ H b = some (.lst (st.map nv)) ∧ Ok60 web ∧ OkSt web st ∧ Typ K H s ∧ Typ K H p ∧
  (∀ st', pushM web st s p = some st' → ∀ q H', H q = none → Ex H H' → H' q = some (.lst (st'.map nv)) → Q (.ref q) H') ∧ (pushM web st s p = none → ∀ H', Ex H H' → E (.ref C) none H')
/-- a suite that is read under a condition -/
theorem pss_given {X : Cx} {c : Prop} {sts : List Stmt} {t : TS} (h : c → PSs X sts t) : PSs X sts (fun D σ H => c ∧ t D σ H) := ⟨fun pins s σ H D I q => (h q.1).run pins s σ H D I q.2⟩
theorem takes0N {X : Cx} : L2N.Takes X (fun _ _ _ _ => False) := fun _ _ x => by
  obtain ⟨_, _, _, _, _, _, _, _, _, _, _, _, _, _, _, _, z⟩ := x
  exact z.elim
/-- in the suite that holds the refusal at a, it is handled -/
theorem hot_suite {X : Cx} {a : Addr} {oe : Obj} {cls : Value} {d : Option Addr} {pn : List (Addr × Obj)} (hz : L2N.Zn cls d oe) (hf : ∃ vs, oe.data = .fields vs) : L2H.HotC (X.suite a ((a, oe) :: pn)) := by
  obtain ⟨vs, hv⟩ := hf
  exact ⟨(a, oe), ⟨rfl, vs, hv, hz.2.2 vs hv⟩, List.mem_cons_self ..⟩
section
variable {K : PySem.W.Frag} {σ : L2.St} {H H' : Hp} {ta tb te : TE}
theorem ev_isE {D a : Addr} {c : V} {cv : Value} {b : Bool} (hx : Ev ta σ H (.ref a)) (hc : Ev tb σ H c) (hcv : ∀ u, RelV c u → u = cv) (hk : PySem.W.kitOne K (.ref D) cv = some b) : Ev (tCB (rIsE K D a) (tCons ta (tCons tb tNil))) σ H (.bl b) :=
  ev_cb (ea_cons hx (ea_cons hc ea_nil)) fun H1 _ _ q => ⟨c, cv, b, rfl, hcv, hk, q H1 (Ex.refl H1)⟩
end
def sp_told1 (K : PySem.W.Frag) : Sp := spOf (α := (Addr × List (List Nat)) × (Addr × List Nat) × V × V) (fun a vs H => vs = [.ref a.1.1, .ref a.2.1.1, a.2.2.1, a.2.2.2] ∧ LL K H a.1.1 a.1.2 ∧ H a.2.1.1 = some (.lst (a.2.1.2.map nv)) ∧ Ok60 a.1.2 ∧ OkSt a.1.2 a.2.1.2 ∧ Typ K H a.2.2.1 ∧ Typ K H a.2.2.2)
  (fun a H v H' => match pushM a.1.2 a.2.1.2 a.2.2.1 a.2.2.2 with
    | some st' => ∃ q, v = .ref q ∧ H q = none ∧ H' q = some (.lst (st'.map nv))
    | none => v = .non)
end Sr
set_option Elab.async false
set_option linter.all false
set_option maxRecDepth 100000
set_option maxHeartbeats 4000000
/-! SrG: defs that are called while nothing is being shown (no repr runs around them): str of data. -/
namespace Sr
open PySem PySem.Spec PyProof.Rows L2 Evl

/-- as FnOk, where no guard of a repr is up -/
structure FnG (P : Program) (w : World) (K : PySem.W.Frag) (mg : Str → Option Value) (base : Heap) (CX : CXT) (k : Nat) (f : Addr) (fd : FuncData) (ps : List Str) (sp : Sp) : Prop where
  len : ∀ vs H Q E, sp vs H Q E → vs.length = ps.length
  go : ∀ (A : Around) (up : List Env) (s : Shared) (H : Hp) (args : Args) (us : List Value) (vs : List V) (Q : VK) (E : XK), Room k A → A.guards = some [] → Env0 P w K mg base A up s H → BindsTo s fd args (ps.zip us) → Vals vs us → sp vs H Q E →
    codeAny (model P w) A (.call (.ref f) args) (CR CX up P w H s Q E) s
section
variable {P : Program} {w : World} {K : PySem.W.Frag} {mg : Str → Option Value} {base : Heap} {CX : CXT}
theorem fnG_of {k : Nat} {f : Addr} {nm qual : Str} {pa : Arguments} {body : List Stmt} {scope : Scope} {dV kV doc pm cdv ct oc : Value} {an od : Option Addr} {osl : Array (Option Value)} {N ps : List Str} {sp : Sp}
    (lk : K.lookup f = some ⟨oc, od, .func (PySem.W.fnOf nm qual pa body scope dV kV doc pm an cdv ct), osl⟩) (hcd : PySem.W.codeIn K cdv qual = true) (S : FnScope N ps scope) (len : ∀ vs H Q E, sp vs H Q E → vs.length = ps.length)
    (hbody : ∀ (A : Around) (up : List Env) (s : Shared) (H : Hp) (vs : List V) (Q : VK) (E : XK), Room k (A.deeper (envOfC qual scope s.heap.objs.size f cdv)) → (A.deeper (envOfC qual scope s.heap.objs.size f cdv)).guards = some [] → sp vs H Q E →
      ∃ t, PSs (cxOf CX P w K mg base N qual scope f cdv A up s H E) body t ∧ t { nx := fun _ H' => Q .non H', rt := Q } (start N vs) H) :
    FnG P w K mg base CX (k + 1) f (PySem.W.fnOf nm qual pa body scope dV kV doc pm an cdv ct) ps sp := by
  refine ⟨len, fun A up s H args us vs Q E hr hg e0 hb rv hsp => ?_⟩
  have hl := len _ _ _ _ hsp
  have kin : K.In s.heap := e0.mod.kin.keeps fun b o e => (e0.bs b o e).1
  have lim : s.heap.NoLimit := e0.mod.nolimit.keeps fun b o e => (e0.bs b o e).1
  have kinds : ∀ y ∈ ps.zip us, scope.names.lookup y.1 = some .local ∨ (scope.names.lookup y.1 = some .cell ∧ ((cellsFrom (s.heap.objs.size + 1) scope.names []).lookup y.1).isSome = true) := fun ⟨n, v⟩ hy =>
    (S.par n (List.of_mem_zip hy).1).elim (fun q => .inl q) fun q => .inr ⟨q, PySem.W.cellsFrom_some _ _ _ (.inl q)⟩
  refine codeAny_call_function hr.depth (kin _ _ lk) rfl S.co S.gen rfl (PySem.W.codeRec_of kin hcd) (hb _ _ _ _ (wpAny_newFunctionEnv_cells S.kind kinds fun env he s1 x => ?_))
  subst he
  refine ⟨lim.keeps x.toInCall.keep, codeAny_func ?_⟩
  obtain ⟨t, ht, hq⟩ := hbody A up s H vs Q E (hr.deeper _) hg hsp
  have J0 : Inv (cxOf CX P w K mg base N qual scope f cdv A up s H E) [] (start N vs) H s1 := inv_start S hr.hd e0 hl rv x
  refine wpAny_mono (ht.run [] s1 (start N vs) H _ J0 hq) (fun fl s' hs => ?_) fun _ _ hs => hs
  match fl, hs with
  | .ret u, ⟨v, _, H', J, ru, q⟩ => exact ⟨v, H', J.os, J.bare, J.base, J.hok, ru, q⟩
  | .next, ⟨_, H', J, q⟩ => exact ⟨.non, H', J.os, J.bare, J.base, J.hok, rfl, q⟩
  | .brk, ⟨_, _, _, q⟩ => exact q.elim
  | .cont, ⟨_, _, _, q⟩ => exact q.elim
structure CalG (P : Program) (w : World) (K : PySem.W.Frag) (mg : Str → Option Value) (base : Heap) (CX : CXT) (k : Nat) (x : Str) (sp : Sp) : Prop where
  ex : ∃ (f : Addr) (fd : FuncData) (ps : List Str), FnG P w K mg base CX k f fd ps sp ∧ mg x = some (.ref f) ∧ PySem.W.keepIn K (.ref f) = true ∧ Binds K fd ps []
theorem fun_okG {x : Str} {st : Stmt} {f : Addr} {fd : FuncData} {N ps : List Str} {k : Nat} {sp : Sp} (F : Fun K x x st f fd) (S : FnScope N ps (defScope st)) (len : ∀ vs H Q E, sp vs H Q E → vs.length = ps.length)
    (hbody : ∀ (cdv : Value) (A : Around) (up : List Env) (s : Shared) (H : Hp) (vs : List V) (Q : VK) (E : XK), Room k (A.deeper (envOfC x (defScope st) s.heap.objs.size f cdv)) → (A.deeper (envOfC x (defScope st) s.heap.objs.size f cdv)).guards = some [] → sp vs H Q E →
      ∃ t, PSs (cxOf CX0 P w K mg base N x (defScope st) f cdv A up s H E).nox (defBody st) t ∧ t { nx := fun _ H' => Q .non H', rt := Q } (start N vs) H) : FnG P w K mg base CX0 (k + 1) f fd ps sp := by
  obtain ⟨oc, od, kV, doc, pm, an, cdv, ct, osl, hfd, lk, hcd⟩ := F.ex
  subst hfd
  refine fnG_of lk hcd S len fun A up s H vs Q E hr hg hsp => ?_
  obtain ⟨t, h, q⟩ := hbody cdv A up s H vs Q E hr hg hsp
  exact ⟨t, h.nox, q⟩
theorem Df.calG {x : Str} {st : Stmt} {N ps : List Str} {k : Nat} {sp : Sp} (d : Df K mg x st ps) (S : FnScope N ps (defScope st)) (len : ∀ vs H Q E, sp vs H Q E → vs.length = ps.length)
    (hbody : ∀ (f : Addr) (cdv : Value) (A : Around) (up : List Env) (s : Shared) (H : Hp) (vs : List V) (Q : VK) (E : XK), Room k (A.deeper (envOfC x (defScope st) s.heap.objs.size f cdv)) → (A.deeper (envOfC x (defScope st) s.heap.objs.size f cdv)).guards = some [] → sp vs H Q E →
      ∃ t, PSs (cxOf CX0 P w K mg base N x (defScope st) f cdv A up s H E).nox (defBody st) t ∧ t { nx := fun _ H' => Q .non H', rt := Q } (start N vs) H) : CalG P w K mg base CX0 (k + 1) x sp := by
  obtain ⟨f, fd, F, hm, hb⟩ := d.ex
  obtain ⟨oc, od, kV, doc, pm, an, cdv, ct, osl, hfd, lk, hcd⟩ := F.ex
  subst hfd
  refine ⟨f, _, ps, fnG_of lk hcd S len fun A up s H vs Q E hr hg hsp => ?_, hm, F.kp, hb⟩
  obtain ⟨t, h, q⟩ := hbody f cdv A up s H vs Q E hr hg hsp
  exact ⟨t, h.nox, q⟩
end
section
variable {X : Cx} {k j : Nat} {sp : Sp} {x : Str} {p pos : Pos} {e : Expr} {es : List Expr} {t : TA}
theorem pe_cG (c : CalG X.prog X.w X.K X.mg X.base CX0 k x sp) (hr : Room j X.A) (hgd : X.A.guards = some []) (hk : k ≤ j) (hg : Gl X x) (ha : PA X (e :: es) t)
    (hdb : (x == ("__debug__" : Str)) = false := by decide) (he : starEach (e :: es) X.env = (false, eval e X.env) :: starEach es X.env := by rfl) (hpl : (backTo pos (starEach es X.env)).any (·.1) = false := by rfl) :
    PE X (.Call (.Name x p) (e :: es) [] pos) (tCall sp [] E0 t) := by
  obtain ⟨f, fd, ps, F, hm, kp, b⟩ := c.ex
  refine ⟨fun pins s σ H Q I h => ?_⟩
  refine wpAny_Call_Name_kw (ld_glob I hg hm (PySem.W.callWith_K (h₀ := X.base) I.ok.mod.kin kp (thn (ha.run pos pins s σ H _ I h) fun us s1 ⟨vs, H1, I1, rv, q⟩ => ⟨I1.kIn, ?_⟩) he hpl) hdb)
  have hl : us.length = ps.length := by
    have := F.len _ _ _ _ q
    rw [List.append_nil] at this
    rw [← rv.length]
    exact this
  have hb := b s1 us I1.kIn (by rw [List.append_nil]; exact hl)
  rw [List.append_nil] at hb
  have q : sp (vs ++ []) H1 Q E0 := q
  rw [List.append_nil] at q
  refine wpAny_call (codeAny_mono (F.go X.A X.stack s1 H1 ⟨us, []⟩ us vs Q E0 (hr.mono hk) hgd I1.env0 hb rv q) fun r s' hq => ?_)
  match r, hq with
  | .ok (.ret _), hq => exact I1.after hq
  | .ok .next, hq => exact False.elim hq
  | .ok .brk, hq => exact False.elim hq
  | .ok .cont, hq => exact False.elim hq
  | .error _, hq => exact False.elim hq
end

/-! ### str(x) of data -/
def rStrD (K : PySem.W.Frag) : List V → Hp → VK → Prop := fun vs H Q => ∃ (a : Addr) (d : PyData), vs = [.ref a] ∧ Dp K H (.ref a) d ∧ d.showable = true ∧ d.hasDict = false ∧ d.depth ≤ 60 ∧ d.shown.length ≤ sizeLine ∧ Q (.str d.shown) H
theorem call_str_data {X : Cx} {k : Nat} (hg : X.A.guards = some []) (hr : Room k X.A) : CallR X (.type "str") (rStrD X.K) := by
  intro pins s σ H vs us Q I r h
  obtain ⟨a, d, rfl, hd, hs, hn, hdp, hz, q⟩ := h
  rw [Vals.ref1 r]
  obtain ⟨as, rd⟩ := Dp.reads I d (.ref a) (.ref a) hd rfl
  have hu := hr.un
  refine str_of_reads rd hs (fun z => by rw [hn] at z; cases z) hg (by omega) (fun _ _ e => e) (fun h' u tk hk => ⟨.str d.shown, H, I.kept hk, ⟨u, rfl⟩, q⟩) hz

/-! ### the law's end, where no guard is up -/
theorem lawG_call {P : Program} {w : World} {K : PySem.W.Frag} {mg mb : Str → Option Value} {CX : CXT} {k : Nat} {fa a : Addr} {fd : FuncData} {x : Str} {sp : Sp} {s1 : Shared} {vs : List Value} {ns : List Int}
    (kin : K.In s1.heap) (hns : s1.heap.Ns mainGlobals mg) (hb : s1.heap.Ns builtinsNs mb) (hbb : ∀ x : Str, x ≠ "__name__" → mb x = bootBuiltins x) (hlim : s1.heap.NoLimit) (hgen : s1.gens = #[])
    (ha : s1.heap.get? a = some { cls := .type "list", data := .seq vs.toArray }) (hi : IntsAre vs ns) (hl : ns.length ≤ sizeLine) (hr : Room k callerA)
    (F : ∀ base : Heap, K.In base → base.Ns mainGlobals mg → FnG P w K mg base CX k fa fd [x] sp) (hbind : ∀ (s : Shared) (u : Value), BindsTo s fd ⟨[u], []⟩ [(x, u)])
    (hsp : ∀ H : Hp, Only H → SqL K H a (ns.map V.int) → sp [.ref a] H (fun v _ => v = .bl true) fun _ _ _ => False)
    (hCX : ∀ H e s', CX [] H s1 (fun _ _ _ => False) e s' → False) :
    codeAny (model P w) callerA (.call (.ref fa) ⟨[.ref a], []⟩) (fun r s' => r = .ok (.ret (.bool true)) ∧ OldK s1.heap s'.heap ∧ s'.os = s1.os ∧ AllBare s'.gens) s1 := by
  have rv := vals_ints hi
  have lenV := hi.length
  -- the abstract heap tracks the script at most
  have core : ∀ H : Hp, Only H → SqL K H a (ns.map V.int) → HOk P w H s1.heap → (∀ b, H b ≠ none → b = a) → (H a ≠ none → K.lookup a = none) →
      codeAny (model P w) callerA (.call (.ref fa) ⟨[.ref a], []⟩) (fun r s' => r = .ok (.ret (.bool true)) ∧ OldK s1.heap s'.heap ∧ s'.os = s1.os ∧ AllBare s'.gens) s1 := by
    intro H hO hS hok hA hK
    have free : ∀ b, b ≠ a → H b = none := fun b nb => by
      cases q : H b with
      | none => rfl
      | some u => exact absurd (hA b (by rw [q]; simp)) nb
    have noDict : ∀ {b : Addr} {o : Obj} {es : Array DictEntry} {ep : Nat}, s1.heap.get? b = some o → o.data = .dict es ep → H b = none := fun {b o es ep} e d => free b fun z => by
      rw [z, ha] at e
      cases e
      exact nomatch (d : Data.seq vs.toArray _ = Data.dict es ep)
    have nsK : ∀ {b : Addr} {m : Str → Option Value}, s1.heap.Ns b m → (hidT s1.heap H).Ns b m := fun {b m} ⟨o, es, ep, e, d, r⟩ => ⟨o, es, ep, hidT_get e (noDict e d), d, r⟩
    have kin' : K.In (hidT s1.heap H) := fun b o e => hidT_get (kin b o e) (by
      cases q : H b with
      | none => rfl
      | some u =>
        have z : b = a := hA b (by rw [q]; simp)
        subst z
        rw [hK (by rw [q]; simp)] at e
        cases e)
    obtain ⟨mc, l1, l2⟩ := hlim
    have e0 : Env0 P w K mg (hidT s1.heap H) callerA [] s1 H :=
      ⟨rfl, ⟨kin', nsK hns, ⟨mb, nsK hb, hbb⟩, ⟨mc, nsK l1, l2⟩⟩, fun b o e => of_hidT e, Nat.le_of_eq (hidT_size _ _), trivial, fun b z => absurd (show b ∈ ([] : List Addr) from z) (by simp), hok, .of_eq hgen⟩
    refine codeAny_mono ((F _ kin' (nsK hns)).go callerA [] s1 H ⟨[.ref a], []⟩ [.ref a] [.ref a] _ _ hr rfl e0 (hbind s1 (.ref a)) (.cons rfl .nil) (hsp H hO hS)) fun r s' h => ?_
    match r, h with
    | .error e, h => exact (hCX H e s' h).elim
    | .ok .next, h => exact False.elim h
    | .ok .brk, h => exact False.elim h
    | .ok .cont, h => exact False.elim h
    | .ok (.ret u), ⟨v, H', os, bare, un, hok', ru, q⟩ =>
      have q' : v = .bl true := q
      subst q'
      obtain rfl : u = Value.bool true := ru
      refine ⟨rfl, OldK.of_keep fun b o e => ?_, os, bare⟩
      rcases hO b with z | ⟨ob, xs, z⟩
      · exact un.keep b o e z (by intro y; exact absurd (show b ∈ ([] : List Addr) from y) (by simp)) (by simp)
      · obtain ⟨g1, _⟩ := hok b _ z
        obtain ⟨g2, _⟩ := hok' b _ (un.frzs b ob _ z)
        rw [e] at g1
        cases g1
        exact g2
  cases hk : K.lookup a with
  | some o =>
    have e := kin a o hk
    rw [ha] at e
    cases e
    exact core (fun _ => none) (fun _ => .inl rfl) (.inr ⟨_, vs.toArray, _, hk, rfl, rfl, rfl, by rw [List.size_toArray, lenV]; exact hl, by simpa using rv⟩) (fun b u z => nomatch (z : (none : Option HO) = some u)) (fun b z => absurd rfl z) fun z => absurd rfl z
  | none =>
    have at_a : ∀ {b : Addr} {u : HO}, (if b = a then some (HO.frz { cls := .type "list", data := .seq vs.toArray } (.lst (ns.map V.int))) else none) = some u → b = a ∧ u = HO.frz { cls := .type "list", data := .seq vs.toArray } (.lst (ns.map V.int)) := fun {b u} z => by
      by_cases hb : b = a
      · rw [if_pos hb] at z
        exact ⟨hb, (Option.some.inj z).symm⟩
      · rw [if_neg hb] at z
        cases z
    refine core (fun b => if b = a then some (.frz { cls := .type "list", data := .seq vs.toArray } (.lst (ns.map V.int))) else none) (fun b => ?_) (.inl (.inr ⟨{ cls := .type "list", data := .seq vs.toArray }, if_pos rfl⟩)) (fun b u z => ?_) (fun b z => ?_) fun _ => hk
    · by_cases hb : b = a
      · exact .inr ⟨_, _, if_pos hb⟩
      · exact .inl (if_neg hb)
    · obtain ⟨rfl, rfl⟩ := at_a z
      exact ⟨ha, by rw [List.length_map]; exact hl, vs, _, rv, ha⟩
    · by_cases hb : b = a
      · exact hb
      · exact absurd (if_neg hb) z
theorem walkG_of {l : PySem.W.OpenLaw} {n k : Nat} {q : Program} {loose : List Str} {XP : (Str → Option Value) → Heap → Prop} {YP : World → Heap → Prop} {d : DefRec} {K : Params → PySem.W.Frag} {CX : World → CXT} {sp : World → Sp} {x : Str}
    (hn : l.most = some n) (hn2 : n ≤ sizeLine) (hdf : d.params.defaults = []) (hr : Room k callerA) (hY : ∀ (w : World) (h : Heap), YP w h → (K w.params).In h)
    (F : ∀ (w : World) (mg : Str → Option Value) (fa : Addr) (h : Heap), (K w.params).In h → h.Ns mainGlobals mg → mg d.name = some (.ref fa) →
      ∃ fd : FuncData, (∀ (s : Shared) (u : Value), BindsTo s fd ⟨[u], []⟩ [(x, u)]) ∧ ∀ base : Heap, (K w.params).In base → base.Ns mainGlobals mg → FnG l.prog w (K w.params) mg base (CX w) k fa fd [x] (sp w))
    (hsp : ∀ (w : World) (H : Hp) (a : Addr) (ns : List Int), ns.length ≤ n → Only H → SqL (K w.params) H a (ns.map V.int) → sp w [.ref a] H (fun v _ => v = .bl true) fun _ _ _ => False)
    (hCX : ∀ (w : World) (H : Hp) (s : Shared) (e : Value) (s' : Shared), CX w [] H s (fun _ _ _ => False) e s' → False) :
    PySem.W.WalkO q loose XP YP l.row.toRowW d [] (fun f vs => PySem.call f vs) := by
  refine Att.attach_call hn hdf fun w s0 s1 mg mb fa o pm cd doc a vs ns G Y ho hd hcd hmg hobj hints hlen hg => ?_
  obtain ⟨fd, hb, hF⟩ := F w mg fa _ (hY w _ Y) G.T.g hmg
  exact lawG_call (hY w _ Y) G.T.g G.T.b G.T.builtins G.T.nolimit hg hobj hints (Nat.le_trans hlen hn2) hr hF hb (fun H hO hS => hsp w H a ns hlen hO hS) fun H e s' => hCX w H s1 e s'
/-- the law's own def, as the end wants it -/
theorem lawG_mk {l : PySem.W.OpenLaw} {w : World} {K : PySem.W.Frag} {h : Heap} {mg : Str → Option Value} {fa f2 : Addr} {st : Stmt} {x : Str} {k : Nat} {sp : Sp} (X : K.In h) (G : h.Ns mainGlobals mg) (hfa : mg "law" = some (.ref fa))
    {od2 an2 : Option Addr} {sl2 : Array (Option Value)} {oc2 kV2 dc2 pm2 cd2 ct2 : Value}
    (a2 : PySem.W.nsIn K mainGlobals "law" = some (some (.ref f2))) (l2 : K.lookup f2 = some ⟨oc2, od2, .func (PySem.W.fnOf "law" "law" (defArgs st) (defBody st) (defScope st) .none kV2 dc2 pm2 an2 cd2 ct2), sl2⟩) (c2 : PySem.W.codeIn K cd2 "law" = true) (k2 : PySem.W.keepIn K (.ref f2) = true)
    (hb : ∀ (s : Shared) (v : Value), BindsTo s (PySem.W.fnOf "law" "law" (defArgs st) (defBody st) (defScope st) .none kV2 dc2 pm2 an2 cd2 ct2) ⟨[v], []⟩ [(x, v)])
    (ok : ∀ (f : Addr) (fd : FuncData), Fun K "law" "law" st f fd → ∀ base : Heap, FnG l.prog w K mg base CX0 k f fd [x] sp) :
    ∃ fd : FuncData, (∀ (s : Shared) (u : Value), BindsTo s fd ⟨[u], []⟩ [(x, u)]) ∧ ∀ base : Heap, K.In base → base.Ns mainGlobals mg → FnG l.prog w K mg base CX0 k fa fd [x] sp := by
  have e := hfa.symm.trans (PySem.W.mg_of X G a2)
  cases e
  exact ⟨_, hb, fun base _ _ => ok _ _ (fun_mk l2 c2 k2) base⟩
theorem lawO_mk {l : PySem.W.OpenLaw} {w : World} {K : PySem.W.Frag} {h : Heap} {mg : Str → Option Value} {fa f2 : Addr} {st : Stmt} {x : Str} {k : Nat} {sp : Sp} (X : K.In h) (G : h.Ns mainGlobals mg) (hfa : mg "law" = some (.ref fa))
    {od2 an2 : Option Addr} {sl2 : Array (Option Value)} {oc2 kV2 dc2 pm2 cd2 ct2 : Value}
    (a2 : PySem.W.nsIn K mainGlobals "law" = some (some (.ref f2))) (l2 : K.lookup f2 = some ⟨oc2, od2, .func (PySem.W.fnOf "law" "law" (defArgs st) (defBody st) (defScope st) .none kV2 dc2 pm2 an2 cd2 ct2), sl2⟩) (c2 : PySem.W.codeIn K cd2 "law" = true) (k2 : PySem.W.keepIn K (.ref f2) = true)
    (hb : ∀ (s : Shared) (v : Value), BindsTo s (PySem.W.fnOf "law" "law" (defArgs st) (defBody st) (defScope st) .none kV2 dc2 pm2 an2 cd2 ct2) ⟨[v], []⟩ [(x, v)])
    (ok : ∀ (f : Addr) (fd : FuncData), Fun K "law" "law" st f fd → ∀ base : Heap, FnOk l.prog w K mg base CX0 k f fd [x] sp) :
    ∃ fd : FuncData, (∀ (s : Shared) (u : Value), BindsTo s fd ⟨[u], []⟩ [(x, u)]) ∧ ∀ base : Heap, K.In base → base.Ns mainGlobals mg → FnOk l.prog w K mg base CX0 k fa fd [x] sp := by
  have e := hfa.symm.trans (PySem.W.mg_of X G a2)
  cases e
  exact ⟨_, hb, fun base _ _ => ok _ _ (fun_mk l2 c2 k2) base⟩
end Sr
set_option Elab.async false
set_option linter.all false
set_option maxRecDepth 100000
set_option maxHeartbeats 4000000
/-! Sr6: comprehensions whose items are any values, displays of lists, loops over made lists, arguments of any kind. -/
namespace Sr
open PySem PySem.Spec PyProof.Rows L2 Evl

/-- all but D stays -/
def ExO (D : Addr) (H H' : Hp) : Prop := ∀ a o, a ≠ D → H a = some o → H' a = some o
theorem ExO.of {D : Addr} {H H' : Hp} (e : Ex H H') : ExO D H H' := fun a o _ h => e a o h
theorem ExO.trans {D : Addr} {H H1 H2 : Hp} (a : ExO D H H1) (b : ExO D H1 H2) : ExO D H H2 := fun x o n h => b x o n (a x o n h)
theorem ExO.upd {D : Addr} {H : Hp} {o : HO} : ExO D H (upd H D o) := fun a u n h => by rw [upd_ne n]; exact h

section
variable {K : PySem.W.Frag} {σ : L2.St} {H H' : Hp} {te : TE} {tt : TT}
/-- what is held of the items so far -/
structure CwP {α : Type} (E : Addr → α → V → Hp → Prop) (H : Hp) (zs : List α) (f : α → Bool) (D : Addr) (i : Nat) (H' : Hp) : Prop where
  new : H D = none
  ex : Ex H H'
  has : ∃ ys, H' D = some (.lst ys) ∧ ys.length = ((zs.take i).filter f).length ∧ ∀ (j : Nat) (z : α) (y : V), ((zs.take i).filter f)[j]? = some z → ys[j]? = some y → E D z y H'
theorem ep_lcW {α : Type} {wi : TI} {J : It} {G : Hp → Prop} {Y : Nat → Hp → V → Hp → Prop} {g : TG} {vs : List Nat} (E : Addr → α → V → Hp → Prop) (hE : ∀ D z v Ha Hb, E D z v Ha → ExO D Ha Hb → E D z v Hb)
    (zs : List α) (f : α → Bool) (hi : EvI wi σ H J G) (w : Walk J zs.length G Y) (hG : ∀ H1 H2, Ex H1 H2 → G H1 → G H2) (hz : zs.length ≤ 50000)
    (hs : ∀ (i : Nat) (z : α) (x : V) (H1 H2 : Hp), zs[i]? = some z → Ex H H1 → Y i H1 x H2 → ∃ σ2, Ex H1 H2 ∧ (∀ Q : L2.St → Hp → Prop, (∀ H3, Ex H2 H3 → Q σ2 H3) → g x (wipe σ vs) H2 Q) ∧ wipe σ2 vs = wipe σ vs ∧ EvT tt σ2 H1 (f z) ∧ (f z = true → ∀ D, H1 D ≠ none → EvP te σ2 H1 (fun _ v Hb => E D z v Hb))) :
    EvP (tLc wi g tt te vs) σ H (fun H1 v H2 => ∃ p ys, v = .ref p ∧ H1 p = none ∧ H2 p = some (.lst ys) ∧ ys.length = (zs.filter f).length ∧ ∀ (j : Nat) (z : α) (y : V), (zs.filter f)[j]? = some z → ys[j]? = some y → E p z y H2) := fun H0 e Q q => hi H0 e _ fun H1 e1 g1 D hD => by
  refine lc_it w (fun i H' => CwP E H1 zs f D i H') ⟨hD, Ex.new hD, [], upd_same, rfl, fun j z y h => by simp at h⟩ (fun i H' _ p => hG H1 H' p.ex g1) (fun i x Ha Hb hlt p y => ?_) (fun H' p => ?_)
  · obtain ⟨p1, p2, ys, p3, p4, p5⟩ := p
    have hz' : zs[i]? = some zs[i] := List.getElem?_eq_getElem hlt
    obtain ⟨σ2, eab, hg, hw, ht, he⟩ := hs i zs[i] x Ha Hb hz' ((e.trans e1).trans p2) y
    refine hg _ fun H3 e3 => ⟨hw, ?_⟩
    refine ht H3 (eab.trans e3) _ fun H4 e4 => ?_
    have ea4 : Ex Ha H4 := (eab.trans e3).trans e4
    cases hf : f zs[i] with
    | true =>
      show te σ2 H4 fun y H5 => ∃ acc, H5 D = some (.lst acc) ∧ acc.length < sizeLine ∧ CwP E H1 zs f D (i + 1) (upd H5 D (.lst (acc ++ [y])))
      refine he hf D (by rw [p3]; simp) H4 ea4 _ fun y H5 e5 hy => ⟨ys, e5 D _ (ea4 D _ p3), ?_, p1, Ex.mut ((p2.trans ea4).trans e5) p1, ys ++ [y], upd_same, ?_, fun j z y' hj hy' => ?_⟩
      · rw [p4]
        refine sz_lt (Nat.lt_of_le_of_lt (List.length_filter_le _ _) ?_)
        rw [List.length_take]
        omega
      · rw [take_snoc hz', List.filter_append, List.length_append, List.length_append, p4, List.filter_cons, if_pos hf]
        rfl
      · rw [take_snoc hz', List.filter_append, List.filter_cons, if_pos hf] at hj
        have ex5 : ExO D Ha (upd H5 D (.lst (ys ++ [y]))) := (ExO.of (ea4.trans e5)).trans ExO.upd
        by_cases hlj : j < ys.length
        · rw [List.getElem?_append_left (by rw [← p4]; exact hlj)] at hj
          rw [List.getElem?_append_left hlj] at hy'
          exact hE D z y' Ha _ (p5 j z y' hj hy') ex5
        · rw [List.getElem?_append_right (by rw [← p4]; omega)] at hj
          rw [List.getElem?_append_right (by omega)] at hy'
          have e0 : j - ys.length = 0 := by
            have := (List.getElem?_eq_some_iff.mp hy').1
            simp at this
            omega
          rw [e0] at hy'
          rw [← p4, e0] at hj
          cases hy'
          cases hj
          exact hE D _ _ H5 _ hy ExO.upd
    | false =>
      show CwP E H1 zs f D (i + 1) H4
      refine ⟨p1, p2.trans ea4, ys, ea4 D _ p3, ?_, fun j z y hj hy => ?_⟩
      · rw [take_snoc hz', List.filter_append, List.filter_cons, if_neg (by rw [hf]; decide), List.filter_nil, List.append_nil]
        exact p4
      · rw [take_snoc hz', List.filter_append, List.filter_cons, if_neg (by rw [hf]; decide), List.filter_nil, List.append_nil] at hj
        exact hE D z y Ha _ (p5 j z y hj hy) (ExO.of ea4)
  · obtain ⟨p1, p2, ys, p3, p4, p5⟩ := p
    rw [List.take_length] at p4 p5
    exact q _ H' (e1.trans p2) ⟨D, ys, rfl, fresh_back e1 p1, p3, p4, p5⟩
/-- over a list, the target a name, no test -/
theorem ep_m {α : Type} {a : Addr} {tl : TE} {j : Nat} {vs : List Nat} (E : Addr → α → V → Hp → Prop) (hE : ∀ D z v Ha Hb, E D z v Ha → ExO D Ha Hb → E D z v Hb) (zs : List α) (c : α → V) (h : Ev tl σ H (.ref a)) (hx : SqL K H a (zs.map c)) (hz : zs.length ≤ 50000)
    (hw : ∀ x, wipe ((wipe σ vs).set j (some x)) vs = wipe σ vs) (he : ∀ (i : Nat) (z : α) (H1 : Hp), zs[i]? = some z → Ex H H1 → ∀ D, H1 D ≠ none → EvP te ((wipe σ vs).set j (some (c z))) H1 (fun _ v Hb => E D z v Hb)) :
    EvP (tLc (iList K tl) (gName j) tYes te vs) σ H (fun H1 v H2 => ∃ p ys, v = .ref p ∧ H1 p = none ∧ H2 p = some (.lst ys) ∧ ys.length = zs.length ∧ ∀ (j : Nat) (z : α) (y : V), zs[j]? = some z → ys[j]? = some y → E p z y H2) := by
  have w := walk_list (K := K) (a := a) (xs := zs.map c)
  rw [List.length_map] at w
  have r := ep_lcW (tt := tYes) (te := te) (g := gName j) (vs := vs) E hE zs (fun _ => true) (ei_list h hx) w (fun _ _ e g => ex_l e g) hz fun i z x H1 H2 hi e y => by
    obtain ⟨rfl, hx'⟩ := y
    rw [List.getElem?_map, hi] at hx'
    have ex : c z = x := Option.some.inj hx'
    subst ex
    exact ⟨_, Ex.refl _, fun Q q => q _ (Ex.refl _), hw _, et_yes, fun _ D hD => he i z _ hi e D hD⟩
  rw [filt_true] at r
  exact r
/-- over enumerate(xs) of a list -/
theorem ep_mE {α : Type} {a : Addr} {tl : TE} {j k : Nat} {vs : List Nat} (E : Addr → α → V → Hp → Prop) (hE : ∀ D z v Ha Hb, E D z v Ha → ExO D Ha Hb → E D z v Hb) (zs : List α) (c : α → V) (h : Ev tl σ H (.ref a)) (hx : SqL K H a (zs.map c)) (hz : zs.length ≤ 50000)
    (hw : ∀ x y, wipe (((wipe σ vs).set j (some x)).set k (some y)) vs = wipe σ vs) (he : ∀ (i : Nat) (z : α) (H1 : Hp), zs[i]? = some z → Ex H H1 → ∀ D, H1 D ≠ none → EvP te (((wipe σ vs).set j (some (nv i))).set k (some (c z))) H1 (fun _ v Hb => E D z v Hb)) :
    EvP (tLc (iEnum K (tCons tl tNil)) (gTup K 2 (gCons (gName j) (gCons (gName k) gNil))) tYes te vs) σ H (fun H1 v H2 => ∃ p ys, v = .ref p ∧ H1 p = none ∧ H2 p = some (.lst ys) ∧ ys.length = zs.length ∧ ∀ (j : Nat) (z : α) (y : V), zs[j]? = some z → ys[j]? = some y → E p z y H2) := by
  have w := walk_enum (K := K) (a := a) (xs := zs.map c)
  rw [List.length_map] at w
  have r := ep_lcW (tt := tYes) (te := te) (g := gTup K 2 (gCons (gName j) (gCons (gName k) gNil))) (vs := vs) E hE zs (fun _ => true) (ei_enum h hx) w (fun _ _ e g => ex_l e g) hz fun i z x H1 H2 hi e y => by
    obtain ⟨T, x1, x2, rfl, nT, rfl, f1, f2⟩ := y
    have f2' : (zs.map c)[i]? = some x2 := f2
    rw [List.getElem?_map, hi] at f2'
    cases f1
    cases f2'
    exact ⟨_, Ex.new nT, fun Q q => ⟨T, [nv i, c z], rfl, st_of upd_same, rfl, _, [c z], rfl, c z, [], rfl, rfl, q _ (Ex.refl _)⟩, hw _ _, et_yes, fun _ D hD => he i z _ hi e D hD⟩
  rw [filt_true] at r
  exact r
/-- a source that is a new list: first it is made -/
theorem ep_newE {xs : List V} {tl : TE} {g : TG} {vs : List Nat} {P : Hp → V → Hp → Prop} (h : EvL tl σ H xs) (hP : ∀ H1 H2 v H3, Ex H1 H2 → P H2 v H3 → P H1 v H3)
    (k : ∀ a H1, Ex H H1 → H1 a = some (.lst xs) → EvP (tLc (iEnum K (tCons (tC (.ref a)) tNil)) g tt te vs) σ H1 P) : EvP (tLc (iEnum K (tCons tl tNil)) g tt te vs) σ H P :=
  fun H1 e Q q => h H1 e _ fun a H2 na e2 ha => k a H2 (e.trans e2) ha H2 (Ex.refl H2) Q fun v H3 e3 p => q v H3 (e2.trans e3) (hP H1 H2 v H3 e2 p)
/-- over range(n), no test -/
theorem ep_mR {ta : TE} {n j : Nat} {vs : List Nat} (E : Addr → Nat → V → Hp → Prop) (hE : ∀ D z v Ha Hb, E D z v Ha → ExO D Ha Hb → E D z v Hb) (h : Ev ta σ H (nv n)) (hn : n ≤ 50000)
    (hw : ∀ x, wipe ((wipe σ vs).set j (some x)) vs = wipe σ vs) (he : ∀ (i : Nat) (H1 : Hp), i < n → Ex H H1 → ∀ D, H1 D ≠ none → EvP te ((wipe σ vs).set j (some (nv i))) H1 (fun _ v Hb => E D i v Hb)) :
    EvP (tLc (iRng1 (tCons ta tNil)) (gName j) tYes te vs) σ H (fun H1 v H2 => ∃ p ys, v = .ref p ∧ H1 p = none ∧ H2 p = some (.lst ys) ∧ ys.length = n ∧ ∀ (j : Nat) (y : V), ys[j]? = some y → E p j y H2) := by
  have w : Walk (Itr 0 n) (List.range n).length (fun _ => True) (YFn fun i => .int ((0 : Int) + i)) := by rw [List.length_range]; exact walk_range
  have r := ep_lcW (tt := tYes) (te := te) (g := gName j) (vs := vs) E hE (List.range n) (fun _ => true) (ei_range1 h (by omega)) w (fun _ _ _ _ => trivial) (by simpa using hn) fun i z x H1 H2 hi e y => by
    obtain ⟨rfl, rfl⟩ := y
    have hlt : i < n := by
      obtain ⟨q, _⟩ := List.getElem?_eq_some_iff.mp hi
      simpa using q
    have ez : z = i := by
      rw [List.getElem?_range hlt] at hi
      exact (Option.some.inj hi).symm
    subst ez
    have e0 : (fun i : Nat => V.int ((0 : Int) + (i : Int))) z = nv z := by
      show V.int ((0 : Int) + (z : Int)) = .int (z : Int)
      rw [Int.zero_add]
    rw [e0]
    exact ⟨_, Ex.refl _, fun Q q => q _ (Ex.refl _), hw _, et_yes, fun _ D hD => he z _ hlt e D hD⟩
  rw [filt_true] at r
  refine r.imp fun H1 v H2 _ _ ⟨p, ys, h1, h2, h3, h4, h5⟩ => ⟨p, ys, h1, h2, h3, by rw [h4, List.length_range], fun j y hy => h5 j j y ?_ hy⟩
  rw [List.getElem?_range]
  have := (List.getElem?_eq_some_iff.mp hy).1
  rw [h4, List.length_range] at this
  exact this
/-- an item that is a new list -/
def NewRow {α : Type} (row : α → List V) : Addr → α → V → Hp → Prop := fun D z v H => ∃ r, v = .ref r ∧ r ≠ D ∧ H r = some (.lst (row z))
theorem newRow_st {α : Type} {row : α → List V} : ∀ D z v Ha Hb, NewRow row D z v Ha → ExO D Ha Hb → NewRow row D z v Hb := fun D z v Ha Hb ⟨r, h1, h2, h3⟩ e => ⟨r, h1, h2, e r _ h2 h3⟩
theorem EvL.newRow {α : Type} {row : α → List V} {z : α} {D : Addr} (h : EvL te σ H (row z)) (hD : H D ≠ none) : EvP te σ H (fun _ v Hb => NewRow row D z v Hb) :=
  fun H1 e Q q => h H1 e Q fun p H2 np e2 hp => q _ H2 e2 ⟨p, rfl, fun z => hD (by rw [← z]; exact fresh_back e np), hp⟩
/-- a plain item of which P holds -/
def Plain {α : Type} (P : α → V → Prop) : Addr → α → V → Hp → Prop := fun _ z v _ => P z v
theorem plain_st {α : Type} {P : α → V → Prop} : ∀ D z v Ha Hb, Plain P D z v Ha → ExO D Ha Hb → Plain P D z v Hb := fun _ _ _ _ _ h _ => h
/-- rows made by a comprehension: a list of lists of its own -/
theorem mw_of_rows {p : Addr} {ys : List V} {web : List (List Nat)} {H : Hp} (h1 : H p = some (.lst ys)) (h2 : ys.length = web.length) (h3 : ∀ (j : Nat) (z : List Nat) (y : V), web[j]? = some z → ys[j]? = some y → NewRow (fun row => row.map nv) p z y H) : ∃ as, MW p as web H := by
  have hy : ∀ (j : Nat) (y : V), ys[j]? = some y → ∃ r, y = .ref r := fun j y hj => by
    have hlt := (List.getElem?_eq_some_iff.mp hj).1
    obtain ⟨r, h, _⟩ := h3 j _ y (List.getElem?_eq_getElem (by omega)) hj
    exact ⟨r, h⟩
  have : ∃ as : List Addr, ys = as.map V.ref := by
    clear h1 h2 h3
    induction ys with
    | nil => exact ⟨[], rfl⟩
    | cons y t ih =>
      obtain ⟨as, e⟩ := ih fun j z hj => hy (j + 1) z hj
      obtain ⟨r, e'⟩ := hy 0 y rfl
      exact ⟨r :: as, by rw [e, e']; rfl⟩
  obtain ⟨as, rfl⟩ := this
  rw [List.length_map] at h2
  refine ⟨as, h1, h2, fun j r row ha hr => ?_⟩
  obtain ⟨r', h, hn, hh⟩ := h3 j row (.ref r) hr (by rw [List.getElem?_map, ha]; rfl)
  cases h
  exact ⟨hn, hh⟩
/-- [list(r) for r in web] -/
theorem ep_copy {a : Addr} {web : List (List Nat)} {tl : TE} {j : Nat} {vs : List Nat} (h : Ev tl σ H (.ref a)) (hx : LL K H a web) (hz : web.length ≤ 1000) (hw : ∀ x, wipe ((wipe σ vs).set j (some x)) vs = wipe σ vs) (hj : j < σ.length) :
    EvP (tLc (iList K tl) (gName j) tYes (tCB (rListS K) (tCons (tVar j) tNil)) vs) σ H (fun H1 v H2 => ∃ p as, v = .ref p ∧ H1 p = none ∧ MW p as web H2) := by
  obtain ⟨as, h1, h2, h3⟩ := hx
  have r := ep_m (K := K) (te := tCB (rListS K) (tCons (tVar j) tNil)) (vs := vs) (j := j) (NewRow (fun z : Addr × List Nat => z.2.map nv)) newRow_st (as.zip web) (fun z => .ref z.1) h (by
      rw [show (as.zip web).map (fun z => V.ref z.1) = ((as.zip web).map Prod.fst).map V.ref by rw [List.map_map]; rfl, List.map_fst_zip (by omega)]
      exact h1) (by rw [List.length_zip]; omega) hw fun i z H1 hi e D hD => by
    rw [List.getElem?_zip_eq_some] at hi
    have hv : Ev (tVar j) ((wipe σ vs).set j (some (.ref z.1))) H1 (.ref z.1) := ev_var (List.getElem?_set_self (by rw [wipe_length]; exact hj))
    exact EvL.newRow (row := fun z : Addr × List Nat => z.2.map nv) (el_list hv (ex_l e (h3 i z.1 z.2 hi.1 hi.2))) hD
  refine r.imp fun H1 v H2 _ _ ⟨p, ys, g1, g2, g3, g4, g5⟩ => ?_
  rw [List.length_zip] at g4
  obtain ⟨as', m⟩ := mw_of_rows (web := web) g3 (by omega) fun k row y hk hy => by
    have hlt := (List.getElem?_eq_some_iff.mp hk).1
    have hak : as[k]? = some (as[k]'(by omega)) := List.getElem?_eq_getElem _
    obtain ⟨r, e1, e2, e3⟩ := g5 k (as[k]'(by omega), row) y (List.getElem?_zip_eq_some.mpr ⟨hak, hk⟩) hy
    exact ⟨r, e1, e2, e3⟩
  exact ⟨p, as', g1, g2, m⟩
end

/-! ### displays of lists, arguments of any kind -/
section
variable {K : PySem.W.Frag} {σ : L2.St} {H H' : Hp} {ta tb tc te tx : TE} {t u : TT} {x y z v : V} {r : R2} {D : Ends} {tu tz : TS} {g : TG}
theorem eap_cons {tr : TA} {P1 : Hp → V → Hp → Prop} {P2 : Hp → List V → Hp → Prop} (h : EvP te σ H P1) (hr : EvAP tr σ H P2) : EvAP (tCons te tr) σ H (fun H1 vs H3 => ∃ v r Hm, vs = v :: r ∧ Ex H1 Hm ∧ Ex Hm H3 ∧ P1 H1 v Hm ∧ P2 Hm r H3) :=
  fun H1 e Q q => h H1 e _ fun v H2 e2 p1 => hr H2 (e.trans e2) _ fun r H3 e3 p2 => q _ H3 (e2.trans e3) ⟨v, r, H2, rfl, e2, e3, p1, p2⟩
theorem ep_lstP {ta : TA} {P : Hp → List V → Hp → Prop} (h : EvAP ta σ H P) (hl : ∀ H1 vs H2, P H1 vs H2 → vs.length ≤ 100000) : EvP (tLst ta) σ H (fun H1 v H2 => ∃ p vs Hm, v = .ref p ∧ Hm p = none ∧ Ex H1 Hm ∧ P H1 vs Hm ∧ H2 = upd Hm p (.lst vs)) :=
  fun H1 e Q q => h H1 e _ fun vs H2 e2 p => ⟨sz_of (hl H1 vs H2 p), fun a na => q _ _ (e2.trans (Ex.new na)) ⟨a, vs, H2, rfl, na, e2, p, rfl⟩⟩
theorem rv_isN : RV (fun x y H Q => y = .non ∧ Q (.bl (decide (x = .non))) H) x .non H (.bl (decide (x = .non))) := fun H1 _ _ q => ⟨rfl, q H1 (Ex.refl H1)⟩
theorem rv_notN : RV (fun x y H Q => y = .non ∧ Q (.bl (!decide (x = .non))) H) x .non H (.bl (!decide (x = .non))) := fun H1 _ _ q => ⟨rfl, q H1 (Ex.refl H1)⟩
theorem inV_int (j : Int) (row : List Nat) : inV (.int j) (row.map nv) = decide (0 ≤ j ∧ j.toNat ∈ row) := by
  by_cases h : 0 ≤ j
  · have e : (V.int j) = nv j.toNat := by show V.int j = V.int _; rw [Int.toNat_of_nonneg h]
    rw [e, inV_nat]
    congr 1
    simp [h]
  · rw [decide_eq_false (fun z => h z.1)]
    unfold inV
    rw [List.any_map, List.any_eq_false]
    intro x _
    show ¬ ((x : Int) == j) = true
    rw [beq_iff_eq]
    omega
def sp_law (K : PySem.W.Frag) : Sp := fun vs H Q _ => ∃ (a : Addr) (xs : List Int), vs = [.ref a] ∧ SqL K H a (xs.map V.int) ∧ xs.length ≤ 63 ∧ ∀ H', Q (.bl true) H'
/-- rows as arguments: each new, no two the same -/
def EvRows (ta : TA) (σ : L2.St) (H : Hp) (rows : List (List Nat)) : Prop :=
  EvAP ta σ H (fun H1 vs H2 => ∃ as : List Addr, vs = as.map V.ref ∧ as.length = rows.length ∧ as.Nodup ∧ ∀ (i : Nat) (r : Addr) (row : List Nat), as[i]? = some r → rows[i]? = some row → H1 r = none ∧ H2 r = some (.lst (row.map nv)))
theorem er_nil : EvRows tNil σ H [] := fun H1 _ _ q => q [] H1 (Ex.refl H1) ⟨[], rfl, rfl, List.nodup_nil, fun i r row h => by simp at h⟩
theorem er_cons {tr : TA} {row : List Nat} {rows : List (List Nat)} (h : EvL te σ H (row.map nv)) (hr : EvRows tr σ H rows) : EvRows (tCons te tr) σ H (row :: rows) := fun H1 e Q q =>
  h H1 e _ fun p H2 np e2 hp => hr H2 (e.trans e2) _ fun vs H3 e3 ⟨as, h1, h2, h3, h4⟩ => q _ H3 (e2.trans e3) ⟨p :: as, by rw [h1]; rfl, by rw [List.length_cons, List.length_cons, h2], (by
      refine List.nodup_cons.mpr ⟨fun hm => ?_, h3⟩
      obtain ⟨i, hi, hip⟩ := List.getElem_of_mem hm
      have := (h4 i p (rows[i]'(by omega)) (by rw [List.getElem?_eq_getElem hi, hip]) (List.getElem?_eq_getElem _)).1
      rw [hp] at this
      cases this), fun i r row' ha hb => by
      cases i with
      | zero =>
        cases ha
        cases hb
        exact ⟨np, e3 _ _ hp⟩
      | succ i =>
        obtain ⟨q1, q2⟩ := h4 i r row' ha hb
        exact ⟨fresh_back e2 q1, q2⟩⟩
/-- [[..], [..], ..] -/
theorem ew_disp {ta : TA} {rows : List (List Nat)} (h : EvRows ta σ H rows) (hl : rows.length ≤ 1000) : EvP (tLst ta) σ H (fun H1 v H2 => ∃ p as, v = .ref p ∧ H1 p = none ∧ MW p as rows H2 ∧ as.Nodup ∧ ∀ r ∈ as, H1 r = none) := fun H1 e Q q => h H1 e _ fun vs H2 e2 ⟨as, h1, h2, h3, h4⟩ => by
  subst h1
  refine ⟨sz_of (by rw [List.length_map]; omega), fun p hp => q _ _ (e2.trans (Ex.new hp)) ⟨p, as, rfl, fresh_back e2 hp, ⟨upd_same, h2, fun j r row ha hb => ?_⟩, h3, fun r hr => ?_⟩⟩
  · obtain ⟨q1, q2⟩ := h4 j r row ha hb
    have ne : r ≠ p := ne_of_none q2 hp
    exact ⟨ne, by rw [upd_ne ne]; exact q2⟩
  · obtain ⟨i, hi, hir⟩ := List.getElem_of_mem hr
    exact (h4 i r (rows[i]'(by omega)) (by rw [List.getElem?_eq_getElem hi, hir]) (List.getElem?_eq_getElem _)).1
/-- a for over a made list of any items -/
theorem s_forPL {C : List V → Prop} {tl : TE} {j : Nat} (h : EvP tl σ H (fun _ v H2 => ∃ p ys, C ys ∧ v = .ref p ∧ H2 p = some (.lst ys))) (Pv : Addr → List V → Nat → L2.St → Hp → Prop) (h0 : ∀ p ys H1, Ex H H1 → C ys → H1 p = some (.lst ys) → Pv p ys 0 σ H1) (hl : ∀ p ys i σ' H', i ≤ ys.length → Pv p ys i σ' H' → SqL K H' p ys)
    (hs : ∀ p ys i x σ' H', C ys → ys[i]? = some x → Pv p ys i σ' H' → tu { D with nx := Pv p ys (i + 1), ct := Pv p ys (i + 1), bk := D.nx } (σ'.set j (some x)) H') (hd : ∀ p ys σ' H', C ys → Pv p ys ys.length σ' H' → D.nx σ' H') : tFor (iList K tl) (gName j) tu D σ H :=
  h H (Ex.refl H) _ fun v H1 e ⟨p, ys, hc, hv, h1⟩ => by
    subst hv
    exact ⟨p, rfl, ⟨ys, sq_of h1⟩, for_list (Pv p ys) (h0 p ys H1 e hc h1) (hl p ys) (fun i x σ' H' hi pv => hs p ys i x σ' H' hc hi pv) (hd p ys · · hc)⟩
/-- for x in range(lo, hi) -/
theorem s_forRng {lo hi : Int} {j : Nat} (h : Ev ta σ H (.int lo)) (h' : Ev tb σ H (.int hi)) (hl : -100000 ≤ lo ∧ lo ≤ 100000 ∧ -100000 ≤ hi ∧ hi ≤ 100000) (Pv : Nat → L2.St → Hp → Prop) (h0 : ∀ H1, Ex H H1 → Pv 0 σ H1)
    (hs : ∀ i σ' H', i < (hi - lo).toNat → Pv i σ' H' → tu { D with nx := Pv (i + 1), ct := Pv (i + 1), bk := D.nx } (σ'.set j (some (.int (lo + (i : Int))))) H') (hd : ∀ σ' H', Pv (hi - lo).toNat σ' H' → D.nx σ' H') : tFor (iRng2 (tCons ta (tCons tb tNil))) (gName j) tu D σ H := by
  refine s_forW (ei_range2 h h' hl) walk_range Pv (fun H1 e _ => h0 H1 e) (fun _ _ _ _ _ => trivial) (fun i x σ' H1 H' hi p y => ?_) hd
  obtain ⟨rfl, rfl⟩ := y
  exact hs i σ' H' hi p
/-- pushed(..) where there is such a push -/
theorem el_pushed {C : Addr} {ta : TA} {PA : Hp → List V → Hp → Prop} {st' : List Nat} (h : EvAP ta σ H PA)
    (hA : ∀ H1 vs H2, Ex H H1 → Ex H1 H2 → PA H1 vs H2 → ∃ (a b : Addr) (web : List (List Nat)) (st : List Nat) (s p : V), vs = [.ref a, .ref b, s, p] ∧ LL K H2 a web ∧ H2 b = some (.lst (st.map nv)) ∧ Ok60 web ∧ OkSt web st ∧ Typ K H2 s ∧ Typ K H2 p ∧ pushM web st s p = some st') :
    EvL (tCall (sp_pushed K C) [] E0 ta) σ H (st'.map nv) := fun H1 e Q q => h H1 e _ fun vs H2 e2 pa => by
  obtain ⟨a, b, web, st, s, p, rfl, h1, h2, h3, h4, h5, h6, h7⟩ := hA H1 vs H2 e e2 pa
  exact ⟨a, b, web, st, s, p, rfl, h1, sq_of h2, h2, h3, h4, h5, h6, fun st2 hp q' H' nq e3 hq => by
    rw [h7] at hp
    cases hp
    exact q q' H' (fresh_back e2 nq) (e2.trans e3) hq, fun hp => by rw [h7] at hp; cases hp⟩
end

/-! ### how long data is shown -/
theorem textFrom_le : ∀ (ts : List Str) (m : Nat) (k : Nat) (acc : Str), (∀ t ∈ ts, t.length ≤ m) → (textFrom k acc ts).length ≤ acc.length + ts.length * (m + 2)
  | [], m, k, acc, _ => by show acc.length ≤ acc.length + 0 * _; omega
  | t :: r, m, k, acc, h => by
    have ih := textFrom_le r m (k + 1) (acc ++ (if k > 0 then ", " else "" : String) ++ t) fun x hx => h x (List.mem_cons_of_mem _ hx)
    have ht := h t (List.mem_cons_self ..)
    have e : (acc ++ (if k > 0 then ", " else "" : String) ++ t).length = acc.length + (if k > 0 then 2 else 0) + t.length := by
      rw [strLen_append, strLen_append]
      split <;> rfl
    have e2 : (if k > 0 then 2 else 0) ≤ 2 := by split <;> omega
    show (textFrom (k + 1) (acc ++ (if k > 0 then ", " else "" : String) ++ t) r).length ≤ acc.length + (r.length + 1) * (m + 2)
    rw [Nat.add_mul]
    omega
theorem listText_le {ts : List Str} {m : Nat} (h : ∀ t ∈ ts, t.length ≤ m) : (listText ts).length ≤ 2 + ts.length * (m + 2) := by
  have := textFrom_le ts m 0 "[" h
  show (textFrom 0 "[" ts ++ "]").length ≤ _
  rw [strLen_append]
  have e1 : Str.length ("[" : Str) = 1 := rfl
  have e2 : Str.length ("]" : Str) = 1 := rfl
  omega
/-- what may be shown: within m signs -/
structure Shw (m : Nat) (d : PyData) : Prop where
  ok : d.showable = true
  nod : d.hasDict = false
  le : d.shown.length ≤ m
theorem shownAll_mem : ∀ {ds : List PyData} {t : Str}, t ∈ PyData.shownAll ds → ∃ d ∈ ds, t = d.shown
  | [], t, h => by simp [PyData.shownAll] at h
  | d :: r, t, h => by
    rw [PyData.shownAll, List.mem_cons] at h
    rcases h with h | h
    · exact ⟨d, List.mem_cons_self .., h⟩
    · obtain ⟨x, hx, e⟩ := shownAll_mem h
      exact ⟨x, List.mem_cons_of_mem _ hx, e⟩
theorem shownAll_len : ∀ ds : List PyData, (PyData.shownAll ds).length = ds.length
  | [] => by rw [PyData.shownAll]; rfl
  | d :: r => by rw [PyData.shownAll, List.length_cons, List.length_cons, shownAll_len r]
theorem shwAll {m : Nat} : ∀ {ds : List PyData}, (∀ d ∈ ds, Shw m d) → PyData.showableAll ds = true ∧ PyData.hasDictAll ds = false
  | [], _ => ⟨by rw [PyData.showableAll], by rw [PyData.hasDictAll]⟩
  | d :: r, h => by
    have h1 := h d (List.mem_cons_self ..)
    have h2 := shwAll (ds := r) fun x hx => h x (List.mem_cons_of_mem _ hx)
    exact ⟨by rw [PyData.showableAll, h1.ok, h2.1]; rfl, by rw [PyData.hasDictAll, h1.nod, h2.2]; rfl⟩
theorem shw_list {m n : Nat} {ds : List PyData} (h : ∀ d ∈ ds, Shw m d) (hl : ds.length ≤ n) : Shw (2 + n * (m + 2)) (.list ds) := by
  obtain ⟨h1, h2⟩ := shwAll h
  refine ⟨by rw [PyData.showable]; exact h1, by rw [PyData.hasDict]; exact h2, ?_⟩
  rw [PyData.shown]
  refine Nat.le_trans (listText_le (m := m) fun t ht => ?_) ?_
  · obtain ⟨d, hd, rfl⟩ := shownAll_mem ht
    exact (h d hd).le
  · rw [shownAll_len]
    have := Nat.mul_le_mul_right (m + 2) hl
    omega
theorem shw_nat {n : Nat} (h : n < 100) : Shw 9 (.int (n : Int)) := by
  have hall : ∀ n : Nat, n < 100 → (PyData.int (n : Int)).showable = true ∧ (PyData.int (n : Int)).shown.length ≤ 9 := by decide +kernel
  exact ⟨(hall n h).1, rfl, (hall n h).2⟩
theorem shw_none : Shw 9 .none := ⟨rfl, rfl, by decide +kernel⟩
theorem shw_bool (b : Bool) : Shw 9 (.bool b) := by cases b <;> exact ⟨rfl, rfl, by decide +kernel⟩
section
variable {K : PySem.W.Frag} {σ : L2.St} {H H' : Hp} {ta te : TE}
/-- str(x) of data at an address; of a new list -/
theorem ev_str {a : Addr} {d : PyData} {m k : Nat} (ha : Ev ta σ H (.ref a)) (hd : Dp K H (.ref a) d) (hs : Shw m d) (hk : Sh k d) (hm : m ≤ 100000 := by decide) (hk2 : k ≤ 60 := by decide) : Ev (tCB (rStrD K) (tCons ta tNil)) σ H (.str d.shown) :=
  ev_cb (ea_cons ha ea_nil) fun H1 e _ q => ⟨a, d, rfl, Dp.mono e hd, hs.ok, hs.nod, Nat.le_trans hk.2 hk2, sz_of (Nat.le_trans hs.le hm), q H1 (Ex.refl H1)⟩
theorem ev_strP {P : Hp → V → Hp → Prop} {d : PyData} {m k : Nat} (h : EvP te σ H P) (hd : ∀ H1 v H2, Ex H H1 → Ex H1 H2 → P H1 v H2 → ∃ a, v = .ref a ∧ Dp K H2 (.ref a) d) (hs : Shw m d) (hk : Sh k d) (hm : m ≤ 100000 := by decide) (hk2 : k ≤ 60 := by decide) : Ev (tCB (rStrD K) (tCons te tNil)) σ H (.str d.shown) :=
  fun H1 e Q q => h H1 e _ fun v H2 e2 p => by
    obtain ⟨a, rfl, hdp⟩ := hd H1 v H2 e e2 p
    exact ⟨a, d, rfl, hdp, hs.ok, hs.nod, Nat.le_trans hk.2 hk2, sz_of (Nat.le_trans hs.le hm), q H2 e2⟩
end
theorem shw_dI {xs : List Nat} {n : Nat} (h : ∀ x ∈ xs, x < 100) (hl : xs.length ≤ n) : Shw (2 + n * 11) (dI xs) := by
  refine shw_list (m := 9) (fun d hd => ?_) (by rw [List.length_map]; exact hl)
  obtain ⟨x, hx, rfl⟩ := List.mem_map.mp hd
  exact shw_nat (h x hx)
end Sr
set_option linter.all false
set_option maxHeartbeats 1000000
/-! SrM1: the mathematics of giving: labels given one by one, in turns; lost and won; ends. -/
namespace Sr

/-! ### values given to places one by one -/
section
variable {α : Type}
def giv (r : List (Option α) → Nat → Option α) (s : List (Option α)) (p : Nat) : List (Option α) :=
  match s[p]? with
  | some none => (match r s p with | some v => s.set p (some v) | none => s)
  | _ => s
def go (r : List (Option α) → Nat → Option α) (ps : List Nat) (s : List (Option α)) : List (Option α) := ps.foldl (giv r) s
def iter (r : List (Option α) → Nat → Option α) (ps : List Nat) : Nat → List (Option α) → List (Option α)
  | 0, s => s
  | k + 1, s => iter r ps k (go r ps s)
def cnt (s : List (Option α)) : Nat := s.countP (·.isNone)
/-- what is given stays -/
structure Grown (s t : List (Option α)) : Prop where
  len : t.length = s.length
  kept : ∀ (p : Nat) (v : α), s[p]? = some (some v) → t[p]? = some (some v)
theorem Grown.refl (s : List (Option α)) : Grown s s := ⟨rfl, fun _ _ h => h⟩
theorem Grown.trans {s t u : List (Option α)} (a : Grown s t) (b : Grown t u) : Grown s u := ⟨b.len.trans a.len, fun p v h => b.kept p v (a.kept p v h)⟩
variable {r : List (Option α) → Nat → Option α} {s : List (Option α)} {p : Nat}
theorem giv_set {v : α} (h : s[p]? = some none) (hr : r s p = some v) : giv r s p = s.set p (some v) := by
  unfold giv
  rw [h]
  dsimp only
  rw [hr]
theorem giv_no (h : s[p]? = some none → r s p = none) : giv r s p = s := by
  unfold giv
  split
  · rename_i h1
    rw [h h1]
  · rfl
/-- either nothing happens, or p gets its value -/
theorem giv_cases (r : List (Option α) → Nat → Option α) (s : List (Option α)) (p : Nat) : giv r s p = s ∨ ∃ v, s[p]? = some none ∧ r s p = some v ∧ giv r s p = s.set p (some v) := by
  by_cases h : s[p]? = some none
  · cases hr : r s p with
    | none => exact .inl (giv_no fun _ => hr)
    | some v => exact .inr ⟨v, h, rfl, giv_set h hr⟩
  · exact .inl (giv_no fun z => absurd z h)
theorem set_grown {v : α} (h : s[p]? = some none) : Grown s (s.set p (some v)) := ⟨List.length_set, fun q w hq => by
  by_cases e : p = q
  · subst e
    rw [h] at hq
    cases hq
  · rw [List.getElem?_set_ne e]
    exact hq⟩
theorem giv_grown : Grown s (giv r s p) := by
  rcases giv_cases r s p with h | ⟨v, h1, _, h3⟩
  · rw [h]
    exact Grown.refl s
  · rw [h3]
    exact set_grown h1
theorem go_grown : ∀ (ps : List Nat) (s : List (Option α)), Grown s (go r ps s)
  | [], s => Grown.refl s
  | p :: ps, s => (giv_grown (p := p)).trans (go_grown ps _)
theorem set_cnt {v : α} (h : s[p]? = some none) : cnt (s.set p (some v)) + 1 = cnt s := by
  obtain ⟨hlt, he⟩ := List.getElem?_eq_some_iff.mp h
  unfold cnt
  rw [List.countP_set hlt, he]
  have h1 : 0 < s.countP (·.isNone) := List.countP_pos_iff.mpr ⟨s[p], List.getElem_mem hlt, by rw [he]; rfl⟩
  simp only [Option.isNone_none, Option.isNone_some, if_true]
  have e0 : (if false = true then 1 else 0) = 0 := rfl
  rw [e0]
  omega
theorem go_cnt : ∀ (ps : List Nat) (s : List (Option α)), cnt (go r ps s) ≤ cnt s
  | [], s => Nat.le_refl _
  | p :: ps, s => by
    have ih := go_cnt ps (giv r s p)
    show cnt (go r ps (giv r s p)) ≤ cnt s
    rcases giv_cases r s p with h | ⟨v, h1, _, h3⟩
    · rw [h] at ih ⊢
      exact ih
    · rw [h3] at ih ⊢
      have := set_cnt (v := v) h1
      omega
theorem go_less : ∀ (ps : List Nat) (s : List (Option α)), go r ps s = s ∨ cnt (go r ps s) < cnt s
  | [], s => .inl rfl
  | p :: ps, s => by
    show go r ps (giv r s p) = s ∨ cnt (go r ps (giv r s p)) < cnt s
    rcases giv_cases r s p with h | ⟨v, h1, _, h3⟩
    · rw [h]
      exact go_less ps s
    · have := go_cnt (r := r) ps (giv r s p)
      have := set_cnt (v := v) h1
      rw [h3] at *
      exact .inr (by omega)
/-- nothing more can be given -/
def Fixed (r : List (Option α) → Nat → Option α) (ps : List Nat) (s : List (Option α)) : Prop := ∀ p ∈ ps, s[p]? = some none → r s p = none
theorem go_fixed : ∀ (ps : List Nat) (s : List (Option α)), go r ps s = s → Fixed r ps s
  | [], s, _ => fun _ h => nomatch h
  | p :: ps, s, h => by
    have h' : go r ps (giv r s p) = s := h
    rcases giv_cases r s p with e | ⟨v, h1, _, h3⟩
    · rw [e] at h'
      intro q hq hn
      rcases List.mem_cons.mp hq with rfl | hq
      · cases hr : r s q with
        | none => rfl
        | some v =>
          rw [giv_set hn hr] at e
          have := set_cnt (v := v) hn
          rw [e] at this
          omega
      · exact go_fixed ps s h' q hq hn
    · have := go_cnt (r := r) ps (giv r s p)
      have := set_cnt (v := v) h1
      rw [h', h3] at *
      omega
theorem fixed_go {ps : List Nat} (h : Fixed r ps s) : go r ps s = s := by
  unfold go
  induction ps with
  | nil => rfl
  | cons p ps ih =>
    rw [List.foldl_cons, giv_no fun hn => h p (List.mem_cons_self ..) hn]
    exact ih fun q hq => h q (List.mem_cons_of_mem _ hq)
theorem iter_fixed {ps : List Nat} : ∀ (k : Nat) (s : List (Option α)), cnt s ≤ k → Fixed r ps (iter r ps k s)
  | 0, s, h => fun p _ hn => by
    have hn : s[p]? = some none := hn
    obtain ⟨hlt, he⟩ := List.getElem?_eq_some_iff.mp hn
    have h1 : 0 < s.countP (·.isNone) := List.countP_pos_iff.mpr ⟨s[p], List.getElem_mem hlt, by rw [he]; rfl⟩
    have : cnt s = s.countP (·.isNone) := rfl
    omega
  | k + 1, s, h => by
    rcases go_less (r := r) ps s with e | e
    · have hf := go_fixed ps s e
      have hi : ∀ k, iter r ps k s = s := fun k => by
        induction k with
        | zero => rfl
        | succ k ih =>
          show iter r ps k (go r ps s) = s
          rw [e]
          exact ih
      rw [hi]
      exact hf
    · exact iter_fixed k (go r ps s) (by omega)
/-- what each giving keeps holds behind all -/
theorem go_keeps {I : List (Option α) → Prop} (hI : ∀ s p v, I s → s[p]? = some none → r s p = some v → I (s.set p (some v))) : ∀ (ps : List Nat) (s : List (Option α)), I s → I (go r ps s)
  | [], s, h => h
  | p :: ps, s, h => by
    refine go_keeps hI ps _ ?_
    rcases giv_cases r s p with e | ⟨v, h1, h2, h3⟩
    · rw [e]; exact h
    · rw [h3]; exact hI s p v h h1 h2
theorem iter_keeps {I : List (Option α) → Prop} {ps : List Nat} (hI : ∀ s p v, I s → s[p]? = some none → r s p = some v → I (s.set p (some v))) : ∀ (k : Nat) (s : List (Option α)), I s → I (iter r ps k s)
  | 0, s, h => h
  | k + 1, s, h => iter_keeps hI k _ (go_keeps hI ps s h)
theorem iter_grown {ps : List Nat} : ∀ (k : Nat) (s : List (Option α)), Grown s (iter r ps k s)
  | 0, s => Grown.refl s
  | k + 1, s => (go_grown ps s).trans (iter_grown k _)
theorem cnt_le (s : List (Option α)) : cnt s ≤ s.length := List.countP_le_length
theorem iter_succ {ps : List Nat} : ∀ (k : Nat) (s : List (Option α)), iter r ps (k + 1) s = go r ps (iter r ps k s)
  | 0, s => rfl
  | k + 1, s => iter_succ k (go r ps s)
end

/-! ### lost and won -/
/-- true: lost, false: won -/
inductive Lab {τ : Type} (nx : τ → List τ) : τ → Bool → Prop
  | lost (p : τ) : (∀ o ∈ nx p, Lab nx o false) → Lab nx p true
  | won (p o : τ) : o ∈ nx p → Lab nx o true → Lab nx p false
theorem Lab.one {τ : Type} {nx : τ → List τ} {p : τ} {b : Bool} (h : Lab nx p b) : ¬ Lab nx p (!b) := by
  induction h with
  | lost p h ih =>
    intro hw
    cases hw with
    | won _ o ho hl => exact ih o ho hl
  | won p o ho hl ih =>
    intro hw
    cases hw with
    | lost _ h2 => exact ih (h2 o ho)
theorem Lab.ne {τ : Type} {nx : τ → List τ} {p : τ} (h : Lab nx p true) (h2 : Lab nx p false) : False := h.one h2

abbrev Webs := List (List Nat)
def roads (web : Webs) (p : Nat) : List Nat := web.getD p []
/-- every road leads to a place -/
def InR (web : Webs) : Prop := ∀ p o, o ∈ roads web p → o < web.length
theorem roads_out {web : Webs} {p : Nat} (h : web.length ≤ p) : roads web p = [] := by
  unfold roads
  rw [List.getD_eq_getElem?_getD, List.getElem?_eq_none h]
  rfl

/-! ### words, place by place -/
def wordR (web : Webs) (s : List (Option Bool)) (p : Nat) : Option Bool :=
  if (roads web p).all (fun o => s.getD o none == some false) then some true else if (roads web p).any (fun o => s.getD o none == some true) then some false else none
def wordsM (web : Webs) : List (Option Bool) := iter (wordR web) (List.range web.length) web.length (List.replicate web.length none)
theorem getD_of {α : Type} {s : List (Option α)} {p : Nat} {x : Option α} (h : s[p]? = some x) : s.getD p none = x := by
  rw [List.getD_eq_getElem?_getD, h]
  rfl
theorem of_getD {α : Type} {s : List (Option α)} {p : Nat} {v : α} (h : s.getD p none = some v) : s[p]? = some (some v) := by
  rw [List.getD_eq_getElem?_getD] at h
  cases hs : s[p]? with
  | none => rw [hs] at h; cases h
  | some x =>
    rw [hs] at h
    rw [show x = some v from h]
theorem words_len (web : Webs) : (wordsM web).length = web.length := by
  have := (iter_grown (r := wordR web) (ps := List.range web.length) web.length (List.replicate web.length none)).len
  rw [List.length_replicate] at this
  exact this
theorem words_sound {web : Webs} {p : Nat} {b : Bool} (h : (wordsM web)[p]? = some (some b)) : Lab (roads web) p b := by
  have hI := iter_keeps (r := wordR web) (ps := List.range web.length) (I := fun s => ∀ p b, s[p]? = some (some b) → Lab (roads web) p b) (fun s q v hs hq hr p b hp => by
    by_cases e : q = p
    · subst e
      rw [List.getElem?_set_self (List.getElem?_eq_some_iff.mp hq).1] at hp
      have hv : v = b := Option.some.inj (Option.some.inj hp)
      subst hv
      unfold wordR at hr
      split at hr
      · rename_i h1
        cases hr
        refine .lost q fun o ho => ?_
        have := List.all_eq_true.mp h1 o ho
        exact hs o false (of_getD (eq_of_beq this))
      · split at hr
        · rename_i h1
          cases hr
          obtain ⟨o, ho, h2⟩ := List.any_eq_true.mp h1
          exact .won q o ho (hs o true (of_getD (eq_of_beq h2)))
        · cases hr
    · rw [List.getElem?_set_ne e] at hp
      exact hs p b hp) web.length (List.replicate web.length none) (fun p b hp => by
        rw [List.getElem?_replicate] at hp
        split at hp <;> cases hp)
  exact hI p b h
theorem words_full {web : Webs} (hw : InR web) {p : Nat} {b : Bool} (hp : p < web.length) (h : Lab (roads web) p b) : (wordsM web)[p]? = some (some b) := by
  have hfix : Fixed (wordR web) (List.range web.length) (wordsM web) := iter_fixed web.length _ (by
    have := cnt_le (List.replicate web.length (none : Option Bool))
    rw [List.length_replicate] at this
    exact this)
  have hlen := words_len web
  induction h with
  | lost p h ih =>
    have hlt : p < (wordsM web).length := by omega
    cases hx : (wordsM web)[p]? with
    | none => rw [List.getElem?_eq_none_iff] at hx; omega
    | some x =>
      cases x with
      | some b =>
        cases b with
        | true => rfl
        | false => exact absurd (words_sound hx) (Lab.one (b := true) (.lost p h))
      | none =>
        have hr := hfix p (List.mem_range.mpr hp) hx
        unfold wordR at hr
        rw [if_pos (List.all_eq_true.mpr fun o ho => by
          rw [getD_of (ih o ho (hw p o ho))]
          rfl)] at hr
        cases hr
  | won p o ho hl ih =>
    cases hx : (wordsM web)[p]? with
    | none => rw [List.getElem?_eq_none_iff] at hx; omega
    | some x =>
      cases x with
      | some b =>
        cases b with
        | false => rfl
        | true => exact absurd (words_sound hx) (Lab.one (b := false) (.won p o ho hl))
      | none =>
        have hr := hfix p (List.mem_range.mpr hp) hx
        unfold wordR at hr
        split at hr
        · cases hr
        · rw [if_pos (List.any_eq_true.mpr ⟨o, ho, by rw [getD_of (ih (hw p o ho))]; rfl⟩)] at hr
          cases hr

/-! ### ends -/
def endR (web : Webs) (t : Nat) (s : List (Option Nat)) (p : Nat) : Option Nat :=
  if t % 2 = 0 then (if (roads web p).all (fun o => (s.getD o none).any fun v => decide (v % 2 = 1 ∧ v < t)) then some t else none)
  else (if (roads web p).any (fun o => s.getD o none == some (t - 1)) then some t else none)
def endsT (web : Webs) : Nat → List (Option Nat)
  | 0 => List.replicate web.length none
  | t + 1 => go (endR web t) (List.range web.length) (endsT web t)
def endsM (web : Webs) : List (Option Nat) := endsT web (web.length + 1)
theorem endsT_len (web : Webs) : ∀ t, (endsT web t).length = web.length
  | 0 => List.length_replicate
  | t + 1 => (go_grown (r := endR web t) (List.range web.length) (endsT web t)).len.trans (endsT_len web t)
/-- two states that the rule of turn t does not tell apart -/
def Sim (t : Nat) (s0 s : List (Option Nat)) : Prop := ∀ o, s.getD o none = s0.getD o none ∨ (s0.getD o none = none ∧ s.getD o none = some t)
theorem endR_sim {web : Webs} {t : Nat} {s0 s : List (Option Nat)} (h : Sim t s0 s) (p : Nat) : endR web t s p = endR web t s0 p := by
  unfold endR
  split
  · have e : (roads web p).all (fun o => (s.getD o none).any fun v => decide (v % 2 = 1 ∧ v < t)) = (roads web p).all (fun o => (s0.getD o none).any fun v => decide (v % 2 = 1 ∧ v < t)) := by
      congr 1
      funext o
      rcases h o with h | ⟨h1, h2⟩
      · rw [h]
      · rw [h1, h2]
        show decide (t % 2 = 1 ∧ t < t) = false
        rw [decide_eq_false]
        omega
    rw [e]
  · rename_i ht
    have e : (roads web p).any (fun o => s.getD o none == some (t - 1)) = (roads web p).any (fun o => s0.getD o none == some (t - 1)) := by
      congr 1
      funext o
      rcases h o with h | ⟨h1, h2⟩
      · rw [h]
      · rw [h1, h2]
        show (some t == some (t - 1)) = (none == some (t - 1))
        rw [show ((none : Option Nat) == some (t - 1)) = false from rfl]
        refine beq_eq_false_iff_ne.mpr fun z => ?_
        have := Option.some.inj z
        omega
    rw [e]
theorem endR_val {web : Webs} {t : Nat} {s : List (Option Nat)} {p v : Nat} (h : endR web t s p = some v) : v = t := by
  unfold endR at h
  split at h <;> split at h <;> first | exact (Option.some.inj h).symm | cases h
theorem end_turn (web : Webs) (t : Nat) {s0 : List (Option Nat)} (hl : s0.length = web.length) (k : Nat) (hk : k ≤ web.length) (p : Nat) (hp : p < web.length) :
    (go (endR web t) (List.range k) s0).getD p none = if p < k then ((s0.getD p none).or (endR web t s0 p)) else s0.getD p none := by
  induction k generalizing p with
  | zero =>
    rw [if_neg (Nat.not_lt_zero _)]
    rfl
  | succ k ih =>
    have hsim : Sim t s0 (go (endR web t) (List.range k) s0) := fun o => by
      by_cases ho : o < web.length
      · rw [ih (by omega) o ho]
        split
        · cases h0 : s0.getD o none with
          | some v => exact .inl rfl
          | none =>
            rw [Option.none_or]
            cases hr : endR web t s0 o with
            | none => exact .inl rfl
            | some v => exact .inr ⟨rfl, by rw [endR_val hr]⟩
        · exact .inl rfl
      · have hg := (go_grown (r := endR web t) (List.range k) s0).len
        left
        rw [List.getD_eq_getElem?_getD, List.getD_eq_getElem?_getD, List.getElem?_eq_none (by omega), List.getElem?_eq_none (by omega)]
    have hgo : go (endR web t) (List.range (k + 1)) s0 = giv (endR web t) (go (endR web t) (List.range k) s0) k := by
      unfold go
      rw [List.range_succ, List.foldl_append]
      rfl
    rw [hgo]
    have ihk := ih (by omega) k (by omega)
    rw [if_neg (Nat.lt_irrefl _)] at ihk
    have hlen : (go (endR web t) (List.range k) s0).length = web.length := (go_grown (r := endR web t) (List.range k) s0).len.trans hl
    rcases giv_cases (endR web t) (go (endR web t) (List.range k) s0) k with e | ⟨v, h1, h2, h3⟩
    · rw [e, ih (by omega) p hp]
      by_cases hpk : p < k
      · rw [if_pos hpk, if_pos (by omega)]
      · rw [if_neg hpk]
        by_cases hpe : p = k
        · subst hpe
          rw [if_pos (by omega)]
          cases h0 : s0.getD p none with
          | some v => rfl
          | none =>
            rw [Option.none_or]
            cases hr : endR web t s0 p with
            | none => rfl
            | some v =>
              rw [← endR_sim hsim p] at hr
              rw [h0] at ihk
              have hn : (go (endR web t) (List.range p) s0)[p]? = some none := by
                have hlt : p < (go (endR web t) (List.range p) s0).length := by omega
                rw [List.getElem?_eq_getElem hlt]
                rw [List.getD_eq_getElem?_getD, List.getElem?_eq_getElem hlt] at ihk
                rw [show (go (endR web t) (List.range p) s0)[p] = none from ihk]
              rw [giv_set hn hr] at e
              have := set_cnt (v := v) hn
              rw [e] at this
              omega
        · rw [if_neg (by omega)]
    · rw [h3]
      have hv := endR_val h2
      subst hv
      by_cases hpe : p = k
      · subst hpe
        rw [if_pos (by omega), List.getD_eq_getElem?_getD, List.getElem?_set_self (by omega)]
        have hn : s0.getD p none = none := by rw [← ihk, getD_of h1]
        rw [hn, Option.none_or, ← endR_sim hsim p, h2]
        rfl
      · rw [List.getD_eq_getElem?_getD, List.getElem?_set_ne (fun z => hpe z.symm), ← List.getD_eq_getElem?_getD, ih (by omega) p hp]
        by_cases hpk : p < k
        · rw [if_pos hpk, if_pos (by omega)]
        · rw [if_neg hpk, if_neg (by omega)]
/-- the value of a place ahead of turn t -/
def En (web : Webs) (t p : Nat) : Option Nat := (endsT web t).getD p none
theorem En_zero (web : Webs) (p : Nat) : En web 0 p = none := by
  unfold En endsT
  rw [List.getD_eq_getElem?_getD, List.getElem?_replicate]
  split <;> rfl
theorem En_out {web : Webs} {t p : Nat} (h : web.length ≤ p) : En web t p = none := by
  unfold En
  rw [List.getD_eq_getElem?_getD, List.getElem?_eq_none (by rw [endsT_len]; exact h)]
  rfl
theorem En_succ {web : Webs} {t p : Nat} (hp : p < web.length) : En web (t + 1) p = (En web t p).or (endR web t (endsT web t) p) := by
  have h := end_turn web t (endsT_len web t) web.length (Nat.le_refl _) p hp
  rw [if_pos hp] at h
  exact h
theorem En_mono {web : Webs} {t p v : Nat} (h : En web t p = some v) : ∀ k, En web (t + k) p = some v
  | 0 => h
  | k + 1 => by
    by_cases hp : p < web.length
    · show En web (t + k + 1) p = some v
      rw [En_succ hp, En_mono h k]
      rfl
    · rw [En_out (by omega)] at h
      cases h
theorem En_up {web : Webs} {t u p v : Nat} (h : En web t p = some v) (hu : t ≤ u) : En web u p = some v := by
  have := En_mono h (u - t)
  rwa [show t + (u - t) = u by omega] at this
/-- a value is given in its own turn -/
theorem En_given {web : Webs} : ∀ {t p v : Nat}, En web t p = some v → v < t ∧ p < web.length ∧ En web v p = none ∧ endR web v (endsT web v) p = some v
  | 0, p, v, h => by rw [En_zero] at h; cases h
  | t + 1, p, v, h => by
    by_cases hp : p < web.length
    · rw [En_succ hp] at h
      cases h0 : En web t p with
      | some w =>
        rw [h0] at h
        have hw : w = v := Option.some.inj h
        subst hw
        obtain ⟨h1, h2, h3⟩ := En_given h0
        exact ⟨by omega, h2, h3⟩
      | none =>
        rw [h0, Option.none_or] at h
        have hv := endR_val h
        subst hv
        exact ⟨by omega, hp, h0, h⟩
    · rw [En_out (by omega)] at h
      cases h
theorem En_at {web : Webs} {t p v : Nat} (h : En web t p = some v) : En web (v + 1) p = some v := by
  obtain ⟨_, hp, h1, h2⟩ := En_given h
  rw [En_succ hp, h1, Option.none_or, h2]
theorem En_none_down {web : Webs} {t u p : Nat} (h : En web u p = none) (hu : t ≤ u) : En web t p = none := by
  cases h0 : En web t p with
  | none => rfl
  | some v =>
    rw [En_up h0 hu] at h
    cases h
theorem En_low {web : Webs} {t u p v : Nat} (h : En web t p = some v) (hv : v < u) : En web u p = some v := En_up (En_at h) hv
/-- the rule of an even turn; of an odd one -/
theorem endR_even {web : Webs} {t p : Nat} (ht : t % 2 = 0) : endR web t (endsT web t) p = some t ↔ ∀ o ∈ roads web p, ∃ v, En web t o = some v ∧ v % 2 = 1 ∧ v < t := by
  unfold endR
  rw [if_pos ht]
  constructor
  · intro h o ho
    split at h
    · rename_i h1
      have h2 := List.all_eq_true.mp h1 o ho
      cases h3 : (endsT web t).getD o none with
      | none => rw [h3] at h2; cases h2
      | some v =>
        rw [h3] at h2
        exact ⟨v, h3, of_decide_eq_true h2⟩
    · cases h
  · intro h
    rw [if_pos]
    refine List.all_eq_true.mpr fun o ho => ?_
    obtain ⟨v, h1, h2⟩ := h o ho
    have h1' : (endsT web t).getD o none = some v := h1
    rw [h1']
    exact decide_eq_true h2
theorem endR_odd {web : Webs} {t p : Nat} (ht : t % 2 = 1) : endR web t (endsT web t) p = some t ↔ ∃ o ∈ roads web p, En web t o = some (t - 1) := by
  unfold endR
  rw [if_neg (by omega)]
  constructor
  · intro h
    split at h
    · rename_i h1
      obtain ⟨o, ho, h2⟩ := List.any_eq_true.mp h1
      exact ⟨o, ho, eq_of_beq h2⟩
    · cases h
  · rintro ⟨o, ho, h1⟩
    rw [if_pos]
    have h1' : (endsT web t).getD o none = some (t - 1) := h1
    exact List.any_eq_true.mpr ⟨o, ho, by rw [h1']; exact beq_self_eq_true _⟩
/-- the end of a place -/
def endOf (web : Webs) (p : Nat) : Option Nat := En web (web.length + 1) p
/-- below a value all lesser ones are met -/
theorem end_chain {web : Webs} : ∀ {v p : Nat}, endOf web p = some v → ∀ w, w ≤ v → ∃ q, endOf web q = some w
  | 0, p, h, w, hw => ⟨p, by rw [h]; congr 1; omega⟩
  | v + 1, p, h, w, hw => by
    by_cases e : w = v + 1
    · exact ⟨p, by rw [h, e]⟩
    · obtain ⟨hlt, hp, h1, h2⟩ := En_given h
      have key : ∃ o, endOf web o = some v := by
        by_cases hpar : (v + 1) % 2 = 0
        · have hall := (endR_even hpar).mp h2
          cases hex : (roads web p).find? (fun o => En web (web.length + 1) o == some v) with
          | some o =>
            have := List.find?_some hex
            exact ⟨o, eq_of_beq this⟩
          | none =>
            rw [List.find?_eq_none] at hex
            -- then the place had got its value two turns ahead
            have hv1 : 1 ≤ v := by omega
            have h3 : endR web (v - 1) (endsT web (v - 1)) p = some (v - 1) := (endR_even (by omega)).mpr fun o ho => by
              obtain ⟨x, hx, hx1, hx2⟩ := hall o ho
              have hxv : x ≠ v := fun z => hex o ho (by
                subst z
                have := En_low hx (u := web.length + 1) (by omega)
                rw [this]
                exact beq_self_eq_true _)
              exact ⟨x, En_low hx (by omega), hx1, by omega⟩
            have h4 := En_none_down h1 (t := v - 1) (by omega)
            have h5 : En web (v - 1 + 1) p = some (v - 1) := by rw [En_succ hp, h4, Option.none_or, h3]
            rw [En_up h5 (by omega)] at h1
            cases h1
        · obtain ⟨o, ho, h3⟩ := (endR_odd (by omega)).mp h2
          exact ⟨o, En_up h3 (by omega)⟩
      obtain ⟨o, ho⟩ := key
      exact end_chain ho w (by omega)
theorem end_lt {web : Webs} {v p : Nat} (h : endOf web p = some v) : v < web.length := by
  have hsub : List.range (v + 1) ⊆ (endsM web).filterMap id := fun w hw => by
    obtain ⟨q, hq⟩ := end_chain h w (by have := List.mem_range.mp hw; omega)
    have := of_getD (show (endsM web).getD q none = some w from hq)
    exact List.mem_filterMap.mpr ⟨some w, List.mem_of_getElem? this, rfl⟩
  have h1 := List.Nodup.length_le_of_subset List.nodup_range hsub
  rw [List.length_range] at h1
  have h2 : ((endsM web).filterMap id).length ≤ (endsM web).length := List.length_filterMap_le _ _
  have h3 : (endsM web).length = web.length := endsT_len web _
  omega
/-- lost: all roads lead to won ones, the end is one more than the greatest -/
theorem end_even {web : Webs} {v p : Nat} (h : endOf web p = some v) (hv : v % 2 = 0) : (∀ o ∈ roads web p, ∃ w, endOf web o = some w ∧ w % 2 = 1 ∧ w < v) ∧ (v = 0 ∨ ∃ o ∈ roads web p, endOf web o = some (v - 1)) := by
  obtain ⟨hlt, hp, h1, h2⟩ := En_given h
  have hall := (endR_even hv).mp h2
  refine ⟨fun o ho => ?_, ?_⟩
  · obtain ⟨w, hw, h3, h4⟩ := hall o ho
    exact ⟨w, En_up hw (by omega), h3, h4⟩
  · by_cases h0 : v = 0
    · exact .inl h0
    · right
      cases hex : (roads web p).find? (fun o => En web (web.length + 1) o == some (v - 1)) with
      | some o =>
        have hb := List.find?_some hex
        exact ⟨o, List.mem_of_find?_eq_some hex, eq_of_beq hb⟩
      | none =>
        rw [List.find?_eq_none] at hex
        have h3 : endR web (v - 2) (endsT web (v - 2)) p = some (v - 2) := (endR_even (by omega)).mpr fun o ho => by
          obtain ⟨x, hx, hx1, hx2⟩ := hall o ho
          have hxv : x ≠ v - 1 := fun z => hex o ho (by
            subst z
            have := En_low hx (u := web.length + 1) (by omega)
            rw [this]
            exact beq_self_eq_true _)
          exact ⟨x, En_low hx (by omega), hx1, by omega⟩
        have h4 := En_none_down h1 (t := v - 2) (by omega)
        have h5 : En web (v - 2 + 1) p = some (v - 2) := by rw [En_succ hp, h4, Option.none_or, h3]
        rw [En_up h5 (by omega)] at h1
        cases h1
/-- won: one more than the least lost one that a road leads to -/
theorem end_odd {web : Webs} {v p : Nat} (h : endOf web p = some v) (hv : v % 2 = 1) : (∃ o ∈ roads web p, endOf web o = some (v - 1)) ∧ ∀ o ∈ roads web p, ∀ w, endOf web o = some w → w % 2 = 0 → v - 1 ≤ w := by
  obtain ⟨hlt, hp, h1, h2⟩ := En_given h
  obtain ⟨o, ho, h3⟩ := (endR_odd hv).mp h2
  refine ⟨⟨o, ho, En_up h3 (by omega)⟩, fun o' ho' w hw he => ?_⟩
  by_cases hle : v - 1 ≤ w
  · exact hle
  · have h4 : endR web (w + 1) (endsT web (w + 1)) p = some (w + 1) := (endR_odd (by omega)).mpr ⟨o', ho', by
      rw [show w + 1 - 1 = w by omega]
      exact En_at hw⟩
    have h5 := En_none_down h1 (t := w + 1) (by omega)
    have h6 : En web (w + 1 + 1) p = some (w + 1) := by rw [En_succ hp, h5, Option.none_or, h4]
    rw [En_up h6 (by omega)] at h1
    cases h1
theorem end_lab {web : Webs} : ∀ {v p : Nat}, endOf web p = some v → Lab (roads web) p (decide (v % 2 = 0)) := by
  intro v
  induction v using Nat.strongRecOn with
  | _ v ih =>
    intro p h
    by_cases hv : v % 2 = 0
    · rw [decide_eq_true hv]
      refine .lost p fun o ho => ?_
      obtain ⟨w, h1, h2, h3⟩ := (end_even h hv).1 o ho
      have := ih w h3 h1
      rwa [decide_eq_false (by omega)] at this
    · rw [decide_eq_false hv]
      obtain ⟨o, ho, h1⟩ := (end_odd h (by omega)).1
      have := ih (v - 1) (by omega) h1
      rw [decide_eq_true (by omega)] at this
      exact .won p o ho this
theorem lab_end {web : Webs} (hw : InR web) {p : Nat} {b : Bool} (hp : p < web.length) (h : Lab (roads web) p b) : ∃ v, endOf web p = some v ∧ decide (v % 2 = 0) = b := by
  induction h with
  | lost p h ih =>
    cases he : endOf web p with
    | some v =>
      refine ⟨v, rfl, ?_⟩
      have h1 := end_lab he
      by_cases hv : v % 2 = 0
      · exact decide_eq_true hv
      · rw [decide_eq_false hv] at h1
        exact absurd h1 (Lab.one (b := true) (.lost p h))
    | none =>
      exfalso
      have hall : ∀ t, t % 2 = 0 → t ≤ web.length → (∀ w, w % 2 = 1 → w < web.length → w < t) → False := fun t ht htl hbig => by
        have h3 : endR web t (endsT web t) p = some t := (endR_even ht).mpr fun o ho => by
          obtain ⟨w, h1, h2⟩ := ih o ho (hw p o ho)
          have hw1 : w % 2 = 1 := by
            have := of_decide_eq_false h2
            omega
          have hlt := end_lt h1
          exact ⟨w, En_low h1 (hbig w hw1 hlt), hw1, hbig w hw1 hlt⟩
        have h4 := En_none_down (t := t) (show En web (web.length + 1) p = none from he) (by omega)
        have h5 : En web (t + 1) p = some t := by rw [En_succ hp, h4, Option.none_or, h3]
        have h6 : endOf web p = some t := En_up h5 (by omega)
        rw [he] at h6
        cases h6
      by_cases hn : web.length % 2 = 0
      · exact hall web.length hn (Nat.le_refl _) fun w _ h => h
      · exact hall (web.length - 1) (by omega) (by omega) fun w h1 h2 => by omega
  | won p o ho hl ih =>
    obtain ⟨w, h1, h2⟩ := ih (hw p o ho)
    have hw0 := of_decide_eq_true h2
    cases he : endOf web p with
    | some v =>
      refine ⟨v, rfl, ?_⟩
      have h3 := end_lab he
      by_cases hv : v % 2 = 0
      · rw [decide_eq_true hv] at h3
        exact absurd h3 (Lab.one (b := false) (.won p o ho hl))
      · exact decide_eq_false hv
    | none =>
      exfalso
      have hlt := end_lt h1
      have h3 : endR web (w + 1) (endsT web (w + 1)) p = some (w + 1) := (endR_odd (by omega)).mpr ⟨o, ho, by
        rw [show w + 1 - 1 = w by omega]
        exact En_at h1⟩
      have h4 := En_none_down (t := w + 1) (show En web (web.length + 1) p = none from he) (by omega)
      have h5 : En web (w + 1 + 1) p = some (w + 1) := by rw [En_succ hp, h4, Option.none_or, h3]
      have h6 : endOf web p = some (w + 1) := En_up h5 (by omega)
      rw [he] at h6
      cases h6
/-- the words tell the ends' kinds -/
theorem word_end {web : Webs} (hw : InR web) {p : Nat} (hp : p < web.length) : (wordsM web).getD p none = (endOf web p).map fun v => decide (v % 2 = 0) := by
  cases he : endOf web p with
  | some v =>
    rw [getD_of (words_full hw hp (end_lab he))]
    rfl
  | none =>
    cases hx : (wordsM web).getD p none with
    | none => rfl
    | some b =>
      obtain ⟨v, h1, _⟩ := lab_end hw hp (words_sound (of_getD hx))
      rw [he] at h1
      cases h1
end Sr
set_option Elab.async false
set_option linter.all false
set_option maxRecDepth 100000
set_option maxHeartbeats 4000000
/-! SrE: values that may be None, lists that are filled place by place; the ends' promises. -/
namespace Sr
open PySem PySem.Spec PyProof.Rows L2 Evl

def ov : Option Nat → V
  | some n => nv n
  | none => .non
theorem flat_ov {α : Type} (row : List α) (f : α → Option Nat) : (row.map fun o => ov (f o)).all flatV = true := by
  rw [List.all_map]
  refine List.all_eq_true.mpr fun o _ => ?_
  show flatV (ov (f o)) = true
  cases f o <;> rfl
theorem inV_ov {α : Type} (k : Nat) (row : List α) (f : α → Option Nat) : inV (nv k) (row.map fun o => ov (f o)) = row.any fun o => f o == some k := by
  unfold inV
  rw [List.any_map]
  congr 1
  funext o
  show eqV (ov (f o)) (nv k) = _
  cases f o with
  | none => rfl
  | some x =>
    show ((x : Int) == (k : Int)) = (some x == some k)
    by_cases h : x = k
    · subst h; simp
    · rw [beq_eq_false_iff_ne.mpr (by omega : (x : Int) ≠ (k : Int)), beq_eq_false_iff_ne.mpr (fun z => h (Option.some.inj z))]
theorem ov_non (x : Option Nat) : decide (ov x = .non) = x.isNone := by
  cases x with
  | none => rfl
  | some n => rfl
theorem ov_at {s : List (Option Nat)} {o : Nat} (h : o < s.length) : (s.map ov)[o]? = some (ov (s.getD o none)) := by
  rw [List.getElem?_map, List.getD_eq_getElem?_getD, List.getElem?_eq_getElem h]
  rfl
theorem ov_set {s : List (Option Nat)} {i t : Nat} : (s.map ov).set i (nv t) = (s.set i (some t)).map ov := by rw [List.map_set]; rfl
theorem go_snoc {α : Type} {r : List (Option α) → Nat → Option α} {i : Nat} {s : List (Option α)} : go r (List.range (i + 1)) s = giv r (go r (List.range i) s) i := by
  unfold go
  rw [List.range_succ, List.foldl_append]
  rfl
theorem go_len {α : Type} {r : List (Option α) → Nat → Option α} {ps : List Nat} {s : List (Option α)} : (go r ps s).length = s.length := (go_grown ps s).len
theorem giv_some {α : Type} {r : List (Option α) → Nat → Option α} {s : List (Option α)} {p : Nat} {v : α} (h : s.getD p none = some v) : giv r s p = s := giv_no fun hp => by
  rw [getD_of hp] at h
  cases h
theorem at_none {α : Type} {s : List (Option α)} {p : Nat} (hp : p < s.length) (h : s.getD p none = none) : s[p]? = some none := by
  rw [List.getD_eq_getElem?_getD, List.getElem?_eq_getElem hp] at h
  rw [List.getElem?_eq_getElem hp]
  exact congrArg some h
section
variable {K : PySem.W.Frag} {σ : L2.St} {H H' : Hp} {ta tb tc te tx : TE} {t u : TT} {x y z v : V} {r : R2} {D : Ends} {tu tw tz : TS}
theorem el_rep {n : Nat} {xs : List V} (ha : EvL ta σ H xs) (hb : Ev tb σ H (nv n)) (hl : xs.length = 1) (hn : n ≤ 100000) : EvL (tOp rRep ta tb) σ H (List.replicate n xs).flatten := fun H1 e Q q =>
  ha H1 e _ fun p H2 np e2 hp => hb H2 (e.trans e2) _ fun H3 e3 => ⟨p, (n : Int), xs, rfl, rfl, e3 _ _ hp, by omega, by omega, by rw [hl, Int.toNat_natCast, Nat.one_mul]; exact sz_of hn, fun p2 n2 => by
    rw [Int.toNat_natCast]
    exact q p2 _ (fresh_back (e2.trans e3) n2) ((e2.trans e3).trans (Ex.new n2)) upd_same⟩
theorem flat_one {α : Type} (n : Nat) (x : α) : (List.replicate n [x]).flatten = List.replicate n x := by
  induction n with
  | zero => rfl
  | succ n ih => rw [List.replicate_succ, List.flatten_cons, ih, List.replicate_succ]; rfl
theorem ev_isN (ha : Ev ta σ H x) : Ev (tOp (fun x y H Q => y = .non ∧ Q (.bl (decide (x = .non))) H) ta (tC .non)) σ H (.bl (decide (x = .non))) := ev_op ha ev_c rv_isN
theorem ev_notN (ha : Ev ta σ H x) : Ev (tOp (fun x y H Q => y = .non ∧ Q (.bl (!decide (x = .non))) H) ta (tC .non)) σ H (.bl (!decide (x = .non))) := ev_op ha ev_c rv_notN
/-- an item of a list made on the way -/
theorem ev_ixP {xs : List V} {i : Nat} (ha : EvP ta σ H (fun _ w H2 => ∃ p, w = .ref p ∧ H2 p = some (.lst xs))) (hb : Ev tb σ H (nv i)) (hi : xs[i]? = some v) : Ev (tOp (rIxL K) ta tb) σ H v :=
  fun H1 e Q q => ha H1 e _ fun w H2 e2 ⟨p, hw, hp⟩ => hb H2 (e.trans e2) _ fun H3 e3 => ⟨p, xs, (i : Int), v, hw, rfl, sq_of (e3 p _ hp), atI_nat hi, q H3 (e2.trans e3)⟩
theorem LL.enum {a : Addr} {web : List (List Nat)} (h : LL K H a web) : ∃ xs : List V, SqL K H a xs ∧ xs.length = web.length ∧ ∀ (i : Nat) (x : V), xs[i]? = some x → ∃ (r : Addr) (row : List Nat), x = V.ref r ∧ web[i]? = some row ∧ LI K H r row := by
  obtain ⟨as, h1, h2, h3⟩ := h
  refine ⟨_, h1, by rw [List.length_map, h2], fun i x hi => ?_⟩
  rw [List.getElem?_map] at hi
  cases ha : as[i]? with
  | none => rw [ha] at hi; cases hi
  | some r =>
    rw [ha] at hi
    obtain ⟨row, hrow⟩ := LL.row (K := K) (H := H) (a := a) h2 ha
    exact ⟨r, row, (Option.some.inj hi).symm, hrow, h3 i r row ha hrow⟩
end
theorem roads_of {web : Webs} {i : Nat} {row : List Nat} (h : web[i]? = some row) : roads web i = row := by
  unfold roads
  rw [List.getD_eq_getElem?_getD, h]
  rfl
theorem Good.inR {web : Webs} (g : Good web) : InR web := fun p o ho => by
  by_cases hp : p < web.length
  · have h : web[p]? = some web[p] := List.getElem?_eq_getElem hp
    rw [roads_of h] at ho
    exact g.lt h ho
  · rw [roads_out (by omega)] at ho
    cases ho
/-! ### promises -/
def sp_ends_of (K : PySem.W.Frag) : Sp := spOf (α := Addr × List (List Nat)) (fun a vs H => vs = [.ref a.1] ∧ LL K H a.1 a.2 ∧ Ok60 a.2) (fun a H v H' => ∃ p, v = .ref p ∧ H p = none ∧ H' p = some (.lst ((endsM a.2).map ov)))
def sp_end (K : PySem.W.Frag) : Sp := spOf (α := (Addr × List (List Nat)) × Nat) (fun a vs H => vs = [.ref a.1.1, nv a.2] ∧ LL K H a.1.1 a.1.2 ∧ Ok60 a.1.2 ∧ a.2 < a.1.2.length) (fun a _ v _ => v = ov (endOf a.1.2 a.2))
theorem endsM_len (web : Webs) : (endsM web).length = web.length := endsT_len web _
def EndInv (a q : Addr) (web : List (List Nat)) (t : Nat) (H : Hp) (σ : L2.St) (H' : Hp) : Prop :=
  ∃ x3 x4 x5 : Option V, σ = [some (.ref a), some (.ref q), some (nv t), x3, x4, x5, none, none] ∧ Ex H H' ∧ H' q = some (.lst ((endsT web t).map ov))
def EndRow (a q : Addr) (web : List (List Nat)) (t : Nat) (H : Hp) (i : Nat) (σ : L2.St) (H' : Hp) : Prop :=
  ∃ x3 x4 x5 : Option V, σ = [some (.ref a), some (.ref q), some (nv t), x3, x4, x5, none, none] ∧ Ex H H' ∧ H' q = some (.lst ((go (endR web t) (List.range i) (endsT web t)).map ov))
end Sr
set_option Elab.async false
set_option linter.all false
set_option maxRecDepth 100000
set_option maxHeartbeats 4000000
/-! SrF: words of places, greatest and least, loops over written tuples, data with None; law 2's own promises. -/
namespace Sr
open PySem PySem.Spec PyProof.Rows L2 Evl

/-! ### words -/
def wv : Option Bool → V
  | none => .str ""
  | some true => .str "lost"
  | some false => .str "won"
def fv : Option Bool → V
  | none => .str "endless"
  | some true => .str "lost"
  | some false => .str "won"
theorem wv_nil (x : Option Bool) : decide (wv x = .str "") = x.isNone := by
  rcases x with _ | _ | _ <;> decide +kernel
theorem wv_won (x : Option Bool) : decide (wv x = .str "won") = (x == some false) := by
  rcases x with _ | _ | _ <;> decide +kernel
theorem wv_lost (x : Option Bool) : decide (wv x = .str "lost") = (x == some true) := by
  rcases x with _ | _ | _ <;> decide +kernel
theorem fv_end (x : Option Bool) : decide (fv x = .str "endless") = x.isNone := by
  rcases x with _ | _ | _ <;> decide +kernel
theorem fv_won (x : Option Bool) : decide (fv x = .str "won") = (x == some false) := by
  rcases x with _ | _ | _ <;> decide +kernel
theorem fv_lost (x : Option Bool) : decide (fv x = .str "lost") = (x == some true) := by
  rcases x with _ | _ | _ <;> decide +kernel
theorem map_at {α : Type} (f : Option α → V) {s : List (Option α)} {o : Nat} (h : o < s.length) : (s.map f)[o]? = some (f (s.getD o none)) := by
  rw [List.getElem?_map, List.getD_eq_getElem?_getD, List.getElem?_eq_getElem h]
  rfl
section
variable {K : PySem.W.Frag} {σ : L2.St} {H H' : Hp} {ta tb tc te tx : TE} {t u : TT} {x y z v : V} {r : R2} {D : Ends} {tu tw tz : TS} {g : TG}
theorem wv_str (x : Option Bool) : ∃ s, wv x = .str s := by rcases x with _ | _ | _ <;> exact ⟨_, rfl⟩
theorem fv_str (x : Option Bool) : ∃ s, fv x = .str s := by rcases x with _ | _ | _ <;> exact ⟨_, rfl⟩
theorem ev_eqW {x : Option Bool} {s : Str} (ha : Ev ta σ H (wv x)) (hb : Ev tb σ H (.str s)) : Ev (tOp rEq ta tb) σ H (.bl (decide (wv x = .str s))) :=
  ev_op ha hb (rv_eq (by obtain ⟨y, h⟩ := wv_str x; rw [h]; rfl))
theorem ev_neW {x : Option Bool} {s : Str} (ha : Ev ta σ H (wv x)) (hb : Ev tb σ H (.str s)) : Ev (tOp rNe ta tb) σ H (.bl (!decide (wv x = .str s))) :=
  ev_op ha hb (rv_ne (by obtain ⟨y, h⟩ := wv_str x; rw [h]; rfl))
theorem ev_eqF {x : Option Bool} {s : Str} (ha : Ev ta σ H (fv x)) (hb : Ev tb σ H (.str s)) : Ev (tOp rEq ta tb) σ H (.bl (decide (fv x = .str s))) :=
  ev_op ha hb (rv_eq (by obtain ⟨y, h⟩ := fv_str x; rw [h]; rfl))
theorem ev_neF {x : Option Bool} {s : Str} (ha : Ev ta σ H (fv x)) (hb : Ev tb σ H (.str s)) : Ev (tOp rNe ta tb) σ H (.bl (!decide (fv x = .str s))) :=
  ev_op ha hb (rv_ne (by obtain ⟨y, h⟩ := fv_str x; rw [h]; rfl))
/-! ### greatest and least -/
theorem ev_maxL {ns : List Int} {m : Int} (h : EvL te σ H (ns.map V.int)) (hm : m ∈ ns) (hu : ∀ y ∈ ns, y ≤ m) : Ev (tCB (rMax K) (tCons te tNil)) σ H (.int m) :=
  ev_cbL h fun p H1 _ hp H2 e2 Q q => ⟨p, ns, rfl, sq_of (e2 _ _ hp), List.length_pos_of_mem hm, fun m' h1 h2 => by
    have : m' = m := by have := hu m' h1; have := h2 m hm; omega
    subst this
    exact q H2 (Ex.refl H2)⟩
theorem ev_minL {ns : List Int} {m : Int} (h : EvL te σ H (ns.map V.int)) (hm : m ∈ ns) (hu : ∀ y ∈ ns, m ≤ y) : Ev (tCB (rMin K) (tCons te tNil)) σ H (.int m) :=
  ev_cbL h fun p H1 _ hp H2 e2 Q q => ⟨p, ns, rfl, sq_of (e2 _ _ hp), List.length_pos_of_mem hm, fun m' h1 h2 => by
    have : m' = m := by have := hu m' h1; have := h2 m hm; omega
    subst this
    exact q H2 (Ex.refl H2)⟩
/-- over a tuple made on the way -/
theorem s_forNU {xs : List V} {tl : TE} (h : EvU tl σ H xs) (Pv : Addr → Nat → L2.St → Hp → Prop) (h0 : ∀ p H1, H p = none → Ex H H1 → H1 p = some (.tup xs) → Pv p 0 σ H1) (hl : ∀ p i σ' H', i ≤ xs.length → Pv p i σ' H' → SqT K H' p xs)
    (hs : ∀ p i x σ' H', xs[i]? = some x → Pv p i σ' H' → g x σ' H' fun σ2 H2 => tu { D with nx := Pv p (i + 1), ct := Pv p (i + 1), bk := D.nx } σ2 H2) (hd : ∀ p σ' H', Pv p xs.length σ' H' → D.nx σ' H') : tFor (iTup K tl) g tu D σ H :=
  h H (Ex.refl H) _ fun p H1 hp e h1 => ⟨p, rfl, ⟨xs, st_of h1⟩, for_tup (Pv p) (h0 p H1 hp e h1) (hl p) (hs p) (hd p)⟩
/-- .. of any items: C of the heap and the items, that stays -/
theorem s_forPU {C : Hp → List V → Prop} {tl : TE} {j : Nat} (h : EvP tl σ H (fun _ v H2 => ∃ p ys, C H2 ys ∧ v = .ref p ∧ H2 p = some (.tup ys))) (Pv : Addr → List V → Nat → L2.St → Hp → Prop) (h0 : ∀ p ys H1, Ex H H1 → C H1 ys → H1 p = some (.tup ys) → Pv p ys 0 σ H1) (hl : ∀ p ys i σ' H', i ≤ ys.length → Pv p ys i σ' H' → SqT K H' p ys)
    (hs : ∀ p ys i x σ' H', ys[i]? = some x → Pv p ys i σ' H' → tu { D with nx := Pv p ys (i + 1), ct := Pv p ys (i + 1), bk := D.nx } (σ'.set j (some x)) H') (hd : ∀ p ys σ' H', Pv p ys ys.length σ' H' → D.nx σ' H') : tFor (iTup K tl) (gName j) tu D σ H :=
  h H (Ex.refl H) _ fun v H1 e ⟨p, ys, hc, hv, h1⟩ => by
    subst hv
    exact ⟨p, rfl, ⟨ys, st_of h1⟩, for_tup (Pv p ys) (h0 p ys H1 e hc h1) (hl p ys) (fun i x σ' H' hi pv => hs p ys i x σ' H' hi pv) (hd p ys · ·)⟩
/-- two values of any kind, then an operation -/
theorem ev_opPP {P1 P2 : Hp → V → Hp → Prop} (ha : EvP ta σ H P1) (hb : EvP tb σ H P2) (hr : ∀ v w H1 H2 H3, Ex H H1 → Ex H1 H2 → Ex H2 H3 → P1 H1 v H2 → P2 H2 w H3 → RV r v w H3 z) : Ev (tOp r ta tb) σ H z :=
  fun H1 e Q q => ha H1 e _ fun v H2 e2 p1 => hb H2 (e.trans e2) _ fun w H3 e3 p2 => hr v w H1 H2 H3 e e2 e3 p1 p2 H3 (Ex.refl H3) Q fun H4 e4 => q H4 ((e2.trans e3).trans e4)
theorem el_catA {xs ys : List V} {l : Addr} (ha : EvL ta σ H xs) (hb : Ev tb σ H (.ref l)) (hl : H l = some (.lst ys)) (hz : xs.length + ys.length ≤ 100000) : EvL (tOp rCat ta tb) σ H (xs ++ ys) := fun H1 e Q q => ha H1 e _ fun p H2 n2 e2 hp => hb H2 (e.trans e2) _ fun H3 e3 =>
  ⟨p, l, xs, ys, rfl, rfl, e3 _ _ hp, ((e.trans e2).trans e3) _ _ hl, sz_of hz, fun r hr => q r _ (fresh_back (e2.trans e3) hr) ((e2.trans e3).trans (Ex.new hr)) upd_same⟩
theorem ei_zipA {a b : Addr} {xs ys : List V} (ha : Ev ta σ H (.ref a)) (hb : Ev tb σ H (.ref b)) (h1 : SqL K H a xs) (h2 : SqL K H b ys) : EvI (iZip K (tCons ta (tCons tb tNil))) σ H (Itz K a b) (fun H => SqL K H a xs ∧ SqL K H b ys) :=
  fun H1 e R q => ha H1 e _ fun H2 e2 => hb H2 (e.trans e2) _ fun H3 e3 => ⟨a, b, xs, ys, rfl, ex_l ((e.trans e2).trans e3) h1, ex_l ((e.trans e2).trans e3) h2, q H3 (e2.trans e3) ⟨ex_l ((e.trans e2).trans e3) h1, ex_l ((e.trans e2).trans e3) h2⟩⟩
/-- a, b = x, y where one of the names is a cell: a tuple is made -/
theorem q_parT {i j : Nat} {P1 P2 : Hp → V → Hp → Prop} (h1 : EvP ta σ H P1) (h2 : EvP tb σ H P2) (k : ∀ v w H1 H2 H3, Ex H H1 → Ex H1 H2 → Ex H2 H3 → P1 H v H1 → P2 H1 w H2 → tz D ((σ.set i (some v)).set j (some w)) H3) : tSeq (tAsg (tTup (tCons ta (tCons tb tNil))) (gTup K 2 (gCons (gName i) (gCons (gName j) gNil)))) tz D σ H :=
  h1 H (Ex.refl H) _ fun v H1 e1 p1 => h2 H1 e1 _ fun w H2 e2 p2 => ⟨sz_of (show 2 ≤ 100000 by decide), fun p np => ⟨p, [v, w], rfl, st_of upd_same, rfl, v, [w], rfl, w, [], rfl, rfl, k v w H1 H2 _ e1 e2 (Ex.new np) p1 p2⟩⟩
theorem el_revL {a : Addr} {xs : List V} (ha : Ev ta σ H (.ref a)) (h : SqL K H a xs) : EvL (tRevL K ta) σ H xs.reverse := fun H1 e Q q => ha H1 e _ fun H2 e2 =>
  ⟨a, xs, rfl, ex_l (e.trans e2) h, fun p np => q p _ (fresh_back e2 np) (e2.trans (Ex.new np)) upd_same⟩
end
theorem cut_last (xs : List V) (x : V) : cutV (xs ++ [x]) none (some (-1)) = xs := by
  unfold cutV
  rw [HT.sIx_none]
  have h : HT.sIx (xs ++ [x]).length (xs ++ [x]).length (some (-1)) = xs.length := by
    rw [List.length_append]
    show HT.sIx (xs.length + 1) (xs.length + 1) (some (-1)) = _
    unfold HT.sIx
    simp
    omega
  rw [h]
  simp
/-! ### data with None -/
def od : Option Nat → PyData
  | some n => .int (n : Int)
  | none => .none
abbrev dO (xs : List (Option Nat)) : PyData := .list (xs.map od)
theorem sh_od {n : Nat} (x : Option Nat) : Sh n (od x) := by
  cases x
  · exact sh_none
  · exact sh_int _
theorem sh_dO (xs : List (Option Nat)) : Sh 1 (dO xs) := sh_list (sh_map fun x => sh_od x)
theorem dp_ov {K : PySem.W.Frag} {H : Hp} (x : Option Nat) : Dp K H (ov x) (od x) := by
  cases x
  · exact .non
  · exact .int _
theorem dp_LO {K : PySem.W.Frag} {H : Hp} {a : Addr} {xs : List (Option Nat)} (h : SqL K H a (xs.map ov)) : Dp K H (.ref a) (dO xs) := .lst h (dpAll_map (fun x => dp_ov x) xs)
theorem shw_od {x : Option Nat} (h : ∀ n, x = some n → n < 100) : Shw 9 (od x) := by
  cases x with
  | none => exact shw_none
  | some n => exact shw_nat (h n rfl)
/-! ### law 2's own -/
def isW : Option Nat → Bool := Option.isSome
def sp_whole : Sp := spOf (α := Option Nat) (fun a vs _ => vs = [ov a]) (fun a _ v _ => v = .bl a.isSome)
def sp_words (K : PySem.W.Frag) : Sp := spOf (α := Addr × List (List Nat)) (fun a vs H => vs = [.ref a.1] ∧ LL K H a.1 a.2 ∧ Ok60 a.2) (fun a H v H' => ∃ p, v = .ref p ∧ H p = none ∧ H' p = some (.lst ((wordsM a.2).map fv)))
def WordRow (a q : Addr) (web : List (List Nat)) (k : Nat) (H : Hp) (i : Nat) (σ : L2.St) (H' : Hp) : Prop :=
  ∃ x2 x3 x4 : Option V, σ = [some (.ref a), some (.ref q), x2, x3, x4, none, none] ∧ Ex H H' ∧ H' q = some (.lst ((go (wordR web) (List.range i) (iter (wordR web) (List.range web.length) k (List.replicate web.length none))).map wv))
theorem iter_len {α : Type} {r : List (Option α) → Nat → Option α} {ps : List Nat} {k : Nat} {s : List (Option α)} : (iter r ps k s).length = s.length := (iter_grown k s).len
def sp_right2 (K : PySem.W.Frag) : Sp := spOf (α := Addr × List (List Nat)) (fun a vs H => vs = [.ref a.1] ∧ LL K H a.1 a.2 ∧ Ok60 a.2) (fun _ _ v _ => v = .bl true)
end Sr
set_option Elab.async false
set_option linter.all false
set_option maxRecDepth 100000
set_option maxHeartbeats 4000000
/-! SrV: values known as data: displays, comparisons; calls whose ghosts are found after the arguments; the line of places. -/
namespace Sr
open PySem PySem.Spec PyProof.Rows L2 Evl

/-- te gives something that reads as d -/
def EvD (K : PySem.W.Frag) (te : TE) (σ : L2.St) (H : Hp) (d : PyData) : Prop := EvP te σ H (fun _ v H2 => Dp K H2 v d)
def EvDs (K : PySem.W.Frag) (ta : TA) (σ : L2.St) (H : Hp) (ds : List PyData) : Prop := EvAP ta σ H (fun _ vs H2 => DpAll K H2 vs ds)
section
variable {K : PySem.W.Frag} {σ : L2.St} {H H' : Hp} {ta tb tc te tx : TE} {t u : TT} {x y z v : V} {r : R2} {D : Ends} {tu tw tz : TS} {g : TG} {d e : PyData} {ds : List PyData}
theorem DpAll.len {vs : List V} : ∀ {vs : List V} {ds : List PyData}, DpAll K H vs ds → vs.length = ds.length
  | _, _, .nil => rfl
  | _, _, .cons _ a => congrArg (· + 1) (DpAll.len (vs := []) a)
theorem ed_of (h : Ev te σ H v) (hd : Dp K H v d) : EvD K te σ H d := fun H1 e Q q => h H1 e Q fun H2 e2 => q v H2 e2 (Dp.mono (e.trans e2) hd)
theorem ed_P {P : Hp → V → Hp → Prop} (h : EvP te σ H P) (hd : ∀ H1 v H2, Ex H H1 → Ex H1 H2 → P H1 v H2 → Dp K H2 v d) : EvD K te σ H d := EvP.imp h hd
theorem ed_int {i : Int} : EvD K (tC (.int i)) σ H (.int i) := ed_of ev_c (.int i)
theorem ed_non : EvD K (tC .non) σ H .none := ed_of ev_c .non
theorem ed_bl {b : Bool} : EvD K (tC (.bl b)) σ H (.bool b) := ed_of ev_c (.bl b)
theorem ed_str {s : Str} : EvD K (tC (.str s)) σ H (.str s) := ed_of ev_c (.str s)
theorem ed_nil : EvDs K tNil σ H [] := fun H1 _ _ q => q [] H1 (Ex.refl H1) .nil
theorem ed_cons {tr : TA} (h : EvD K te σ H d) (hr : EvDs K tr σ H ds) : EvDs K (tCons te tr) σ H (d :: ds) := fun H1 e Q q =>
  h H1 e _ fun v H2 e2 h2 => hr H2 (e.trans e2) _ fun vs H3 e3 h3 => q _ H3 (e2.trans e3) (.cons (Dp.mono e3 h2) h3)
theorem ed_lst {ta : TA} (h : EvDs K ta σ H ds) (hl : ds.length ≤ 100000 := by decide) : EvD K (tLst ta) σ H (.list ds) := fun H1 e Q q => h H1 e _ fun vs H2 e2 h2 =>
  ⟨sz_of (by rw [DpAll.len (vs := []) h2]; exact hl), fun a na => q _ _ (e2.trans (Ex.new na)) (.lst (sq_of upd_same) (DpAll.mono (Ex.new na) h2))⟩
theorem ed_tup {ta : TA} (h : EvDs K ta σ H ds) (hl : ds.length ≤ 100000 := by decide) : EvD K (tTup ta) σ H (.tuple ds) := fun H1 e Q q => h H1 e _ fun vs H2 e2 h2 =>
  ⟨sz_of (by rw [DpAll.len (vs := []) h2]; exact hl), fun a na => q _ _ (e2.trans (Ex.new na)) (.tup (st_of upd_same) (DpAll.mono (Ex.new na) h2))⟩
theorem ev_eqDD (ha : EvD K ta σ H d) (hb : EvD K tb σ H e) (sd : Sh 60 d) (se : Sh 60 e) : Ev (tOp (rEqD K) ta tb) σ H (.bl (PyData.eqv d e)) :=
  ev_opPP ha hb fun _ _ _ _ _ _ _ e3 h1 h2 => rv_eqD (Dp.mono e3 h1) h2 sd se
theorem ev_neDD (ha : EvD K ta σ H d) (hb : EvD K tb σ H e) (sd : Sh 60 d) (se : Sh 60 e) : Ev (tOp (rNeD K) ta tb) σ H (.bl (!PyData.eqv d e)) :=
  ev_opPP ha hb fun _ _ _ _ _ _ _ e3 h1 h2 => rv_neD (Dp.mono e3 h1) h2 sd se
theorem el_D {xs : List (Option Nat)} (h : EvL te σ H (xs.map ov)) : EvD K te σ H (dO xs) := ed_P (EvP.ofL h) fun _ _ _ _ _ ⟨_, h1, _, h2⟩ => by
  subst h1
  exact dp_LO (sq_of h2)
/-! ### calls whose ghosts are found after the arguments -/
theorem ep_callG {α : Type} {A : α → List V → Hp → Prop} {R : α → Hp → V → Hp → Prop} {ta : TA} {E : XK} {PA : Hp → List V → Hp → Prop} {P : Hp → V → Hp → Prop} (h : EvAP ta σ H PA)
    (hA : ∀ H1 vs H2, Ex H H1 → Ex H1 H2 → PA H1 vs H2 → ∃ a, A a vs H2 ∧ ∀ v H3, Ex H2 H3 → R a H2 v H3 → P H1 v H3) : EvP (tCall (spOf A R) [] E ta) σ H P := fun H1 e Q q => h H1 e _ fun vs H2 e2 p => by
  obtain ⟨a, h1, h2⟩ := hA H1 vs H2 e e2 p
  refine ⟨a, ?_, fun v H3 e3 r => q v H3 (e2.trans e3) (h2 v H3 e3 r)⟩
  rw [List.append_nil]
  exact h1
/-- a source range(n) with n found on the way -/
theorem ep_rngP {C : Nat → Prop} {tt : TT} {vs : List Nat} {P : Hp → V → Hp → Prop} (h : EvP ta σ H (fun _ v _ => ∃ n : Nat, C n ∧ v = nv n)) (hP : ∀ H1 H2 v H3, Ex H1 H2 → P H2 v H3 → P H1 v H3)
    (k : ∀ n H1, Ex H H1 → C n → EvP (tLc (iRng1 (tCons (tC (nv n)) tNil)) g tt te vs) σ H1 P) : EvP (tLc (iRng1 (tCons ta tNil)) g tt te vs) σ H P :=
  fun H1 e Q q => h H1 e _ fun v H2 e2 ⟨n, hn, hv⟩ => by
    subst hv
    exact k n H2 (e.trans e2) hn H2 (Ex.refl H2) Q fun v H3 e3 p => q v H3 (e2.trans e3) (hP H1 H2 v H3 e2 p)
/-! ### the ends of written webs -/
theorem ed_ends {ta : TE} {rows : List (List Nat)} {P : Hp → V → Hp → Prop} (h : EvP ta σ H P) (hP : ∀ H1 v H2, Ex H H1 → Ex H1 H2 → P H1 v H2 → ∃ p, v = .ref p ∧ LL K H2 p rows) (ok : Ok60 rows) : EvD K (tCall (sp_ends_of K) [] E0 (tCons ta tNil)) σ H (dO (endsM rows)) :=
  ep_callG (PA := fun H1 vs H2 => ∃ v, vs = [v] ∧ ∃ p, v = .ref p ∧ LL K H2 p rows) (fun H1 e Q q => h H1 e _ fun v H2 e2 p => q _ H2 e2 ⟨v, rfl, hP H1 v H2 e e2 p⟩) fun H1 vs H2 _ _ ⟨v, hv, p, hp, hl⟩ => by
    subst hv hp
    exact ⟨(p, rows), ⟨rfl, hl, ok⟩, fun v H3 _ ⟨p2, h1, _, h2⟩ => by
      subst h1
      exact dp_LO (sq_of h2)⟩
theorem el_ends {ta : TE} {rows : List (List Nat)} {P : Hp → V → Hp → Prop} (h : EvP ta σ H P) (hP : ∀ H1 v H2, Ex H H1 → Ex H1 H2 → P H1 v H2 → ∃ p, v = .ref p ∧ LL K H2 p rows) (ok : Ok60 rows) : EvL (tCall (sp_ends_of K) [] E0 (tCons ta tNil)) σ H ((endsM rows).map ov) :=
  fun H1 e Q q => h H1 e _ fun v H2 e2 hp => by
    obtain ⟨p, rfl, hl⟩ := hP H1 v H2 e e2 hp
    exact ⟨(p, rows), ⟨rfl, hl, ok⟩, fun v H3 e3 ⟨p2, h1, h2, h3⟩ => by
      subst h1
      exact q p2 H3 (fresh_back e2 h2) (e2.trans e3) h3⟩
theorem el_catB {xs ys : List V} {l : Addr} (ha : Ev ta σ H (.ref l)) (hl : H l = some (.lst xs)) (hb : EvL tb σ H ys) (hz : xs.length + ys.length ≤ 100000) : EvL (tOp rCat ta tb) σ H (xs ++ ys) := fun H1 e Q q => ha H1 e _ fun H2 e2 => hb H2 (e.trans e2) _ fun p H3 n3 e3 hp =>
  ⟨l, p, xs, ys, rfl, rfl, ((e.trans e2).trans e3) _ _ hl, hp, sz_of hz, fun r hr => q r _ (fresh_back (e2.trans e3) hr) ((e2.trans e3).trans (Ex.new hr)) upd_same⟩
theorem ll_cat {p p2 r : Addr} {as as2 : List Addr} {w1 w2 : List (List Nat)} (m1 : MW p as w1 H) (m2 : MW p2 as2 w2 H) (hr : H r = none) : LL K (upd H r (.lst (as.map V.ref ++ as2.map V.ref))) r (w1 ++ w2) := by
  refine ⟨as ++ as2, sq_of (by rw [upd_same, List.map_append]), by rw [List.length_append, List.length_append, m1.len, m2.len], fun i q row ha hb => sq_of (Ex.new hr _ _ ?_)⟩
  by_cases hi : i < as.length
  · rw [List.getElem?_append_left hi] at ha
    rw [List.getElem?_append_left (by rw [← m1.len]; exact hi)] at hb
    exact (m1.row i q row ha hb).2
  · rw [List.getElem?_append_right (by omega)] at ha
    rw [List.getElem?_append_right (by rw [← m1.len]; omega), ← m1.len] at hb
    exact (m2.row _ q row ha hb).2
theorem dispLL {rows : List (List Nat)} : ∀ H1 v H2, Ex H H1 → Ex H1 H2 → (∃ p as, v = V.ref p ∧ H1 p = none ∧ MW p as rows H2 ∧ as.Nodup ∧ ∀ r ∈ as, H1 r = none) → ∃ p, v = .ref p ∧ LL K H2 p rows := fun _ _ _ _ _ ⟨p, _, h, _, m, _⟩ => ⟨p, h, m.ll⟩
end
/-! ### the line of places -/
def lineW (n : Nat) : List (List Nat) := (List.range n).map fun i => if 0 < i then [i - 1] else []
theorem lineW_len (n : Nat) : (lineW n).length = n := by
  unfold lineW
  rw [List.length_map, List.length_range]
theorem lineW_at {n i : Nat} (h : i < n) : (lineW n)[i]? = some (if 0 < i then [i - 1] else []) := by
  unfold lineW
  rw [List.getElem?_map, List.getElem?_range h]
  rfl
theorem lineW_good (n : Nat) : Good (lineW n) := fun row hr => by
  rw [lineW_len]
  obtain ⟨i, hi, rfl⟩ := List.mem_map.mp hr
  rw [List.mem_range] at hi
  split
  · exact ⟨List.pairwise_singleton _ _, fun x hx => by rw [List.mem_singleton] at hx; omega⟩
  · exact ⟨List.Pairwise.nil, fun x hx => nomatch hx⟩
def lineX (n : Nat) : List (List Nat) := (lineW n).map (· ++ [n]) ++ [[]]
theorem lineX_len (n : Nat) : (lineX n).length = n + 1 := by
  unfold lineX
  rw [List.length_append, List.length_map, lineW_len]
  rfl
theorem lineX_good (n : Nat) : Good (lineX n) := fun row hr => by
  rw [lineX_len]
  rcases List.mem_append.mp hr with hr | hr
  · obtain ⟨r0, h0, rfl⟩ := List.mem_map.mp hr
    obtain ⟨h1, h2⟩ := lineW_good n r0 h0
    rw [lineW_len] at h2
    refine ⟨rise_snoc h1 h2, fun x hx => ?_⟩
    rcases List.mem_append.mp hx with hx | hx
    · have := h2 x hx
      omega
    · rw [List.mem_singleton] at hx
      omega
  · rw [List.mem_singleton] at hr
    subst hr
    exact ⟨List.Pairwise.nil, fun x hx => nomatch hx⟩
/-- a web, or what would be one with at most 61 places -/
def WebLike (K : PySem.W.Frag) (H : Hp) (v : V) : Prop := ∃ p web, v = .ref p ∧ LL K H p web ∧ Good web ∧ 1 ≤ web.length ∧ web.length ≤ 61
theorem WebLike.mono {K : PySem.W.Frag} {H H' : Hp} {v : V} (e : Ex H H') (h : WebLike K H v) : WebLike K H' v := by
  obtain ⟨p, web, h1, h2, h3⟩ := h
  exact ⟨p, web, h1, h2.mono e, h3⟩
end Sr
set_option linter.all false
set_option maxHeartbeats 1000000
/-! SrM2: numbers of places: the rule, what holds of given numbers, that the order does not matter. -/
namespace Sr
/-- the least number that isn't in xs: looked for from k on, at most n steps -/
def mexF (xs : List Nat) : Nat → Nat → Nat
  | 0, k => k
  | n + 1, k => if k ∈ xs then mexF xs n (k + 1) else k
def mex (xs : List Nat) : Nat := mexF xs (xs.length + 1) 0
theorem mexF_below (xs : List Nat) : ∀ n k j, k ≤ j → j < mexF xs n k → j ∈ xs
  | 0, k, j, h1, h2 => by
    have : j < k := h2
    omega
  | n + 1, k, j, h1, h2 => by
    unfold mexF at h2
    by_cases hk : k ∈ xs
    · rw [if_pos hk] at h2
      by_cases e : k = j
      · subst e
        exact hk
      · exact mexF_below xs n (k + 1) j (by omega) h2
    · rw [if_neg hk] at h2
      omega
theorem mexF_le (xs : List Nat) : ∀ n k, mexF xs n k ≤ k + n
  | 0, k => Nat.le_refl _
  | n + 1, k => by
    unfold mexF
    split
    · have := mexF_le xs n (k + 1)
      omega
    · omega
theorem mexF_out (xs : List Nat) : ∀ n k, mexF xs n k < k + n → mexF xs n k ∉ xs
  | 0, k, h => by
    have : k < k + 0 := h
    omega
  | n + 1, k, h => by
    unfold mexF at h ⊢
    by_cases hk : k ∈ xs
    · rw [if_pos hk] at h ⊢
      exact mexF_out xs n (k + 1) (by omega)
    · rw [if_neg hk]
      exact hk
theorem range_len {xs : List Nat} {n : Nat} (h : ∀ j, j < n → j ∈ xs) : n ≤ xs.length := by
  have hs : List.range n ⊆ xs := fun j hj => h j (List.mem_range.mp hj)
  have := List.Nodup.length_le_of_subset List.nodup_range hs
  rw [List.length_range] at this
  exact this
theorem mex_below {xs : List Nat} {j : Nat} (h : j < mex xs) : j ∈ xs := mexF_below xs _ 0 j (Nat.zero_le _) h
theorem mex_le (xs : List Nat) : mex xs ≤ xs.length := range_len fun j hj => mex_below hj
theorem mex_out (xs : List Nat) : mex xs ∉ xs := mexF_out xs _ 0 (by have := mex_le xs; show mex xs < _; omega)
theorem mex_is {xs : List Nat} {m : Nat} (h1 : m ∉ xs) (h2 : ∀ j, j < m → j ∈ xs) : mex xs = m := by
  rcases Nat.lt_trichotomy (mex xs) m with h | h | h
  · exact absurd (h2 _ h) (mex_out xs)
  · exact h
  · exact absurd (mex_below h) h1

/-! ### numbers -/
def nums (s : List (Option Nat)) (row : List Nat) : List Nat := row.filterMap fun o => s.getD o none
theorem mem_nums {s : List (Option Nat)} {row : List Nat} {k : Nat} : k ∈ nums s row ↔ ∃ o ∈ row, s.getD o none = some k := by
  unfold nums
  rw [List.mem_filterMap]
def numR (web : Webs) (s : List (Option Nat)) (p : Nat) : Option Nat :=
  if (roads web p).all (fun o => (s.getD o none).isSome || (roads web o).any fun b => s.getD b none == some (mex (nums s (roads web p)))) then some (mex (nums s (roads web p))) else none
theorem numR_some {web : Webs} {s : List (Option Nat)} {p m : Nat} : numR web s p = some m ↔ m = mex (nums s (roads web p)) ∧ ∀ o ∈ roads web p, s.getD o none = none → ∃ b ∈ roads web o, s.getD b none = some m := by
  unfold numR
  generalize hm : mex (nums s (roads web p)) = m'
  have key : ((roads web p).all (fun o => (s.getD o none).isSome || (roads web o).any fun b => s.getD b none == some m')) = true ↔ ∀ o ∈ roads web p, s.getD o none = none → ∃ b ∈ roads web o, s.getD b none = some m' := by
    rw [List.all_eq_true]
    constructor
    · intro h o ho hn
      have := h o ho
      rw [hn, Option.isSome_none, Bool.false_or, List.any_eq_true] at this
      obtain ⟨b, hb, hb2⟩ := this
      exact ⟨b, hb, eq_of_beq hb2⟩
    · intro h o ho
      cases hn : s.getD o none with
      | some v => rfl
      | none =>
        rw [Option.isSome_none, Bool.false_or, List.any_eq_true]
        obtain ⟨b, hb, hb2⟩ := h o ho hn
        exact ⟨b, hb, by rw [hb2]; exact beq_self_eq_true _⟩
  split
  · rename_i h
    constructor
    · intro e
      cases Option.some.inj e
      exact ⟨rfl, key.mp h⟩
    · rintro ⟨rfl, _⟩
      rfl
  · rename_i h
    constructor
    · intro e
      cases e
    · rintro ⟨rfl, h2⟩
      exact absurd (key.mpr h2) h
/-- what holds of numbers that were given by the rule -/
structure NumOk (web : Webs) (s : List (Option Nat)) : Prop where
  /-- no road leads to an alike number -/
  apart : ∀ p k, s.getD p none = some k → ∀ o ∈ roads web p, s.getD o none ≠ some k
  /-- all lesser ones are near -/
  below : ∀ p k, s.getD p none = some k → ∀ j, j < k → ∃ o ∈ roads web p, s.getD o none = some j
  /-- whatever isn't less leads back -/
  back : ∀ p k, s.getD p none = some k → ∀ o ∈ roads web p, (∃ j, j < k ∧ s.getD o none = some j) ∨ ∃ b ∈ roads web o, s.getD b none = some k
theorem getD_set {α : Type} {s : List (Option α)} {p q : Nat} {v : α} (h : s[p]? = some none) : (s.set p (some v)).getD q none = if p = q then some v else s.getD q none := by
  have hp : p < s.length := (List.getElem?_eq_some_iff.mp h).1
  rw [List.getD_eq_getElem?_getD, List.getElem?_set]
  split
  · rfl
  · rw [List.getD_eq_getElem?_getD]
theorem numOk_nil (web : Webs) (n : Nat) : NumOk web (List.replicate n none) := by
  have h : ∀ p k, (List.replicate n (none : Option Nat)).getD p none ≠ some k := fun p k e => by
    have := of_getD e
    rw [List.getElem?_replicate] at this
    split at this
    · cases this
    · cases this
  exact ⟨fun p k e => absurd e (h p k), fun p k e => absurd e (h p k), fun p k e => absurd e (h p k)⟩
theorem numOk_step {web : Webs} {s : List (Option Nat)} {p m : Nat} (ok : NumOk web s) (hp : s[p]? = some none) (hr : numR web s p = some m) : NumOk web (s.set p (some m)) := by
  obtain ⟨hm, hu⟩ := numR_some.mp hr
  have hpn : s.getD p none = none := getD_of hp
  have up : ∀ o k, s.getD o none = some k → (s.set p (some m)).getD o none = some k := fun o k e => by
    rw [getD_set hp, if_neg (fun z => by rw [← z, hpn] at e; cases e)]
    exact e
  have nom : ∀ o ∈ roads web p, s.getD o none ≠ some m := fun o ho e => by
    have : m ∈ nums s (roads web p) := mem_nums.mpr ⟨o, ho, e⟩
    rw [hm] at this
    exact mex_out _ this
  have back : ∀ q k, (s.set p (some m)).getD q none = some k → ∀ o ∈ roads web q, (∃ j, j < k ∧ (s.set p (some m)).getD o none = some j) ∨ ∃ b ∈ roads web o, s.getD b none = some k := fun q k e o ho => by
    rw [getD_set hp] at e
    split at e
    · rename_i hq
      subst hq
      cases Option.some.inj e
      cases hs : s.getD o none with
      | none => exact .inr (hu o ho hs)
      | some j =>
        rcases Nat.lt_trichotomy j m with h | h | h
        · exact .inl ⟨j, h, up o j hs⟩
        · subst h
          exact absurd hs (nom o ho)
        · obtain ⟨b, hb, hb2⟩ := ok.below o j hs m h
          exact .inr ⟨b, hb, hb2⟩
    · rcases ok.back q k e o ho with ⟨j, h1, h2⟩ | h
      · exact .inl ⟨j, h1, up o j h2⟩
      · exact .inr h
  refine ⟨fun q k e o ho e2 => ?_, fun q k e j hj => ?_, fun q k e o ho => ?_⟩
  · rw [getD_set hp] at e2
    split at e2
    · -- o is p itself
      rename_i hpo
      subst hpo
      cases Option.some.inj e2
      rcases back q m e p ho with ⟨j, h1, h2⟩ | ⟨b, hb, hb2⟩
      · rw [getD_set hp, if_pos rfl] at h2
        cases Option.some.inj h2
        omega
      · exact nom b hb hb2
    · rw [getD_set hp] at e
      split at e
      · rename_i hq
        subst hq
        cases Option.some.inj e
        exact nom o ho e2
      · exact ok.apart q k e o ho e2
  · rw [getD_set hp] at e
    split at e
    · rename_i hq
      subst hq
      cases Option.some.inj e
      rw [hm] at hj
      obtain ⟨o, ho, h2⟩ := mem_nums.mp (mex_below hj)
      exact ⟨o, ho, up o j h2⟩
    · obtain ⟨o, ho, h2⟩ := ok.below q k e j hj
      exact ⟨o, ho, up o j h2⟩
  · rcases back q k e o ho with h | ⟨b, hb, h2⟩
    · exact .inl h
    · exact .inr ⟨b, hb, up b k h2⟩
/-- all that can be is given -/
def Full (web : Webs) (g : List (Option Nat)) : Prop := ∀ p, p < g.length → g.getD p none = none → numR web g p = none
/-- one step of any giving stays within a full one -/
theorem num_within {web : Webs} {s g : List (Option Nat)} {p m : Nat} (ok : NumOk web g) (full : Full web g) (hl : s.length = g.length) (hs : ∀ q k, s.getD q none = some k → g.getD q none = some k) (hp : s[p]? = some none) (hr : numR web s p = some m) : g.getD p none = some m := by
  obtain ⟨hm, hu⟩ := numR_some.mp hr
  have hpl : p < g.length := by rw [← hl]; exact (List.getElem?_eq_some_iff.mp hp).1
  have low : ∀ j, j < m → ∃ o ∈ roads web p, g.getD o none = some j := fun j hj => by
    rw [hm] at hj
    obtain ⟨o, ho, h⟩ := mem_nums.mp (mex_below hj)
    exact ⟨o, ho, hs o j h⟩
  have no : ∀ o ∈ roads web p, g.getD o none ≠ some m := fun o ho e => by
    cases h : s.getD o none with
    | none =>
      obtain ⟨b, hb, h2⟩ := hu o ho h
      exact ok.apart o m e b hb (hs b m h2)
    | some k =>
      have := hs o k h
      rw [e] at this
      cases Option.some.inj this
      have hin : m ∈ nums s (roads web p) := mem_nums.mpr ⟨o, ho, h⟩
      rw [hm] at hin
      exact mex_out _ hin
  cases hg : g.getD p none with
  | none =>
    have h1 : mex (nums g (roads web p)) = m := mex_is (fun hin => by
      obtain ⟨o, ho, h⟩ := mem_nums.mp hin
      exact no o ho h) fun j hj => mem_nums.mpr (low j hj)
    have h2 : numR web g p = some m := numR_some.mpr ⟨h1.symm, fun o ho hn => by
      have hsn : s.getD o none = none := by
        cases h : s.getD o none with
        | none => rfl
        | some k => rw [hs o k h] at hn; cases hn
      obtain ⟨b, hb, h3⟩ := hu o ho hsn
      exact ⟨b, hb, hs b m h3⟩⟩
    rw [full p hpl hg] at h2
    cases h2
  | some k =>
    rcases Nat.lt_trichotomy k m with h | h | h
    · obtain ⟨o, ho, h2⟩ := low k h
      exact absurd h2 (ok.apart p k hg o ho)
    · rw [h]
    · obtain ⟨o, ho, h2⟩ := ok.below p k hg m h
      exact absurd h2 (no o ho)
/-- given by the rule, one by one -/
inductive NumBy (web : Webs) : List (Option Nat) → Prop
  | nil : NumBy web (List.replicate web.length none)
  | step {s : List (Option Nat)} {p m : Nat} (h : NumBy web s) (hp : s[p]? = some none) (hr : numR web s p = some m) : NumBy web (s.set p (some m))
theorem NumBy.ok {web : Webs} {s : List (Option Nat)} (h : NumBy web s) : NumOk web s := by
  induction h with
  | nil => exact numOk_nil web _
  | step _ hp hr ih => exact numOk_step ih hp hr
theorem NumBy.len {web : Webs} {s : List (Option Nat)} (h : NumBy web s) : s.length = web.length := by
  induction h with
  | nil => exact List.length_replicate
  | step _ _ _ ih => rw [List.length_set]; exact ih
theorem NumBy.within {web : Webs} {s g : List (Option Nat)} (h : NumBy web s) (hg : NumBy web g) (full : Full web g) : ∀ q k, s.getD q none = some k → g.getD q none = some k := by
  induction h with
  | nil => exact fun q k e => absurd e (by
      have := of_getD e
      rw [List.getElem?_replicate] at this
      split at this
      · cases this
      · cases this)
  | step h hp hr ih =>
    intro q k e
    rw [getD_set hp] at e
    split at e
    · rename_i hq
      subst hq
      cases Option.some.inj e
      exact num_within hg.ok full (by rw [h.len, hg.len]) ih hp hr
    · exact ih q k e
theorem ext_getD {s t : List (Option Nat)} (hl : s.length = t.length) (h : ∀ q, s.getD q none = t.getD q none) : s = t := by
  refine List.ext_getElem hl fun i h1 h2 => ?_
  have := h i
  rw [List.getD_eq_getElem?_getD, List.getD_eq_getElem?_getD, List.getElem?_eq_getElem h1, List.getElem?_eq_getElem h2] at this
  exact this
/-- the order does not matter -/
theorem num_one {web : Webs} {s g : List (Option Nat)} (hs : NumBy web s) (fs : Full web s) (hg : NumBy web g) (fg : Full web g) : s = g := ext_getD (by rw [hs.len, hg.len]) fun q => by
  cases h : s.getD q none with
  | some k => rw [hs.within hg fg q k h]
  | none =>
    cases h2 : g.getD q none with
    | none => rfl
    | some k => rw [hg.within hs fs q k h2] at h; cases h
theorem numBy_go {web : Webs} {ps : List Nat} {s : List (Option Nat)} (h : NumBy web s) : NumBy web (go (numR web) ps s) := go_keeps (I := NumBy web) (fun _ _ _ h hp hr => .step h hp hr) ps s h
theorem numBy_iter {web : Webs} {ps : List Nat} {k : Nat} {s : List (Option Nat)} (h : NumBy web s) : NumBy web (iter (numR web) ps k s) := iter_keeps (I := NumBy web) (fun _ _ _ h hp hr => .step h hp hr) k s h
theorem full_of {web : Webs} {ps : List Nat} {s : List (Option Nat)} (hf : Fixed (numR web) ps s) (hps : ∀ p, p < s.length → p ∈ ps) : Full web s := fun p hp hn => hf p (hps p hp) (by
  rw [List.getD_eq_getElem?_getD, List.getElem?_eq_getElem hp] at hn
  rw [List.getElem?_eq_getElem hp]
  exact congrArg some hn)
/-- the numbers -/
def numsM (web : Webs) : List (Option Nat) := iter (numR web) (List.range web.length) web.length (List.replicate web.length none)
theorem numsM_by (web : Webs) : NumBy web (numsM web) := numBy_iter .nil
theorem numsM_len (web : Webs) : (numsM web).length = web.length := (numsM_by web).len
theorem iter_full {web : Webs} {ps : List Nat} (hps : ∀ p, p < web.length → p ∈ ps) : Full web (iter (numR web) ps web.length (List.replicate web.length none)) := by
  refine full_of (ps := ps) (iter_fixed web.length _ ?_) fun p hp => hps p ?_
  · have := cnt_le (List.replicate web.length (none : Option Nat))
    rw [List.length_replicate] at this
    exact this
  · rw [(numBy_iter (web := web) (ps := ps) (k := web.length) .nil).len] at hp
    exact hp
theorem numsM_full (web : Webs) : Full web (numsM web) := iter_full fun p hp => List.mem_range.mpr hp
theorem numsM_is {web : Webs} {g : List (Option Nat)} (hg : NumBy web g) (fg : Full web g) : g = numsM web := num_one hg fg (numsM_by web) (numsM_full web)
/-- the worths -/
inductive Wth where
  | num (n : Nat)
  | row (ns : List Nat)
  deriving DecidableEq, Repr
end Sr
set_option Elab.async false
set_option linter.all false
set_option maxRecDepth 100000
set_option maxHeartbeats 4000000
/-! SrW: worths of places: promises, what a list of worths looks like in the heap. -/
namespace Sr
open PySem PySem.Spec PyProof.Rows L2 Evl

/-! ### the least number that isn't there -/
def sp_least (K : PySem.W.Frag) : Sp := spOf (α := List (Option Nat)) (fun xs vs H => ∃ a, vs = [.ref a] ∧ SqL K H a (xs.map ov) ∧ xs.length ≤ 5000) (fun xs _ v _ => v = nv (mex (xs.filterMap id)))
theorem mem_somes {xs : List (Option Nat)} {k : Nat} : k ∈ xs.filterMap id ↔ (xs.any fun o => o == some k) = true := by
  rw [List.mem_filterMap, List.any_eq_true]
  constructor
  · rintro ⟨o, h1, h2⟩
    exact ⟨o, h1, by rw [show o = some k from h2]; exact beq_self_eq_true _⟩
  · rintro ⟨o, h1, h2⟩
    exact ⟨o, h1, eq_of_beq h2⟩
theorem inV_o (k : Nat) (xs : List (Option Nat)) : inV (nv k) (xs.map ov) = decide (k ∈ xs.filterMap id) := by
  have h := inV_ov k xs id
  have h2 : inV (nv k) (xs.map ov) = xs.any fun o => o == some k := h
  rw [h2]
  by_cases e : k ∈ xs.filterMap id
  · rw [decide_eq_true e, mem_somes.mp e]
  · rw [decide_eq_false e]
    cases hb : xs.any fun o => o == some k with
    | false => rfl
    | true => exact absurd (mem_somes.mpr hb) e
theorem flat_o (xs : List (Option Nat)) : (xs.map ov).all flatV = true := flat_ov xs id
/-- what the search finds -/
theorem mex_stop {xs : List Nat} {k : Nat} (h1 : ∀ j, j < k → j ∈ xs) (h2 : k ∉ xs) : mex xs = k := mex_is h2 h1
theorem below_le {xs : List Nat} {k : Nat} (h1 : ∀ j, j < k → j ∈ xs) : k ≤ xs.length := range_len h1
theorem nums_map (s : List (Option Nat)) (row : List Nat) : (row.map fun o => s.getD o none).filterMap id = nums s row := by
  rw [List.filterMap_map]
  rfl
/-! ### numbers -/
def sp_numbers (K : PySem.W.Frag) : Sp := spOf (α := Addr × List (List Nat)) (fun a vs H => vs = [.ref a.1] ∧ LL K H a.1 a.2 ∧ Ok60 a.2) (fun a H v H' => ∃ p, v = .ref p ∧ H p = none ∧ H' p = some (.lst ((numsM a.2).map ov)))
def NumInv (a q : Addr) (web : List (List Nat)) (b : Bool) (s : List (Option Nat)) (H : Hp) (σ : L2.St) (H' : Hp) : Prop :=
  ∃ x3 x4 x5 x6 : Option V, σ = [some (.ref a), some (.ref q), some (.bl b), x3, x4, x5, x6, none, none] ∧ Ex H H' ∧ H' q = some (.lst (s.map ov))
theorem numR_if {web : Webs} {s : List (Option Nat)} {p m : Nat} (hm : m = mex (nums s (roads web p))) : numR web s p = if ((roads web p).filter fun o => (s.getD o none).isNone).all (fun o => (roads web o).any fun b => s.getD b none == some m) then some m else none := by
  have e : ((roads web p).filter fun o => (s.getD o none).isNone).all (fun o => (roads web o).any fun b => s.getD b none == some m) = (roads web p).all (fun o => (s.getD o none).isSome || (roads web o).any fun b => s.getD b none == some m) := by
    rw [List.all_filter]
    congr 1
    funext o
    cases s.getD o none <;> rfl
  rw [e, hm]
  rfl
/-! ### worths -/
def sortN (ns : List Nat) : List Nat := (sortU (ns.map fun n : Nat => (n : Int))).map Int.toNat
theorem sortN_int (ns : List Nat) : (sortN ns).map (fun n : Nat => (n : Int)) = sortU (ns.map fun n : Nat => (n : Int)) := by
  unfold sortN
  rw [List.map_map]
  refine (List.map_congr_left fun z hz => ?_).trans (List.map_id _)
  rw [mem_sortU, List.mem_map] at hz
  obtain ⟨n, _, rfl⟩ := hz
  rfl
theorem mem_sortN {ns : List Nat} {k : Nat} : k ∈ sortN ns ↔ k ∈ ns := by
  have h : k ∈ sortN ns ↔ (k : Int) ∈ (sortN ns).map (fun n : Nat => (n : Int)) := by
    rw [List.mem_map]
    constructor
    · exact fun h => ⟨k, h, rfl⟩
    · rintro ⟨j, h1, h2⟩
      have : j = k := by omega
      rw [← this]
      exact h1
  rw [h, sortN_int, mem_sortU, List.mem_map]
  constructor
  · rintro ⟨j, h1, h2⟩
    have : j = k := by omega
    rw [← this]
    exact h1
  · exact fun h => ⟨k, h, rfl⟩
theorem sortN_rise (ns : List Nat) : (sortN ns).Pairwise (· < ·) := by
  have h := sortU_rise (ns.map fun n : Nat => (n : Int))
  rw [← sortN_int, List.pairwise_map] at h
  exact h.imp fun h => by omega
theorem sortN_len (ns : List Nat) : (sortN ns).length ≤ ns.length := List.Nodup.length_le_of_subset ((sortN_rise ns).imp fun h => by omega) fun x hx => mem_sortN.mp hx
def wthOf (web : Webs) (s : List (Option Nat)) (p : Nat) : Wth :=
  match s.getD p none with
  | some n => .num n
  | none => .row (sortN (nums s (roads web p)))
def wthM (web : Webs) : List Wth := (List.range web.length).map (wthOf web (numsM web))
theorem wthM_len (web : Webs) : (wthM web).length = web.length := by
  unfold wthM
  rw [List.length_map, List.length_range]
theorem wthM_at {web : Webs} {p : Nat} (h : p < web.length) : (wthM web)[p]? = some (wthOf web (numsM web) p) := by
  unfold wthM
  rw [List.getElem?_map, List.getElem?_range h]
  rfl
def dT : Wth → PyData
  | .num n => .int (n : Int)
  | .row ns => dI ns
abbrev dTs (ws : List Wth) : PyData := .list (ws.map dT)
theorem sh_dT (w : Wth) : Sh 1 (dT w) := by
  cases w
  · exact sh_int _
  · exact sh_dI _
theorem sh_dTs (ws : List Wth) : Sh 2 (dTs ws) := sh_list (sh_map sh_dT)
/-- one worth in the heap -/
def Wv (H : Hp) (p : Addr) (v : V) : Wth → Prop
  | .num n => v = nv n
  | .row ns => ∃ r, v = .ref r ∧ r ≠ p ∧ H r = some (.lst (ns.map nv))
theorem Wv.mono {H H' : Hp} {p : Addr} {v : V} {w : Wth} (e : ExO p H H') (h : Wv H p v w) : Wv H' p v w := by
  cases w with
  | num n => exact h
  | row ns =>
    obtain ⟨r, h1, h2, h3⟩ := h
    exact ⟨r, h1, h2, e _ _ h2 h3⟩
theorem Wv.dp {K : PySem.W.Frag} {H : Hp} {p : Addr} {v : V} {w : Wth} (h : Wv H p v w) : Dp K H v (dT w) := by
  cases w with
  | num n =>
    rw [show v = nv n from h]
    exact .int _
  | row ns =>
    obtain ⟨r, rfl, _, h3⟩ := h
    exact dp_LI (K := K) (sq_of h3)
/-- a list of worths: rows of its own, no two the same, all new since H0 -/
structure WL (H0 : Hp) (p : Addr) (ys : List V) (ws : List Wth) (H : Hp) : Prop where
  new : H0 p = none
  top : H p = some (.lst ys)
  len : ys.length = ws.length
  item : ∀ (i : Nat) (v : V) (w : Wth), ys[i]? = some v → ws[i]? = some w → Wv H p v w
  fresh : ∀ (i : Nat) (r : Addr), ys[i]? = some (.ref r) → H0 r = none
  one : ∀ (i j : Nat) (r : Addr), ys[i]? = some (.ref r) → ys[j]? = some (.ref r) → i = j
theorem WL.ex {H0 H H' : Hp} {p : Addr} {ys : List V} {ws : List Wth} (e : Ex H H') (h : WL H0 p ys ws H) : WL H0 p ys ws H' :=
  ⟨h.new, e _ _ h.top, h.len, fun i v w a b => (h.item i v w a b).mono (ExO.of e), h.fresh, h.one⟩
theorem WL.back {H0 H1 H : Hp} {p : Addr} {ys : List V} {ws : List Wth} (e : Ex H0 H1) (h : WL H1 p ys ws H) : WL H0 p ys ws H :=
  ⟨fresh_back e h.new, h.top, h.len, h.item, fun i r a => fresh_back e (h.fresh i r a), h.one⟩
theorem WL.dp {K : PySem.W.Frag} {H0 H : Hp} {p : Addr} {ys : List V} {ws : List Wth} (h : WL H0 p ys ws H) : Dp K H (.ref p) (dTs ws) := by
  refine .lst (sq_of h.top) (dpAll_of (by rw [List.length_map]; exact h.len) fun i v d hv hd => ?_)
  rw [List.getElem?_map] at hd
  cases hw : ws[i]? with
  | none => rw [hw] at hd; cases hd
  | some w =>
    rw [hw] at hd
    cases hd
    exact (h.item i v w hv hw).dp
/-- one more at the end -/
theorem WL.app {H0 H : Hp} {p : Addr} {ys : List V} {ws : List Wth} {v : V} {w : Wth} (h : WL H0 p ys ws H) (hv : Wv H p v w) (hf : ∀ r, v = .ref r → H0 r = none ∧ ∀ i : Nat, ys[i]? ≠ some (V.ref r)) : WL H0 p (ys ++ [v]) (ws ++ [w]) (upd H p (.lst (ys ++ [v]))) := by
  have at' : ∀ (i : Nat) (x : V), (ys ++ [v])[i]? = some x → (i < ys.length ∧ ys[i]? = some x) ∨ (i = ys.length ∧ x = v) := fun i x hx => by
    by_cases hi : i < ys.length
    · rw [List.getElem?_append_left hi] at hx
      exact .inl ⟨hi, hx⟩
    · rw [List.getElem?_append_right (by omega)] at hx
      have := (List.getElem?_eq_some_iff.mp hx).1
      simp at this
      have e : i - ys.length = 0 := by omega
      rw [e] at hx
      exact .inr ⟨by omega, (Option.some.inj hx).symm⟩
  refine ⟨h.new, upd_same, by rw [List.length_append, List.length_append, h.len]; rfl, fun i x u hx hu => ?_, fun i r hr => ?_, fun i j r hi hj => ?_⟩
  · rcases at' i x hx with ⟨h1, h2⟩ | ⟨h1, h2⟩
    · rw [List.getElem?_append_left (by rw [← h.len]; exact h1)] at hu
      exact (h.item i x u h2 hu).mono ExO.upd
    · rw [h1, h.len, List.getElem?_concat_length] at hu
      cases hu
      rw [h2]
      exact hv.mono ExO.upd
  · rcases at' i _ hr with ⟨h1, h2⟩ | ⟨h1, h2⟩
    · exact h.fresh i r h2
    · exact (hf r h2.symm).1
  · rcases at' i _ hi with ⟨h1, h2⟩ | ⟨h1, h2⟩ <;> rcases at' j _ hj with ⟨h3, h4⟩ | ⟨h3, h4⟩
    · exact h.one i j r h2 h4
    · exact absurd h2 ((hf r h4.symm).2 i)
    · exact absurd h4 ((hf r h2.symm).2 j)
    · omega
theorem WL.no {H0 H : Hp} {p r : Addr} {ys : List V} {ws : List Wth} (h : WL H0 p ys ws H) (hr : H r = none) : ∀ i : Nat, ys[i]? ≠ some (V.ref r) := fun i hi => by
  have hlt : i < ws.length := by rw [← h.len]; exact (List.getElem?_eq_some_iff.mp hi).1
  have := h.item i _ _ hi (List.getElem?_eq_getElem hlt)
  cases hw : ws[i] with
  | num n => rw [hw] at this; cases (show V.ref r = nv n from this)
  | row ns =>
    rw [hw] at this
    obtain ⟨r2, h1, _, h3⟩ := this
    cases h1
    rw [hr] at h3
    cases h3
theorem WL.nil {H0 H : Hp} {p : Addr} (h0 : H0 p = none) (h : H p = some (.lst [])) : WL H0 p [] [] H := ⟨h0, h, rfl, (fun i v w a _ => by simp at a), (fun i r a => by simp at a), (fun i j r a _ => by simp at a)⟩
theorem filt_nums (s : List (Option Nat)) : ∀ row : List Nat, (row.filter fun o => (s.getD o none).isSome).map (fun o => ov (s.getD o none)) = ((nums s row).map fun n : Nat => (n : Int)).map V.int
  | [] => rfl
  | o :: r => by
    have ih := filt_nums s r
    unfold nums at ih ⊢
    rw [List.filter_cons, List.filterMap_cons]
    cases h : s.getD o none with
    | none => exact ih
    | some n =>
      show ov (s.getD o none) :: _ = _
      rw [h, ih]
      rfl
theorem nums_len (s : List (Option Nat)) (row : List Nat) : (nums s row).length ≤ row.length := List.length_filterMap_le _ _
theorem ov_some (x : Option Nat) : (!decide (ov x = .non)) = x.isSome := by cases x <;> rfl
def sp_worths (K : PySem.W.Frag) : Sp := spOf (α := Addr × List (List Nat)) (fun a vs H => vs = [.ref a.1] ∧ LL K H a.1 a.2 ∧ Ok60 a.2) (fun a H v H' => ∃ p ys, v = .ref p ∧ WL H p ys (wthM a.2) H')
def sp_worth (K : PySem.W.Frag) : Sp := spOf (α := (Addr × List (List Nat)) × Nat) (fun a vs H => vs = [.ref a.1.1, nv a.2] ∧ LL K H a.1.1 a.1.2 ∧ Ok60 a.1.2 ∧ a.2 < a.1.2.length) (fun a H v H' => ∃ p, Wv H' p v (wthOf a.1.2 (numsM a.1.2) a.2) ∧ ∀ r, v = .ref r → H r = none)
end Sr
set_option Elab.async false
set_option linter.all false
set_option maxRecDepth 100000
set_option maxHeartbeats 4000000
/-! SrY: dicts of places to numbers, backward walks; law 3's own promises. -/
namespace Sr
open PySem PySem.Spec PyProof.Rows L2 Evl

/-- the dict tells what s tells -/
def Dr (kvs : List (L2.Key × V)) (s : List (Option Nat)) : Prop := ∀ p : Nat, valV kvs (.inl (p : Int)) = (s.getD p none).map nv
theorem dr_nil (n : Nat) : Dr [] (List.replicate n none) := fun p => by
  have : (List.replicate n (none : Option Nat)).getD p none = none := by
    rw [List.getD_eq_getElem?_getD, List.getElem?_replicate]
    split <;> rfl
  rw [this]
  rfl
theorem dr_put {kvs : List (L2.Key × V)} {s : List (Option Nat)} {p m : Nat} (h : Dr kvs s) (hp : s[p]? = some none) : Dr (putK kvs (.inl (p : Int)) (nv m)) (s.set p (some m)) := fun q => by
  rw [valV_put, getD_set hp]
  by_cases e : p = q
  · subst e
    rw [if_pos rfl, if_pos rfl]
    rfl
  · rw [if_neg (fun z => e (by have := Sum.inl.inj z; omega)), if_neg e]
    exact h q
section
variable {K : PySem.W.Frag} {σ : L2.St} {H H' : Hp} {ta tb tc td te ty tx : TE} {t u : TT} {x y z v : V} {r : R2} {D : Ends} {tu tw tz : TS} {g : TG} {kvs : List (L2.Key × V)} {s : List (Option Nat)} {a : Addr} {p : Nat}
theorem dgetH (e : H a = some (.dK kvs)) (h : Dr kvs s) : DGet H a (nv p) ((s.getD p none).map nv) := by
  rw [← h p]
  exact DGet.k (k := .inl (p : Int)) e
theorem ev_dget {n : Nat} (hd : Ev td σ H (.ref a)) (e : H a = some (.dK kvs)) (h : Dr kvs s) (hy : Ev ty σ H (nv p)) (hn : s.getD p none = some n) : Ev (tDGet td ty) σ H (nv n) := fun H1 e1 Q q => hd H1 e1 _ fun H2 e2 => hy H2 (e1.trans e2) _ fun H3 e3 =>
  ⟨a, nv n, rfl, by have := dgetH (p := p) (((e1.trans e2).trans e3) _ _ e) h; rw [hn] at this; exact this, q H3 (e2.trans e3)⟩
theorem isSome_map (o : Option Nat) : (o.map nv).isSome = o.isSome := by cases o <;> rfl
theorem ev_din (hy : Ev ty σ H (nv p)) (hd : Ev td σ H (.ref a)) (e : H a = some (.dK kvs)) (h : Dr kvs s) : Ev (tDIn ty td) σ H (.bl (s.getD p none).isSome) := fun H1 e1 Q q => hy H1 e1 _ fun H2 e2 => hd H2 (e1.trans e2) _ fun H3 e3 =>
  ⟨a, _, rfl, dgetH (p := p) (((e1.trans e2).trans e3) _ _ e) h, by rw [isSome_map]; exact q H3 (e2.trans e3)⟩
theorem ev_dni (hy : Ev ty σ H (nv p)) (hd : Ev td σ H (.ref a)) (e : H a = some (.dK kvs)) (h : Dr kvs s) : Ev (tDNotIn ty td) σ H (.bl (!(s.getD p none).isSome)) := fun H1 e1 Q q => hy H1 e1 _ fun H2 e2 => hd H2 (e1.trans e2) _ fun H3 e3 =>
  ⟨a, _, rfl, dgetH (p := p) (((e1.trans e2).trans e3) _ _ e) h, by rw [isSome_map]; exact q H3 (e2.trans e3)⟩
theorem getD_ov (o : Option Nat) : (o.map nv).getD .non = ov o := by cases o <;> rfl
theorem isD_of (e : H a = some (.dK kvs)) : IsD H a := .inl ⟨kvs, .inl e⟩
theorem ev_dget1 (hd : Ev td σ H (.ref a)) (e : H a = some (.dK kvs)) (h : Dr kvs s) (hy : Ev ty σ H (nv p)) : Ev (tDGet1 td ty) σ H (ov (s.getD p none)) := fun H1 e1 Q q => hd H1 e1 _ fun H2 e2 =>
  ⟨a, rfl, isD_of ((e1.trans e2) _ _ e), hy H2 (e1.trans e2) _ fun H3 e3 => ⟨_, dgetH (p := p) (((e1.trans e2).trans e3) _ _ e) h, by rw [getD_ov]; exact q H3 (e2.trans e3)⟩⟩
theorem ev_dget2 (hd : Ev td σ H (.ref a)) (e : H a = some (.dK kvs)) (h : Dr kvs s) (hy : Ev ty σ H (nv p)) (hx : Ev tx σ H x) : Ev (tDGet2 td ty tx) σ H (((s.getD p none).map nv).getD x) := fun H1 e1 Q q => hd H1 e1 _ fun H2 e2 =>
  ⟨a, rfl, isD_of ((e1.trans e2) _ _ e), hy H2 (e1.trans e2) _ fun H3 e3 => hx H3 ((e1.trans e2).trans e3) _ fun H4 e4 => ⟨_, dgetH (p := p) ((((e1.trans e2).trans e3).trans e4) _ _ e) h, q H4 ((e2.trans e3).trans e4)⟩⟩
theorem s_dput (hd : Ev td σ H (.ref a)) (e : H a = some (.dK kvs)) (hl : kvs.length ≤ 1000) (hy : Ev ty σ H (nv p)) (hv : Ev te σ H v) (k : ∀ H1, Ex H H1 → D.nx σ (upd H1 a (.dK (putK kvs (.inl (p : Int)) v)))) : sDPut td ty te D σ H :=
  hv H (Ex.refl H) _ fun H1 e1 => hd H1 e1 _ fun H2 e2 => hy H2 (e1.trans e2) _ fun H3 e3 => ⟨a, _, rfl, DPut.k (k := .inl (p : Int)) (((e1.trans e2).trans e3) _ _ e) (sz_lt (by omega)), k H3 ((e1.trans e2).trans e3)⟩
theorem ep_dnew : EvP tDNewK σ H (fun H1 v H2 => ∃ p, v = .ref p ∧ H1 p = none ∧ H2 p = some (.dK [])) := fun H1 _ Q q p np => q _ _ (Ex.new np) ⟨p, rfl, np, upd_same⟩
/-- for x in reversed(range(n)) -/
theorem s_forRev {n j : Nat} (h : Ev ta σ H (nv n)) (hn : n ≤ 100000) (Pv : Nat → L2.St → Hp → Prop) (h0 : ∀ H1, Ex H H1 → Pv 0 σ H1)
    (hs : ∀ i σ' H', i < n → Pv i σ' H' → tu { D with nx := Pv (i + 1), ct := Pv (i + 1), bk := D.nx } (σ'.set j (some (nv (n - 1 - i)))) H') (hd : ∀ σ' H', Pv n σ' H' → D.nx σ' H') : tFor (iRevR (tRg1 ta)) (gName j) tu D σ H := by
  have hi : EvI (iRevR (tRg1 ta)) σ H (Itc (0 + ((((n : Int) - 0).toNat : Nat) : Int) - 1) (-1) ((n : Int) - 0).toNat) (fun _ => True) := fun H1 e R q => h H1 e _ fun H2 e2 => ⟨(n : Int), rfl, by omega, by omega, by omega, by omega, q H2 e2 trivial⟩
  have en : ((n : Int) - 0).toNat = n := by omega
  rw [en] at hi
  refine s_forW hi walk_rangeC Pv (fun H1 e _ => h0 H1 e) (fun _ _ _ _ _ => trivial) (fun i x σ' H1 H' hlt p y => ?_) hd
  obtain ⟨rfl, rfl⟩ := y
  have ev : V.int (0 + (n : Int) - 1 + (i : Int) * (-1)) = nv (n - 1 - i) := congrArg V.int (by omega)
  show tu _ (σ'.set j (some (V.int (0 + (n : Int) - 1 + (i : Int) * (-1))))) H'
  rw [ev]
  exact hs i σ' H' hlt p
end
theorem go_take {α : Type} {r : List (Option α) → Nat → Option α} {ps : List Nat} {i p : Nat} {s : List (Option α)} (h : ps[i]? = some p) : go r (ps.take (i + 1)) s = giv r (go r (ps.take i) s) p := by
  unfold go
  rw [take_snoc h, List.foldl_append]
  rfl
theorem rev_at {n i : Nat} (h : i < n) : (List.range n).reverse[i]? = some (n - 1 - i) := by
  rw [List.getElem?_reverse (by rw [List.length_range]; exact h), List.length_range, List.getElem?_range (by omega)]
theorem numsM_rev (web : Webs) : iter (numR web) (List.range web.length).reverse web.length (List.replicate web.length none) = numsM web :=
  numsM_is (numBy_iter .nil) (iter_full fun p hp => List.mem_reverse.mpr (List.mem_range.mpr hp))
/-- the state of the dict walk: turn k, i places done -/
def DicRow (a q : Addr) (web : List (List Nat)) (k : Nat) (H : Hp) (i : Nat) (σ : L2.St) (H' : Hp) : Prop :=
  ∃ (x2 x3 x4 x5 x6 x7 x8 : Option V) (kvs : List (L2.Key × V)), σ = [some (.ref a), some (.ref q), x2, x3, x4, x5, x6, x7, x8, none, none, none] ∧ Ex H H' ∧ H' q = some (.dK kvs) ∧
    Dr kvs (go (numR web) ((List.range web.length).reverse.take i) (iter (numR web) (List.range web.length).reverse k (List.replicate web.length none))) ∧ kvs.length + cnt (go (numR web) ((List.range web.length).reverse.take i) (iter (numR web) (List.range web.length).reverse k (List.replicate web.length none))) = web.length
theorem cnt_rep (n : Nat) : cnt (List.replicate n (none : Option Nat)) = n := by
  unfold cnt
  rw [List.countP_replicate]
  rfl
theorem num_le {web : Webs} {s : List (Option Nat)} {p k : Nat} (ok : NumOk web s) (h : s.getD p none = some k) : k ≤ (roads web p).length :=
  Nat.le_trans (range_len fun j hj => mem_nums.mpr (ok.below p k h j hj)) (nums_len _ _)
theorem roads_len {web : Webs} (g : Good web) (p : Nat) : (roads web p).length ≤ web.length := by
  by_cases hp : p < web.length
  · have h : web[p]? = some web[p] := List.getElem?_eq_getElem hp
    rw [roads_of h]
    exact g.len (List.mem_of_getElem? h)
  · rw [roads_out (by omega)]
    exact Nat.zero_le _
/-- what worths are like: numbers and rows of at most 60 -/
def SmallW : Wth → Prop
  | .num n => n ≤ 60
  | .row ns => ns.length ≤ 60 ∧ ∀ n ∈ ns, n ≤ 60
theorem wth_small {web : Webs} (ok : Ok60 web) (p : Nat) : SmallW (wthOf web (numsM web) p) := by
  have hle := ok.le
  have hnum : ∀ q k, (numsM web).getD q none = some k → k ≤ 60 := fun q k h => by
    have h1 := num_le (numsM_by web).ok h
    have h2 := roads_len ok.good q
    omega
  unfold wthOf
  cases h : (numsM web).getD p none with
  | some k => exact hnum p k h
  | none =>
    refine ⟨?_, fun n hn => ?_⟩
    · have h1 := sortN_len (nums (numsM web) (roads web p))
      have h2 := nums_len (numsM web) (roads web p)
      have h3 := roads_len ok.good p
      omega
    · obtain ⟨o, _, ho⟩ := mem_nums.mp (mem_sortN.mp hn)
      exact hnum o n ho
theorem wthM_small {web : Webs} (ok : Ok60 web) : ∀ w ∈ wthM web, SmallW w := fun w hw => by
  obtain ⟨p, _, rfl⟩ := List.mem_map.mp hw
  exact wth_small ok p
theorem shw_dT {w : Wth} (h : SmallW w) : Shw 662 (dT w) := by
  cases w with
  | num n =>
    have hs : Shw 9 (dT (.num n)) := shw_nat (Nat.lt_of_le_of_lt (show n ≤ 60 from h) (by decide))
    exact ⟨hs.ok, hs.nod, Nat.le_trans hs.le (by decide)⟩
  | row ns => exact shw_dI (n := 60) (fun x hx => Nat.lt_of_le_of_lt (h.2 x hx) (by decide)) h.1
theorem dpAll_drop {K : PySem.W.Frag} {H : Hp} {p : Addr} {ys : List V} {ws : List Wth} {i : Nat} (hl : ys.length = ws.length) (h : ∀ (j : Nat) (v : V) (w : Wth), i ≤ j → ys[j]? = some v → ws[j]? = some w → Wv H p v w) : DpAll K H (ys.drop i) ((ws.drop i).map dT) := by
  refine dpAll_of (by rw [List.length_map, List.length_drop, List.length_drop, hl]) fun j v d hv hd => ?_
  rw [List.getElem?_map] at hd
  rw [List.getElem?_drop] at hv hd
  cases hw : ws[i + j]? with
  | none => rw [hw] at hd; cases hd
  | some w =>
    rw [hw] at hd
    cases hd
    exact (h (i + j) v w (by omega) hv hw).dp
def sp_kinds (K : PySem.W.Frag) : Sp := spOf (α := Addr × List V × List Wth) (fun a vs H => vs = [.ref a.1] ∧ SqL K H a.1 a.2.1 ∧ a.2.1.length ≤ 1000 ∧ (∀ v ∈ a.2.1, ∃ w p, Wv H p v w ∧ SmallW w)) (fun _ _ v _ => v = .bl true)
def sp_right3 (K : PySem.W.Frag) : Sp := sp_right2 K
end Sr
set_option linter.all false
set_option maxHeartbeats 1000000
set_option maxRecDepth 100000
/-! SrM3: the numbers of webs whose first places lead to all before them. -/
namespace Sr
theorem upS_at {n k o : Nat} (h : o < k) : ((List.range k).map some ++ List.replicate (n - k) (none : Option Nat)).getD o none = some o := by
  rw [List.getD_eq_getElem?_getD, List.getElem?_append_left (by rw [List.length_map, List.length_range]; exact h), List.getElem?_map, List.getElem?_range h]
  rfl
theorem up_by {web : Webs} : ∀ k, k ≤ web.length → (∀ i, i < k → roads web i = List.range i) → NumBy web ((List.range k).map some ++ List.replicate (web.length - k) none)
  | 0, _, _ => by
    have h : NumBy web (List.replicate web.length none) := .nil
    exact h
  | k + 1, hk, hr => by
    have ih := up_by k (by omega) fun i hi => hr i (by omega)
    have hro := hr k (by omega)
    have hlen : ((List.range k).map (some : Nat → Option Nat)).length = k := by rw [List.length_map, List.length_range]
    have hrep : List.replicate (web.length - k) (none : Option Nat) = none :: List.replicate (web.length - (k + 1)) none := by
      rw [show web.length - k = (web.length - (k + 1)) + 1 by omega, List.replicate_succ]
    have hp : ((List.range k).map some ++ List.replicate (web.length - k) (none : Option Nat))[k]? = some none := by
      rw [List.getElem?_append_right (by rw [hlen]; exact Nat.le_refl _), hlen, Nat.sub_self, hrep]
      rfl
    have hnum : numR web ((List.range k).map some ++ List.replicate (web.length - k) none) k = some k := by
      refine numR_some.mpr ⟨?_, fun o ho hn => ?_⟩
      · rw [hro]
        refine (mex_is (fun h => ?_) fun j hj => mem_nums.mpr ⟨j, List.mem_range.mpr hj, upS_at hj⟩).symm
        obtain ⟨o, ho, h2⟩ := mem_nums.mp h
        rw [upS_at (List.mem_range.mp ho)] at h2
        cases h2
        exact absurd (List.mem_range.mp ho) (Nat.lt_irrefl _)
      · rw [hro] at ho
        rw [upS_at (List.mem_range.mp ho)] at hn
        cases hn
    have st := NumBy.step ih hp hnum
    rw [List.set_append_right _ _ (by rw [hlen]; exact Nat.le_refl _), hlen, Nat.sub_self, hrep] at st
    have e : (List.range k).map some ++ (none :: List.replicate (web.length - (k + 1)) (none : Option Nat)).set 0 (some k) = (List.range (k + 1)).map some ++ List.replicate (web.length - (k + 1)) none := by
      rw [List.set_cons_zero, List.range_succ, List.map_append, List.append_assoc]
      rfl
    rw [e] at st
    exact st
def upW (n : Nat) : List (List Nat) := (List.range n).map List.range
theorem upW_len (n : Nat) : (upW n).length = n := by
  unfold upW
  rw [List.length_map, List.length_range]
theorem upW_at {n i : Nat} (h : i < n) : (upW n)[i]? = some (List.range i) := by
  unfold upW
  rw [List.getElem?_map, List.getElem?_range h]
  rfl
theorem upW_good (n : Nat) : Good (upW n) := fun row hr => by
  rw [upW_len]
  obtain ⟨i, hi, rfl⟩ := List.mem_map.mp hr
  rw [List.mem_range] at hi
  exact ⟨List.pairwise_lt_range, fun x hx => by have := List.mem_range.mp hx; omega⟩
theorem upW_nums (n : Nat) : numsM (upW n) = (List.range n).map some := by
  have h := up_by (web := upW n) n (by rw [upW_len]; exact Nat.le_refl _) fun i hi => roads_of (upW_at hi)
  rw [upW_len, Nat.sub_self, List.replicate_zero, List.append_nil] at h
  refine (numsM_is h fun p hp hn => ?_).symm
  rw [List.length_map, List.length_range] at hp
  have := upS_at (n := n) hp
  rw [Nat.sub_self, List.replicate_zero, List.append_nil, hn] at this
  cases this
theorem upW_wth (n : Nat) : wthM (upW n) = (List.range n).map Wth.num := by
  unfold wthM
  rw [upW_len]
  refine List.map_congr_left fun p hp => ?_
  unfold wthOf
  have := upS_at (n := n) (List.mem_range.mp hp)
  rw [Nat.sub_self, List.replicate_zero, List.append_nil] at this
  rw [upW_nums, this]
def greatW : List (List Nat) := upW 40 ++ [[0, 5, 39, 40]]
theorem greatW_len : greatW.length = 41 := by
  unfold greatW
  rw [List.length_append, upW_len]
  rfl
theorem greatW_at {i : Nat} (h : i < 40) : greatW[i]? = some (List.range i) := by
  unfold greatW
  rw [List.getElem?_append_left (by rw [upW_len]; exact h)]
  exact upW_at h
theorem greatW_last : greatW[40]? = some [0, 5, 39, 40] := by
  unfold greatW
  rw [List.getElem?_append_right (by rw [upW_len]; exact Nat.le_refl _), upW_len]
  rfl
theorem greatW_good : Good greatW := fun row hr => by
  rw [greatW_len]
  rcases List.mem_append.mp hr with hr | hr
  · obtain ⟨h1, h2⟩ := upW_good 40 row hr
    rw [upW_len] at h2
    exact ⟨h1, fun x hx => by have := h2 x hx; omega⟩
  · rw [List.mem_singleton] at hr
    subst hr
    exact ⟨by decide, by decide⟩
theorem greatW_nums : numsM greatW = (List.range 40).map some ++ List.replicate 1 none := by
  have h := up_by (web := greatW) 40 (by rw [greatW_len]; decide) fun i hi => roads_of (greatW_at hi)
  rw [greatW_len] at h
  refine (numsM_is h fun p hp hn => ?_).symm
  rw [List.length_append, List.length_map, List.length_range] at hp
  have hp40 : p = 40 := by
    by_cases hlt : p < 40
    · have := upS_at (n := 41) hlt
      rw [hn] at this
      cases this
    · have h1 : (List.replicate (41 - 40) (none : Option Nat)).length = 1 := rfl
      rw [h1] at hp
      omega
  subst hp40
  have hs : ∀ o, o < 40 → ((List.range 40).map some ++ List.replicate (41 - 40) (none : Option Nat)).getD o none = some o := fun o ho => upS_at (n := 41) ho
  cases hr : numR greatW ((List.range 40).map some ++ List.replicate (41 - 40) none) 40 with
  | none => rfl
  | some m =>
    obtain ⟨hm, hu⟩ := numR_some.mp hr
    rw [roads_of greatW_last] at hm hu
    have hmex : mex (nums ((List.range 40).map some ++ List.replicate (41 - 40) none) [0, 5, 39, 40]) = 1 := mex_is (fun h => by
      obtain ⟨o, ho, h2⟩ := mem_nums.mp h
      simp only [List.mem_cons, List.not_mem_nil, or_false] at ho
      rcases ho with rfl | rfl | rfl | rfl
      · rw [hs 0 (by decide)] at h2; cases h2
      · rw [hs 5 (by decide)] at h2; cases h2
      · rw [hs 39 (by decide)] at h2; cases h2
      · rw [hn] at h2; cases h2) fun j hj => mem_nums.mpr ⟨0, by decide, by rw [hs 0 (by decide)]; congr 1; omega⟩
    rw [hmex] at hm
    subst hm
    obtain ⟨b, hb, h2⟩ := hu 40 (by decide) hn
    rw [roads_of greatW_last] at hb
    simp only [List.mem_cons, List.not_mem_nil, or_false] at hb
    rcases hb with rfl | rfl | rfl | rfl
    · rw [hs 0 (by decide)] at h2; cases h2
    · rw [hs 5 (by decide)] at h2; cases h2
    · rw [hs 39 (by decide)] at h2; cases h2
    · rw [hn] at h2; cases h2
theorem greatW_wth : wthOf greatW (numsM greatW) 40 = .row [0, 5, 39] := by
  have hs : ∀ o, o < 40 → (numsM greatW).getD o none = some o := fun o ho => by
    rw [greatW_nums]
    exact upS_at (n := 41) ho
  have hn : (numsM greatW).getD 40 none = none := by
    rw [greatW_nums, List.getD_eq_getElem?_getD, List.getElem?_append_right (by rw [List.length_map, List.length_range]; exact Nat.le_refl _), List.length_map, List.length_range]
    rfl
  unfold wthOf
  rw [hn, roads_of greatW_last]
  show Wth.row (sortN (nums (numsM greatW) [0, 5, 39, 40])) = _
  have : nums (numsM greatW) [0, 5, 39, 40] = [0, 5, 39] := by
    unfold nums
    rw [List.filterMap_cons, hs 0 (by decide)]
    show 0 :: List.filterMap _ _ = _
    rw [List.filterMap_cons, hs 5 (by decide)]
    show 0 :: 5 :: List.filterMap _ _ = _
    rw [List.filterMap_cons, hs 39 (by decide)]
    show 0 :: 5 :: 39 :: List.filterMap _ _ = _
    rw [List.filterMap_cons, hn]
    rfl
  rw [this]
  decide +kernel
end Sr
set_option Elab.async false
set_option linter.all false
set_option maxRecDepth 100000
set_option maxHeartbeats 4000000
/-! SrZ: the worths of written webs; list(range(n)); a drawn choice. -/
namespace Sr
open PySem PySem.Spec PyProof.Rows L2 Evl
section
variable {K : PySem.W.Frag} {σ : L2.St} {H H' : Hp} {ta tb tc td te ty tx : TE} {t u : TT} {x y z v : V} {r : R2} {D : Ends} {tu tw tz : TS} {g : TG}
theorem ep_ifDraw {c : Int} {x y : V} (h : EvP te σ H (fun _ v _ => ∃ r : Nat, v = nv r)) : EvP (tIf (tTest (tOp rEq te (tC (.int c)))) (tC x) (tC y)) σ H (fun _ v _ => v = x ∨ v = y) :=
  fun H1 e Q q => h H1 e _ fun v H2 e2 ⟨r, hv⟩ => by
    subst hv
    refine ⟨rfl, decide (nv r = .int c), rfl, ?_⟩
    cases decide (nv r = .int c) with
    | true => exact q x H2 e2 (.inl rfl)
    | false => exact q y H2 e2 (.inr rfl)
theorem el_rng {n : Nat} (h : Ev ta σ H (nv n)) (hn : n ≤ 100000) : EvL (tLstRg (tRg1 ta)) σ H ((List.range n).map nv) := fun H1 e Q q => h H1 e _ fun H2 e2 => ⟨(n : Int), rfl, RgOk.of_le (by omega) (by omega) (by omega) (by omega), fun p np => q p _ (fresh_back e2 np) (e2.trans (Ex.new np)) (by
    rw [upd_same]
    unfold rgV
    rw [show ((n : Int) - 0).toNat = n by omega]
    congr 2
    refine List.map_congr_left fun i _ => congrArg V.int ?_
    omega)⟩
theorem ed_worths {ta : TE} {rows : List (List Nat)} {P : Hp → V → Hp → Prop} (h : EvP ta σ H P) (hP : ∀ H1 v H2, Ex H H1 → Ex H1 H2 → P H1 v H2 → ∃ p, v = .ref p ∧ LL K H2 p rows) (ok : Ok60 rows) : EvD K (tCall (sp_worths K) [] E0 (tCons ta tNil)) σ H (dTs (wthM rows)) :=
  ep_callG (PA := fun H1 vs H2 => ∃ v, vs = [v] ∧ ∃ p, v = .ref p ∧ LL K H2 p rows) (fun H1 e Q q => h H1 e _ fun v H2 e2 p => q _ H2 e2 ⟨v, rfl, hP H1 v H2 e e2 p⟩) fun H1 vs H2 _ _ ⟨v, hv, p, hp, hl⟩ => by
    subst hv hp
    exact ⟨(p, rows), ⟨rfl, hl, ok⟩, fun v H3 _ ⟨p2, ys, h1, wl⟩ => by
      subst h1
      exact wl.dp⟩
theorem ep_worths {ta : TE} {rows : List (List Nat)} {P : Hp → V → Hp → Prop} (h : EvP ta σ H P) (hP : ∀ H1 v H2, Ex H H1 → Ex H1 H2 → P H1 v H2 → ∃ p, v = .ref p ∧ LL K H2 p rows) (ok : Ok60 rows) : EvP (tCall (sp_worths K) [] E0 (tCons ta tNil)) σ H (fun Ha v Hb => ∃ p ys, v = .ref p ∧ WL Ha p ys (wthM rows) Hb) :=
  ep_callG (PA := fun H1 vs H2 => ∃ v, vs = [v] ∧ ∃ p, v = .ref p ∧ LL K H2 p rows) (fun H1 e Q q => h H1 e _ fun v H2 e2 p => q _ H2 e2 ⟨v, rfl, hP H1 v H2 e e2 p⟩) fun H1 vs H2 _ e12 ⟨v, hv, p, hp, hl⟩ => by
    subst hv hp
    exact ⟨(p, rows), ⟨rfl, hl, ok⟩, fun v H3 _ ⟨p2, ys, h1, wl⟩ => ⟨p2, ys, h1, wl.back e12⟩⟩
theorem ed_worth {rows : List (List Nat)} {a : Addr} {p : Nat} (h : Ev ta σ H (.ref a)) (hl : LL K H a rows) (hp : Ev tb σ H (nv p)) (ok : Ok60 rows) (hlt : p < rows.length) : EvD K (tCall (sp_worth K) [] E0 (tCons ta (tCons tb tNil))) σ H (dT (wthOf rows (numsM rows) p)) :=
  ep_callA ((a, rows), p) (ea_cons h (ea_cons hp ea_nil)) (fun H2 e => ⟨rfl, hl.mono e, ok, hlt⟩) fun _ _ v Hb _ _ _ ⟨q, h1, _⟩ => h1.dp
end
theorem WL.nums {H0 H : Hp} {p : Addr} {ys : List V} {ns : List Nat} (h : WL H0 p ys (ns.map Wth.num) H) : ys = ns.map nv := by
  have hl := h.len
  rw [List.length_map] at hl
  refine List.ext_getElem (by rw [List.length_map]; exact hl) fun i h1 h2 => ?_
  have h3 : i < ns.length := by rw [← hl]; exact h1
  have := h.item i ys[i] (.num ns[i]) (List.getElem?_eq_getElem h1) (by rw [List.getElem?_map, List.getElem?_eq_getElem h3]; rfl)
  rw [List.getElem_map]
  exact this
/-- an item that is a new list, not there in H0 -/
def NewRowF {α : Type} (H0 : Hp) (row : α → List V) : Addr → α → V → Hp → Prop := fun D z v H => ∃ r, v = .ref r ∧ r ≠ D ∧ H0 r = none ∧ H r = some (.lst (row z))
theorem newRowF_st {α : Type} {H0 : Hp} {row : α → List V} : ∀ D z v Ha Hb, NewRowF H0 row D z v Ha → ExO D Ha Hb → NewRowF H0 row D z v Hb := fun D z v Ha Hb ⟨r, h1, h2, h3, h4⟩ e => ⟨r, h1, h2, h3, e r _ h2 h4⟩
theorem EvL.newRowF {α : Type} {row : α → List V} {z : α} {D : Addr} {te : TE} {σ : L2.St} {H0 H : Hp} (e0 : Ex H0 H) (h : EvL te σ H (row z)) (hD : H D ≠ none) : EvP te σ H (fun _ v Hb => NewRowF H0 row D z v Hb) :=
  fun H1 e Q q => h H1 e Q fun p H2 np e2 hp => q _ H2 e2 ⟨p, rfl, fun z => hD (by rw [← z]; exact fresh_back e np), fresh_back (e0.trans e) np, hp⟩
theorem mw_of_rowsF {p : Addr} {ys : List V} {web : List (List Nat)} {H0 H : Hp} (h1 : H p = some (.lst ys)) (h2 : ys.length = web.length) (h3 : ∀ (j : Nat) (z : List Nat) (y : V), web[j]? = some z → ys[j]? = some y → NewRowF H0 (fun row => row.map nv) p z y H) : ∃ as, MW p as web H ∧ ∀ r ∈ as, H0 r = none := by
  obtain ⟨as, mw⟩ := mw_of_rows h1 h2 fun j z y hz hy => by
    obtain ⟨r, g1, g2, _, g4⟩ := h3 j z y hz hy
    exact ⟨r, g1, g2, g4⟩
  refine ⟨as, mw, fun r hr => ?_⟩
  have e : ys = as.map V.ref := by
    have := mw.top
    rw [h1] at this
    cases this
    rfl
  obtain ⟨j, hj, hjr⟩ := List.getElem_of_mem hr
  have hjw : j < web.length := by rw [← mw.len]; exact hj
  obtain ⟨r', g1, _, g3, _⟩ := h3 j web[j] (.ref r) (List.getElem?_eq_getElem hjw) (by rw [e, List.getElem?_map, List.getElem?_eq_getElem hj, hjr]; rfl)
  cases g1
  exact g3
/-- two made lists of rows, one behind the other -/
theorem mw_cat {H : Hp} {p p2 r : Addr} {as as2 : List Addr} {w1 w2 : List (List Nat)} (m1 : MW p as w1 H) (m2 : MW p2 as2 w2 H) (hr : H r = none) : MW r (as ++ as2) (w1 ++ w2) (upd H r (.lst (as.map V.ref ++ as2.map V.ref))) := by
  refine ⟨by rw [upd_same, List.map_append], by rw [List.length_append, List.length_append, m1.len, m2.len], fun i q row ha hb => ?_⟩
  have key : H q = some (.lst (row.map nv)) := by
    by_cases hi : i < as.length
    · rw [List.getElem?_append_left hi] at ha
      rw [List.getElem?_append_left (by rw [← m1.len]; exact hi)] at hb
      exact (m1.row i q row ha hb).2
    · rw [List.getElem?_append_right (by omega)] at ha
      rw [List.getElem?_append_right (by rw [← m1.len]; omega), ← m1.len] at hb
      exact (m2.row _ q row ha hb).2
  exact ⟨ne_of_none key hr, Ex.new hr _ _ key⟩
/-- a change elsewhere -/
theorem MW.off {H : Hp} {p r : Addr} {as : List Addr} {web : List (List Nat)} {o : HO} (m : MW p as web H) (h1 : p ≠ r) (h2 : ∀ x ∈ as, x ≠ r) : MW p as web (upd H r o) :=
  ⟨by rw [upd_ne h1]; exact m.top, m.len, fun j x row ha hb => ⟨(m.row j x row ha hb).1, by rw [upd_ne (h2 x (List.mem_of_getElem? ha))]; exact (m.row j x row ha hb).2⟩⟩
def WebOk (K : PySem.W.Frag) (H : Hp) (v : V) : Prop := ∃ p web, v = .ref p ∧ LL K H p web ∧ Ok60 web
theorem WebOk.mono {K : PySem.W.Frag} {H H' : Hp} {v : V} (e : Ex H H') (h : WebOk K H v) : WebOk K H' v := by
  obtain ⟨p, web, h1, h2, h3⟩ := h
  exact ⟨p, web, h1, h2.mono e, h3⟩
end Sr
set_option Elab.async false
set_option linter.all false
set_option maxRecDepth 100000
set_option maxHeartbeats 4000000
/-! SrMM: min and max of a list of pairs of numbers: the comparison reads the heap. -/
namespace Sr
open PySem PySem.Spec PyProof.Rows L2 Evl

def CmpH (prog : Program) (w : World) (A : Around) (op : CmpOp) (P : Nat → Value → Prop) (bt : Nat → Nat → Bool) (G : Heap → Prop) : Prop :=
  ∀ i j vi vj (s : Shared) (Q : Value → Shared → Prop) (E : Value → Shared → Prop), G s.heap → P i vi → P j vj → Q (.bool (bt i j)) s → wpAny (model prog w) A (richCompare op vi vj) Q E s
/-- G holds behind all that leaves alone what is outside wr and S -/
def Lasts (G : Heap → Prop) (wr : List Addr) (S : Addr) : Prop := ∀ h h' : Heap, G h → (∀ b o, b ∉ wr → b ≠ S → h.get? b = some o → h'.get? b = some o) → G h'

section
variable {prog : Program} {w : World} {A : Around} {R : Result → Shared → Prop} {I S : Addr} {fp wr : List Addr} {n : Nat} {P : Nat → Value → Prop} {St : Nat → Heap → Prop} {G : Heap → Prop} {bt : Nat → Nat → Bool}
theorem max_turns (W : Walks prog w A.in1 I fp wr n P St) (hc : CmpH prog w A.in1 .Gt P bt G) (hG : Lasts G wr S) (hSf : S ∉ fp) (k : Nat) : ∀ (j : Nat) (s : Shared) (vb : Value) (c : Nat), n - (j + 1) = k → j + 1 ≤ n → St (j + 1) s.heap ∧ G s.heap ∧ P (argBest bt j) vb →
    s.heap.get? S = some { cls := .type "list", dict := none, data := .seq #[vb, vb] c, slots := #[] } → (∀ v h' tk, P (argBest bt (n - 1)) v → (∀ b o, b ∉ wr → b ≠ S → s.heap.get? b = some o → h'.get? b = some o) → R (.ok (.ret v)) { s with heap := h', toks := tk }) → codeAny (model prog w) A (.builtin "max.loop" ⟨[.ref I, .none, .ref S], []⟩) R s := by
  have hw : S ∉ wr := fun h => hSf (W.sub _ h)
  have nm : (toString "max" ++ toString ".loop" : String) = "max.loop" := by decide
  induction k with
  | zero =>
    rintro j s vb c hk hj ⟨st, g, pb⟩ hS hR
    have e : j + 1 = n := by omega
    refine codeAny_builtin F.entry_max_loop ?_; rw [Around.under_plainId F.plain_max_loop _]; show wpAny _ A.in1 (seqItems? (.ref S) >>= _) _ _ s
    refine wpAny_bind (wpAny_seqItems hS rfl ?_); show wpAny _ A.in1 (tryCatch (pyNext (.ref I)) _ >>= _) _ _ s
    refine wpAny_bind (wpAny_tryCatch (W.done s _ _ (e ▸ st) fun h' tk old => ?_)); show wpAny _ A.in1 (updateSeq S (fun _ => #[]) >>= _) _ _ _
    exact wpAny_bind (wpAny_updateSeq (old S _ hw hS) rfl (wpAny_bind (wpAny_letGo (wpAny_pure (hR vb _ tk (by rw [← e]; exact pb) fun b o h1 h2 e' => (Heap.get?_update_other _ _ (Ne.symm h2)).trans (old b o h1 e'))))))
  | succ k ih =>
    rintro j s vb c hk hj ⟨st, g, pb⟩ hS hR
    have lt : j + 1 < n := by omega
    refine codeAny_builtin F.entry_max_loop ?_; rw [Around.under_plainId F.plain_max_loop _]; show wpAny _ A.in1 (seqItems? (.ref S) >>= _) _ _ s
    refine wpAny_bind (wpAny_seqItems hS rfl ?_); show wpAny _ A.in1 (tryCatch (pyNext (.ref I)) _ >>= _) _ _ s
    refine wpAny_bind (wpAny_tryCatch (W.item (j + 1) s _ _ lt st fun v h' tk pv st' old => ?_))
    have hS' := old S _ hw hS
    have g' : G h' := hG _ _ g fun b o h1 _ e => old b o h1 e
    show wpAny _ A.in1 (tryCatch (holding [v, v] (richCompare .Gt v vb >>= _)) _ >>= _) _ _ _
    refine wpAny_bind (wpAny_tryCatch (wpAny_holding (wpAny_bind (hc (j + 1) (argBest bt j) v vb _ _ _ g' pv pb ?_)))); refine wpAny_bind (wpAny_holding (wpAny_truthy_bool ?_)); refine wpAny_bind (wpAny_letGo (wpAny_pure ?_))
    cases hb : bt (j + 1) (argBest bt j) with
    | true =>
      simp only [if_true]
      refine wpAny_bind ?_
      refine wpAny_updateSeq hS' rfl (wpAny_bind (wpAny_letGo ?_))
      rw [nm]
      refine wpAny_pure ⟨plainId_quiet F.plain_max_loop _, ih (j + 1) _ v _ (by omega) lt ⟨W.frame _ _ _ st' fun b hbf o e' => ?_, hG _ _ g' fun b o h1 h2 e' => (Heap.get?_update_other _ _ (Ne.symm h2)).trans e', by simp only [argBest, hb, if_true]; exact pv⟩ (Heap.get?_update_self _ hS' rfl) fun v' h2' tk' pv' old' => hR v' h2' tk' pv' fun b o h1 h2 e' => old' b o h1 h2 ((Heap.get?_update_other _ _ (Ne.symm h2)).trans (old b o h1 e'))⟩
      exact (Heap.get?_update_other _ _ (fun h : S = b => hSf (by rw [h]; exact hbf))).trans e'
    | false =>
      simp only [Bool.false_eq_true, if_false]
      refine wpAny_bind (wpAny_letGo ?_); rw [nm]
      exact wpAny_pure ⟨plainId_quiet F.plain_max_loop _, ih (j + 1) _ vb c (by omega) lt ⟨st', g', by simp only [argBest, hb, Bool.false_eq_true, if_false]; exact pb⟩ hS' fun v' h2' tk' pv' old' => hR v' h2' tk' pv' fun b o h1 h2 e' => old' b o h1 h2 (old b o h1 e')⟩
theorem max_first (W : Walks prog w A.in1 I fp wr n P St) (hc : CmpH prog w A.in1 .Gt P bt G) (hG : Lasts G wr S) (hSf : S ∉ fp) (hn : 0 < n) {s : Shared} {c : Nat} (st : St 0 s.heap) (g : G s.heap) (hS : s.heap.get? S = some { cls := .type "list", dict := none, data := .seq #[] c, slots := #[] })
    (hR : ∀ v h' tk, P (argBest bt (n - 1)) v → (∀ b o, b ∉ wr → b ≠ S → s.heap.get? b = some o → h'.get? b = some o) → R (.ok (.ret v)) { s with heap := h', toks := tk }) : codeAny (model prog w) A (.builtin "max.loop" ⟨[.ref I, .none, .ref S], []⟩) R s := by
  have hw : S ∉ wr := fun h => hSf (W.sub _ h)
  have nm : (toString "max" ++ toString ".loop" : String) = "max.loop" := by decide
  refine codeAny_builtin F.entry_max_loop ?_; rw [Around.under_plainId F.plain_max_loop _]; show wpAny _ A.in1 (seqItems? (.ref S) >>= _) _ _ s
  refine wpAny_bind (wpAny_seqItems hS rfl ?_); show wpAny _ A.in1 (tryCatch (pyNext (.ref I)) _ >>= _) _ _ s
  refine wpAny_bind (wpAny_tryCatch (W.item 0 s _ _ hn st fun v h' tk pv st' old => ?_))
  have hS' := old S _ hw hS
  have g' : G h' := hG _ _ g fun b o h1 _ e => old b o h1 e
  show wpAny _ A.in1 (updateSeq S (fun _ => #[v, v]) >>= _) _ _ _
  refine wpAny_bind ?_; refine wpAny_updateSeq hS' rfl ?_; rw [nm]
  refine wpAny_pure ⟨plainId_quiet F.plain_max_loop _, max_turns W hc hG hSf _ 0 _ v _ rfl hn ⟨W.frame _ _ _ st' fun b hbf o e' => ?_, hG _ _ g' fun b o h1 h2 e' => (Heap.get?_update_other _ _ (Ne.symm h2)).trans e', pv⟩ (Heap.get?_update_self _ hS' rfl) fun v' h2' tk' pv' old' => hR v' h2' tk' pv' fun b o h1 h2 e' => old' b o h1 h2 ((Heap.get?_update_other _ _ (Ne.symm h2)).trans (old b o h1 e'))⟩
  exact (Heap.get?_update_other _ _ (fun h : S = b => hSf (by rw [h]; exact hbf))).trans e'
end
section
variable {prog : Program} {w : World} {A : Around} {E : Value → Shared → Prop} {s : Shared}
/-- max(x) of a list; the items are read in the heap -/
theorem max_listH {l : Addr} {its : Array Value} {bt : Nat → Nat → Bool} {Q : Value → Shared → Prop} (hh : A.handled = none) (hl : s.heap.IsList l its) (hn : 0 < its.size) {G : Heap → Prop} (g : G s.heap) (hG : ∀ h h' : Heap, G h → (∀ b o, b < s.heap.objs.size → h.get? b = some o → h'.get? b = some o) → G h')
    (hc : CmpH prog w A.in1 .Gt (fun i v => its[i]? = some v) bt G) (hQ : ∀ v h' tk, its[argBest bt (its.size - 1)]? = some v → (∀ b o, s.heap.get? b = some o → h'.get? b = some o) → Q v { s with heap := h', toks := tk }) : wpAny (model prog w) A (call (.builtin "max") [.ref l]) Q E s := by
  have nm : (toString "max" ++ toString ".loop" : String) = "max.loop" := by decide
  have hlt : l < s.heap.objs.size := by obtain ⟨_, e, _⟩ := hl; exact Heap.lt_size e
  refine call_function_tree F.kind_max F.plain_max F.entry_max (F.args_max1 _) ?_
  show wpAny _ A.in1 (Builtin.Builtins.bindParams "max" ["key", "default"] 0 ⟨[], []⟩ >>= _) _ _ s
  refine wpAny_bind (wpAny_of_eq (show Builtin.Builtins.bindParams "max" ["key", "default"] 0 ⟨[], []⟩ = pure [none, none] from rfl) ?_); refine wpAny_bind (wpAny_pure ?_)
  refine wpAny_bind (wpAny_pyIter_list hl ?_)
  refine wpAny_bind (wpAny_newObj_type ?_)
  rw [nm]
  have hne : l ≠ s.heap.objs.size := Nat.ne_of_lt hlt
  have k1 : ∀ (o : Obj) (b : Addr) (q : Obj), s.heap.get? b = some q → (s.heap.push o).get? b = some q := fun o b q e => Heap.get?_push_of_some _ e
  refine wpAny_pure ⟨plainId_quiet F.plain_max_loop _, max_first (G := G) (bt := bt) (Walks.list (A := A.in1) hh s.heap.objs.size l hne its) hc (fun h h' gh old => hG h h' gh fun b o hb e => old b o (fun hm => ?_) (fun z => ?_) e) ?_ hn ?_ ?_ (Heap.get?_push_size _ rfl) fun v h' tk pv old => ?_⟩
  · rw [List.mem_singleton] at hm
    exact absurd hb (by rw [hm]; exact Nat.lt_irrefl _)
  · rw [z, Heap.size_push] at hb
    omega
  · rw [Heap.size_push]
    simp only [List.mem_cons, List.not_mem_nil, or_false, not_or]
    exact ⟨Nat.succ_ne_self _, fun z => absurd hlt (by rw [← z]; exact Nat.not_lt.mpr (Nat.le_succ _))⟩
  · refine ⟨⟨_, Heap.get?_push_of_some _ (Heap.get?_push_size _ rfl), rfl, rfl⟩, (hl.push _).push _⟩
  · exact hG _ _ g fun b o _ e => k1 _ b o e |> Heap.get?_push_of_some _
  · refine hQ v h' tk pv fun b o e => old b o (fun hm => ?_) (fun z => ?_) (Heap.get?_push_of_some _ (k1 _ b o e))
    · rw [List.mem_singleton] at hm
      exact absurd (Heap.lt_size e) (by rw [hm]; exact Nat.lt_irrefl _)
    · have := Heap.lt_size e
      rw [z, Heap.size_push] at this
      exact absurd this (Nat.not_lt.mpr (Nat.le_succ _))
end

section
variable {prog : Program} {w : World} {A : Around} {R : Result → Shared → Prop} {I S : Addr} {fp wr : List Addr} {n : Nat} {P : Nat → Value → Prop} {St : Nat → Heap → Prop} {G : Heap → Prop} {bt : Nat → Nat → Bool}
theorem min_turns (W : Walks prog w A.in1 I fp wr n P St) (hc : CmpH prog w A.in1 .Lt P bt G) (hG : Lasts G wr S) (hSf : S ∉ fp) (k : Nat) : ∀ (j : Nat) (s : Shared) (vb : Value) (c : Nat), n - (j + 1) = k → j + 1 ≤ n → St (j + 1) s.heap ∧ G s.heap ∧ P (argBest bt j) vb →
    s.heap.get? S = some { cls := .type "list", dict := none, data := .seq #[vb, vb] c, slots := #[] } → (∀ v h' tk, P (argBest bt (n - 1)) v → (∀ b o, b ∉ wr → b ≠ S → s.heap.get? b = some o → h'.get? b = some o) → R (.ok (.ret v)) { s with heap := h', toks := tk }) → codeAny (model prog w) A (.builtin "min.loop" ⟨[.ref I, .none, .ref S], []⟩) R s := by
  have hw : S ∉ wr := fun h => hSf (W.sub _ h)
  have nm : (toString "min" ++ toString ".loop" : String) = "min.loop" := by decide
  induction k with
  | zero =>
    rintro j s vb c hk hj ⟨st, g, pb⟩ hS hR
    have e : j + 1 = n := by omega
    refine codeAny_builtin F.entry_min_loop ?_; rw [Around.under_plainId F.plain_min_loop _]; show wpAny _ A.in1 (seqItems? (.ref S) >>= _) _ _ s
    refine wpAny_bind (wpAny_seqItems hS rfl ?_); show wpAny _ A.in1 (tryCatch (pyNext (.ref I)) _ >>= _) _ _ s
    refine wpAny_bind (wpAny_tryCatch (W.done s _ _ (e ▸ st) fun h' tk old => ?_)); show wpAny _ A.in1 (updateSeq S (fun _ => #[]) >>= _) _ _ _
    exact wpAny_bind (wpAny_updateSeq (old S _ hw hS) rfl (wpAny_bind (wpAny_letGo (wpAny_pure (hR vb _ tk (by rw [← e]; exact pb) fun b o h1 h2 e' => (Heap.get?_update_other _ _ (Ne.symm h2)).trans (old b o h1 e'))))))
  | succ k ih =>
    rintro j s vb c hk hj ⟨st, g, pb⟩ hS hR
    have lt : j + 1 < n := by omega
    refine codeAny_builtin F.entry_min_loop ?_; rw [Around.under_plainId F.plain_min_loop _]; show wpAny _ A.in1 (seqItems? (.ref S) >>= _) _ _ s
    refine wpAny_bind (wpAny_seqItems hS rfl ?_); show wpAny _ A.in1 (tryCatch (pyNext (.ref I)) _ >>= _) _ _ s
    refine wpAny_bind (wpAny_tryCatch (W.item (j + 1) s _ _ lt st fun v h' tk pv st' old => ?_))
    have hS' := old S _ hw hS
    have g' : G h' := hG _ _ g fun b o h1 _ e => old b o h1 e
    show wpAny _ A.in1 (tryCatch (holding [v, v] (richCompare .Lt v vb >>= _)) _ >>= _) _ _ _
    refine wpAny_bind (wpAny_tryCatch (wpAny_holding (wpAny_bind (hc (j + 1) (argBest bt j) v vb _ _ _ g' pv pb ?_)))); refine wpAny_bind (wpAny_holding (wpAny_truthy_bool ?_)); refine wpAny_bind (wpAny_letGo (wpAny_pure ?_))
    cases hb : bt (j + 1) (argBest bt j) with
    | true =>
      simp only [if_true]
      refine wpAny_bind ?_
      refine wpAny_updateSeq hS' rfl (wpAny_bind (wpAny_letGo ?_))
      rw [nm]
      refine wpAny_pure ⟨plainId_quiet F.plain_min_loop _, ih (j + 1) _ v _ (by omega) lt ⟨W.frame _ _ _ st' fun b hbf o e' => ?_, hG _ _ g' fun b o h1 h2 e' => (Heap.get?_update_other _ _ (Ne.symm h2)).trans e', by simp only [argBest, hb, if_true]; exact pv⟩ (Heap.get?_update_self _ hS' rfl) fun v' h2' tk' pv' old' => hR v' h2' tk' pv' fun b o h1 h2 e' => old' b o h1 h2 ((Heap.get?_update_other _ _ (Ne.symm h2)).trans (old b o h1 e'))⟩
      exact (Heap.get?_update_other _ _ (fun h : S = b => hSf (by rw [h]; exact hbf))).trans e'
    | false =>
      simp only [Bool.false_eq_true, if_false]
      refine wpAny_bind (wpAny_letGo ?_); rw [nm]
      exact wpAny_pure ⟨plainId_quiet F.plain_min_loop _, ih (j + 1) _ vb c (by omega) lt ⟨st', g', by simp only [argBest, hb, Bool.false_eq_true, if_false]; exact pb⟩ hS' fun v' h2' tk' pv' old' => hR v' h2' tk' pv' fun b o h1 h2 e' => old' b o h1 h2 (old b o h1 e')⟩
theorem min_first (W : Walks prog w A.in1 I fp wr n P St) (hc : CmpH prog w A.in1 .Lt P bt G) (hG : Lasts G wr S) (hSf : S ∉ fp) (hn : 0 < n) {s : Shared} {c : Nat} (st : St 0 s.heap) (g : G s.heap) (hS : s.heap.get? S = some { cls := .type "list", dict := none, data := .seq #[] c, slots := #[] })
    (hR : ∀ v h' tk, P (argBest bt (n - 1)) v → (∀ b o, b ∉ wr → b ≠ S → s.heap.get? b = some o → h'.get? b = some o) → R (.ok (.ret v)) { s with heap := h', toks := tk }) : codeAny (model prog w) A (.builtin "min.loop" ⟨[.ref I, .none, .ref S], []⟩) R s := by
  have hw : S ∉ wr := fun h => hSf (W.sub _ h)
  have nm : (toString "min" ++ toString ".loop" : String) = "min.loop" := by decide
  refine codeAny_builtin F.entry_min_loop ?_; rw [Around.under_plainId F.plain_min_loop _]; show wpAny _ A.in1 (seqItems? (.ref S) >>= _) _ _ s
  refine wpAny_bind (wpAny_seqItems hS rfl ?_); show wpAny _ A.in1 (tryCatch (pyNext (.ref I)) _ >>= _) _ _ s
  refine wpAny_bind (wpAny_tryCatch (W.item 0 s _ _ hn st fun v h' tk pv st' old => ?_))
  have hS' := old S _ hw hS
  have g' : G h' := hG _ _ g fun b o h1 _ e => old b o h1 e
  show wpAny _ A.in1 (updateSeq S (fun _ => #[v, v]) >>= _) _ _ _
  refine wpAny_bind ?_; refine wpAny_updateSeq hS' rfl ?_; rw [nm]
  refine wpAny_pure ⟨plainId_quiet F.plain_min_loop _, min_turns W hc hG hSf _ 0 _ v _ rfl hn ⟨W.frame _ _ _ st' fun b hbf o e' => ?_, hG _ _ g' fun b o h1 h2 e' => (Heap.get?_update_other _ _ (Ne.symm h2)).trans e', pv⟩ (Heap.get?_update_self _ hS' rfl) fun v' h2' tk' pv' old' => hR v' h2' tk' pv' fun b o h1 h2 e' => old' b o h1 h2 ((Heap.get?_update_other _ _ (Ne.symm h2)).trans (old b o h1 e'))⟩
  exact (Heap.get?_update_other _ _ (fun h : S = b => hSf (by rw [h]; exact hbf))).trans e'
end
section
variable {prog : Program} {w : World} {A : Around} {E : Value → Shared → Prop} {s : Shared}
/-- min(x) of a list; the items are read in the heap -/
theorem min_listH {l : Addr} {its : Array Value} {bt : Nat → Nat → Bool} {Q : Value → Shared → Prop} (hh : A.handled = none) (hl : s.heap.IsList l its) (hn : 0 < its.size) {G : Heap → Prop} (g : G s.heap) (hG : ∀ h h' : Heap, G h → (∀ b o, b < s.heap.objs.size → h.get? b = some o → h'.get? b = some o) → G h')
    (hc : CmpH prog w A.in1 .Lt (fun i v => its[i]? = some v) bt G) (hQ : ∀ v h' tk, its[argBest bt (its.size - 1)]? = some v → (∀ b o, s.heap.get? b = some o → h'.get? b = some o) → Q v { s with heap := h', toks := tk }) : wpAny (model prog w) A (call (.builtin "min") [.ref l]) Q E s := by
  have nm : (toString "min" ++ toString ".loop" : String) = "min.loop" := by decide
  have hlt : l < s.heap.objs.size := by obtain ⟨_, e, _⟩ := hl; exact Heap.lt_size e
  refine call_function_tree F.kind_min F.plain_min F.entry_min (F.args_min1 _) ?_
  show wpAny _ A.in1 (Builtin.Builtins.bindParams "min" ["key", "default"] 0 ⟨[], []⟩ >>= _) _ _ s
  refine wpAny_bind (wpAny_of_eq (show Builtin.Builtins.bindParams "min" ["key", "default"] 0 ⟨[], []⟩ = pure [none, none] from rfl) ?_); refine wpAny_bind (wpAny_pure ?_)
  refine wpAny_bind (wpAny_pyIter_list hl ?_)
  refine wpAny_bind (wpAny_newObj_type ?_)
  rw [nm]
  have hne : l ≠ s.heap.objs.size := Nat.ne_of_lt hlt
  have k1 : ∀ (o : Obj) (b : Addr) (q : Obj), s.heap.get? b = some q → (s.heap.push o).get? b = some q := fun o b q e => Heap.get?_push_of_some _ e
  refine wpAny_pure ⟨plainId_quiet F.plain_min_loop _, min_first (G := G) (bt := bt) (Walks.list (A := A.in1) hh s.heap.objs.size l hne its) hc (fun h h' gh old => hG h h' gh fun b o hb e => old b o (fun hm => ?_) (fun z => ?_) e) ?_ hn ?_ ?_ (Heap.get?_push_size _ rfl) fun v h' tk pv old => ?_⟩
  · rw [List.mem_singleton] at hm
    exact absurd hb (by rw [hm]; exact Nat.lt_irrefl _)
  · rw [z, Heap.size_push] at hb
    omega
  · rw [Heap.size_push]
    simp only [List.mem_cons, List.not_mem_nil, or_false, not_or]
    exact ⟨Nat.succ_ne_self _, fun z => absurd hlt (by rw [← z]; exact Nat.not_lt.mpr (Nat.le_succ _))⟩
  · refine ⟨⟨_, Heap.get?_push_of_some _ (Heap.get?_push_size _ rfl), rfl, rfl⟩, (hl.push _).push _⟩
  · exact hG _ _ g fun b o _ e => k1 _ b o e |> Heap.get?_push_of_some _
  · refine hQ v h' tk pv fun b o e => old b o (fun hm => ?_) (fun z => ?_) (Heap.get?_push_of_some _ (k1 _ b o e))
    · rw [List.mem_singleton] at hm
      exact absurd (Heap.lt_size e) (by rw [hm]; exact Nat.lt_irrefl _)
    · have := Heap.lt_size e
      rw [z, Heap.size_push] at this
      exact absurd this (Nat.not_lt.mpr (Nat.le_succ _))
end
end Sr
set_option Elab.async false
set_option linter.all false
set_option maxRecDepth 100000
set_option maxHeartbeats 4000000
/-! SrMN: min and max of a list of pairs of small numbers, by values. -/
namespace Sr
open PySem PySem.Spec PyProof.Rows L2 Evl
/-- a pair in the heap, and its weight -/
structure Pr where
  at' : Addr
  a : Nat
  b : Nat
def Pr.wt (p : Pr) : Nat := p.a * 1000 + p.b
def Pr.In (H : Hp) (p : Pr) : Prop := H p.at' = some (.tup [nv p.a, nv p.b]) ∧ p.a < 1000 ∧ p.b < 1000
def wtAt (ps : List Pr) (i : Nat) : Int := ((ps.map Pr.wt).getD i 0 : Nat)
theorem wtAt_of {ps : List Pr} {i : Nat} {p : Pr} (h : ps[i]? = some p) : wtAt ps i = (p.wt : Int) := by
  unfold wtAt
  rw [List.getD_eq_getElem?_getD, List.getElem?_map, h]
  rfl
def TupsIn (ps : List Pr) (n : Nat) (h : Heap) : Prop := ∀ p ∈ ps, p.at' < n ∧ ∃ t u, h.IsTuple p.at' #[.int (p.a : Int) t, .int (p.b : Int) u]
theorem tupsIn_of {X : Cx} {pins : List (Addr × Obj)} {σ : L2.St} {H : Hp} {s : Shared} (I : Inv X pins σ H s) {ps : List Pr} (h : ∀ p ∈ ps, p.In H) : TupsIn ps s.heap.objs.size s.heap := fun p hp => by
  obtain ⟨its, r, t, _⟩ := I.tuple (st_of (K := X.K) (h p hp).1)
  have hlt : p.at' < s.heap.objs.size := by obtain ⟨_, e, _⟩ := t; exact Heap.lt_size e
  refine ⟨hlt, ?_⟩
  obtain ⟨u, v, rfl, r1, r2⟩ := Vals.two r
  obtain ⟨t1, rfl⟩ := r1
  obtain ⟨t2, rfl⟩ := r2
  exact ⟨t1, t2, t⟩
theorem tupsIn_stay {ps : List Pr} {n : Nat} {h h' : Heap} (g : TupsIn ps n h) (old : ∀ b o, b < n → h.get? b = some o → h'.get? b = some o) : TupsIn ps n h' := fun p hp => by
  obtain ⟨h1, t, u, o, e, c⟩ := g p hp
  exact ⟨h1, t, u, o, old _ _ h1 e, c⟩
theorem two_lex {a b c d : Nat} (hb : b < 1000) (hd : d < 1000) (r : Nat → Bool) (h0 : r 0 = decide ((a : Int) < (c : Int))) (h1 : r 1 = decide ((b : Int) < (d : Int))) : Ob.lexAt (fun j => if j = 0 then decide ((a : Int) = (c : Int)) else decide ((b : Int) = (d : Int))) r false 0 2 = decide (((a * 1000 + b : Nat) : Int) < ((c * 1000 + d : Nat) : Int)) := by
  show (if decide ((a : Int) = (c : Int)) = true then (if decide ((b : Int) = (d : Int)) = true then false else r 1) else r 0) = _
  rw [h0, h1]
  by_cases e1 : (a : Int) = (c : Int)
  · rw [if_pos (decide_eq_true e1)]
    by_cases e2 : (b : Int) = (d : Int)
    · rw [if_pos (decide_eq_true e2), decide_eq_false]
      omega
    · rw [if_neg (by rw [decide_eq_false e2]; decide)]
      exact decide_eq_decide.mpr ⟨fun h => by omega, fun h => by omega⟩
  · rw [if_neg (by rw [decide_eq_false e1]; decide)]
    exact decide_eq_decide.mpr ⟨fun h => by omega, fun h => by omega⟩

def rMinP (K : PySem.W.Frag) : List V → Hp → VK → Prop := fun vs H Q => ∃ (a : Addr) (ps : List Pr), vs = [V.ref a] ∧ SqL K H a (ps.map fun p => V.ref p.at') ∧ 0 < ps.length ∧ (∀ p ∈ ps, p.In H) ∧ ∀ p ∈ ps, (∀ q ∈ ps, p.wt ≤ q.wt) → Q (.ref p.at') H
theorem cr_minP {X : Cx} (hc : X.calm = true) (hu : X.A.units + 1 < cLine) : CallR X (.builtin "min") (rMinP X.K) := by
  intro pins s σ H vs us Q I r h
  obtain ⟨a, ps, rfl, hs, hne, hin, q⟩ := h
  obtain ⟨its, rv, hl, _⟩ := I.list hs
  rw [Vals.ref1 r]
  have hlen : its.length = ps.length := by rw [← rv.length, List.length_map]
  have hat : ∀ (i : Nat) (v : Value), its.toArray[i]? = some v → ∃ p, ps[i]? = some p ∧ v = .ref p.at' := fun i v hv => by
    rw [List.getElem?_toArray] at hv
    have hi : i < ps.length := by rw [← hlen]; exact (List.getElem?_eq_some_iff.mp hv).1
    refine ⟨ps[i], List.getElem?_eq_getElem hi, ?_⟩
    have := Vals.get rv (i := i) (x := V.ref ps[i].at') (by rw [List.getElem?_map, List.getElem?_eq_getElem hi]; rfl)
    obtain ⟨u, hu1, hu2⟩ := this
    rw [hv] at hu1
    cases hu1
    exact hu2
  have hsz : its.toArray.size = ps.length := by rw [List.size_toArray]; exact hlen
  refine min_listH (bt := fun i j => decide (wtAt ps i < wtAt ps j)) (I.ok.hd hc) hl.isList (by rw [hsz]; exact hne) (G := TupsIn ps s.heap.objs.size) (tupsIn_of I hin) (fun h h' g old => tupsIn_stay g old) (fun i j vi vj s2 Q2 E2 g hi hj hQ => ?_) fun v h' tk hv hk => ?_
  · obtain ⟨p, hp, rfl⟩ := hat i vi hi
    obtain ⟨p2, hp2, rfl⟩ := hat j vj hj
    obtain ⟨_, t, u, hT⟩ := g p (List.mem_of_getElem? hp)
    obtain ⟨_, t2, u2, hT2⟩ := g p2 (List.mem_of_getElem? hp2)
    have hb1 := (hin p (List.mem_of_getElem? hp)).2.2
    have hb2 := (hin p2 (List.mem_of_getElem? hp2)).2.2
    have key := Ob.RcOp.tuples_lt (A := X.A.in1) (s := s2) (e := fun k => if k = 0 then decide ((p.a : Int) = (p2.a : Int)) else decide ((p.b : Int) = (p2.b : Int))) (r := fun k => if k = 0 then decide ((p.a : Int) < (p2.a : Int)) else decide ((p.b : Int) < (p2.b : Int))) hT hT2 hu (fun k h1 h2 => ?_) (fun k h1 h2 _ => ?_)
    · dsimp only at hQ
      rw [wtAt_of hp, wtAt_of hp2] at hQ
      have e := two_lex (a := p.a) (b := p.b) (c := p2.a) (d := p2.b) hb1 hb2 (fun k => if k = 0 then decide ((p.a : Int) < (p2.a : Int)) else decide ((p.b : Int) < (p2.b : Int))) rfl rfl
      refine key X.prog X.w E2 Q2 ?_
      show Q2 (.bool (Ob.lexAt _ _ _ 0 2)) s2
      skip
      rw [show decide ((#[Value.int (p.a : Int) t, .int (p.b : Int) u] : Array Value).size < (#[Value.int (p2.a : Int) t2, .int (p2.b : Int) u2] : Array Value).size) = false from rfl, e]
      exact hQ
    · match k, h1, h2 with
      | 0, _, _ =>
        have z : ((p.a : Int) == (p2.a : Int)) = decide ((p.a : Int) = (p2.a : Int)) := by
          by_cases q : (p.a : Int) = (p2.a : Int)
          · rw [decide_eq_true (q)]; exact beq_iff_eq.mpr q
          · rw [decide_eq_false (fun x => q (x))]; exact beq_eq_false_iff_ne.mpr q
        show SeqAt.EqAt _ _ _ _ (decide ((p.a : Int) = (p2.a : Int)))
        rw [← z]
        exact SeqAt.EqAt.int_int _ _ _ _
      | 1, _, _ =>
        have z : ((p.b : Int) == (p2.b : Int)) = decide ((p.b : Int) = (p2.b : Int)) := by
          by_cases q : (p.b : Int) = (p2.b : Int)
          · rw [decide_eq_true (q)]; exact beq_iff_eq.mpr q
          · rw [decide_eq_false (fun x => q (x))]; exact beq_eq_false_iff_ne.mpr q
        show SeqAt.EqAt _ _ _ _ (decide ((p.b : Int) = (p2.b : Int)))
        rw [← z]
        exact SeqAt.EqAt.int_int _ _ _ _
    · match k, h1, h2 with
      | 0, _, _ => exact Ob.RcOp.lt_int _ _ _ _
      | 1, _, _ => exact Ob.RcOp.lt_int _ _ _ _
  · obtain ⟨p, hp, rfl⟩ := hat _ v hv
    rw [hsz] at hp
    obtain ⟨b1, b2⟩ := argBest_lt (wtAt ps) (ps.length - 1)
    refine ⟨.ref p.at', H, I.kept hk, rfl, q p (List.mem_of_getElem? hp) fun q2 hq2 => ?_⟩
    obtain ⟨j, hj, hjq⟩ := List.getElem_of_mem hq2
    have := b2 j (by omega)
    rw [wtAt_of hp, wtAt_of (i := j) (by rw [List.getElem?_eq_getElem hj, hjq])] at this
    omega

def rMaxP (K : PySem.W.Frag) : List V → Hp → VK → Prop := fun vs H Q => ∃ (a : Addr) (ps : List Pr), vs = [V.ref a] ∧ SqL K H a (ps.map fun p => V.ref p.at') ∧ 0 < ps.length ∧ (∀ p ∈ ps, p.In H) ∧ ∀ p ∈ ps, (∀ q ∈ ps, q.wt ≤ p.wt) → Q (.ref p.at') H
theorem cr_maxP {X : Cx} (hc : X.calm = true) (hu : X.A.units + 1 < cLine) : CallR X (.builtin "max") (rMaxP X.K) := by
  intro pins s σ H vs us Q I r h
  obtain ⟨a, ps, rfl, hs, hne, hin, q⟩ := h
  obtain ⟨its, rv, hl, _⟩ := I.list hs
  rw [Vals.ref1 r]
  have hlen : its.length = ps.length := by rw [← rv.length, List.length_map]
  have hat : ∀ (i : Nat) (v : Value), its.toArray[i]? = some v → ∃ p, ps[i]? = some p ∧ v = .ref p.at' := fun i v hv => by
    rw [List.getElem?_toArray] at hv
    have hi : i < ps.length := by rw [← hlen]; exact (List.getElem?_eq_some_iff.mp hv).1
    refine ⟨ps[i], List.getElem?_eq_getElem hi, ?_⟩
    have := Vals.get rv (i := i) (x := V.ref ps[i].at') (by rw [List.getElem?_map, List.getElem?_eq_getElem hi]; rfl)
    obtain ⟨u, hu1, hu2⟩ := this
    rw [hv] at hu1
    cases hu1
    exact hu2
  have hsz : its.toArray.size = ps.length := by rw [List.size_toArray]; exact hlen
  refine max_listH (bt := fun i j => decide (wtAt ps i > wtAt ps j)) (I.ok.hd hc) hl.isList (by rw [hsz]; exact hne) (G := TupsIn ps s.heap.objs.size) (tupsIn_of I hin) (fun h h' g old => tupsIn_stay g old) (fun i j vi vj s2 Q2 E2 g hi hj hQ => ?_) fun v h' tk hv hk => ?_
  · obtain ⟨p, hp, rfl⟩ := hat i vi hi
    obtain ⟨p2, hp2, rfl⟩ := hat j vj hj
    obtain ⟨_, t, u, hT⟩ := g p (List.mem_of_getElem? hp)
    obtain ⟨_, t2, u2, hT2⟩ := g p2 (List.mem_of_getElem? hp2)
    have hb1 := (hin p (List.mem_of_getElem? hp)).2.2
    have hb2 := (hin p2 (List.mem_of_getElem? hp2)).2.2
    have key := Ob.RcOp.tuples_gt (A := X.A.in1) (s := s2) (e := fun k => if k = 0 then decide ((p2.a : Int) = (p.a : Int)) else decide ((p2.b : Int) = (p.b : Int))) (r := fun k => if k = 0 then decide ((p2.a : Int) < (p.a : Int)) else decide ((p2.b : Int) < (p.b : Int))) hT hT2 hu (fun k h1 h2 => ?_) (fun k h1 h2 _ => ?_)
    · dsimp only at hQ
      rw [wtAt_of hp, wtAt_of hp2] at hQ
      have e := two_lex (a := p2.a) (b := p2.b) (c := p.a) (d := p.b) hb2 hb1 (fun k => if k = 0 then decide ((p2.a : Int) < (p.a : Int)) else decide ((p2.b : Int) < (p.b : Int))) rfl rfl
      refine key X.prog X.w E2 Q2 ?_
      show Q2 (.bool (Ob.lexAt _ _ _ 0 2)) s2
      skip
      rw [show decide ((#[Value.int (p.a : Int) t, .int (p.b : Int) u] : Array Value).size > (#[Value.int (p2.a : Int) t2, .int (p2.b : Int) u2] : Array Value).size) = false from rfl, e]
      exact hQ
    · match k, h1, h2 with
      | 0, _, _ =>
        have z : ((p.a : Int) == (p2.a : Int)) = decide ((p2.a : Int) = (p.a : Int)) := by
          by_cases q : (p.a : Int) = (p2.a : Int)
          · rw [decide_eq_true (Eq.symm q)]; exact beq_iff_eq.mpr q
          · rw [decide_eq_false (fun x => q (Eq.symm x))]; exact beq_eq_false_iff_ne.mpr q
        show SeqAt.EqAt _ _ _ _ (decide ((p2.a : Int) = (p.a : Int)))
        rw [← z]
        exact SeqAt.EqAt.int_int _ _ _ _
      | 1, _, _ =>
        have z : ((p.b : Int) == (p2.b : Int)) = decide ((p2.b : Int) = (p.b : Int)) := by
          by_cases q : (p.b : Int) = (p2.b : Int)
          · rw [decide_eq_true (Eq.symm q)]; exact beq_iff_eq.mpr q
          · rw [decide_eq_false (fun x => q (Eq.symm x))]; exact beq_eq_false_iff_ne.mpr q
        show SeqAt.EqAt _ _ _ _ (decide ((p2.b : Int) = (p.b : Int)))
        rw [← z]
        exact SeqAt.EqAt.int_int _ _ _ _
    · match k, h1, h2 with
      | 0, _, _ => exact Ob.RcOp.gt_int _ _ _ _
      | 1, _, _ => exact Ob.RcOp.gt_int _ _ _ _
  · obtain ⟨p, hp, rfl⟩ := hat _ v hv
    rw [hsz] at hp
    obtain ⟨b1, b2⟩ := argBest_gt (wtAt ps) (ps.length - 1)
    refine ⟨.ref p.at', H, I.kept hk, rfl, q p (List.mem_of_getElem? hp) fun q2 hq2 => ?_⟩
    obtain ⟨j, hj, hjq⟩ := List.getElem_of_mem hq2
    have := b2 j (by omega)
    rw [wtAt_of hp, wtAt_of (i := j) (by rw [List.getElem?_eq_getElem hj, hjq])] at this
    omega

section
variable {K : PySem.W.Frag} {σ : L2.St} {H H' : Hp} {te : TE}
end
end Sr
set_option Elab.async false
set_option linter.all false
set_option maxRecDepth 100000
set_option maxHeartbeats 4000000
/-! SrK6: lists of new pairs, the least and the greatest of them; law 6's own promise. -/
namespace Sr
open PySem PySem.Spec PyProof.Rows L2 Evl
/-- an item that is a new pair -/
def NewTup {α : Type} (tup : α → List V) : Addr → α → V → Hp → Prop := fun D z v H => ∃ r, v = .ref r ∧ r ≠ D ∧ H r = some (.tup (tup z))
theorem newTup_st {α : Type} {tup : α → List V} : ∀ D z v Ha Hb, NewTup tup D z v Ha → ExO D Ha Hb → NewTup tup D z v Hb := fun D z v Ha Hb ⟨r, h1, h2, h3⟩ e => ⟨r, h1, h2, e r _ h2 h3⟩
theorem EvU.newTup {α : Type} {tup : α → List V} {z : α} {D : Addr} {te : TE} {σ : L2.St} {H : Hp} (h : EvU te σ H (tup z)) (hD : H D ≠ none) : EvP te σ H (fun _ v Hb => NewTup tup D z v Hb) :=
  fun H1 e Q q => h H1 e Q fun p H2 np e2 hp => q _ H2 e2 ⟨p, rfl, fun z => hD (by rw [← z]; exact fresh_back e np), hp⟩
theorem prs_of {f : Nat → Nat} {p : Addr} {H : Hp} : ∀ {zs : List Nat} {ys : List V}, ys.length = zs.length → (∀ (j : Nat) (z : Nat) (y : V), zs[j]? = some z → ys[j]? = some y → NewTup (fun z => [nv (f z), nv z]) p z y H) → (∀ z ∈ zs, f z < 1000 ∧ z < 1000) →
    ∃ ps : List Pr, ys = ps.map (fun p => V.ref p.at') ∧ ps.map Pr.b = zs ∧ ∀ q ∈ ps, q.In H ∧ q.a = f q.b
  | [], [], _, _, _ => ⟨[], rfl, rfl, fun _ h => nomatch h⟩
  | [], _ :: _, h, _, _ => by cases h
  | _ :: _, [], h, _, _ => by cases h
  | z :: zs, y :: ys, hl, hit, hb => by
    obtain ⟨ps, e1, e2, h3⟩ := prs_of (zs := zs) (ys := ys) (Nat.succ.inj hl) (fun j z' y' a b => hit (j + 1) z' y' a b) fun z' hz => hb z' (List.mem_cons_of_mem _ hz)
    obtain ⟨r, hy, _, hr⟩ := hit 0 z y rfl rfl
    obtain ⟨b1, b2⟩ := hb z (List.mem_cons_self ..)
    refine ⟨⟨r, f z, z⟩ :: ps, by rw [e1, hy]; rfl, by rw [← e2]; rfl, fun q hq => ?_⟩
    rcases List.mem_cons.mp hq with rfl | hq
    · exact ⟨⟨hr, b1, b2⟩, rfl⟩
    · exact h3 q hq
section
variable {K : PySem.W.Frag} {σ : L2.St} {H H' : Hp} {te : TE}
theorem ep_minPix {zs : List Nat} {f : Nat → Nat} (h : EvP te σ H (fun _ v H2 => ∃ p ys, v = .ref p ∧ H2 p = some (.lst ys) ∧ ys.length = zs.length ∧ ∀ (j : Nat) (z : Nat) (y : V), zs[j]? = some z → ys[j]? = some y → NewTup (fun z => [nv (f z), nv z]) p z y H2)) (hb : ∀ z ∈ zs, f z < 1000 ∧ z < 1000) (hne : zs ≠ []) :
    EvP (tOp (rIxT K) (tCB (rMinP K) (tCons te tNil)) (tC (.int 1))) σ H (fun _ v _ => ∃ z, v = nv z ∧ z ∈ zs ∧ ∀ y ∈ zs, f z * 1000 + z ≤ f y * 1000 + y) := fun H1 e Q q => h H1 e _ fun v H2 e2 ⟨p, ys, hv, hp, hl, hit⟩ => by
  subst hv
  obtain ⟨ps, e1, e3, h3⟩ := prs_of hl hit hb
  subst e1
  refine ⟨p, ps, rfl, sq_of hp, ?_, fun q hq => (h3 q hq).1, fun pr hpr hmin => ⟨pr.at', [nv pr.a, nv pr.b], 1, nv pr.b, rfl, rfl, st_of (h3 pr hpr).1.1, rfl, q _ H2 e2 ⟨pr.b, rfl, by rw [← e3]; exact List.mem_map.mpr ⟨pr, hpr, rfl⟩, fun y hy => ?_⟩⟩⟩
  · cases ps with
    | nil => exact absurd e3.symm hne
    | cons => exact Nat.succ_pos _
  · rw [← e3] at hy
    obtain ⟨q2, hq2, rfl⟩ := List.mem_map.mp hy
    have := hmin q2 hq2
    unfold Pr.wt at this
    rw [← (h3 pr hpr).2, ← (h3 q2 hq2).2]
    exact this
theorem ep_maxPix {zs : List Nat} {f : Nat → Nat} (h : EvP te σ H (fun _ v H2 => ∃ p ys, v = .ref p ∧ H2 p = some (.lst ys) ∧ ys.length = zs.length ∧ ∀ (j : Nat) (z : Nat) (y : V), zs[j]? = some z → ys[j]? = some y → NewTup (fun z => [nv (f z), nv z]) p z y H2)) (hb : ∀ z ∈ zs, f z < 1000 ∧ z < 1000) (hne : zs ≠ []) :
    EvP (tOp (rIxT K) (tCB (rMaxP K) (tCons te tNil)) (tC (.int 1))) σ H (fun _ v _ => ∃ z, v = nv z ∧ z ∈ zs ∧ ∀ y ∈ zs, f y * 1000 + y ≤ f z * 1000 + z) := fun H1 e Q q => h H1 e _ fun v H2 e2 ⟨p, ys, hv, hp, hl, hit⟩ => by
  subst hv
  obtain ⟨ps, e1, e3, h3⟩ := prs_of hl hit hb
  subst e1
  refine ⟨p, ps, rfl, sq_of hp, ?_, fun q hq => (h3 q hq).1, fun pr hpr hmin => ⟨pr.at', [nv pr.a, nv pr.b], 1, nv pr.b, rfl, rfl, st_of (h3 pr hpr).1.1, rfl, q _ H2 e2 ⟨pr.b, rfl, by rw [← e3]; exact List.mem_map.mpr ⟨pr, hpr, rfl⟩, fun y hy => ?_⟩⟩⟩
  · cases ps with
    | nil => exact absurd e3.symm hne
    | cons => exact Nat.succ_pos _
  · rw [← e3] at hy
    obtain ⟨q2, hq2, rfl⟩ := List.mem_map.mp hy
    have := hmin q2 hq2
    unfold Pr.wt at this
    rw [← (h3 pr hpr).2, ← (h3 q2 hq2).2]
    exact this
end
/-- what the law's play gives: v the end told, c how the other one plays -/
def PlayOk (c v m : Nat) : Prop := m % 2 = 1 ∧ m ≤ v ∧ (c = 0 → m = v)
structure PlayG where
  wa : Addr
  web : List (List Nat)
  fa : Addr
  p : Nat
  v : Nat
  sa : Addr
  xs : List Int
  c : Nat
def sp_play (K : PySem.W.Frag) : Sp := spOf (α := PlayG) (fun g vs H => vs = [.ref g.wa, .ref g.fa, nv g.p, .ref g.sa, nv g.c] ∧ LL K H g.wa g.web ∧ Ok60 g.web ∧ SqL K H g.fa ((endsM g.web).map ov) ∧ g.p < g.web.length ∧ endOf g.web g.p = some g.v ∧ g.v % 2 = 1 ∧ SqL K H g.sa (g.xs.map V.int)) (fun g _ v _ => ∃ m, v = nv m ∧ PlayOk g.c g.v m)
end Sr
set_option linter.all false
set_option maxHeartbeats 1000000
/-! SrM4: sums: what the worths tell of many stones. Words: some true lost, some false won, none endless. -/
namespace Sr
/-! ### nim -/
def xorL (ks : List Nat) : Nat := ks.foldr (fun a b => a ^^^ b) 0
theorem xorL_cons (k : Nat) (ks : List Nat) : xorL (k :: ks) = k ^^^ xorL ks := rfl
theorem xorL_append : ∀ xs ys : List Nat, xorL (xs ++ ys) = xorL xs ^^^ xorL ys
  | [], ys => by
    show xorL ys = 0 ^^^ xorL ys
    rw [Nat.zero_xor]
  | x :: xs, ys => by
    show x ^^^ xorL (xs ++ ys) = (x ^^^ xorL xs) ^^^ xorL ys
    rw [xorL_append xs ys, Nat.xor_assoc]
/-- a bit of the sum is a bit of one of them -/
theorem xorL_bit {i : Nat} : ∀ {ks : List Nat}, (xorL ks).testBit i = true → ∃ k ∈ ks, k.testBit i = true
  | [], h => by
    rw [show xorL [] = 0 from rfl, Nat.zero_testBit] at h
    cases h
  | k :: ks, h => by
    rw [xorL_cons, Nat.testBit_xor] at h
    by_cases hk : k.testBit i = true
    · exact ⟨k, List.mem_cons_self .., hk⟩
    · rw [Bool.not_eq_true] at hk
      rw [hk, Bool.false_xor] at h
      obtain ⟨k', h1, h2⟩ := xorL_bit h
      exact ⟨k', List.mem_cons_of_mem _ h1, h2⟩
/-- a difference has a greatest bit -/
theorem top_bit {d : Nat} (h : d ≠ 0) : ∃ i, d.testBit i = true ∧ ∀ j, i < j → d.testBit j = false := by
  refine ⟨d.log2, Nat.testBit_log2 h, fun j hj => ?_⟩
  refine Nat.testBit_lt_two_pow (Nat.lt_of_lt_of_le (Nat.lt_log2_self) (Nat.pow_le_pow_right (by decide) hj))
theorem lt_of_top {a b i : Nat} (h1 : a.testBit i = false) (h2 : b.testBit i = true) (h3 : ∀ j, i < j → a.testBit j = b.testBit j) : a < b := by
  have hq : a >>> (i + 1) = b >>> (i + 1) := Nat.eq_of_testBit_eq fun j => by
    rw [Nat.testBit_shiftRight, Nat.testBit_shiftRight]
    exact h3 _ (by omega)
  rw [Nat.shiftRight_eq_div_pow, Nat.shiftRight_eq_div_pow, Nat.pow_succ, ← Nat.div_div_eq_div_mul, ← Nat.div_div_eq_div_mul] at hq
  rw [Nat.testBit_eq_decide_div_mod_eq, decide_eq_false_iff_not] at h1
  rw [Nat.testBit_eq_decide_div_mod_eq, decide_eq_true_eq] at h2
  have hlt : a / 2 ^ i < b / 2 ^ i := by omega
  rcases Nat.lt_or_ge a b with h | h
  · exact h
  · have := Nat.div_le_div_right (c := 2 ^ i) h
    omega
/-- from a sum x every lesser m can be made by lessening one of them -/
theorem nim {ks : List Nat} {m : Nat} (h : m < xorL ks) : ∃ k ∈ ks, k ^^^ (xorL ks ^^^ m) < k := by
  have hd : xorL ks ^^^ m ≠ 0 := fun z => by
    have : xorL ks = m := by
      have := congrArg (· ^^^ m) z
      simpa [Nat.xor_assoc] using this
    omega
  obtain ⟨i, hi, htop⟩ := top_bit hd
  have hx : (xorL ks).testBit i = true := by
    cases hxb : (xorL ks).testBit i with
    | true => rfl
    | false =>
      have hm : m.testBit i = true := by
        rw [Nat.testBit_xor, hxb, Bool.false_xor] at hi
        exact hi
      have : xorL ks < m := lt_of_top hxb hm fun j hj => by
        have := htop j hj
        rw [Nat.testBit_xor] at this
        cases h1 : (xorL ks).testBit j <;> cases h2 : m.testBit j <;> rw [h1, h2] at this <;> simp at this ⊢
      omega
  obtain ⟨k, hk, hkb⟩ := xorL_bit hx
  refine ⟨k, hk, lt_of_top (i := i) ?_ hkb fun j hj => ?_⟩
  · rw [Nat.testBit_xor, hkb, hi]
    rfl
  · rw [Nat.testBit_xor, htop j hj, Bool.xor_false]
/-! ### times: numbers were given one after another -/
def Timed (web : Webs) (s : List (Option Nat)) (t : Nat → Nat) : Prop := ∀ p k, s.getD p none = some k →
  (∀ j, j < k → ∃ o ∈ roads web p, s.getD o none = some j ∧ t o < t p) ∧ ∀ o ∈ roads web p, (∃ j, j < k ∧ s.getD o none = some j ∧ t o < t p) ∨ ∃ b ∈ roads web o, s.getD b none = some k ∧ t b < t p
theorem timed_of {web : Webs} {s : List (Option Nat)} (h : NumBy web s) : ∃ (t : Nat → Nat) (N : Nat), Timed web s t ∧ ∀ p k, s.getD p none = some k → t p < N := by
  induction h with
  | nil =>
    have hno : ∀ p k, (List.replicate web.length (none : Option Nat)).getD p none ≠ some k := fun p k e => by
      have := of_getD e
      rw [List.getElem?_replicate] at this
      split at this
      · cases this
      · cases this
    exact ⟨fun _ => 0, 0, fun p k e => absurd e (hno p k), fun p k e => absurd e (hno p k)⟩
  | @step s p m hs hp hr ih =>
    obtain ⟨t, N, ht, hN⟩ := ih
    obtain ⟨hm, hu⟩ := numR_some.mp hr
    have hpn : s.getD p none = none := getD_of hp
    have up : ∀ o k, s.getD o none = some k → (s.set p (some m)).getD o none = some k ∧ o ≠ p := fun o k e => by
      have hne : o ≠ p := fun z => by rw [z, hpn] at e; cases e
      exact ⟨by rw [getD_set hp, if_neg (Ne.symm hne)]; exact e, hne⟩
    refine ⟨fun q => if q = p then N else t q, N + 1, fun q k e => ?_, fun q k e => ?_⟩
    · rw [getD_set hp] at e
      by_cases hq : p = q
      · subst hq
        rw [if_pos rfl] at e
        cases Option.some.inj e
        have tt : ∀ o k, s.getD o none = some k → (if o = p then N else t o) < (if p = p then N else t p) := fun o k e => by
          rw [if_neg (up o k e).2, if_pos rfl]
          exact hN o k e
        refine ⟨fun j hj => ?_, fun o ho => ?_⟩
        · rw [hm] at hj
          obtain ⟨o, ho, h2⟩ := mem_nums.mp (mex_below hj)
          exact ⟨o, ho, (up o j h2).1, tt o j h2⟩
        · cases hso : s.getD o none with
          | none =>
            obtain ⟨b, hb, h2⟩ := hu o ho hso
            exact .inr ⟨b, hb, (up b m h2).1, tt b m h2⟩
          | some j =>
            rcases Nat.lt_trichotomy j m with h | h | h
            · exact .inl ⟨j, h, (up o j hso).1, tt o j hso⟩
            · subst h
              have hin : j ∈ nums s (roads web p) := mem_nums.mpr ⟨o, ho, hso⟩
              rw [hm] at hin
              exact absurd hin (mex_out _)
            · obtain ⟨b, hb, h2, _⟩ := (ht o j hso).1 m h
              exact .inr ⟨b, hb, (up b m h2).1, tt b m h2⟩
      · rw [if_neg hq] at e
        have tt : ∀ o k', s.getD o none = some k' → t o < t q → (if o = p then N else t o) < (if q = p then N else t q) := fun o k' e1 h1 => by
          rw [if_neg (up o k' e1).2, if_neg (Ne.symm hq)]
          exact h1
        obtain ⟨a1, a2⟩ := ht q k e
        refine ⟨fun j hj => ?_, fun o ho => ?_⟩
        · obtain ⟨o, ho, h2, h3⟩ := a1 j hj
          exact ⟨o, ho, (up o j h2).1, tt o j h2 h3⟩
        · rcases a2 o ho with ⟨j, h1, h2, h3⟩ | ⟨b, hb, h2, h3⟩
          · exact .inl ⟨j, h1, (up o j h2).1, tt o j h2 h3⟩
          · exact .inr ⟨b, hb, (up b k h2).1, tt b k h2 h3⟩
    · by_cases hq : q = p
      · show (if q = p then N else t q) < N + 1
        rw [if_pos hq]
        omega
      · show (if q = p then N else t q) < N + 1
        rw [getD_set hp, if_neg (Ne.symm hq)] at e
        rw [if_neg hq]
        have := hN q k e
        omega
end Sr
set_option linter.all false
set_option maxHeartbeats 1000000
/-! SrM5: the word of stones by the numbers; what each push does to it. -/
namespace Sr
def rnds (s : List (Option Nat)) (st : List Nat) : List Nat := st.filter fun p => (s.getD p none).isNone
def xorS (s : List (Option Nat)) (st : List Nat) : Nat := xorL (nums s st)
/-- some true: lost, some false: won, none: endless -/
def wordM (web : Webs) (s : List (Option Nat)) (st : List Nat) : Option Bool :=
  match rnds s st with
  | [] => some (decide (xorS s st = 0))
  | [r] => if xorS s st ∈ nums s (roads web r) then some false else none
  | _ => none
def Mv (web : Webs) (st st' : List Nat) : Prop := ∃ A p B o, st = A ++ p :: B ∧ o ∈ roads web p ∧ st' = A ++ o :: B
variable {web : Webs} {s : List (Option Nat)}
theorem rnds_split (A : List Nat) (p : Nat) (B : List Nat) : rnds s (A ++ p :: B) = rnds s A ++ (if (s.getD p none).isNone then [p] else []) ++ rnds s B := by
  unfold rnds
  rw [List.filter_append, List.filter_cons, List.append_assoc]
  split <;> rfl
theorem nums_split (A : List Nat) (p : Nat) (B : List Nat) : nums s (A ++ p :: B) = nums s A ++ ((s.getD p none).toList ++ nums s B) := by
  unfold nums
  rw [List.filterMap_append, List.filterMap_cons]
  cases s.getD p none <;> rfl
theorem xorS_num {A B : List Nat} {p k : Nat} (h : s.getD p none = some k) : xorS s (A ++ p :: B) = k ^^^ (xorS s A ^^^ xorS s B) := by
  unfold xorS
  rw [nums_split, xorL_append, h]
  show xorL (nums s A) ^^^ (k ^^^ xorL (nums s B)) = _
  rw [← Nat.xor_assoc, Nat.xor_comm (xorL (nums s A)) k, Nat.xor_assoc]
theorem xorS_rnd {A B : List Nat} {p : Nat} (h : s.getD p none = none) : xorS s (A ++ p :: B) = xorS s A ^^^ xorS s B := by
  unfold xorS
  rw [nums_split, xorL_append, h]
  rfl
theorem xor_swap {k j R : Nat} : j ^^^ R = (k ^^^ R) ^^^ (k ^^^ j) := by
  rw [Nat.xor_comm k R, Nat.xor_assoc, ← Nat.xor_assoc k k j, Nat.xor_self, Nat.zero_xor, Nat.xor_comm]
theorem mem_split_num {st : List Nat} {k : Nat} (h : k ∈ nums s st) : ∃ A p B, st = A ++ p :: B ∧ s.getD p none = some k := by
  obtain ⟨p, hp, h2⟩ := mem_nums.mp h
  obtain ⟨A, B, e⟩ := List.append_of_mem hp
  exact ⟨A, p, B, e, h2⟩
theorem mem_split_rnd {st : List Nat} {r : Nat} (h : r ∈ rnds s st) : ∃ A B, st = A ++ r :: B ∧ s.getD r none = none := by
  obtain ⟨hp, h2⟩ := List.mem_filter.mp h
  obtain ⟨A, B, e⟩ := List.append_of_mem hp
  exact ⟨A, B, e, Option.isNone_iff_eq_none.mp h2⟩
/-- behind each push of a lost one a won one -/
theorem lost_won (ok : NumOk web s) {st st' : List Nat} (h : wordM web s st = some true) (hm : Mv web st st') : wordM web s st' = some false := by
  obtain ⟨A, p, B, o, rfl, ho, rfl⟩ := hm
  have hr : rnds s (A ++ p :: B) = [] := by
    unfold wordM at h
    split at h
    · assumption
    · split at h <;> cases h
    · cases h
  have hx : xorS s (A ++ p :: B) = 0 := by
    unfold wordM at h
    rw [hr] at h
    exact of_decide_eq_true (Option.some.inj h)
  rw [rnds_split] at hr
  have hA : rnds s A = [] := (List.append_eq_nil_iff.mp (List.append_eq_nil_iff.mp hr).1).1
  have hB : rnds s B = [] := (List.append_eq_nil_iff.mp hr).2
  obtain ⟨k, hk⟩ : ∃ k, s.getD p none = some k := by
    cases hp : s.getD p none with
    | some k => exact ⟨k, rfl⟩
    | none =>
      rw [hp] at hr
      exact absurd (List.append_eq_nil_iff.mp (List.append_eq_nil_iff.mp hr).1).2 (by simp)
  rw [xorS_num hk] at hx
  have hR : xorS s A ^^^ xorS s B = k := by
    have := congrArg (k ^^^ ·) hx
    simpa [← Nat.xor_assoc] using this
  unfold wordM
  rw [rnds_split, hA, hB]
  cases hso : s.getD o none with
  | some j =>
    show some (decide (xorS s (A ++ o :: B) = 0)) = some false
    rw [xorS_num hso, hR, decide_eq_false]
    intro z
    have : j = k := by
      have := congrArg (· ^^^ k) z
      simpa [Nat.xor_assoc] using this
    subst this
    exact ok.apart p j hk o ho hso
  | none =>
    show (if xorS s (A ++ o :: B) ∈ nums s (roads web o) then some false else none) = some false
    rw [xorS_rnd hso, hR, if_pos]
    rcases ok.back p k hk o ho with ⟨j, _, h2⟩ | ⟨b, hb, h2⟩
    · rw [hso] at h2
      cases h2
    · exact mem_nums.mpr ⟨b, hb, h2⟩
theorem xor_can {k R : Nat} : k ^^^ (k ^^^ R) = R := by rw [← Nat.xor_assoc, Nat.xor_self, Nat.zero_xor]
/-- a push by a lesser number: the sum becomes m, the round ones stay -/
theorem nim_push (ok : NumOk web s) {st : List Nat} {m : Nat} (h : m < xorS s st) : ∃ A p B o, st = A ++ p :: B ∧ o ∈ roads web p ∧ xorS s (A ++ o :: B) = m ∧ rnds s (A ++ o :: B) = rnds s st ∧ (s.getD p none).isSome = true ∧ ∃ j k, s.getD p none = some k ∧ s.getD o none = some j ∧ j < k := by
  obtain ⟨k, hk, hlt⟩ := nim (ks := nums s st) h
  obtain ⟨A, p, B, rfl, hp⟩ := mem_split_num hk
  obtain ⟨o, ho, h2⟩ := ok.below p k hp _ hlt
  refine ⟨A, p, B, o, rfl, ho, ?_, ?_, by rw [hp]; rfl, _, k, hp, h2, hlt⟩
  · have hx : xorL (nums s (A ++ p :: B)) = k ^^^ (xorS s A ^^^ xorS s B) := xorS_num hp
    rw [xorS_num h2, hx]
    generalize xorS s A ^^^ xorS s B = R
    rw [Nat.xor_assoc k R m, xor_can, Nat.xor_comm R m, Nat.xor_assoc, Nat.xor_self, Nat.xor_zero]
  · rw [rnds_split, rnds_split, h2, hp]
    rfl
/-- a won one has a push to a lost one -/
theorem won_lost (ok : NumOk web s) {st : List Nat} (h : wordM web s st = some false) : ∃ st', Mv web st st' ∧ wordM web s st' = some true := by
  unfold wordM at h
  split at h
  · rename_i hr
    have hx : 0 < xorS s st := by
      have := of_decide_eq_false (Option.some.inj h)
      omega
    obtain ⟨A, p, B, o, rfl, ho, h1, h2, _⟩ := nim_push ok hx
    refine ⟨_, ⟨A, p, B, o, rfl, ho, rfl⟩, ?_⟩
    unfold wordM
    rw [h2, hr, h1]
    rfl
  · rename_i r hr
    have hin : xorS s st ∈ nums s (roads web r) := by
      split at h
      · assumption
      · cases h
    obtain ⟨A, B, rfl, hrn⟩ := mem_split_rnd (s := s) (st := st) (r := r) (by rw [hr]; exact List.mem_cons_self ..)
    obtain ⟨o, ho, h2⟩ := mem_nums.mp hin
    refine ⟨_, ⟨A, r, B, o, rfl, ho, rfl⟩, ?_⟩
    rw [rnds_split, hrn] at hr
    have hA : rnds s A = [] ∧ rnds s B = [] := by
      have hl := congrArg List.length hr
      rw [List.length_append, List.length_append] at hl
      have h1 : (if (none : Option Nat).isNone = true then [r] else []).length = 1 := rfl
      rw [h1] at hl
      have h3 : ([r] : List Nat).length = 1 := rfl
      rw [h3] at hl
      exact ⟨List.length_eq_zero_iff.mp (by omega), List.length_eq_zero_iff.mp (by omega)⟩
    rw [xorS_rnd hrn] at h2
    unfold wordM
    rw [rnds_split, hA.1, hA.2, h2]
    show some (decide (xorS s (A ++ o :: B) = 0)) = some true
    rw [xorS_num h2, Nat.xor_self]
    rfl
  · cases h
theorem word_none_iff {st : List Nat} : wordM web s st = none ↔ (∃ r, rnds s st = [r] ∧ xorS s st ∉ nums s (roads web r)) ∨ 2 ≤ (rnds s st).length := by
  unfold wordM
  split
  · rename_i hr
    rw [hr]
    constructor
    · intro h
      cases h
    · rintro (⟨r, h, _⟩ | h)
      · cases h
      · cases h
  · rename_i r hr
    rw [hr]
    constructor
    · intro h
      split at h
      · cases h
      · rename_i hn
        exact .inl ⟨r, rfl, hn⟩
    · rintro (⟨r', h, hn⟩ | h)
      · cases h
        rw [if_neg hn]
      · have : ([r] : List Nat).length = 1 := rfl
        omega
  · rename_i h1 h2
    constructor
    · intro _
      right
      cases hr : rnds s st with
      | nil => exact absurd hr h1
      | cons a t =>
        cases t with
        | nil => exact absurd hr (h2 a)
        | cons b u =>
          show 2 ≤ u.length + 1 + 1
          omega
    · intro _
      rfl
theorem word_lost_iff {st : List Nat} : wordM web s st = some true ↔ rnds s st = [] ∧ xorS s st = 0 := by
  unfold wordM
  split
  · rename_i hr
    rw [hr]
    constructor
    · intro h
      exact ⟨rfl, of_decide_eq_true (Option.some.inj h)⟩
    · rintro ⟨_, h⟩
      rw [decide_eq_true h]
  · rename_i r hr
    rw [hr]
    constructor
    · intro h
      split at h <;> cases h
    · rintro ⟨h, _⟩
      cases h
  · rename_i h1 h2
    constructor
    · intro h
      cases h
    · rintro ⟨h, _⟩
      exact absurd h h1
/-- no push of an endless one leads to a lost one -/
theorem endless_none {st st' : List Nat} (h : wordM web s st = none) (hm : Mv web st st') : wordM web s st' ≠ some true := fun hl => by
  obtain ⟨A, p, B, o, rfl, ho, rfl⟩ := hm
  obtain ⟨hr', hx'⟩ := word_lost_iff.mp hl
  rw [rnds_split] at hr'
  have hA : rnds s A = [] := (List.append_eq_nil_iff.mp (List.append_eq_nil_iff.mp hr').1).1
  have hB : rnds s B = [] := (List.append_eq_nil_iff.mp hr').2
  have hlen : (rnds s (A ++ p :: B)).length ≤ 1 := by
    rw [rnds_split, hA, hB]
    split <;> simp
  rcases word_none_iff.mp h with ⟨r, h1, h2⟩ | h1
  · rw [rnds_split, hA, hB] at h1
    cases hp : s.getD p none with
    | some k => rw [hp] at h1; cases h1
    | none =>
      rw [hp] at h1
      have hrp : p = r := by
        have h1 : [p] ++ [] = [r] := h1
        simpa using h1
      subst hrp
      obtain ⟨j, hj⟩ : ∃ j, s.getD o none = some j := by
        cases hso : s.getD o none with
        | some j => exact ⟨j, rfl⟩
        | none =>
          rw [hso] at hr'
          exact absurd (List.append_eq_nil_iff.mp (List.append_eq_nil_iff.mp hr').1).2 (by simp)
      rw [xorS_num hj] at hx'
      rw [xorS_rnd hp] at h2
      have : xorS s A ^^^ xorS s B = j := by
        have := congrArg (j ^^^ ·) hx'
        simpa [← Nat.xor_assoc] using this
      rw [this] at h2
      exact h2 (mem_nums.mpr ⟨o, ho, hj⟩)
  · omega
/-- what keeps a place from a number -/
theorem full_road (full : Full web s) {r : Nat} (hr : r < s.length) (hn : s.getD r none = none) : ∃ o ∈ roads web r, s.getD o none = none ∧ ∀ b ∈ roads web o, s.getD b none ≠ some (mex (nums s (roads web r))) := by
  have h := full r hr hn
  by_cases hex : ∃ o ∈ roads web r, s.getD o none = none ∧ ∀ b ∈ roads web o, s.getD b none ≠ some (mex (nums s (roads web r)))
  · exact hex
  · have : numR web s r = some (mex (nums s (roads web r))) := numR_some.mpr ⟨rfl, fun o ho hso => by
      by_cases hb : ∃ b ∈ roads web o, s.getD b none = some (mex (nums s (roads web r)))
      · exact hb
      · exact absurd ⟨o, ho, hso, fun b hb' e => hb ⟨b, hb', e⟩⟩ hex⟩
    rw [h] at this
    cases this
/-- an endless one has a push to an endless one -/
theorem endless_some (ok : NumOk web s) (full : Full web s) {st : List Nat} (hst : ∀ p ∈ st, p < s.length) (h : wordM web s st = none) : ∃ st', Mv web st st' ∧ wordM web s st' = none := by
  rcases word_none_iff.mp h with ⟨r, h1, h2⟩ | h1
  · obtain ⟨A, B, rfl, hrn⟩ := mem_split_rnd (s := s) (st := st) (r := r) (by rw [h1]; exact List.mem_cons_self ..)
    obtain ⟨o, ho, hso, hb⟩ := full_road full (hst r (by simp)) hrn
    rcases Nat.lt_trichotomy (xorS s (A ++ r :: B)) (mex (nums s (roads web r))) with hx | hx | hx
    · exact absurd (mex_below hx) h2
    · refine ⟨_, ⟨A, r, B, o, rfl, ho, rfl⟩, word_none_iff.mpr (.inl ⟨o, ?_, ?_⟩)⟩
      · rw [rnds_split, hrn] at h1
        rw [rnds_split, hso]
        have hl := congrArg List.length h1
        rw [List.length_append, List.length_append] at hl
        have e1 : (if (none : Option Nat).isNone = true then [r] else []).length = 1 := rfl
        have e3 : ([r] : List Nat).length = 1 := rfl
        rw [e1, e3] at hl
        rw [List.length_eq_zero_iff.mp (show (rnds s A).length = 0 by omega), List.length_eq_zero_iff.mp (show (rnds s B).length = 0 by omega)]
        rfl
      · rw [xorS_rnd hso, ← xorS_rnd (p := r) hrn, hx]
        intro hin
        obtain ⟨b, hb1, hb2⟩ := mem_nums.mp hin
        exact hb b hb1 hb2
    · obtain ⟨A', p, B', o', e, ho', g1, g2, _⟩ := nim_push ok hx
      refine ⟨_, ⟨A', p, B', o', e, ho', rfl⟩, word_none_iff.mpr (.inl ⟨r, by rw [g2, h1], ?_⟩)⟩
      rw [g1]
      exact mex_out _
  · obtain ⟨r, hr⟩ : ∃ r, r ∈ rnds s st := by
      cases hrs : rnds s st with
      | nil => rw [hrs] at h1; cases h1
      | cons a t => exact ⟨a, List.mem_cons_self ..⟩
    obtain ⟨A, B, rfl, hrn⟩ := mem_split_rnd hr
    obtain ⟨o, ho, hso, _⟩ := full_road full (hst r (by simp)) hrn
    refine ⟨_, ⟨A, r, B, o, rfl, ho, rfl⟩, word_none_iff.mpr (.inr ?_)⟩
    rw [rnds_split, hso]
    rw [rnds_split, hrn] at h1
    simpa using h1
end Sr
set_option linter.all false
set_option maxHeartbeats 1000000
/-! SrM6: the word by the numbers is the word of the play. -/
namespace Sr
def movesL (web : Webs) (st : List Nat) : List (List Nat) := (List.range st.length).flatMap fun i => (roads web (st.getD i 0)).map fun o => st.set i o
theorem mem_moves {web : Webs} {st st' : List Nat} : st' ∈ movesL web st ↔ Mv web st st' := by
  unfold movesL
  rw [List.mem_flatMap]
  constructor
  · rintro ⟨i, hi, h⟩
    rw [List.mem_range] at hi
    obtain ⟨o, ho, rfl⟩ := List.mem_map.mp h
    have e : st.getD i 0 = st[i] := by rw [List.getD_eq_getElem?_getD, List.getElem?_eq_getElem hi]; rfl
    rw [e] at ho
    refine ⟨st.take i, st[i], st.drop (i + 1), o, ?_, ho, ?_⟩
    · rw [List.getElem_cons_drop, List.take_append_drop]
    · rw [List.set_eq_take_append_cons_drop, if_pos hi]
  · rintro ⟨A, p, B, o, rfl, ho, rfl⟩
    refine ⟨A.length, List.mem_range.mpr (by simp), List.mem_map.mpr ⟨o, ?_, ?_⟩⟩
    · rw [List.getD_eq_getElem?_getD, List.getElem?_append_right (Nat.le_refl _), Nat.sub_self]
      exact ho
    · rw [List.set_append_right _ _ (Nat.le_refl _), Nat.sub_self]
      rfl
variable {web : Webs} {s : List (Option Nat)}
theorem mv_lt (hw : InR web) {st st' : List Nat} {n : Nat} (hn : n = web.length) (h : ∀ p ∈ st, p < n) (hm : Mv web st st') : ∀ p ∈ st', p < n := by
  obtain ⟨A, p, B, o, rfl, ho, rfl⟩ := hm
  intro q hq
  rcases List.mem_append.mp hq with hq | hq
  · exact h q (List.mem_append_left _ hq)
  · rcases List.mem_cons.mp hq with rfl | hq
    · rw [hn]
      exact hw p q ho
    · exact h q (List.mem_append_right _ (List.mem_cons_of_mem _ hq))
/-- what the play tells the numbers tell -/
theorem lab_word (hw : InR web) (hl : s.length = web.length) (ok : NumOk web s) (full : Full web s) {st : List Nat} {b : Bool} (h : Lab (movesL web) st b) : (∀ p ∈ st, p < web.length) → wordM web s st = some b := by
  induction h with
  | lost st hall ih =>
    intro hst
    cases hx : wordM web s st with
    | none =>
      obtain ⟨st', hm, h2⟩ := endless_some ok full (by rw [hl]; exact hst) hx
      rw [ih st' (mem_moves.mpr hm) (mv_lt hw rfl hst hm)] at h2
      cases h2
    | some b =>
      cases b with
      | true => rfl
      | false =>
        obtain ⟨st', hm, h2⟩ := won_lost ok hx
        rw [ih st' (mem_moves.mpr hm) (mv_lt hw rfl hst hm)] at h2
        cases h2
  | won st st' hin _ ih =>
    intro hst
    have hm := mem_moves.mp hin
    have h2 := ih (mv_lt hw rfl hst hm)
    cases hx : wordM web s st with
    | none => exact absurd h2 (endless_none hx hm)
    | some b =>
      cases b with
      | true =>
        rw [lost_won ok hx hm] at h2
        cases h2
      | false => rfl
/-! ### and the other way round: by the times at which numbers were given -/
def tSum (t : Nat → Nat) (st : List Nat) : Nat := (st.map t).foldr (· + ·) 0
theorem tSum_split {t : Nat → Nat} (A : List Nat) (p : Nat) (B : List Nat) : tSum t (A ++ p :: B) = t p + (tSum t A + tSum t B) := by
  induction A with
  | nil =>
    show t p + tSum t B = t p + (0 + tSum t B)
    omega
  | cons a A ih =>
    show t a + tSum t (A ++ p :: B) = t p + (t a + tSum t A + tSum t B)
    rw [ih]
    omega
theorem nim_pushT {t : Nat → Nat} (ht : Timed web s t) {st : List Nat} {m : Nat} (h : m < xorS s st) : ∃ A p B o, st = A ++ p :: B ∧ o ∈ roads web p ∧ xorS s (A ++ o :: B) = m ∧ rnds s (A ++ o :: B) = rnds s st ∧ t o < t p := by
  obtain ⟨k, hk, hlt⟩ := nim (ks := nums s st) h
  obtain ⟨A, p, B, rfl, hp⟩ := mem_split_num hk
  obtain ⟨o, ho, h2, h3⟩ := (ht p k hp).1 _ hlt
  refine ⟨A, p, B, o, rfl, ho, ?_, ?_, h3⟩
  · have hx : xorL (nums s (A ++ p :: B)) = k ^^^ (xorS s A ^^^ xorS s B) := xorS_num hp
    rw [xorS_num h2, hx]
    generalize xorS s A ^^^ xorS s B = R
    rw [Nat.xor_assoc k R m, xor_can, Nat.xor_comm R m, Nat.xor_assoc, Nat.xor_self, Nat.xor_zero]
  · rw [rnds_split, rnds_split, h2, hp]
    rfl
theorem lost_lab {t : Nat → Nat} (ht : Timed web s t) (ok : NumOk web s) : ∀ (n : Nat) (st : List Nat), tSum t st ≤ n → wordM web s st = some true → Lab (movesL web) st true := by
  intro n
  induction n using Nat.strongRecOn with
  | ind n ih =>
    intro st hn h
    have step : ∀ st2, tSum t st2 < tSum t st → wordM web s st2 = some true → Lab (movesL web) st2 true := fun st2 hlt h2 => ih (tSum t st2) (by omega) st2 (Nat.le_refl _) h2
    refine .lost _ fun st' hst' => ?_
    have hm := mem_moves.mp hst'
    have hwon := lost_won ok h hm
    obtain ⟨A, p, B, o, rfl, ho, rfl⟩ := hm
    obtain ⟨hr, hx⟩ := word_lost_iff.mp h
    rw [rnds_split] at hr
    have hA : rnds s A = [] := (List.append_eq_nil_iff.mp (List.append_eq_nil_iff.mp hr).1).1
    have hB : rnds s B = [] := (List.append_eq_nil_iff.mp hr).2
    obtain ⟨k, hk⟩ : ∃ k, s.getD p none = some k := by
      cases hp : s.getD p none with
      | some k => exact ⟨k, rfl⟩
      | none =>
        rw [hp] at hr
        exact absurd (List.append_eq_nil_iff.mp (List.append_eq_nil_iff.mp hr).1).2 (by simp)
    rw [xorS_num hk] at hx
    have hR : xorS s A ^^^ xorS s B = k := by
      have := congrArg (k ^^^ ·) hx
      simpa [← Nat.xor_assoc] using this
    rw [tSum_split] at step
    rcases (ht p k hk).2 o ho with ⟨j, hj, h2, h3⟩ | ⟨b, hb, h2, h3⟩
    · have hr' : rnds s (A ++ o :: B) = [] := by
        rw [rnds_split, hA, hB, h2]
        rfl
      have hx' : 0 < xorS s (A ++ o :: B) := by
        rw [xorS_num h2, hR]
        refine Nat.pos_of_ne_zero fun z => ?_
        have : j = k := by
          have := congrArg (· ^^^ k) z
          simpa [Nat.xor_assoc] using this
        omega
      obtain ⟨A', p', B', o', e, ho', g1, g2, g3⟩ := nim_pushT ht hx'
      refine .won _ _ (mem_moves.mpr ⟨A', p', B', o', e, ho', rfl⟩) (step _ ?_ (word_lost_iff.mpr ⟨by rw [g2, hr'], g1⟩))
      have e1 := tSum_split (t := t) A o B
      rw [e, tSum_split] at e1
      rw [tSum_split]
      omega
    · refine .won _ _ (mem_moves.mpr ⟨A, o, B, b, rfl, hb, rfl⟩) (step _ ?_ (word_lost_iff.mpr ⟨?_, ?_⟩))
      · rw [tSum_split]
        omega
      · rw [rnds_split, hA, hB, h2]
        rfl
      · rw [xorS_num h2, hR, Nat.xor_self]
/-- what the numbers tell the play tells -/
theorem word_lab (hs : NumBy web s) {st : List Nat} {b : Bool} (h : wordM web s st = some b) : Lab (movesL web) st b := by
  obtain ⟨t, N, ht, _⟩ := timed_of hs
  cases b with
  | true => exact lost_lab ht hs.ok _ st (Nat.le_refl _) h
  | false =>
    obtain ⟨st', hm, h2⟩ := won_lost hs.ok h
    exact .won _ _ (mem_moves.mpr hm) (lost_lab ht hs.ok _ st' (Nat.le_refl _) h2)
end Sr
set_option Elab.async false
set_option linter.all false
set_option maxRecDepth 100000
set_option maxHeartbeats 4000000
/-! SrC: instances of own classes: made without an __init__, made with one, their fields, their methods. -/
namespace Sr
open PySem PySem.Spec PyProof.Rows L2 Evl

/-- C() where there is no __init__ but object's -/
structure Bare (K : PySem.W.Frag) (C : Addr) : Prop where
  makes : PySem.W.makesIn K C = true
  init : PySem.W.findIn K (.ref C) "__init__" = some (some (.builtin "object.__init__"))
  kp : PySem.W.keepIn K (.ref C) = true
  top : PySem.W.mroIn K C (.type "object") = some true
def tBare (C : Addr) : TE := fun _ H Q => ∀ x dx, H x = none → H dx = none → dx ≠ x → Q (.ref x) (upd (upd H dx (.own x)) x (.ins C dx []))
theorem run_bare {X : Cx} {C : Addr} {pins : List (Addr × Obj)} {σ : L2.St} {H : Hp} {s : Shared} {Q : VK} (B : Bare X.K C) (I : Inv X pins σ H s)
    (h : ∀ x dx, H x = none → H dx = none → dx ≠ x → Q (.ref x) (upd (upd H dx (.own x)) x (.ins C dx []))) : wpAny (model X.prog X.w) X.A (call (.ref C) []) (EP X pins σ Q) X.xe s := by
  have hq := h (s.heap.objs.size + 1) s.heap.objs.size (I.hok.fresh (Nat.le_succ _)) (I.hok.fresh (Nat.le_refl _)) (Nat.ne_of_lt (Nat.lt_succ_self _))
  have I2 := Inv.made (C := C) I
  have t1 : PySem.W.Looks (model X.prog X.w) ((s.heap.push PySem.W.emptyDict).push (PySem.W.instObj C s.heap.objs.size)) (typeOf (.ref (s.heap.objs.size + 1))) (.ref C) := by
    refine NwA.type_at (o := PySem.W.instObj C s.heap.objs.size) ?_ rfl
    have e : (s.heap.push PySem.W.emptyDict).objs.size = s.heap.objs.size + 1 := Heap.size_push ..
    rw [← e]
    exact Heap.get?_push_size _ rfl
  have t2 : PySem.W.Looks (model X.prog X.w) ((s.heap.push PySem.W.emptyDict).push (PySem.W.instObj C s.heap.objs.size)) (isInstance (.ref (s.heap.objs.size + 1)) (.type "object")) true := t1.andThen (PySem.W.looks_mroIn I2.kIn B.top)
  refine wpAny_call (make_map0 I.kIn B.makes B.init (fun self => PySem.W.Looks.of_pure (PySem.W.oi_bind _)) ?_)
  refine codeAny_call_builtin PySem.W.oi_plain PySem.W.entry_oi (@PySem.W.check_slot (model X.prog X.w) _ _ _ "object.__init__" "object" "__init__" (.ref (s.heap.objs.size + 1)) [] [] _ PySem.W.oi_kind PySem.W.oi_split t2 (PySem.W.oi_args (.ref (s.heap.objs.size + 1))) ?_)
  rw [PySem.W.oi_run]
  exact wpAny_pure (And.intro rfl ⟨V.ref (s.heap.objs.size + 1), _, I2, rfl, hq⟩)
section
variable {X : Cx} {C : Addr} {k j : Nat} {sp : Sp} {x m : Str} {p pos apos : Pos} {e o : Expr} {es : List Expr} {t : TA} {ta : TE}
theorem pe_bare (B : Bare X.K C) (hg : Gl X x) (hm : X.mg x = some (.ref C)) (hdb : (x == ("__debug__" : Str)) = false := by decide) : PE X (.Call (.Name x p) [] [] pos) (tBare C) := by
  refine ⟨fun pins s σ H Q I h => ?_⟩
  refine wpAny_Call_Name_kw (ld_glob I hg hm ?_ hdb)
  exact PySem.W.callWith_K0 I.kIn B.kp (run_bare B I h)
/-- one of several readings -/
theorem pe_ex {ι : Type} {t : ι → TE} (h : ∀ i, PE X e (t i)) : PE X e (fun σ H Q => ∃ i, t i σ H Q) := ⟨fun pins s σ H Q I ⟨i, h'⟩ => (h i).run pins s σ H Q I h'⟩
end
/-- a method of a class with its promise -/
structure Mth (P : Program) (w : World) (K : PySem.W.Frag) (mg : Str → Option Value) (base : Heap) (CX : CXT) (k : Nat) (C : Addr) (m : Str) (sp : Sp) : Prop where
  ex : ∃ (f : Addr) (fd : FuncData) (ps : List Str), FnOk P w K mg base CX k f fd ps sp ∧ Meth K C m f ∧ Binds K fd ps []
/-- a class that is made by its __init__ -/
structure Mak (P : Program) (w : World) (K : PySem.W.Frag) (mg : Str → Option Value) (base : Heap) (CX : CXT) (k : Nat) (x : Str) (C : Addr) (sp : Sp) : Prop where
  ex : ∃ (f : Addr) (fd : FuncData) (ps : List Str), FnOk P w K mg base CX k f fd ps sp ∧ Mk K C f ∧ Binds K fd ps []
  g : mg x = some (.ref C)
/-- a def in a class -/
structure DfM (K : PySem.W.Frag) (C : Addr) (m qual : Str) (st : Stmt) (ps : List Str) : Prop where
  ex : ∃ (f : Addr) (fd : FuncData), Fun K m qual st f fd ∧ Meth K C m f ∧ Binds K fd ps []
section
variable {P : Program} {w : World} {K : PySem.W.Frag} {mg : Str → Option Value} {base : Heap}
theorem dfm_mk {C : Addr} {m qual : Str} {st : Stmt} {ps : List Str} {f : Addr} {oc : Value} {od an : Option Addr} {osl : Array (Option Value)} {kV doc pm cdv ct : Value}
    (a : PySem.W.findIn K (.ref C) m = some (some (.ref f))) (l : K.lookup f = some ⟨oc, od, .func (PySem.W.fnOf m qual (defArgs st) (defBody st) (defScope st) .none kV doc pm an cdv ct), osl⟩)
    (c : PySem.W.codeIn K cdv qual = true) (k : PySem.W.keepIn K (.ref f) = true) (fn : PySem.W.isFn K (.ref f) = true)
    (hb : ∀ (kV doc pm : Value) (an : Option Addr) (cdv ct : Value) (us : List Value), us.length = ps.length → bindArgs (PySem.W.fnOf m qual (defArgs st) (defBody st) (defScope st) .none kV doc pm an cdv ct) ⟨us, []⟩ = pure (ps.zip us)) : DfM K C m qual st ps :=
  ⟨f, _, fun_mk l c k, ⟨a, fn, k⟩, (fun_mk l c k).binds hb⟩
theorem DfM.mth {C : Addr} {m qual : Str} {st : Stmt} {N ps : List Str} {k : Nat} {sp : Sp} (d : DfM K C m qual st ps) (S : FnScope N ps (defScope st)) (len : ∀ vs H Q E, sp vs H Q E → vs.length = ps.length)
    (hbody : ∀ (f : Addr) (cdv : Value) (A : Around) (outer : List Env) (s : Shared) (H : Hp) (vs : List V) (Q : VK) (E : XK), Room k (A.deeper (envOfC qual (defScope st) s.heap.objs.size f cdv)) → sp vs H Q E →
      ∃ t, PSs (cxOf CX0 P w K mg base N qual (defScope st) f cdv A outer s H E).nox (defBody st) t ∧ t { nx := fun _ H' => Q .non H', rt := Q } (start N vs) H) : Mth P w K mg base CX0 (k + 1) C m sp := by
  obtain ⟨f, fd, F, hm, hb⟩ := d.ex
  exact ⟨f, fd, ps, F.ok S len (hbody f), hm, hb⟩
theorem DfM.mak {C : Addr} {x qual : Str} {st : Stmt} {N ps : List Str} {k : Nat} {sp : Sp} (d : DfM K C "__init__" qual st ps) (hmk : PySem.W.makesIn K C = true) (hkp : PySem.W.keepIn K (.ref C) = true) (hg : mg x = some (.ref C)) (S : FnScope N ps (defScope st)) (len : ∀ vs H Q E, sp vs H Q E → vs.length = ps.length)
    (hbody : ∀ (f : Addr) (cdv : Value) (A : Around) (outer : List Env) (s : Shared) (H : Hp) (vs : List V) (Q : VK) (E : XK), Room k (A.deeper (envOfC qual (defScope st) s.heap.objs.size f cdv)) → sp vs H Q E →
      ∃ t, PSs (cxOf CX0 P w K mg base N qual (defScope st) f cdv A outer s H E).nox (defBody st) t ∧ t { nx := fun _ H' => Q .non H', rt := Q } (start N vs) H) : Mak P w K mg base CX0 (k + 1) x C sp := by
  obtain ⟨f, fd, F, hm, hb⟩ := d.ex
  exact ⟨⟨f, fd, ps, F.ok S len (hbody f), ⟨hmk, hm.at_, hm.fn, hkp⟩, hb⟩, hg⟩
end
section
variable {X : Cx} {C : Addr} {k j : Nat} {sp : Sp} {x m : Str} {p pos apos : Pos} {e o : Expr} {es : List Expr} {t : TA} {ta : TE}
/-- o.m(e, ..) -/
theorem pe_m {pl : Sem Bool} (he : PE X o ta) (c : Cls X.K C) (M : Mth X.prog X.w X.K X.mg X.base CX0 k C m sp) (hr : Room j X.A) (hk : k ≤ j) (ha : PA X (e :: es) t)
    (hst : starEach (e :: es) X.env = (false, eval e X.env) :: starEach es X.env := by rfl) (hpl : (backTo pos (starEach es X.env)).any (·.1) = false := by rfl)
    (ht : eval (.Call (.Attribute o m apos) (e :: es) [] pos) X.env = (do
      let ov ← eval o X.env
      standAt apos.atName
      let (f, first) ← holding [ov] (getMethod ov m pl)
      callWith pos f first (backTo pos (starEach (e :: es) X.env)) (backToKw pos (keywordEach [] X.env))) := by rfl) :
    PE X (.Call (.Attribute o m apos) (e :: es) [] pos) (tMeth C m sp [] E0 ta t) := by
  obtain ⟨f, fd, ps, F, hm, b⟩ := M.ex
  exact pe_meth he c hm F (hr.mono hk) b .nil pass0 ha hst hpl ht
/-- C(e, ..) by its __init__ -/
theorem pe_mk (M : Mak X.prog X.w X.K X.mg X.base CX0 k x C sp) (hr : Room j X.A) (hk : k + 1 ≤ j) (hg : Gl X x) (ha : PA X (e :: es) t)
    (hdb : (x == ("__debug__" : Str)) = false := by decide) (he : starEach (e :: es) X.env = (false, eval e X.env) :: starEach es X.env := by rfl) (hpl : (backTo pos (starEach es X.env)).any (·.1) = false := by rfl) :
    PE X (.Call (.Name x p) (e :: es) [] pos) (tMake C sp [] E0 t) := by
  obtain ⟨f, fd, ps, F, mk, b⟩ := M.ex
  exact pe_make mk F (hr.mono hk) hg M.g b .nil pass0 ha hdb he hpl
end
/-- an instance at x -/
def Ins (H : Hp) (x C : Addr) (fs : List (Str × V)) : Prop := ∃ dx, H x = some (.ins C dx fs)
theorem Ins.mono {H H' : Hp} {x C : Addr} {fs : List (Str × V)} (e : Ex H H') (h : Ins H x C fs) : Ins H' x C fs := by
  obtain ⟨dx, h⟩ := h
  exact ⟨dx, e _ _ h⟩
section
variable {K : PySem.W.Frag} {σ : L2.St} {H H' : Hp} {ta tb tc td te ty tx : TE} {t u : TT} {x y z v : V} {r : R2} {D : Ends} {tu tw tz : TS} {g : TG} {C a : Addr} {fs : List (Str × V)}
/-- o.f -/
theorem ev_fld {f : Str} (ho : Ev ta σ H (.ref a)) (hi : Ins H a C fs) (c : Cls K C) (n : NoAttr K C f) (hl : fs.lookup f = some v) : Ev (tFld K ta f) σ H v := fun H1 e Q q => ho H1 e _ fun H2 e2 => by
  obtain ⟨dx, h⟩ := hi
  exact ⟨a, C, dx, fs, v, rfl, (e.trans e2) _ _ h, c, n, hl, q H2 e2⟩
/-- C() -/
theorem ep_bare : EvP (tBare C) σ H (fun H1 v H2 => ∃ x, v = .ref x ∧ H1 x = none ∧ Ins H2 x C []) := fun H1 _ Q q x dx hx hdx ne =>
  q _ _ ((Ex.new hdx).trans (Ex.new (by rw [upd_ne (Ne.symm ne)]; exact hx))) ⟨x, rfl, hx, dx, upd_same⟩
/-- o.m(..) of a promise by ghost data -/
theorem ep_m2 {α : Type} {A : α → List V → Hp → Prop} {R : α → Hp → V → Hp → Prop} {tr : TA} {vs : List V} {m : Str} {P : Hp → V → Hp → Prop} (g : α) (ho : Ev ta σ H (.ref a)) (hi : Ins H a C fs) (hm : fs.lookup m = none) (hv : EvA tr σ H vs) (hA : ∀ H1, Ex H H1 → A g (.ref a :: vs) H1)
    (hR : ∀ H1 H0 v H2, Ex H H1 → Ex H1 H0 → Ex H0 H2 → R g H0 v H2 → P H1 v H2) : EvP (tMeth C m (spOf A R) [] E0 ta tr) σ H P := fun H1 e Q q => ho H1 e _ fun H2 e2 => by
  obtain ⟨dx, h⟩ := hi
  refine ⟨a, dx, fs, rfl, (e.trans e2) _ _ h, hm, hv H2 (e.trans e2) _ fun H3 e3 => ⟨g, ?_, fun v H4 e4 r => q v H4 ((e2.trans e3).trans e4) (hR H1 H3 v H4 e (e2.trans e3) e4 r)⟩⟩
  rw [List.append_nil]
  exact hA H3 ((e.trans e2).trans e3)
theorem ev_m2 {α : Type} {A : α → List V → Hp → Prop} {R : α → Hp → V → Hp → Prop} {tr : TA} {vs : List V} {m : Str} (g : α) (ho : Ev ta σ H (.ref a)) (hi : Ins H a C fs) (hm : fs.lookup m = none) (hv : EvA tr σ H vs) (hA : ∀ H1, Ex H H1 → A g (.ref a :: vs) H1)
    (hR : ∀ H0 v H2, R g H0 v H2 → v = z) : Ev (tMeth C m (spOf A R) [] E0 ta tr) σ H z :=
  EvP.val (ep_m2 (P := fun _ v _ => v = z) g ho hi hm hv hA fun _ _ _ _ _ _ _ r => hR _ _ _ r) fun _ _ _ _ _ h => h
theorem ev_ex {ι : Type} {t : ι → TE} (i : ι) (h : Ev (t i) σ H v) : Ev (fun σ H Q => ∃ i, t i σ H Q) σ H v := fun H1 e Q q => ⟨i, h H1 e Q q⟩
theorem ep_ex {ι : Type} {t : ι → TE} {P : Hp → V → Hp → Prop} (i : ι) (h : EvP (t i) σ H P) : EvP (fun σ H Q => ∃ i, t i σ H Q) σ H P := fun H1 e Q q => ⟨i, h H1 e Q q⟩
end
end Sr
set_option Elab.async false
set_option linter.all false
set_option maxRecDepth 100000
set_option maxHeartbeats 4000000
/-! SrT: what is told of stones: the first push, answers as instances, the promises of answers and of telling. -/
namespace Sr
open PySem PySem.Spec PyProof.Rows L2 Evl

/-! ### pushes -/
def pushesL (web : Webs) (st : List Nat) : List (Nat × Nat) := (List.range st.length).flatMap fun i => (roads web (st.getD i 0)).map fun o => (i, o)
theorem mem_pushes {web : Webs} {st : List Nat} {i o : Nat} : (i, o) ∈ pushesL web st ↔ i < st.length ∧ o ∈ roads web (st.getD i 0) := by
  unfold pushesL
  simp only [List.mem_flatMap, List.mem_range, List.mem_map, Prod.mk.injEq]
  constructor
  · rintro ⟨a, h1, b, h2, rfl, rfl⟩
    exact ⟨h1, h2⟩
  · rintro ⟨h1, h2⟩
    exact ⟨i, h1, o, h2, rfl, rfl⟩
theorem moves_pushes (web : Webs) (st : List Nat) : movesL web st = (pushesL web st).map fun io => st.set io.1 io.2 := by
  unfold movesL pushesL
  rw [List.map_flatMap]
  congr 1
  funext i
  rw [List.map_map]
  rfl
/-- the first push to a word -/
def firstTo (web : Webs) (s : List (Option Nat)) (st : List Nat) (w : Option Bool) : Nat × Nat := ((pushesL web st).find? fun io => decide (wordM web s (st.set io.1 io.2) = w)).getD (0, 0)
theorem firstTo_is {web : Webs} {s : List (Option Nat)} {st : List Nat} {w : Option Bool} (h : ∃ st', Mv web st st' ∧ wordM web s st' = w) :
    firstTo web s st w ∈ pushesL web st ∧ wordM web s (st.set (firstTo web s st w).1 (firstTo web s st w).2) = w := by
  obtain ⟨st', h1, h2⟩ := h
  rw [← mem_moves, moves_pushes] at h1
  obtain ⟨io, h3, rfl⟩ := List.mem_map.mp h1
  unfold firstTo
  cases hf : (pushesL web st).find? fun io => decide (wordM web s (st.set io.1 io.2) = w) with
  | none =>
    have := List.find?_eq_none.mp hf io h3
    exact absurd (decide_eq_true h2) this
  | some z =>
    have h4 := List.find?_some hf
    exact ⟨List.mem_of_find?_eq_some hf, of_decide_eq_true h4⟩
/-- the word that is looked for behind the push -/
def nextW : Option Bool → Option Bool
  | some false => some true
  | _ => none
def pushOf (web : Webs) (st : List Nat) : Nat × Nat := firstTo web (numsM web) st (nextW (wordM web (numsM web) st))
theorem pushOf_is {web : Webs} (hw : InR web) {st : List Nat} (hst : ∀ p ∈ st, p < web.length) (h : wordM web (numsM web) st ≠ some true) :
    pushOf web st ∈ pushesL web st ∧ wordM web (numsM web) (st.set (pushOf web st).1 (pushOf web st).2) = nextW (wordM web (numsM web) st) := by
  refine firstTo_is ?_
  cases hc : wordM web (numsM web) st with
  | none => exact endless_some (numsM_by web).ok (numsM_full web) (fun p hp => by rw [numsM_len]; exact hst p hp) hc
  | some b =>
    cases b with
    | true => exact absurd hc h
    | false => exact won_lost (numsM_by web).ok hc
/-- what is told of a place that a push leads to -/
abbrev wrd (web : Webs) (st : List Nat) : Option Bool := wordM web (numsM web) st
def showW (web : Webs) (st : List Nat) (s p : V) : Bool := match pushM web st s p with
  | some st' => decide (wrd web st' = some true)
  | none => false
def showE (web : Webs) (st : List Nat) (s p : V) : Bool := match pushM web st s p with
  | some st' => decide (wrd web st = none) && decide (wrd web st' = none)
  | none => false
theorem pushM_of {web : Webs} {st : List Nat} {i o : Nat} (g : Good web) (hst : ∀ p ∈ st, p < web.length) (h : (i, o) ∈ pushesL web st) : pushM web st (nv i) (nv o) = some (st.set i o) := by
  obtain ⟨h1, h2⟩ := mem_pushes.mp h
  have h3 : o < web.length := g.inR _ _ h2
  show (if 0 ≤ (i : Int) ∧ (i : Int) < (st.length : Int) ∧ 0 ≤ (o : Int) ∧ (o : Int) < (web.length : Int) ∧ (o : Int).toNat ∈ web.getD (st.getD (i : Int).toNat 0) [] then some (st.set (i : Int).toNat (o : Int).toNat) else none) = _
  rw [Int.toNat_natCast, Int.toNat_natCast, if_pos ⟨by omega, by omega, by omega, by omega, h2⟩]
theorem pushM_mem {web : Webs} {st st' : List Nat} {s p : V} (h : pushM web st s p = some st') : ∃ i o, s = nv i ∧ p = nv o ∧ (i, o) ∈ pushesL web st ∧ st' = st.set i o := by
  unfold pushM at h
  split at h
  · rename_i i j
    split at h
    · rename_i hc
      obtain ⟨h1, h2, h3, h4, h5⟩ := hc
      refine ⟨i.toNat, j.toNat, ?_, ?_, mem_pushes.mpr ⟨by omega, h5⟩, (Option.some.inj h).symm⟩
      · show V.int i = V.int _
        rw [Int.toNat_of_nonneg h1]
      · show V.int j = V.int _
        rw [Int.toNat_of_nonneg h3]
    · cases h
  · cases h
theorem set_lt {web : Webs} (hw : InR web) {st : List Nat} (hst : ∀ p ∈ st, p < web.length) {i o : Nat} (h : (i, o) ∈ pushesL web st) : ∀ p ∈ st.set i o, p < web.length := fun p hp => by
  rcases List.mem_or_eq_of_mem_set hp with h1 | h1
  · exact hst p h1
  · rw [h1]
    exact hw _ _ (mem_pushes.mp h).2

/-! ### answers -/
def clsOf (L W E : Addr) : Option Bool → Addr
  | some true => L
  | some false => W
  | none => E
def flds (s p : V) : List (Str × V) := [("stone", s), ("place", p)]
def fldOf : Option Bool → Nat × Nat → List (Str × V)
  | some true, _ => []
  | _, io => flds (nv io.1) (nv io.2)
/-- what told hands back -/
def Ans (L W E : Addr) (H : Hp) (x : Addr) (web : Webs) (st : List Nat) : Prop := Ins H x (clsOf L W E (wrd web st)) (fldOf (wrd web st) (pushOf web st))
theorem Ans.mono {L W E : Addr} {H H' : Hp} {x : Addr} {web : Webs} {st : List Nat} (e : Ex H H') (h : Ans L W E H x web st) : Ans L W E H' x web st := Ins.mono e h
/-- what isinstance asks of a class -/
structure InsT (K : PySem.W.Frag) (C : Addr) : Prop where
  cl : Cls K C
  ha : PySem.W.findIn K (.ref C) "__class__" = some (some (.builtin "object.__class__"))
  hn : PySem.W.specialIn K (.builtin "object.__class__") "__get__" = some (some (.builtin "getset_descriptor.__get__"))
  htk : PySem.W.takesIn K (.builtin "object.__class__") = some true
  hm : PySem.W.mroIn K C (.type "object") = some true
structure Kl (K : PySem.W.Frag) (mg : Str → Option Value) (L W E : Addr) : Prop where
  gL : mg "Lost" = some (.ref L)
  gW : mg "Won" = some (.ref W)
  gE : mg "Endless" = some (.ref E)
  bL : Bare K L
  iL : InsT K L
  iW : InsT K W
  iE : InsT K E
  nWs : NoAttr K W "stone"
  nWp : NoAttr K W "place"
  nEs : NoAttr K E "stone"
  nEp : NoAttr K E "place"
  kLL : PySem.W.kitOne K (.ref L) (.ref L) = some true
  kLW : PySem.W.kitOne K (.ref L) (.ref W) = some false
  kLE : PySem.W.kitOne K (.ref L) (.ref E) = some false
  kWL : PySem.W.kitOne K (.ref W) (.ref L) = some false
  kWW : PySem.W.kitOne K (.ref W) (.ref W) = some true
  kWE : PySem.W.kitOne K (.ref W) (.ref E) = some false
  kEL : PySem.W.kitOne K (.ref E) (.ref L) = some false
  kEW : PySem.W.kitOne K (.ref E) (.ref W) = some false
  kEE : PySem.W.kitOne K (.ref E) (.ref E) = some true
section
variable {K : PySem.W.Frag} {mg : Str → Option Value} {L W E : Addr} {σ : L2.St} {H H' : Hp} {ta tb tc td te ty tx : TE} {t u : TT} {x y z v : V} {r : R2} {D : Ends} {tu tw tz : TS} {g : TG} {C a : Addr} {fs : List (Str × V)}
theorem Kl.i (k : Kl K mg L W E) : ∀ b, InsT K (clsOf L W E b)
  | some true => k.iL
  | some false => k.iW
  | none => k.iE
theorem Kl.kL (k : Kl K mg L W E) : ∀ b, PySem.W.kitOne K (.ref (clsOf L W E b)) (.ref L) = some (decide (b = some true))
  | some true => k.kLL
  | some false => k.kWL
  | none => k.kEL
theorem Kl.kW (k : Kl K mg L W E) : ∀ b, PySem.W.kitOne K (.ref (clsOf L W E b)) (.ref W) = some (decide (b = some false))
  | some true => k.kLW
  | some false => k.kWW
  | none => k.kEW
theorem Kl.kE (k : Kl K mg L W E) : ∀ b, PySem.W.kitOne K (.ref (clsOf L W E b)) (.ref E) = some (decide (b = none))
  | some true => k.kLE
  | some false => k.kWE
  | none => k.kEE
/-- isinstance(x, C) of an instance -/
theorem ev_isO {Dc : Addr} {b : Bool} (hx : Ev ta σ H (.ref a)) (hi : Ins H a C fs) (ic : InsT K C) (hc : Ev tb σ H (.ref Dc)) (hk : PySem.W.kitOne K (.ref C) (.ref Dc) = some b) : Ev (tCB (rIsi K) (tCons ta (tCons tb tNil))) σ H (.bl b) := by
  obtain ⟨dx, h⟩ := hi
  exact ev_cb (ea_cons hx (ea_cons hc ea_nil)) fun H1 e _ q => ⟨.ref a, .ref Dc, .ref C, .ref Dc, b, rfl, .own Dc, .base (.ins (e _ _ h) ic.cl ic.ha ic.hn ic.htk ic.hm), hk, q H1 (Ex.refl H1)⟩
/-- isinstance(e, C) where e makes the instance -/
theorem ev_isOP {Dc : Addr} {b : Bool} {P : Hp → V → Hp → Prop} (hx : EvP ta σ H P) (hP : ∀ H1 v H2, Ex H H1 → Ex H1 H2 → P H1 v H2 → ∃ a C fs, v = .ref a ∧ Ins H2 a C fs ∧ InsT K C ∧ PySem.W.kitOne K (.ref C) (.ref Dc) = some b) (hc : ∀ H1, Ev tb σ H1 (.ref Dc)) : Ev (tCB (rIsi K) (tCons ta (tCons tb tNil))) σ H (.bl b) :=
  fun H1 e Q q => hx H1 e _ fun v H2 e2 p => hc H2 H2 (Ex.refl H2) _ fun H3 e3 => by
    obtain ⟨a, C, fs, rfl, ⟨dx, h⟩, ic, hk⟩ := hP H1 v H2 e e2 p
    exact ⟨.ref a, .ref Dc, .ref C, .ref Dc, b, rfl, .own Dc, .base (.ins (e3 _ _ h) ic.cl ic.ha ic.hn ic.htk ic.hm), hk, q H3 (e2.trans e3)⟩
end

/-! ### worths in the heap -/
def WvK (K : PySem.W.Frag) (H : Hp) (v : V) : Wth → Prop
  | .num n => v = nv n
  | .row ns => ∃ r, v = .ref r ∧ SqL K H r (ns.map nv)
def WLs (K : PySem.W.Frag) (H : Hp) (p : Addr) (web : Webs) : Prop := ∃ ys : List V, SqL K H p ys ∧ ys.length = web.length ∧ ∀ i, i < web.length → ∃ v, ys[i]? = some v ∧ WvK K H v (wthOf web (numsM web) i)
theorem WvK.mono {K : PySem.W.Frag} {H H' : Hp} {v : V} {w : Wth} (e : Ex H H') (h : WvK K H v w) : WvK K H' v w := by
  cases w with
  | num n => exact h
  | row ns =>
    obtain ⟨r, h1, h2⟩ := h
    exact ⟨r, h1, ex_l e h2⟩
theorem WLs.mono {K : PySem.W.Frag} {H H' : Hp} {p : Addr} {web : Webs} (e : Ex H H') (h : WLs K H p web) : WLs K H' p web := by
  obtain ⟨ys, h1, h2, h3⟩ := h
  refine ⟨ys, ex_l e h1, h2, fun i hi => ?_⟩
  obtain ⟨v, h4, h5⟩ := h3 i hi
  exact ⟨v, h4, h5.mono e⟩
theorem WL.s {K : PySem.W.Frag} {H0 H : Hp} {p : Addr} {ys : List V} {web : Webs} (h : WL H0 p ys (wthM web) H) : WLs K H p web := by
  have hl : ys.length = web.length := by rw [h.len, wthM_len]
  refine ⟨ys, sq_of h.top, hl, fun i hi => ?_⟩
  have h1 : i < ys.length := by omega
  refine ⟨ys[i], List.getElem?_eq_getElem h1, ?_⟩
  have h2 := h.item i ys[i] _ (List.getElem?_eq_getElem h1) (wthM_at hi)
  cases hw : wthOf web (numsM web) i with
  | num n =>
    rw [hw] at h2
    exact h2
  | row ns =>
    rw [hw] at h2
    obtain ⟨r, g1, _, g3⟩ := h2
    exact ⟨r, g1, sq_of g3⟩

/-! ### promises -/
def sp_word (K : PySem.W.Frag) : Sp := spOf (α := (Addr × Webs) × (Addr × List Nat)) (fun a vs H => vs = [.ref a.1.1, .ref a.2.1] ∧ WLs K H a.1.1 a.1.2 ∧ LI K H a.2.1 a.2.2 ∧ (∀ p ∈ a.2.2, p < a.1.2.length) ∧ a.2.2.length ≤ 1000) (fun a _ v _ => v = fv (wrd a.1.2 a.2.2))
def sp_wordT (K : PySem.W.Frag) : Sp := spOf (α := (Addr × Webs) × (Addr × List Nat)) (fun a vs H => vs = [.ref a.1.1, .ref a.2.1] ∧ WLs K H a.1.1 a.1.2 ∧ SqT K H a.2.1 (a.2.2.map nv) ∧ (∀ p ∈ a.2.2, p < a.1.2.length) ∧ a.2.2.length ≤ 1000) (fun a _ v _ => v = fv (wrd a.1.2 a.2.2))
structure WS (K : PySem.W.Frag) (H : Hp) (wa : Addr) (w0 : Webs) (sa : Addr) (s0 : List Nat) : Prop where
  web : LL K H wa w0
  ok : Ok60 w0
  st : LI K H sa s0
  okS : OkSt w0 s0
theorem WS.mono {K : PySem.W.Frag} {H H' : Hp} {wa sa : Addr} {web : Webs} {st : List Nat} (e : Ex H H') (h : WS K H wa web sa st) : WS K H' wa web sa st := ⟨h.web.mono e, h.ok, h.st.mono e, h.okS⟩
def sp_behind (K : PySem.W.Frag) : Sp := spOf (α := (Addr × Webs) × (Addr × List Nat) × V × V) (fun a vs H => vs = [.ref a.1.1, .ref a.2.1.1, a.2.2.1, a.2.2.2] ∧ WS K H a.1.1 a.1.2 a.2.1.1 a.2.1.2 ∧ Typ K H a.2.2.1 ∧ Typ K H a.2.2.2)
  (fun a H v H' => ∃ q, v = .ref q ∧ H q = none ∧ H' q = some (.tup (((pushM a.1.2 a.2.1.2 a.2.2.1 a.2.2.2).getD []).map nv)))
def sp_showsL (K : PySem.W.Frag) : Sp := spOf (α := Addr × (Addr × Webs) × (Addr × List Nat)) (fun a vs H => vs = [.ref a.1, .ref a.2.1.1, .ref a.2.2.1] ∧ WS K H a.2.1.1 a.2.1.2 a.2.2.1 a.2.2.2) (fun a _ v _ => v = .bl (decide (wrd a.2.1.2 a.2.2.2 = some true)))
def sp_showsW (K : PySem.W.Frag) (W : Addr) : Sp := spOf (α := (Addr × V × V) × (Addr × Webs) × (Addr × List Nat)) (fun a vs H => vs = [.ref a.1.1, .ref a.2.1.1, .ref a.2.2.1] ∧ WS K H a.2.1.1 a.2.1.2 a.2.2.1 a.2.2.2 ∧ Ins H a.1.1 W (flds a.1.2.1 a.1.2.2) ∧ Typ K H a.1.2.1 ∧ Typ K H a.1.2.2)
  (fun a _ v _ => v = .bl (showW a.2.1.2 a.2.2.2 a.1.2.1 a.1.2.2))
def sp_showsE (K : PySem.W.Frag) (E : Addr) : Sp := spOf (α := (Addr × V × V) × (Addr × Webs) × (Addr × List Nat)) (fun a vs H => vs = [.ref a.1.1, .ref a.2.1.1, .ref a.2.2.1] ∧ WS K H a.2.1.1 a.2.1.2 a.2.2.1 a.2.2.2 ∧ Ins H a.1.1 E (flds a.1.2.1 a.1.2.2) ∧ Typ K H a.1.2.1 ∧ Typ K H a.1.2.2)
  (fun a _ v _ => v = .bl (showE a.2.1.2 a.2.2.2 a.1.2.1 a.1.2.2))
/-- __init__ of Won and Endless -/
def sp_init (C : Addr) : Sp := fun vs H Q _ => ∃ (x dx : Addr) (s p : V), vs = [.ref x, s, p] ∧ H x = some (.ins C dx []) ∧ ∀ H', Ex (upd H x (.ins C dx (flds s p))) H' → Q .non H'
def sp_pushes (K : PySem.W.Frag) : Sp := spOf (α := (Addr × Webs) × (Addr × List Nat)) (fun a vs H => vs = [.ref a.1.1, .ref a.2.1] ∧ WS K H a.1.1 a.1.2 a.2.1 a.2.2)
  (fun a H v H' => ∃ p ys, v = .ref p ∧ H p = none ∧ H' p = some (.lst ys) ∧ ys.length = (pushesL a.1.2 a.2.2).length ∧ ∀ (j : Nat) (z : Nat × Nat) (y : V), (pushesL a.1.2 a.2.2)[j]? = some z → ys[j]? = some y → NewTup (fun z : Nat × Nat => [nv z.1, nv z.2]) p z y H')
def sp_first (K : PySem.W.Frag) : Sp := spOf (α := (Addr × Webs) × (Addr × List Nat) × Addr × Option Bool) (fun a vs H => vs = [.ref a.1.1, .ref a.2.1.1, .ref a.2.2.1, fv a.2.2.2] ∧ WS K H a.1.1 a.1.2 a.2.1.1 a.2.1.2 ∧ WLs K H a.2.2.1 a.1.2)
  (fun a H v H' => ∃ q, v = .ref q ∧ H q = none ∧ H' q = some (.tup [nv (firstTo a.1.2 (numsM a.1.2) a.2.1.2 a.2.2.2).1, nv (firstTo a.1.2 (numsM a.1.2) a.2.1.2 a.2.2.2).2]))
def sp_told (K : PySem.W.Frag) (L W E : Addr) : Sp := spOf (α := (Addr × Webs) × (Addr × List Nat)) (fun a vs H => vs = [.ref a.1.1, .ref a.2.1] ∧ WS K H a.1.1 a.1.2 a.2.1 a.2.2)
  (fun a H v H' => ∃ x, v = .ref x ∧ H x = none ∧ Ans L W E H' x a.1.2 a.2.2)

/-! ### rules for them -/
section
variable {K : PySem.W.Frag} {mg : Str → Option Value} {L W E : Addr} {σ : L2.St} {H H' : Hp} {ta tb tc td te ty tx : TE} {t u : TT} {x y z v : V} {r : R2} {D : Ends} {tu tw tz : TS} {g : TG} {C a : Addr} {fs : List (Str × V)}
/-- C(s, p) -/
theorem ep_make {tr : TA} {s p : V} (hv : EvA tr σ H [s, p]) : EvP (tMake C (sp_init C) [] E0 tr) σ H (fun H1 v H2 => ∃ x, v = .ref x ∧ H1 x = none ∧ Ins H2 x C (flds s p)) := fun H1 e Q q => hv H1 e _ fun H2 e2 x dx hx hdx ne => by
  refine ⟨x, dx, s, p, rfl, upd_same, fun H3 e3 => ⟨rfl, q _ H3 (fun a o ha => ?_) ⟨x, rfl, fresh_back e2 hx, dx, e3 _ _ upd_same⟩⟩⟩
  have ha2 := e2 a o ha
  have n1 : a ≠ x := fun z => by rw [z, hx] at ha2; cases ha2
  have n2 : a ≠ dx := fun z => by rw [z, hdx] at ha2; cases ha2
  refine e3 a o ?_
  rw [upd_ne n1, upd_ne n1, upd_ne n2]
  exact ha2
theorem ep_told {tr : TA} {wa sa : Addr} {web : Webs} {st : List Nat} (h : EvA tr σ H [.ref wa, .ref sa]) (hw : WS K H wa web sa st) : EvP (tCall (sp_told K L W E) [] E0 tr) σ H (fun H1 v H2 => ∃ x, v = .ref x ∧ H1 x = none ∧ Ans L W E H2 x web st) :=
  ep_callA ((wa, web), (sa, st)) h (fun H2 e => ⟨rfl, hw.mono e⟩) fun _ _ _ _ _ e0 _ ⟨x, h1, h2, h3⟩ => ⟨x, h1, fresh_back e0 h2, h3⟩
theorem ep_toldP {tr : TA} {PA : Hp → List V → Hp → Prop} {web : Webs} {st : List Nat} (h : EvAP tr σ H PA) (hw : ∀ H1 vs H2, Ex H H1 → Ex H1 H2 → PA H1 vs H2 → ∃ wa sa, vs = [.ref wa, .ref sa] ∧ WS K H2 wa web sa st) : EvP (tCall (sp_told K L W E) [] E0 tr) σ H (fun H1 v H2 => ∃ x, v = .ref x ∧ H1 x = none ∧ Ans L W E H2 x web st) :=
  ep_callG h fun H1 vs H2 e1 e2 p => by
    obtain ⟨wa, sa, rfl, hws⟩ := hw H1 vs H2 e1 e2 p
    exact ⟨((wa, web), (sa, st)), ⟨rfl, hws⟩, fun v H3 _ ⟨x, h1, h2, h3⟩ => ⟨x, h1, fresh_back e2 h2, h3⟩⟩
/-- xs.extend(ys), ys made on the way -/
theorem s_extP {l : Addr} {xs : List V} {P : Hp → V → Hp → Prop} (hl : H l = some (.lst xs)) (ha : Ev ta σ H (.ref l)) (h : EvP te σ H P) (hP : ∀ H1 v H2, Ex H H1 → Ex H1 H2 → P H1 v H2 → ∃ p ys, v = .ref p ∧ H2 p = some (.lst ys) ∧ xs.length + ys.length ≤ 100000 ∧ D.nx σ (upd H2 l (.lst (xs ++ ys)))) :
    tDrop (tBM K "list" rExtend ta (tCons te tNil)) D σ H := ha H (Ex.refl H) _ fun H1 e1 =>
  ⟨Or.inl ⟨rfl, xs, sq_of (e1 l _ hl)⟩, h H1 e1 _ fun v H2 e2 p => by
    obtain ⟨b, ys, hv, hb, hz, k⟩ := hP H1 v H2 e1 e2 p
    subst hv
    exact ⟨l, b, xs, ys, rfl, rfl, e2 l _ (e1 l _ hl), hb, sz_of hz, k⟩⟩
/-- a, b = e, e a tuple of two made on the way -/
theorem q_unpP {i j : Nat} {P : Hp → V → Hp → Prop} (h : EvP te σ H P) (k : ∀ v H1, Ex H H1 → P H v H1 → ∃ p x y, v = .ref p ∧ H1 p = some (.tup [x, y]) ∧ tz D ((σ.set i (some x)).set j (some y)) H1) : tSeq (tAsg te (gTup K 2 (gCons (gName i) (gCons (gName j) gNil)))) tz D σ H :=
  h H (Ex.refl H) _ fun v H1 e p => by
    obtain ⟨q, x, y, hv, hq, hk⟩ := k v H1 e p
    subst hv
    exact ⟨q, [x, y], rfl, st_of hq, rfl, x, [y], rfl, y, [], rfl, rfl, hk⟩
/-- tuple(xs) -/
def rTupS (K : PySem.W.Frag) : List V → Hp → VK → Prop := fun xs H Q => ∃ p ys, xs = [.ref p] ∧ ((SqL K H p ys ∧ ∀ l, H l = none → Q (.ref l) (upd H l (.tup ys))) ∨ (SqT K H p ys ∧ Q (.ref p) H))
theorem call_tuple_S {X : Cx} : CallR X (.type "tuple") (rTupS X.K) := call_tuple_of
theorem eu_tupL {xs : List V} (h : EvL te σ H xs) : EvU (tCB (rTupS K) (tCons te tNil)) σ H xs := fun H1 e Q q => h H1 e _ fun p H2 np e2 hp => ⟨p, xs, rfl, .inl ⟨sq_of hp, fun l hl => q l _ (fresh_back e2 hl) (e2.trans (Ex.new hl)) upd_same⟩⟩
theorem q_forTn {a : Addr} {xs : List V} {tl : TE} {j : Nat} (h : Ev tl σ H (.ref a)) (hx : SqT K H a xs) (Pv : Nat → L2.St → Hp → Prop) (h0 : ∀ H1, Ex H H1 → Pv 0 σ H1) (hl : ∀ i σ' H', i ≤ xs.length → Pv i σ' H' → SqT K H' a xs)
    (hs : ∀ i x σ' H', xs[i]? = some x → Pv i σ' H' → tu { D with nx := Pv (i + 1), ct := Pv (i + 1), bk := tz D } (σ'.set j (some x)) H') (hd : ∀ σ' H', Pv xs.length σ' H' → tz D σ' H') : tSeq (tFor (iTup K tl) (gName j) tu) tz D σ H :=
  q_forT h hx Pv h0 hl hs hd
theorem ev_xor {i j : Nat} (ha : Ev ta σ H (nv i)) (hb : Ev tb σ H (nv j)) : Ev (tOp (rI0 fun i j => .int (Builtin.bitXor i j)) ta tb) σ H (nv (i ^^^ j)) := by
  have h := ev_op (r := rI0 fun i j => .int (Builtin.bitXor i j)) ha hb rv_I0
  refine ev_is h (congrArg V.int ?_)
  rw [Bits.bitXor_pp (by omega) (by omega), Int.toNat_natCast, Int.toNat_natCast]
end
/-! ### word_of's loop -/
def Rnd (K : PySem.W.Frag) (H : Hp) (web : Webs) (rs : List V) (zs : List Nat) : Prop := rs.length = zs.length ∧ ∀ (j : Nat) (v : V) (z : Nat), rs[j]? = some v → zs[j]? = some z → WvK K H v (.row (sortN (nums (numsM web) (roads web z))))
theorem Rnd.nil {K : PySem.W.Frag} {H : Hp} {web : Webs} : Rnd K H web [] [] := ⟨rfl, fun j v z h => by simp at h⟩
theorem Rnd.app {K : PySem.W.Frag} {H : Hp} {web : Webs} {rs : List V} {zs : List Nat} {v : V} {z : Nat} (h : Rnd K H web rs zs) (hv : WvK K H v (.row (sortN (nums (numsM web) (roads web z))))) : Rnd K H web (rs ++ [v]) (zs ++ [z]) := by
  refine ⟨by rw [List.length_append, List.length_append, h.1]; rfl, fun j v' z' h1 h2 => ?_⟩
  by_cases hj : j < rs.length
  · rw [List.getElem?_append_left hj] at h1
    rw [List.getElem?_append_left (by rw [← h.1]; exact hj)] at h2
    exact h.2 j v' z' h1 h2
  · rw [List.getElem?_append_right (by omega)] at h1
    rw [List.getElem?_append_right (by rw [← h.1]; omega), ← h.1] at h2
    have e0 : j - rs.length = 0 := by
      have := (List.getElem?_eq_some_iff.mp h1).1
      simp at this
      omega
    rw [e0] at h1 h2
    cases h1
    cases h2
    exact hv
theorem xorS_snocN {s : List (Option Nat)} {A : List Nat} {p k : Nat} (h : s.getD p none = some k) : xorS s (A ++ [p]) = xorS s A ^^^ k := by
  rw [xorS_num h]
  show k ^^^ (xorS s A ^^^ 0) = _
  rw [Nat.xor_zero, Nat.xor_comm]
theorem xorS_snocR {s : List (Option Nat)} {A : List Nat} {p : Nat} (h : s.getD p none = none) : xorS s (A ++ [p]) = xorS s A := by
  rw [xorS_rnd h]
  show xorS s A ^^^ 0 = _
  rw [Nat.xor_zero]
theorem rnds_snocN {s : List (Option Nat)} {A : List Nat} {p k : Nat} (h : s.getD p none = some k) : rnds s (A ++ [p]) = rnds s A := by
  rw [rnds_split, h]
  show rnds s A ++ [] ++ [] = _
  rw [List.append_nil, List.append_nil]
theorem rnds_snocR {s : List (Option Nat)} {A : List Nat} {p : Nat} (h : s.getD p none = none) : rnds s (A ++ [p]) = rnds s A ++ [p] := by
  rw [rnds_split, h]
  show rnds s A ++ [p] ++ [] = _
  rw [List.append_nil]
theorem wth_row {web : Webs} {s : List (Option Nat)} {p : Nat} (h : s.getD p none = none) : wthOf web s p = .row (sortN (nums s (roads web p))) := by
  unfold wthOf
  rw [h]
theorem wth_num {web : Webs} {s : List (Option Nat)} {p k : Nat} (h : s.getD p none = some k) : wthOf web s p = .num k := by
  unfold wthOf
  rw [h]
theorem word_nil {web : Webs} {s : List (Option Nat)} {st : List Nat} (h : rnds s st = []) : wordM web s st = some (decide (xorS s st = 0)) := by
  unfold wordM
  rw [h]
theorem word_one {web : Webs} {s : List (Option Nat)} {st : List Nat} {r : Nat} (h : rnds s st = [r]) : wordM web s st = if xorS s st ∈ nums s (roads web r) then some false else none := by
  unfold wordM
  rw [h]
theorem word_two {web : Webs} {s : List (Option Nat)} {st : List Nat} {r r' : Nat} {z : List Nat} (h : rnds s st = r :: r' :: z) : wordM web s st = none := by
  unfold wordM
  rw [h]
/-! ### pushes' loop -/
def putL (web : Webs) (st : List Nat) (i : Nat) : List (Nat × Nat) := (List.range i).flatMap fun i => (roads web (st.getD i 0)).map fun o => (i, o)
theorem putL_all (web : Webs) (st : List Nat) : putL web st st.length = pushesL web st := rfl
theorem putL_succ (web : Webs) (st : List Nat) (i : Nat) : putL web st (i + 1) = putL web st i ++ (roads web (st.getD i 0)).map fun o => (i, o) := by
  unfold putL
  rw [List.range_succ, List.flatMap_append, List.flatMap_singleton]
structure PuT (web : Webs) (st : List Nat) (fa : Addr) (i : Nat) (ys : List V) (H : Hp) : Prop where
  top : H fa = some (.lst ys)
  len : ys.length = (putL web st i).length
  item : ∀ (j : Nat) (z : Nat × Nat) (y : V), (putL web st i)[j]? = some z → ys[j]? = some y → NewTup (fun z : Nat × Nat => [nv z.1, nv z.2]) fa z y H
theorem PuT.nil {web : Webs} {st : List Nat} {fa : Addr} {H : Hp} (h : H fa = some (.lst [])) : PuT web st fa 0 [] H := ⟨h, rfl, fun j z y hz => by simp [putL] at hz⟩
theorem PuT.ex {web : Webs} {st : List Nat} {fa : Addr} {i : Nat} {ys : List V} {H H' : Hp} (e : Ex H H') (h : PuT web st fa i ys H) : PuT web st fa i ys H' :=
  ⟨e _ _ h.top, h.len, fun j z y hz hy => newTup_st _ _ _ _ _ (h.item j z y hz hy) (ExO.of e)⟩
theorem PuT.app {web : Webs} {st : List Nat} {fa : Addr} {i : Nat} {ys ys2 : List V} {H : Hp} (h : PuT web st fa i ys H) (hl : ys2.length = (roads web (st.getD i 0)).length)
    (hi : ∀ (j : Nat) (o : Nat) (y : V), (roads web (st.getD i 0))[j]? = some o → ys2[j]? = some y → ∃ r, y = .ref r ∧ r ≠ fa ∧ H r = some (.tup [nv i, nv o])) : PuT web st fa (i + 1) (ys ++ ys2) (upd H fa (.lst (ys ++ ys2))) := by
  refine ⟨upd_same, ?_, fun j z y hz hy => ?_⟩
  · rw [putL_succ, List.length_append, List.length_append, List.length_map, h.len, hl]
  · rw [putL_succ] at hz
    by_cases hj : j < ys.length
    · rw [List.getElem?_append_left (by rw [← h.len]; exact hj)] at hz
      rw [List.getElem?_append_left hj] at hy
      obtain ⟨r, g1, g2, g3⟩ := h.item j z y hz hy
      exact ⟨r, g1, g2, by rw [upd_ne g2]; exact g3⟩
    · rw [List.getElem?_append_right (by rw [← h.len]; omega), ← h.len, List.getElem?_map] at hz
      rw [List.getElem?_append_right (by omega)] at hy
      cases ho : (roads web (st.getD i 0))[j - ys.length]? with
      | none => rw [ho] at hz; cases hz
      | some o =>
        rw [ho] at hz
        cases hz
        obtain ⟨r, g1, g2, g3⟩ := hi _ o y ho hy
        exact ⟨r, g1, g2, by rw [upd_ne g2]; exact g3⟩
theorem putL_len {web : Webs} (g : Good web) (st : List Nat) : ∀ i, (putL web st i).length ≤ i * web.length
  | 0 => Nat.zero_le _
  | i + 1 => by
    rw [putL_succ, List.length_append, List.length_map, Nat.succ_mul]
    exact Nat.add_le_add (putL_len g st i) (roads_len g _)
theorem PuT.small {web : Webs} {st : List Nat} {fa : Addr} {i : Nat} {ys : List V} {H : Hp} (h : PuT web st fa i ys H) (hl : web.length ≤ 60) (g : Good web) (hs : st.length ≤ 20) (hi : i ≤ 20) : ys.length ≤ 1200 := by
  rw [h.len]
  refine Nat.le_trans (putL_len g st i) (Nat.le_trans (Nat.mul_le_mul hi hl) (by decide))
/-! ### first_to's loop, words by calls -/
theorem firstTo_at {web : Webs} {st : List Nat} {wd : Option Bool} {i : Nat} {z : Nat × Nat} (hz : (pushesL web st)[i]? = some z) (hw : wrd web (st.set z.1 z.2) = wd) (hno : ∀ (j : Nat) (z : Nat × Nat), j < i → (pushesL web st)[j]? = some z → wrd web (st.set z.1 z.2) ≠ wd) : firstTo web (numsM web) st wd = z := by
  have h : (pushesL web st).find? (fun io => decide (wordM web (numsM web) (st.set io.1 io.2) = wd)) = some z := by
    obtain ⟨hi, hiz⟩ := List.getElem?_eq_some_iff.mp hz
    rw [List.find?_eq_some_iff_getElem]
    refine ⟨decide_eq_true hw, i, hi, hiz, fun j hj => ?_⟩
    have := hno j _ hj (List.getElem?_eq_getElem (by omega))
    rw [decide_eq_false this]
    rfl
  unfold firstTo
  rw [h]
  rfl
theorem firstTo_no {web : Webs} {st : List Nat} {wd : Option Bool} (hno : ∀ (j : Nat) (z : Nat × Nat), (pushesL web st)[j]? = some z → wrd web (st.set z.1 z.2) ≠ wd) : firstTo web (numsM web) st wd = (0, 0) := by
  have h : (pushesL web st).find? (fun io => decide (wordM web (numsM web) (st.set io.1 io.2) = wd)) = none := by
    rw [List.find?_eq_none]
    intro z hz hd
    obtain ⟨j, hj, hjz⟩ := List.getElem_of_mem hz
    exact hno j z (by rw [List.getElem?_eq_getElem hj, hjz]) (of_decide_eq_true hd)
  unfold firstTo
  rw [h]
  rfl
theorem fv_inj (x y : Option Bool) : decide (fv x = fv y) = decide (x = y) := by
  rcases x with _ | _ | _ <;> rcases y with _ | _ | _ <;> decide +kernel
section
variable {K : PySem.W.Frag} {mg : Str → Option Value} {L W E : Addr} {σ : L2.St} {H H' : Hp} {ta tb tc td te ty tx : TE} {t u : TT} {x y z v : V} {r : R2} {D : Ends} {tu tw tz : TS} {g : TG} {C a : Addr} {fs : List (Str × V)}
theorem ev_eqFF {x w : Option Bool} (ha : Ev ta σ H (fv x)) (hb : Ev tb σ H (fv w)) : Ev (tOp rEq ta tb) σ H (.bl (decide (x = w))) := by
  refine ev_is (ev_op ha hb (rv_eq ?_)) (congrArg V.bl (fv_inj x w))
  rcases x with _ | _ | _ <;> rcases w with _ | _ | _ <;> rfl
theorem ev_neFF {x w : Option Bool} (ha : Ev ta σ H (fv x)) (hb : Ev tb σ H (fv w)) : Ev (tOp rNe ta tb) σ H (.bl (!decide (x = w))) := by
  refine ev_is (ev_op ha hb (rv_ne ?_)) (congrArg V.bl (congrArg _ (fv_inj x w)))
  rcases x with _ | _ | _ <;> rcases w with _ | _ | _ <;> rfl
theorem ev_wordP {tr : TA} {PA : Hp → List V → Hp → Prop} {web : Webs} {st : List Nat} (h : EvAP tr σ H PA) (hA : ∀ H1 vs H2, Ex H H1 → Ex H1 H2 → PA H1 vs H2 → ∃ wa sa, vs = [.ref wa, .ref sa] ∧ WLs K H2 wa web ∧ LI K H2 sa st) (hlt : ∀ p ∈ st, p < web.length) (hle : st.length ≤ 1000) : Ev (tCall (sp_word K) [] E0 tr) σ H (fv (wrd web st)) :=
  EvP.val (P := fun _ v _ => v = fv (wrd web st)) (ep_callG h fun H1 vs H2 e1 e2 p => by
    obtain ⟨wa, sa, rfl, h1, h2⟩ := hA H1 vs H2 e1 e2 p
    exact ⟨((wa, web), (sa, st)), ⟨rfl, h1, h2, hlt, hle⟩, fun v H3 _ r => r⟩) fun _ _ _ _ _ h => h
theorem ev_wordPT {tr : TA} {PA : Hp → List V → Hp → Prop} {web : Webs} {st : List Nat} (h : EvAP tr σ H PA) (hA : ∀ H1 vs H2, Ex H H1 → Ex H1 H2 → PA H1 vs H2 → ∃ wa sa, vs = [.ref wa, .ref sa] ∧ WLs K H2 wa web ∧ SqT K H2 sa (st.map nv)) (hlt : ∀ p ∈ st, p < web.length) (hle : st.length ≤ 1000) : Ev (tCall (sp_wordT K) [] E0 tr) σ H (fv (wrd web st)) :=
  EvP.val (P := fun _ v _ => v = fv (wrd web st)) (ep_callG h fun H1 vs H2 e1 e2 p => by
    obtain ⟨wa, sa, rfl, h1, h2⟩ := hA H1 vs H2 e1 e2 p
    exact ⟨((wa, web), (sa, st)), ⟨rfl, h1, h2, hlt, hle⟩, fun v H3 _ r => r⟩) fun _ _ _ _ _ h => h
/-- over a list made on the way, the target of any form -/
theorem s_forPLg {C : Hp → Addr → List V → Prop} {tl : TE} (h : EvP tl σ H (fun _ v H2 => ∃ p ys, C H2 p ys ∧ v = .ref p ∧ H2 p = some (.lst ys))) (Pv : Addr → List V → Nat → L2.St → Hp → Prop) (h0 : ∀ p ys H1, Ex H H1 → C H1 p ys → H1 p = some (.lst ys) → Pv p ys 0 σ H1) (hl : ∀ p ys i σ' H', i ≤ ys.length → Pv p ys i σ' H' → SqL K H' p ys)
    (hs : ∀ p ys i x σ' H', ys[i]? = some x → Pv p ys i σ' H' → g x σ' H' fun σ2 H2 => tu { D with nx := Pv p ys (i + 1), ct := Pv p ys (i + 1), bk := D.nx } σ2 H2) (hd : ∀ p ys σ' H', Pv p ys ys.length σ' H' → D.nx σ' H') : tFor (iList K tl) g tu D σ H :=
  h H (Ex.refl H) _ fun v H1 e ⟨p, ys, hc, hv, h1⟩ => by
    subst hv
    exact ⟨p, rfl, ⟨ys, sq_of h1⟩, for_list (Pv p ys) (h0 p ys H1 e hc h1) (hl p ys) (hs p ys) (hd p ys)⟩
end
/-! ### tuples of numbers as data -/
abbrev dTI (xs : List Nat) : PyData := .tuple (xs.map fun n : Nat => .int (n : Int))
theorem sh_dTI (xs : List Nat) : Sh 1 (dTI xs) := sh_tuple (sh_map fun _ => sh_int _)
theorem dp_TI {K : PySem.W.Frag} {H : Hp} {a : Addr} {xs : List Nat} (h : SqT K H a (xs.map nv)) : Dp K H (.ref a) (dTI xs) := .tup h (dpAll_map (fun n => .int _) xs)
theorem eqv_dTI (xs : List Nat) : PyData.eqv (dTI xs) (.tuple []) = decide (xs = []) := by
  cases xs <;> rfl
end Sr
set_option Elab.async false
set_option linter.all false
set_option maxRecDepth 100000
set_option maxHeartbeats 4000000
/-! SrU: counts of flat items, fields that are set, the law's own words over answers. -/
namespace Sr
open PySem PySem.Spec PyProof.Rows L2 Evl

/-! ### list.count of flat items -/
def rCntV (K : PySem.W.Frag) : V → List V → Hp → VK → Prop := fun x xs H Q => ∃ (a : Addr) (ys : List V) (y : V), x = V.ref a ∧ xs = [y] ∧ SqL K H a ys ∧ flatV y = true ∧ ys.all flatV = true ∧ Q (.int ((ys.countP fun z => eqV z y) : Nat)) H
theorem cntV_of {y : V} : ∀ {ys : List V} {us : List Value}, Vals ys us → ys.all flatV = true → us.countP (eqU y) = ys.countP fun z => eqV z y
  | _, _, .nil, _ => rfl
  | z :: ys, u :: us, .cons r rs, f => by
    rw [List.all_cons, Bool.and_eq_true] at f
    have ih := cntV_of (y := y) rs f.2
    rw [List.countP_cons, List.countP_cons, ih, eqU_of r f.1]
theorem mt_lcountV {X : Cx} : MtR X "list.count" (rCntV X.K) := by
  intro pn s1 σ1 H1 x1 xs1 v1 us1 Q1 I rx rxs h
  obtain ⟨a, ys, y, rfl, rfl, hs, fy, fys, q⟩ := h
  cases rx
  cases rxs with
  | cons ry rt =>
    rename_i uy ut
    cases rt
    obtain ⟨its, rv, ⟨⟨cls, dd, data, sl⟩, n, ho, hc, hdn, hd⟩, _⟩ := I.list hs
    simp only at hc hd
    subst hc hd
    refine call_meets PySem.F.slot_list_count ⟨_, ho, rfl⟩ PySem.F.entry_list_count (PySem.F.args_list_count_2 _ _) (SeqAt.list_countAt a its.toArray n dd sl uy (eqU y)) ⟨ho, fun u' hu' => mem_eqAt ry fy rv fys u' (by simpa using hu'), ?_⟩
    have ec : its.toArray.toList.countP (eqU y) = ys.countP fun z => eqV z y := cntV_of rv fys
    refine ⟨.int ((ys.countP fun z => eqV z y) : Nat), H1, I.tok _, ⟨s1.toks, ?_⟩, q⟩
    show Value.int ((its.toArray.toList.countP (eqU y) : Nat) : Int) s1.toks = Value.int (((ys.countP fun z => eqV z y) : Nat) : Int) s1.toks
    rw [ec]
section
variable {K : PySem.W.Frag} {mg : Str → Option Value} {L W E : Addr} {σ : L2.St} {H H' : Hp} {ta tb tc td te ty tx : TE} {t u : TT} {x y z v : V} {r : R2} {D : Ends} {tu tw tz : TS} {g : TG} {C a : Addr} {fs : List (Str × V)}
/-- xs.count(y) -/
theorem ev_cnt {p : Addr} {ys : List V} (ha : Ev ta σ H (.ref p)) (hs : SqL K H p ys) (hb : Ev tb σ H y) (fy : flatV y = true) (fys : ys.all flatV = true) : Ev (tBM K "list" (rCntV K) ta (tCons tb tNil)) σ H (.int ((ys.countP fun z => eqV z y) : Nat)) :=
  fun H1 e Q q => ha H1 e _ fun H2 e2 => ⟨Or.inl ⟨rfl, ys, ex_l (e.trans e2) hs⟩, hb H2 (e.trans e2) _ fun H3 e3 => ⟨p, ys, y, rfl, rfl, ex_l ((e.trans e2).trans e3) hs, fy, fys, q H3 (e2.trans e3)⟩⟩
/-- xs.index(y) -/
theorem ev_idx {p : Addr} {ys : List V} {j : Nat} (ha : Ev ta σ H (.ref p)) (hs : SqL K H p ys) (hb : Ev tb σ H y) (fy : flatV y = true) (fys : ys.all flatV = true) (hj : ys[j]? = some z) (hz : eqV z y = true) (hno : ∀ (m : Nat) (z' : V), m < j → ys[m]? = some z' → eqV z' y = false) : Ev (tBM K "list" (rIndex K) ta (tCons tb tNil)) σ H (nv j) :=
  fun H1 e Q q => ha H1 e _ fun H2 e2 => ⟨Or.inl ⟨rfl, ys, ex_l (e.trans e2) hs⟩, hb H2 (e.trans e2) _ fun H3 e3 => ⟨p, ys, y, j, z, rfl, rfl, ex_l ((e.trans e2).trans e3) hs, fy, fys, hj, hz, hno, q H3 (e2.trans e3)⟩⟩
/-- o.f = v -/
theorem s_fld {f : Str} {dx : Addr} {tv : TE} (ho : Ev ta σ H (.ref a)) (hv : Ev tv σ H v) (hi : H a = some (.ins C dx fs)) (c : Cls K C) (n : NoAttr K C f) (hl : fs.length < 1000) (k : ∀ H1, Ex H H1 → D.nx σ (upd H1 a (.ins C dx (putF f v fs)))) : sFld K ta tv f D σ H :=
  hv H (Ex.refl H) _ fun H1 e1 => ho H1 e1 _ fun H2 e2 => ⟨a, C, dx, fs, rfl, (e1.trans e2) _ _ hi, c, n, hl, k H2 (e1.trans e2)⟩
theorem ev_isBl {b c : Bool} (ha : Ev ta σ H (.bl b)) (hb : Ev tb σ H (.bl c)) : Ev (tOp rIsB ta tb) σ H (.bl (decide (b = c))) := ev_op ha hb fun H1 _ _ q => ⟨b, c, rfl, rfl, q H1 (Ex.refl H1)⟩
theorem ev_notBl {b c : Bool} (ha : Ev ta σ H (.bl b)) (hb : Ev tb σ H (.bl c)) : Ev (tOp rNotB ta tb) σ H (.bl (!decide (b = c))) := ev_op ha hb fun H1 _ _ q => ⟨b, c, rfl, rfl, q H1 (Ex.refl H1)⟩
theorem ev_eqB {b c : Bool} (ha : Ev ta σ H (.bl b)) (hb : Ev tb σ H (.bl c)) : Ev (tOp rEq ta tb) σ H (.bl (decide (b = c))) :=
  ev_is (ev_op ha hb (rv_eq rfl)) (congrArg V.bl (decide_eq_decide.mpr ⟨fun h => V.bl.inj h, fun h => congrArg V.bl h⟩))
theorem ev_neB {b c : Bool} (ha : Ev ta σ H (.bl b)) (hb : Ev tb σ H (.bl c)) : Ev (tOp rNe ta tb) σ H (.bl (!decide (b = c))) :=
  ev_is (ev_op ha hb (rv_ne rfl)) (congrArg V.bl (congrArg _ (decide_eq_decide.mpr ⟨fun h => V.bl.inj h, fun h => congrArg V.bl h⟩)))
/-- worths_of(web) -/
theorem ep_worthsOf {tr : TA} {wa : Addr} {web : Webs} (h : EvA tr σ H [.ref wa]) (hl : LL K H wa web) (ok : Ok60 web) : EvP (tCall (sp_worths K) [] E0 tr) σ H (fun _ v H2 => ∃ p, v = .ref p ∧ WLs K H2 p web) :=
  ep_callA (wa, web) h (fun H2 e => ⟨rfl, hl.mono e, ok⟩) fun _ _ _ _ _ _ _ ⟨p, _, h1, h2⟩ => ⟨p, h1, h2.s⟩
end
/-- a field set, then more grows -/
theorem ex_set {H H1 H2 : Hp} {x : Addr} {o1 o : HO} (e1 : Ex H H1) (e2 : Ex (upd H1 x o1) H2) : Ex (upd H x o) (upd H2 x o) := fun a u ha => by
  by_cases hx : a = x
  · subst hx
    rw [upd_same] at ha ⊢
    exact ha
  · rw [upd_ne hx] at ha ⊢
    exact e2 a u (by rw [upd_ne hx]; exact e1 a u ha)
/-! ### shows of any of the three -/
def spSh (K : PySem.W.Frag) (L W E : Addr) : Option Bool → Sp
  | some true => sp_showsL K
  | some false => sp_showsW K W
  | none => sp_showsE K E
structure Shs (P : Program) (w : World) (K : PySem.W.Frag) (mg : Str → Option Value) (base : Heap) (k : Nat) (L W E : Addr) : Prop where
  mL : Mth P w K mg base CX0 k L "shows" (sp_showsL K)
  mW : Mth P w K mg base CX0 k W "shows" (sp_showsW K W)
  mE : Mth P w K mg base CX0 k E "shows" (sp_showsE K E)
theorem Shs.m {P : Program} {w : World} {K : PySem.W.Frag} {mg : Str → Option Value} {base : Heap} {k : Nat} {L W E : Addr} (S : Shs P w K mg base k L W E) : ∀ b, Mth P w K mg base CX0 k (clsOf L W E b) "shows" (spSh K L W E b)
  | some true => S.mL
  | some false => S.mW
  | none => S.mE
def tShs (K : PySem.W.Frag) (L W E : Addr) (ta : TE) (t : TA) : TE := fun σ H Q => ∃ b, tMeth (clsOf L W E b) "shows" (spSh K L W E b) [] E0 ta t σ H Q
theorem pe_shs {X : Cx} {L W E : Addr} {k j : Nat} {pos apos : Pos} {e o : Expr} {es : List Expr} {t : TA} {ta : TE} {pl : Sem Bool} (he : PE X o ta) (kl : Kl X.K X.mg L W E) (S : Shs X.prog X.w X.K X.mg X.base k L W E) (hr : Room j X.A) (hk : k ≤ j) (ha : PA X (e :: es) t)
    (hst : starEach (e :: es) X.env = (false, eval e X.env) :: starEach es X.env := by rfl) (hpl : (backTo pos (starEach es X.env)).any (·.1) = false := by rfl)
    (ht : eval (.Call (.Attribute o "shows" apos) (e :: es) [] pos) X.env = (do
      let ov ← eval o X.env
      standAt apos.atName
      let (f, first) ← holding [ov] (getMethod ov "shows" pl)
      callWith pos f first (backTo pos (starEach (e :: es) X.env)) (backToKw pos (keywordEach [] X.env))) := by rfl) :
    PE X (.Call (.Attribute o "shows" apos) (e :: es) [] pos) (tShs X.K L W E ta t) :=
  pe_ex fun b => pe_m he (kl.i b).cl (S.m b) hr hk ha hst hpl ht
/-- what an answer with a class and fields says -/
def shown (b : Option Bool) (web : Webs) (st : List Nat) (s p : V) : Bool := match b with
  | some true => decide (wrd web st = some true)
  | some false => showW web st s p
  | none => showE web st s p
theorem told_shown {web : Webs} {st : List Nat} (ok : Ok60 web) (okS : OkSt web st) : shown (wrd web st) web st (nv (pushOf web st).1) (nv (pushOf web st).2) = true := by
  cases hc : wrd web st with
  | none =>
    have hne : wordM web (numsM web) st ≠ some true := fun h => by
      have h2 : wrd web st = some true := h
      rw [hc] at h2
      cases h2
    obtain ⟨h1, h2⟩ := pushOf_is ok.good.inR okS.lt hne
    have h3 : wrd web (st.set (pushOf web st).1 (pushOf web st).2) = none := by
      show wordM _ _ _ = _
      rw [h2]
      show nextW (wrd web st) = none
      rw [hc]
      rfl
    show showE web st _ _ = true
    unfold showE
    rw [pushM_of (i := (pushOf web st).1) (o := (pushOf web st).2) ok.good okS.lt h1]
    show (decide (wrd web st = none) && decide (wrd web (st.set (pushOf web st).1 (pushOf web st).2) = none)) = true
    rw [hc, h3]
    rfl
  | some b =>
    cases b with
    | true =>
      show decide (wrd web st = some true) = true
      rw [hc]
      rfl
    | false =>
      have hne : wordM web (numsM web) st ≠ some true := fun h => by
        have h2 : wrd web st = some true := h
        rw [hc] at h2
        cases h2
      obtain ⟨h1, h2⟩ := pushOf_is ok.good.inR okS.lt hne
      have h3 : wrd web (st.set (pushOf web st).1 (pushOf web st).2) = some true := by
        show wordM _ _ _ = _
        rw [h2]
        show nextW (wrd web st) = _
        rw [hc]
        rfl
      show showW web st _ _ = true
      unfold showW
      rw [pushM_of (i := (pushOf web st).1) (o := (pushOf web st).2) ok.good okS.lt h1]
      show decide (wrd web (st.set (pushOf web st).1 (pushOf web st).2) = some true) = true
      rw [h3]
      rfl
section
variable {K : PySem.W.Frag} {mg : Str → Option Value} {L W E : Addr} {σ : L2.St} {H H' : Hp} {ta tb tc td te ty tx : TE} {t u : TT} {x y z v : V} {r : R2} {D : Ends} {tu tw tz : TS} {g : TG} {C a : Addr} {fs : List (Str × V)}
/-- x.shows(web, stones), x told or made -/
theorem ev_shs {tr : TA} {wa sa : Addr} {web : Webs} {st : List Nat} {s p : V} (b : Option Bool) (ho : Ev ta σ H (.ref a)) (hi : Ins H a (clsOf L W E b) (if b = some true then [] else flds s p)) (hs : Typ K H s) (hp : Typ K H p) (hv : EvA tr σ H [.ref wa, .ref sa]) (ws : WS K H wa web sa st) : Ev (tShs K L W E ta tr) σ H (.bl (shown b web st s p)) := by
  refine ev_ex b ?_
  match b, hi with
  | some true, hi => exact ev_m2 (m := "shows") (a, (wa, web), (sa, st)) ho hi rfl hv (fun H1 e => ⟨rfl, ws.mono e⟩) (fun _ _ _ r => r)
  | some false, hi => exact ev_m2 (m := "shows") ((a, s, p), (wa, web), (sa, st)) ho hi rfl hv (fun H1 e => ⟨rfl, ws.mono e, hi.mono e, hs.mono e, hp.mono e⟩) (fun _ _ _ r => r)
  | none, hi => exact ev_m2 (m := "shows") ((a, s, p), (wa, web), (sa, st)) ho hi rfl hv (fun H1 e => ⟨rfl, ws.mono e, hi.mono e, hs.mono e, hp.mono e⟩) (fun _ _ _ r => r)
theorem Ans.ins {x : Addr} {web : Webs} {st : List Nat} (h : Ans L W E H x web st) : Ins H x (clsOf L W E (wrd web st)) (if wrd web st = some true then [] else flds (nv (pushOf web st).1) (nv (pushOf web st).2)) := by
  have h1 : Ins H x (clsOf L W E (wrd web st)) (fldOf (wrd web st) (pushOf web st)) := h
  generalize wrd web st = b at h1 ⊢
  match b, h1 with
  | some true, h1 => exact h1
  | some false, h1 => exact h1
  | none, h1 => exact h1
end
/-! ### the law's word of an answer -/
structure KlA (K : PySem.W.Frag) (mg : Str → Option Value) (L W E A0 : Addr) : Prop where
  gA : mg "Answer" = some (.ref A0)
  kA : ∀ b, PySem.W.kitOne K (.ref (clsOf L W E b)) (.ref A0) = some true
def sp_lword (L W E : Addr) : Sp := spOf (α := Option Bool × Addr) (fun a vs H => vs = [.ref a.2] ∧ ∃ fs, Ins H a.2 (clsOf L W E a.1) fs) (fun a _ v _ => v = fv a.1)
def kindsV (b : Option Bool) : List V := [.bl (decide (b = some true)), .bl (decide (b = some false)), .bl (decide (b = none))]
def posB : Option Bool → Nat
  | some true => 0
  | some false => 1
  | none => 2
theorem kinds_cnt (b : Option Bool) : (kindsV b).countP (fun z => eqV z (.bl true)) = 1 := by rcases b with _ | _ | _ <;> rfl
theorem kinds_at (b : Option Bool) : (kindsV b)[posB b]? = some (.bl true) := by rcases b with _ | _ | _ <;> rfl
theorem kinds_no (b : Option Bool) (m : Nat) (z : V) (h : m < posB b) (hz : (kindsV b)[m]? = some z) : eqV z (.bl true) = false := by
  rcases b with _ | _ | _
  · match m, h, hz with
    | 0, _, hz => cases hz; rfl
    | 1, _, hz => cases hz; rfl
  · match m, h, hz with
    | 0, _, hz => cases hz; rfl
  · exact absurd h (Nat.not_lt_zero _)
theorem kinds_flat (b : Option Bool) : (kindsV b).all flatV = true := rfl
theorem kinds_word (b : Option Bool) : ([.str "lost", .str "won", .str "endless"] : List V)[posB b]? = some (fv b) := by rcases b with _ | _ | _ <;> rfl
def sp_lbehind (K : PySem.W.Frag) (L W E : Addr) : Sp := spOf (α := (Addr × Webs) × (Addr × List Nat) × (Addr × Option Bool × Nat × Nat))
  (fun a vs H => vs = [.ref a.1.1, .ref a.2.1.1, .ref a.2.2.1] ∧ WS K H a.1.1 a.1.2 a.2.1.1 a.2.1.2 ∧ a.2.2.2.1 ≠ some true ∧ Ins H a.2.2.1 (clsOf L W E a.2.2.2.1) (flds (nv a.2.2.2.2.1) (nv a.2.2.2.2.2)) ∧ a.2.2.2.2 ∈ pushesL a.1.2 a.2.1.2)
  (fun a H v H' => ∃ q, v = .ref q ∧ H q = none ∧ H' q = some (.lst ((a.2.1.2.set a.2.2.2.2.1 a.2.2.2.2.2).map nv)))
theorem Kl.nS {K : PySem.W.Frag} {mg : Str → Option Value} {L W E : Addr} (k : Kl K mg L W E) : ∀ b, b ≠ some true → NoAttr K (clsOf L W E b) "stone"
  | some true, h => absurd rfl h
  | some false, _ => k.nWs
  | none, _ => k.nEs
theorem Kl.nP {K : PySem.W.Frag} {mg : Str → Option Value} {L W E : Addr} (k : Kl K mg L W E) : ∀ b, b ≠ some true → NoAttr K (clsOf L W E b) "place"
  | some true, h => absurd rfl h
  | some false, _ => k.nWp
  | none, _ => k.nEp
section
variable {K : PySem.W.Frag} {mg : Str → Option Value} {L W E : Addr} {σ : L2.St} {H H' : Hp} {ta tb tc td te ty tx : TE}
theorem ev_lwordP {P : Hp → V → Hp → Prop} {b : Option Bool} (h : EvP te σ H P) (hP : ∀ H1 v H2, Ex H H1 → Ex H1 H2 → P H1 v H2 → ∃ x fs, v = .ref x ∧ Ins H2 x (clsOf L W E b) fs) : Ev (tCall (sp_lword L W E) [] E0 (tCons te tNil)) σ H (fv b) :=
  fun H1 e Q q => h H1 e _ fun v H2 e2 p => by
    obtain ⟨x, fs, rfl, hi⟩ := hP H1 v H2 e e2 p
    exact ⟨(b, x), ⟨rfl, fs, hi⟩, fun v H3 e3 r => by
      have r' : v = fv b := r
      rw [r']
      exact q H3 (e2.trans e3)⟩
end
/-! ### words of the stones behind all pushes -/
theorem pushes_mv {web : Webs} {st : List Nat} {io : Nat × Nat} (h : io ∈ pushesL web st) : Mv web st (st.set io.1 io.2) := by
  rw [← mem_moves, moves_pushes]
  exact List.mem_map.mpr ⟨io, h, rfl⟩
theorem mv_pushes {web : Webs} {st st' : List Nat} (h : Mv web st st') : ∃ io ∈ pushesL web st, st' = st.set io.1 io.2 := by
  rw [← mem_moves, moves_pushes] at h
  obtain ⟨io, h1, h2⟩ := List.mem_map.mp h
  exact ⟨io, h1, h2.symm⟩
def wordsV (web : Webs) (st : List Nat) (l : List (Nat × Nat)) : List V := l.map fun io => fv (wrd web (st.set io.1 io.2))
theorem words_flat (web : Webs) (st : List Nat) (l : List (Nat × Nat)) : (wordsV web st l).all flatV = true := by
  unfold wordsV
  rw [List.all_map]
  refine List.all_eq_true.mpr fun io _ => ?_
  show flatV (fv (wrd web (st.set io.1 io.2))) = true
  rcases wrd web (st.set io.1 io.2) with _ | _ | _ <;> rfl
theorem words_won {web : Webs} {st : List Nat} (h : wrd web st = some true) : (wordsV web st (pushesL web st)).countP (fun z => eqV z (.str "won")) = (wordsV web st (pushesL web st)).length := by
  rw [List.countP_eq_length]
  intro z hz
  obtain ⟨io, h1, rfl⟩ := List.mem_map.mp hz
  have h2 : wrd web (st.set io.1 io.2) = some false := lost_won (numsM_by web).ok h (pushes_mv h1)
  rw [h2]
  rfl
theorem words_lost {web : Webs} {st : List Nat} (h : wrd web st ≠ some true) : inV (.str "lost") (wordsV web st (pushesL web st)) = decide (wrd web st = some false) := by
  unfold inV wordsV
  rw [List.any_map]
  have e : ∀ x : Option Bool, eqV (fv x) (.str "lost") = decide (x = some true) := fun x => by rcases x with _ | _ | _ <;> rfl
  cases hc : wrd web st with
  | none =>
    rw [decide_eq_false (by simp), List.any_eq_false]
    intro io hio
    show ¬ eqV (fv (wrd web (st.set io.1 io.2))) (.str "lost") = true
    rw [e, decide_eq_true_eq]
    exact endless_none hc (pushes_mv hio)
  | some b =>
    cases b with
    | true => exact absurd hc h
    | false =>
      rw [decide_eq_true rfl, List.any_eq_true]
      obtain ⟨st', h1, h2⟩ := won_lost (numsM_by web).ok (show wordM web (numsM web) st = some false from hc)
      obtain ⟨io, h3, rfl⟩ := mv_pushes h1
      refine ⟨io, h3, ?_⟩
      show eqV (fv (wrd web (st.set io.1 io.2))) (.str "lost") = true
      rw [e, decide_eq_true_eq]
      exact h2
theorem word_rev (web : Webs) (s : List (Option Nat)) (st : List Nat) : wordM web s st.reverse = wordM web s st := by
  have h1 : rnds s st.reverse = (rnds s st).reverse := List.filter_reverse ..
  have h2 : xorS s st.reverse = xorS s st := by
    induction st with
    | nil => rfl
    | cons p st ih =>
      rw [List.reverse_cons]
      have ih' : xorS s st.reverse = xorS s st := ih (List.filter_reverse ..)
      cases hp : s.getD p none with
      | none => rw [xorS_snocR hp, ih', show xorS s (p :: st) = xorS s ([] ++ p :: st) from rfl, xorS_rnd hp]; exact (Nat.zero_xor _).symm
      | some k => rw [xorS_snocN hp, ih', show xorS s (p :: st) = xorS s ([] ++ p :: st) from rfl, xorS_num hp]; show _ = k ^^^ (0 ^^^ xorS s st); rw [Nat.zero_xor, Nat.xor_comm]
  unfold wordM
  rw [h1, h2]
  match rnds s st with
  | [] => rfl
  | [r] => rfl
  | r :: r' :: z =>
    have : ∃ a b c, (r :: r' :: z).reverse = a :: b :: c := by
      have hl : 2 ≤ (r :: r' :: z).reverse.length := by rw [List.length_reverse, List.length_cons, List.length_cons]; omega
      match (r :: r' :: z).reverse, hl with
      | a :: b :: c, _ => exact ⟨a, b, c, rfl⟩
    obtain ⟨a, b, c, e⟩ := this
    rw [e]
theorem OkSt.rev {web : Webs} {st : List Nat} (h : OkSt web st) : OkSt web st.reverse := ⟨by rw [List.length_reverse]; exact h.le, fun x hx => h.lt x (List.mem_reverse.mp hx)⟩
/-- rows of rounds as data -/
def dRs (web : Webs) (zs : List Nat) : PyData := .list (zs.map fun z => dI (sortN (nums (numsM web) (roads web z))))
theorem Rnd.dp {K : PySem.W.Frag} {H : Hp} {web : Webs} {rs : List V} {zs : List Nat} {a : Addr} (h : Rnd K H web rs zs) (ha : SqL K H a rs) : Dp K H (.ref a) (dRs web zs) := by
  refine .lst ha (dpAll_of (by rw [List.length_map]; exact h.1) fun i v d hv hd => ?_)
  rw [List.getElem?_map] at hd
  cases hz : zs[i]? with
  | none => rw [hz] at hd; cases hd
  | some z =>
    rw [hz] at hd
    cases hd
    obtain ⟨r, h1, h2⟩ := h.2 i v z hv hz
    rw [h1]
    exact dp_LI h2
theorem Rnd.mono {K : PySem.W.Frag} {H H' : Hp} {web : Webs} {rs : List V} {zs : List Nat} (e : Ex H H') (h : Rnd K H web rs zs) : Rnd K H' web rs zs := ⟨h.1, fun j v z h1 h2 => (h.2 j v z h1 h2).mono e⟩
theorem sh_dRs (web : Webs) (zs : List Nat) : Sh 2 (dRs web zs) := sh_list (sh_map fun _ => sh_dI _)
theorem eqv_dRs (web : Webs) (zs : List Nat) : PyData.eqv (dRs web zs) (.list []) = decide (zs = []) := by
  cases zs <;> rfl
def sp_lright (K : PySem.W.Frag) : Sp := spOf (α := (Addr × Webs) × Addr × (Addr × List Nat)) (fun a vs H => vs = [.ref a.1.1, .ref a.2.1, .ref a.2.2.1] ∧ WS K H a.1.1 a.1.2 a.2.2.1 a.2.2.2 ∧ WLs K H a.2.1 a.1.2) (fun _ _ v _ => v = .bl true)
end Sr
set_option Elab.async false
set_option linter.all false
set_option maxRecDepth 100000
set_option maxHeartbeats 4000000
/-! SrA: lists and tuples whose items are known one by one, loops over them; told at written webs. -/
namespace Sr
open PySem PySem.Spec PyProof.Rows L2 Evl

/-- items one by one: R says what each is -/
def Al {α : Type} (R : α → Hp → V → Prop) (zs : List α) (vs : List V) (H : Hp) : Prop := vs.length = zs.length ∧ ∀ (i : Nat) (z : α) (v : V), zs[i]? = some z → vs[i]? = some v → R z H v
def Mono {α : Type} (R : α → Hp → V → Prop) : Prop := ∀ z H H' v, Ex H H' → R z H v → R z H' v
theorem Al.mono {α : Type} {R : α → Hp → V → Prop} (m : Mono R) {zs : List α} {vs : List V} {H H' : Hp} (e : Ex H H') (h : Al R zs vs H) : Al R zs vs H' := ⟨h.1, fun i z v h1 h2 => m z H H' v e (h.2 i z v h1 h2)⟩
theorem Al.nil {α : Type} {R : α → Hp → V → Prop} {H : Hp} : Al R [] [] H := ⟨rfl, fun i z v h => by simp at h⟩
theorem Al.cons {α : Type} {R : α → Hp → V → Prop} {H : Hp} {z : α} {v : V} {zs : List α} {vs : List V} (h : R z H v) (t : Al R zs vs H) : Al R (z :: zs) (v :: vs) H :=
  ⟨by rw [List.length_cons, List.length_cons, t.1], fun i z' v' h1 h2 => by
    cases i with
    | zero =>
      cases h1
      cases h2
      exact h
    | succ i => exact t.2 i z' v' h1 h2⟩
theorem Al.app {α : Type} {R : α → Hp → V → Prop} {H : Hp} {zs zs2 : List α} {vs vs2 : List V} (h : Al R zs vs H) (t : Al R zs2 vs2 H) : Al R (zs ++ zs2) (vs ++ vs2) H :=
  ⟨by rw [List.length_append, List.length_append, h.1, t.1], fun i z v h1 h2 => by
    by_cases hi : i < vs.length
    · rw [List.getElem?_append_left hi] at h2
      rw [List.getElem?_append_left (by rw [← h.1]; exact hi)] at h1
      exact h.2 i z v h1 h2
    · rw [List.getElem?_append_right (by omega)] at h2
      rw [List.getElem?_append_right (by rw [← h.1]; omega), ← h.1] at h1
      exact t.2 _ z v h1 h2⟩
theorem Al.at {α : Type} {R : α → Hp → V → Prop} {H : Hp} {zs : List α} {vs : List V} (h : Al R zs vs H) {i : Nat} {v : V} (hv : vs[i]? = some v) : ∃ z, zs[i]? = some z ∧ R z H v := by
  have hl := (List.getElem?_eq_some_iff.mp hv).1
  have hz : i < zs.length := by rw [← h.1]; exact hl
  exact ⟨zs[i], List.getElem?_eq_getElem hz, h.2 i _ v (List.getElem?_eq_getElem hz) hv⟩
theorem Al.at' {α : Type} {R : α → Hp → V → Prop} {H : Hp} {zs : List α} {vs : List V} (h : Al R zs vs H) {i : Nat} {z : α} (hz : zs[i]? = some z) : ∃ v, vs[i]? = some v ∧ R z H v := by
  have hl := (List.getElem?_eq_some_iff.mp hz).1
  have hv : i < vs.length := by rw [h.1]; exact hl
  exact ⟨vs[i], List.getElem?_eq_getElem hv, h.2 i z _ hz (List.getElem?_eq_getElem hv)⟩
section
variable {K : PySem.W.Frag} {mg : Str → Option Value} {L W E : Addr} {σ : L2.St} {H H' : Hp} {ta tb tc td te ty tx : TE} {t u : TT} {x y z v : V} {r : R2} {D : Ends} {tu tw tz : TS} {g : TG} {C a : Addr} {fs : List (Str × V)}
def EvAs {α : Type} (tr : TA) (σ : L2.St) (H : Hp) (R : α → Hp → V → Prop) (zs : List α) : Prop := EvAP tr σ H (fun _ vs H2 => Al R zs vs H2)
theorem eas_nil {α : Type} {R : α → Hp → V → Prop} : EvAs tNil σ H R [] := fun H1 _ _ q => q [] H1 (Ex.refl H1) .nil
theorem eas_cons {α : Type} {R : α → Hp → V → Prop} {tr : TA} {z : α} {zs : List α} (m : Mono R) (h : EvP te σ H (fun _ v H2 => R z H2 v)) (hr : EvAs tr σ H R zs) : EvAs (tCons te tr) σ H R (z :: zs) := fun H1 e Q q =>
  h H1 e _ fun v H2 e2 p => hr H2 (e.trans e2) _ fun vs H3 e3 hp => q _ H3 (e2.trans e3) (.cons (m z H2 H3 v e3 p) hp)
/-- what a made list or tuple is -/
def LsA {α : Type} (R : α → Hp → V → Prop) (zs : List α) : Hp → V → Hp → Prop := fun H1 v H2 => ∃ p ys, v = .ref p ∧ H1 p = none ∧ H2 p = some (.lst ys) ∧ Al R zs ys H2
def TpA {α : Type} (R : α → Hp → V → Prop) (zs : List α) : Hp → V → Hp → Prop := fun H1 v H2 => ∃ p ys, v = .ref p ∧ H1 p = none ∧ H2 p = some (.tup ys) ∧ Al R zs ys H2
theorem ep_lstA {α : Type} {R : α → Hp → V → Prop} {tr : TA} {zs : List α} (m : Mono R) (h : EvAs tr σ H R zs) (hl : zs.length ≤ 100000 := by decide) : EvP (tLst tr) σ H (LsA R zs) := fun H1 e Q q => h H1 e _ fun vs H2 e2 hp =>
  ⟨sz_of (by rw [hp.1]; exact hl), fun p np => q _ _ (e2.trans (Ex.new np)) ⟨p, vs, rfl, fresh_back e2 np, upd_same, hp.mono m (Ex.new np)⟩⟩
theorem ep_tupA {α : Type} {R : α → Hp → V → Prop} {tr : TA} {zs : List α} (m : Mono R) (h : EvAs tr σ H R zs) (hl : zs.length ≤ 100000 := by decide) : EvP (tTup tr) σ H (TpA R zs) := fun H1 e Q q => h H1 e _ fun vs H2 e2 hp =>
  ⟨sz_of (by rw [hp.1]; exact hl), fun p np => q _ _ (e2.trans (Ex.new np)) ⟨p, vs, rfl, fresh_back e2 np, upd_same, hp.mono m (Ex.new np)⟩⟩
/-- a + b of two lists whose items are known -/
theorem ep_catA {α : Type} {R : α → Hp → V → Prop} {zs zs2 : List α} (m : Mono R) (h1 : EvP ta σ H (fun _ v H2 => ∃ p ys, v = .ref p ∧ H2 p = some (.lst ys) ∧ Al R zs ys H2)) (h2 : EvP tb σ H (fun _ v H2 => ∃ p ys, v = .ref p ∧ H2 p = some (.lst ys) ∧ Al R zs2 ys H2)) (hl : zs.length + zs2.length ≤ 100000 := by decide) : EvP (tOp rCat ta tb) σ H (LsA R (zs ++ zs2)) := fun H1 e Q q =>
  h1 H1 e _ fun v H2 e2 ⟨p, ys, hv, hp, ha⟩ => h2 H2 (e.trans e2) _ fun w H3 e3 ⟨p', ys', hw, hp', ha'⟩ => by
    subst hv hw
    exact ⟨p, p', ys, ys', rfl, rfl, e3 _ _ hp, hp', sz_of (by rw [ha.1, ha'.1]; exact hl), fun r nr => q _ _ ((e2.trans e3).trans (Ex.new nr)) ⟨r, ys ++ ys', rfl, fresh_back (e2.trans e3) nr, upd_same, ((ha.mono m e3).app ha').mono m (Ex.new nr)⟩⟩
theorem ep_varA {α : Type} {R : α → Hp → V → Prop} {zs : List α} {p : Addr} {ys : List V} (m : Mono R) (h : Ev te σ H (.ref p)) (hp : H p = some (.lst ys)) (ha : Al R zs ys H) : EvP te σ H (fun _ v H2 => ∃ p ys, v = .ref p ∧ H2 p = some (.lst ys) ∧ Al R zs ys H2) :=
  fun H1 e Q q => h H1 e _ fun H2 e2 => q _ H2 e2 ⟨p, ys, rfl, (e.trans e2) _ _ hp, ha.mono m (e.trans e2)⟩
theorem ep_ofLs {α : Type} {R : α → Hp → V → Prop} {zs : List α} (h : EvP te σ H (LsA R zs)) : EvP te σ H (fun _ v H2 => ∃ p ys, v = .ref p ∧ H2 p = some (.lst ys) ∧ Al R zs ys H2) := h.imp fun _ _ _ _ _ ⟨p, ys, h1, _, h3, h4⟩ => ⟨p, ys, h1, h3, h4⟩
/-- a for over a made list or tuple: the heap grows only -/
theorem s_forAT {α : Type} {R : α → Hp → V → Prop} {zs : List α} {tl : TE} (m : Mono R) (h : EvP tl σ H (fun _ v H2 => ∃ p ys, v = .ref p ∧ H2 p = some (.tup ys) ∧ Al R zs ys H2)) (Pv : Hp → Nat → L2.St → Hp → Prop) (hx : ∀ Hb i σ' H', Pv Hb i σ' H' → Ex Hb H') (h0 : ∀ Hb, Ex H Hb → Pv Hb 0 σ Hb)
    (hs : ∀ Hb i z x σ' H', Ex H Hb → zs[i]? = some z → R z H' x → Pv Hb i σ' H' → g x σ' H' fun σ2 H2 => tu { D with nx := Pv Hb (i + 1), ct := Pv Hb (i + 1), bk := D.nx } σ2 H2) (hd : ∀ Hb σ' H', Ex H Hb → Pv Hb zs.length σ' H' → D.nx σ' H') : tFor (iTup K tl) g tu D σ H :=
  h H (Ex.refl H) _ fun v H1 e ⟨p, ys, hv, h1, ha⟩ => by
    subst hv
    refine ⟨p, rfl, ⟨ys, st_of h1⟩, for_tup (Pv H1) (h0 H1 e) (fun i σ' H' _ pv => st_of (hx H1 i σ' H' pv p _ h1)) (fun i x σ' H' hi pv => ?_) (fun σ' H' pv => hd H1 σ' H' e (by rw [← ha.1]; exact pv))⟩
    obtain ⟨z, hz, hr⟩ := ha.at hi
    exact hs H1 i z x σ' H' e hz (m z H1 H' x (hx H1 i σ' H' pv) hr) pv
theorem s_forAL {α : Type} {R : α → Hp → V → Prop} {zs : List α} {tl : TE} (m : Mono R) (h : EvP tl σ H (fun _ v H2 => ∃ p ys, v = .ref p ∧ SqL K H2 p ys ∧ Al R zs ys H2)) (Pv : Hp → Nat → L2.St → Hp → Prop) (hx : ∀ Hb i σ' H', Pv Hb i σ' H' → Ex Hb H') (h0 : ∀ Hb, Ex H Hb → Pv Hb 0 σ Hb)
    (hs : ∀ Hb i z x σ' H', Ex H Hb → zs[i]? = some z → R z H' x → Pv Hb i σ' H' → g x σ' H' fun σ2 H2 => tu { D with nx := Pv Hb (i + 1), ct := Pv Hb (i + 1), bk := D.nx } σ2 H2) (hd : ∀ Hb σ' H', Ex H Hb → Pv Hb zs.length σ' H' → D.nx σ' H') : tFor (iList K tl) g tu D σ H :=
  h H (Ex.refl H) _ fun v H1 e ⟨p, ys, hv, h1, ha⟩ => by
    subst hv
    refine ⟨p, rfl, ⟨ys, h1⟩, for_list (Pv H1) (h0 H1 e) (fun i σ' H' _ pv => ex_l (hx H1 i σ' H' pv) h1) (fun i x σ' H' hi pv => ?_) (fun σ' H' pv => hd H1 σ' H' e (by rw [← ha.1]; exact pv))⟩
    obtain ⟨z, hz, hr⟩ := ha.at hi
    exact hs H1 i z x σ' H' e hz (m z H1 H' x (hx H1 i σ' H' pv) hr) pv
theorem g_pair {i j : Nat} {p : Addr} {a b : V} {Q : L2.St → Hp → Prop} (h : H p = some (.tup [a, b])) (k : Q ((σ.set i (some a)).set j (some b)) H) : gTup K 2 (gCons (gName i) (gCons (gName j) gNil)) (.ref p) σ H Q :=
  ⟨p, [a, b], rfl, st_of h, rfl, a, [b], rfl, b, [], rfl, rfl, k⟩
/-- stones as an item -/
def StR (K : PySem.W.Frag) (st : List Nat) (H : Hp) (v : V) : Prop := ∃ r, v = .ref r ∧ LI K H r st
theorem stR_mono : Mono (StR K) := fun _ _ _ _ e ⟨r, h1, h2⟩ => ⟨r, h1, h2.mono e⟩
theorem ep_stR {st : List Nat} (h : EvL te σ H (st.map nv)) : EvP te σ H (fun _ v H2 => StR K st H2 v) := (EvP.ofL h).imp fun _ _ _ _ _ ⟨p, h1, _, h3⟩ => ⟨p, h1, sq_of h3⟩
/-- (stones, number) as an item -/
def StN (st : List Nat × Nat) (H : Hp) (v : V) : Prop := ∃ p r, v = .ref p ∧ H p = some (.tup [.ref r, nv st.2]) ∧ H r = some (.lst (st.1.map nv))
theorem stN_mono : Mono StN := fun _ _ _ _ e ⟨p, r, h1, h2, h3⟩ => ⟨p, r, h1, e _ _ h2, e _ _ h3⟩
theorem ep_stN {st : List Nat} {k : Nat} (h : EvL ta σ H (st.map nv)) (hk : Ev tb σ H (nv k)) : EvP (tTup (tCons ta (tCons tb tNil))) σ H (fun _ v H2 => StN (st, k) H2 v) := fun H1 e Q q =>
  h H1 e _ fun r H2 nr e2 hr => hk H2 (e.trans e2) _ fun H3 e3 => ⟨sz_of (show 2 ≤ 100000 by decide), fun p np => q _ _ ((e2.trans e3).trans (Ex.new np)) ⟨p, r, rfl, upd_same, Ex.new np _ _ (e3 _ _ hr)⟩⟩
/-! ### told -/
theorem ep_toldL {tl : TE} {web : Webs} {st : List Nat} {Pw : Hp → V → Hp → Prop} (hw : EvP te σ H Pw) (hP : ∀ H1 v H2, Ex H H1 → Ex H1 H2 → Pw H1 v H2 → ∃ wa, v = .ref wa ∧ LL K H2 wa web) (ok : Ok60 web) (hl : EvL tl σ H (st.map nv)) (okS : OkSt web st) :
    EvP (tCall (sp_told K L W E) [] E0 (tCons te (tCons tl tNil))) σ H (fun H1 v H2 => ∃ x, v = .ref x ∧ H1 x = none ∧ Ans L W E H2 x web st) :=
  ep_toldP (eap_cons hw (eap_cons (EvP.ofL hl) eap_nil)) fun H1 vs H2 e1 e2 ⟨v1, r1, Hm1, h1, em0, em1, hv1, v2, r2, Hm2, h2, _, em2, ⟨p2, hp2, _, hp3⟩, h3⟩ => by
    obtain ⟨wa, hwa, hll⟩ := hP H1 v1 Hm1 e1 em0 hv1
    subst hp2 hwa h3 h2 h1
    exact ⟨wa, p2, rfl, hll.mono em1, ok, sq_of (em2 _ _ hp3), okS⟩
theorem ep_toldV {tl : TE} {wa : Addr} {web : Webs} {st : List Nat} (hw : Ev te σ H (.ref wa)) (hll : LL K H wa web) (ok : Ok60 web) (hl : EvL tl σ H (st.map nv)) (okS : OkSt web st) :
    EvP (tCall (sp_told K L W E) [] E0 (tCons te (tCons tl tNil))) σ H (fun H1 v H2 => ∃ x, v = .ref x ∧ H1 x = none ∧ Ans L W E H2 x web st) :=
  ep_toldL (EvP.of hw) (fun H1 v H2 e1 e2 h => ⟨wa, h, hll.mono (e1.trans e2)⟩) ok hl okS
theorem ev_isTold {web : Webs} {st : List Nat} {Dc : Addr} {b : Bool} (kl : Kl K mg L W E) (h : EvP te σ H (fun H1 v H2 => ∃ x, v = .ref x ∧ H1 x = none ∧ Ans L W E H2 x web st)) (hc : ∀ H1, Ev tb σ H1 (.ref Dc)) (hk : PySem.W.kitOne K (.ref (clsOf L W E (wrd web st))) (.ref Dc) = some b) : Ev (tCB (rIsi K) (tCons te (tCons tb tNil))) σ H (.bl b) :=
  ev_isOP h (fun H1 v H2 _ _ ⟨x, hx, _, ha⟩ => ⟨x, _, _, hx, ha.ins, kl.i _, hk⟩) hc
theorem el_catAB {xs ys : List V} {l l2 : Addr} (ha : Ev ta σ H (.ref l)) (hl : H l = some (.lst xs)) (hb : Ev tb σ H (.ref l2)) (hl2 : H l2 = some (.lst ys)) (hz : xs.length + ys.length ≤ 100000) : EvL (tOp rCat ta tb) σ H (xs ++ ys) := fun H1 e Q q => ha H1 e _ fun H2 e2 => hb H2 (e.trans e2) _ fun H3 e3 =>
  ⟨l, l2, xs, ys, rfl, rfl, ((e.trans e2).trans e3) _ _ hl, ((e.trans e2).trans e3) _ _ hl2, sz_of hz, fun r hr => q r _ (fresh_back (e2.trans e3) hr) ((e2.trans e3).trans (Ex.new hr)) upd_same⟩
theorem el_repA {n : Nat} {xs : List V} (ha : EvL ta σ H xs) (hb : Ev tb σ H (nv n)) (hl : xs.length * n ≤ 100000) (hn : n ≤ 100000) : EvL (tOp rRep ta tb) σ H (List.replicate n xs).flatten := fun H1 e Q q =>
  ha H1 e _ fun p H2 np e2 hp => hb H2 (e.trans e2) _ fun H3 e3 => ⟨p, (n : Int), xs, rfl, rfl, e3 _ _ hp, by omega, by omega, by rw [Int.toNat_natCast]; exact sz_of hl, fun p2 n2 => by
    rw [Int.toNat_natCast]
    exact q p2 _ (fresh_back (e2.trans e3) n2) ((e2.trans e3).trans (Ex.new n2)) upd_same⟩
theorem ed_LB {bs : List Bool} (h : EvL te σ H (bs.map V.bl)) : EvD K te σ H (.list (bs.map PyData.bool)) := ed_P (EvP.ofL h) fun _ _ _ _ _ ⟨_, h1, _, h2⟩ => by
  rw [h1]
  exact .lst (sq_of h2) (dpAll_map (fun b => .bl b) bs)
/-- [list(range(i)) for i in range(n)] -/
theorem ep_upW {n j : Nat} (hn : n ≤ 60) (hl : j < σ.length) (hwp : ∀ x, wipe ((wipe σ [j]).set j (some x)) [j] = wipe σ [j]) (hE : Ev ta σ H (nv n)) : EvP (tLc (iRng1 (tCons ta tNil)) (gName j) tYes (tLstRg (tRg1 (tVar j))) [j]) σ H (fun H1 v H2 => ∃ p as, v = .ref p ∧ H1 p = none ∧ MW p as (upW n) H2 ∧ ∀ r ∈ as, H r = none) := by
  refine (ep_mR (NewRowF H fun i : Nat => (List.range i).map nv) newRowF_st hE (by omega) hwp fun i Hb hi eb D hD => EvL.newRowF (H0 := H) (row := fun i : Nat => (List.range i).map nv) eb (el_rng (ev_var (List.getElem?_set_self (by rw [wipe_length]; exact hl))) (by omega)) hD).imp fun Hx v Hy _ _ ⟨p, ys, h1, h2, h3, h4, h5⟩ => ?_
  obtain ⟨as, mw, hf⟩ := mw_of_rowsF (web := upW n) h3 (by rw [upW_len]; exact h4) fun k row y hk hy => by
    have hkm : k < n := by
      have := (List.getElem?_eq_some_iff.mp hk).1
      rw [upW_len] at this
      exact this
    rw [upW_at hkm] at hk
    obtain ⟨r, g1, g2, g3, g4⟩ := h5 k y hy
    obtain rfl := Option.some.inj hk
    exact ⟨r, g1, g2, g3, g4⟩
  exact ⟨p, as, h1, h2, mw, hf⟩
end
theorem upW_take {n k : Nat} (h : k ≤ n) : (upW n).take k = upW k := by
  unfold upW
  rw [← List.map_take, List.take_range, Nat.min_eq_left h]
theorem MW.take {p p2 : Addr} {as : List Addr} {web : List (List Nat)} {k : Nat} {H : Hp} (m : MW p as web H) (h2 : H p2 = some (.lst ((as.map V.ref).take k))) (hne : ∀ r ∈ as, r ≠ p2) : MW p2 (as.take k) (web.take k) H := by
  refine ⟨by rw [h2, List.map_take], by rw [List.length_take, List.length_take, m.len], fun j r row ha hb => ?_⟩
  rw [List.getElem?_take] at ha hb
  split at ha
  · rename_i hj
    rw [if_pos hj] at hb
    exact ⟨hne r (List.mem_of_getElem? ha), (m.row j r row ha hb).2⟩
  · cases ha
/-! ### what is told at written webs -/
theorem wUp (st : List Nat) (n : Nat) : wrd (upW n) st = wordM (upW n) ((List.range n).map some) st := by
  show wordM (upW n) (numsM (upW n)) st = _
  rw [upW_nums]
theorem pUp (st : List Nat) (n : Nat) : pushOf (upW n) st = firstTo (upW n) ((List.range n).map some) st (nextW (wordM (upW n) ((List.range n).map some) st)) := by
  unfold pushOf
  rw [upW_nums]
theorem wGr (st : List Nat) : wrd greatW st = wordM greatW ((List.range 40).map some ++ List.replicate 1 none) st := by
  show wordM greatW (numsM greatW) st = _
  rw [greatW_nums]
theorem pGr (st : List Nat) : pushOf greatW st = firstTo greatW ((List.range 40).map some ++ List.replicate 1 none) st (nextW (wordM greatW ((List.range 40).map some ++ List.replicate 1 none) st)) := by
  unfold pushOf
  rw [greatW_nums]
theorem f1 : wrd (upW 60) [59, 58, 1] = some true := by rw [wUp]; decide +kernel
theorem f2 : wrd (upW 60) [59, 58] = some false ∧ pushOf (upW 60) [59, 58] = (0, 58) := by rw [wUp, pUp]; decide +kernel
theorem f3 : wrd (upW 60) [40, 20, 10] = some false ∧ pushOf (upW 60) [40, 20, 10] = (0, 30) := by rw [wUp, pUp]; decide +kernel
theorem f4 : wrd (upW 60) (List.replicate 19 59 ++ [58]) = some false ∧ pushOf (upW 60) (List.replicate 19 59 ++ [58]) = (0, 58) := by rw [wUp, pUp]; decide +kernel
theorem f5 : wrd greatW [40, 39] = some false ∧ pushOf greatW [40, 39] = (0, 39) := by rw [wGr, pGr]; decide +kernel
theorem f6 : wrd greatW [40, 38] = none ∧ wrd greatW [40, 40] = none := by rw [wGr, wGr]; decide +kernel
theorem f7 : wrd [[], [0], [0]] [1, 2] = some true ∧ wrd [[], [0], [0]] [2] = some false ∧ wrd [[], [0], [1]] [1, 2] = some false ∧ wrd [[], [0], [1]] [2] = some true := by decide +kernel
theorem f8 : wrd [[], [0], [0, 1]] [1, 2, 2, 1] = some true ∧ wrd [[], [0]] [1] = some false ∧ pushOf [[], [0]] [1] = (0, 0) := by decide +kernel
def sp_yes : Sp := spOf (α := Unit) (fun _ vs _ => vs = []) (fun _ _ v _ => v = .bl true)
end Sr
set_option Elab.async false
set_option linter.all false
set_option maxRecDepth 100000
set_option maxHeartbeats 4000000
/-! SrB: answers made by hand, asked one by one; ends and worths of written webs. -/
namespace Sr
open PySem PySem.Spec PyProof.Rows L2 Evl
section
variable {K : PySem.W.Frag} {mg : Str → Option Value} {L W E : Addr} {σ : L2.St} {H H' : Hp} {ta tb tc td te ty tx : TE} {t u : TT} {x y z v : V} {r : R2} {D : Ends} {tu tw tz : TS} {g : TG} {C a : Addr} {fs : List (Str × V)}
abbrev fOf (b : Option Bool) (s p : Int) : List (Str × V) := if b = some true then [] else flds (.int s) (.int p)
/-- e.shows(.., ..), all made on the way -/
theorem ev_shsG {tr : TA} {web : Webs} {st : List Nat} {s p : Int} {Pa : Hp → V → Hp → Prop} {PA : Hp → List V → Hp → Prop} (b : Option Bool) (ho : EvP ta σ H Pa) (hPa : ∀ H1 v H2, Ex H H1 → Ex H1 H2 → Pa H1 v H2 → ∃ a, v = .ref a ∧ Ins H2 a (clsOf L W E b) (fOf b s p)) (hv : EvAP tr σ H PA)
    (hPA : ∀ H1 vs H2, Ex H H1 → Ex H1 H2 → PA H1 vs H2 → ∃ wa sa, vs = [.ref wa, .ref sa] ∧ WS K H2 wa web sa st) : Ev (tShs K L W E ta tr) σ H (.bl (shown b web st (.int s) (.int p))) := fun H1 e Q q => by
  refine ⟨b, ho H1 e _ fun v H2 e2 pa => ?_⟩
  obtain ⟨a, rfl, dx, hi⟩ := hPa H1 v H2 e e2 pa
  refine ⟨a, dx, _, rfl, hi, by rcases b with _ | _ | _ <;> rfl, hv H2 (e.trans e2) _ fun vs H3 e3 pA => ?_⟩
  obtain ⟨wa, sa, rfl, ws⟩ := hPA H2 vs H3 (e.trans e2) e3 pA
  match b, hi with
  | some true, hi => exact ⟨(a, (wa, web), (sa, st)), ⟨rfl, ws⟩, fun v H4 e4 r => by rw [show v = _ from r]; exact q H4 ((e2.trans e3).trans e4)⟩
  | some false, hi => exact ⟨((a, .int s, .int p), (wa, web), (sa, st)), ⟨rfl, ws, ⟨dx, e3 _ _ hi⟩, .int _, .int _⟩, fun v H4 e4 r => by rw [show v = _ from r]; exact q H4 ((e2.trans e3).trans e4)⟩
  | none, hi => exact ⟨((a, .int s, .int p), (wa, web), (sa, st)), ⟨rfl, ws, ⟨dx, e3 _ _ hi⟩, .int _, .int _⟩, fun v H4 e4 r => by rw [show v = _ from r]; exact q H4 ((e2.trans e3).trans e4)⟩
/-- an answer just made -/
def MadA (L W E : Addr) (b : Option Bool) (s p : Int) : Hp → V → Hp → Prop := fun _ v H2 => ∃ x, v = .ref x ∧ Ins H2 x (clsOf L W E b) (fOf b s p)
theorem ep_mL : EvP (tBare L) σ H (MadA L W E (some true) 0 0) := ep_bare.imp fun _ _ _ _ _ ⟨x, h1, _, h3⟩ => ⟨x, h1, h3⟩
theorem ep_mW {s p : Int} (hs : Ev ta σ H (.int s)) (hp : Ev tb σ H (.int p)) : EvP (tMake W (sp_init W) [] E0 (tCons ta (tCons tb tNil))) σ H (MadA L W E (some false) s p) := (ep_make (ea_cons hs (ea_cons hp ea_nil))).imp fun _ _ _ _ _ ⟨x, h1, _, h3⟩ => ⟨x, h1, h3⟩
theorem ep_mE' {s p : Int} (hs : Ev ta σ H (.int s)) (hp : Ev tb σ H (.int p)) : EvP (tMake E (sp_init E) [] E0 (tCons ta (tCons tb tNil))) σ H (MadA L W E none s p) := (ep_make (ea_cons hs (ea_cons hp ea_nil))).imp fun _ _ _ _ _ ⟨x, h1, _, h3⟩ => ⟨x, h1, h3⟩
/-- (answer, due) as an item -/
def AnD (L W E : Addr) (z : (Option Bool × Int × Int) × Bool) (H : Hp) (v : V) : Prop := ∃ t x, v = .ref t ∧ H t = some (.tup [.ref x, .bl z.2]) ∧ Ins H x (clsOf L W E z.1.1) (fOf z.1.1 z.1.2.1 z.1.2.2)
theorem anD_mono : Mono (AnD L W E) := fun _ _ _ _ e ⟨t, x, h1, h2, h3⟩ => ⟨t, x, h1, e _ _ h2, h3.mono e⟩
theorem ep_an {b : Option Bool} {s p : Int} {due : Bool} (h : EvP te σ H (MadA L W E b s p)) : EvP (tTup (tCons te (tCons (tC (.bl due)) tNil))) σ H (fun _ v H2 => AnD L W E ((b, s, p), due) H2 v) := fun H1 e Q q =>
  h H1 e _ fun v H2 e2 ⟨x, hx, hi⟩ => by
    subst hx
    exact ⟨sz_of (show 2 ≤ 100000 by decide), fun t nt => q _ _ (e2.trans (Ex.new nt)) ⟨t, x, rfl, upd_same, hi.mono (Ex.new nt)⟩⟩
/-- (stones, due) as an item -/
def StB (st : List Nat × Bool) (H : Hp) (v : V) : Prop := ∃ p r, v = .ref p ∧ H p = some (.tup [.ref r, .bl st.2]) ∧ H r = some (.lst (st.1.map nv))
theorem stB_mono : Mono StB := fun _ _ _ _ e ⟨p, r, h1, h2, h3⟩ => ⟨p, r, h1, e _ _ h2, e _ _ h3⟩
theorem ep_stB {st : List Nat} {k : Bool} (h : EvL ta σ H (st.map nv)) : EvP (tTup (tCons ta (tCons (tC (.bl k)) tNil))) σ H (fun _ v H2 => StB (st, k) H2 v) := fun H1 e Q q =>
  h H1 e _ fun r H2 nr e2 hr => ⟨sz_of (show 2 ≤ 100000 by decide), fun p np => q _ _ (e2.trans (Ex.new np)) ⟨p, r, rfl, upd_same, Ex.new np _ _ hr⟩⟩
theorem ep_stBv {st : List Nat} {k : Bool} {r : Addr} (h : Ev ta σ H (.ref r)) (hr : H r = some (.lst (st.map nv))) : EvP (tTup (tCons ta (tCons (tC (.bl k)) tNil))) σ H (fun _ v H2 => StB (st, k) H2 v) := fun H1 e Q q =>
  h H1 e _ fun H2 e2 => ⟨sz_of (show 2 ≤ 100000 by decide), fun p np => q _ _ (e2.trans (Ex.new np)) ⟨p, r, rfl, upd_same, Ex.new np _ _ ((e.trans e2) _ _ hr)⟩⟩
end
def okLine (web : Webs) (st : List Nat) (z : (Option Bool × Int × Int) × Bool) : Bool := shown z.1.1 web st (.int z.1.2.1) (.int z.1.2.2) == z.2
def sp_lshows (K : PySem.W.Frag) (L W E : Addr) : Sp := spOf (α := (Addr × Webs) × (Addr × List Nat) × (Addr × List ((Option Bool × Int × Int) × Bool)))
  (fun a vs H => vs = [.ref a.1.1, .ref a.2.1.1, .ref a.2.2.1] ∧ WS K H a.1.1 a.1.2 a.2.1.1 a.2.1.2 ∧ (∃ ys, SqL K H a.2.2.1 ys ∧ Al (AnD L W E) a.2.2.2 ys H) ∧ (a.2.2.2.all (okLine a.1.2 a.2.1.2)) = true) (fun _ _ v _ => v = .bl true)
section
variable {K : PySem.W.Frag} {mg : Str → Option Value} {L W E : Addr} {σ : L2.St} {H H' : Hp} {ta tb tc td te ty tx : TE} {t u : TT} {x y z v : V} {r : R2} {D : Ends} {tu tw tz : TS} {g : TG} {C a : Addr} {fs : List (Str × V)}
/-- _law_shows(web, [..], lines) -/
theorem ev_lshows {tl : TE} {wa la : Addr} {web : Webs} {st : List Nat} {ys : List V} {zs : List ((Option Bool × Int × Int) × Bool)} (hw : Ev ta σ H (.ref wa)) (hll : LL K H wa web) (ok : Ok60 web) (hl : EvL tl σ H (st.map nv)) (okS : OkSt web st) (hla : Ev tb σ H (.ref la)) (hys : H la = some (.lst ys)) (hal : Al (AnD L W E) zs ys H) (hall : zs.all (okLine web st) = true) :
    Ev (tCall (sp_lshows K L W E) [] E0 (tCons ta (tCons tl (tCons tb tNil)))) σ H (.bl true) := fun H1 e Q q => hw H1 e _ fun H2 e2 => hl H2 (e.trans e2) _ fun sa H3 nsa e3 hsa => hla H3 ((e.trans e2).trans e3) _ fun H4 e4 =>
  have e04 := ((e.trans e2).trans e3).trans e4
  ⟨((wa, web), (sa, st), (la, zs)), ⟨rfl, ⟨hll.mono e04, ok, sq_of (e4 _ _ hsa), okS⟩, ⟨ys, sq_of (e04 _ _ hys), hal.mono anD_mono e04⟩, hall⟩, fun v H5 e5 r => by
    rw [show v = _ from r]
    exact q H5 (((e2.trans e3).trans e4).trans e5)⟩
/-! ### ends, worths -/
theorem et_endsNe {tr : TE} {rows : List (List Nat)} {xs : List (Option Nat)} {P : Hp → V → Hp → Prop} (h : EvP te σ H P) (hP : ∀ H1 v H2, Ex H H1 → Ex H1 H2 → P H1 v H2 → ∃ p, v = .ref p ∧ LL K H2 p rows) (ok : Ok60 rows) (hE : endsM rows = xs) (hd : EvD K tr σ H (dO xs)) : EvT (tTest (tOp (rNeD K) (tCall (sp_ends_of K) [] E0 (tCons te tNil)) tr)) σ H false := by
  have h1 := ed_ends h hP ok
  rw [hE] at h1
  exact et_is (et_test (ev_neDD h1 hd ((sh_dO xs).mono (by decide)) ((sh_dO xs).mono (by decide)))) (by rw [(sh_dO xs).refl]; rfl)
theorem et_worthsNe {tr : TE} {rows : List (List Nat)} {xs : List Wth} {P : Hp → V → Hp → Prop} (h : EvP te σ H P) (hP : ∀ H1 v H2, Ex H H1 → Ex H1 H2 → P H1 v H2 → ∃ p, v = .ref p ∧ LL K H2 p rows) (ok : Ok60 rows) (hE : wthM rows = xs) (hd : EvD K tr σ H (dTs xs)) : EvT (tTest (tOp (rNeD K) (tCall (sp_worths K) [] E0 (tCons te tNil)) tr)) σ H false := by
  have h1 := ed_worths h hP ok
  rw [hE] at h1
  exact et_is (et_test (ev_neDD h1 hd ((sh_dTs xs).mono (by decide)) ((sh_dTs xs).mono (by decide)))) (by rw [(sh_dTs xs).refl]; rfl)
theorem ev_worthN {rows : List (List Nat)} {p k : Nat} {P : Hp → V → Hp → Prop} (h : EvP ta σ H P) (hP : ∀ H1 v H2, Ex H H1 → Ex H1 H2 → P H1 v H2 → ∃ p, v = .ref p ∧ LL K H2 p rows) (hp : Ev tb σ H (nv p)) (ok : Ok60 rows) (hlt : p < rows.length) (hE : wthOf rows (numsM rows) p = .num k) : Ev (tCall (sp_worth K) [] E0 (tCons ta (tCons tb tNil))) σ H (nv k) :=
  EvP.val (P := fun _ v _ => v = nv k) (ep_callG (eap_cons h (eap_cons (EvP.of hp) eap_nil)) fun H1 vs H2 e1 e2 ⟨v1, r1, Hm1, h1, em0, em1, hv1, v2, r2, Hm2, h2, _, em2, hv2, h3⟩ => by
    obtain ⟨wa, hwa, hll⟩ := hP H1 v1 Hm1 e1 em0 hv1
    subst hwa hv2 h3 h2 h1
    exact ⟨((wa, rows), p), ⟨rfl, hll.mono em1, ok, hlt⟩, fun v H3 _ ⟨q, g1, _⟩ => by
      dsimp only at g1
      rw [hE] at g1
      exact g1⟩) fun _ _ _ _ _ h => h
theorem ed_of' {d d' : PyData} (h : EvD K te σ H d) (e : d = d') : EvD K te σ H d' := by rw [← e]; exact h
/-- [[]] * n -/
theorem ep_nils {n : Nat} (hn : Ev tb σ H (nv n)) (hl : n ≤ 1000) : EvP (tOp rRep (tLst (tCons (tLst tNil) tNil)) tb) σ H (fun _ v H2 => ∃ p, v = .ref p ∧ LL K H2 p (List.replicate n [])) := by
  intro H1 e Q q
  refine (ew_disp (rows := [[]]) (er_cons (row := []) (el_lst ea_nil sz_nil) er_nil) (show 1 ≤ 1000 by decide)) H1 e _ fun v H2 e2 ⟨p, as, hv, np, mw, _, _⟩ => ?_
  subst hv
  obtain ⟨r, rfl⟩ : ∃ r, as = [r] := by
    have := mw.len
    match as, this with
    | [r], _ => exact ⟨r, rfl⟩
  refine hn H2 (e.trans e2) _ fun H3 e3 => ⟨p, (n : Int), [.ref r], rfl, rfl, (mw.ex e3).top, by omega, by omega, by rw [Int.toNat_natCast]; show 1 * n ≤ sizeLine; exact sz_of (by omega), fun p2 n2 => ?_⟩
  rw [Int.toNat_natCast]
  refine q _ _ ((e2.trans e3).trans (Ex.new n2)) ⟨p2, rfl, List.replicate n r, sq_of (by rw [upd_same, flat_one, List.map_replicate]), by rw [List.length_replicate, List.length_replicate], fun i r' row h1 h2 => ?_⟩
  have h3 := List.eq_of_mem_replicate (List.mem_of_getElem? h1)
  have h4 := List.eq_of_mem_replicate (List.mem_of_getElem? h2)
  subst h3 h4
  exact sq_of (Ex.new n2 _ _ (e3 _ _ (mw.row 0 r' [] rfl rfl).2))
theorem repNv (n k : Nat) : (List.replicate n [nv k]).flatten = (List.replicate n k).map nv := by rw [flat_one, List.map_replicate]
end
/-- how many stones more -/
def sp_more : Sp := spOf (α := Nat) (fun m vs _ => vs = [nv m] ∧ m < 6) (fun _ _ v _ => v = .bl true)
theorem nil60 : endsM (List.replicate 60 []) = List.replicate 60 (some 0) := by decide +kernel
section
variable {K : PySem.W.Frag} {mg : Str → Option Value} {L W E : Addr} {σ : L2.St} {H H' : Hp} {ta tb tc td te ty tx : TE}
/-- web and stones as arguments -/
theorem eap_ws {tl : TE} {web : Webs} {st : List Nat} {Pw : Hp → V → Hp → Prop} (hw : EvP te σ H Pw) (hP : ∀ H1 v H2, Ex H H1 → Ex H1 H2 → Pw H1 v H2 → ∃ wa, v = .ref wa ∧ LL K H2 wa web) (ok : Ok60 web) (hl : EvL tl σ H (st.map nv)) (okS : OkSt web st) : EvAP (tCons te (tCons tl tNil)) σ H (fun _ vs H2 => ∃ wa sa, vs = [.ref wa, .ref sa] ∧ WS K H2 wa web sa st) :=
  fun H1 e Q q => hw H1 e _ fun v H2 e2 p => hl H2 (e.trans e2) _ fun sa H3 nsa e3 hsa => by
    obtain ⟨wa, rfl, hll⟩ := hP H1 v H2 e e2 p
    exact q _ H3 (e2.trans e3) ⟨wa, sa, rfl, hll.mono e3, ok, sq_of hsa, okS⟩
theorem ep_tup2 {P : Hp → V → Hp → Prop} {w : V} (h : EvP te σ H P) : EvP (tTup (tCons te (tCons (tC w) tNil))) σ H (fun H1 v H2 => ∃ t x Hm, v = .ref t ∧ Hm t = none ∧ Ex H1 Hm ∧ P H1 x Hm ∧ H2 = upd Hm t (.tup [x, w])) := fun H1 e Q q =>
  h H1 e _ fun x H2 e2 p => ⟨sz_of (show 2 ≤ 100000 by decide), fun t nt => q _ _ (e2.trans (Ex.new nt)) ⟨t, x, H2, rfl, nt, e2, p, rfl⟩⟩
/-- [(Won(i, 0), True) for i in range(n)] -/
theorem ep_anR {n j : Nat} {vs : List Nat} (hE : Ev ta σ H (nv n)) (hn : n ≤ 1000) (hl : j < σ.length) (hw : ∀ x, wipe ((wipe σ vs).set j (some x)) vs = wipe σ vs) : EvP (tLc (iRng1 (tCons ta tNil)) (gName j) tYes (tTup (tCons (tMake W (sp_init W) [] E0 (tCons (tVar j) (tCons (tC (.int 0)) tNil))) (tCons (tC (.bl true)) tNil))) vs) σ H
    (fun _ v H2 => ∃ p ys, v = .ref p ∧ H2 p = some (.lst ys) ∧ Al (AnD L W E) ((List.range n).map fun i : Nat => ((some false, (i : Int), (0 : Int)), true)) ys H2) := by
  refine (ep_mR (fun D i v Hx => ∃ t x, v = .ref t ∧ t ≠ D ∧ x ≠ D ∧ Hx t = some (.tup [.ref x, .bl true]) ∧ Ins Hx x W (flds (nv i) (.int 0))) (fun D i v Ha Hb ⟨t, x, h1, h2, h3, h4, dx, h5⟩ eo => ⟨t, x, h1, h2, h3, eo _ _ h2 h4, dx, eo _ _ h3 h5⟩) hE (by omega) hw fun i Hb hi eb D hD => ?_).imp fun H1 v H2 _ _ ⟨p, ys, h1, _, h3, h4, h5⟩ => ⟨p, ys, h1, h3, ?_, ?_⟩
  · refine (ep_tup2 (ep_make (C := W) (s := nv i) (p := .int 0) (ea_cons (ev_var (List.getElem?_set_self (l := wipe σ vs) (by rw [wipe_length]; exact hl))) (ea_cons ev_c ea_nil)))).imp fun Hc v Hd ec ed ⟨t, x, Hm, hv, nt, em, ⟨x', hx, nx, hi⟩, hd'⟩ => ?_
    subst hv hx hd'
    refine ⟨t, x', rfl, fun z => ?_, fun z => ?_, upd_same, hi.mono (Ex.new nt)⟩
    · cases hd : Hb D with
      | none => exact hD hd
      | some o =>
        rw [z, (ec.trans em) _ _ hd] at nt
        cases nt
    · cases hd : Hb D with
      | none => exact hD hd
      | some o =>
        rw [z, ec _ _ hd] at nx
        cases nx
  · rw [h4, List.length_map, List.length_range]
  · intro i z y hz hy
    have hi : i < n := by
      have := (List.getElem?_eq_some_iff.mp hz).1
      rw [List.length_map, List.length_range] at this
      exact this
    rw [List.getElem?_map, List.getElem?_range hi] at hz
    obtain ⟨t, x, g1, _, _, g2, g3⟩ := h5 i y hy
    cases hz
    exact ⟨t, x, g1, g2, g3⟩
end
end Sr
set_option Elab.async false
set_option linter.all false
set_option maxRecDepth 100000
set_option maxHeartbeats 4000000
/-! SrP: all settings of several stones as places of one web; the words found there are the words by the numbers. -/
namespace Sr
open PySem PySem.Spec PyProof.Rows L2 Evl

/-! ### counts of settings -/
def atM (n : Nat) (st : List Nat) : Nat := st.foldl (fun a p => a * n + p) 0
theorem atM_snoc (n : Nat) (st : List Nat) (p : Nat) : atM n (st ++ [p]) = atM n st * n + p := by
  unfold atM
  rw [List.foldl_append]
  rfl
theorem snoc_of {st : List Nat} {k : Nat} (h : st.length = k + 1) : ∃ st0 p, st = st0 ++ [p] ∧ st0.length = k := by
  have hne : st ≠ [] := fun z => by rw [z] at h; cases h
  refine ⟨st.dropLast, st.getLast hne, (List.dropLast_concat_getLast hne).symm, ?_⟩
  rw [List.length_dropLast, h]
  rfl
theorem atM_lt {n : Nat} : ∀ {k : Nat} {st : List Nat}, st.length = k → (∀ p ∈ st, p < n) → atM n st < n ^ k
  | 0, st, h, _ => by
    rw [List.length_eq_zero_iff.mp h]
    show 0 < 1
    decide
  | k + 1, st, h, hst => by
    obtain ⟨st0, p, rfl, h0⟩ := snoc_of h
    have ih := atM_lt (n := n) h0 fun q hq => hst q (List.mem_append_left _ hq)
    have hp := hst p (List.mem_append_right _ (List.mem_singleton.mpr rfl))
    rw [atM_snoc, Nat.pow_succ]
    have : (atM n st0 + 1) * n ≤ n ^ k * n := Nat.mul_le_mul_right n ih
    rw [Nat.add_mul] at this
    omega

/-! ### the web of two -/
theorem flat_len {α : Type} {f : Nat → List α} {m : Nat} (hf : ∀ i, (f i).length = m) : ∀ n, ((List.range n).flatMap f).length = n * m
  | 0 => by simp
  | n + 1 => by
    rw [List.range_succ, List.flatMap_append, List.length_append, flat_len hf n, List.flatMap_singleton, hf, Nat.succ_mul]
theorem flat_at {α : Type} {f : Nat → List α} {m : Nat} (hf : ∀ i, (f i).length = m) : ∀ n i j, i < n → j < m → ((List.range n).flatMap f)[i * m + j]? = (f i)[j]?
  | 0, _, _, h, _ => absurd h (Nat.not_lt_zero _)
  | n + 1, i, j, hi, hj => by
    rw [List.range_succ, List.flatMap_append, List.flatMap_singleton]
    by_cases h : i < n
    · rw [List.getElem?_append_left, flat_at hf n i j h hj]
      rw [flat_len hf]
      have : (i + 1) * m ≤ n * m := Nat.mul_le_mul_right m h
      rw [Nat.add_mul] at this
      omega
    · have : i = n := by omega
      subst this
      rw [List.getElem?_append_right (by rw [flat_len hf]; omega), flat_len hf]
      congr 1
      omega
def prodRow (w1 w2 : Webs) (i j : Nat) : List Nat := sortN ((roads w1 i).map (fun p => p * w2.length + j) ++ (roads w2 j).map fun p => i * w2.length + p)
def prodRows (w1 w2 : Webs) (i : Nat) : List (List Nat) := (List.range w2.length).map fun j => prodRow w1 w2 i j
def prodW (w1 w2 : Webs) : Webs := (List.range w1.length).flatMap (prodRows w1 w2)
theorem prodRows_len (w1 w2 : Webs) (i : Nat) : (prodRows w1 w2 i).length = w2.length := by
  unfold prodRows
  rw [List.length_map, List.length_range]
theorem prodW_len (w1 w2 : Webs) : (prodW w1 w2).length = w1.length * w2.length := flat_len (prodRows_len w1 w2) _
theorem prodW_at {w1 w2 : Webs} {i j : Nat} (hi : i < w1.length) (hj : j < w2.length) : roads (prodW w1 w2) (i * w2.length + j) = prodRow w1 w2 i j := by
  have h : (prodW w1 w2)[i * w2.length + j]? = some (prodRow w1 w2 i j) := by
    unfold prodW
    rw [flat_at (prodRows_len w1 w2) _ i j hi hj]
    unfold prodRows
    rw [List.getElem?_map, List.getElem?_range hj]
    rfl
  exact roads_of h
theorem mem_prodRow {w1 w2 : Webs} {i j q : Nat} : q ∈ prodRow w1 w2 i j ↔ (∃ o ∈ roads w1 i, q = o * w2.length + j) ∨ ∃ o ∈ roads w2 j, q = i * w2.length + o := by
  unfold prodRow
  rw [mem_sortN, List.mem_append, List.mem_map, List.mem_map]
  constructor
  · rintro (⟨o, h1, h2⟩ | ⟨o, h1, h2⟩)
    · exact .inl ⟨o, h1, h2.symm⟩
    · exact .inr ⟨o, h1, h2.symm⟩
  · rintro (⟨o, h1, h2⟩ | ⟨o, h1, h2⟩)
    · exact .inl ⟨o, h1, h2.symm⟩
    · exact .inr ⟨o, h1, h2.symm⟩
theorem idx_lt {a b i j : Nat} (hi : i < a) (hj : j < b) : i * b + j < a * b := by
  have : (i + 1) * b ≤ a * b := Nat.mul_le_mul_right b hi
  rw [Nat.add_mul] at this
  omega
theorem prodRow_lt {w1 w2 : Webs} (h1 : InR w1) (h2 : InR w2) {i j : Nat} (hi : i < w1.length) (hj : j < w2.length) : ∀ q ∈ prodRow w1 w2 i j, q < w1.length * w2.length := fun q hq => by
  rcases mem_prodRow.mp hq with ⟨o, ho, rfl⟩ | ⟨o, ho, rfl⟩
  · exact idx_lt (h1 _ _ ho) hj
  · exact idx_lt hi (h2 _ _ ho)
theorem prodW_good {w1 w2 : Webs} (h1 : Good w1) (h2 : Good w2) : Good (prodW w1 w2) := fun row hr => by
  rw [prodW_len]
  obtain ⟨i, hi, hr⟩ := List.mem_flatMap.mp hr
  obtain ⟨j, hj, rfl⟩ := List.mem_map.mp hr
  exact ⟨sortN_rise _, prodRow_lt h1.inR h2.inR (List.mem_range.mp hi) (List.mem_range.mp hj)⟩
theorem prodW_ok {w1 w2 : Webs} (h1 : Ok60 w1) (h2 : Ok60 w2) (h : w1.length * w2.length ≤ 60) : Ok60 (prodW w1 w2) :=
  ⟨by rw [prodW_len]; exact Nat.mul_pos h1.pos h2.pos, by rw [prodW_len]; exact h, prodW_good h1.good h2.good⟩
/-- P's places are the settings of k stones on web -/
structure Codes (web P : Webs) (k : Nat) : Prop where
  len : P.length = web.length ^ k
  mv : ∀ st : List Nat, st.length = k → (∀ p ∈ st, p < web.length) → ∀ q, q ∈ roads P (atM web.length st) ↔ ∃ st', Mv web st st' ∧ q = atM web.length st'
theorem mv_snoc {web : Webs} {st st' : List Nat} {p : Nat} : Mv web (st ++ [p]) st' ↔ (∃ s', Mv web st s' ∧ st' = s' ++ [p]) ∨ ∃ o ∈ roads web p, st' = st ++ [o] := by
  constructor
  · rintro ⟨A, q, B, o, e, ho, rfl⟩
    rcases List.eq_nil_or_concat B with rfl | ⟨B', z, rfl⟩
    · have h := List.append_inj' e rfl
      cases h.2
      rw [h.1]
      exact .inr ⟨o, ho, rfl⟩
    · have e' : st ++ [p] = (A ++ q :: B') ++ [z] := by rw [e, List.concat_eq_append, List.append_assoc]; rfl
      have h := List.append_inj' e' rfl
      cases h.2
      exact .inl ⟨A ++ o :: B', ⟨A, q, B', o, h.1, ho, rfl⟩, by rw [List.concat_eq_append, List.append_assoc]; rfl⟩
  · rintro (⟨s', ⟨A, q, B, o, rfl, ho, rfl⟩, rfl⟩ | ⟨o, ho, rfl⟩)
    · exact ⟨A, q, B ++ [p], o, by rw [List.append_assoc]; rfl, ho, by rw [List.append_assoc]; rfl⟩
    · exact ⟨st, p, [], o, rfl, ho, rfl⟩
theorem mv_nil {web : Webs} {st' : List Nat} : ¬ Mv web [] st' := fun ⟨A, p, B, o, e, _⟩ => by simp at e
theorem codes_one (web : Webs) : Codes web web 1 := ⟨(Nat.pow_one _).symm, fun st hl hst q => by
  obtain ⟨st0, p, rfl, h0⟩ := snoc_of hl
  obtain rfl := List.length_eq_zero_iff.mp h0
  have ha : ∀ o, atM web.length ([] ++ [o]) = o := fun o => by
    rw [atM_snoc]
    show 0 * web.length + o = o
    omega
  rw [ha]
  constructor
  · exact fun h => ⟨[q], mv_snoc.mpr (.inr ⟨q, h, rfl⟩), (ha q).symm⟩
  · rintro ⟨st', hm, rfl⟩
    rcases mv_snoc.mp hm with ⟨s', h, _⟩ | ⟨o, ho, rfl⟩
    · exact absurd h mv_nil
    · rw [ha]
      exact ho⟩
theorem codes_succ {web P : Webs} {k : Nat} (c : Codes web P k) : Codes web (prodW P web) (k + 1) := ⟨by rw [prodW_len, c.len, Nat.pow_succ], fun st hl hst q => by
  obtain ⟨st0, p, rfl, h0⟩ := snoc_of hl
  have hst0 : ∀ p ∈ st0, p < web.length := fun x hx => hst x (List.mem_append_left _ hx)
  have hp := hst p (List.mem_append_right _ (List.mem_singleton.mpr rfl))
  rw [atM_snoc, prodW_at (by rw [c.len]; exact atM_lt h0 hst0) hp, mem_prodRow]
  constructor
  · rintro (⟨o, ho, rfl⟩ | ⟨o, ho, rfl⟩)
    · obtain ⟨s', hm, rfl⟩ := (c.mv st0 h0 hst0 o).mp ho
      exact ⟨s' ++ [p], mv_snoc.mpr (.inl ⟨s', hm, rfl⟩), (atM_snoc ..).symm⟩
    · exact ⟨st0 ++ [o], mv_snoc.mpr (.inr ⟨o, ho, rfl⟩), (atM_snoc ..).symm⟩
  · rintro ⟨st', hm, rfl⟩
    rcases mv_snoc.mp hm with ⟨s', h, rfl⟩ | ⟨o, ho, rfl⟩
    · exact .inl ⟨atM web.length s', (c.mv st0 h0 hst0 _).mpr ⟨s', h, rfl⟩, atM_snoc ..⟩
    · exact .inr ⟨o, ho, atM_snoc ..⟩⟩
theorem mv_len {web : Webs} {st st' : List Nat} (h : Mv web st st') : st'.length = st.length := by
  obtain ⟨A, p, B, o, rfl, _, rfl⟩ := h
  simp
theorem lab_up {web P : Webs} {k : Nat} (hw : InR web) (c : Codes web P k) {q : Nat} {b : Bool} (h : Lab (roads P) q b) : ∀ st : List Nat, st.length = k → (∀ p ∈ st, p < web.length) → q = atM web.length st → Lab (movesL web) st b := by
  induction h with
  | lost q hall ih =>
    rintro st hl hst rfl
    refine .lost _ fun st' hst' => ?_
    have hm := mem_moves.mp hst'
    exact ih (atM web.length st') ((c.mv st hl hst _).mpr ⟨st', hm, rfl⟩) st' ((mv_len hm).trans hl) (mv_lt hw rfl hst hm) rfl
  | won q o hin _ ih =>
    rintro st hl hst rfl
    obtain ⟨st', hm, rfl⟩ := (c.mv st hl hst _).mp hin
    exact .won _ st' (mem_moves.mpr hm) (ih st' ((mv_len hm).trans hl) (mv_lt hw rfl hst hm) rfl)
theorem lab_down {web P : Webs} {k : Nat} (hw : InR web) (c : Codes web P k) {st : List Nat} {b : Bool} (h : Lab (movesL web) st b) : st.length = k → (∀ p ∈ st, p < web.length) → Lab (roads P) (atM web.length st) b := by
  induction h with
  | lost st hall ih =>
    intro hl hst
    refine .lost _ fun q hq => ?_
    obtain ⟨st', hm, rfl⟩ := (c.mv st hl hst _).mp hq
    exact ih st' (mem_moves.mpr hm) ((mv_len hm).trans hl) (mv_lt hw rfl hst hm)
  | won st st' hin _ ih =>
    intro hl hst
    have hm := mem_moves.mp hin
    exact .won _ (atM web.length st') ((c.mv st hl hst _).mpr ⟨st', hm, rfl⟩) (ih ((mv_len hm).trans hl) (mv_lt hw rfl hst hm))
/-- the word found among all settings is the word by the numbers -/
theorem word_code {web P : Webs} {k : Nat} (hw : InR web) (hP : InR P) (c : Codes web P k) {st : List Nat} (hl : st.length = k) (hst : ∀ p ∈ st, p < web.length) : (wordsM P).getD (atM web.length st) none = wrd web st := by
  have hlt : atM web.length st < P.length := by rw [c.len]; exact atM_lt hl hst
  cases hc : wrd web st with
  | some b => exact getD_of (words_full hP hlt (lab_down hw c (word_lab (numsM_by web) hc) hl hst))
  | none =>
    cases hd : (wordsM P).getD (atM web.length st) none with
    | none => rfl
    | some b =>
      have h1 := lab_up hw c (words_sound (of_getD hd)) st hl hst rfl
      have h2 : wrd web st = some b := lab_word hw (numsM_len web) (numsM_by web).ok (numsM_full web) h1 hst
      rw [hc] at h2
      cases h2
/-! ### promises -/
def sp_prod (K : PySem.W.Frag) : Sp := spOf (α := (Addr × Webs) × (Addr × Webs)) (fun a vs H => vs = [.ref a.1.1, .ref a.2.1] ∧ LL K H a.1.1 a.1.2 ∧ Ok60 a.1.2 ∧ LL K H a.2.1 a.2.2 ∧ Ok60 a.2.2 ∧ a.1.2.length + a.2.2.length ≤ 62 ∧ a.1.2.length * a.2.2.length ≤ 60)
  (fun a H v H' => ∃ p as, v = .ref p ∧ H p = none ∧ MW p as (prodW a.1.2 a.2.2) H')
def sp_at (K : PySem.W.Frag) : Sp := spOf (α := (Addr × Webs) × (Addr × List Nat)) (fun a vs H => vs = [.ref a.1.1, .ref a.2.1] ∧ LL K H a.1.1 a.1.2 ∧ a.1.2.length ≤ 60 ∧ LI K H a.2.1 a.2.2) (fun a _ v _ => v = nv (atM a.1.2.length a.2.2))
def sp_says : Sp := spOf (α := Bool × Bool) (fun a vs _ => vs = [.bl a.1, .bl a.2]) (fun a _ v _ => v = .bl (decide (a.1 = a.2)))
def prodTo (w1 w2 : Webs) (i j : Nat) : List (List Nat) := (List.range i).flatMap (prodRows w1 w2) ++ (List.range j).map fun j => prodRow w1 w2 i j
theorem prodTo_zero (w1 w2 : Webs) (i : Nat) : prodTo w1 w2 i 0 = (List.range i).flatMap (prodRows w1 w2) := by
  unfold prodTo
  simp
theorem prodTo_succ (w1 w2 : Webs) (i j : Nat) : prodTo w1 w2 i (j + 1) = prodTo w1 w2 i j ++ [prodRow w1 w2 i j] := by
  unfold prodTo
  rw [List.range_succ, List.map_append, List.append_assoc]
  rfl
theorem prodTo_full (w1 w2 : Webs) (i : Nat) : prodTo w1 w2 i w2.length = prodTo w1 w2 (i + 1) 0 := by
  rw [prodTo_zero, List.range_succ, List.flatMap_append, List.flatMap_singleton]
  rfl
theorem prodTo_all (w1 w2 : Webs) : prodTo w1 w2 w1.length 0 = prodW w1 w2 := prodTo_zero ..
theorem prodTo_len (w1 w2 : Webs) (i j : Nat) : (prodTo w1 w2 i j).length = i * w2.length + j := by
  unfold prodTo
  rw [List.length_append, flat_len (prodRows_len w1 w2), List.length_map, List.length_range]
/-- what is known of the words of all settings -/
structure Wds (web P : Webs) (k : Nat) : Prop where
  ok : Ok60 web
  okP : Ok60 P
  c : Codes web P k
theorem Wds.w {web P : Webs} {k : Nat} (h : Wds web P k) {st : List Nat} (hl : st.length = k) (hst : ∀ p ∈ st, p < web.length) : (wordsM P).getD (atM web.length st) none = wrd web st := word_code h.ok.good.inR h.okP.good.inR h.c hl hst
theorem Wds.lt {web P : Webs} {k : Nat} (h : Wds web P k) {st : List Nat} (hl : st.length = k) (hst : ∀ p ∈ st, p < web.length) : atM web.length st < P.length := by rw [h.c.len]; exact atM_lt hl hst
theorem Wds.one {web : Webs} (ok : Ok60 web) : Wds web web 1 := ⟨ok, ok, codes_one web⟩
theorem Wds.succ {web P : Webs} {k : Nat} (h : Wds web P k) (hl : P.length * web.length ≤ 60) : Wds web (prodW P web) (k + 1) := ⟨h.ok, prodW_ok h.okP h.ok hl, codes_succ h.c⟩
section
variable {K : PySem.W.Frag} {mg : Str → Option Value} {L W E : Addr} {σ : L2.St} {H H' : Hp} {ta tb tc td te ty tx : TE} {t u : TT} {x y z v : V} {r : R2} {D : Ends} {tu tw tz : TS} {g : TG} {C a : Addr} {fs : List (Str × V)}
/-- words[at(web, stones)] -/
theorem ev_wAt {wl : Addr} {web P : Webs} {k : Nat} {st : List Nat} (hw : Wds web P k) (hl : st.length = k) (hst : ∀ p ∈ st, p < web.length) (ha : Ev ta σ H (.ref wl)) (hs : SqL K H wl ((wordsM P).map fv)) (hi : Ev tb σ H (nv (atM web.length st))) : Ev (tOp (rIxL K) ta tb) σ H (fv (wrd web st)) := by
  refine ev_ixL ha hs hi ?_
  rw [map_at fv (by rw [words_len]; exact hw.lt hl hst), hw.w hl hst]
/-- for a, b in zip(xs, ys) -/
theorem s_forZ {a b : Addr} {xs ys : List V} {i j : Nat} (ha : Ev ta σ H (.ref a)) (hb : Ev tb σ H (.ref b)) (h1 : SqL K H a xs) (h2 : SqL K H b ys) (hl : xs.length = ys.length) (Pv : Nat → L2.St → Hp → Prop) (hx : ∀ i σ' H', Pv i σ' H' → Ex H H') (h0 : ∀ H1, Ex H H1 → Pv 0 σ H1)
    (hs : ∀ k x y σ' H1, xs[k]? = some x → ys[k]? = some y → Pv k σ' H1 → ∀ H2, Ex H1 H2 → tu { D with nx := Pv (k + 1), ct := Pv (k + 1), bk := D.nx } ((σ'.set i (some x)).set j (some y)) H2) (hd : ∀ σ' H', Pv xs.length σ' H' → D.nx σ' H') :
    tFor (iZip K (tCons ta (tCons tb tNil))) (gTup K 2 (gCons (gName i) (gCons (gName j) gNil))) tu D σ H := by
  refine s_forW (ei_zipA ha hb h1 h2) (walk_zip (show xs.length = min xs.length ys.length by omega)) Pv (fun H1 e _ => h0 H1 e) (fun i σ' H' _ p => ⟨ex_l (hx i σ' H' p) h1, ex_l (hx i σ' H' p) h2⟩) (fun k x σ' H1 H' hk p y => ?_) hd
  obtain ⟨T, x1, x2, rfl, nT, rfl, f1, f2⟩ := y
  refine ⟨T, [x1, x2], rfl, st_of upd_same, rfl, _, [x2], rfl, x2, [], rfl, rfl, ?_⟩
  exact hs k x1 x2 σ' H1 f1 f2 p _ (Ex.new nT)
end
end Sr
set_option Elab.async false
set_option linter.all false
set_option maxRecDepth 100000
set_option maxHeartbeats 4000000
/-! SrQ: answers by hand against the words of all settings. -/
namespace Sr
open PySem PySem.Spec PyProof.Rows L2 Evl
/-- shows within a comprehension: the text's own facts named -/
theorem pe_shsC {X : Cx} {K0 : PySem.W.Frag} {L W E : Addr} {k j : Nat} {pos apos : Pos} {e o : Expr} {es : List Expr} {t : TA} {ta : TE} {pl : Sem Bool} (hK : X.K = K0) (he : PE X o ta) (kl : Kl X.K X.mg L W E) (S : Shs X.prog X.w X.K X.mg X.base k L W E) (hr : Room j X.A) (hk : k ≤ j) (ha : PA X (e :: es) t)
    (hst : starEach (e :: es) X.env = (false, eval e X.env) :: starEach es X.env := by rfl) (hpl : (backTo pos (starEach es X.env)).any (·.1) = false := by rfl)
    (ht : eval (.Call (.Attribute o "shows" apos) (e :: es) [] pos) X.env = (do
      let ov ← eval o X.env
      standAt apos.atName
      let (f, first) ← holding [ov] (getMethod ov "shows" pl)
      callWith pos f first (backTo pos (starEach (e :: es) X.env)) (backToKw pos (keywordEach [] X.env))) := by rfl) :
    PE X (.Call (.Attribute o "shows" apos) (e :: es) [] pos) (tShs K0 L W E ta t) := by
  subst hK
  exact pe_shs he kl S hr hk ha hst hpl ht
/-- a push where the stone is there and the place on its row -/
theorem push_if {web : List (List Nat)} {st : List Nat} (g : Good web) (s p : Int) : pushM web st (.int s) (.int p) = if (0 ≤ s ∧ s < st.length) ∧ (0 ≤ p ∧ p.toNat ∈ roads web (st.getD s.toNat 0)) then some (st.set s.toNat p.toNat) else none := by
  show (if 0 ≤ s ∧ s < (st.length : Int) ∧ 0 ≤ p ∧ p < (web.length : Int) ∧ p.toNat ∈ roads web (st.getD s.toNat 0) then some (st.set s.toNat p.toNat) else none) = _
  by_cases h : (0 ≤ s ∧ s < (st.length : Int)) ∧ (0 ≤ p ∧ p.toNat ∈ roads web (st.getD s.toNat 0))
  · rw [if_pos h, if_pos]
    obtain ⟨⟨h1, h2⟩, h3, h4⟩ := h
    have := g.inR _ _ h4
    exact ⟨h1, h2, h3, by omega, h4⟩
  · rw [if_neg h, if_neg]
    rintro ⟨h1, h2, h3, _, h5⟩
    exact h ⟨⟨h1, h2⟩, h3, h5⟩
/-- one of the three, with the same fields -/
def AnB (L W E : Addr) (s p : Int) (b : Option Bool) (H : Hp) (v : V) : Prop := ∃ x, v = .ref x ∧ Ins H x (clsOf L W E b) (fOf b s p)
theorem anB_mono {L W E : Addr} {s p : Int} : Mono (AnB L W E s p) := fun _ _ _ _ e ⟨x, h1, h2⟩ => ⟨x, h1, h2.mono e⟩
structure PrG where
  wa : Addr
  web : Webs
  sa : Addr
  st : List Nat
  wl : Addr
  pw : Webs
  k : Nat
  s : Int
  p : Int
def sp_pright (K : PySem.W.Frag) : Sp := spOf (α := PrG) (fun a vs H => vs = [.ref a.wa, .ref a.sa, .ref a.wl, .int a.s, .int a.p] ∧ WS K H a.wa a.web a.sa a.st ∧ SqL K H a.wl ((wordsM a.pw).map fv) ∧ Wds a.web a.pw a.k ∧ a.st.length = a.k) (fun _ _ v _ => v = .bl true)
def sp_aright (K : PySem.W.Frag) : Sp := spOf (α := (Addr × Webs) × (Addr × List (List Nat)) × (Addr × Webs × Nat)) (fun a vs H => vs = [.ref a.1.1, .ref a.2.1.1, .ref a.2.2.1] ∧ LL K H a.1.1 a.1.2 ∧ (∃ ys, SqL K H a.2.1.1 ys ∧ Al (StR K) a.2.1.2 ys H) ∧ SqL K H a.2.2.1 ((wordsM a.2.2.2.1).map fv) ∧ Wds a.1.2 a.2.2.2.1 a.2.2.2.2 ∧ ∀ st ∈ a.2.1.2, OkSt a.1.2 st ∧ st.length = a.2.2.2.2) (fun _ _ v _ => v = .bl true)
/-! ### comprehensions over lists and tuples whose items are known one by one -/
section
variable {K : PySem.W.Frag} {mg : Str → Option Value} {L W E : Addr} {σ : L2.St} {H H' : Hp} {ta tb tc td te ty tx : TE} {t u : TT} {x y z v : V} {r : R2} {D : Ends} {tu tw tz : TS} {g : TG} {C a : Addr} {fs : List (Str × V)}
theorem el_mWA {α : Type} {R : α → Hp → V → Prop} (m : Mono R) {wi : TI} {J : It} {zs : List α} {ys : List V} {G : Hp → Prop} {j : Nat} {vs : List Nat} (v : α → V) (hi : EvI wi σ H J G) (w : Walk J ys.length G (YAt ys)) (hG : ∀ H1 H2, Ex H1 H2 → G H1 → G H2) (hal : Al R zs ys H) (hz : zs.length ≤ 50000)
    (hw : ∀ x, wipe ((wipe σ vs).set j (some x)) vs = wipe σ vs) (he : ∀ (i : Nat) (z : α) (x : V) (H1 : Hp), zs[i]? = some z → Ex H H1 → R z H1 x → Ev te ((wipe σ vs).set j (some x)) H1 (v z)) : EvL (tLc wi (gName j) tYes te vs) σ H (zs.map v) := by
  rw [hal.1] at w
  refine el_mW zs v hi w hG hz fun i z x H1 H2 hi e y => ?_
  obtain ⟨rfl, hx'⟩ := y
  exact ⟨_, Ex.refl _, fun Q q => q _ (Ex.refl _), hw _, he i z x _ hi e (m z H _ x e (hal.2 i z x hi hx'))⟩
theorem el_mA {α : Type} {R : α → Hp → V → Prop} (m : Mono R) {p : Addr} {zs : List α} {ys : List V} {j : Nat} {vs : List Nat} (v : α → V) (h : Ev ta σ H (.ref p)) (hs : SqL K H p ys) (hal : Al R zs ys H) (hz : zs.length ≤ 50000)
    (hw : ∀ x, wipe ((wipe σ vs).set j (some x)) vs = wipe σ vs) (he : ∀ (i : Nat) (z : α) (x : V) (H1 : Hp), zs[i]? = some z → Ex H H1 → R z H1 x → Ev te ((wipe σ vs).set j (some x)) H1 (v z)) : EvL (tLc (iList K ta) (gName j) tYes te vs) σ H (zs.map v) :=
  el_mWA m v (ei_list h hs) walk_list (fun _ _ e g => ex_l e g) hal hz hw he
theorem ei_tup {p : Addr} {xs : List V} (h : Ev ta σ H (.ref p)) (hx : SqT K H p xs) : EvI (iTup K ta) σ H (Itt K p) (fun H => SqT K H p xs) :=
  fun H1 e R q => h H1 e _ fun H2 e2 => ⟨p, rfl, ⟨xs, ex_t (e.trans e2) hx⟩, q H2 e2 (ex_t (e.trans e2) hx)⟩
/-- .. over a tuple made on the way -/
theorem el_mAT {α : Type} {R : α → Hp → V → Prop} (m : Mono R) {zs : List α} {j : Nat} {vs : List Nat} (v : α → V) (h : EvP ta σ H (fun _ v H2 => ∃ p ys, v = .ref p ∧ H2 p = some (.tup ys) ∧ Al R zs ys H2)) (hz : zs.length ≤ 50000)
    (hw : ∀ x, wipe ((wipe σ vs).set j (some x)) vs = wipe σ vs) (he : ∀ (i : Nat) (z : α) (x : V) (H1 : Hp), zs[i]? = some z → Ex H H1 → R z H1 x → Ev te ((wipe σ vs).set j (some x)) H1 (v z)) : EvL (tLc (iTup K ta) (gName j) tYes te vs) σ H (zs.map v) := fun H0 e Q q => h H0 e _ fun v0 H1 e1 ⟨p, ys, hv, hp, hal⟩ => by
  subst hv
  have hh : Ev (fun _ H2 Q2 => Q2 (.ref p) H2) σ H1 (.ref p) := fun H2 _ _ k => k H2 (Ex.refl H2)
  have hr := el_mWA (te := te) (σ := σ) (H := H1) (j := j) (vs := vs) m v (ei_tup (K := K) (ta := fun _ H2 Q2 => Q2 (.ref p) H2) hh (st_of hp)) walk_tup (fun _ _ e g => ex_t e g) hal hz hw fun i z x H2 hz e2 hR => he i z x H2 hz ((e.trans e1).trans e2) hR
  exact hr H1 (Ex.refl H1) Q fun p H2 n e2 hp => q p H2 (fresh_back e1 n) (e1.trans e2) hp
theorem ep_mT {α : Type} {j : Nat} {vs : List Nat} (E : Addr → α → V → Hp → Prop) (hE : ∀ D z v Ha Hb, E D z v Ha → ExO D Ha Hb → E D z v Hb) (zs : List α) (c : α → V) (h : EvU ta σ H (zs.map c)) (hz : zs.length ≤ 50000)
    (hw : ∀ x, wipe ((wipe σ vs).set j (some x)) vs = wipe σ vs) (he : ∀ (i : Nat) (z : α) (H1 : Hp), zs[i]? = some z → Ex H H1 → ∀ D, H1 D ≠ none → EvP te ((wipe σ vs).set j (some (c z))) H1 (fun _ v Hb => E D z v Hb)) :
    EvP (tLc (iTup K ta) (gName j) tYes te vs) σ H (fun _ v H2 => ∃ p ys, v = .ref p ∧ H2 p = some (.lst ys) ∧ ys.length = zs.length ∧ ∀ (j : Nat) (z : α) (y : V), zs[j]? = some z → ys[j]? = some y → E p z y H2) := fun H0 e Q q => h H0 e _ fun p H1 np e1 hp => by
  have w := walk_tup (K := K) (a := p) (xs := zs.map c)
  rw [List.length_map] at w
  have hh : Ev (fun _ H2 Q2 => Q2 (.ref p) H2) σ H1 (.ref p) := fun H2 _ _ k => k H2 (Ex.refl H2)
  have r := ep_lcW (tt := tYes) (te := te) (σ := σ) (H := H1) (g := gName j) (vs := vs) E hE zs (fun _ => true) (ei_tup (K := K) (ta := fun _ H2 Q2 => Q2 (.ref p) H2) hh (st_of hp)) w (fun _ _ e g => ex_t e g) hz fun i z x H2 H3 hi e2 y => by
    obtain ⟨rfl, hx'⟩ := y
    rw [List.getElem?_map, hi] at hx'
    have ex : c z = x := Option.some.inj hx'
    subst ex
    exact ⟨_, Ex.refl _, fun Q q => q _ (Ex.refl _), hw _, et_yes, fun _ D hD => he i z _ hi ((e.trans e1).trans e2) D hD⟩
  rw [filt_true] at r
  exact r H1 (Ex.refl H1) Q fun v H2 e2 ⟨p2, ys, g1, _, g3, g4, g5⟩ => q v H2 (e1.trans e2) ⟨p2, ys, g1, g3, g4, g5⟩
/-! ### the law's steps -/
theorem ep_words1 {pw : Webs} {P : Hp → V → Hp → Prop} (h : EvP te σ H P) (hP : ∀ H1 v H2, Ex H H1 → Ex H1 H2 → P H1 v H2 → ∃ p, v = .ref p ∧ LL K H2 p pw) (ok : Ok60 pw) : EvP (tCall (sp_words K) [] E0 (tCons te tNil)) σ H (fun _ v H2 => ∃ p, v = .ref p ∧ SqL K H2 p ((wordsM pw).map fv)) :=
  fun H1 e Q q => h H1 e _ fun v H2 e2 p => by
    obtain ⟨wa, rfl, hll⟩ := hP H1 v H2 e e2 p
    exact ⟨(wa, pw), ⟨rfl, hll, ok⟩, fun v H3 e3 ⟨p, h1, _, h3⟩ => q v H3 (e2.trans e3) ⟨p, h1, sq_of h3⟩⟩
theorem ep_prod2 {w1 w2 : Webs} {P1 P2 : Hp → V → Hp → Prop} (h1 : EvP ta σ H P1) (hP1 : ∀ H1 v H2, Ex H H1 → Ex H1 H2 → P1 H1 v H2 → ∃ p, v = .ref p ∧ LL K H2 p w1) (h2 : EvP tb σ H P2) (hP2 : ∀ H1 v H2, Ex H H1 → Ex H1 H2 → P2 H1 v H2 → ∃ p, v = .ref p ∧ LL K H2 p w2) (ok1 : Ok60 w1) (ok2 : Ok60 w2) (hs : w1.length + w2.length ≤ 62) (hm : w1.length * w2.length ≤ 60) :
    EvP (tCall (sp_prod K) [] E0 (tCons ta (tCons tb tNil))) σ H (fun _ v H2 => ∃ p, v = .ref p ∧ LL K H2 p (prodW w1 w2)) :=
  fun H1 e Q q => h1 H1 e _ fun v H2 e2 p => h2 H2 (e.trans e2) _ fun v2 H3 e3 p2 => by
    obtain ⟨wa, rfl, hl1⟩ := hP1 H1 v H2 e e2 p
    obtain ⟨wb, rfl, hl2⟩ := hP2 H2 v2 H3 (e.trans e2) e3 p2
    exact ⟨((wa, w1), (wb, w2)), ⟨rfl, hl1.mono e3, ok1, hl2, ok2, hs, hm⟩, fun v H4 e4 ⟨p, as, g1, _, g3⟩ => q v H4 ((e2.trans e3).trans e4) ⟨p, g1, g3.ll⟩⟩
theorem ev_aright {wa : Addr} {web pw : Webs} {k : Nat} {sts : List (List Nat)} (hw : Ev ta σ H (.ref wa)) (hll : LL K H wa web) (hs : EvP tb σ H (fun _ v H2 => ∃ p ys, v = .ref p ∧ SqL K H2 p ys ∧ Al (StR K) sts ys H2)) (hwd : EvP tc σ H (fun _ v H2 => ∃ p, v = .ref p ∧ SqL K H2 p ((wordsM pw).map fv))) (wd : Wds web pw k) (hall : ∀ st ∈ sts, OkSt web st ∧ st.length = k) :
    Ev (tCall (sp_aright K) [] E0 (tCons ta (tCons tb (tCons tc tNil)))) σ H (.bl true) :=
  fun H1 e Q q => hw H1 e _ fun H2 e2 => hs H2 (e.trans e2) _ fun v H3 e3 ⟨p, ys, hv, hp, hal⟩ => hwd H3 ((e.trans e2).trans e3) _ fun v2 H4 e4 ⟨p2, hv2, hp2⟩ => by
    subst hv hv2
    exact ⟨((wa, web), (p, sts), (p2, pw, k)), ⟨rfl, hll.mono (((e.trans e2).trans e3).trans e4), ⟨ys, ex_l e4 hp, hal.mono stR_mono e4⟩, hp2, wd, hall⟩, fun v H5 e5 r => by
      rw [show v = _ from r]
      exact q H5 (((e2.trans e3).trans e4).trans e5)⟩
theorem al_rows {α : Type} {f : α → List Nat} {p : Addr} {zs : List α} {ys : List V} {Hx : Hp} (hl : ys.length = zs.length) (h : ∀ (j : Nat) (z : α) (y : V), zs[j]? = some z → ys[j]? = some y → NewRow (fun z => (f z).map nv) p z y Hx) : Al (StR K) (zs.map f) ys Hx := ⟨by rw [List.length_map]; exact hl, fun i st v h1 h2 => by
  rw [List.getElem?_map] at h1
  cases hz : zs[i]? with
  | none => rw [hz] at h1; cases h1
  | some z =>
    rw [hz] at h1
    cases h1
    obtain ⟨r, g1, _, g3⟩ := h i z v hz h2
    exact ⟨r, g1, sq_of g3⟩⟩
/-- an answer as an item -/
def AnI (L W E : Addr) (z : Option Bool × Int × Int) (H : Hp) (v : V) : Prop := ∃ x, v = .ref x ∧ Ins H x (clsOf L W E z.1) (fOf z.1 z.2.1 z.2.2)
theorem anI_mono : Mono (AnI L W E) := fun _ _ _ _ e ⟨x, h1, h2⟩ => ⟨x, h1, h2.mono e⟩
theorem ep_anI {b : Option Bool} {s p : Int} (h : EvP te σ H (MadA L W E b s p)) : EvP te σ H (fun _ v H2 => AnI L W E (b, s, p) H2 v) := h
theorem ep_anV {z : Option Bool × Int × Int} (h : Ev te σ H x) (hx : AnI L W E z H x) : EvP te σ H (fun _ v H2 => AnI L W E z H2 v) := (EvP.of h).imp fun H1 v H2 e1 e2 hv => by
  subst hv
  exact anI_mono _ _ _ _ (e1.trans e2) hx
/-- a drawn web of at most n places -/
def WebN (K : PySem.W.Frag) (n : Nat) (H : Hp) (v : V) : Prop := ∃ p web, v = .ref p ∧ LL K H p web ∧ Good web ∧ 1 ≤ web.length ∧ web.length ≤ n
theorem ep_webN {P : Hp → V → Hp → Prop} {tl ts : TE} {tb2 : TE} {xs : List Int} {n b : Nat} (h : EvP tl σ H P) (hP : ∀ H1 v H2, Ex H H1 → Ex H1 H2 → P H1 v H2 → ∃ p, v = .ref p ∧ SqL K H2 p (xs.map V.int)) (hs : EvP ts σ H (fun _ v _ => ∃ r : Nat, 1 ≤ r ∧ r ≤ n ∧ v = nv r)) (hb : Ev tb2 σ H (nv b)) (hn : n ≤ 60) (hbl : b ≤ 10) :
    EvP (tCall (sp_web K) [] E0 (tCons tl (tCons ts (tCons tb2 tNil)))) σ H (fun _ v H2 => WebN K n H2 v) :=
  fun H1 e Q q => h H1 e _ fun v H2 e2 p => hs H2 (e.trans e2) _ fun v2 H3 e3 ⟨r, hr1, hr2, hr3⟩ => hb H3 ((e.trans e2).trans e3) _ fun H4 e4 => by
    obtain ⟨la, rfl, hla⟩ := hP H1 v H2 e e2 p
    subst hr3
    exact ⟨(la, xs, r, b), ⟨rfl, ex_l (e3.trans e4) hla, hr1, by dsimp only; omega, hbl⟩, fun v H5 e5 ⟨q1, web, g1, _, g2, g3, g4⟩ => q v H5 (((e2.trans e3).trans e4).trans e5) ⟨q1, web, g1, g2, g3, by dsimp only at g4; omega, by dsimp only at g4; omega⟩⟩
theorem q_par3 {i j l : Nat} {P1 P2 P3 : Hp → V → Hp → Prop} (h1 : EvP ta σ H P1) (h2 : EvP tb σ H P2) (h3 : EvP tc σ H P3) (k : ∀ u v w H1 H2 H3, Ex H H1 → Ex H1 H2 → Ex H2 H3 → P1 H u H1 → P2 H1 v H2 → P3 H2 w H3 → tz D (((σ.set i (some u)).set j (some v)).set l (some w)) H3) : tSeq (tPar3 i j l (tCons ta (tCons tb (tCons tc tNil)))) tz D σ H :=
  h1 H (Ex.refl H) _ fun u H1 e1 p1 => h2 H1 e1 _ fun v H2 e2 p2 => h3 H2 (e1.trans e2) _ fun w H3 e3 p3 => ⟨u, v, w, rfl, k u v w H1 H2 H3 e1 e2 e3 p1 p2 p3⟩
/-- [[..] up to n, and rows behind] -/
theorem ep_great {j : Nat} (hl : j < σ.length) (hwp : ∀ x, wipe ((wipe σ [j]).set j (some x)) [j] = wipe σ [j]) : EvP (tOp rCat (tLc (iRng1 (tCons (tC (.int 40)) tNil)) (gName j) tYes (tLstRg (tRg1 (tVar j))) [j]) (tLst (tCons (tLst (tCons (tC (.int 0)) (tCons (tC (.int 5)) (tCons (tC (.int 39)) (tCons (tC (.int 40)) tNil))))) tNil))) σ H (fun _ v H2 => ∃ p as, v = .ref p ∧ MW p as greatW H2) := fun Ha ea Qx qx => by
  refine ep_upW (H := Ha) (n := 40) (by decide) hl hwp ev_c Ha (Ex.refl Ha) _ fun v Hb eb ⟨p, as, hv, np, mw, hf⟩ => ?_
  subst hv
  refine (ew_disp (rows := [[0, 5, 39, 40]]) (er_cons (row := [0, 5, 39, 40]) (el_lst (ea_cons ev_c (ea_cons ev_c (ea_cons ev_c (ea_cons ev_c ea_nil)))) (show 4 ≤ 100000 by decide)) er_nil) (show 1 ≤ 1000 by decide)) Hb (ea.trans eb) _ fun w Hc ec ⟨p2, as2, hw', _, mw2, _, hf2⟩ => ?_
  subst hw'
  exact ⟨p, p2, as.map V.ref, as2.map V.ref, rfl, rfl, (mw.ex ec).top, mw2.top, sz_of (by rw [List.length_map, List.length_map, mw.len, mw2.len, upW_len]; decide), fun r hr => qx _ _ ((eb.trans ec).trans (Ex.new hr)) ⟨r, as ++ as2, rfl, mw_cat (mw.ex ec) mw2 hr⟩⟩
end
theorem sh_bools (bs : List Bool) : Sh 1 (.list (bs.map PyData.bool)) := sh_list (sh_map fun _ => sh_bool _)
theorem sGr (z : Option Bool × Int × Int) (st : List Nat) : shown z.1 greatW st (.int z.2.1) (.int z.2.2) = (match z.1 with
  | some true => decide (wordM greatW ((List.range 40).map some ++ List.replicate 1 none) st = some true)
  | some false => match pushM greatW st (.int z.2.1) (.int z.2.2) with
    | some st' => decide (wordM greatW ((List.range 40).map some ++ List.replicate 1 none) st' = some true)
    | none => false
  | none => match pushM greatW st (.int z.2.1) (.int z.2.2) with
    | some st' => decide (wordM greatW ((List.range 40).map some ++ List.replicate 1 none) st = none) && decide (wordM greatW ((List.range 40).map some ++ List.replicate 1 none) st' = none)
    | none => false) := by
  obtain ⟨b, s, p⟩ := z
  rcases b with _ | _ | _
  · show showE greatW st (.int s) (.int p) = _
    unfold showE
    simp only [wGr]
    all_goals (cases pushM greatW st (.int s) (.int p) <;> rfl)
  · show showW greatW st (.int s) (.int p) = _
    unfold showW
    simp only [wGr]
    all_goals (cases pushM greatW st (.int s) (.int p) <;> rfl)
  · show decide (wrd greatW st = some true) = _
    rw [wGr]
theorem f9 : ([(none, 0, 40), (none, 1, 6), (none, 1, 5), (none, 0, 0), (some false, 0, 39)] : List (Option Bool × Int × Int)).map (fun z => shown z.1 greatW [40, 38] (.int z.2.1) (.int z.2.2)) = [true, true, false, false, false] := by
  simp only [sGr]
  decide +kernel
theorem nats_of {n : Nat} : ∀ {ys : List V}, (∀ y ∈ ys, ∃ r : Nat, r < n ∧ y = nv r) → ∃ st : List Nat, ys = st.map nv ∧ ∀ x ∈ st, x < n
  | [], _ => ⟨[], rfl, fun _ h => nomatch h⟩
  | y :: t, h => by
    obtain ⟨st, e, h2⟩ := nats_of (ys := t) fun z hz => h z (List.mem_cons_of_mem _ hz)
    obtain ⟨r, hr, e'⟩ := h y (List.mem_cons_self ..)
    refine ⟨r :: st, by rw [e, e']; rfl, fun x hx => ?_⟩
    rcases List.mem_cons.mp hx with rfl | hx
    · exact hr
    · exact h2 x hx
def shZ (rows : Webs) (st : List Nat) (z : Option Bool × Int × Int) : Bool := shown z.1 rows st (.int z.2.1) (.int z.2.2)
section
variable {K : PySem.W.Frag} {mg : Str → Option Value} {L W E : Addr} {σ : L2.St} {H H' : Hp} {ta tb tc td te ty tx : TE}
theorem ev_shsD {tl : TE} {rows : Webs} {st : List Nat} {z : Option Bool × Int × Int} {x : V} {Pw : Hp → V → Hp → Prop} (hx : AnI L W E z H x) (h : Ev ta σ H x) (hw : EvP te σ H Pw) (hP : ∀ H1 v H2, Ex H H1 → Ex H1 H2 → Pw H1 v H2 → ∃ wa, v = .ref wa ∧ LL K H2 wa rows) (ok : Ok60 rows) (hl : EvL tl σ H (st.map nv)) (okS : OkSt rows st) : Ev (tShs K L W E ta (tCons te (tCons tl tNil))) σ H (.bl (shZ rows st z)) := by
  obtain ⟨xa, rfl, hi⟩ := hx
  exact ev_shsG z.1 (EvP.of h) (fun Ha v Hb ea eb hv => ⟨xa, hv, hi.mono (ea.trans eb)⟩) (eap_ws hw hP ok hl okS) (fun _ _ _ _ _ h => h)
/-- made on the spot -/
theorem ev_shsM {tl : TE} {rows : Webs} {st : List Nat} {b : Option Bool} {s p : Int} {Pw : Hp → V → Hp → Prop} (h : EvP ta σ H (MadA L W E b s p)) (hw : EvP te σ H Pw) (hP : ∀ H1 v H2, Ex H H1 → Ex H1 H2 → Pw H1 v H2 → ∃ wa, v = .ref wa ∧ LL K H2 wa rows) (ok : Ok60 rows) (hl : EvL tl σ H (st.map nv)) (okS : OkSt rows st) : Ev (tShs K L W E ta (tCons te (tCons tl tNil))) σ H (.bl (shZ rows st (b, s, p))) :=
  ev_shsG b h (fun _ _ _ _ _ h => h) (eap_ws hw hP ok hl okS) (fun _ _ _ _ _ h => h)
theorem ed_shs {zs : List (Option Bool × Int × Int)} {rows : Webs} {st : List Nat} (h : EvL te σ H (zs.map fun z => V.bl (shZ rows st z))) {bs : List Bool} (hb : zs.map (shZ rows st) = bs) : EvD K te σ H (.list (bs.map PyData.bool)) := by
  refine ed_LB (el_is h ?_)
  rw [← hb, List.map_map]
  rfl
end
end Sr
set_option Elab.async false
set_option linter.all false
set_option maxRecDepth 100000
set_option maxHeartbeats 4000000
/-! SrR: all settings one after another; loops that change lists of their own. -/
namespace Sr
open PySem PySem.Spec PyProof.Rows L2 Evl
/-! ### all settings of k stones -/
def growS (n : Nat) (zs : List (List Nat)) : List (List Nat) := zs.flatMap fun s => (List.range n).map fun p => s ++ [p]
def allS (n : Nat) : Nat → List (List Nat)
  | 0 => [[]]
  | k + 1 => growS n (allS n k)
theorem mem_allS {n : Nat} : ∀ {k : Nat} {st : List Nat}, st ∈ allS n k → st.length = k ∧ ∀ p ∈ st, p < n
  | 0, st, h => by
    rw [List.mem_singleton.mp h]
    exact ⟨rfl, fun _ h => nomatch h⟩
  | k + 1, st, h => by
    obtain ⟨s, hs, h2⟩ := List.mem_flatMap.mp h
    obtain ⟨p, hp, rfl⟩ := List.mem_map.mp h2
    obtain ⟨h3, h4⟩ := mem_allS hs
    refine ⟨by rw [List.length_append, h3]; rfl, fun x hx => ?_⟩
    rcases List.mem_append.mp hx with hx | hx
    · exact h4 x hx
    · rw [List.mem_singleton.mp hx]
      exact List.mem_range.mp hp
theorem growS_len (n : Nat) : ∀ zs : List (List Nat), (growS n zs).length = zs.length * n
  | [] => by simp [growS]
  | z :: r => by
    show (((List.range n).map fun p => z ++ [p]) ++ growS n r).length = _
    rw [List.length_append, growS_len n r, List.length_map, List.length_range, List.length_cons, Nat.add_mul]
    omega
theorem allS_len (n : Nat) : ∀ k, (allS n k).length = n ^ k
  | 0 => rfl
  | k + 1 => by
    show (growS n (allS n k)).length = _
    rw [growS_len, allS_len n k, Nat.pow_succ]
theorem allS_one (n : Nat) : allS n 1 = (List.range n).map fun p => [p] := by
  show growS n [[]] = _
  unfold growS
  rw [List.flatMap_singleton]
  rfl
theorem growS_take {n : Nat} {zs : List (List Nat)} {i : Nat} {z : List Nat} (h : zs[i]? = some z) : growS n (zs.take (i + 1)) = growS n (zs.take i) ++ (List.range n).map fun p => z ++ [p] := by
  unfold growS
  rw [take_snoc h, List.flatMap_append, List.flatMap_singleton]
def powW (web : Webs) : Nat → Webs
  | 0 => web
  | k + 1 => prodW (powW web k) web
theorem powW_len (web : Webs) : ∀ k, (powW web k).length = web.length ^ (k + 1)
  | 0 => (Nat.pow_one _).symm
  | k + 1 => by
    show (prodW (powW web k) web).length = _
    rw [prodW_len, powW_len web k, ← Nat.pow_succ]
theorem pow_mono {n : Nat} (hn : 1 ≤ n) : ∀ {i j : Nat}, i ≤ j → n ^ i ≤ n ^ j := fun h => Nat.pow_le_pow_right hn h
theorem powW_wds {web : Webs} (ok : Ok60 web) : ∀ k, web.length ^ (k + 1) ≤ 60 → Wds web (powW web k) (k + 1)
  | 0, _ => Wds.one ok
  | k + 1, h => Wds.succ (powW_wds ok k (Nat.le_trans (pow_mono ok.pos (by omega)) h)) (by rw [powW_len, ← Nat.pow_succ]; exact h)
/-! ### stones as a list of their own -/
def StL (st : List Nat) (H : Hp) (v : V) : Prop := ∃ r, v = .ref r ∧ H r = some (.lst (st.map nv))
theorem stL_mono : Mono StL := fun _ _ _ _ e ⟨r, h1, h2⟩ => ⟨r, h1, e _ _ h2⟩
/-- .. that is not D -/
def StD (D : Addr) (st : List Nat) (H : Hp) (v : V) : Prop := ∃ r, v = .ref r ∧ r ≠ D ∧ H r = some (.lst (st.map nv))
theorem stD_mono {D : Addr} : Mono (StD D) := fun _ _ _ _ e ⟨r, h1, h2, h3⟩ => ⟨r, h1, h2, e _ _ h3⟩
theorem StD.upd {D : Addr} {st : List Nat} {H : Hp} {v : V} {o : HO} (h : StD D st H v) : StD D st (upd H D o) v := by
  obtain ⟨r, h1, h2, h3⟩ := h
  exact ⟨r, h1, h2, by rw [upd_ne h2]; exact h3⟩
theorem Al.stD {D : Addr} {zs : List (List Nat)} {ys : List V} {H : Hp} {o : HO} (h : Al (StD D) zs ys H) : Al (StD D) zs ys (upd H D o) := ⟨h.1, fun i z v h1 h2 => (h.2 i z v h1 h2).upd⟩
theorem Al.ofD {D : Addr} {zs : List (List Nat)} {ys : List V} {H : Hp} (h : Al (StD D) zs ys H) : Al StL zs ys H := ⟨h.1, fun i z v h1 h2 => by
  obtain ⟨r, g1, _, g3⟩ := h.2 i z v h1 h2
  exact ⟨r, g1, g3⟩⟩
theorem Al.imp {α : Type} {R R' : α → Hp → V → Prop} {zs : List α} {ys : List V} {H : Hp} (h : Al R zs ys H) (i : ∀ z v, R z H v → R' z H v) : Al R' zs ys H := ⟨h.1, fun k z v h1 h2 => i z v (h.2 k z v h1 h2)⟩
/-! ### all but some stays -/
def ExB (S : List Addr) (H H' : Hp) : Prop := ∀ a o, a ∉ S → H a = some o → H' a = some o
theorem ExB.of {S : List Addr} {H H' : Hp} (e : Ex H H') : ExB S H H' := fun a o _ h => e a o h
theorem ExB.trans {S : List Addr} {H H1 H2 : Hp} (a : ExB S H H1) (b : ExB S H1 H2) : ExB S H H2 := fun x o n h => b x o n (a x o n h)
theorem ExB.upd {S : List Addr} {D : Addr} {H : Hp} {o : HO} (hD : D ∈ S) : ExB S H (upd H D o) := fun a u n h => by
  have : a ≠ D := fun z => n (by rw [z]; exact hD)
  rw [upd_ne this]
  exact h
def MonoB {α : Type} (S : List Addr) (R : α → Hp → V → Prop) : Prop := ∀ z H H' v, ExB S H H' → R z H v → R z H' v
section
variable {K : PySem.W.Frag} {mg : Str → Option Value} {L W E : Addr} {σ : L2.St} {H H' : Hp} {ta tb tc td te ty tx : TE} {t u : TT} {x y z v : V} {r : R2} {D : Ends} {tu tw tz : TS} {g : TG} {C a : Addr} {fs : List (Str × V)}
/-- a for over a made tuple; the lists of S are changed in the loop -/
theorem s_forATb {α : Type} {S : List Addr} {R : α → Hp → V → Prop} {zs : List α} {tl : TE} (m : MonoB S R) (h : EvP tl σ H (fun _ v H2 => ∃ p ys, v = .ref p ∧ p ∉ S ∧ H2 p = some (.tup ys) ∧ Al R zs ys H2)) (Pv : Hp → Nat → L2.St → Hp → Prop) (hx : ∀ Hb i σ' H', Pv Hb i σ' H' → ExB S Hb H') (h0 : ∀ Hb, Ex H Hb → Pv Hb 0 σ Hb)
    (hs : ∀ Hb i z x σ' H', Ex H Hb → zs[i]? = some z → R z H' x → Pv Hb i σ' H' → g x σ' H' fun σ2 H2 => tu { D with nx := Pv Hb (i + 1), ct := Pv Hb (i + 1), bk := D.nx } σ2 H2) (hd : ∀ Hb σ' H', Ex H Hb → Pv Hb zs.length σ' H' → D.nx σ' H') : tFor (iTup K tl) g tu D σ H :=
  h H (Ex.refl H) _ fun v H1 e ⟨p, ys, hv, hpS, h1, ha⟩ => by
    subst hv
    refine ⟨p, rfl, ⟨ys, st_of h1⟩, for_tup (Pv H1) (h0 H1 e) (fun i σ' H' _ pv => st_of (hx H1 i σ' H' pv p _ hpS h1)) (fun i x σ' H' hi pv => ?_) (fun σ' H' pv => hd H1 σ' H' e (by rw [← ha.1]; exact pv))⟩
    obtain ⟨z, hz, hr⟩ := ha.at hi
    exact hs H1 i z x σ' H' e hz (m z H1 H' x (hx H1 i σ' H' pv) hr) pv
/-- o[i] = v as a part of a target -/
theorem g_sub {l : Addr} {xs : List V} {j : Nat} {Q : L2.St → Hp → Prop} (ho : Ev ta σ H (.ref l)) (hi : Ev tb σ H (nv j)) (hl : H l = some (.lst xs)) (hj : j < xs.length) (k : ∀ H1, Ex H H1 → Q σ (upd H1 l (.lst (xs.set j v)))) : gSub ta tb rSetL v σ H Q :=
  ho H (Ex.refl H) _ fun H1 e1 => hi H1 e1 _ fun H2 e2 => ⟨l, xs, (j : Int), j, rfl, rfl, (e1.trans e2) l _ hl, ixN_nat hj, k H2 (e1.trans e2)⟩
theorem ev_idxL {ys : List V} {j : Nat} (ha : EvL ta σ H ys) (hb : Ev tb σ H y) (fy : flatV y = true) (fys : ys.all flatV = true) (hj : ys[j]? = some z) (hz : eqV z y = true) (hno : ∀ (m : Nat) (z' : V), m < j → ys[m]? = some z' → eqV z' y = false) : Ev (tBM K "list" (rIndex K) ta (tCons tb tNil)) σ H (nv j) :=
  fun H1 e Q q => ha H1 e _ fun p H2 np e2 hp => ⟨Or.inl ⟨rfl, ys, sq_of hp⟩, hb H2 (e.trans e2) _ fun H3 e3 => ⟨p, ys, y, j, z, rfl, rfl, sq_of (e3 _ _ hp), fy, fys, hj, hz, hno, q H3 (e2.trans e3)⟩⟩
/-- [list(r) for r in web], all new -/
theorem ep_copyF {a : Addr} {web : List (List Nat)} {tl : TE} {j : Nat} {vs : List Nat} (h : Ev tl σ H (.ref a)) (hx : LL K H a web) (hz : web.length ≤ 1000) (hw : ∀ x, wipe ((wipe σ vs).set j (some x)) vs = wipe σ vs) (hj : j < σ.length) :
    EvP (tLc (iList K tl) (gName j) tYes (tCB (rListS K) (tCons (tVar j) tNil)) vs) σ H (fun H1 v H2 => ∃ p as, v = .ref p ∧ H1 p = none ∧ MW p as web H2 ∧ ∀ r ∈ as, H r = none) := by
  obtain ⟨as, h1, h2, h3⟩ := hx
  have r := ep_m (K := K) (te := tCB (rListS K) (tCons (tVar j) tNil)) (vs := vs) (j := j) (NewRowF H (fun z : Addr × List Nat => z.2.map nv)) newRowF_st (as.zip web) (fun z => .ref z.1) h (by
      rw [show (as.zip web).map (fun z => V.ref z.1) = ((as.zip web).map Prod.fst).map V.ref by rw [List.map_map]; rfl, List.map_fst_zip (by omega)]
      exact h1) (by rw [List.length_zip]; omega) hw fun i z H1 hi e D hD => by
    rw [List.getElem?_zip_eq_some] at hi
    have hv : Ev (tVar j) ((wipe σ vs).set j (some (.ref z.1))) H1 (.ref z.1) := ev_var (List.getElem?_set_self (by rw [wipe_length]; exact hj))
    exact EvL.newRowF (H0 := H) (row := fun z : Addr × List Nat => z.2.map nv) e (el_list hv (ex_l e (h3 i z.1 z.2 hi.1 hi.2))) hD
  refine r.imp fun H1 v H2 _ _ ⟨p, ys, g1, g2, g3, g4, g5⟩ => ?_
  rw [List.length_zip] at g4
  obtain ⟨as', m, hf⟩ := mw_of_rowsF (web := web) (H0 := H) g3 (by omega) fun k row y hk hy => by
    have hlt := (List.getElem?_eq_some_iff.mp hk).1
    have hak : as[k]? = some (as[k]'(by omega)) := List.getElem?_eq_getElem _
    obtain ⟨r, e1, e2, e3, e4⟩ := g5 k (as[k]'(by omega), row) y (List.getElem?_zip_eq_some.mpr ⟨hak, hk⟩) hy
    exact ⟨r, e1, e2, e3, e4⟩
  exact ⟨p, as', g1, g2, m, hf⟩
end
def sp_right4 (K : PySem.W.Frag) : Sp := spOf (α := (Addr × Webs) × (Addr × List Nat) × (Addr × Webs × Nat)) (fun a vs H => vs = [.ref a.1.1, .ref a.2.1.1, .ref a.2.2.1] ∧ WS K H a.1.1 a.1.2 a.2.1.1 a.2.1.2 ∧ SqL K H a.2.2.1 ((wordsM a.2.2.2.1).map fv) ∧ Wds a.1.2 a.2.2.2.1 a.2.2.2.2 ∧ a.2.1.2.length = a.2.2.2.2) (fun _ _ v _ => v = .bl true)
def sp_aright4 (K : PySem.W.Frag) : Sp := spOf (α := (Addr × Webs) × Nat) (fun a vs H => vs = [.ref a.1.1, nv a.2] ∧ LL K H a.1.1 a.1.2 ∧ Ok60 a.1.2 ∧ 1 ≤ a.2 ∧ a.2 ≤ 20 ∧ a.1.2.length ^ a.2 ≤ 40 ∧ a.1.2.length ≤ 20) (fun _ _ v _ => v = .bl true)
theorem MW.exO {p D : Addr} {as : List Addr} {web : List (List Nat)} {H H' : Hp} (m : MW p as web H) (hp : p ≠ D) (hr : ∀ r ∈ as, r ≠ D) (e : ExO D H H') : MW p as web H' :=
  ⟨e _ _ hp m.top, m.len, fun j r row h1 h2 => ⟨(m.row j r row h1 h2).1, e _ _ (hr r (List.mem_of_getElem? h1)) (m.row j r row h1 h2).2⟩⟩
/-- (stones, number) as an item, none of S -/
def StNb (S : List Addr) (st : List Nat × Nat) (H : Hp) (v : V) : Prop := ∃ p r, v = .ref p ∧ p ∉ S ∧ r ∉ S ∧ H p = some (.tup [.ref r, nv st.2]) ∧ H r = some (.lst (st.1.map nv))
theorem stNb_monoB {S : List Addr} : MonoB S (StNb S) := fun _ _ _ _ e ⟨p, r, h1, h2, h3, h4, h5⟩ => ⟨p, r, h1, h2, h3, e _ _ h2 h4, e _ _ h3 h5⟩
theorem stNb_mono {S : List Addr} : Mono (StNb S) := fun z H H' v e h => stNb_monoB z H H' v (ExB.of e) h
section
variable {K : PySem.W.Frag} {mg : Str → Option Value} {L W E : Addr} {σ : L2.St} {H H' : Hp} {ta tb tc td te ty tx : TE}
theorem ep_stNb {S : List Addr} {st : List Nat} {k : Nat} (hS : ∀ a ∈ S, H a ≠ none) (h : EvL ta σ H (st.map nv)) (hk : Ev tb σ H (nv k)) : EvP (tTup (tCons ta (tCons tb tNil))) σ H (fun _ v H2 => StNb S (st, k) H2 v) := fun H1 e Q q =>
  h H1 e _ fun r H2 nr e2 hr => hk H2 (e.trans e2) _ fun H3 e3 => ⟨sz_of (show 2 ≤ 100000 by decide), fun p np => q _ _ ((e2.trans e3).trans (Ex.new np)) (by
    refine ⟨p, r, rfl, fun z => ?_, fun z => ?_, upd_same, Ex.new np _ _ (e3 _ _ hr)⟩
    · cases hd : H p with
      | none => exact hS p z hd
      | some o =>
        rw [((e.trans e2).trans e3) _ _ hd] at np
        cases np
    · cases hd : H r with
      | none => exact hS r z hd
      | some o =>
        rw [e _ _ hd] at nr
        cases nr)⟩
end
end Sr
set_option Elab.async false
set_option linter.all false
set_option maxRecDepth 100000
set_option maxHeartbeats 4000000
/-! SrH: what is no web, no stones, no place; doors that refuse; asked by a local name; a def that is handed the refusal. -/
namespace Sr
open PySem PySem.Spec PyProof.Rows L2 Evl
/-! ### things -/
/-- a thing of a known kind (true: a list), none of S -/
inductive Lf (S : List Addr) (H : Hp) : Bool → V → Prop
  | non : Lf S H false .non
  | bl (b : Bool) : Lf S H false (.bl b)
  | int (i : Int) : Lf S H false (.int i)
  | str (x : Str) : Lf S H false (.str x)
  | lst {a : Addr} {xs : List V} (ha : a ∉ S) (h : H a = some (.lst xs)) : Lf S H true (.ref a)
  | tup {a : Addr} {xs : List V} (ha : a ∉ S) (h : H a = some (.tup xs)) : Lf S H false (.ref a)
  | dct {a : Addr} {kvs : List (Key × V)} (ha : a ∉ S) (h : H a = some (.dK kvs)) : Lf S H false (.ref a)
section
variable {K : PySem.W.Frag} {S S' : List Addr} {H H' : Hp} {b : Bool} {v : V}
theorem Lf.typ (h : Lf S H b v) : Typ K H v := by
  cases h with
  | non => exact .non
  | bl b => exact .bl b
  | int i => exact .int i
  | str x => exact .str x
  | lst _ h => exact .lst (sq_of h)
  | tup _ h => exact .tup (st_of h)
  | dct _ h => exact .dct h
theorem Lf.nol (h : Lf S H false v) : NoL K H v := by
  cases h with
  | non => exact .non
  | bl b => exact .bl b
  | int i => exact .int i
  | str x => exact .str x
  | tup _ h => exact .tup (st_of h)
  | dct _ h => exact .dct h
theorem Lf.monoB (e : ExB S H H') (h : Lf S H b v) : Lf S H' b v := by
  cases h with
  | non => exact .non
  | bl b => exact .bl b
  | int i => exact .int i
  | str x => exact .str x
  | lst a h => exact .lst a (e _ _ a h)
  | tup a h => exact .tup a (e _ _ a h)
  | dct a h => exact .dct a (e _ _ a h)
theorem no_mem {a : Addr} {o : HO} (hS : ∀ a ∈ S', H a = none) (h : H a = some o) : a ∉ S' := fun hm => by
  rw [hS _ hm] at h
  cases h
theorem Lf.avoid (hS : ∀ a ∈ S', H a = none) (h : Lf S H b v) : Lf S' H b v := by
  have no : ∀ {a : Addr} {o : HO}, H a = some o → a ∉ S' := fun ha hm => by rw [hS _ hm] at ha; cases ha
  cases h with
  | non => exact .non
  | bl b => exact .bl b
  | int i => exact .int i
  | str x => exact .str x
  | lst a h => exact .lst (no h) h
  | tup a h => exact .tup (no h) h
  | dct a h => exact .dct (no h) h
/-- one that may be a row of roads -/
def Th (S : List Addr) (H : Hp) (v : V) : Option (List V) → Prop
  | none => Lf S H false v
  | some xs => ∃ a, v = .ref a ∧ a ∉ S ∧ H a = some (.lst xs) ∧ xs.length ≤ 5000 ∧ ∀ x ∈ xs, ∃ b, Lf S H b x
theorem Th.thing {o : Option (List V)} (h : Th S H v o) : Thing K H v o := by
  cases o with
  | none => exact Lf.nol h
  | some xs =>
    obtain ⟨a, rfl, _, h2, h3, h4⟩ := h
    exact ⟨a, rfl, sq_of h2, h3, fun x hx => by obtain ⟨b, h⟩ := h4 x hx; exact h.typ⟩
theorem Th.monoB {o : Option (List V)} (e : ExB S H H') (h : Th S H v o) : Th S H' v o := by
  cases o with
  | none => exact Lf.monoB e h
  | some xs =>
    obtain ⟨a, rfl, h1, h2, h3, h4⟩ := h
    exact ⟨a, rfl, h1, e _ _ h1 h2, h3, fun x hx => by obtain ⟨b, h⟩ := h4 x hx; exact ⟨b, h.monoB e⟩⟩
theorem Th.avoid {o : Option (List V)} (hS : ∀ a ∈ S', H a = none) (h : Th S H v o) : Th S' H v o := by
  cases o with
  | none => exact Lf.avoid hS h
  | some xs =>
    obtain ⟨a, rfl, h1, h2, h3, h4⟩ := h
    exact ⟨a, rfl, no_mem hS h2, h2, h3, fun x hx => by obtain ⟨b, h⟩ := h4 x hx; exact ⟨b, h.avoid hS⟩⟩
/-- no web -/
def Bw (S : List Addr) (H : Hp) (v : V) : Prop := Lf S H false v ∨ ∃ a xs os, v = .ref a ∧ a ∉ S ∧ H a = some (.lst xs) ∧ xs.length ≤ 1000 ∧ Al (fun o H x => Th S H x o) os xs H ∧ (xs.length < 1 ∨ 60 < xs.length ∨ os.all (roadsOk xs.length) = false)
theorem Bw.monoB (e : ExB S H H') (h : Bw S H v) : Bw S H' v := by
  rcases h with h | ⟨a, xs, os, rfl, h1, h2, h3, h4, h5⟩
  · exact .inl (h.monoB e)
  · exact .inr ⟨a, xs, os, rfl, h1, e _ _ h1 h2, h3, ⟨h4.1, fun i z v g1 g2 => (h4.2 i z v g1 g2).monoB e⟩, h5⟩
theorem Bw.avoid (hS : ∀ a ∈ S', H a = none) (h : Bw S H v) : Bw S' H v := by
  rcases h with h | ⟨a, xs, os, rfl, h1, h2, h3, h4, h5⟩
  · exact .inl (h.avoid hS)
  · exact .inr ⟨a, xs, os, rfl, no_mem hS h2, h2, h3, ⟨h4.1, fun i z v g1 g2 => (h4.2 i z v g1 g2).avoid hS⟩, h5⟩
/-- no stones on a web of n places -/
def Bs (n : Int) (S : List Addr) (H : Hp) (v : V) : Prop := Lf S H false v ∨ ∃ a xs, v = .ref a ∧ a ∉ S ∧ H a = some (.lst xs) ∧ xs.length ≤ 1000 ∧ (∀ x ∈ xs, ∃ b, Lf S H b x) ∧ (20 < xs.length ∨ xs.all (within n) = false)
theorem Bs.monoB {n : Int} (e : ExB S H H') (h : Bs n S H v) : Bs n S H' v := by
  rcases h with h | ⟨a, xs, rfl, h1, h2, h3, h4, h5⟩
  · exact .inl (h.monoB e)
  · exact .inr ⟨a, xs, rfl, h1, e _ _ h1 h2, h3, fun x hx => by obtain ⟨b, h⟩ := h4 x hx; exact ⟨b, h.monoB e⟩, h5⟩
theorem Bs.avoid {n : Int} (hS : ∀ a ∈ S', H a = none) (h : Bs n S H v) : Bs n S' H v := by
  rcases h with h | ⟨a, xs, rfl, h1, h2, h3, h4, h5⟩
  · exact .inl (h.avoid hS)
  · exact .inr ⟨a, xs, rfl, no_mem hS h2, h2, h3, fun x hx => by obtain ⟨b, h⟩ := h4 x hx; exact ⟨b, h.avoid hS⟩, h5⟩
/-- a thing that is no number from 0 to below n -/
def Bp (n : Int) (S : List Addr) (H : Hp) (v : V) : Prop := (∃ b, Lf S H b v) ∧ within n v = false
theorem Bp.monoB {n : Int} (e : ExB S H H') (h : Bp n S H v) : Bp n S H' v := by
  obtain ⟨⟨b, h1⟩, h2⟩ := h
  exact ⟨⟨b, h1.monoB e⟩, h2⟩
theorem Bp.avoid {n : Int} (hS : ∀ a ∈ S', H a = none) (h : Bp n S H v) : Bp n S' H v := by
  obtain ⟨⟨b, h1⟩, h2⟩ := h
  exact ⟨⟨b, h1.avoid hS⟩, h2⟩
end
/-! ### promises of refusals -/
def Ref (C : Addr) (H : Hp) (E : XK) : Prop := ∀ H', Ex H H' → E (.ref C) none H'
theorem Ref.mono {C : Addr} {H H' : Hp} {E : XK} (e : Ex H H') (h : Ref C H E) : Ref C H' E := fun H2 e2 => h H2 (e.trans e2)
/-- the first argument is no web; n arguments -/
def sp_refW (C : Addr) (n : Nat) : Sp := fun vs H _ E => ∃ v r, vs = v :: r ∧ r.length = n ∧ Bw [] H v ∧ Ref C H E
def sp_refP (K : PySem.W.Frag) (C : Addr) : Sp := fun vs H _ E => ∃ (a : Addr) (web : Webs) (v : V), vs = [.ref a, v] ∧ LL K H a web ∧ Ok60 web ∧ Bp web.length [] H v ∧ Ref C H E
def sp_refS (K : PySem.W.Frag) (C : Addr) (n : Nat) : Sp := fun vs H _ E => ∃ (a : Addr) (web : Webs) (v : V) (r : List V), vs = .ref a :: v :: r ∧ r.length = n ∧ LL K H a web ∧ Ok60 web ∧ Bs web.length [] H v ∧ Ref C H E
section
variable {K : PySem.W.Frag} {σ : L2.St} {H H' : Hp} {ta tb tc te : TE} {t u : TT} {D : Ends} {tu tz : TS} {x y z v : V}
/-- an expression that refuses -/
def EvX (te : TE) (σ : L2.St) (H : Hp) : Prop := ∀ H1, Ex H H1 → ∀ Q : VK, te σ H1 Q
theorem ex_if {b : Bool} (h : EvT t σ H b) (h1 : b = true → EvX ta σ H) (h2 : b = false → EvX tb σ H) : EvX (tIf t ta tb) σ H := fun H1 e Q => h H1 e _ fun H2 e2 => by
  cases b with
  | true => exact h1 rfl H2 (e.trans e2) Q
  | false => exact h2 rfl H2 (e.trans e2) Q
theorem ex_call {sp : Sp} {E : L2.St → XK} {tr : TA} {PA : Hp → List V → Hp → Prop} (h : EvAP tr σ H PA) (hA : ∀ H1 vs H2 Q, Ex H H1 → Ex H1 H2 → PA H1 vs H2 → sp vs H2 Q (E σ)) : EvX (tCallS sp E tr) σ H := fun H1 e Q => h H1 e _ fun vs H2 e2 p => hA H1 vs H2 Q e e2 p
theorem s_retX (h : EvX te σ H) : tRet te D σ H := h H (Ex.refl H) _
theorem s_dropX (h : EvX te σ H) : tDrop te D σ H := h H (Ex.refl H) _
theorem q_dropX (h : EvX te σ H) : tSeq (tDrop te) tz D σ H := h H (Ex.refl H) _
end
/-! ### a local name that holds a def that may refuse -/
structure HeldX (P : Program) (w : World) (K : PySem.W.Frag) (mg : Str → Option Value) (base : Heap) (k : Nat) (f : Addr) (sp : Sp) : Prop where
  ex : ∃ (fd : FuncData) (ps : List Str), FnOk P w K mg base (L2N.CX P w) k f fd ps sp ∧ PySem.W.keepIn K (.ref f) = true ∧ Binds K fd ps []
def tCallLS (i : Nat) (Hd : Addr → Sp → Prop) (E : L2.St → XK) (t : TA) : TE := fun σ H Q => ∃ f sp, σ[i]? = some (some (.ref f)) ∧ Hd f sp ∧ t σ H fun vs H1 => sp vs H1 Q (E σ)
theorem pe_callLS {X : Cx} {W : WX} {k i : Nat} {Hd : Addr → Sp → Prop} {x : Str} {p pos : Pos} {e : Expr} {es : List Expr} {t : TA} (A : ∀ f sp, Hd f sp → HeldX X.prog X.w X.K X.mg X.base k f sp) (hr : Room k X.A) (hN : X.N[i]? = some x) (hv : Vis X.env.scope x) (tk : L2N.Takes X W) (ha : PA X (e :: es) t)
    (hdb : (x == ("__debug__" : Str)) = false := by decide) (hcd : (x == ("__classdict__" : Str)) = false := by decide) (he : starEach (e :: es) X.env = (false, eval e X.env) :: starEach es X.env := by rfl) (hpl : (backTo pos (starEach es X.env)).any (·.1) = false := by rfl) : PE X (.Call (.Name x p) (e :: es) [] pos) (tCallLS i Hd (WE W) t) := by
  refine ⟨fun pn s0 σ0 H0 Q0 I h => ?_⟩
  obtain ⟨f, sp, hs, hS, ht⟩ := h
  obtain ⟨fd, ps, F, hk, hb⟩ := (A f sp hS).ex
  refine wpAny_Call_Name_kw (thn ((pe_var (pos := p) hN hv hdb hcd).run pn s0 σ0 H0 (fun v H1 => v = .ref f ∧ H1 = H0) I ⟨.ref f, hs, rfl, rfl⟩) fun u s1 ⟨v, H1, I1, r1, q1⟩ => ?_)
  obtain ⟨rfl, rfl⟩ := q1
  cases r1
  refine PySem.W.callWith_K (h₀ := X.base) I.ok.mod.kin hk (thn (ha.run pos pn s1 σ0 _ _ I1 ht) fun us s2 ⟨vs, H2, I2, r, q⟩ => ⟨I2.kIn, ?_⟩) he hpl
  have hl : us.length = ps.length := by rw [← r.length]; exact F.len _ _ _ _ q
  have bb := hb s2 us I2.kIn (by rw [List.append_nil]; exact hl)
  rw [List.append_nil] at bb
  refine wpAny_call (codeAny_mono (F.run X.A X.stack s2 H2 ⟨us, []⟩ us vs Q0 (WE W σ0) hr I2.env0 bb r q) fun rr s' hq => ?_)
  match rr, hq with
  | .error e, hq => exact L2N.passAt tk σ0 pn H2 s2 e s' I2 hq
  | .ok (.ret _), hq => exact I2.after hq
  | .ok .next, hq => exact False.elim hq
  | .ok .brk, hq => exact False.elim hq
  | .ok .cont, hq => exact False.elim hq
/-! ### a def that is handed the refusal that is handled -/
structure CalHP (P : Program) (w : World) (K : PySem.W.Frag) (mg : Str → Option Value) (base : Heap) (k : Nat) (x : Str) (Z : Obj → Prop) (sp : Addr → Sp) : Prop where
  ex : ∃ (f : Addr) (fd : FuncData) (ps : List Str), (∀ a vs H Q E, sp a vs H Q E → vs.length = ps.length) ∧
    (∀ (A : Around) (up : List Env) (s : Shared) (H : Hp) (args : Args) (us : List Value) (vs : List V) (Q : VK) (p : Addr × Obj), L2H.RoomH k A → L2H.Hot1 A p → Z p.2 → L2H.PinOk up H s p → Env0 P w K mg base A up s H → BindsTo s fd args (ps.zip us) → Vals vs us → sp p.1 vs H Q E0 →
      codeAny (model P w) A (.call (.ref f) args) (CR CX0 up P w H s Q E0) s) ∧ mg x = some (.ref f) ∧ PySem.W.keepIn K (.ref f) = true ∧ Binds K fd ps []
theorem Df.calHP {P : Program} {w : World} {K : PySem.W.Frag} {mg : Str → Option Value} {base : Heap} {x : Str} {st : Stmt} {N ps : List Str} {k : Nat} {Z : Obj → Prop} {sp : Addr → Sp} (d : Df K mg x st ps) (S : FnScope N ps (defScope st)) (len : ∀ a vs H Q E, sp a vs H Q E → vs.length = ps.length)
    (hbody : ∀ (f : Addr) (cdv : Value) (A : Around) (up : List Env) (s : Shared) (H : Hp) (vs : List V) (Q : VK) (p : Addr × Obj), L2H.Hot1 A p → Z p.2 → L2H.RoomH k (A.deeper (envOfC x (defScope st) s.heap.objs.size f cdv)) → sp p.1 vs H Q E0 →
      ∃ t, PSs (L2H.cxH CX0 P w K mg base N x (defScope st) f cdv A up s H E0 p) (defBody st) t ∧ t { nx := fun _ H' => Q .non H', rt := Q } (start N vs) H) : CalHP P w K mg base (k + 1) x Z sp := by
  obtain ⟨f, fd, F, hm, hb⟩ := d.ex
  obtain ⟨oc, od, kV, doc, pm, an, cdv, ct, osl, hfd, lk, hcd⟩ := F.ex
  subst hfd
  refine ⟨f, _, ps, len, fun A up s H args us vs Q p hr hot hz hpin e0 hbt rv hsp => ?_, hm, F.kp, hb⟩
  have hl := len _ _ _ _ _ hsp
  have kin : K.In s.heap := e0.mod.kin.keeps fun b o e => (e0.bs b o e).1
  have lim : s.heap.NoLimit := e0.mod.nolimit.keeps fun b o e => (e0.bs b o e).1
  have kinds : ∀ y ∈ ps.zip us, (defScope st).names.lookup y.1 = some .local ∨ ((defScope st).names.lookup y.1 = some .cell ∧ ((cellsFrom (s.heap.objs.size + 1) (defScope st).names []).lookup y.1).isSome = true) := fun ⟨n, v⟩ hy =>
    (S.par n (List.of_mem_zip hy).1).elim (fun q => .inl q) fun q => .inr ⟨q, PySem.W.cellsFrom_some _ _ _ (.inl q)⟩
  refine codeAny_call_function hr.depth (kin _ _ lk) rfl S.co S.gen rfl (PySem.W.codeRec_of kin hcd) (hbt _ _ _ _ (wpAny_newFunctionEnv_cells S.kind kinds fun env he s1 x1 => ?_))
  subst he
  refine ⟨lim.keeps x1.toInCall.keep, codeAny_func ?_⟩
  obtain ⟨t, ht, hq⟩ := hbody f cdv A up s H vs Q p hot hz (hr.deeper _) hsp
  have J0 := L2H.inv_startH (CX := CX0) (f := f) (cd := cdv) (qual := x) (E := E0) S hpin e0 hl rv x1
  refine wpAny_mono (ht.run [] s1 (start N vs) H _ J0 hq) (fun fl s' hs => ?_) fun _ _ hs => hs
  match fl, hs with
  | .ret u, ⟨v, _, H', J, ru, q⟩ => exact ⟨v, H', J.os, J.bare, J.base, J.hok, ru, q⟩
  | .next, ⟨_, H', J, q⟩ => exact ⟨.non, H', J.os, J.bare, J.base, J.hok, rfl, q⟩
  | .brk, ⟨_, _, _, q⟩ => exact q.elim
  | .cont, ⟨_, _, _, q⟩ => exact q.elim
def tCallP (sp : Addr → Sp) (a : Addr) (t : TA) : TE := fun σ H Q => t σ H fun vs H1 => sp a vs H1 Q E0
theorem pe_callP {X : Cx} {k : Nat} {x : Str} {Z : Obj → Prop} {sp : Addr → Sp} {a : Addr} {oe : Obj} {q pos : Pos} {e : Expr} {es : List Expr} {t : TA} (c : CalHP X.prog X.w X.K X.mg X.base k x Z sp) (hr : L2H.RoomH k X.A) (hot : L2H.Hot1 X.A (a, oe)) (hp : (a, oe) ∈ X.pn) (hz : Z oe) (hg : Gl X x) (ha : PA X (e :: es) t)
    (hdb : (x == ("__debug__" : Str)) = false := by decide) (he : starEach (e :: es) X.env = (false, eval e X.env) :: starEach es X.env := by rfl) (hpl : (backTo pos (starEach es X.env)).any (·.1) = false := by rfl) : PE X (.Call (.Name x q) (e :: es) [] pos) (tCallP sp a t) := by
  obtain ⟨f, fd, ps, len, run, hm, hk, hb⟩ := c.ex
  refine ⟨fun pn s0 σ0 H0 Q0 I h => ?_⟩
  refine wpAny_Call_Name_kw (ld_glob I hg hm (PySem.W.callWith_K (h₀ := X.base) I.ok.mod.kin hk (thn (ha.run pos pn s0 σ0 H0 _ I h) fun us s1 ⟨vs, H1, I1, r, q⟩ => ⟨I1.kIn, ?_⟩) he hpl) hdb)
  have hl : us.length = ps.length := by rw [← r.length]; exact len _ _ _ _ _ q
  have bb := hb s1 us I1.kIn (by rw [List.append_nil]; exact hl)
  rw [List.append_nil] at bb
  have P1 := I1.pin (a, oe) (List.mem_append_left _ hp)
  have hpin : L2H.PinOk X.stack H1 s1 (a, oe) := ⟨P1.1, P1.2.1, fun hm => (List.mem_cons.mp (I1.stkSub a hm)).elim P1.2.2.1 P1.2.2.2.1, P1.2.2.2.2⟩
  refine wpAny_call (codeAny_mono (run X.A X.stack s1 H1 ⟨us, []⟩ us vs Q0 (a, oe) hr hot hz hpin I1.env0 bb r q) fun rr s' hq => ?_)
  match rr, hq with
  | .error _, hq => exact False.elim hq
  | .ok (.ret _), hq => exact I1.after hq
  | .ok .next, hq => exact False.elim hq
  | .ok .brk, hq => exact False.elim hq
  | .ok .cont, hq => exact False.elim hq
/-- isinstance of the refusal that is pinned -/
theorem call_isP {X : Cx} {a D : Addr} {oe : Obj} (C : ExcC X.K D) (hp : (a, oe) ∈ X.pn) (hz : Zc (.ref D) none oe) (hf : ∃ vs, oe.data = .fields vs) : CallR X (.builtin "isinstance") (rIsE X.K D a) := by
  intro pn s0 σ0 H0 xs us Q0 I r h
  obtain ⟨c, cv, b, rfl, hcv, e, q⟩ := h
  match us, r with
  | [_, _], .cons rx (.cons rt .nil) =>
    cases rx
    have ec := hcv _ rt
    subst ec
    obtain ⟨hget, _⟩ := I.pin (a, oe) (List.mem_append_left _ hp)
    obtain ⟨vs, hv⟩ := hf
    have J : PySem.W.InstAt s0.heap a oe D none := by
      obtain ⟨oc, od, oda, osl⟩ := oe
      obtain ⟨h1, h2⟩ := hz
      dsimp only at h1 h2 hv
      subst h1 h2 hv
      exact ⟨hget, rfl, rfl, trivial⟩
    exact PySem.W.kia_one (PySem.W.handS_kitx_exc C.hg C.hk C.hs C.hd C.ha C.hn C.ht C.hm) I.kIn J e (fun z => nomatch z) fun tk => ⟨.bl b, H0, I.kept (t' := tk) fun _ _ z => z, rfl, q⟩
theorem pss_ex {X : Cx} {ι : Type} {sts : List Stmt} {t : ι → TS} (h : ∀ i, PSs X sts (t i)) : PSs X sts (fun D σ H => ∃ i, t i D σ H) := ⟨fun pn s0 σ0 H0 D I ⟨i, q⟩ => (h i).run pn s0 σ0 H0 D I q⟩
/-! ### the four refusals -/
structure Rf (K : PySem.W.Frag) (mg : Str → Option Value) (CP : Addr) (Cs : Nat → Addr) : Prop where
  gP : mg "PushError" = some (.ref CP)
  g0 : mg "BadWeb" = some (.ref (Cs 0))
  g1 : mg "BadPlace" = some (.ref (Cs 1))
  g2 : mg "BadStones" = some (.ref (Cs 2))
  g3 : mg "BadPush" = some (.ref (Cs 3))
  xe : ∀ i, i < 4 → ExcC K (Cs i)
  xm : ∀ i, i < 4 → PySem.W.exmOne K (.ref (Cs i)) (.ref CP) = some true
  kk : ∀ i j, i < 4 → j < 4 → PySem.W.kitOne K (.ref (Cs i)) (.ref (Cs j)) = some (decide (j = i))
  kv : ∀ i, i < 4 → PySem.W.kitOne K (.ref (Cs i)) (.type "ValueError") = some true
def dueB (i : Nat) : List Bool := [decide (0 = i), decide (1 = i), decide (2 = i), decide (3 = i), true]
def sp_kinds8 (a : Addr) (i : Nat) : Sp := fun vs H Q _ => vs = [.ref a] ∧ ∀ q H', H q = none → Ex H H' → H' q = some (.lst ((dueB i).map V.bl)) → Q (.ref q) H'
/-- asked so, class i refuses -/
def sp_ask (C : Addr) (Ok : Nat → V → Hp → Prop) : Sp := fun vs H _ E => ∃ door v, vs = [nv door, v] ∧ Ok door v H ∧ Ref C H E
def sp_told8 (Asks : Nat → Addr → (Nat → V → Hp → Prop) → Prop) : Sp := fun vs H Q _ => ∃ i f Ok door v, i < 4 ∧ vs = [.ref f, nv door, v] ∧ Asks i f Ok ∧ Ok door v H ∧ ∀ q H', H q = none → Ex H H' → H' q = some (.lst ((dueB i).map V.bl)) → Q (.ref q) H'
def sp_all8 (K : PySem.W.Frag) (Asks : Nat → Addr → (Nat → V → Hp → Prop) → Prop) : Sp := fun vs H Q _ => ∃ (i : Nat) (f : Addr) (Ok : Nat → V → Hp → Prop) (n : Nat) (la du : Addr) (ys : List V), i < 4 ∧ vs = [.ref f, nv n, .ref la, .ref du] ∧ n ≤ 10 ∧ Asks i f Ok ∧ SqL K H la ys ∧ ys.length ≤ 1000 ∧ (∀ y ∈ ys, ∀ door, door < n → ∀ H', Ex H H' → Ok door y H') ∧ SqL K H du ((dueB i).map V.bl) ∧ ∀ H', Ex H H' → Q (.bl true) H'
end Sr
set_option Elab.async false
set_option linter.all false
set_option maxRecDepth 100000
set_option maxHeartbeats 4000000
/-! SrI: lists of bad things as they are written. -/
namespace Sr
open PySem PySem.Spec PyProof.Rows L2 Evl
theorem line60 : endOf (lineW 60) 59 = some 59 := by decide +kernel
def Mo (P : Hp → V → Prop) : Prop := ∀ H H' v, Ex H H' → P H v → P H' v
/-- no number from 0 on at all -/
def Bpa (S : List Addr) (H : Hp) (v : V) : Prop := (∃ b, Lf S H b v) ∧ ∀ n, within n v = false
theorem Bpa.monoB {S : List Addr} {H H' : Hp} {v : V} (e : ExB S H H') (h : Bpa S H v) : Bpa S H' v := by
  obtain ⟨⟨b, h1⟩, h2⟩ := h
  exact ⟨⟨b, h1.monoB e⟩, h2⟩
theorem Bpa.avoid {S S' : List Addr} {H : Hp} {v : V} (hS : ∀ a ∈ S', H a = none) (h : Bpa S H v) : Bpa S' H v := by
  obtain ⟨⟨b, h1⟩, h2⟩ := h
  exact ⟨⟨b, h1.avoid hS⟩, h2⟩
theorem Bpa.bp {S : List Addr} {H : Hp} {v : V} (n : Int) (h : Bpa S H v) : Bp n S H v := ⟨h.1, h.2 n⟩
theorem mo_bw {S : List Addr} : Mo (Bw S) := fun _ _ _ e h => h.monoB (ExB.of e)
theorem mo_bs {S : List Addr} {n : Int} : Mo (Bs n S) := fun _ _ _ e h => h.monoB (ExB.of e)
theorem mo_bp {S : List Addr} {n : Int} : Mo (Bp n S) := fun _ _ _ e h => h.monoB (ExB.of e)
theorem mo_bpa {S : List Addr} : Mo (Bpa S) := fun _ _ _ e h => h.monoB (ExB.of e)
theorem push_s {web : Webs} {st : List Nat} {v p : V} (h : within st.length v = false) : pushM web st v p = none := by
  cases v with
  | int i =>
    cases p with
    | int j =>
      show (if 0 ≤ i ∧ i < (st.length : Int) ∧ 0 ≤ j ∧ j < (web.length : Int) ∧ j.toNat ∈ web.getD (st.getD i.toNat 0) [] then _ else none) = none
      rw [if_neg]
      rintro ⟨h1, h2, _⟩
      have h' : (decide (0 ≤ i) && decide (i < (st.length : Int))) = false := h
      rw [decide_eq_true h1, decide_eq_true h2] at h'
      cases h'
    | _ => rfl
  | _ => cases p <;> rfl
theorem push_p {web : Webs} {st : List Nat} {v s : V} (h : within web.length v = false) : pushM web st s v = none := by
  cases v with
  | int j =>
    cases s with
    | int i =>
      show (if 0 ≤ i ∧ i < (st.length : Int) ∧ 0 ≤ j ∧ j < (web.length : Int) ∧ j.toNat ∈ web.getD (st.getD i.toNat 0) [] then _ else none) = none
      rw [if_neg]
      rintro ⟨_, _, h3, h4, _⟩
      have h' : (decide (0 ≤ j) && decide (j < (web.length : Int))) = false := h
      rw [decide_eq_true h3, decide_eq_true h4] at h'
      cases h'
    | _ => rfl
  | _ => cases s <;> rfl
section
variable {K : PySem.W.Frag} {S : List Addr} {P : Hp → V → Prop} {σ : L2.St} {H H' : Hp} {ta tb tc te : TE} {t u : TT} {D : Ends} {tu tz : TS} {g : TG} {x y z v : V}
theorem new_no {H1 : Hp} {p : Addr} (hS : ∀ a ∈ S, H a ≠ none) (e : Ex H H1) (np : H1 p = none) : p ∉ S := fun hm => by
  cases hd : H p with
  | none => exact hS p hm hd
  | some o =>
    rw [e _ _ hd] at np
    cases np
theorem ne_new {Hb Hc : Hp} {r D : Addr} (hD : Hb D ≠ none) (ec : Ex Hb Hc) (nr : Hc r = none) : r ≠ D := fun z => by
  cases hd : Hb D with
  | none => exact hD hd
  | some o =>
    rw [z, ec _ _ hd] at nr
    cases nr
/-! ### leaves -/
theorem lf_c {v : V} (h : ∀ Hx, Lf S Hx false v) : EvP (tC v) σ H (fun _ w H2 => Lf S H2 false w) := (EvP.of ev_c).imp fun _ w H2 _ _ hw => by rw [hw]; exact h H2
theorem lf_int {i : Int} (h : Ev te σ H (.int i)) : EvP te σ H (fun _ w H2 => Lf S H2 false w) := (EvP.of h).imp fun _ w H2 _ _ hw => by rw [hw]; exact .int i
theorem lf_tup {tr : TA} {Q : Hp → List V → Hp → Prop} (hS : ∀ a ∈ S, H a ≠ none) (h : EvAP tr σ H Q) (hl : ∀ H1 vs H2, Q H1 vs H2 → vs.length ≤ 100000) : EvP (tTup tr) σ H (fun _ v H2 => Lf S H2 false v) := fun H1 e R q => h H1 e _ fun vs H2 e2 hp =>
  ⟨sz_of (hl _ _ _ hp), fun p np => q _ _ (e2.trans (Ex.new np)) (.tup (new_no hS (e.trans e2) np) upd_same)⟩
theorem lf_dct (hS : ∀ a ∈ S, H a ≠ none) : EvP tDNewK σ H (fun _ v H2 => Lf S H2 false v) := fun H1 e R q p np => q _ _ (Ex.new np) (.dct (new_no hS e np) upd_same)
theorem lf_lst {xs : List V} (hS : ∀ a ∈ S, H a ≠ none) (h : EvL te σ H xs) : EvP te σ H (fun _ v H2 => Lf S H2 true v) := fun H1 e R q => h H1 e _ fun p H2 np e2 hp => q _ H2 e2 (.lst (new_no hS e np) hp)
theorem bpa_f (h : EvP te σ H (fun _ v H2 => Lf S H2 false v)) (hv : ∀ H1 v H2, Ex H H1 → Lf S H2 false v → ∀ n, within n v = false) : EvP te σ H (fun _ v H2 => Bpa S H2 v) := h.imp fun H1 v H2 e _ hl => ⟨⟨_, hl⟩, hv H1 v H2 e hl⟩
theorem bpa_c {v : V} (h : ∀ Hx, Lf S Hx false v) (hw : ∀ n, within n v = false) : EvP (tC v) σ H (fun _ w H2 => Bpa S H2 w) := (EvP.of ev_c).imp fun _ w H2 _ _ e => by rw [e]; exact ⟨⟨_, h H2⟩, hw⟩
theorem bpa_ref {Q : Hp → V → Hp → Prop} (h : EvP te σ H Q) (hq : ∀ H1 v H2, Ex H H1 → Ex H1 H2 → Q H1 v H2 → ∃ a b, v = .ref a ∧ Lf S H2 b v) : EvP te σ H (fun _ v H2 => Bpa S H2 v) := h.imp fun H1 v H2 e e2 hv => by
  obtain ⟨a, b, rfl, hl⟩ := hq H1 v H2 e e2 hv
  exact ⟨⟨b, hl⟩, fun _ => rfl⟩
theorem bpa_int {i : Int} (h : Ev te σ H (.int i)) (hi : i < 0) : EvP te σ H (fun _ v H2 => Bpa S H2 v) := (EvP.of h).imp fun _ w H2 _ _ e => by
  rw [e]
  refine ⟨⟨_, .int i⟩, fun n => ?_⟩
  show (decide (0 ≤ i) && decide (i < n)) = false
  rw [decide_eq_false (by omega)]
  rfl
theorem bp_int {i n : Int} (h : Ev te σ H (.int i)) (hi : n ≤ i) : EvP te σ H (fun _ v H2 => Bp n S H2 v) := (EvP.of h).imp fun _ w H2 _ _ e => by
  rw [e]
  refine ⟨⟨_, .int i⟩, ?_⟩
  show (decide (0 ≤ i) && decide (i < n)) = false
  rw [decide_eq_false (show ¬ i < n by omega), Bool.and_false]
/-! ### lists of such -/
def EvAll (tr : TA) (σ : L2.St) (H : Hp) (P : Hp → V → Prop) (n : Nat) : Prop := EvAP tr σ H (fun _ vs H2 => vs.length = n ∧ ∀ y ∈ vs, P H2 y)
theorem ell_nil : EvAll tNil σ H P 0 := fun H1 _ _ q => q [] H1 (Ex.refl H1) ⟨rfl, fun _ h => nomatch h⟩
theorem ell_cons {tr : TA} {n : Nat} (m : Mo P) (h : EvP te σ H (fun _ v H2 => P H2 v)) (hr : EvAll tr σ H P n) : EvAll (tCons te tr) σ H P (n + 1) := fun H1 e R q =>
  h H1 e _ fun v H2 e2 p => hr H2 (e.trans e2) _ fun vs H3 e3 ⟨hl, hp⟩ => q _ H3 (e2.trans e3) ⟨by rw [List.length_cons, hl], fun y hy => by
    rcases List.mem_cons.mp hy with rfl | hy
    · exact m H2 H3 _ e3 p
    · exact hp y hy⟩
/-- a made list: what holds of its items held ahead of it -/
def LsV (P : Hp → V → Prop) (n : Nat) : Hp → V → Hp → Prop := fun H1 v H2 => ∃ p ys Hm, v = .ref p ∧ Hm p = none ∧ Ex H1 Hm ∧ H2 = upd Hm p (.lst ys) ∧ ys.length ≤ n ∧ ∀ y ∈ ys, P Hm y
def PtV (P : Hp → V → Prop) (n : Nat) : Hp → V → Hp → Prop := fun _ v H2 => ∃ p ys, v = .ref p ∧ H2 p = some (.lst ys) ∧ ys.length ≤ n ∧ ∀ y ∈ ys, P H2 y
theorem ep_lstV {tr : TA} {n : Nat} (h : EvAll tr σ H P n) (hn : n ≤ 100000) : EvP (tLst tr) σ H (LsV P n) := fun H1 e R q => h H1 e _ fun vs H2 e2 ⟨hl, hp⟩ => ⟨sz_of (by rw [hl]; exact hn), fun p np => q _ _ (e2.trans (Ex.new np)) ⟨p, vs, H2, rfl, np, e2, rfl, by rw [hl]; exact Nat.le_refl _, hp⟩⟩
theorem ep_ptV {n : Nat} (m : Mo P) (h : EvP te σ H (LsV P n)) : EvP te σ H (PtV P n) := h.imp fun H1 v H2 _ _ ⟨p, ys, Hm, h1, h2, h3, h4, h5, h6⟩ => ⟨p, ys, h1, by rw [h4]; exact upd_same, h5, fun y hy => by rw [h4]; exact m Hm _ y (Ex.new h2) (h6 y hy)⟩
theorem ep_varV {n : Nat} {p : Addr} {ys : List V} (m : Mo P) (h : Ev te σ H (.ref p)) (hp : H p = some (.lst ys)) (hl : ys.length ≤ n) (ha : ∀ y ∈ ys, P H y) : EvP te σ H (PtV P n) := (EvP.of h).imp fun H1 v H2 e1 e2 hv => ⟨p, ys, hv, (e1.trans e2) _ _ hp, hl, fun y hy => m H H2 y (e1.trans e2) (ha y hy)⟩
theorem ep_catV {n1 n2 : Nat} (m : Mo P) (h1 : EvP ta σ H (PtV P n1)) (h2 : EvP tb σ H (PtV P n2)) (hl : n1 + n2 ≤ 100000) : EvP (tOp rCat ta tb) σ H (LsV P (n1 + n2)) := fun H1 e R q =>
  h1 H1 e _ fun v H2 e2 ⟨p, ys, hv, hp, hl1, ha⟩ => h2 H2 (e.trans e2) _ fun w H3 e3 ⟨p', ys', hw, hp', hl2, ha'⟩ => by
    subst hv hw
    exact ⟨p, p', ys, ys', rfl, rfl, e3 _ _ hp, hp', sz_of (by omega), fun r nr => q _ _ ((e2.trans e3).trans (Ex.new nr)) ⟨r, ys ++ ys', H3, rfl, nr, e2.trans e3, rfl, by rw [List.length_append]; omega, fun y hy => by
      rcases List.mem_append.mp hy with hy | hy
      · exact m H2 H3 y e3 (ha y hy)
      · exact ha' y hy⟩⟩
/-- xs.append(e) -/
theorem s_appP {l : Addr} {xs : List V} {Q : Hp → V → Hp → Prop} (hl : H l = some (.lst xs)) (ha : Ev ta σ H (.ref l)) (h : EvP te σ H Q) (hz : xs.length < 100000) (k : ∀ H1 v H2, Ex H H1 → Ex H1 H2 → Q H1 v H2 → D.nx σ (upd H2 l (.lst (xs ++ [v])))) : tDrop (tBM K "list" rAppend ta (tCons te tNil)) D σ H :=
  ha H (Ex.refl H) _ fun H1 e1 => ⟨Or.inl ⟨rfl, xs, sq_of (e1 l _ hl)⟩, h H1 e1 _ fun v H2 e2 p => ⟨l, xs, v, rfl, rfl, e2 l _ (e1 l _ hl), sz_lt hz, k H1 v H2 e1 e2 p⟩⟩
/-- a for over a list made on the way; the lists of S are changed in the loop -/
theorem s_forLb {n : Nat} {tl : TE} (m : ∀ H H' v, ExB S H H' → P H v → P H' v) (h : EvP tl σ H (fun _ v H2 => ∃ p ys, v = .ref p ∧ p ∉ S ∧ H2 p = some (.lst ys) ∧ ys.length ≤ n ∧ ∀ y ∈ ys, P H2 y)) (Pv : Hp → Nat → L2.St → Hp → Prop) (hx : ∀ Hb i σ' H', Pv Hb i σ' H' → ExB S Hb H') (h0 : ∀ Hb, Ex H Hb → Pv Hb 0 σ Hb)
    (hs : ∀ Hb i x σ' H', Ex H Hb → i < n → P H' x → Pv Hb i σ' H' → g x σ' H' fun σ2 H2 => tu { D with nx := Pv Hb (i + 1), ct := Pv Hb (i + 1), bk := D.nx } σ2 H2) (hd : ∀ Hb i σ' H', Ex H Hb → i ≤ n → Pv Hb i σ' H' → D.nx σ' H') : tFor (iList K tl) g tu D σ H :=
  h H (Ex.refl H) _ fun v H1 e ⟨p, ys, hv, hpS, h1, hl, ha⟩ => by
    subst hv
    refine ⟨p, rfl, ⟨ys, sq_of h1⟩, for_list (Pv H1) (h0 H1 e) (fun i σ' H' _ pv => sq_of (hx H1 i σ' H' pv p _ hpS h1)) (fun i x σ' H' hi pv => ?_) (fun σ' H' pv => hd H1 ys.length σ' H' e hl pv)⟩
    have hil := (List.getElem?_eq_some_iff.mp hi).1
    exact hs H1 i x σ' H' e (by omega) (m H1 H' x (hx H1 i σ' H' pv) (ha x (List.mem_of_getElem? hi))) pv
/-! ### webs that are none -/
theorem th_mono : Mono (fun (o : Option (List V)) H x => Th S H x o) := fun _ _ _ _ e h => h.monoB (ExB.of e)
theorem th_row {tr : TA} {vs : List V} (hS : ∀ a ∈ S, H a ≠ none) (h : EvA tr σ H vs) (hv : ∀ x ∈ vs, ∃ b, Lf S H b x) (hl : vs.length ≤ 5000) : EvP (tLst tr) σ H (fun _ v H2 => Th S H2 v (some vs)) := fun H1 e R q => h H1 e _ fun H2 e2 => ⟨sz_of (by omega), fun p np => q _ _ (e2.trans (Ex.new np)) ⟨p, rfl, new_no hS (e.trans e2) np, upd_same, hl, fun x hx => by
  obtain ⟨b, hb⟩ := hv x hx
  exact ⟨b, hb.monoB (ExB.of ((e.trans e2).trans (Ex.new np)))⟩⟩⟩
theorem lf_ints {is : List Int} : ∀ x ∈ is.map V.int, ∃ b, Lf S H b x := fun x hx => by
  obtain ⟨i, _, rfl⟩ := List.mem_map.mp hx
  exact ⟨_, .int i⟩
theorem bw_leaf (h : EvP te σ H (fun _ v H2 => Lf S H2 false v)) : EvP te σ H (fun _ v H2 => Bw S H2 v) := h.imp fun _ _ _ _ _ h => .inl h
theorem bw_lst {tr : TA} {os : List (Option (List V))} (hS : ∀ a ∈ S, H a ≠ none) (h : EvAs tr σ H (fun o H x => Th S H x o) os) (hb : os.length < 1 ∨ 60 < os.length ∨ os.all (roadsOk os.length) = false) (hl : os.length ≤ 1000) : EvP (tLst tr) σ H (fun _ v H2 => Bw S H2 v) := fun H1 e R q => h H1 e _ fun vs H2 e2 hp =>
  ⟨sz_of (by rw [hp.1]; omega), fun p np => q _ _ (e2.trans (Ex.new np)) (.inr ⟨p, vs, os, rfl, new_no hS (e.trans e2) np, upd_same, by rw [hp.1]; exact hl, hp.mono th_mono (Ex.new np), by rw [hp.1]; exact hb⟩)⟩
/-- [[]] * n -/
theorem ep_nilsV {n : Nat} (hS : ∀ a ∈ S, H a ≠ none) (hn : Ev tb σ H (nv n)) (hl : n ≤ 1000) : EvP (tOp rRep (tLst (tCons (tLst tNil) tNil)) tb) σ H (fun _ v H2 => ∃ p r, v = .ref p ∧ p ∉ S ∧ r ∉ S ∧ H2 p = some (.lst (List.replicate n (.ref r))) ∧ H2 r = some (.lst [])) := by
  intro H1 e Q q
  refine (ew_disp (rows := [[]]) (er_cons (row := []) (el_lst ea_nil sz_nil) er_nil) (show 1 ≤ 1000 by decide)) H1 e _ fun v H2 e2 ⟨p, as, hv, np, mw, _, hf⟩ => ?_
  subst hv
  obtain ⟨r, rfl⟩ : ∃ r, as = [r] := by
    have := mw.len
    match as, this with
    | [r], _ => exact ⟨r, rfl⟩
  refine hn H2 (e.trans e2) _ fun H3 e3 => ⟨p, (n : Int), [.ref r], rfl, rfl, (mw.ex e3).top, by omega, by omega, by rw [Int.toNat_natCast]; show 1 * n ≤ sizeLine; exact sz_of (by omega), fun p2 n2 => ?_⟩
  rw [Int.toNat_natCast]
  exact q _ _ ((e2.trans e3).trans (Ex.new n2)) ⟨p2, r, rfl, new_no hS ((e.trans e2).trans e3) n2, new_no hS e (hf r (List.mem_singleton.mpr rfl)), by rw [upd_same, flat_one], Ex.new n2 _ _ (e3 _ _ (mw.row 0 r [] rfl rfl).2)⟩
theorem al_nils {n : Nat} {r : Addr} {Hx : Hp} (hr : r ∉ S) (h : Hx r = some (.lst [])) : Al (fun (o : Option (List V)) H x => Th S H x o) (List.replicate n (some [])) (List.replicate n (.ref r)) Hx := ⟨by rw [List.length_replicate, List.length_replicate], fun i o v h1 h2 => by
  rw [List.eq_of_mem_replicate (List.mem_of_getElem? h1), List.eq_of_mem_replicate (List.mem_of_getElem? h2)]
  exact ⟨r, rfl, hr, h, Nat.zero_le _, fun _ h => nomatch h⟩⟩
theorem bw_rep {n : Nat} (hS : ∀ a ∈ S, H a ≠ none) (hn : Ev tb σ H (nv n)) (h1 : 60 < n) (h2 : n ≤ 1000) : EvP (tOp rRep (tLst (tCons (tLst tNil) tNil)) tb) σ H (fun _ v H2 => Bw S H2 v) := (ep_nilsV hS hn h2).imp fun _ v H2 _ _ ⟨p, r, g1, g2, g3, g4, g5⟩ => .inr ⟨p, _, List.replicate n (some []), g1, g2, g4, by rw [List.length_replicate]; exact h2, al_nils g3 g5, .inr (.inl (by rw [List.length_replicate]; exact h1))⟩
/-- [[] for _ in range(n)] -/
theorem bw_lc {n j : Nat} {vs : List Nat} (hS : ∀ a ∈ S, H a ≠ none) (hn : Ev ta σ H (nv n)) (h1 : 60 < n) (h2 : n ≤ 1000) (hw : ∀ x, wipe ((wipe σ vs).set j (some x)) vs = wipe σ vs) : EvP (tLc (iRng1 (tCons ta tNil)) (gName j) tYes (tLst tNil) vs) σ H (fun _ v H2 => Bw S H2 v) := fun H1 e Q q =>
  (ep_mR (fun D i v Hx => ∃ r, v = .ref r ∧ r ≠ D ∧ r ∉ S ∧ Hx r = some (.lst [])) (fun D i v Ha Hb ⟨r, g1, g2, g3, g4⟩ eo => ⟨r, g1, g2, g3, eo _ _ g2 g4⟩) hn (by omega) hw fun i Hb hi eb D hD => (EvP.ofL (el_lst ea_nil sz_nil)).imp fun Hc v Hd ec ed ⟨r, g1, g2, g3⟩ => ⟨r, g1, ne_new hD ec g2, new_no hS (eb.trans ec) g2, g3⟩) H1 e Q fun v H2 e2 ⟨p, ys, g1, g2, g3, g4, g5⟩ => q v H2 e2 (.inr ⟨p, ys, List.replicate n (some []), g1, new_no hS e g2, g3, by rw [g4]; exact h2, ⟨by rw [g4, List.length_replicate], fun i o y k1 k2 => by
    rw [List.eq_of_mem_replicate (List.mem_of_getElem? k1)]
    obtain ⟨r, q1, q2, q3, q4⟩ := g5 i y k2
    exact ⟨r, q1, q3, q4, Nat.zero_le _, fun _ h => nomatch h⟩⟩, .inr (.inl (by rw [g4]; exact h1))⟩)
/-- [[]] * 59 + [x] -/
theorem bw_60 {o : Option (List V)} (hS : ∀ a ∈ S, H a ≠ none) (hx : Ev te σ H x) (ht : Th S H x o) (hb : roadsOk 60 o = false) : EvP (tOp rCat (tOp rRep (tLst (tCons (tLst tNil) tNil)) (tC (.int 59))) (tLst (tCons te tNil))) σ H (fun _ v H2 => Bw S H2 v) := fun H1 e Q q =>
  (ep_nilsV (n := 59) hS ev_c (by decide)) H1 e _ fun v H2 e2 ⟨p, r, g1, g2, g3, g4, g5⟩ => (el_lst (ea_cons hx ea_nil) (show 1 ≤ 100000 by decide)) H2 (e.trans e2) _ fun p2 H3 n2 e3 hp2 => by
    subst g1
    refine ⟨p, p2, _, _, rfl, rfl, e3 _ _ g4, hp2, sz_of (by rw [List.length_replicate]; show 59 + 1 ≤ 100000; decide), fun p3 n3 => q _ _ ((e2.trans e3).trans (Ex.new n3)) (.inr ⟨p3, _, List.replicate 59 (some []) ++ [o], rfl, new_no hS ((e.trans e2).trans e3) n3, upd_same, by rw [List.length_append, List.length_replicate]; show 59 + 1 ≤ 1000; decide, ?_, .inr (.inr ?_)⟩)⟩
    · exact ((al_nils g3 (e3 _ _ g5)).app (.cons (ht.monoB (ExB.of ((e.trans e2).trans e3))) .nil)).mono th_mono (Ex.new n3)
    · rw [List.all_append, List.length_append, List.length_replicate]
      show (_ && (roadsOk 60 o && true)) = false
      rw [hb, Bool.false_and, Bool.and_false]
/-! ### a comprehension over a tuple made on the way; the items stood there ahead of the list that is made -/
theorem ep_mTA {α : Type} {R : α → Hp → V → Prop} {zs : List α} {j : Nat} {vs : List Nat} (E : Addr → α → V → Hp → Prop) (hE : ∀ D z v Ha Hb, E D z v Ha → ExO D Ha Hb → E D z v Hb) (h : EvP ta σ H (fun _ v H2 => ∃ p ys, v = .ref p ∧ H2 p = some (.tup ys) ∧ Al R zs ys H2)) (hz : zs.length ≤ 50000)
    (hw : ∀ x, wipe ((wipe σ vs).set j (some x)) vs = wipe σ vs) (he : ∀ (i : Nat) (z : α) (x : V) (Hs H1 : Hp), zs[i]? = some z → Ex H Hs → Ex Hs H1 → R z Hs x → ∀ D, Hs D = none → H1 D ≠ none → EvP te ((wipe σ vs).set j (some x)) H1 (fun _ v Hb => E D z v Hb)) :
    EvP (tLc (iTup K ta) (gName j) tYes te vs) σ H (fun _ v H2 => ∃ p ys, v = .ref p ∧ H2 p = some (.lst ys) ∧ ys.length = zs.length ∧ ∀ (j : Nat) (z : α) (y : V), zs[j]? = some z → ys[j]? = some y → E p z y H2) := fun H0 e Q q => h H0 e _ fun v0 Hs e1 ⟨p, xs, hv, hp, hal⟩ => by
  subst hv
  have w := walk_tup (K := K) (a := p) (xs := xs)
  rw [hal.1] at w
  refine ⟨p, rfl, ⟨xs, st_of hp⟩, fun D hD => ?_⟩
  refine lc_it w (fun i H' => CwP E Hs zs (fun _ => true) D i H') ⟨hD, Ex.new hD, [], upd_same, rfl, fun j z y h => by simp at h⟩ (fun i H' _ pp => ex_t pp.ex (st_of hp)) (fun i x Ha Hb hlt pp y => ?_) (fun H' pp => ?_)
  · obtain ⟨rfl, hx'⟩ := y
    obtain ⟨p1, p2, ys, p3, p4, p5⟩ := pp
    have hz' : zs[i]? = some zs[i] := List.getElem?_eq_getElem hlt
    refine ⟨hw _, ?_⟩
    show te _ Hb fun y H5 => ∃ acc, H5 D = some (.lst acc) ∧ acc.length < sizeLine ∧ CwP E Hs zs (fun _ => true) D (i + 1) (upd H5 D (.lst (acc ++ [y])))
    refine he i zs[i] x Hs Hb hz' (e.trans e1) p2 (hal.2 i zs[i] x hz' hx') D hD (by rw [p3]; simp) Hb (Ex.refl _) _ fun y H5 e5 hy => ⟨ys, e5 D _ p3, ?_, p1, Ex.mut (p2.trans e5) p1, ys ++ [y], upd_same, ?_, fun j z y' hj hy' => ?_⟩
    · rw [p4]
      refine sz_lt (Nat.lt_of_le_of_lt (List.length_filter_le _ _) ?_)
      rw [List.length_take]
      omega
    · rw [take_snoc hz', List.filter_append, List.length_append, List.length_append, p4]
      rfl
    · rw [filt_true] at hj p4 p5
      rw [take_snoc hz'] at hj
      have ex5 : ExO D Hb (upd H5 D (.lst (ys ++ [y]))) := (ExO.of e5).trans ExO.upd
      by_cases hlj : j < ys.length
      · rw [List.getElem?_append_left (by rw [← p4]; exact hlj)] at hj
        rw [List.getElem?_append_left hlj] at hy'
        exact hE D z y' Hb _ (p5 j z y' hj hy') ex5
      · rw [List.getElem?_append_right (by rw [← p4]; omega)] at hj
        rw [List.getElem?_append_right (by omega)] at hy'
        have e0 : j - ys.length = 0 := by
          have := (List.getElem?_eq_some_iff.mp hy').1
          simp at this
          omega
        rw [e0] at hy'
        rw [← p4, e0] at hj
        cases hy'
        cases hj
        exact hE D _ _ H5 _ hy ExO.upd
  · obtain ⟨p1, p2, ys, p3, p4, p5⟩ := pp
    rw [filt_true, List.take_length] at p4
    rw [filt_true, List.take_length] at p5
    exact q _ H' (e1.trans p2) ⟨D, ys, rfl, p3, p4, p5⟩
/-! ### stones that are none -/
theorem bs_lst {n : Int} {vs : List V} (hS : ∀ a ∈ S, H a ≠ none) (h : EvL te σ H vs) (hv : ∀ x ∈ vs, ∃ b, Lf S H b x) (hl : vs.length ≤ 1000) (hb : 20 < vs.length ∨ vs.all (within n) = false) : EvP te σ H (fun _ v H2 => Bs n S H2 v) := fun H1 e R q => h H1 e _ fun p H2 np e2 hp => q _ H2 e2 (.inr ⟨p, vs, rfl, new_no hS e np, hp, hl, fun x hx => by
  obtain ⟨b, hb⟩ := hv x hx
  exact ⟨b, hb.monoB (ExB.of (e.trans e2))⟩, hb⟩)
theorem bs_leaf {n : Int} (h : EvP te σ H (fun _ v H2 => Lf S H2 false v)) : EvP te σ H (fun _ v H2 => Bs n S H2 v) := h.imp fun _ _ _ _ _ h => .inl h
end
theorem all_snoc {n : Int} {xs : List V} {x : V} (h : within n x = false) : (xs ++ [x]).all (within n) = false := by
  rw [List.all_append]
  show (_ && (within n x && true)) = false
  rw [h, Bool.false_and, Bool.and_false]
theorem all_set {n : Int} {xs : List V} {x : V} {i : Nat} (hi : i < xs.length) (h : within n x = false) : (xs.set i x).all (within n) = false := by
  rw [List.all_eq_false]
  exact ⟨x, List.mem_of_getElem? (List.getElem?_set_self hi), by rw [h]; decide⟩
/-- what a promise by name says of the def's address -/
theorem Cal.held {P : Program} {w : World} {K : PySem.W.Frag} {mg : Str → Option Value} {base : Heap} {k : Nat} {x : Str} {sp : Sp} (c : Cal P w K mg base (L2N.CX P w) k x sp) : ∃ f, mg x = some (.ref f) ∧ HeldX P w K mg base k f sp := by
  obtain ⟨f, fd, ps, F, hm, hk, hb⟩ := c.ex
  exact ⟨f, hm, fd, ps, F, hk, hb⟩
section
variable {K : PySem.W.Frag} {S : List Addr} {P : Hp → V → Prop} {σ : L2.St} {H H' : Hp} {ta tb tc te tf td tl : TE} {x y z v : V}
theorem bpa_lst {xs : List V} (h : EvL te σ H xs) : EvP te σ H (fun _ v H2 => Bpa [] H2 v) := bpa_ref (EvP.ofL h) fun _ v _ _ _ ⟨p, h1, _, h3⟩ => ⟨p, true, h1, by rw [h1]; exact .lst (by simp) h3⟩
theorem bpa_tup {xs : List V} (h : EvU te σ H xs) : EvP te σ H (fun _ v H2 => Bpa [] H2 v) := fun H1 e Q q => h H1 e _ fun p H2 np e2 hp => q _ H2 e2 ⟨⟨false, .tup (by simp) hp⟩, fun _ => rfl⟩
theorem bpa_dct : EvP tDNewK σ H (fun _ v H2 => Bpa [] H2 v) := fun H1 e R q p np => q _ _ (Ex.new np) ⟨⟨false, .dct (by simp) upd_same⟩, fun _ => rfl⟩
theorem lf_tupN {tr : TA} {n : Nat} (hS : ∀ a ∈ S, H a ≠ none) (h : EvAll tr σ H (fun _ _ => True) n) (hn : n ≤ 100000) : EvP (tTup tr) σ H (fun _ v H2 => Lf S H2 false v) := lf_tup hS h fun _ vs _ h => by rw [h.1]; exact hn
theorem ell_any {tr : TA} {n : Nat} {Q : Hp → V → Hp → Prop} (h : EvP te σ H Q) (hr : EvAll tr σ H (fun _ _ => True) n) : EvAll (tCons te tr) σ H (fun _ _ => True) (n + 1) := ell_cons (fun _ _ _ _ h => h) (h.imp fun _ _ _ _ _ _ => trivial) hr
theorem within_le {m n : Int} {v : V} (hmn : m ≤ n) (h : within n v = false) : within m v = false := by
  cases v with
  | int i =>
    have h' : (decide (0 ≤ i) && decide (i < n)) = false := h
    show (decide (0 ≤ i) && decide (i < m)) = false
    by_cases h1 : 0 ≤ i
    · rw [decide_eq_true h1, Bool.true_and] at h' ⊢
      have := of_decide_eq_false h'
      exact decide_eq_false (by omega)
    · rw [decide_eq_false h1]
      rfl
  | _ => rfl
theorem roads_bad {n : Int} {vs : List V} {x : V} (hx : x ∈ vs) (h : within n x = false) : roadsOk n (some vs) = false := by
  show (vs.all (within n) && risingV vs) = false
  have : vs.all (within n) = false := List.all_eq_false.mpr ⟨x, hx, by rw [h]; decide⟩
  rw [this]
  rfl
theorem ev_all8 {Asks : Nat → Addr → (Nat → V → Hp → Prop) → Prop} {Ok : Nat → V → Hp → Prop} {i n N : Nat} {f d : Addr} {tn : TE} (hi : i < 4) (hf : Ev tf σ H (.ref f)) (hn : Ev tn σ H (nv n)) (hnl : n ≤ 10) (hask : Asks i f Ok) (hl : EvP tl σ H (PtV P N)) (hN : N ≤ 1000) (hP : ∀ y Hx, P Hx y → ∀ door, door < n → ∀ H', Ex Hx H' → Ok door y H') (hd : Ev td σ H (.ref d)) (hdd : H d = some (.lst ((dueB i).map V.bl))) :
    Ev (tCall (sp_all8 K Asks) [] E0 (tCons tf (tCons tn (tCons tl (tCons td tNil))))) σ H (.bl true) := fun H1 e Q q => hf H1 e _ fun H2 e2 => hn H2 (e.trans e2) _ fun H3 e3 => hl H3 ((e.trans e2).trans e3) _ fun v H4 e4 ⟨p, ys, hv, hp, hly, ha⟩ => hd H4 (((e.trans e2).trans e3).trans e4) _ fun H5 e5 => by
  subst hv
  have e14 := (e2.trans e3).trans e4
  exact ⟨i, f, Ok, n, p, d, ys, hi, rfl, hnl, hask, sq_of (e5 _ _ hp), by omega, fun y hy door hdr H' e' => hP y H4 (ha y hy) door hdr H' (e5.trans e'), sq_of (((e.trans e14).trans e5) _ _ hdd), fun H' e' => q H' ((e14.trans e5).trans e')⟩
/-- the line of places, as it is written -/
theorem ep_line {j : Nat} {vs : List Nat} (hl : j < σ.length) (hw : ∀ x, wipe ((wipe σ vs).set j (some x)) vs = wipe σ vs) : EvP (tLc (iRng1 (tCons (tC (.int 60)) tNil)) (gName j) tYes (tIf (tTest (tOp (rI0 fun i j => .bl (decide (j < i))) (tVar j) (tC (.int 0)))) (tLst (tCons (tOp (rI0 fun i j => .int (i - j)) (tVar j) (tC (.int 1))) tNil)) (tLst tNil)) vs) σ H (fun _ v H2 => ∃ p as, v = .ref p ∧ MW p as (lineW 60) H2) := by
  refine (ep_mR (n := 60) (NewRow fun i : Nat => (if 0 < i then [i - 1] else []).map nv) newRow_st ev_c (by decide) hw fun i Hb hi eb D hD => ?_).imp fun Hx v Hy _ _ ⟨p, ys, h1, h2, h3, h4, h5⟩ => ?_
  · have hv : ∀ {Hx : Hp}, Ev (tVar j) ((wipe σ vs).set j (some (nv i))) Hx (nv i) := ev_var (List.getElem?_set_self (l := wipe σ vs) (by rw [wipe_length]; exact hl))
    refine ep_if (et_test (ev_gt hv ev_c)) (fun _ _ _ _ _ _ p => p) (fun h0 => ?_) (fun h0 => ?_)
    · rw [decide_eq_true_eq] at h0
      refine EvL.newRow (row := fun i : Nat => (if 0 < i then [i - 1] else []).map nv) (el_is (el_lst (ea_cons (ev_sub hv ev_c) ea_nil) (show 1 ≤ 100000 by decide)) ?_) hD
      rw [if_pos (by omega)]
      show [V.int ((i : Int) - 1)] = [V.int ((i - 1 : Nat) : Int)]
      congr 2
      omega
    · rw [decide_eq_false_iff_not] at h0
      refine EvL.newRow (row := fun i : Nat => (if 0 < i then [i - 1] else []).map nv) (el_is (el_lst ea_nil sz_nil) ?_) hD
      rw [if_neg (by omega)]
      rfl
  · obtain ⟨as, mw⟩ := mw_of_rows (web := lineW 60) h3 (by rw [lineW_len]; exact h4) fun k row y hk hy => by
      have hkm : k < 60 := by
        have := (List.getElem?_eq_some_iff.mp hk).1
        rw [lineW_len] at this
        exact this
      rw [lineW_at hkm] at hk
      obtain ⟨r, g1, g2, g3⟩ := h5 k y hy
      obtain rfl := Option.some.inj hk
      exact ⟨r, g1, g2, g3⟩
    exact ⟨p, as, h1, mw⟩
end
end Sr
set_option Elab.async false
set_option linter.all false
set_option maxRecDepth 100000
set_option maxHeartbeats 4000000
/-! SrL: nested lists that stand at known addresses: copied, spoilt, refilled. -/
namespace Sr
open PySem PySem.Spec PyProof.Rows L2 Evl

def flatD : V → Option PyData
  | .int i => some (.int i)
  | .bl b => some (.bool b)
  | .non => some .none
  | _ => none
abbrev Itm := V × PyData × List Addr
abbrev itA (its : List Itm) : List Addr := its.flatMap fun i => i.2.2
abbrev itV (its : List Itm) : List V := its.map fun i => i.1
abbrev itD (its : List Itm) : List PyData := its.map fun i => i.2.1
/-- v is the data d, its lists stand at the addresses A; at most n lists deep -/
def Nst : Nat → Hp → V → PyData → List Addr → Prop
  | 0, _, v, d, A => flatD v = some d ∧ A = []
  | n + 1, H, v, d, A => (flatD v = some d ∧ A = []) ∨ ∃ (a : Addr) (its : List Itm), v = .ref a ∧ H a = some (.lst (itV its)) ∧ d = .list (itD its) ∧ A = a :: itA its ∧ its.length ≤ 100 ∧ ∀ i ∈ its, Nst n H i.1 i.2.1 i.2.2
theorem Nst.stay : ∀ {n : Nat} {H H' : Hp} {v : V} {d : PyData} {A : List Addr}, Nst n H v d A → (∀ a ∈ A, ∀ xs, H a = some (.lst xs) → H' a = some (.lst xs)) → Nst n H' v d A
  | 0, _, _, _, _, _, h, _ => h
  | n + 1, H, H', v, d, A, h, k => by
    rcases h with h | ⟨a, its, h1, h2, h3, h4, h5, h6⟩
    · exact .inl h
    · exact .inr ⟨a, its, h1, k a (by rw [h4]; exact List.mem_cons_self ..) _ h2, h3, h4, h5, fun i hi => (h6 i hi).stay fun b hb xs => k b (by rw [h4]; exact List.mem_cons_of_mem _ (List.mem_flatMap.mpr ⟨i, hi, hb⟩)) xs⟩
theorem Nst.ex {n : Nat} {H H' : Hp} {v : V} {d : PyData} {A : List Addr} (e : Ex H H') (h : Nst n H v d A) : Nst n H' v d A := h.stay fun a _ xs q => e a _ q
theorem Nst.up : ∀ {n : Nat} {H : Hp} {v : V} {d : PyData} {A : List Addr}, Nst n H v d A → Nst (n + 1) H v d A
  | 0, _, _, _, _, h => .inl h
  | n + 1, H, v, d, A, h => by
    rcases h with h | ⟨a, its, h1, h2, h3, h4, h5, h6⟩
    · exact .inl h
    · exact .inr ⟨a, its, h1, h2, h3, h4, h5, fun i hi => (h6 i hi).up⟩
theorem Nst.live : ∀ {n : Nat} {H : Hp} {v : V} {d : PyData} {A : List Addr}, Nst n H v d A → ∀ a ∈ A, ∃ xs, H a = some (.lst xs)
  | 0, _, _, _, _, h, a, ha => by rw [h.2] at ha; cases ha
  | n + 1, H, v, d, A, h, a, ha => by
    rcases h with h | ⟨b, its, h1, h2, h3, h4, h5, h6⟩
    · rw [h.2] at ha; cases ha
    · rw [h4] at ha
      rcases List.mem_cons.mp ha with rfl | ha
      · exact ⟨_, h2⟩
      · obtain ⟨i, hi, hb⟩ := List.mem_flatMap.mp ha
        exact (h6 i hi).live a hb
theorem flat_dp {K : PySem.W.Frag} {H : Hp} {v : V} {d : PyData} (h : flatD v = some d) : Dp K H v d := by
  cases v <;> cases h
  all_goals first | exact .int _ | exact .bl _ | exact .non
theorem flat_sh {v : V} {d : PyData} {n : Nat} (h : flatD v = some d) : Sh n d := by
  cases v <;> cases h
  all_goals first | exact sh_none | exact sh_int _ | exact sh_bool _
theorem dpAll_its {K : PySem.W.Frag} {H : Hp} : ∀ {its : List Itm}, (∀ i ∈ its, Dp K H i.1 i.2.1) → DpAll K H (itV its) (itD its)
  | [], _ => .nil
  | i :: r, h => .cons (h i (List.mem_cons_self ..)) (dpAll_its fun j hj => h j (List.mem_cons_of_mem _ hj))
theorem Nst.dp {K : PySem.W.Frag} : ∀ {n : Nat} {H : Hp} {v : V} {d : PyData} {A : List Addr}, Nst n H v d A → Dp K H v d
  | 0, _, _, _, _, h => flat_dp h.1
  | n + 1, H, v, d, A, h => by
    rcases h with h | ⟨a, its, rfl, h2, rfl, h4, h5, h6⟩
    · exact flat_dp h.1
    · exact .lst (sq_of h2) (dpAll_its fun i hi => (h6 i hi).dp)
theorem Nst.sh : ∀ {n : Nat} {H : Hp} {v : V} {d : PyData} {A : List Addr}, Nst n H v d A → Sh n d
  | 0, _, _, _, _, h => flat_sh h.1
  | n + 1, H, v, d, A, h => by
    rcases h with h | ⟨a, its, h1, h2, rfl, h4, h5, h6⟩
    · exact flat_sh h.1
    · refine sh_list fun d hd => ?_
      obtain ⟨i, hi, rfl⟩ := List.mem_map.mp hd
      exact (h6 i hi).sh
theorem Nst.split : ∀ {n : Nat} {H : Hp} {v : V} {d : PyData} {A : List Addr}, Nst n H v d A → (flatD v = some d ∧ A = []) ∨ ∃ (m : Nat) (a : Addr) (its : List Itm), n = m + 1 ∧ v = .ref a ∧ H a = some (.lst (itV its)) ∧ d = .list (itD its) ∧ A = a :: itA its ∧ its.length ≤ 100 ∧ ∀ i ∈ its, Nst m H i.1 i.2.1 i.2.2
  | 0, _, _, _, _, h => .inl h
  | n + 1, _, _, _, _, h => by
    rcases h with h | ⟨a, its, h⟩
    · exact .inl h
    · exact .inr ⟨n, a, its, rfl, h⟩
theorem nst_flat {n : Nat} {H : Hp} {v : V} {d : PyData} (h : flatD v = some d) : Nst n H v d [] := by
  cases n with
  | zero => exact ⟨h, rfl⟩
  | succ n => exact .inl ⟨h, rfl⟩
/-- what is new: all of it new since H1, no two lists the same -/
def NewN (n : Nat) (d : PyData) : Hp → V → Hp → Prop := fun H1 v H2 => ∃ A, Nst n H2 v d A ∧ A.Nodup ∧ ∀ a ∈ A, H1 a = none
theorem nst_list {n : Nat} {H : Hp} {v : V} {ds : List PyData} {A : List Addr} (h : Nst (n + 1) H v (.list ds) A) : ∃ (a : Addr) (its : List Itm), v = .ref a ∧ H a = some (.lst (itV its)) ∧ ds = itD its ∧ A = a :: itA its ∧ its.length ≤ 100 ∧ ∀ i ∈ its, Nst n H i.1 i.2.1 i.2.2 := by
  rcases h with h | ⟨a, its, h1, h2, h3, h4⟩
  · have := h.1
    cases v <;> cases this
  · exact ⟨a, its, h1, h2, PyData.list.inj h3, h4⟩
/-- no list of one item stands in another -/
theorem its_apart : ∀ {its : List Itm}, (itA its).Nodup → ∀ {i k : Nat} {t u : Itm}, i < k → its[i]? = some t → its[k]? = some u → ∀ b ∈ t.2.2, b ∉ u.2.2
  | [], _, i, k, t, u, _, h, _ => by simp at h
  | x :: r, hn, i, k, t, u, hlt, hi, hk => by
    have hn' : (x.2.2 ++ itA r).Nodup := hn
    obtain ⟨n1, n2, n3⟩ := List.nodup_append.mp hn'
    cases k with
    | zero => omega
    | succ k =>
      have hk' : r[k]? = some u := hk
      cases i with
      | zero =>
        cases hi
        intro b hb hu
        exact n3 b hb b (List.mem_flatMap.mpr ⟨u, List.mem_of_getElem? hk', hu⟩) rfl
      | succ i => exact its_apart n2 (by omega) hi hk'
theorem its_nodup : ∀ {its : List Itm}, (itA its).Nodup → ∀ t ∈ its, t.2.2.Nodup
  | [], _, t, h => by cases h
  | x :: r, hn, t, h => by
    have hn' : (x.2.2 ++ itA r).Nodup := hn
    obtain ⟨n1, n2, n3⟩ := List.nodup_append.mp hn'
    rcases List.mem_cons.mp h with rfl | h
    · exact n1
    · exact its_nodup n2 t h
/-- what is kept: all that does not stand at A -/
def KeptBut (A : List Addr) (H H' : Hp) : Prop := ∀ b o, b ∉ A → H b = some o → H' b = some o
theorem KeptBut.of {A : List Addr} {H H' : Hp} (e : Ex H H') : KeptBut A H H' := fun b o _ h => e b o h
theorem KeptBut.refl {A : List Addr} {H : Hp} : KeptBut A H H := fun b o _ h => h
theorem KeptBut.trans {A : List Addr} {H H1 H2 : Hp} (a : KeptBut A H H1) (b : KeptBut A H1 H2) : KeptBut A H H2 := fun c o n h => b c o n (a c o n h)
theorem KeptBut.wide {A B : List Addr} {H H1 : Hp} (a : KeptBut A H H1) (h : ∀ b ∈ A, b ∈ B) : KeptBut B H H1 := fun c o n q => a c o (fun z => n (h c z)) q
theorem KeptBut.upd {A : List Addr} {H H1 : Hp} {a : Addr} {o : HO} (k : KeptBut A H H1) (h : a ∈ A) : KeptBut A H (upd H1 a o) := fun c u n q => by
  rw [upd_ne (fun z => n (by rw [z]; exact h))]
  exact k c u n q
theorem Nst.kept {n : Nat} {H H' : Hp} {v : V} {d : PyData} {A B : List Addr} (h : Nst n H v d A) (k : KeptBut B H H') (hd : ∀ a ∈ A, a ∉ B) : Nst n H' v d A := h.stay fun a ha xs q => k a _ (hd a ha) q
section
variable {K : PySem.W.Frag} {σ : L2.St} {H H' : Hp} {ta tb tc te tl tx : TE} {t u : TT} {x y z v : V} {D : Ends} {tu tw tz : TS} {g : TG}
/-- [deep(x) for x in xs] -/
theorem ep_copyN {n : Nat} {a : Addr} {its : List Itm} {j : Nat} {vs : List Nat} (h : Ev tl σ H (.ref a)) (ha : H a = some (.lst (itV its))) (hl : its.length ≤ 100)
    (hw : ∀ x, wipe ((wipe σ vs).set j (some x)) vs = wipe σ vs) (he : ∀ (i : Itm) (H1 : Hp), i ∈ its → Ex H H1 → EvP te ((wipe σ vs).set j (some i.1)) H1 (NewN n i.2.1)) :
    EvP (tLc (iList K tl) (gName j) tYes te vs) σ H (NewN (n + 1) (.list (itD its))) := fun H0 e Q q => ei_list (K := K) h (sq_of ha) H0 e _ fun H1 e1 g1 D hD => by
  have w := walk_list (K := K) (a := a) (xs := itV its)
  rw [List.length_map] at w
  refine lc_it w (fun i H' => Ex H1 H' ∧ ∃ js : List Itm, H' D = some (.lst (itV js)) ∧ itD js = itD (its.take i) ∧ (∀ t ∈ js, Nst n H' t.1 t.2.1 t.2.2) ∧ (itA js).Nodup ∧ ∀ b ∈ itA js, H1 b = none ∧ b ≠ D)
    ⟨Ex.new hD, [], upd_same, rfl, fun t ht => by (cases ht), List.nodup_nil, fun b hb => by (cases hb)⟩ (fun i H' _ p => ex_l p.1 g1) (fun i x Ha Hb hlt p y => ?_) (fun H' p => ?_)
  · obtain ⟨p2, js, p3, p4, p5, p6, p7⟩ := p
    obtain ⟨rfl, hx⟩ := y
    have hi : its[i]? = some its[i] := List.getElem?_eq_getElem hlt
    rw [List.getElem?_map, hi] at hx
    obtain rfl : its[i].1 = x := Option.some.inj hx
    refine ⟨hw _, ?_⟩
    show te ((wipe σ vs).set j (some its[i].1)) Hb fun y H5 => ∃ acc, H5 D = some (.lst acc) ∧ acc.length < sizeLine ∧ _
    refine he its[i] Hb (List.getElem_mem hlt) ((e.trans e1).trans p2) Hb (Ex.refl Hb) _ fun y H5 e5 ⟨A, o1, o2, o3⟩ => ⟨_, e5 D _ p3, ?_, Ex.mut (p2.trans e5) hD, js ++ [(y, its[i].2.1, A)], ?_, ?_, fun t ht => ?_, ?_, fun b hb => ?_⟩
    · have : js.length = (its.take i).length := by
        have := congrArg List.length p4
        rwa [List.length_map, List.length_map] at this
      rw [List.length_map, this, List.length_take]
      exact sz_lt (by omega)
    · rw [upd_same]
      show some (HO.lst _) = some (HO.lst ((js ++ [(y, its[i].2.1, A)]).map fun i => i.1))
      rw [List.map_append]
      rfl
    · show (js ++ [(y, its[i].2.1, A)]).map (fun i => i.2.1) = (its.take (i + 1)).map fun i => i.2.1
      rw [List.map_append, take_snoc hi, List.map_append]
      exact congrArg (· ++ [its[i].2.1]) p4
    · have nD : ∀ b ∈ t.2.2, b ≠ D := fun b hb => by
        rcases List.mem_append.mp ht with ht | ht
        · exact (p7 b (List.mem_flatMap.mpr ⟨t, ht, hb⟩)).2
        · obtain rfl := List.mem_singleton.mp ht
          exact fun z => by rw [z] at hb; rw [o3 D hb] at p3; cases p3
      have h5 : Nst n H5 t.1 t.2.1 t.2.2 := by
        rcases List.mem_append.mp ht with ht | ht
        · exact (p5 t ht).ex e5
        · obtain rfl := List.mem_singleton.mp ht
          exact o1
      exact h5.stay fun b hb xs q => by rw [upd_ne (nD b hb)]; exact q
    · show ((js ++ [(y, its[i].2.1, A)]).flatMap fun i => i.2.2).Nodup
      rw [List.flatMap_append]
      refine List.nodup_append.mpr ⟨p6, by rw [List.flatMap_cons, List.flatMap_nil, List.append_nil]; exact o2, fun b hb c hc z => ?_⟩
      rw [List.flatMap_cons, List.flatMap_nil, List.append_nil] at hc
      obtain ⟨t, ht, hbt⟩ := List.mem_flatMap.mp hb
      obtain ⟨xs, hl⟩ := (p5 t ht).live b hbt
      rw [z, o3 c hc] at hl
      cases hl
    · have hb' : b ∈ (js ++ [(y, its[i].2.1, A)]).flatMap fun i => i.2.2 := hb
      rw [List.flatMap_append] at hb'
      rcases List.mem_append.mp hb' with hb | hb
      · exact p7 b hb
      · rw [List.flatMap_cons, List.flatMap_nil, List.append_nil] at hb
        exact ⟨fresh_back p2 (o3 b hb), fun z => by rw [z] at hb; rw [o3 D hb] at p3; cases p3⟩
  · obtain ⟨p2, js, p3, p4, p5, p6, p7⟩ := p
    rw [List.take_length] at p4
    refine q (.ref D) H' (e1.trans p2) ⟨D :: itA js, .inr ⟨D, js, rfl, p3, by rw [p4], rfl, ?_, p5⟩, List.nodup_cons.mpr ⟨fun z => (p7 D z).2 rfl, p6⟩, fun b hb => ?_⟩
    · have := congrArg List.length p4
      rw [List.length_map, List.length_map] at this
      omega
    · rcases List.mem_cons.mp hb with rfl | hb
      · exact fresh_back e1 hD
      · exact fresh_back e1 (p7 b hb).1
/-- deep(x) -/
def sp_deep (n : Nat) : Sp := spOf (α := V × PyData × List Addr) (fun a vs H => vs = [a.1] ∧ Nst n H a.1 a.2.1 a.2.2) (fun a H v H' => NewN n a.2.1 H v H')
theorem ep_deep {n : Nat} {d : PyData} {A : List Addr} (h : Ev te σ H v) (hn : Nst n H v d A) : EvP (tCall (sp_deep n) [] E0 (tCons te tNil)) σ H (NewN n d) :=
  ep_callA (v, d, A) (ea_cons h ea_nil) (fun H2 e => ⟨rfl, hn.ex e⟩) fun H1 H0 v H2 _ e0 _ ⟨A', g1, g2, g3⟩ => ⟨A', g1, g2, fun a ha => fresh_back e0 (g3 a ha)⟩
/-- spoilt(x): all that is not x's own stays -/
def sp_spoilt (n : Nat) : Sp := fun vs H Q _ => ∃ v d A, vs = [v] ∧ Nst n H v d A ∧ A.Nodup ∧ ∀ H', KeptBut A H H' → Q .non H'
/-- xs.pop() -/
theorem s_pop {l : Addr} {xs : List V} (hl : H l = some (.lst xs)) (ha : Ev ta σ H (.ref l)) (hx : 0 < xs.length) (k : ∀ H1, Ex H H1 → D.nx σ (upd H1 l (.lst xs.dropLast))) : tDrop (tBM0 K "list" rPop ta) D σ H :=
  ha H (Ex.refl H) _ fun H1 e1 => ⟨Or.inl ⟨rfl, xs, sq_of (e1 l _ hl)⟩, l, xs, xs[xs.length - 1]'(by omega), rfl, rfl, e1 l _ hl, List.getElem?_eq_getElem _, k H1 e1⟩
/-- (xs, ys), both made on the way -/
theorem ep_tup2L {xs ys : List V} (h1 : EvL ta σ H xs) (h2 : EvL tb σ H ys) : EvP (tTup (tCons ta (tCons tb tNil))) σ H (fun H1 v H2 => ∃ t p q, v = .ref t ∧ H1 t = none ∧ H2 t = some (.tup [.ref p, .ref q]) ∧ H1 p = none ∧ H2 p = some (.lst xs) ∧ H1 q = none ∧ H2 q = some (.lst ys)) := fun H1 e Q k =>
  h1 H1 e _ fun p H2 np e2 hp => h2 H2 (e.trans e2) _ fun q H3 nq e3 hq => ⟨sz_of (show 2 ≤ 100000 by decide), fun t nt => k _ _ ((e2.trans e3).trans (Ex.new nt)) ⟨t, p, q, rfl, fresh_back (e2.trans e3) nt, upd_same, np, Ex.new nt _ _ (e3 _ _ hp), fresh_back e2 nq, Ex.new nt _ _ hq⟩⟩
/-- isinstance(x, (list, tuple)) -/
theorem ev_isiT {S : String} {b c : Bool} (hx : Ev ta σ H x) (h : ∀ H1, Ex H H1 → TyX K H1 x (.type S)) (h1 : kitB S "list" = some b) (h2 : kitB S "tuple" = some c) : Ev (tCB (rIsiT K) (tCons ta (tCons (tTup (tCons (tC (.ty "list")) (tCons (tC (.ty "tuple")) tNil))) tNil))) σ H (.bl (b || c)) :=
  fun H1 e Q q => hx H1 e _ fun H2 e2 => eu_tup (ea_cons ev_c (ea_cons ev_c ea_nil)) (show 2 ≤ 100000 by decide) H2 (e.trans e2) _ fun p H3 _ e3 hp =>
    ⟨x, p, [.ty "list", .ty "tuple"], .type S, [.type "list", .type "tuple"], b || c, rfl, hp, .cons (.ty _) (.cons (.ty _) .nil), h H3 ((e.trans e2).trans e3), kitAny_cons (kit_ty h1) (fun hb => kitAny_cons (kit_ty h2) (fun hc => by rw [hb, hc]; exact kitAny_nil) fun hc => by rw [hc, Bool.or_true]) (fun hb => by rw [hb, Bool.true_or]), q H3 (e2.trans e3)⟩
/-- the kind of a flat value -/
theorem flat_ty {d : PyData} (h : flatD v = some d) : ∃ S, (∀ H1, TyX K H1 v (.type S)) ∧ kitB S "list" = some false ∧ kitB S "tuple" = some false := by
  cases v <;> cases h
  · exact ⟨"NoneType", fun _ => .base .non, by decide +kernel, by decide +kernel⟩
  · exact ⟨"bool", fun _ => .base (.bl _), by decide +kernel, by decide +kernel⟩
  · exact ⟨"int", fun _ => .base (.int _), by decide +kernel, by decide +kernel⟩
/-- two(x) -/
def sp_two : Sp := spOf (α := V) (fun a vs _ => vs = [a]) (fun a H v H' => ∃ t, v = .ref t ∧ H t = none ∧ H' t = some (.tup [a, a]))
/-- put(handed, some) -/
def sp_put : Sp := fun vs H Q _ => ∃ (h s : V) (dh ds : List PyData) (Ah As : List Addr), vs = [h, s] ∧ Nst 3 H h (.list dh) Ah ∧ Ah.Nodup ∧ Nst 3 H s (.list ds) As ∧ (∀ b ∈ Ah, b ∉ As) ∧ dh.length = ds.length ∧ (∀ d ∈ dh, ∃ es, d = .list es) ∧ (∀ d ∈ ds, ∃ es, d = .list es) ∧
  ∀ A' H', Nst 3 H' h (.list ds) A' → A'.Nodup → (∀ b ∈ A', b ∈ Ah ∨ H b = none) → KeptBut Ah H H' → Q .non H'
end
theorem eqv_nil (ds : List PyData) : PyData.eqv (.list ds) (.list []) = ds.isEmpty := by
  cases ds with
  | nil => rfl
  | cons d r => rfl
/-- put's loop: i rows are refilled -/
structure PutI (H : Hp) (a b : Addr) (its jts : List Itm) (i : Nat) (σ' : L2.St) (H' : Hp) : Prop where
  st : ∃ w1 w2, σ' = [some (.ref a), some (.ref b), w1, w2]
  kept : KeptBut (a :: itA its) H H'
  top : H' a = some (.lst (itV its))
  ex : ∃ done : List Itm, done.length = i ∧ itV done = itV (its.take i) ∧ itD done = itD (jts.take i) ∧ (∀ t ∈ done, Nst 2 H' t.1 t.2.1 t.2.2) ∧ (∀ t ∈ its.drop i, Nst 2 H' t.1 t.2.1 t.2.2) ∧ (itA done ++ itA (its.drop i)).Nodup ∧ a ∉ itA done ∧ ∀ c ∈ itA done, c ∈ a :: itA its ∨ H c = none
section
variable {H H' : Hp} {a b r : Addr} {its jts : List Itm} {i : Nat} {σ' : L2.St}
theorem PutI.row (p : PutI H a b its jts i σ' H') (hi : i < its.length) (hl : ∀ d ∈ itD its, ∃ es, d = .list es) : ∃ (r : Addr) (rs : List Itm), its[i].1 = .ref r ∧ H' r = some (.lst (itV rs)) ∧ its[i].2.1 = .list (itD rs) ∧ its[i].2.2 = r :: itA rs ∧ rs.length ≤ 100 ∧ ∀ k ∈ rs, Nst 1 H' k.1 k.2.1 k.2.2 := by
  obtain ⟨done, p1, p2, p3, p4, p5, p6, p7, p8⟩ := p.ex
  have h := p5 its[i] (by rw [List.drop_eq_getElem_cons hi]; exact List.mem_cons_self ..)
  obtain ⟨es, hes⟩ := hl its[i].2.1 (List.mem_map.mpr ⟨_, List.getElem_mem hi, rfl⟩)
  rw [hes] at h
  obtain ⟨r, rs, g1, g2, g3, g4, g5, g6⟩ := nst_list h
  exact ⟨r, rs, g1, g2, by rw [hes, g3], g4, g5, g6⟩
theorem PutI.rowne (p : PutI H a b its jts i σ' H') (hi : i < its.length) {rs : List Itm} (h4 : its[i].2.2 = r :: itA rs) : ∀ k ∈ rs, ∀ c ∈ k.2.2, c ≠ r := fun k hk c hc z => by
  obtain ⟨done, p1, p2, p3, p4, p5, p6, p7, p8⟩ := p.ex
  have h := (List.nodup_append.mp p6).2.1
  have h2 := its_nodup h its[i] (by rw [List.drop_eq_getElem_cons hi]; exact List.mem_cons_self ..)
  rw [h4] at h2
  exact (List.nodup_cons.mp h2).1 (List.mem_flatMap.mpr ⟨k, hk, z ▸ hc⟩)
theorem PutI.step (p : PutI H a b its jts i σ' H') (hi : i < its.length) (hi2 : i < jts.length) {rs ks : List Itm} {H2 H5 : Hp} {σ2 : L2.St} (hr1 : its[i].1 = .ref r) (hr4 : its[i].2.2 = r :: itA rs) (hd : jts[i].2.1 = .list (itD ks))
    (k5 : ∀ c o, c ≠ r → H' c = some o → H5 c = some o) (kf : ∀ c ∈ itA ks, H2 c = none) (kb : ∀ c, H2 c = none → ∀ o, H' c ≠ some o) (h2 : H2 r = some (.lst [])) (kn : (itA ks).Nodup) (ko : ∀ k ∈ ks, Nst 1 H5 k.1 k.2.1 k.2.2) (kl : ks.length ≤ 100) (na : a ∉ itA its) (hs : ∃ w1 w2, σ2 = [some (.ref a), some (.ref b), w1, w2]) :
    PutI H a b its jts (i + 1) σ2 (upd H5 r (.lst ([] ++ itV ks))) := by
  obtain ⟨done, p1, p2, p3, p4, p5, p6, p7, p8⟩ := p.ex
  have ed : its.drop i = its[i] :: its.drop (i + 1) := List.drop_eq_getElem_cons hi
  have hrI : r ∈ itA its := List.mem_flatMap.mpr ⟨_, List.getElem_mem hi, by rw [hr4]; exact List.mem_cons_self ..⟩
  have nar : a ≠ r := fun z => na (z ▸ hrI)
  have hnr : ∀ c ∈ itA ks, c ≠ r := fun c hc z => by rw [z] at hc; rw [kf r hc] at h2; cases h2
  have nlive : ∀ c ∈ itA ks, ∀ o, H' c ≠ some o := fun c hc => kb c (kf c hc)
  rw [ed] at p5 p6
  have e6 : itA (its[i] :: its.drop (i + 1)) = (r :: itA rs) ++ itA (its.drop (i + 1)) := by
    show its[i].2.2 ++ itA (its.drop (i + 1)) = _
    rw [hr4]
  rw [e6] at p6
  obtain ⟨n1, n2, n3⟩ := List.nodup_append.mp p6
  obtain ⟨n4, n5, n6⟩ := List.nodup_append.mp n2
  have dr : ∀ t ∈ done, ∀ c ∈ t.2.2, c ≠ r := fun t ht c hc z => n3 c (List.mem_flatMap.mpr ⟨t, ht, hc⟩) r (List.mem_append.mpr (.inl (List.mem_cons_self ..))) z
  have rr : ∀ t ∈ its.drop (i + 1), ∀ c ∈ t.2.2, c ≠ r := fun t ht c hc z => n6 r (List.mem_cons_self ..) c (List.mem_flatMap.mpr ⟨t, ht, hc⟩) z.symm
  have up5 : ∀ {n : Nat} {t : Itm}, Nst n H' t.1 t.2.1 t.2.2 → (∀ c ∈ t.2.2, c ≠ r) → Nst n (upd H5 r (.lst ([] ++ itV ks))) t.1 t.2.1 t.2.2 := fun {n t} h hn => h.stay fun c hc xs hx => by
    rw [upd_ne (hn c hc)]
    exact k5 c _ (hn c hc) hx
  refine ⟨hs, fun c o nc hc => ?_, ?_, done ++ [(.ref r, .list (itD ks), r :: itA ks)], by rw [List.length_append, p1]; rfl, ?_, ?_, fun t ht => ?_, fun t ht => up5 (p5 t (List.mem_cons_of_mem _ ht)) (rr t ht), ?_, fun z => ?_, fun c hc => ?_⟩
  · have ncr : c ≠ r := fun z => nc (z ▸ List.mem_cons_of_mem _ hrI)
    rw [upd_ne ncr]
    exact k5 c o ncr (p.kept c o nc hc)
  · rw [upd_ne nar]
    exact k5 a _ nar p.top
  · show (done ++ [(V.ref r, PyData.list (itD ks), r :: itA ks)]).map (fun i => i.1) = (its.take (i + 1)).map fun i => i.1
    rw [List.map_append, take_snoc (List.getElem?_eq_getElem hi), List.map_append]
    show itV done ++ [V.ref r] = itV (its.take i) ++ [its[i].1]
    rw [p2, hr1]
  · show (done ++ [(V.ref r, PyData.list (itD ks), r :: itA ks)]).map (fun i => i.2.1) = (jts.take (i + 1)).map fun i => i.2.1
    rw [List.map_append, take_snoc (List.getElem?_eq_getElem hi2), List.map_append]
    show itD done ++ [PyData.list (itD ks)] = itD (jts.take i) ++ [jts[i].2.1]
    rw [p3, hd]
  · rcases List.mem_append.mp ht with ht | ht
    · exact up5 (p4 t ht) (dr t ht)
    · obtain rfl := List.mem_singleton.mp ht
      exact .inr ⟨r, ks, rfl, upd_same, rfl, rfl, kl, fun k hk => (ko k hk).stay fun c hc xs hx => by
        rw [upd_ne (hnr c (List.mem_flatMap.mpr ⟨k, hk, hc⟩))]
        exact hx⟩
  · show ((done ++ [(V.ref r, PyData.list (itD ks), r :: itA ks)]).flatMap (fun i => i.2.2) ++ itA (its.drop (i + 1))).Nodup
    rw [List.flatMap_append, List.flatMap_cons, List.flatMap_nil, List.append_nil, List.append_assoc]
    refine List.nodup_append.mpr ⟨n1, List.nodup_append.mpr ⟨List.nodup_cons.mpr ⟨fun z => hnr r z rfl, kn⟩, n5, fun c hc e he z => ?_⟩, fun c hc e he z => ?_⟩
    · rcases List.mem_cons.mp hc with rfl | hc
      · exact n6 c (List.mem_cons_self ..) e he z
      · obtain ⟨t, ht, htc⟩ := List.mem_flatMap.mp he
        obtain ⟨xs, hx⟩ := (p5 t (List.mem_cons_of_mem _ ht)).live e htc
        exact nlive c hc _ (z ▸ hx)
    · obtain ⟨t, ht, htc⟩ := List.mem_flatMap.mp hc
      obtain ⟨xs, hx⟩ := (p4 t ht).live c htc
      rcases List.mem_append.mp he with he | he
      · rcases List.mem_cons.mp he with rfl | he
        · exact dr t ht c htc z
        · exact nlive e he _ (z ▸ hx)
      · exact n3 c (List.mem_flatMap.mpr ⟨t, ht, htc⟩) e (List.mem_append.mpr (.inr he)) z
  · have z' : a ∈ (done ++ [(V.ref r, PyData.list (itD ks), r :: itA ks)]).flatMap fun i => i.2.2 := z
    rw [List.flatMap_append, List.flatMap_cons, List.flatMap_nil, List.append_nil] at z'
    rcases List.mem_append.mp z' with z' | z'
    · exact p7 z'
    · rcases List.mem_cons.mp z' with z' | z'
      · exact nar z'
      · exact nlive a z' _ p.top
  · have hc' : c ∈ (done ++ [(V.ref r, PyData.list (itD ks), r :: itA ks)]).flatMap fun i => i.2.2 := hc
    rw [List.flatMap_append, List.flatMap_cons, List.flatMap_nil, List.append_nil] at hc'
    rcases List.mem_append.mp hc' with hc' | hc'
    · exact p8 c hc'
    · rcases List.mem_cons.mp hc' with rfl | hc'
      · exact .inl (List.mem_cons_of_mem _ hrI)
      · by_cases hm : c ∈ a :: itA its
        · exact .inl hm
        · refine .inr ?_
          cases hx : H c with
          | none => rfl
          | some o => exact absurd (p.kept c o hm hx) (nlive c hc' o)
theorem PutI.done {Q : VK} (p : PutI H a b its jts its.length σ' H') (hlen : its.length = jts.length) (h100 : its.length ≤ 100)
    (q : ∀ A' H', Nst 3 H' (.ref a) (.list (itD jts)) A' → A'.Nodup → (∀ b ∈ A', b ∈ a :: itA its ∨ H b = none) → KeptBut (a :: itA its) H H' → Q .non H') : Q .non H' := by
  obtain ⟨done, p1, p2, p3, p4, p5, p6, p7, p8⟩ := p.ex
  rw [List.take_length] at p2
  rw [hlen, List.take_length] at p3
  refine q (a :: itA done) H' (.inr ⟨a, done, rfl, by rw [p2]; exact p.top, by rw [p3], rfl, ?_, p4⟩) (List.nodup_cons.mpr ⟨p7, (List.nodup_append.mp p6).1⟩) (fun c hc => ?_) p.kept
  · rw [p1]
    exact h100
  · rcases List.mem_cons.mp hc with rfl | hc
    · exact .inl (List.mem_cons_self ..)
    · exact p8 c hc
end
/-! ### webs and stones among them -/
theorem nst_int {n : Nat} {H : Hp} {v : V} {i : Int} {A : List Addr} (h : Nst n H v (.int i) A) : v = .int i ∧ A = [] := by
  rcases h.split with ⟨h, h2⟩ | ⟨m, a, its, _, _, _, h, _⟩
  · refine ⟨?_, h2⟩
    cases v <;> cases h
    rfl
  · cases h
theorem its_ints {n : Nat} {H : Hp} : ∀ {its : List Itm} {st : List Nat}, (∀ i ∈ its, Nst n H i.1 i.2.1 i.2.2) → st.map (fun n : Nat => PyData.int (n : Int)) = itD its → itV its = st.map nv
  | [], [], _, _ => rfl
  | [], _ :: _, _, h => by cases h
  | _ :: _, [], _, h => by cases h
  | t :: r, x :: st, h, e => by
    have e1 : PyData.int (x : Int) = t.2.1 := (List.cons.inj e).1
    have h1 := h t (List.mem_cons_self ..)
    rw [← e1] at h1
    show t.1 :: itV r = nv x :: st.map nv
    rw [(nst_int h1).1, its_ints (fun i hi => h i (List.mem_cons_of_mem _ hi)) (List.cons.inj e).2]
theorem nst_LI {n : Nat} {H : Hp} {v : V} {st : List Nat} {A : List Addr} (h : Nst (n + 1) H v (dI st) A) : ∃ a, v = .ref a ∧ H a = some (.lst (st.map nv)) := by
  obtain ⟨a, its, h1, h2, h3, _, _, h6⟩ := nst_list h
  exact ⟨a, h1, by rw [h2, its_ints h6 h3]⟩
theorem its_rows {n : Nat} {H : Hp} : ∀ {its : List Itm} {web : List (List Nat)}, (∀ i ∈ its, Nst (n + 1) H i.1 i.2.1 i.2.2) → web.map dI = itD its → ∃ as : List Addr, itV its = as.map V.ref ∧ as.length = web.length ∧ ∀ (i : Nat) (r : Addr) (row : List Nat), as[i]? = some r → web[i]? = some row → H r = some (.lst (row.map nv))
  | [], [], _, _ => ⟨[], rfl, rfl, fun i r row h => by simp at h⟩
  | [], _ :: _, _, h => by cases h
  | _ :: _, [], _, h => by cases h
  | t :: r, x :: web, h, e => by
    have e1 : dI x = t.2.1 := (List.cons.inj e).1
    have h1 := h t (List.mem_cons_self ..)
    rw [← e1] at h1
    obtain ⟨a, g1, g2⟩ := nst_LI h1
    obtain ⟨as, k1, k2, k3⟩ := its_rows (its := r) (web := web) (fun i hi => h i (List.mem_cons_of_mem _ hi)) (List.cons.inj e).2
    refine ⟨a :: as, ?_, by rw [List.length_cons, List.length_cons, k2], fun i r row ha hb => ?_⟩
    · show t.1 :: itV r = V.ref a :: as.map V.ref
      rw [g1, k1]
    · cases i with
      | zero =>
        cases ha
        cases hb
        exact g2
      | succ i => exact k3 i r row ha hb
theorem nst_LL {K : PySem.W.Frag} {n : Nat} {H : Hp} {v : V} {web : List (List Nat)} {A : List Addr} (h : Nst (n + 2) H v (dW web) A) : ∃ a, v = .ref a ∧ LL K H a web := by
  obtain ⟨a, its, h1, h2, h3, _, _, h6⟩ := nst_list h
  obtain ⟨as, k1, k2, k3⟩ := its_rows h6 h3
  exact ⟨a, h1, as, sq_of (by rw [h2, k1]), k2, fun i r row ha hb => sq_of (k3 i r row ha hb)⟩
def kindsB (b : Option Bool) : List Bool := [decide (b = some true), decide (b = some false), decide (b = none)]
/-- the law's own told -/
def sp_ltold9 (K : PySem.W.Frag) : Sp := spOf (α := (Addr × Webs) × (Addr × List Nat)) (fun a vs H => vs = [.ref a.1.1, .ref a.2.1] ∧ WS K H a.1.1 a.1.2 a.2.1 a.2.2 ∧ ∃ A, Nst 2 H (.ref a.1.1) (dW a.1.2) A)
  (fun a H v H' => ∃ t p q, v = .ref t ∧ H t = none ∧ H' t = some (.tup [.ref p, .ref q]) ∧ H p = none ∧ H' p = some (.lst ((kindsB (wrd a.1.2 a.2.2) ++ [true]).map V.bl)) ∧ H q = none ∧ H' q = some (.lst []))
end Sr
set_option Elab.async false
set_option linter.all false
set_option maxRecDepth 100000
set_option maxHeartbeats 4000000
/-! SrN: lambdas with parameters that are kept in lists and called elsewhere; the maker's cells pinned while other defs run. -/
namespace Sr
open PySem PySem.Spec PyProof.Rows L2 Evl LamX NdefX

/-! ### exact objects -/
def anyO : HO := .ext fun _ => True
abbrev exO (o : Obj) : HO := .frz o anyO
theorem ok_exO {P : Program} {w : World} {H : Hp} {h : Heap} {a : Addr} {o : Obj} (e : h.get? a = some o) : ObjOk P w H h a (exO o) := ⟨e, trivial, ⟨o, e⟩, fun _ _ _ _ => trivial⟩
theorem at_exO {P : Program} {w : World} {H : Hp} {h : Heap} {a : Addr} {o : Obj} (k : HOk P w H h) (e : H a = some (exO o)) : h.get? a = some o := (k a _ e).1
def pin (cs : Addr → Option Obj) (H : Hp) : Hp := fun b => match cs b with
  | some o => some (exO o)
  | none => H b
def unp (cs : Addr → Option Obj) (H : Hp) : Hp := fun b => match cs b with
  | some _ => none
  | none => H b
section
variable {P : Program} {w : World} {cs : Addr → Option Obj} {H H' : Hp} {h h' : Heap} {b : Addr} {o : Obj} {fs : List Addr} {u : HO}
theorem pin_in (e : cs b = some o) : pin cs H b = some (exO o) := by unfold pin; rw [e]
theorem pin_out (e : cs b = none) : pin cs H b = H b := by unfold pin; rw [e]
theorem unp_in (e : cs b = some o) : unp cs H b = none := by unfold unp; rw [e]
theorem unp_out (e : cs b = none) : unp cs H b = H b := by unfold unp; rw [e]
theorem unp_none (e : H b = none) : unp cs H b = none := by
  cases q : cs b with
  | none => rw [unp_out q]; exact e
  | some o => exact unp_in q
theorem unp_some (e : unp cs H b = some u) : cs b = none ∧ H b = some u := by
  cases q : cs b with
  | none => rw [unp_out q] at e; exact ⟨rfl, e⟩
  | some o => rw [unp_in q] at e; cases e
/-- the pinned things are taken out -/
theorem hok_unp (k : HOk P w H h) (hc : ∀ b o, cs b = some o → H b = some (exO o)) : HOk P w (unp cs H) h := fun b u e => by
  obtain ⟨q, e1⟩ := unp_some e
  refine (k b u e1).stay (fun _ _ _ z => z) (fun d z => ?_) fun d xs z => ?_
  · cases qd : cs d with
    | none => rw [unp_out qd]; exact z
    | some o => rw [hc d o qd] at z; cases z
  · cases qd : cs d with
    | none => rw [unp_out qd]; exact z
    | some o => rw [hc d o qd] at z; cases z
/-- .. and put in -/
theorem hok_pin (k : HOk P w H h) (hn : ∀ b o, cs b = some o → H b = none) (hg : ∀ b o, cs b = some o → h.get? b = some o) : HOk P w (pin cs H) h := fun b u e => by
  cases q : cs b with
  | some o =>
    rw [pin_in q] at e
    cases e
    exact ok_exO (hg b o q)
  | none =>
    rw [pin_out q] at e
    refine (k b u e).stay (fun _ _ _ z => z) (fun d z => ?_) fun d xs z => ?_
    · cases qd : cs d with
      | none => rw [pin_out qd]; exact z
      | some o => rw [hn d o qd] at z; cases z
    · cases qd : cs d with
      | none => rw [pin_out qd]; exact z
      | some o => rw [hn d o qd] at z; cases z
/-- a run without them, seen with them -/
theorem un_pin (U : Un fs [] (unp cs H) H' h h') (hc : ∀ b o, cs b = some o → H b = some (exO o)) : Un fs [] H (pin cs H') h h' where
  keep := fun b o e n hb hx => U.keep b o e (unp_none n) hb hx
  slot := fun b o e n hb hx => U.slot b o e (unp_none n) hb hx
  free := fun b o e n hx => by
    cases q : cs b with
    | none => rw [pin_out q]; exact U.free b o e (unp_none n) hx
    | some o' => rw [hc b o' q] at n; cases n
  there := U.there
  tups := fun b xs e => by
    cases q : cs b with
    | none => rw [pin_out q]; exact U.tups b xs (by rw [unp_out q]; exact e)
    | some o' => rw [hc b o' q] at e; cases e
  frzs := fun b o u e => by
    cases q : cs b with
    | none => rw [pin_out q]; exact U.frzs b o u (by rw [unp_out q]; exact e)
    | some o' => rw [pin_in q, ← hc b o' q]; exact e
  tbls := fun b ps e => by
    cases q : cs b with
    | none =>
      obtain ⟨more, z⟩ := U.tbls b ps (by rw [unp_out q]; exact e)
      exact ⟨more, by rw [pin_out q]; exact z⟩
    | some o' => rw [hc b o' q] at e; cases e
/-- a run with them, seen without -/
theorem un_unp (U : Un fs [] (pin cs H) H' h h') (k : HOk P w H' h') (hn : ∀ b o, cs b = some o → H b = none) (hg : ∀ b o, cs b = some o → h.get? b = some o) (hf : ∀ b o, cs b = some o → b ∉ fs) : Un fs [] H (unp cs H') h h' where
  keep := fun b o e n hb hx => by
    cases q : cs b with
    | none => exact U.keep b o e (by rw [pin_out q]; exact n) hb hx
    | some o' =>
      have z := at_exO k (U.frzs b o' anyO (pin_in q))
      rw [hg b o' q] at e
      cases e
      exact z
  slot := fun b o e n hb hx => by
    cases q : cs b with
    | none => exact U.slot b o e (by rw [pin_out q]; exact n) hb hx
    | some o' => exact absurd hb (hf b o' q)
  free := fun b o e n hx => by
    cases q : cs b with
    | none => rw [unp_out q]; exact U.free b o e (by rw [pin_out q]; exact n) hx
    | some o' => exact unp_in q
  there := U.there
  tups := fun b xs e => by
    cases q : cs b with
    | none => rw [unp_out q]; exact U.tups b xs (by rw [pin_out q]; exact e)
    | some o' => rw [hn b o' q] at e; cases e
  frzs := fun b o u e => by
    cases q : cs b with
    | none => rw [unp_out q]; exact U.frzs b o u (by rw [pin_out q]; exact e)
    | some o' => rw [hn b o' q] at e; cases e
  tbls := fun b ps e => by
    cases q : cs b with
    | none =>
      obtain ⟨more, z⟩ := U.tbls b ps (by rw [pin_out q]; exact e)
      exact ⟨more, by rw [unp_out q]; exact z⟩
    | some o' => rw [hn b o' q] at e; cases e
theorem hok_unp' (U : Un fs [] (pin cs H) H' h h') (k : HOk P w H' h') : HOk P w (unp cs H') h' := hok_unp k fun b o q => U.frzs b o anyO (pin_in q)
theorem env0_unp {K : PySem.W.Frag} {mg : Str → Option Value} {base : Heap} {A : Around} {up : List Env} {s : Shared} (e : Env0 P w K mg base A up s H) (hc : ∀ b o, cs b = some o → H b = some (exO o)) : Env0 P w K mg base A up s (unp cs H) :=
  ⟨e.frames, e.mod, fun b o q => ⟨(e.bs b o q).1, unp_none (e.bs b o q).2⟩, e.bsz, e.funs, fun b q => unp_none (e.frf b q), hok_unp e.hok hc, e.bare⟩
theorem env0_pin {K : PySem.W.Frag} {mg : Str → Option Value} {base : Heap} {A : Around} {up : List Env} {s : Shared} (e : Env0 P w K mg base A up s H) (hn : ∀ b o, cs b = some o → H b = none) (hg : ∀ b o, cs b = some o → s.heap.get? b = some o) (hf : ∀ b o, cs b = some o → b ∉ frs up) (hb : ∀ b o, cs b = some o → base.get? b = none) : Env0 P w K mg base A up s (pin cs H) :=
  ⟨e.frames, e.mod, fun b o q => ⟨(e.bs b o q).1, by
    cases z : cs b with
    | none => rw [pin_out z]; exact (e.bs b o q).2
    | some o' => rw [hb b o' z] at q; cases q⟩, e.bsz, e.funs, fun b q => by
    cases z : cs b with
    | none => rw [pin_out z]; exact e.frf b q
    | some o' => exact absurd q (hf b o' z), hok_pin e.hok hn hg, e.bare⟩
end

/-! ### lambdas -/
abbrev lamObj (F : NF) (e : Expr) (pm ctv : Value) : Obj := PySem.W.kla_obj F.name F.qual F.params e F.scope F.cl pm F.c ctv
section
variable {X : Cx} {pins : List (Addr × Obj)} {σ : L2.St} {H : Hp} {s : Shared}
theorem inv_lam {F : NF} {e : Expr} {pm ctv : Value} {t' : Nat} (I : Inv X pins σ H s) : Inv X pins σ (upd H s.heap.objs.size (exO (lamObj F e pm ctv))) { s with heap := s.heap.push (lamObj F e pm ctv), toks := t' } :=
  I.laid (a := s.heap.objs.size) (fun b u q => Heap.get?_push_of_some _ q) (Nat.le_refl _) (ok_exO (Heap.get?_push_size _ rfl))
/-- a lambda is made: its object is known from now on -/
theorem lam_make3 {T : List (Addr × Str)} {c P : Addr} {params : Arguments} {body : Expr} {scope : Scope} {pos : Pos} {E : Value → Shared → Prop} {Q : Value → Shared → Prop} (I : Inv X pins σ H s) (TB : TabB X.base X.mg c P) (hcode : X.env.code = .ref c)
    (hm : (P, X.env.qual ++ "<lambda>") ∈ T) (hu : ∀ p ∈ T, p.1 = P → p.2 = X.env.qual ++ "<lambda>") (hT : Tabs T H) (hdef : defaultsOf params X.env = ([], [])) (hfree : ∀ y ∈ scope.names, y.2 = .free → ∃ c, X.env.cells.lookup y.1 = some c)
    (h : ∀ (f c' : Addr) (pm ctv : Value) (H1 : Hp) (s' : Shared), Inv X pins σ H1 s' → ExtN H H1 → Tabs T H1 → H f = none → H1 f = some (exO (lamObj ⟨"<lambda>", X.env.qual ++ "<lambda>", params, [], scope, cloFrom X.env.cells scope.names [], c'⟩ body pm ctv)) → H1 c' = some (CodeO c' (X.env.qual ++ "<lambda>")) → Q (.ref f) s') :
    wpAny (model X.prog X.w) X.A (eval (.Lambda params body scope pos) X.env) Q E s := by
  obtain ⟨ps, hP, ht, ha⟩ := hT _ hm
  refine PySem.W.kla_eval hdef ?_
  have bP : s.heap.BuiltinsAt X.mg P := TB.bm.keeps I.bk
  have hP' : s.heap.get? P = some { cls := .none, data := .fields ps } := I.hok P _ hP
  cases hc : codeAmong pos ps.toList with
  | none =>
    refine PySem.W.kla_makeFunction (mg := X.mg) (c := c) (P := P) (ps := ps) (closure_ok hfree) I.ok.glob (I.mod.glob.keeps I.bk) hcode (TB.code.keeps I.bk) hP' ht hc TB.gP bP fun c' ctv h' tk hx hge hlt hrec htb => ?_
    obtain ⟨c2, oc, vs, t, e2, hoc, hd, hv⟩ := hrec
    cases e2
    have nC : H c' = none := I.hok.fresh hge
    have I1 := inv_table (t' := tk) (more := #[rawInt pos.line, rawInt pos.col, .ref c']) (h' := h') I hP (fun b o hb e => hx b o hb e) htb hge ⟨oc, vs, t, hoc, hd, hv⟩
    have hE : ExtN H (upd (upd H P (.tbl (ps ++ #[rawInt pos.line, rawInt pos.col, .ref c']))) c' (CodeO c' (X.env.qual ++ "<lambda>"))) := fun b o e n => by
      rw [upd_ne (ne_of_none e nC), upd_ne (fun z => n ps (Option.some.inj (e.symm.trans (by rw [z]; exact hP))))]
      exact e
    have eL : (ps ++ #[rawInt pos.line, rawInt pos.col, .ref c']).toList = ps.toList ++ [rawInt pos.line, rawInt pos.col, .ref c'] := by simp
    have T1 : Tabs T (upd (upd H P (.tbl (ps ++ #[rawInt pos.line, rawInt pos.col, .ref c']))) c' (CodeO c' (X.env.qual ++ "<lambda>"))) := fun p hp => by
      by_cases hb : p.1 = P
      · rw [hu p hp hb, hb]
        refine ⟨_, by rw [upd_ne (ne_of_none hP nC), upd_same], by rw [eL]; exact PySem.TriplesOk_snoc _ _ _ _ ht, fun p' cv hcv => ?_⟩
        rw [eL] at hcv
        rcases among_app _ ht hcv with z | z
        · obtain ⟨c0, e1, e2⟩ := ha p' cv z
          exact ⟨c0, e1, hE _ _ e2 codeO_ne⟩
        · exact ⟨c', z, upd_same⟩
      · obtain ⟨ps', a1, a2, a3⟩ := hT p hp
        refine ⟨ps', by rw [upd_ne (ne_of_none a1 nC), upd_ne hb]; exact a1, a2, fun p' cv hcv => ?_⟩
        obtain ⟨c0, e1, e2⟩ := a3 p' cv hcv
        exact ⟨c0, e1, hE _ _ e2 codeO_ne⟩
    have nF := I1.hok.fresh (Nat.le_refl _)
    have I2 := inv_lam (F := ⟨"<lambda>", X.env.qual ++ "<lambda>", params, [], scope, cloFrom X.env.cells scope.names [], c'⟩) (e := body) (pm := (X.mg "__name__").getD .none) (ctv := ctv) (t' := tk) I1
    refine h h'.objs.size c' _ ctv _ _ I2 (fun b o e n => ?_) (T1.ext fun b o e => ?_) (I.hok.fresh (Nat.le_trans hge (Nat.le_of_lt hlt))) upd_same ?_
    · have e1 := hE b o e n
      exact (upd_ne (ne_of_none e1 nF)).trans e1
    · exact (upd_ne (ne_of_none e nF)).trans e
    · exact (upd_ne (Nat.ne_of_lt hlt)).trans upd_same
  | some cv =>
    obtain ⟨c', e, hco⟩ := ha pos cv hc
    subst e
    refine PySem.W.kla_makeFunctionHit (mg := X.mg) (c := c) (P := P) (ps := ps) (closure_ok hfree) I.ok.glob (I.mod.glob.keeps I.bk) hcode (TB.code.keeps I.bk) hP' ht hc bP fun ctv h' tk hx hsz => ?_
    have I1 : Inv X pins σ H { s with heap := h', toks := tk } := I.kept hx
    have nF : H h'.objs.size = none := I1.hok.fresh (Nat.le_refl _)
    have I2 := inv_lam (F := ⟨"<lambda>", X.env.qual ++ "<lambda>", params, [], scope, cloFrom X.env.cells scope.names [], c'⟩) (e := body) (pm := (X.mg "__name__").getD .none) (ctv := ctv) (t' := tk) I1
    refine h h'.objs.size c' _ ctv _ _ I2 (fun b o e n => ?_) (hT.ext fun b o e => ?_) nF upd_same ?_
    · exact (upd_ne (ne_of_none e nF)).trans e
    · exact (upd_ne (ne_of_none e nF)).trans e
    · exact (upd_ne (ne_of_none hco nF)).trans hco
end
def lamArgs : Expr → Arguments
  | .Lambda a _ _ _ => a
  | _ => ⟨[], [], none, [], [], none, []⟩
def lamBody : Expr → Expr
  | .Lambda _ b _ _ => b
  | e => e
def lamSc : Expr → Scope
  | .Lambda _ _ s _ => s
  | _ => { kind := .function, names := [], isGenerator := false, isCoroutine := false }
/-- the words of a lambda that has a name of its own in the proof -/
structure LamOf (l : Expr) (sc : Scope) : Prop where
  ex : ∃ pos, l = .Lambda (lamArgs l) (lamBody l) sc pos
def NF.lam (l : Expr) (sc : Scope) (qual : Str) (cl : List (Str × Addr)) (c : Addr) : NF := ⟨"<lambda>", qual, lamArgs l, [], sc, cl, c⟩
/-- the reading of a lambda: its object is known -/
def tLmd (T : List (Addr × Str)) (mk : Addr → NF) (body : Expr) : TE := fun σ H Q => Tabs T H ∧ ∀ (f c' : Addr) (pm ctv : Value) (H1 : Hp), ExtN H H1 → Tabs T H1 → H f = none → H1 f = some (exO (lamObj (mk c') body pm ctv)) → H1 c' = some (CodeO c' (mk c').qual) → Q (.ref f) H1
theorem pe_lmd {X : Cx} {l : Expr} {sc : Scope} {T : List (Addr × Str)} {c P : Addr} (hl : LamOf l sc) (TB : TabB X.base X.mg c P) (hcode : X.env.code = .ref c) (hm : (P, X.env.qual ++ "<lambda>") ∈ T) (hu : ∀ p ∈ T, p.1 = P → p.2 = X.env.qual ++ "<lambda>")
    (hdef : defaultsOf (lamArgs l) X.env = ([], [])) (hfree : ∀ y ∈ sc.names, y.2 = .free → X.env.scope.names.lookup y.1 = some .cell ∨ X.env.scope.names.lookup y.1 = some .free) :
    PE X l (tLmd T (NF.lam l sc (X.env.qual ++ "<lambda>") (cloFrom X.env.cells sc.names [])) (lamBody l)) := by
  obtain ⟨pos, e⟩ := hl.ex
  refine ⟨fun pins s σ H Q I h => ?_⟩
  obtain ⟨hT, h⟩ := h
  rw [e]
  refine lam_make3 I TB hcode hm hu hT hdef (fun y hy z => (hfree y hy z).elim (fun z => I.ok.has _ (.inl z)) fun z => I.ok.has _ (.inr z)) fun f c' pm ctv H1 s' I1 eN T1 nf hf hc => ?_
  exact ⟨.ref f, H1, I1, rfl, h f c' pm ctv H1 eN T1 nf hf hc⟩

/-! ### what a lambda promises -/
/-- all but the lists stays -/
def ExL (H H' : Hp) : Prop := ∀ b o, H b = some o → (∀ xs, o ≠ .lst xs) → H' b = some o
theorem ExL.of {H H' : Hp} (e : Ex H H') : ExL H H' := fun b o h _ => e b o h
theorem ExL.trans {H H1 H2 : Hp} (a : ExL H H1) (b : ExL H1 H2) : ExL H H2 := fun c o h n => b c o (a c o h n) n
structure AskF (P : Program) (w : World) (K : PySem.W.Frag) (mg : Str → Option Value) (base : Heap) (k : Nat) (f : Addr) (C : Hp → Prop) (sp : Sp) : Prop where
  at_ : ∀ H h, HOk P w H h → C H → PySem.W.FnAt f h
  up : ∀ H H', ExL H H' → C H → C H'
  go : ∀ (A : Around) (up : List Env) (s : Shared) (H : Hp) (us : List Value) (vs : List V) (Q : VK) (E : XK), Room k A → Env0 P w K mg base A up s H → C H → Vals vs us → sp vs H Q E → codeAny (model P w) A (.call (.ref f) ⟨us, []⟩) (CR CX0 up P w H s Q E) s
/-- the lambda F at f, what it captured pinned -/
def LamC (F : NF) (e : Expr) (pm ctv : Value) (f : Addr) (cs : Addr → Option Obj) : Hp → Prop := fun H => H f = some (exO (lamObj F e pm ctv)) ∧ H F.c = some (CodeO F.c F.qual) ∧ ∀ b o, cs b = some o → H b = some (exO o)
/-- what its cells hold -/
structure CapsO (F : NF) (fr : List Str) (ws : List (Option V)) (cs : Addr → Option Obj) : Prop where
  len : ws.length = fr.length
  all : ∀ y c, F.cl.lookup y = some c → ∃ o v, cs c = some o ∧ o.data = .cell v
  inj : ∀ x y c, F.cl.lookup x = some c → F.cl.lookup y = some c → x = y
  has : ∀ (i : Nat) (y : Str), fr[i]? = some y → ∃ c, F.cl.lookup y = some c ∧ ∀ v, ws[i]? = some (some v) → ∃ u o, L2.RelV v u ∧ cs c = some o ∧ o.data = .cell (some u)
section
variable {P : Program} {w : World} {K : PySem.W.Frag} {mg : Str → Option Value} {base : Heap} {N ps fr : List Str} {F : NF} {f : Addr} {e : Expr} {pm ctv : Value} {cs : Addr → Option Obj} {ws : List (Option V)} {k : Nat} {sp : Sp}
theorem CapsO.cells {H : Hp} {h : Heap} (C : CapsO F fr ws cs) (hg : ∀ b o, cs b = some o → h.get? b = some o) : CellsAt F.cl fr ws h (unp cs H) :=
  ⟨C.len, fun y c q => by
    obtain ⟨o, v, h1, h2⟩ := C.all y c q
    exact ⟨unp_in h1, v, o, hg c o h1, h2⟩, C.inj, fun i y q => by
    obtain ⟨c, h1, h2⟩ := C.has i y q
    exact ⟨c, h1, fun v hv => by
      obtain ⟨u, o, r, g1, g2⟩ := h2 v hv
      exact ⟨u, r, o, hg c o g1, g2⟩⟩⟩
theorem askF_of (S : NScope N ps fr F.scope) (hb : ∀ us : List Value, us.length = ps.length → bindArgs (PySem.W.kla_fn F.name F.qual F.params e F.scope F.cl pm (.ref F.c) ctv) ⟨us, []⟩ = pure (ps.zip us)) (C : CapsO F fr ws cs) (len : ∀ vs H Q E, sp vs H Q E → vs.length = ps.length)
    (hbody : ∀ (A : Around) (up : List Env) (s : Shared) (H : Hp) (vs : List V) (Q : VK) (E : XK), Room k (A.deeper (envF F f s.heap.objs.size)) → (∀ b o, cs b = some o → H b = some (exO o)) → sp vs H Q E →
      ∃ t, PE (ncx CX0 P w K mg base N F f A up s (unp cs H) E).nox e t ∧ t (startF N vs ws) (unp cs H) fun v H' => (∀ b o, cs b = some o → H' b = none) → Q v (pin cs H')) :
    AskF P w K mg base (k + 1) f (LamC F e pm ctv f cs) sp where
  at_ := fun H h hok hc => ⟨_, _, _, _, at_exO hok hc.1⟩
  up := fun H H' ex hc => ⟨ex _ _ hc.1 (fun xs z => by cases z), ex _ _ hc.2.1 (fun xs z => by unfold CodeO at z; cases z), fun b o q => ex _ _ (hc.2.2 b o q) (fun xs z => by cases z)⟩
  go := fun A up s H us vs Q E hr e0 hc rv hsp => by
    have hl := len _ _ _ _ hsp
    have lim : s.heap.NoLimit := e0.mod.nolimit.keeps fun b o q => (e0.bs b o q).1
    have hg : ∀ b o, cs b = some o → s.heap.get? b = some o := fun b o q => at_exO e0.hok (hc.2.2 b o q)
    have e1 := env0_unp e0 hc.2.2
    refine PySem.W.kla_callFunE hr.depth (at_exO e0.hok hc.1) rfl S.co S.gen rfl (codeO_at e0.hok hc.2.1) ?_
    rw [hb us (by rw [← rv.length]; exact hl)]
    refine wpAny_pure (wpAny_newFunctionEnv S.nocell (fun ⟨n, _⟩ hy => S.par n (List.of_mem_zip hy).1) (fun h₁ hns hsb => ⟨lim.fresh _ hsb, ?_⟩) S.kind)
    show codeAny _ _ (.expr e (envF F f s.heap.objs.size)) _ _
    have kp : ∀ b o, s.heap.get? b = some o → h₁.get? b = some o := fun b o q => hsb.extBut b o (Nat.ne_of_lt (Heap.lt_size q)) (Heap.get?_push_of_some _ q)
    obtain ⟨t, ht, hq⟩ := hbody A up s H vs Q E (hr.deeper _) hc.2.2 hsp
    have J : Inv (ncx CX0 P w K mg base N F f A up s (unp cs H) E) [] (startF N vs ws) (unp cs H) { s with heap := h₁, toks := s.toks + (ps.zip us).length } := inv_startN S hr.hd e1 hl rv (C.cells hg) hns kp
    refine PySem.W.kla_codeExpr (wpAny_mono (ht.nox.run [] _ _ _ _ J hq) (fun v s' hs => ?_) fun e s' hs => hs)
    obtain ⟨v', H', J', rv', q⟩ := hs
    have U : Un (frs up) [] (unp cs H) H' s.heap s'.heap := J'.base
    refine ⟨v', pin cs H', J'.os, J'.bare, un_pin U hc.2.2, hok_pin J'.hok (fun b o z => U.free b o (hg b o z) (unp_in z) (by simp)) (fun b o z => U.keep b o (hg b o z) (unp_in z) (fun y => ?_) (by simp)), rv', q fun b o z => U.free b o (hg b o z) (unp_in z) (by simp)⟩
    have := e0.frf b y
    rw [hc.2.2 b o z] at this
    cases this
end
/-! ### the call of a name that holds such a lambda -/
def tCallM (i : Nat) (LH : Addr → (Hp → Prop) → Sp → Prop) (t : TA) : TE := fun σ H Q => ∃ f C sp, σ[i]? = some (some (.ref f)) ∧ LH f C sp ∧ C H ∧ t σ H fun vs H1 => C H1 ∧ sp vs H1 Q E0
section
variable {X : Cx} {i j k : Nat} {x : Str} {p pos : Pos} {e : Expr} {es : List Expr} {t : TA} {LH : Addr → (Hp → Prop) → Sp → Prop}
theorem pe_callM (hL : ∀ f C sp, LH f C sp → AskF X.prog X.w X.K X.mg X.base k f C sp) (hr : Room j X.A) (hk : k ≤ j) (hN : X.N[i]? = some x) (hv : Vis X.env.scope x) (ha : PA X (e :: es) t)
    (hd : (x == ("__debug__" : Str)) = false := by decide) (hcd : (x == ("__classdict__" : Str)) = false := by decide)
    (he : starEach (e :: es) X.env = (false, eval e X.env) :: starEach es X.env := by rfl) (hpl : (backTo pos (starEach es X.env)).any (·.1) = false := by rfl) : PE X (.Call (.Name x p) (e :: es) [] pos) (tCallM i LH t) := by
  refine ⟨fun pins s σ H Q I h => ?_⟩
  obtain ⟨f, C, sp, hs, hLH, hC, ht⟩ := h
  have Fn := hL f C sp hLH
  refine wpAny_Call_Name_kw (thn ((pe_var (pos := p) hN hv hd hcd).run pins s σ H (fun v H1 => v = .ref f ∧ H1 = H) I ⟨.ref f, hs, rfl, rfl⟩) fun u s1 ⟨v, H1, I1, r1, q1⟩ => ?_)
  obtain ⟨ev, eH⟩ := q1
  subst ev
  rw [eH] at I1
  obtain rfl : u = Value.ref f := r1
  refine PySem.W.callWith_F (first := []) (Fn.at_ _ _ I1.hok hC) (thn (ha.run pos pins s1 σ H _ I1 ht) fun us s2 ⟨vs, H2, I2, r, h1, q⟩ => ⟨Fn.at_ _ _ I2.hok h1, ?_⟩) he hpl
  show wpAny _ _ (call (.ref f) us) _ _ _
  refine wpAny_call (codeAny_mono (Fn.go X.A X.stack s2 H2 us vs Q E0 (hr.mono hk) I2.env0 h1 r q) fun r s' hq => ?_)
  match r, hq with
  | .ok (.ret _), hq => exact I2.after hq
  | .ok .next, hq => exact False.elim hq
  | .ok .brk, hq => exact False.elim hq
  | .ok .cont, hq => exact False.elim hq
  | .error _, hq => exact False.elim hq
end
/-! ### a def called while the caller's own cells are pinned -/
def PinsOf (cells : List (Str × Addr)) (N fr : List Str) (σ : L2.St) (cs : Addr → Option Obj) : Prop := ∀ y ∈ fr, ∃ c o v, cells.lookup y = some c ∧ cs c = some o ∧ o.data = .cell v ∧ ∀ (i : Nat) (x : V), N[i]? = some y → σ[i]? = some (some x) → ∃ u, L2.RelV x u ∧ v = some u
def tCallPin (cells : List (Str × Addr)) (N fr : List Str) (sp : Sp) (t : TA) : TE := fun σ H Q => t σ H fun vs H1 => ∀ cs : Addr → Option Obj, (∀ b o, cs b = some o → H1 b = none) → PinsOf cells N fr σ cs → sp vs (pin cs H1) (fun v H2 => Q v (unp cs H2)) E0
section
variable {X : Cx} {j k : Nat} {sp : Sp} {x : Str} {p pos : Pos} {e : Expr} {es : List Expr} {t : TA} {fr : List Str}
theorem pe_cPin (c : CalG X.prog X.w X.K X.mg X.base CX0 k x sp) (hr : Room j X.A) (hgd : X.A.guards = some []) (hk : k ≤ j) (hg : Gl X x) (hfn : ∀ y, X.fn y = true) (hfr : ∀ y ∈ fr, X.env.scope.names.lookup y = some .cell) (ha : PA X (e :: es) t)
    (hdb : (x == ("__debug__" : Str)) = false := by decide) (he : starEach (e :: es) X.env = (false, eval e X.env) :: starEach es X.env := by rfl) (hpl : (backTo pos (starEach es X.env)).any (·.1) = false := by rfl) :
    PE X (.Call (.Name x p) (e :: es) [] pos) (tCallPin X.env.cells X.N fr sp t) := by
  obtain ⟨f, fd, ps, F, hm, kp, b⟩ := c.ex
  refine ⟨fun pins s σ H Q I h => ?_⟩
  refine wpAny_Call_Name_kw (ld_glob I hg hm (PySem.W.callWith_K (h₀ := X.base) I.ok.mod.kin kp (thn (ha.run pos pins s σ H _ I h) fun us s1 ⟨vs, H1, I1, rv, q⟩ => ⟨I1.kIn, ?_⟩) he hpl) hdb)
  have isC : ∀ y ∈ fr, ∃ c, X.env.cells.lookup y = some c := fun y hy => I1.ok.has y (.inl (hfr y hy))
  let cs : Addr → Option Obj := fun b => if (∃ y, y ∈ fr ∧ X.env.cells.lookup y = some b) then s1.heap.get? b else none
  have csof : ∀ b o, cs b = some o → ∃ y, y ∈ fr ∧ X.env.cells.lookup y = some b ∧ s1.heap.get? b = some o := fun b o z => by
    by_cases hb : ∃ y, y ∈ fr ∧ X.env.cells.lookup y = some b
    · have z' : (if (∃ y, y ∈ fr ∧ X.env.cells.lookup y = some b) then s1.heap.get? b else none) = some o := z
      rw [if_pos hb] at z'
      obtain ⟨y, h1, h2⟩ := hb
      exact ⟨y, h1, h2, z'⟩
    · have z' : (if (∃ y, y ∈ fr ∧ X.env.cells.lookup y = some b) then s1.heap.get? b else none) = some o := z
      rw [if_neg hb] at z'
      cases z'
  have hn : ∀ b o, cs b = some o → H1 b = none := fun b o z => by
    obtain ⟨y, _, h2, _⟩ := csof b o z
    exact I1.freeC y b h2
  have hgt : ∀ b o, cs b = some o → s1.heap.get? b = some o := fun b o z => by
    obtain ⟨_, _, _, h3⟩ := csof b o z
    exact h3
  have above : ∀ b o, cs b = some o → X.s_0.heap.objs.size ≤ b := fun b o z => by
    obtain ⟨y, _, h2, _⟩ := csof b o z
    exact I1.ok.cab y b (hfn y) h2
  have hf : ∀ b o, cs b = some o → b ∉ frs X.stack := fun b o z hb => by
    obtain ⟨y, _, h2, _⟩ := csof b o z
    rcases List.mem_cons.mp (I1.stkSub b hb) with e1 | hb
    · exact I1.cne y b h2 e1
    · obtain ⟨_, o', ho, _⟩ := I1.ok.funs.mem hb
      exact absurd (Nat.lt_of_lt_of_le (Heap.lt_size ho) (above b o z)) (Nat.lt_irrefl _)
  have hba : ∀ b o, cs b = some o → X.base.get? b = none := fun b o z => by
    cases hx : X.base.get? b with
    | none => rfl
    | some o' => exact absurd (Nat.lt_of_lt_of_le (Heap.lt_size hx) (Nat.le_trans I1.ok.bsz (above b o z))) (Nat.lt_irrefl _)
  have pins1 : PinsOf X.env.cells X.N fr σ cs := fun y hy => by
    obtain ⟨c, hc⟩ := isC y hy
    obtain ⟨v, o, ho, hd⟩ := I1.cell y c hc
    refine ⟨c, o, v, hc, ?_, hd, fun i x hN hs => ?_⟩
    · show (if (∃ y, y ∈ fr ∧ X.env.cells.lookup y = some c) then s1.heap.get? c else none) = some o
      rw [if_pos ⟨y, hy, hc⟩]
      exact ho
    · obtain ⟨m, _, hl⟩ := I1.loc
      obtain ⟨u, r, lk⟩ := hl i y x hN hs (.inr (.inl (hfr y hy)))
      rcases lk with ⟨z, _⟩ | ⟨_, c2, hc2, o2, ho2, hd2⟩
      · have z' : X.env.scope.names.lookup y = some .local := z
        rw [hfr y hy] at z'
        cases z'
      · rw [hc] at hc2
        cases hc2
        rw [ho] at ho2
        cases ho2
        rw [hd] at hd2
        cases hd2
        exact ⟨u, r, rfl⟩
  have q2 := q cs hn pins1
  have hl : us.length = ps.length := by
    have := F.len _ _ _ _ q2
    rw [← rv.length]
    exact this
  have hb := b s1 us I1.kIn (by rw [List.append_nil]; exact hl)
  rw [List.append_nil] at hb
  refine wpAny_call (codeAny_mono (F.go X.A X.stack s1 (pin cs H1) ⟨us, []⟩ us vs _ E0 (hr.mono hk) hgd (env0_pin I1.env0 hn hgt hf hba) hb rv q2) fun r s' hq => ?_)
  match r, hq with
  | .ok (.ret _), ⟨v, H', os, bare, un, hok', r', q'⟩ => exact I1.after ⟨v, unp cs H', os, bare, un_unp un hok' hn hgt hf, hok_unp' un hok', r', q'⟩
  | .ok .next, hq => exact False.elim hq
  | .ok .brk, hq => exact False.elim hq
  | .ok .cont, hq => exact False.elim hq
  | .error _, hq => exact False.elim hq
end
end Sr
set_option Elab.async false
set_option linter.all false
set_option maxRecDepth 100000
set_option maxHeartbeats 4000000
/-! SrO: asks, as lambdas keep them; what a door is asked for. -/
namespace Sr
open PySem PySem.Spec PyProof.Rows L2 Evl LamX NdefX

/-- what an ask promises: ok the data it may be handed, F what it tells of it -/
def spAsk (F : PyData → PyData) (ok : PyData → Prop) : Sp := fun vs H Q _ => ∃ v d A, vs = [v] ∧ Nst 3 H v d A ∧ ok d ∧
  ∀ t fa tl dT AF AT H', Ex H H' → H t = none → H' t = some (.tup [.ref fa, tl]) → Nst 2 H' (.ref fa) (F d) AF → Nst 2 H' tl dT AT → AT.Nodup → (∀ b ∈ AF, H b = none) → (∀ b ∈ AT, H b = none) → Q (.ref t) H'
/-- what it told -/
def Told (F : PyData → PyData) (d : PyData) : Hp → V → Hp → Prop := fun H1 v H2 => ∃ t fa tl dT AF AT, v = .ref t ∧ H1 t = none ∧ H2 t = some (.tup [.ref fa, tl]) ∧ Nst 2 H2 (.ref fa) (F d) AF ∧ Nst 2 H2 tl dT AT ∧ AT.Nodup ∧ (∀ b ∈ AF, H1 b = none) ∧ ∀ b ∈ AT, H1 b = none
section
variable {K : PySem.W.Frag} {σ : L2.St} {H H' : Hp} {ta tb tc te tl tx : TE} {t u : TT} {x y z v : V} {D : Ends} {tu tw tz : TS} {g : TG} {F : PyData → PyData} {ok : PyData → Prop} {f : Addr} {C : Hp → Prop} {LH : Addr → (Hp → Prop) → Sp → Prop} {i : Nat} {d : PyData} {A : List Addr}
theorem ep_ask {P : Hp → V → Hp → Prop} (hs : σ[i]? = some (some (.ref f))) (hL : LH f C (spAsk F ok)) (hup : ∀ H H', ExL H H' → C H → C H') (hC : C H) (ha : EvP ta σ H P) (hP : ∀ H1 v H2, Ex H H1 → Ex H1 H2 → P H1 v H2 → ∃ A, Nst 3 H2 v d A) (hok : ok d) : EvP (tCallM i LH (tCons ta tNil)) σ H (Told F d) :=
  fun H1 e Q q => ⟨f, C, spAsk F ok, hs, hL, hup _ _ (.of e) hC, ha H1 e _ fun v H2 e2 p => by
    obtain ⟨A, hn⟩ := hP H1 v H2 e e2 p
    refine ⟨hup _ _ (.of (e.trans e2)) hC, v, d, A, rfl, hn, hok, fun t fa tl dT AF AT H3 e3 h1 h2 h3 h4 h5 h6 h7 => q _ H3 (e2.trans e3) ⟨t, fa, tl, dT, AF, AT, rfl, fresh_back e2 h1, h2, h3, h4, h5, fun b hb => fresh_back e2 (h6 b hb), fun b hb => fresh_back e2 (h7 b hb)⟩⟩⟩
/-- ask(..)[0] -/
theorem ep_ask0 (h : EvP ta σ H (Told F d)) : EvP (tOp (rIxT K) ta (tC (.int 0))) σ H (fun _ v H2 => ∃ fa AF, v = .ref fa ∧ Nst 2 H2 (.ref fa) (F d) AF) := fun H1 e Q q => h H1 e _ fun v H2 e2 ⟨t, fa, tl, dT, AF, AT, hv, h1, h2, h3, h4, h5, h6⟩ => by
  subst hv
  exact ⟨t, [.ref fa, tl], 0, .ref fa, rfl, rfl, st_of h2, rfl, q _ H2 e2 ⟨fa, AF, rfl, h3⟩⟩
/-- str(ask(..)[0]) -/
theorem ev_askS {m : Nat} (h : EvP ta σ H (Told F d)) (hs : Shw m (F d)) (hm : m ≤ 100000) : Ev (tCB (rStrD K) (tCons (tOp (rIxT K) ta (tC (.int 0))) tNil)) σ H (.str (F d).shown) := fun H1 e Q q =>
  ep_ask0 (K := K) h H1 e _ fun v H2 e2 ⟨fa, AF, hv, hn⟩ => by
    subst hv
    exact ⟨fa, F d, rfl, hn.dp, hs.ok, hs.nod, Nat.le_trans hn.sh.2 (by decide), sz_of (Nat.le_trans hs.le hm), q H2 e2⟩
theorem ev_neSS {a : Str} (h1 : Ev ta σ H (.str a)) (h2 : Ev tb σ H (.str a)) : Ev (tOp rNe ta tb) σ H (.bl false) := ev_is (ev_op h1 h2 (rv_ne rfl)) (by simp)
theorem ev_neNN {n : Nat} {w : V} {A B : List Addr} (h1 : Ev ta σ H v) (h2 : Ev tb σ H w) (hn : Nst n H v d A) (hm : Nst n H w d B) (h60 : n ≤ 60) : Ev (tOp (rNeD K) ta tb) σ H (.bl false) :=
  ev_is (ev_neDD (ed_of h1 hn.dp) (ed_of h2 hm.dp) (hn.sh.mono h60) (hm.sh.mono h60)) (by rw [hn.sh.refl]; rfl)
theorem q_spoilt {n : Nat} (h : Ev ta σ H v) (hn : Nst n H v d A) (nd : A.Nodup) (k : ∀ H1 H2, Ex H H1 → KeptBut A H1 H2 → tz D σ H2) : tSeq (tDrop (tCall (sp_spoilt n) [] E0 (tCons ta tNil))) tz D σ H :=
  h H (Ex.refl H) _ fun H1 e1 => ⟨v, d, A, rfl, hn.ex e1, nd, fun H2 k2 => k H1 H2 e1 k2⟩
theorem q_put {w : V} {dh ds : List PyData} {Ah As : List Addr} (h1 : Ev ta σ H v) (h2 : Ev tb σ H w) (hn : Nst 3 H v (.list dh) Ah) (nd : Ah.Nodup) (hm : Nst 3 H w (.list ds) As) (hap : ∀ b ∈ Ah, b ∉ As) (hlen : dh.length = ds.length) (hl1 : ∀ d ∈ dh, ∃ es, d = .list es) (hl2 : ∀ d ∈ ds, ∃ es, d = .list es)
    (k : ∀ H1 A' H2, Ex H H1 → Nst 3 H2 v (.list ds) A' → A'.Nodup → (∀ b ∈ A', b ∈ Ah ∨ H1 b = none) → KeptBut Ah H1 H2 → tz D σ H2) : tSeq (tDrop (tCall sp_put [] E0 (tCons ta (tCons tb tNil)))) tz D σ H :=
  h1 H (Ex.refl H) _ fun H1 e1 => h2 H1 e1 _ fun H2 e2 => ⟨v, w, dh, ds, Ah, As, rfl, hn.ex (e1.trans e2), nd, hm.ex (e1.trans e2), hap, hlen, hl1, hl2, fun A' H3 g1 g2 g3 g4 => k H2 A' H3 (e1.trans e2) g1 g2 g3 g4⟩
theorem EvP.ofTup {xs : List V} (h : EvU te σ H xs) : EvP te σ H (fun _ w H2 => ∃ p, w = .ref p ∧ H2 p = some (.tup xs)) := fun H1 e Q q => h H1 e Q fun p H2 _ e2 h2 => q _ H2 e2 ⟨p, rfl, h2⟩
theorem ep_tupQ {tr : TA} {P : Hp → List V → Hp → Prop} (h : EvAP tr σ H P) (hl : ∀ H1 vs H2, P H1 vs H2 → vs.length ≤ 100000) : EvP (tTup tr) σ H (fun H1 v H2 => ∃ p vs Hm, v = .ref p ∧ Hm p = none ∧ P H1 vs Hm ∧ H2 = upd Hm p (.tup vs)) :=
  fun H1 e Q q => h H1 e _ fun vs H2 e2 p => ⟨sz_of (hl H1 vs H2 p), fun a na => q _ _ (e2.trans (Ex.new na)) ⟨a, vs, H2, rfl, na, p, rfl⟩⟩
theorem ep_pairs {a b c e : V} {td : TE} (ha : Ev ta σ H a) (hb : Ev tb σ H b) (hc : Ev tc σ H c) (hd : Ev td σ H e) : EvP (tTup (tCons (tTup (tCons ta (tCons tb tNil))) (tCons (tTup (tCons tc (tCons td tNil))) tNil))) σ H (fun _ v H2 => ∃ p p1 p2, v = .ref p ∧ H2 p = some (.tup [.ref p1, .ref p2]) ∧ H2 p1 = some (.tup [a, b]) ∧ H2 p2 = some (.tup [c, e])) :=
  (ep_tupQ (eap_cons (EvP.ofTup (eu_tup (ea_cons ha (ea_cons hb ea_nil)) (show 2 ≤ 100000 by decide))) (eap_cons (EvP.ofTup (eu_tup (ea_cons hc (ea_cons hd ea_nil)) (show 2 ≤ 100000 by decide))) eap_nil)) fun H1 vs H2 ⟨v, r, Hm, h1, _, _, _, v2, r2, Hm2, h2, _, _, _, h3⟩ => by rw [h1, h2, h3]; show 2 ≤ 100000; decide).imp
    fun H1 v H2 _ _ ⟨p, vs, Hm, hv, np, ⟨v1, r1, Hm1, h1, _, e2, ⟨p1, g1, g2⟩, v2, r2, Hm2, h2, _, e4, ⟨p2, g3, g4⟩, h3⟩, hH⟩ => by
      subst h3 h2 h1 g1 g3 hH
      exact ⟨p, p1, p2, hv, upd_same, Ex.new np _ _ (e2 _ _ g2), Ex.new np _ _ (e4 _ _ g4)⟩
/-- for x, y in ((a, b), (c, d)) -/
theorem q_for2 {a b c e : V} {j : Nat} (h : EvP tl σ H (fun _ v H2 => ∃ p p1 p2, v = .ref p ∧ H2 p = some (.tup [.ref p1, .ref p2]) ∧ H2 p1 = some (.tup [a, b]) ∧ H2 p2 = some (.tup [c, e]))) (I : L2.St → Hp → Prop) (h0 : ∀ H1, Ex H H1 → I σ H1)
    (hs1 : ∀ T : Hp → Prop, (∀ Ha Hb, ExL Ha Hb → T Ha → T Hb) → ∀ σ' H', I σ' H' → T H' → tu { D with nx := fun σ2 H2 => I σ2 H2 ∧ T H2, ct := fun σ2 H2 => I σ2 H2 ∧ T H2, bk := tz D } ((σ'.set i (some a)).set j (some b)) H')
    (hs2 : ∀ T : Hp → Prop, (∀ Ha Hb, ExL Ha Hb → T Ha → T Hb) → ∀ σ' H', I σ' H' → T H' → tu { D with nx := fun σ2 H2 => I σ2 H2 ∧ T H2, ct := fun σ2 H2 => I σ2 H2 ∧ T H2, bk := tz D } ((σ'.set i (some c)).set j (some e)) H') (hn : ∀ σ' H', I σ' H' → tz D σ' H') :
    tSeq (tFor (iTup K tl) (gTup K 2 (gCons (gName i) (gCons (gName j) gNil))) tu) tz D σ H :=
  h H (Ex.refl H) _ fun v H1 e1 ⟨p, p1, p2, hv, h1, h2, h3⟩ => by
    subst hv
    have hT : ∀ Ha Hb, ExL Ha Hb → (Ha p = some (.tup [.ref p1, .ref p2]) ∧ Ha p1 = some (.tup [a, b]) ∧ Ha p2 = some (.tup [c, e])) → (Hb p = some (.tup [.ref p1, .ref p2]) ∧ Hb p1 = some (.tup [a, b]) ∧ Hb p2 = some (.tup [c, e])) := fun Ha Hb ex ⟨q1, q2, q3⟩ =>
      ⟨ex _ _ q1 (fun xs z => by cases z), ex _ _ q2 (fun xs z => by cases z), ex _ _ q3 (fun xs z => by cases z)⟩
    refine ⟨p, rfl, ⟨[.ref p1, .ref p2], st_of h1⟩, for_tup (fun _ σ' H' => I σ' H' ∧ (H' p = some (.tup [.ref p1, .ref p2]) ∧ H' p1 = some (.tup [a, b]) ∧ H' p2 = some (.tup [c, e]))) ⟨h0 _ e1, h1, h2, h3⟩ (fun i σ' H' _ pv => st_of pv.2.1) (fun k x σ' H' hk pv => ?_) fun σ' H' pv => hn σ' H' pv.1⟩
    match k, hk with
    | 0, hk =>
      obtain rfl : V.ref p1 = x := Option.some.inj hk
      exact g_pair pv.2.2.1 (hs1 _ hT σ' H' pv.1 pv.2)
    | 1, hk =>
      obtain rfl : V.ref p2 = x := Option.some.inj hk
      exact g_pair pv.2.2.2 (hs2 _ hT σ' H' pv.1 pv.2)
    | k + 2, hk => simp at hk
/-- what is kept at none but lists -/
theorem exL_kept {H1 H2 : Hp} (k : KeptBut A H1 H2) (h : ∀ b ∈ A, ∃ xs, H1 b = some (.lst xs)) : ExL H1 H2 := fun b o q n => k b o (fun z => by
  obtain ⟨xs, hx⟩ := h b z
  rw [hx] at q
  exact n xs (Option.some.inj q).symm) q
/-- what was known before stays where none of it stands at A -/
theorem ex_kept {H0 H1 H2 : Hp} (e : Ex H0 H1) (k : KeptBut A H1 H2) (h : ∀ b ∈ A, H0 b = none) : Ex H0 H2 := fun b o q => k b o (fun z => by rw [h b z] at q; cases q) (e b o q)
end
/-- a door with its ask -/
def sp_door (LH : Addr → (Hp → Prop) → Sp → Prop) : Sp := fun vs H Q _ => ∃ (f : Addr) (C : Hp → Prop) (F : PyData → PyData) (ok : PyData → Prop) (vl vo : V) (dL dO : List PyData) (AL AO : List Addr), vs = [.ref f, vl, vo] ∧ LH f C (spAsk F ok) ∧ C H ∧ Nst 3 H vl (.list dL) AL ∧ Nst 3 H vo (.list dO) AO ∧
  dL.length = dO.length ∧ (∀ d ∈ dL, ∃ es, d = .list es) ∧ (∀ d ∈ dO, ∃ es, d = .list es) ∧ ok (.list dL) ∧ ok (.list dO) ∧ (∃ m, m ≤ 100000 ∧ Shw m (F (.list dL))) ∧ (∃ m, m ≤ 100000 ∧ Shw m (F (.list dO))) ∧ ∀ H', Ex H H' → Q (.bl true) H'
/-- the loop behind it: what is handed lies apart from all that was known -/
structure DoorI (H0 : Hp) (vH : V) (n : Nat) (H' : Hp) : Prop where
  ex : Ex H0 H'
  hd : ∃ dh Ah, Nst 3 H' vH (.list dh) Ah ∧ Ah.Nodup ∧ dh.length = n ∧ (∀ d ∈ dh, ∃ es, d = .list es) ∧ ∀ b ∈ Ah, H0 b = none
/-- what is asked of a lambda that a door is given -/
def DoorOk (LH : Addr → (Hp → Prop) → Sp → Prop) (dL dO : List PyData) (H : Hp) (f : Addr) : Prop := ∃ (C : Hp → Prop) (F : PyData → PyData) (ok : PyData → Prop), LH f C (spAsk F ok) ∧ (∀ H H', ExL H H' → C H → C H') ∧ C H ∧ ok (.list dL) ∧ ok (.list dO) ∧ (∃ m, m ≤ 100000 ∧ Shw m (F (.list dL))) ∧ ∃ m, m ≤ 100000 ∧ Shw m (F (.list dO))
def sp_doors (LH : Addr → (Hp → Prop) → Sp → Prop) : Sp := fun vs H Q _ => ∃ (la : Addr) (fs : List Addr) (vl vo : V) (dL dO : List PyData) (AL AO : List Addr), vs = [.ref la, vl, vo] ∧ H la = some (.lst (fs.map V.ref)) ∧ fs.length ≤ 100 ∧ (∀ f ∈ fs, DoorOk LH dL dO H f) ∧ Nst 3 H vl (.list dL) AL ∧ Nst 3 H vo (.list dO) AO ∧
  dL.length = dO.length ∧ (∀ d ∈ dL, ∃ es, d = .list es) ∧ (∀ d ∈ dO, ∃ es, d = .list es) ∧ ∀ H', Ex H H' → Q (.bl true) H'
/-! ### what lambdas tell -/
def ToldR (r : PyData) : Hp → V → Hp → Prop := fun H1 v H2 => ∃ t fa tl dT AF AT, v = .ref t ∧ H1 t = none ∧ H2 t = some (.tup [.ref fa, tl]) ∧ Nst 2 H2 (.ref fa) r AF ∧ Nst 2 H2 tl dT AT ∧ AT.Nodup ∧ (∀ b ∈ AF, H1 b = none) ∧ ∀ b ∈ AT, H1 b = none
theorem told_pin {r : PyData} {Q : VK} {v : V} {cs : Addr → Option Obj} {H H1 : Hp} (hc : ∀ b o, cs b = some o → H b = some (exO o)) (e : Ex (unp cs H) H1) (hz : ∀ b o, cs b = some o → H1 b = none) (ht : ToldR r (unp cs H) v H1)
    (q : ∀ t fa tl dT AF AT H', Ex H H' → H t = none → H' t = some (.tup [.ref fa, tl]) → Nst 2 H' (.ref fa) r AF → Nst 2 H' tl dT AT → AT.Nodup → (∀ b ∈ AF, H b = none) → (∀ b ∈ AT, H b = none) → Q (.ref t) H') : Q v (pin cs H1) := by
  obtain ⟨t, fa, tl, dT, AF, AT, rfl, h1, h2, h3, h4, h5, h6, h7⟩ := ht
  have out : ∀ b o, H1 b = some o → cs b = none := fun b o hb => by
    cases q : cs b with
    | none => rfl
    | some o' => rw [hz b o' q] at hb; cases hb
  have fr : ∀ b o, H1 b = some o → unp cs H b = none → H b = none := fun b o hb hn => by
    rw [unp_out (out b o hb)] at hn
    exact hn
  refine q t fa tl dT AF AT (pin cs H1) (fun b o hb => ?_) (fr t _ h2 h1) (by rw [pin_out (out t _ h2)]; exact h2) (h3.stay fun a _ xs hx => by rw [pin_out (out a _ hx)]; exact hx) (h4.stay fun a _ xs hx => by rw [pin_out (out a _ hx)]; exact hx) h5 (fun b hb => ?_) fun b hb => ?_
  · cases q : cs b with
    | none =>
      rw [pin_out q]
      exact e b o (by rw [unp_out q]; exact hb)
    | some o' =>
      rw [hc b o' q] at hb
      rw [pin_in q]
      exact hb
  · obtain ⟨xs, hx⟩ := h3.live b hb
    exact fr b _ hx (h6 b hb)
  · obtain ⟨xs, hx⟩ := h4.live b hb
    exact fr b _ hx (h7 b hb)
theorem nst_unp {n : Nat} {v : V} {d : PyData} {A : List Addr} {cs : Addr → Option Obj} {H : Hp} (hc : ∀ b o, cs b = some o → H b = some (exO o)) (h : Nst n H v d A) : Nst n (unp cs H) v d A := h.stay fun a _ xs hx => by
  cases q : cs a with
  | none => rw [unp_out q]; exact hx
  | some o => rw [hc a o q] at hx; cases hx
/-- of two things it may be handed -/
noncomputable def F2 (dL rL rO : PyData) : PyData → PyData := fun d => open Classical in if d = dL then rL else rO
theorem f2L {dL rL rO : PyData} : F2 dL rL rO dL = rL := by unfold F2; exact if_pos rfl
section
variable {P : Program} {w : World} {K : PySem.W.Frag} {mg : Str → Option Value} {base : Heap} {N ps fr : List Str} {F : NF} {f : Addr} {e : Expr} {pm ctv : Value} {cs : Addr → Option Obj} {ws : List (Option V)} {k : Nat} {dL dO rL rO : PyData} {x : Str}
theorem AskF.with {C J : Hp → Prop} {sp : Sp} (hJ : ∀ H H', ExL H H' → J H → J H') (a : AskF P w K mg base k f C (fun vs H Q E => J H ∧ sp vs H Q E)) : AskF P w K mg base k f (fun H => C H ∧ J H) sp :=
  ⟨fun H h hok hc => a.at_ H h hok hc.1, fun H H' e hc => ⟨a.up H H' e hc.1, hJ H H' e hc.2⟩, fun A up s H us vs Q E hr e0 hc rv hsp => a.go A up s H us vs Q E hr e0 hc.1 rv ⟨hc.2, hsp⟩⟩
theorem ask_mk {J : Hp → Prop} (hJ : ∀ H H', ExL H H' → J H → J H') (S : NScope N [x] fr F.scope) (hb : ∀ us : List Value, us.length = 1 → bindArgs (PySem.W.kla_fn F.name F.qual F.params e F.scope F.cl pm (.ref F.c) ctv) ⟨us, []⟩ = pure ([x].zip us)) (C : CapsO F fr ws cs)
    (hbody : ∀ (A : Around) (up : List Env) (s : Shared) (H : Hp) (E : XK), Room k (A.deeper (envF F f s.heap.objs.size)) → ∃ t, PE (ncx CX0 P w K mg base N F f A up s H E).nox e t ∧ ∀ v A0 H0, (∀ b o, cs b = some o → H0 b = some (exO o)) → H = unp cs H0 → J H0 → (Nst 3 H v dL A0 → EvP t (startF N [v] ws) H (ToldR rL)) ∧ (Nst 3 H v dO A0 → EvP t (startF N [v] ws) H (ToldR rO))) :
    AskF P w K mg base (k + 1) f (fun H => LamC F e pm ctv f cs H ∧ J H) (spAsk (F2 dL rL rO) fun d => d = dL ∨ d = dO) := by
  refine AskF.with hJ (askF_of S hb C (fun vs H Q E ⟨_, v, d, A, h, _⟩ => by rw [h]; rfl) fun A up s H vs Q E hr hc ⟨hj, v, d, A0, hv, hn, hok, q⟩ => ?_)
  subst hv
  obtain ⟨t, ht, hq⟩ := hbody A up s (unp cs H) E hr
  refine ⟨t, ht, ?_⟩
  obtain ⟨hL, hO⟩ := hq v A0 H hc rfl hj
  by_cases hd : d = dL
  · subst hd
    refine hL (nst_unp hc hn) _ (Ex.refl _) _ fun v' H' e' ht' hz => told_pin (r := rL) hc e' hz ht' fun t fa tl dT AF AT H' a1 a2 a3 a4 a5 a6 a7 a8 => q t fa tl dT AF AT H' a1 a2 a3 (by rw [f2L]; exact a4) a5 a6 a7 a8
  · have hd2 : d = dO := hok.resolve_left hd
    subst hd2
    refine hO (nst_unp hc hn) _ (Ex.refl _) _ fun v' H' e' ht' hz => told_pin (r := rO) hc e' hz ht' fun t fa tl dT AF AT H' a1 a2 a3 a4 a5 a6 a7 a8 => q t fa tl dT AF AT H' a1 a2 a3 (by unfold F2; rw [if_neg hd]; exact a4) a5 a6 a7 a8
end
/-! ### the things told, piece by piece -/
def adr : V → List Addr
  | .ref r => [r]
  | _ => []
theorem nst_flats {α : Type} {n : Nat} {H : Hp} {c : α → V} {dd : α → PyData} (h : ∀ z, flatD (c z) = some (dd z)) {zs : List α} {p : Addr} (hp : H p = some (.lst (zs.map c))) (hl : zs.length ≤ 100) : Nst (n + 1) H (.ref p) (.list (zs.map dd)) [p] := by
  refine .inr ⟨p, zs.map fun z => (c z, dd z, []), rfl, ?_, ?_, ?_, by rw [List.length_map]; exact hl, fun i hi => ?_⟩
  · rw [hp, itV, List.map_map]
    rfl
  · rw [itD, List.map_map]
    rfl
  · have : ∀ zs : List α, itA (zs.map fun z => (c z, dd z, ([] : List Addr))) = [] := fun zs => by
      induction zs with
      | nil => rfl
      | cons z r ih => exact ih
    rw [this]
  · obtain ⟨z, _, rfl⟩ := List.mem_map.mp hi
    exact nst_flat (h z)
theorem adr_nodup : ∀ {ys : List V}, (∀ (i j : Nat) (r : Addr), ys[i]? = some (.ref r) → ys[j]? = some (.ref r) → i = j) → (ys.flatMap adr).Nodup
  | [], _ => List.nodup_nil
  | y :: t, h => by
    have ih := adr_nodup (ys := t) fun i j r hi hj => by
      have := h (i + 1) (j + 1) r hi hj
      omega
    show (adr y ++ t.flatMap adr).Nodup
    refine List.nodup_append.mpr ⟨?_, ih, fun a ha b hb z => ?_⟩
    · cases y <;> simp [adr]
    · cases y with
      | ref r =>
        obtain rfl : a = r := List.mem_singleton.mp ha
        obtain ⟨v, hv, hvb⟩ := List.mem_flatMap.mp hb
        cases v with
        | ref r2 =>
          obtain rfl : b = r2 := List.mem_singleton.mp hvb
          obtain ⟨j, hj⟩ := List.mem_iff_getElem?.mp hv
          subst z
          have := h 0 (j + 1) a rfl hj
          omega
        | _ => simp [adr] at hvb
      | _ => simp [adr] at ha
theorem wv_nst {n : Nat} {H : Hp} {p : Addr} {v : V} {w : Wth} (h : Wv H p v w) (hl : ∀ ns, w = .row ns → ns.length ≤ 100) : Nst (n + 1) H v (dT w) (adr v) := by
  cases w with
  | num m =>
    rw [show v = nv m from h]
    exact nst_flat rfl
  | row ns =>
    obtain ⟨r, rfl, _, h3⟩ := h
    exact nst_flats (c := nv) (dd := fun m : Nat => PyData.int (m : Int)) (fun z => rfl) h3 (hl ns rfl)
theorem wl_nst {H0 H : Hp} {p : Addr} {ys : List V} {ws : List Wth} (h : WL H0 p ys ws H) (hl : ws.length ≤ 100) (hr : ∀ w ∈ ws, ∀ ns, w = .row ns → ns.length ≤ 100) : NewN 2 (dTs ws) H0 (.ref p) H := by
  have e1 : itV ((ys.zip ws).map fun z => (z.1, dT z.2, adr z.1)) = ys := by
    show ((ys.zip ws).map fun z => (z.1, dT z.2, adr z.1)).map (fun i => i.1) = ys
    rw [List.map_map]
    show (ys.zip ws).map Prod.fst = ys
    rw [List.map_fst_zip (by rw [h.len]; exact Nat.le_refl _)]
  have e2 : itD ((ys.zip ws).map fun z => (z.1, dT z.2, adr z.1)) = ws.map dT := by
    show ((ys.zip ws).map fun z => (z.1, dT z.2, adr z.1)).map (fun i => i.2.1) = ws.map dT
    rw [List.map_map]
    show (ys.zip ws).map (dT ∘ Prod.snd) = _
    rw [← List.map_map, List.map_snd_zip (by rw [h.len]; exact Nat.le_refl _)]
  have e3 : itA ((ys.zip ws).map fun z => (z.1, dT z.2, adr z.1)) = ys.flatMap adr := by
    show ((ys.zip ws).map fun z => (z.1, dT z.2, adr z.1)).flatMap (fun i => i.2.2) = _
    rw [List.flatMap_map]
    show (ys.zip ws).flatMap (fun z => adr z.1) = _
    rw [← List.flatMap_map (f := Prod.fst) (g := adr), List.map_fst_zip (by rw [h.len]; exact Nat.le_refl _)]
  refine ⟨p :: ys.flatMap adr, .inr ⟨p, (ys.zip ws).map fun z => (z.1, dT z.2, adr z.1), rfl, by rw [e1]; exact h.top, by rw [e2], by rw [e3], by rw [List.length_map, List.length_zip, h.len, Nat.min_self]; exact hl, fun i hi => ?_⟩, List.nodup_cons.mpr ⟨fun z => ?_, adr_nodup h.one⟩, fun b hb => ?_⟩
  · obtain ⟨⟨v, w⟩, hz, rfl⟩ := List.mem_map.mp hi
    obtain ⟨k, hk⟩ := List.mem_iff_getElem?.mp hz
    obtain ⟨k1, k2⟩ := List.getElem?_zip_eq_some.mp hk
    exact wv_nst (h.item k v w k1 k2) (hr w (List.mem_of_getElem? k2))
  · obtain ⟨v, hv, hvb⟩ := List.mem_flatMap.mp z
    cases v with
    | ref r =>
      obtain rfl : p = r := List.mem_singleton.mp hvb
      obtain ⟨k, hk⟩ := List.mem_iff_getElem?.mp hv
      have hlt : k < ws.length := by rw [← h.len]; exact (List.getElem?_eq_some_iff.mp hk).1
      have := h.item k _ _ hk (List.getElem?_eq_getElem hlt)
      cases hw : ws[k] with
      | num n => rw [hw] at this; cases (show V.ref p = nv n from this)
      | row ns =>
        rw [hw] at this
        obtain ⟨r2, g1, g2, _⟩ := this
        cases g1
        exact g2 rfl
    | _ => simp [adr] at hvb
  · rcases List.mem_cons.mp hb with rfl | hb
    · exact h.new
    · obtain ⟨v, hv, hvb⟩ := List.mem_flatMap.mp hb
      cases v with
      | ref r =>
        obtain rfl : b = r := List.mem_singleton.mp hvb
        obtain ⟨k, hk⟩ := List.mem_iff_getElem?.mp hv
        exact h.fresh k b hk
      | _ => simp [adr] at hvb
section
variable {K : PySem.W.Frag} {mg : Str → Option Value} {L W E : Addr} {σ : L2.St} {H H' : Hp} {ta tb tc te tl tx : TE} {x y z v : V} {D : Ends} {r d : PyData} {A : List Addr} {web : Webs} {st : List Nat}
/-- two(x) of a thing that is new -/
theorem ep_two {ds : List PyData} (h : EvP te σ H (NewN 2 (.list ds))) : EvP (tCall sp_two [] E0 (tCons te tNil)) σ H (ToldR (.list ds)) := fun H1 e Q q => h H1 e _ fun v H2 e2 ⟨A, h1, h2, h3⟩ => by
  obtain ⟨a, its, rfl, _⟩ := nst_list h1
  refine ⟨.ref a, rfl, fun w H3 e3 ⟨t, g1, g2, g3⟩ => q w H3 (e2.trans e3) ⟨t, a, .ref a, .list ds, A, A, g1, fresh_back e2 g2, g3, h1.ex e3, h1.ex e3, h2, h3, h3⟩⟩
theorem new_flats {α : Type} {c : α → V} {dd : α → PyData} (hd : ∀ z, flatD (c z) = some (dd z)) {zs : List α} (h : EvL te σ H (zs.map c)) (hl : zs.length ≤ 100) : EvP te σ H (NewN 2 (.list (zs.map dd))) := (EvP.ofL h).imp fun H1 v H2 _ _ ⟨p, hv, np, hp⟩ => by
  subst hv
  exact ⟨[p], nst_flats hd hp hl, by simp, fun a ha => by rw [List.mem_singleton.mp ha]; exact np⟩
/-- [x] of a thing that is flat or a new list -/
theorem new_one {d : PyData} (h : EvP te σ H (NewN 1 d)) : EvP (tLst (tCons te tNil)) σ H (NewN 2 (.list [d])) := fun H1 e Q q => h H1 e _ fun v H2 e2 ⟨A, h1, h2, h3⟩ =>
  ⟨sz_of (show 1 ≤ 100000 by decide), fun p np => q _ _ (e2.trans (Ex.new np)) ⟨p :: A, .inr ⟨p, [(v, d, A)], rfl, upd_same, rfl, by simp [itA], show 1 ≤ 100 by decide, fun i hi => by
    obtain rfl := List.mem_singleton.mp hi
    exact h1.ex (Ex.new np)⟩, List.nodup_cons.mpr ⟨(fun z => by
      obtain ⟨xs, hx⟩ := h1.live p z
      rw [np] at hx
      cases hx), h2⟩, fun a ha => by
    rcases List.mem_cons.mp ha with rfl | ha
    · exact fresh_back e2 np
    · exact h3 a ha⟩⟩
theorem new_flat {n : Nat} {d : PyData} (h : Ev te σ H v) (hd : flatD v = some d) : EvP te σ H (NewN n d) := (EvP.of h).imp fun H1 w H2 _ _ hw => by
  rw [hw]
  exact ⟨[], nst_flat hd, List.nodup_nil, fun a ha => by cases ha⟩
theorem flatD_ov (x : Option Nat) : flatD (ov x) = some (od x) := by cases x <;> rfl
/-- what is handed -/
theorem arg0 {ds : List PyData} (h : Nst 3 H v (.list (d :: ds)) A) : ∃ a x xs A', v = .ref a ∧ H a = some (.lst (x :: xs)) ∧ Nst 2 H x d A' := by
  obtain ⟨a, its, h1, h2, h3, h4, h5, h6⟩ := nst_list h
  cases its with
  | nil => cases h3
  | cons t r =>
    have e : d = t.2.1 := (List.cons.inj h3).1
    exact ⟨a, t.1, itV r, t.2.2, h1, h2, by rw [e]; exact h6 t (List.mem_cons_self ..)⟩
theorem arg01 {d2 : PyData} {ds : List PyData} (h : Nst 3 H v (.list (d :: d2 :: ds)) A) : ∃ a x y xs A1 A2, v = .ref a ∧ H a = some (.lst (x :: y :: xs)) ∧ Nst 2 H x d A1 ∧ Nst 2 H y d2 A2 := by
  obtain ⟨a, its, h1, h2, h3, h4, h5, h6⟩ := nst_list h
  match its, h2, h3, h6 with
  | t :: u :: r, h2, h3, h6 =>
    have e1 : d = t.2.1 := (List.cons.inj h3).1
    have e2 : d2 = u.2.1 := (List.cons.inj (List.cons.inj h3).2).1
    exact ⟨a, t.1, u.1, itV r, t.2.2, u.2.2, h1, h2, by rw [e1]; exact h6 t (List.mem_cons_self ..), by rw [e2]; exact h6 u (List.mem_cons_of_mem _ (List.mem_cons_self ..))⟩
abbrev dB (bs : List Bool) : PyData := .list (bs.map PyData.bool)
theorem ev_arg0 {a : Addr} {xs : List V} (h0 : σ[0]? = some (some (.ref a))) (ha : H a = some (.lst (x :: xs))) : Ev (tOp (rIxL K) (tVar 0) (tC (.int 0))) σ H x := ev_ixL (i := 0) (ev_var h0) (sq_of ha) ev_c rfl
theorem ev_arg1 {a : Addr} {xs : List V} (h0 : σ[0]? = some (some (.ref a))) (ha : H a = some (.lst (x :: y :: xs))) : Ev (tOp (rIxL K) (tVar 0) (tC (.int 1))) σ H y := ev_ixL (i := 1) (ev_var h0) (sq_of ha) ev_c rfl
theorem tr_ends {ds : List PyData} (h0 : σ[0]? = some (some v)) (hn : Nst 3 H v (.list (dW web :: ds)) A) (ok : Ok60 web) : EvP (tCall sp_two [] E0 (tCons (tCall (sp_ends_of K) [] E0 (tCons (tOp (rIxL K) (tVar 0) (tC (.int 0))) tNil)) tNil)) σ H (ToldR (dO (endsM web))) := by
  obtain ⟨a, x, xs, A', rfl, ha, hx⟩ := arg0 hn
  obtain ⟨wa, rfl, hll⟩ := nst_LL (K := K) hx
  exact ep_two (new_flats flatD_ov (el_ends (K := K) (EvP.of (ev_arg0 h0 ha)) (fun H1 v H2 e1 e2 hv => ⟨wa, hv, hll.mono (e1.trans e2)⟩) ok) (by rw [endsM_len]; have := ok.le; omega))
theorem tr_end {ds : List PyData} {pl : Nat} (h0 : σ[0]? = some (some v)) (h1 : σ[1]? = some (some (nv pl))) (hn : Nst 3 H v (.list (dW web :: ds)) A) (ok : Ok60 web) (hp : pl < web.length) : EvP (tCall sp_two [] E0 (tCons (tLst (tCons (tCall (sp_end K) [] E0 (tCons (tOp (rIxL K) (tVar 0) (tC (.int 0))) (tCons (tVar 1) tNil))) tNil)) tNil)) σ H (ToldR (.list [od (endOf web pl)])) := by
  obtain ⟨a, x, xs, A', rfl, ha, hx⟩ := arg0 hn
  obtain ⟨wa, rfl, hll⟩ := nst_LL (K := K) hx
  exact ep_two (new_one (new_flat (ev_callV ((wa, web), pl) (ea_cons (ev_arg0 h0 ha) (ea_cons (ev_var h1) ea_nil)) (fun H1 e => ⟨rfl, hll.mono e, ok, hp⟩) fun _ _ _ h => h) (flatD_ov _)))
theorem small_row {p : Nat} (ok : Ok60 web) : ∀ ns, wthOf web (numsM web) p = .row ns → ns.length ≤ 100 := fun ns h => by
  have := wth_small ok p
  rw [h] at this
  exact Nat.le_trans this.1 (by decide)
theorem tr_worths {ds : List PyData} (h0 : σ[0]? = some (some v)) (hn : Nst 3 H v (.list (dW web :: ds)) A) (ok : Ok60 web) : EvP (tCall sp_two [] E0 (tCons (tCall (sp_worths K) [] E0 (tCons (tOp (rIxL K) (tVar 0) (tC (.int 0))) tNil)) tNil)) σ H (ToldR (dTs (wthM web))) := by
  obtain ⟨a, x, xs, A', rfl, ha, hx⟩ := arg0 hn
  obtain ⟨wa, rfl, hll⟩ := nst_LL (K := K) hx
  refine ep_two ((ep_worths (K := K) (EvP.of (ev_arg0 h0 ha)) (fun H1 v H2 e1 e2 hv => ⟨wa, hv, hll.mono (e1.trans e2)⟩) ok).imp fun H1 v H2 _ _ ⟨p, ys, hv, wl⟩ => ?_)
  subst hv
  refine wl_nst wl (by rw [wthM_len]; have := ok.le; omega) fun w hw ns hns => ?_
  obtain ⟨p, _, rfl⟩ := List.mem_map.mp hw
  exact small_row ok ns hns
theorem tr_worth {ds : List PyData} {pl : Nat} (h0 : σ[0]? = some (some v)) (h1 : σ[1]? = some (some (nv pl))) (hn : Nst 3 H v (.list (dW web :: ds)) A) (ok : Ok60 web) (hp : pl < web.length) : EvP (tCall sp_two [] E0 (tCons (tLst (tCons (tCall (sp_worth K) [] E0 (tCons (tOp (rIxL K) (tVar 0) (tC (.int 0))) (tCons (tVar 1) tNil))) tNil)) tNil)) σ H (ToldR (.list [dT (wthOf web (numsM web) pl)])) := by
  obtain ⟨a, x, xs, A', rfl, ha, hx⟩ := arg0 hn
  obtain ⟨wa, rfl, hll⟩ := nst_LL (K := K) hx
  refine ep_two (new_one (ep_callA ((wa, web), pl) (ea_cons (ev_arg0 h0 ha) (ea_cons (ev_var h1) ea_nil)) (fun H2 e => ⟨rfl, hll.mono e, ok, hp⟩) fun H1 H0 v H2 _ e0 _ ⟨p, hw, hf⟩ => ?_))
  refine ⟨adr v, wv_nst hw (small_row ok), ?_, fun b hb => ?_⟩
  · cases v <;> simp [adr]
  · cases v with
    | ref r =>
      obtain rfl : b = r := List.mem_singleton.mp hb
      exact fresh_back e0 (hf b rfl)
    | _ => simp [adr] at hb
theorem tr_told {ds : List PyData} (h0 : σ[0]? = some (some v)) (hn : Nst 3 H v (.list (dW web :: dI st :: ds)) A) (ok : Ok60 web) (okS : OkSt web st) : EvP (tCall (sp_ltold9 K) [] E0 (tCons (tOp (rIxL K) (tVar 0) (tC (.int 0))) (tCons (tOp (rIxL K) (tVar 0) (tC (.int 1))) tNil))) σ H (ToldR (dB (kindsB (wrd web st) ++ [true]))) := by
  obtain ⟨a, x, y, xs, A1, A2, rfl, ha, hx, hy⟩ := arg01 hn
  obtain ⟨wa, rfl, hll⟩ := nst_LL (K := K) hx
  obtain ⟨sa, rfl, hli⟩ := nst_LI hy
  refine ep_callA ((wa, web), (sa, st)) (ea_cons (ev_arg0 h0 ha) (ea_cons (ev_arg1 h0 ha) ea_nil)) (fun H2 e => ⟨rfl, ⟨hll.mono e, ok, sq_of (e _ _ hli), okS⟩, A1, hx.ex e⟩) fun H1 H0 v H2 _ e0 _ ⟨t, p, q, g1, g2, g3, g4, g5, g6, g7⟩ => ?_
  refine ⟨t, p, .ref q, .list [], [p], [q], g1, fresh_back e0 g2, g3, nst_flats (c := V.bl) (dd := PyData.bool) (fun _ => rfl) g5 (show 4 ≤ 100 by decide), nst_flats (α := Bool) (c := V.bl) (dd := PyData.bool) (fun _ => rfl) (zs := []) g7 (show 0 ≤ 100 by decide), by simp, fun b hb => ?_, fun b hb => ?_⟩
  · rw [List.mem_singleton.mp hb]
    exact fresh_back e0 g4
  · rw [List.mem_singleton.mp hb]
    exact fresh_back e0 g6
theorem tr_shows {ds : List PyData} {s p : Int} {Pa : Hp → V → Hp → Prop} (h0 : σ[0]? = some (some v)) (hn : Nst 3 H v (.list (dW web :: dI st :: ds)) A) (ok : Ok60 web) (okS : OkSt web st) (b : Option Bool) (ho : EvP ta σ H Pa) (hPa : ∀ H1 v H2, Ex H H1 → Ex H1 H2 → Pa H1 v H2 → ∃ a, v = .ref a ∧ Ins H2 a (clsOf L W E b) (fOf b s p)) :
    EvP (tCall sp_two [] E0 (tCons (tLst (tCons (tShs K L W E ta (tCons (tOp (rIxL K) (tVar 0) (tC (.int 0))) (tCons (tOp (rIxL K) (tVar 0) (tC (.int 1))) tNil))) tNil)) tNil)) σ H (ToldR (.list [.bool (shown b web st (.int s) (.int p))])) := by
  obtain ⟨a, x, y, xs, A1, A2, rfl, ha, hx, hy⟩ := arg01 hn
  obtain ⟨wa, rfl, hll⟩ := nst_LL (K := K) hx
  obtain ⟨sa, rfl, hli⟩ := nst_LI hy
  exact ep_two (new_one (new_flat (ev_shsG (K := K) b ho hPa (EvAP.of (ea_cons (ev_arg0 h0 ha) (ea_cons (ev_arg1 h0 ha) ea_nil))) fun H1 vs H2 e1 e2 hv => ⟨wa, sa, hv, hll.mono (e1.trans e2), ok, sq_of ((e1.trans e2) _ _ hli), okS⟩) rfl))
end
theorem ins_unp {cs : Addr → Option Obj} {H H0 : Hp} {xa C : Addr} {fs : List (Str × V)} (hc : ∀ b o, cs b = some o → H0 b = some (exO o)) (hH : H = unp cs H0) (h : Ins H0 xa C fs) : Ins H xa C fs := by
  obtain ⟨dx, h⟩ := h
  refine ⟨dx, ?_⟩
  subst hH
  cases q : cs xa with
  | none => rw [unp_out q]; exact h
  | some o => rw [hc xa o q] at h; cases h
end Sr
set_option Elab.async false
set_option linter.all false
set_option maxRecDepth 100000
set_option maxHeartbeats 4000000
/-! SrS: law 9's steps: lists of lambdas made, doors called while the law's cells are pinned. -/
namespace Sr
open PySem PySem.Spec PyProof.Rows L2 Evl LamX NdefX

theorem fr2 {p : Str → Prop} {a b : Str} (h1 : p a) (h2 : p b) : ∀ y ∈ [a, b], p y := fun y hy => by
  rcases List.mem_cons.mp hy with rfl | hy
  · exact h1
  · obtain rfl := List.mem_singleton.mp hy
    exact h2
theorem free_by {sc nsc : Scope} (h : (nsc.names.all fun y => !decide (y.2 = .free) || decide (sc.names.lookup y.1 = some .cell)) = true) : ∀ y ∈ nsc.names, y.2 = .free → sc.names.lookup y.1 = some .cell ∨ sc.names.lookup y.1 = some .free := fun y hy e => by
  have := List.all_eq_true.mp h y hy
  simp only [Bool.or_eq_true, Bool.not_eq_true', decide_eq_false_iff_not, decide_eq_true_eq] at this
  rcases this with z | z
  · exact absurd e z
  · exact .inl z
/-- what a lambda captured, as the pins say -/
theorem capsO_of {l : Expr} {sc : Scope} {q : Str} {cells : List (Str × Addr)} {c : Addr} {N N' ps fr fr' : List Str} {σ : L2.St} {ws : List (Option V)} {cs : Addr → Option Obj} (p : PinsOf cells N fr' σ cs) (S : NScope N' ps fr sc) (hsub : ∀ y ∈ fr, y ∈ fr') (h1 : fr.length ≤ 1) (hl : ws.length = fr.length)
    (hw : ∀ (i : Nat) (y : Str) (v : V), fr[i]? = some y → ws[i]? = some (some v) → ∃ j : Nat, N[j]? = some y ∧ σ[j]? = some (some v)) : CapsO (NF.lam l sc q (cloFrom cells sc.names []) c) fr ws cs := by
  have hfree : ∀ y ∈ sc.names, y.2 = .free → ∃ c, cells.lookup y.1 = some c := fun y hy e => by
    obtain ⟨c, _, _, h, _⟩ := p y.1 (hsub _ (S.free y hy e))
    exact ⟨c, h⟩
  have isFr : ∀ {y c}, (cloFrom cells sc.names []).lookup y = some c → y ∈ fr := fun {y c} e => by
    rcases cloFrom_mem (PySem.mem_of_lookup e) with hm | ⟨h1, _⟩
    · cases hm
    · exact S.free _ h1 rfl
  refine ⟨hl, fun y c e => ?_, fun x y c e1 e2 => ?_, fun i y e => ?_⟩
  · obtain ⟨c2, o, v, g1, g2, g3, _⟩ := p y (hsub _ (isFr e))
    have := clo_cm hfree e
    rw [g1] at this
    cases this
    exact ⟨o, v, g2, g3⟩
  · have m1 := isFr e1
    have m2 := isFr e2
    match fr, h1, m1, m2 with
    | [a], _, m1, m2 => rw [List.mem_singleton.mp m1, List.mem_singleton.mp m2]
  · obtain ⟨c2, o, v, g1, g2, g3, g4⟩ := p y (hsub _ (List.mem_of_getElem? e))
    refine ⟨c2, clo_has hfree (PySem.mem_of_lookup (S.frk y (List.mem_of_getElem? e))) g1, fun x hx => ?_⟩
    obtain ⟨j, n1, n2⟩ := hw i y x e hx
    obtain ⟨u, r, hv⟩ := g4 j x n1 n2
    exact ⟨u, o, r, g2, by rw [g3, hv]⟩
/-- the lambda mk at f -/
def LamAt (mk : Addr → NF) (b : Expr) (f : Addr) (H : Hp) : Prop := ∃ (c' : Addr) (pm ctv : Value), H f = some (exO (lamObj (mk c') b pm ctv)) ∧ H c' = some (CodeO c' (mk c').qual)
theorem LamAt.up {mk : Addr → NF} {b : Expr} {f : Addr} {H H' : Hp} (e : ExtN H H') (h : LamAt mk b f H) : LamAt mk b f H' := by
  obtain ⟨c, pm, ctv, h1, h2⟩ := h
  exact ⟨c, pm, ctv, e _ _ h1 (fun ps z => by cases z), e _ _ h2 codeO_ne⟩
theorem Nst.extN {n : Nat} {H H' : Hp} {v : V} {d : PyData} {A : List Addr} (e : ExtN H H') (h : Nst n H v d A) : Nst n H' v d A := h.stay fun a _ xs q => e a _ q (fun ps z => by cases z)
theorem sqL_extN {K : PySem.W.Frag} {H H' : Hp} {a : Addr} {xs : List V} (e : ExtN H H') (h : SqL K H a xs) : SqL K H' a xs := by
  rcases h with (h | ⟨o, h⟩) | h
  · exact .inl (.inl (e a _ h (fun ps z => by cases z)))
  · exact .inl (.inr ⟨o, e a _ h (fun ps z => by cases z)⟩)
  · exact .inr h
section
variable {K : PySem.W.Frag} {σ : L2.St} {H H' : Hp} {ta tb tc te tl tx : TE} {x y z v : V} {D : Ends} {tu tw tz : TS} {T : List (Addr × Str)} {mk mk2 : Addr → NF} {b b2 : Expr} {i j : Nat}
/-- [lambda .., lambda ..] -/
theorem lams2 {Q : VK} (hT : Tabs T H) (k : ∀ p f f2 H1, ExtN H H1 → Tabs T H1 → H1 p = some (.lst [.ref f, .ref f2]) → LamAt mk b f H1 → LamAt mk2 b2 f2 H1 → Q (.ref p) H1) : tLst (tCons (tLmd T mk b) (tCons (tLmd T mk2 b2) tNil)) σ H Q :=
  ⟨hT, fun f c pm ctv H1 e1 T1 n1 h1 g1 => ⟨T1, fun f2 c2 pm2 ctv2 H2 e2 T2 n2 h2 g2 => ⟨sz_of (show 2 ≤ 100000 by decide), fun p np =>
    k p f f2 _ ((e1.trans e2).trans (.of (Ex.new np))) (T2.ext (Ex.new np)) upd_same (LamAt.up (e2.trans (.of (Ex.new np))) ⟨c, pm, ctv, h1, g1⟩) (LamAt.up (.of (Ex.new np)) ⟨c2, pm2, ctv2, h2, g2⟩)⟩⟩⟩
theorem lams1 {Q : VK} (hT : Tabs T H) (k : ∀ p f H1, ExtN H H1 → Tabs T H1 → H1 p = some (.lst [.ref f]) → LamAt mk b f H1 → Q (.ref p) H1) : tLst (tCons (tLmd T mk b) tNil) σ H Q :=
  ⟨hT, fun f c pm ctv H1 e1 T1 n1 h1 g1 => ⟨sz_of (show 1 ≤ 100000 by decide), fun p np =>
    k p f _ (e1.trans (.of (Ex.new np))) (T1.ext (Ex.new np)) upd_same (LamAt.up (.of (Ex.new np)) ⟨c, pm, ctv, h1, g1⟩)⟩⟩
theorem q_lams2 (hT : Tabs T H) (k : ∀ p f f2 H1, ExtN H H1 → Tabs T H1 → H1 p = some (.lst [.ref f, .ref f2]) → LamAt mk b f H1 → LamAt mk2 b2 f2 H1 → tz D (σ.set i (some (.ref p))) H1) : tSeq (tAsg (tLst (tCons (tLmd T mk b) (tCons (tLmd T mk2 b2) tNil))) (gName i)) tz D σ H := by
  show tLst (tCons (tLmd T mk b) (tCons (tLmd T mk2 b2) tNil)) σ H (fun v H1 => tz D (σ.set i (some v)) H1)
  exact lams2 hT k
/-- asks + [lambda .., lambda ..] -/
theorem q_cat2 {a : Addr} {xs : List V} (ha : σ[j]? = some (some (.ref a))) (hx : H a = some (.lst xs)) (hl : xs.length ≤ 90) (hT : Tabs T H) (k : ∀ p f f2 H1, ExtN H H1 → Tabs T H1 → H1 p = some (.lst (xs ++ [.ref f, .ref f2])) → LamAt mk b f H1 → LamAt mk2 b2 f2 H1 → tz D (σ.set i (some (.ref p))) H1) :
    tSeq (tAsg (tOp rCat (tVar j) (tLst (tCons (tLmd T mk b) (tCons (tLmd T mk2 b2) tNil)))) (gName i)) tz D σ H :=
  ⟨.ref a, ha, lams2 hT fun p f f2 H1 e1 T1 hp l1 l2 => ⟨a, p, xs, [.ref f, .ref f2], rfl, rfl, e1 _ _ hx (fun ps z => by cases z), hp, sz_of (show xs.length + 2 ≤ 100000 by omega), fun r nr =>
    k r f f2 _ (e1.trans (.of (Ex.new nr))) (T1.ext (Ex.new nr)) upd_same (l1.up (.of (Ex.new nr))) (l2.up (.of (Ex.new nr)))⟩⟩
theorem q_cat1 {a : Addr} {xs : List V} (ha : σ[j]? = some (some (.ref a))) (hx : H a = some (.lst xs)) (hl : xs.length ≤ 90) (hT : Tabs T H) (k : ∀ p f H1, ExtN H H1 → Tabs T H1 → H1 p = some (.lst (xs ++ [.ref f])) → LamAt mk b f H1 → tz D (σ.set i (some (.ref p))) H1) :
    tSeq (tAsg (tOp rCat (tVar j) (tLst (tCons (tLmd T mk b) tNil))) (gName i)) tz D σ H :=
  ⟨.ref a, ha, lams1 hT fun p f H1 e1 T1 hp l1 => ⟨a, p, xs, [.ref f], rfl, rfl, e1 _ _ hx (fun ps z => by cases z), hp, sz_of (show xs.length + 1 ≤ 100000 by omega), fun r nr =>
    k r f _ (e1.trans (.of (Ex.new nr))) (T1.ext (Ex.new nr)) upd_same (l1.up (.of (Ex.new nr)))⟩⟩
theorem pin_some {cs : Addr → Option Obj} {b : Addr} {o : HO} (hn : ∀ b o, cs b = some o → H b = none) (h : H b = some o) : pin cs H b = some o := by
  cases q : cs b with
  | none => rw [pin_out q]; exact h
  | some o' => rw [hn b o' q] at h; cases h
theorem nst_pin {n : Nat} {d : PyData} {A : List Addr} {cs : Addr → Option Obj} (hn : ∀ b o, cs b = some o → H b = none) (h : Nst n H v d A) : Nst n (pin cs H) v d A := h.stay fun a _ xs q => pin_some hn q
theorem ex_unp {cs : Addr → Option Obj} (hn : ∀ b o, cs b = some o → H b = none) (e : Ex (pin cs H) H') : Ex H (unp cs H') := fun b o h => by
  cases q : cs b with
  | none => rw [unp_out q]; exact e b o (by rw [pin_out q]; exact h)
  | some o' => rw [hn b o' q] at h; cases h
/-- doors_right(asks, lists, others) -/
theorem ev_doors {LH : Addr → (Hp → Prop) → Sp → Prop} {cells : List (Str × Addr)} {N fr : List Str} {tr : TA} {fs : List Addr} {dL dO : List PyData}
    (h : EvAP tr σ H (fun _ vs H2 => ∃ la vl vo AL AO, vs = [.ref la, vl, vo] ∧ H2 la = some (.lst (fs.map V.ref)) ∧ Nst 3 H2 vl (.list dL) AL ∧ Nst 3 H2 vo (.list dO) AO)) (hfs : fs.length ≤ 100) (hD : ∀ H1 cs, Ex H H1 → (∀ b o, cs b = some o → H1 b = none) → PinsOf cells N fr σ cs → ∀ f ∈ fs, DoorOk LH dL dO (pin cs H1) f)
    (hlen : dL.length = dO.length) (hl1 : ∀ d ∈ dL, ∃ es, d = .list es) (hl2 : ∀ d ∈ dO, ∃ es, d = .list es) : Ev (tCallPin cells N fr (sp_doors LH) tr) σ H (.bl true) := fun H1 e Q q => h H1 e _ fun vs H2 e2 ⟨la, vl, vo, AL, AO, hvs, h1, h2, h3⟩ cs hn hp => by
  subst hvs
  exact ⟨la, fs, vl, vo, dL, dO, AL, AO, rfl, pin_some hn h1, hfs, hD H2 cs (e.trans e2) hn hp, nst_pin hn h2, nst_pin hn h3, hlen, hl1, hl2, fun H3 e3 => q _ (e2.trans (ex_unp hn e3))⟩
theorem eap_imp {tr : TA} {P P' : Hp → List V → Hp → Prop} (h : EvAP tr σ H P) (i : ∀ H1 w H2, Ex H H1 → Ex H1 H2 → P H1 w H2 → P' H1 w H2) : EvAP tr σ H P' := fun H1 e Q q => h H1 e Q fun w H2 e2 p => q w H2 e2 (i H1 w H2 e e2 p)
theorem wrap1 {d : PyData} {A : List Addr} (h : Ev te σ H v) (hn : Nst 2 H v d A) : EvP (tLst (tCons te tNil)) σ H (fun _ w H2 => ∃ A', Nst 3 H2 w (.list [d]) A') := fun H1 e Q q => h H1 e _ fun H2 e2 =>
  ⟨sz_of (show 1 ≤ 100000 by decide), fun p np => q _ _ (e2.trans (Ex.new np)) ⟨p :: A, .inr ⟨p, [(v, d, A)], rfl, upd_same, rfl, by simp [itA], show 1 ≤ 100 by decide, fun i hi => by
    obtain rfl := List.mem_singleton.mp hi
    exact hn.ex ((e.trans e2).trans (Ex.new np))⟩⟩⟩
theorem wrap2 {d : PyData} {A : List Addr} {st : List Nat} (h : Ev te σ H v) (hn : Nst 2 H v d A) (hs : EvL tb σ H (st.map nv)) (hl : st.length ≤ 100) : EvP (tLst (tCons te (tCons tb tNil))) σ H (fun _ w H2 => ∃ A', Nst 3 H2 w (.list [d, dI st]) A') := fun H1 e Q q => h H1 e _ fun H2 e2 => hs H2 (e.trans e2) _ fun r H3 nr e3 hr =>
  ⟨sz_of (show 2 ≤ 100000 by decide), fun p np => q _ _ ((e2.trans e3).trans (Ex.new np)) ⟨p :: (A ++ [r]), .inr ⟨p, [(v, d, A), (.ref r, dI st, [r])], rfl, upd_same, rfl, by simp [itA], show 2 ≤ 100 by decide, fun i hi => by
    rcases List.mem_cons.mp hi with rfl | hi
    · exact hn.ex (((e.trans e2).trans e3).trans (Ex.new np))
    · obtain rfl := List.mem_singleton.mp hi
      exact nst_flats (c := nv) (dd := fun m : Nat => PyData.int (m : Int)) (fun z => rfl) (Ex.new np _ _ hr) hl⟩⟩⟩
end
theorem mw_nst {p : Addr} {as : List Addr} {web : List (List Nat)} {H : Hp} (m : MW p as web H) (hl : web.length ≤ 100) (hr : ∀ row ∈ web, row.length ≤ 100) : ∃ A, Nst 2 H (.ref p) (dW web) A := by
  have hle : as.length ≤ web.length := by rw [m.len]; exact Nat.le_refl _
  refine ⟨_, .inr ⟨p, (as.zip web).map fun z => (V.ref z.1, dI z.2, [z.1]), rfl, ?_, ?_, rfl, by rw [List.length_map, List.length_zip]; omega, fun i hi => ?_⟩⟩
  · rw [m.top]
    show some (HO.lst (as.map V.ref)) = some (HO.lst (((as.zip web).map fun z => (V.ref z.1, dI z.2, [z.1])).map fun i => i.1))
    rw [List.map_map]
    show _ = some (HO.lst ((as.zip web).map (V.ref ∘ Prod.fst)))
    rw [← List.map_map, List.map_fst_zip hle]
  · show PyData.list (web.map dI) = PyData.list (((as.zip web).map fun z => (V.ref z.1, dI z.2, [z.1])).map fun i => i.2.1)
    rw [List.map_map]
    show _ = PyData.list ((as.zip web).map (dI ∘ Prod.snd))
    rw [← List.map_map, List.map_snd_zip (by rw [m.len]; exact Nat.le_refl _)]
  · obtain ⟨⟨r, row⟩, hz, rfl⟩ := List.mem_map.mp hi
    obtain ⟨k, hk⟩ := List.mem_iff_getElem?.mp hz
    obtain ⟨k1, k2⟩ := List.getElem?_zip_eq_some.mp hk
    exact nst_flats (c := nv) (dd := fun m : Nat => PyData.int (m : Int)) (fun z => rfl) (m.row k r row k1 k2).2 (hr row (List.mem_of_getElem? k2))
/-- an ask as a door wants it -/
theorem door_of {P : Program} {w : World} {K : PySem.W.Frag} {mg : Str → Option Value} {base : Heap} {k : Nat} {F : NF} {e : Expr} {pm ctv : Value} {f : Addr} {cs : Addr → Option Obj} {J : Hp → Prop} {H : Hp} {dL dO : List PyData} {rL rO : PyData} {m : Nat}
    (a : AskF P w K mg base k f (fun H => LamC F e pm ctv f cs H ∧ J H) (spAsk (F2 (.list dL) rL rO) fun d => d = .list dL ∨ d = .list dO)) (hn : ∀ b o, cs b = some o → H b = none) (h1 : H f = some (exO (lamObj F e pm ctv))) (h2 : H F.c = some (CodeO F.c F.qual)) (hj : J (pin cs H)) (hm : m ≤ 100000) (s1 : Shw m rL) (s2 : Shw m rO) :
    DoorOk (AskF P w K mg base k) dL dO (pin cs H) f := by
  have hs : ∀ d, Shw m (F2 (.list dL) rL rO d) := fun d => by
    unfold F2
    split
    · exact s1
    · exact s2
  exact ⟨_, _, _, a, a.up, ⟨⟨pin_some hn h1, pin_some hn h2, fun b o z => pin_in z⟩, hj⟩, .inl rfl, .inr rfl, ⟨m, hm, hs _⟩, ⟨m, hm, hs _⟩⟩
def sp_law9 (K : PySem.W.Frag) (Pt : Addr) : Sp := fun vs H Q _ => ∃ (a : Addr) (xs : List Int), vs = [.ref a] ∧ SqL K H a (xs.map V.int) ∧ xs.length ≤ 63 ∧ H Pt = some (.tbl #[]) ∧ ∀ H', Q (.bl true) H'
/-! ### the two webs of law 9 -/
abbrev wA : Webs := [[], [0], [0, 1], [2, 4], [3]]
abbrev wB : Webs := [[], [0], [1], [0, 2], [4]]
theorem okA : Ok60 wA := ⟨by decide, by decide, by decide⟩
theorem okB : Ok60 wB := ⟨by decide, by decide, by decide⟩
theorem shwE {web : Webs} (ok : Ok60 web) (h : ((endsM web).all fun x => match x with | some n => decide (n < 100) | none => true) = true) : Shw (2 + 60 * 664) (dO (endsM web)) := by
  have q : Shw (2 + 60 * (9 + 2)) (dO (endsM web)) := shw_list (m := 9) (fun d hd => by
    obtain ⟨x, hx, rfl⟩ := List.mem_map.mp hd
    refine shw_od fun n hn => ?_
    have := List.all_eq_true.mp h x hx
    rw [hn] at this
    exact of_decide_eq_true this) (by rw [List.length_map, endsM_len]; exact ok.le)
  exact ⟨q.ok, q.nod, Nat.le_trans q.le (by decide)⟩
theorem shwA : Shw (2 + 60 * 664) (dO (endsM wA)) := shwE okA (by decide +kernel)
theorem shwB : Shw (2 + 60 * 664) (dO (endsM wB)) := shwE okB (by decide +kernel)
theorem shw1 {d : PyData} {m : Nat} (h : Shw m d) (hm : m ≤ 662) : Shw (2 + 60 * 664) (.list [d]) := by
  have q : Shw (2 + 1 * (m + 2)) (.list [d]) := shw_list (m := m) (fun x hx => by
    rw [List.mem_singleton.mp hx]
    exact h) (Nat.le_refl 1)
  exact ⟨q.ok, q.nod, Nat.le_trans q.le (by omega)⟩
theorem shwN {web : Webs} (ok : Ok60 web) (pl : Nat) : Shw (2 + 60 * 664) (.list [od (endOf web pl)]) := shw1 (shw_od fun n hn => by
  have := end_lt hn
  have := ok.le
  omega) (show 9 ≤ 662 by decide)
theorem shwW {web : Webs} (ok : Ok60 web) : Shw (2 + 60 * 664) (dTs (wthM web)) := shw_list (m := 662) (fun d hd => by
  obtain ⟨w, hw, rfl⟩ := List.mem_map.mp hd
  exact shw_dT (wthM_small ok w hw)) (by rw [List.length_map, wthM_len]; exact ok.le)
theorem shwO {web : Webs} (ok : Ok60 web) (pl : Nat) : Shw (2 + 60 * 664) (.list [dT (wthOf web (numsM web) pl)]) := shw1 (shw_dT (wth_small ok pl)) (Nat.le_refl _)
theorem shwK (b : Option Bool) : Shw (2 + 60 * 664) (dB (kindsB b ++ [true])) := by
  have q : Shw (2 + 4 * (9 + 2)) (dB (kindsB b ++ [true])) := shw_list (m := 9) (fun d hd => by
    obtain ⟨x, _, rfl⟩ := List.mem_map.mp hd
    exact shw_bool x) (Nat.le_refl 4)
  exact ⟨q.ok, q.nod, Nat.le_trans q.le (by decide)⟩
theorem shwL (b : Bool) : Shw (2 + 60 * 664) (.list [.bool b]) := shw1 (shw_bool b) (show 9 ≤ 662 by decide)
theorem hw0 {N : List Str} {σ : L2.St} : ∀ (i : Nat) (y : Str) (v : V), ([] : List Str)[i]? = some y → ([] : List (Option V))[i]? = some (some v) → ∃ j : Nat, N[j]? = some y ∧ σ[j]? = some (some v) := fun i y v h => by simp at h
theorem hw1 {N : List Str} {σ : L2.St} {y0 : Str} {v0 : V} {j : Nat} (h1 : N[j]? = some y0) (h2 : σ[j]? = some (some v0)) : ∀ (i : Nat) (y : Str) (v : V), [y0][i]? = some y → [some v0][i]? = some (some v) → ∃ j : Nat, N[j]? = some y ∧ σ[j]? = some (some v) := fun i y v a b => by
  match i, a, b with
  | 0, a, b =>
    cases a
    cases b
    exact ⟨j, h1, h2⟩
  | i + 1, a, _ => simp at a
theorem lists1 {d : List PyData} : ∀ x ∈ [PyData.list d], ∃ es, x = .list es := fun x hx => ⟨d, List.mem_singleton.mp hx⟩
theorem lists2 {d e : List PyData} : ∀ x ∈ [PyData.list d, PyData.list e], ∃ es, x = .list es := fun x hx => by
  rcases List.mem_cons.mp hx with h | h
  · exact ⟨d, h⟩
  · exact ⟨e, List.mem_singleton.mp h⟩
theorem okS2 {web : Webs} {a b : Nat} (h1 : a < web.length) (h2 : b < web.length) : OkSt web [a, b] := ⟨show 2 ≤ 20 by decide, fun x hx => by
  rcases List.mem_cons.mp hx with rfl | hx
  · exact h1
  · rw [List.mem_singleton.mp hx]
    exact h2⟩
/-- what the law's loop keeps -/
structure L9 (K : PySem.W.Frag) (T : List (Addr × Str)) (sa p p2 : Addr) (xs : List Int) (H : Hp) : Prop where
  sc : SqL K H sa (xs.map V.int)
  a : ∃ A, Nst 2 H (.ref p) (dW wA) A
  b : ∃ A, Nst 2 H (.ref p2) (dW wB) A
  t : Tabs T H
theorem L9.up {K : PySem.W.Frag} {T : List (Addr × Str)} {sa p p2 : Addr} {xs : List Int} {H H' : Hp} (h : L9 K T sa p p2 xs H) (e : ExtN H H') (t : Tabs T H') : L9 K T sa p p2 xs H' := by
  obtain ⟨A, hA⟩ := h.a
  obtain ⟨B, hB⟩ := h.b
  exact ⟨sqL_extN e h.sc, ⟨A, hA.extN e⟩, ⟨B, hB.extN e⟩, t⟩
theorem L9.ex {K : PySem.W.Frag} {T : List (Addr × Str)} {sa p p2 : Addr} {xs : List Int} {H H' : Hp} (h : L9 K T sa p p2 xs H) (e : Ex H H') : L9 K T sa p p2 xs H' := h.up (.of e) (h.t.ext e)
theorem LamAt.ex {mk : Addr → NF} {b : Expr} {f : Addr} {H H' : Hp} (h : LamAt mk b f H) (e : Ex H H') : LamAt mk b f H' := h.up (.of e)
theorem mem4 {α : Type} {p : α → Prop} {a b c d : α} (h1 : p a) (h2 : p b) (h3 : p c) (h4 : p d) : ∀ x ∈ [a, b, c, d], p x := fun x hx => by
  rcases List.mem_cons.mp hx with rfl | hx
  · exact h1
  rcases List.mem_cons.mp hx with rfl | hx
  · exact h2
  rcases List.mem_cons.mp hx with rfl | hx
  · exact h3
  rw [List.mem_singleton.mp hx]
  exact h4
theorem mem3 {α : Type} {p : α → Prop} {a b c : α} (h1 : p a) (h2 : p b) (h3 : p c) : ∀ x ∈ [a, b, c], p x := fun x hx => by
  rcases List.mem_cons.mp hx with rfl | hx
  · exact h1
  rcases List.mem_cons.mp hx with rfl | hx
  · exact h2
  rw [List.mem_singleton.mp hx]
  exact h3
end Sr
set_option Elab.async false
set_option linter.all false
set_option maxRecDepth 100000
set_option maxHeartbeats 4000000
/-! SrJ: the law's end where the law makes lambdas (its own code table grows) and no guard is up. -/
namespace Sr
open PySem PySem.Spec PyProof.Rows L2 Evl LamX NdefX

theorem lawT_call {P : Program} {w : World} {K : PySem.W.Frag} {mg mb : Str → Option Value} {CX : CXT} {k : Nat} {fa a c Pt : Addr} {fd : FuncData} {x : Str} {sp : Sp} {s1 : Shared} {vs : List Value} {ns : List Int}
    (kin : K.In s1.heap) (hns : s1.heap.Ns mainGlobals mg) (hb : s1.heap.Ns builtinsNs mb) (hbb : ∀ x : Str, x ≠ "__name__" → mb x = bootBuiltins x) (hlim : s1.heap.NoLimit) (hgen : s1.gens = #[])
    (hT : s1.heap.get? Pt = some { cls := .none, data := .fields #[] }) (nT : K.lookup Pt = none) (C : PySem.W.CodeHd s1.heap c Pt)
    (hbm : ∃ (bm : Addr) (ob : Obj), mg "__builtins__" = some (.ref bm) ∧ bm ≠ builtinsNs ∧ s1.heap.get? bm = some ob ∧ ob.cls = .type "module" ∧ ob.dict = some builtinsNs ∧ ob.data = .plain)
    (ha : s1.heap.get? a = some { cls := .type "list", data := .seq vs.toArray }) (hi : IntsAre vs ns) (hl : ns.length ≤ sizeLine) (hr : Room k callerA)
    (F : ∀ base : Heap, K.In base → base.Ns mainGlobals mg → TabB base mg c Pt → FnG P w K mg base CX k fa fd [x] sp) (hbind : ∀ (s : Shared) (u : Value), BindsTo s fd ⟨[u], []⟩ [(x, u)])
    (hsp : ∀ H : Hp, H Pt = some (.tbl #[]) → SqL K H a (ns.map V.int) → sp [.ref a] H (fun v _ => v = .bl true) fun _ _ _ => False)
    (hCX : ∀ H e s', CX [] H s1 (fun _ _ _ => False) e s' → False) :
    codeAny (model P w) callerA (.call (.ref fa) ⟨[.ref a], []⟩) (fun r s' => r = .ok (.ret (.bool true)) ∧ OldK s1.heap s'.heap ∧ s'.os = s1.os ∧ AllBare s'.gens) s1 := by
  have rv := vals_ints hi
  have lenV := hi.length
  have nPa : Pt ≠ a := fun z => by
    rw [z, ha] at hT
    cases hT
  -- the abstract heap tracks the table and, at most, the script
  have core : ∀ H : Hp, H Pt = some (.tbl #[]) → (∀ b, b ≠ Pt → H b = none ∨ ∃ o xs, H b = some (.frz o (.lst xs))) → SqL K H a (ns.map V.int) → HOk P w H s1.heap → (∀ b, H b ≠ none → b = a ∨ b = Pt) → (H a ≠ none → K.lookup a = none) →
      codeAny (model P w) callerA (.call (.ref fa) ⟨[.ref a], []⟩) (fun r s' => r = .ok (.ret (.bool true)) ∧ OldK s1.heap s'.heap ∧ s'.os = s1.os ∧ AllBare s'.gens) s1 := by
    intro H hP hO hS hok hA hK
    have free : ∀ b, b ≠ a → b ≠ Pt → H b = none := fun b n1 n2 => by
      cases q : H b with
      | none => rfl
      | some u => exact (hA b (by rw [q]; simp)).elim (fun z => absurd z n1) fun z => absurd z n2
    have other : ∀ {b : Addr} {o : Obj}, s1.heap.get? b = some o → (∀ us n, o.data ≠ .seq us n) → o.data ≠ .fields #[] → H b = none := fun {b o} e h1 h2 => free b (fun z => by
        rw [z, ha] at e
        cases e
        exact h1 _ _ rfl) fun z => by
        rw [z, hT] at e
        cases e
        exact h2 rfl
    have nsK : ∀ {b : Addr} {m : Str → Option Value}, s1.heap.Ns b m → (hidT s1.heap H).Ns b m := fun {b m} ⟨o, es, ep, e, d, r⟩ => ⟨o, es, ep, hidT_get e (other e (fun us n z => by rw [d] at z; cases z) fun z => by rw [d] at z; cases z), d, r⟩
    have kin' : K.In (hidT s1.heap H) := fun b o e => hidT_get (kin b o e) (by
      cases q : H b with
      | none => rfl
      | some u =>
        rcases hA b (by rw [q]; simp) with z | z
        · subst z
          rw [hK (by rw [q]; simp)] at e
          cases e
        · rw [z, nT] at e
          cases e)
    obtain ⟨mc, l1, l2⟩ := hlim
    have e0 : Env0 P w K mg (hidT s1.heap H) callerA [] s1 H :=
      ⟨rfl, ⟨kin', nsK hns, ⟨mb, nsK hb, hbb⟩, ⟨mc, nsK l1, l2⟩⟩, fun b o e => of_hidT e, Nat.le_of_eq (hidT_size _ _), trivial, fun b z => absurd (show b ∈ ([] : List Addr) from z) (by simp), hok, .of_eq hgen⟩
    have TB : TabB (hidT s1.heap H) mg c Pt := by
      refine ⟨?_, ?_, fun z => ?_⟩
      · obtain ⟨o, us, file, tf, flags, tg, inF, text, tt, e1, r1, r2, r3, r⟩ := C
        refine ⟨o, us, file, tf, flags, tg, inF, text, tt, hidT_get e1 (other e1 (fun us' n z => by rw [r2] at z; cases z) fun z => ?_), r1, r2, r3, r⟩
        rw [r2] at z
        cases z
        simp at r3
      · obtain ⟨bm, ob, b1, b2, b3, b4, b5, b6⟩ := hbm
        refine ⟨bm, ob, b1, b2, fun q => ?_, fun q => ?_, hidT_get b3 (other b3 (fun us n z => by rw [b6] at z; cases z) fun z => by rw [b6] at z; cases z), b4, b5, b6⟩
        · obtain ⟨o, es, ep, e, hd, _⟩ := hns
          rw [q, e] at b3
          cases b3
          rw [hd] at b6
          cases b6
        · rw [q, hT] at b3
          cases b3
          cases b6
      · obtain ⟨o, es, ep, e, hd, _⟩ := hns
        rw [z, hT] at e
        cases e
        cases hd
    refine codeAny_mono ((F _ kin' (nsK hns) TB).go callerA [] s1 H ⟨[.ref a], []⟩ [.ref a] [.ref a] _ _ hr rfl e0 (hbind s1 (.ref a)) (.cons rfl .nil) (hsp H hP hS)) fun r s' h => ?_
    match r, h with
    | .error e, h => exact (hCX H e s' h).elim
    | .ok .next, h => exact False.elim h
    | .ok .brk, h => exact False.elim h
    | .ok .cont, h => exact False.elim h
    | .ok (.ret u), ⟨v, H', os, bare, un, hok', ru, q⟩ =>
      have q' : v = .bl true := q
      subst q'
      obtain rfl : u = Value.bool true := ru
      have same : ∀ b o, b ≠ Pt → s1.heap.get? b = some o → s'.heap.get? b = some o := fun b o nb e => by
        rcases hO b nb with z | ⟨ob, xs, z⟩
        · exact un.keep b o e z (by intro y; exact absurd (show b ∈ ([] : List Addr) from y) (by simp)) (by simp)
        · obtain ⟨g1, _⟩ := hok b _ z
          obtain ⟨g2, _⟩ := hok' b _ (un.frzs b ob _ z)
          rw [e] at g1
          cases g1
          exact g2
      obtain ⟨more, hmore⟩ := un.tbls Pt #[] hP
      have grown : s'.heap.get? Pt = some { cls := .none, data := .fields (#[] ++ more) } := hok' Pt _ hmore
      refine ⟨rfl, ⟨fun b o e => ?_, fun b o e => ?_⟩, os, bare⟩
      · by_cases hb : b = Pt
        · rw [hb] at e ⊢
          rw [hT] at e
          cases e
          exact .inr (.inl ⟨(C.tab hT).isCodeTable, rfl, #[], more, rfl, grown⟩)
        · exact .inl (same b o hb e)
      · by_cases hb : b = Pt
        · rw [hb]
          exact ⟨_, grown⟩
        · exact ⟨o, same b o hb e⟩
  cases hk : K.lookup a with
  | some o =>
    have e := kin a o hk
    rw [ha] at e
    cases e
    have at_P : ∀ {b : Addr} {u : HO}, (if b = Pt then some (HO.tbl #[]) else none) = some u → b = Pt ∧ u = HO.tbl #[] := fun {b u} z => by
      by_cases hb : b = Pt
      · rw [if_pos hb] at z
        exact ⟨hb, (Option.some.inj z).symm⟩
      · rw [if_neg hb] at z
        cases z
    refine core (fun b => if b = Pt then some (.tbl #[]) else none) (if_pos rfl) (fun b nb => .inl (if_neg nb)) (.inr ⟨_, vs.toArray, _, hk, rfl, rfl, rfl, by rw [List.size_toArray, lenV]; exact hl, by simpa using rv⟩) (fun b u z => ?_) (fun b z => ?_) fun z => absurd (if_neg (Ne.symm nPa)) z
    · obtain ⟨rfl, rfl⟩ := at_P z
      exact hT
    · by_cases hb : b = Pt
      · exact .inr hb
      · exact absurd (if_neg hb) z
  | none =>
    let H0 : Hp := fun b => if b = a then some (.frz { cls := .type "list", data := .seq vs.toArray } (.lst (ns.map V.int))) else if b = Pt then some (.tbl #[]) else none
    have h1 : H0 a = some (.frz { cls := .type "list", data := .seq vs.toArray } (.lst (ns.map V.int))) := if_pos rfl
    have h2 : H0 Pt = some (.tbl #[]) := (if_neg nPa).trans (if_pos rfl)
    have h3 : ∀ b, b ≠ a → b ≠ Pt → H0 b = none := fun b n1 n2 => (if_neg n1).trans (if_neg n2)
    refine core H0 h2 (fun b nb => ?_) (.inl (.inr ⟨_, h1⟩)) (fun b u z => ?_) (fun b z => ?_) fun _ => hk
    · by_cases hb : b = a
      · rw [hb]
        exact .inr ⟨_, _, h1⟩
      · exact .inl (h3 b hb nb)
    · by_cases hb : b = a
      · subst hb
        rw [h1] at z
        cases z
        exact ⟨ha, by rw [List.length_map]; exact hl, vs, _, rv, ha⟩
      · by_cases hb2 : b = Pt
        · subst hb2
          rw [h2] at z
          cases z
          exact hT
        · rw [h3 b hb hb2] at z
          cases z
    · by_cases hb : b = a
      · exact .inl hb
      · by_cases hb2 : b = Pt
        · exact .inr hb2
        · exact absurd (h3 b hb hb2) z
/-- what the end wants of the law: its code object, its table -/
def LawT (l : PySem.W.OpenLaw) (w : World) (K : PySem.W.Frag) (CX : CXT) (k : Nat) (x : Str) (mg : Str → Option Value) (fa : Addr) (sp : Addr → Sp) : Prop :=
  ∃ (fd : FuncData) (c Pt : Addr) (o : Obj) (e : Value) (dd : Option Addr) (us : Array Value) (sl : Array (Option Value)), K.lookup fa = some o ∧ o.data = .func fd ∧ fd.code = .ref c ∧ K.lookup c = some ⟨e, dd, .fields us, sl⟩ ∧ us[11]? = some (.ref Pt) ∧ PySem.W.codeHdIn K c Pt = true ∧ K.lookup Pt = none ∧
    (∀ (s : Shared) (u : Value), BindsTo s fd ⟨[u], []⟩ [(x, u)]) ∧ ∀ base : Heap, K.In base → base.Ns mainGlobals mg → TabB base mg c Pt → FnG l.prog w K mg base CX k fa fd [x] (sp Pt)
theorem walkT_of {l : PySem.W.OpenLaw} {n k : Nat} {q : Program} {loose : List Str} {XP : (Str → Option Value) → Heap → Prop} {YP : World → Heap → Prop} {d : DefRec} {K : Params → PySem.W.Frag} {CX : World → CXT} {sp : World → Addr → Sp} {x : Str}
    (hn : l.most = some n) (hn2 : n ≤ sizeLine) (hdf : d.params.defaults = []) (hr : Room k callerA) (hrec : ((recsOf q).any fun e => e.name == d.name) = true) (hY : ∀ (w : World) (h : Heap), YP w h → (K w.params).In h)
    (F : ∀ (w : World) (mg : Str → Option Value) (fa : Addr) (h : Heap), (K w.params).In h → h.Ns mainGlobals mg → mg d.name = some (.ref fa) → LawT l w (K w.params) (CX w) k x mg fa (sp w))
    (hsp : ∀ (w : World) (Pt : Addr) (H : Hp) (a : Addr) (ns : List Int), ns.length ≤ n → H Pt = some (.tbl #[]) → SqL (K w.params) H a (ns.map V.int) → sp w Pt [.ref a] H (fun v _ => v = .bl true) fun _ _ _ => False)
    (hCX : ∀ (w : World) (H : Hp) (s : Shared) (e : Value) (s' : Shared), CX w [] H s (fun _ _ _ => False) e s' → False) :
    PySem.W.WalkO q loose XP YP l.row.toRowW d [] (fun f vs => PySem.call f vs) := by
  refine Att.attach_call hn hdf fun w s0 s1 mg mb fa o pm cd doc a vs ns G Y ho hd hcd hmg hobj hints hlen hg => ?_
  have KX := hY w _ Y
  obtain ⟨fd, c, Pt, o1, e, dd, us, sl, k1, k2, k3, k4, k5, k6, k7, hb, hF⟩ := F w mg fa _ KX G.T.g hmg
  have hP : s1.heap.get? Pt = some { cls := .none, data := .fields #[] } := by
    obtain ⟨dL, hm, hn1⟩ := List.any_eq_true.mp hrec
    have hn3 : dL.name = d.name := beq_iff_eq.mp hn1
    obtain ⟨a', o', fd', c', P', h1, h2, h3, h4, h5, h6⟩ := G.T.tab dL hm
    rw [hn3, hmg] at h1
    cases h1
    rw [KX _ _ k1] at h2
    cases h2
    rw [k2] at h3
    cases h3
    rw [k3] at h4
    cases h4
    obtain ⟨⟨oc, vc, e1, _, e3, e4⟩, hP⟩ := h6
    rw [KX _ _ k4] at e1
    cases e1
    cases e3
    rw [k5] at e4
    cases e4
    exact hP
  exact lawT_call KX G.T.g G.T.b G.T.builtins G.T.nolimit hg hP k7 (PySem.W.codeHd_of_K KX k6) G.T.bmain hobj hints (Nat.le_trans hlen hn2) hr hF hb (fun H hH hS => hsp w Pt H a ns hlen hH hS) fun H e s' => hCX w H s1 e s'
end Sr
set_option Elab.async false
set_option linter.all false
set_option maxRecDepth 100000
set_option maxHeartbeats 4000000
namespace Sr
open PySem PySem.Spec PyProof.Rows L2 Evl
def topS (i : Nat) : Stmt := PySem.Challenge.pw_stonesround_k09_whole_anew.main.body.getD i (.Pass ⟨0, 0, 0, 0⟩)
abbrev s_is_within : Stmt := topS 8
theorem sc_is_within : FnScope ["thing", "many"] ["thing", "many"] (defScope s_is_within) := ⟨rfl, rfl, rfl, by decide +kernel, rfl, by decide +kernel, by decide +kernel⟩
abbrev s_are_roads : Stmt := topS 9
theorem sc_are_roads : FnScope ["thing", "many", "place", "one", "other"] ["thing", "many"] (defScope s_are_roads) := ⟨rfl, rfl, rfl, by decide +kernel, rfl, by decide +kernel, by decide +kernel⟩
abbrev s_check_web : Stmt := topS 10
theorem sc_check_web : FnScope ["web", "one"] ["web"] (defScope s_check_web) := ⟨rfl, rfl, rfl, by decide +kernel, rfl, by decide +kernel, by decide +kernel⟩
abbrev s_check_place : Stmt := topS 11
theorem sc_check_place : FnScope ["web", "place"] ["web", "place"] (defScope s_check_place) := ⟨rfl, rfl, rfl, by decide +kernel, rfl, by decide +kernel, by decide +kernel⟩
abbrev s_check_stones : Stmt := topS 12
theorem sc_check_stones : FnScope ["web", "stones", "one"] ["web", "stones"] (defScope s_check_stones) := ⟨rfl, rfl, rfl, by decide +kernel, rfl, by decide +kernel, by decide +kernel⟩
abbrev s_ends_of : Stmt := topS 14
theorem sc_ends_of : FnScope ["web", "found", "turn", "place", "roads", "told", "other", "one"] ["web"] (defScope s_ends_of) := ⟨rfl, rfl, rfl, by decide +kernel, rfl, by decide +kernel, by decide +kernel⟩
abbrev s_ends : Stmt := topS 15
theorem sc_ends : FnScope ["web"] ["web"] (defScope s_ends) := ⟨rfl, rfl, rfl, by decide +kernel, rfl, by decide +kernel, by decide +kernel⟩
abbrev s_end : Stmt := topS 16
theorem sc_end : FnScope ["web", "place"] ["web", "place"] (defScope s_end) := ⟨rfl, rfl, rfl, by decide +kernel, rfl, by decide +kernel, by decide +kernel⟩
abbrev s_least_without : Stmt := topS 18
theorem sc_least_without : FnScope ["some", "found"] ["some"] (defScope s_least_without) := ⟨rfl, rfl, rfl, by decide +kernel, rfl, by decide +kernel, by decide +kernel⟩
abbrev s_numbers_of : Stmt := topS 19
theorem sc_numbers_of : FnScope ["web", "found", "changed", "place", "roads", "number", "others", "other", "back"] ["web"] (defScope s_numbers_of) := ⟨rfl, rfl, rfl, by decide +kernel, rfl, by decide +kernel, by decide +kernel⟩
abbrev s_worths_of : Stmt := topS 20
theorem sc_worths_of : FnScope ["web", "numbers", "found", "place", "roads", "near", "other"] ["web"] (defScope s_worths_of) := ⟨rfl, rfl, rfl, by decide +kernel, rfl, by decide +kernel, by decide +kernel⟩
abbrev s_worths : Stmt := topS 21
theorem sc_worths : FnScope ["web"] ["web"] (defScope s_worths) := ⟨rfl, rfl, rfl, by decide +kernel, rfl, by decide +kernel, by decide +kernel⟩
abbrev s_worth : Stmt := topS 22
theorem sc_worth : FnScope ["web", "place"] ["web", "place"] (defScope s_worth) := ⟨rfl, rfl, rfl, by decide +kernel, rfl, by decide +kernel, by decide +kernel⟩
abbrev s_word_of : Stmt := topS 25
theorem sc_word_of : FnScope ["told", "stones", "whole", "rounds", "place"] ["told", "stones"] (defScope s_word_of) := ⟨rfl, rfl, rfl, by decide +kernel, rfl, by decide +kernel, by decide +kernel⟩
abbrev s_behind : Stmt := topS 26
theorem sc_behind : FnScope ["web", "stones", "stone", "place"] ["web", "stones", "stone", "place"] (defScope s_behind) := ⟨rfl, rfl, rfl, by decide +kernel, rfl, by decide +kernel, by decide +kernel⟩
abbrev s_Lost_shows : Stmt := (inClass (topS 27) 0)
theorem sc_Lost_shows : FnScope ["self", "web", "stones"] ["self", "web", "stones"] (defScope s_Lost_shows) := ⟨rfl, rfl, rfl, by decide +kernel, rfl, by decide +kernel, by decide +kernel⟩
abbrev s_Won___init__ : Stmt := (inClass (topS 28) 0)
theorem sc_Won___init__ : FnScope ["self", "stone", "place"] ["self", "stone", "place"] (defScope s_Won___init__) := ⟨rfl, rfl, rfl, by decide +kernel, rfl, by decide +kernel, by decide +kernel⟩
abbrev s_Won_shows : Stmt := (inClass (topS 28) 1)
theorem sc_Won_shows : FnScope ["self", "web", "stones", "after"] ["self", "web", "stones"] (defScope s_Won_shows) := ⟨rfl, rfl, rfl, by decide +kernel, rfl, by decide +kernel, by decide +kernel⟩
abbrev s_Endless___init__ : Stmt := (inClass (topS 29) 0)
theorem sc_Endless___init__ : FnScope ["self", "stone", "place"] ["self", "stone", "place"] (defScope s_Endless___init__) := ⟨rfl, rfl, rfl, by decide +kernel, rfl, by decide +kernel, by decide +kernel⟩
abbrev s_Endless_shows : Stmt := (inClass (topS 29) 1)
theorem sc_Endless_shows : FnScope ["self", "web", "stones", "after", "told"] ["self", "web", "stones"] (defScope s_Endless_shows) := ⟨rfl, rfl, rfl, by decide +kernel, rfl, by decide +kernel, by decide +kernel⟩
abbrev s_pushes : Stmt := topS 31
theorem sc_pushes : FnScope ["web", "stones", "found", "stone", "place", "other"] ["web", "stones"] (defScope s_pushes) := ⟨rfl, rfl, rfl, by decide +kernel, rfl, by decide +kernel, by decide +kernel⟩
abbrev s_first_to : Stmt := topS 32
theorem sc_first_to : FnScope ["web", "stones", "told", "word", "stone", "place"] ["web", "stones", "told", "word"] (defScope s_first_to) := ⟨rfl, rfl, rfl, by decide +kernel, rfl, by decide +kernel, by decide +kernel⟩
abbrev s_told : Stmt := topS 33
theorem sc_told : FnScope ["web", "stones", "worths", "word", "stone", "place"] ["web", "stones"] (defScope s_told) := ⟨rfl, rfl, rfl, by decide +kernel, rfl, by decide +kernel, by decide +kernel⟩
abbrev s__law_cell_at : Stmt := topS 35
theorem sc__law_cell_at : FnScope ["_law_script", "_law_k"] ["_law_script", "_law_k"] (defScope s__law_cell_at) := ⟨rfl, rfl, rfl, by decide +kernel, rfl, by decide +kernel, by decide +kernel⟩
abbrev s__law_draw : Stmt := topS 36
theorem sc__law_draw : FnScope ["_law_cell", "_law_k", "_law_most", "_law_primes"] ["_law_cell", "_law_k", "_law_most"] (defScope s__law_draw) := ⟨rfl, rfl, rfl, by decide +kernel, rfl, by decide +kernel, by decide +kernel⟩
abbrev s__law_number : Stmt := topS 37
theorem sc__law_number : FnScope ["_law_cell", "_law_k", "_law_limit", "_law_small"] ["_law_cell", "_law_k", "_law_limit"] (defScope s__law_number) := ⟨rfl, rfl, rfl, by decide +kernel, rfl, by decide +kernel, by decide +kernel⟩
abbrev s__law_deep : Stmt := topS 38
theorem sc__law_deep : FnScope ["_law_thing", "_law_one"] ["_law_thing"] (defScope s__law_deep) := ⟨rfl, rfl, rfl, by decide +kernel, rfl, by decide +kernel, by decide +kernel⟩
abbrev s__law_spoilt : Stmt := topS 39
theorem sc__law_spoilt : FnScope ["_law_found", "_law_one"] ["_law_found"] (defScope s__law_spoilt) := ⟨rfl, rfl, rfl, by decide +kernel, rfl, by decide +kernel, by decide +kernel⟩
abbrev s__law_put : Stmt := topS 40
theorem sc__law_put : FnScope ["_law_handed", "_law_some", "_law_row", "_law_other"] ["_law_handed", "_law_some"] (defScope s__law_put) := ⟨rfl, rfl, rfl, by decide +kernel, rfl, by decide +kernel, by decide +kernel⟩
abbrev s__law_door_right : Stmt := topS 41
theorem sc__law_door_right : FnScope ["_law_ask", "_law_lists", "_law_others", "_law_handed", "_law_fixed", "_law_told_lists", "_law_text", "_law_due", "_law_some", "_law_again"] ["_law_ask", "_law_lists", "_law_others"] (defScope s__law_door_right) := ⟨rfl, rfl, rfl, by decide +kernel, rfl, by decide +kernel, by decide +kernel⟩
abbrev s__law_two : Stmt := topS 42
theorem sc__law_two : FnScope ["_law_found"] ["_law_found"] (defScope s__law_two) := ⟨rfl, rfl, rfl, by decide +kernel, rfl, by decide +kernel, by decide +kernel⟩
abbrev s__law_doors_right : Stmt := topS 43
theorem sc__law_doors_right : FnScope ["_law_asks", "_law_lists", "_law_others", "_law_ask"] ["_law_asks", "_law_lists", "_law_others"] (defScope s__law_doors_right) := ⟨rfl, rfl, rfl, by decide +kernel, rfl, by decide +kernel, by decide +kernel⟩
abbrev s__law_told : Stmt := topS 44
theorem sc__law_told : FnScope ["_law_web", "_law_stones", "_law_found", "_law_kinds"] ["_law_web", "_law_stones"] (defScope s__law_told) := ⟨rfl, rfl, rfl, by decide +kernel, rfl, by decide +kernel, by decide +kernel⟩
abbrev s_law : Stmt := topS 45
theorem sc_law : FnScope ["_law_script", "_law_web", "_law_other", "_law_by", "_law_place", "_law_asks", "_law_here"] ["_law_script"] (defScope s_law) := ⟨rfl, rfl, rfl, by decide +kernel, rfl, by decide +kernel, by decide +kernel⟩
section
variable {P : Program} {w : World} {K : PySem.W.Frag} {mg : Str → Option Value} {base : Heap}
theorem ok_is_within (d : Df K mg "is_within" s_is_within ["thing", "many"]) (T : Bi mg) : Cal P w K mg base CX0 1 "is_within" (sp_is_within K) := by
  have sc := sc_is_within
  refine d.cal sc (fun vs H Q E h => ?_) (fun f cdv A outer s H vs Q E hr h => ?_)
  · obtain ⟨a, ⟨rfl, _⟩, _⟩ := h
    rfl
  · obtain ⟨⟨v, n⟩, ⟨rfl, ty⟩, q⟩ := h
    refine ⟨_, (pss_one (ps_ret (pe_and (pe_callB (r := rIsi K) call_isi (by rfl) T.m_isinstance (by decide +kernel) (pa_cons (pv 0) (pa_cons (pe_bltn (v := .ty "int") (by rfl) T.m_int (by decide +kernel) rfl) pa_nil))) (pe_and (pe_not (pe_callB (r := rIsi K) call_isi (by rfl) T.m_isinstance (by decide +kernel) (pa_cons (pv 0) (pa_cons (pe_bltn (v := .ty "bool") (by rfl) T.m_bool (by decide +kernel) rfl) pa_nil)))) (pe_one (pe_chain op_le op_lt pe_int (pv 0) (pv 1))))))), ?_⟩
    refine s_ret (v := .bl (within n v)) ?_ (fun H1 e => q _ H1 e rfl)
    have h1 := ev_isInt (K := K) (ta := tVar 0) (σ := [some v, some (.int n)]) (ev_var rfl) ty
    have h2 := ev_isBool (K := K) (ta := tVar 0) (σ := [some v, some (.int n)]) (ev_var rfl) ty
    cases v with
    | int i => exact ev_is (ev_andV h1 fun _ => ev_andV (ev_notV h2) fun _ => ev_chain (i := 0) (j := i) (k := n) ev_c (ev_var rfl) (ev_var rfl)) rfl
    | bl b => exact ev_is (ev_andV (b := false) h1 fun _ => ev_andV (b := true) (ev_notV h2) fun h => by cases h) rfl
    | _ => exact ev_is (ev_andV (b := true) h1 fun h => by cases h) rfl
theorem ok_are_roads (d : Df K mg "are_roads" s_are_roads ["thing", "many"]) (T : Bi mg) (C1 : Cal P w K mg base CX0 1 "is_within" (sp_is_within K)) : Cal P w K mg base CX0 2 "are_roads" (sp_are_roads K) := by
  have sc := sc_are_roads
  refine d.cal sc (fun vs H Q E h => ?_) (fun f cdv A outer s H vs Q E hr h => ?_)
  · obtain ⟨a, ⟨rfl, _⟩, _⟩ := h
    rfl
  · obtain ⟨⟨v, o, n⟩, ⟨rfl, th⟩, q⟩ := h
    refine ⟨_, (pss_cons (ps_if (PW.pt (pw_or (pt_not (pt_val (pe_callB (r := rIsi K) call_isi (by rfl) T.m_isinstance (by decide +kernel) (pa_cons (pv 0) (pa_cons (pe_bltn (v := .ty "list") (by rfl) T.m_list (by decide +kernel) rfl) pa_nil))))) (pw_or1 (pt_not (pt_val (pe_callB (r := rAll K) (cr_all rfl) (by rfl) T.m_all (by decide +kernel) (pa_cons (pe_lc (own := [("place", 2)]) (wi := iList K _) rfl sc.nd (pi_list (pv 0)) (blkOk_by (by kernel_rfl)) (fun _ _ _ _ _ => (pg_name (i := 2) sc.nd rfl (.inl rfl))) (fun _ _ _ _ _ => pts_nil) (fun _ _ _ _ _ => (pe_c C1 hr (by decide) (by rfl) (pa_cons (pv 2) (pa_cons (pv 1) pa_nil))))) pa_nil)))))))
 (pss_one (ps_ret pe_bl))
 pss_nil)
 (pss_one (ps_ret (pe_callB (r := rAll K) (cr_all rfl) (by rfl) T.m_all (by decide +kernel) (pa_cons (pe_lc (own := [("one", 3), ("other", 4)]) (wi := iZip K _) (g := (gTup K 2 (gCons (gName 3) (gCons (gName 4) gNil)))) rfl sc.nd (pi_zip (by rfl) T.m_zip (pa_cons (pv 0) (pa_cons (pe_slice (r := rSlL K) sl_list (pv 0) (po_some pe_int) po_none) pa_nil))) (blkOk_by (by kernel_rfl)) (fun _ _ _ _ _ => by exact (pg_tup rfl (pgs_cons (pg_name (i := 3) sc.nd rfl (.inl rfl)) (pgs_cons (pg_name (i := 4) sc.nd rfl (.inl rfl)) pgs_nil)))) (fun _ _ _ _ _ => pts_nil) (fun _ _ _ _ _ => (pe_cmpR op_lt (pv 3) (pv 4) (nomark _)))) pa_nil))))), ?_⟩
    cases o with
    | none =>
      refine q_when (b := true) (et_is (et_or (b := true) (et_not (et_B (ev_noList (ev_var rfl) th))) fun h => by cases h) rfl) (fun _ H1 e => s_ret ev_c fun H2 e2 => q _ H2 (e.trans e2) rfl) (fun h => by cases h)
    | some xs =>
      obtain ⟨a, rfl, hs, hl, ty⟩ := th
      refine q_when (b := !(xs.all (within n))) (et_or (et_not (et_B (ev_isList (ev_var rfl) hs))) fun _ => et_not (et_B (ev_allM (el_m xs id (fun z => .bl (within n z)) (ev_var rfl) (by rw [List.map_id]; exact hs) (by omega) (fun _ => rfl)
          (fun i z H1 hi e => ev_callV (z, n) (ea_cons (ev_var rfl) (ea_cons (ev_var rfl) ea_nil)) (fun H2 e2 => ⟨rfl, (ty z (List.mem_of_getElem? hi)).mono (e.trans e2)⟩) (fun _ _ _ r => r))))))
        (fun h H1 e => s_ret ev_c fun H2 e2 => q _ H2 (e.trans e2) ?_) (fun h H1 e => ?_)
      · show V.bl false = V.bl (xs.all (within n) && risingV xs)
        rw [Bool.not_eq_true'] at h
        rw [h]
        rfl
      · have hall : xs.all (within n) = true := by simpa using h
        obtain ⟨is, rfl, hi⟩ := ints_of_within hall
        rw [List.length_map] at hl
        refine s_ret (ev_allM (el_mZN (is.zip (is.drop 1)) (fun p => .int p.1) (fun p => .int p.2) (fun p => .bl (decide (p.1 < p.2))) (ev_var rfl) (el_sl (ev_var rfl) (eo_some ev_c) eo_none (ex_l e hs)) (ex_l e hs)
          (by rw [cutV_one, List.length_zip, List.length_drop, List.length_drop, List.length_map]) (fun i p hp => ?_) (by rw [List.length_zip]; omega) (fun _ _ => rfl) (fun i p H2 _ _ => ev_op (ev_var rfl) (ev_var rfl) rv_I0))) fun H2 e2 => q _ H2 (e.trans e2) ?_
        · rw [List.getElem?_zip_eq_some] at hp
          rw [cutV_one, List.getElem?_map, ← List.map_drop, List.getElem?_map, hp.1, hp.2]
          exact ⟨rfl, rfl⟩
        · show _ = V.bl ((is.map V.int).all (within n) && risingV (is.map V.int))
          rw [hall, risingV_ints, rising_zip]
          rfl
end
end Sr
set_option Elab.async false
set_option linter.all false
set_option maxRecDepth 100000
set_option maxHeartbeats 4000000
namespace Sr
open PySem PySem.Spec PyProof.Rows L2 Evl
section
variable {P : Program} {w : World} {K : PySem.W.Frag} {mg : Str → Option Value} {base : Heap}
theorem ok_check_web {tm : Tok} (d : Df K mg "check_web" s_check_web ["web"]) (T : Bi mg) (gM : mg "MOST" = some (.int 60 tm)) (C2 : Cal P w K mg base CX0 2 "are_roads" (sp_are_roads K)) : Cal P w K mg base CX0 3 "check_web" (sp_check_web K) := by
  have sc := sc_check_web
  refine d.cal sc (fun vs H Q E h => ?_) (fun f cdv A outer s H vs Q E hr h => ?_)
  · obtain ⟨a, ⟨rfl, _⟩, _⟩ := h
    rfl
  · obtain ⟨⟨a, web⟩, ⟨rfl, hw, ok⟩, q⟩ := h
    refine ⟨_, (pss_one (ps_if (PW.pt (pw_or (pt_not (pt_val (pe_callB (r := rIsi K) call_isi (by rfl) T.m_isinstance (by decide +kernel) (pa_cons (pv 0) (pa_cons (pe_bltn (v := .ty "list") (by rfl) T.m_list (by decide +kernel) rfl) pa_nil))))) (pw_or (pt_not (pt_chain op_le op_le pe_int (pe_callB (r := rLenS K) call_len_seq (by rfl) T.m_len PySem.boot_len (pa_cons (pv 0) pa_nil)) (pe_glob (v := .int 60) (by rfl) gM ⟨_, rfl⟩))) (pw_or1 (pt_not (pt_val (pe_callB (r := rAll K) (cr_all rfl) (by rfl) T.m_all (by decide +kernel) (pa_cons (pe_lc (own := [("one", 1)]) (wi := iList K _) rfl sc.nd (pi_list (pv 0)) (blkOk_by (by kernel_rfl)) (fun _ _ _ _ _ => (pg_name (i := 1) sc.nd rfl (.inl rfl))) (fun _ _ _ _ _ => pts_nil) (fun _ _ _ _ _ => (pe_c C2 hr (by decide) (by rfl) (pa_cons (pv 1) (pa_cons (pe_callB (r := rLenS K) call_len_seq (by rfl) T.m_len PySem.boot_len (pa_cons (pv 0) pa_nil)) pa_nil))))) pa_nil))))))))
 (pss_one ps_never)
 pss_nil)), ?_⟩
    dsimp only at hw ok q
    have hw' := hw
    obtain ⟨as, h1, h2, h3⟩ := hw
    have hp := ok.pos
    have hle := ok.le
    refine s_when (b := false) (et_is (et_or (et_not (et_B (ev_isList (ev_var rfl) h1))) fun _ => et_or (et_not (et_test (ev_chain ev_c (ev_lenLL (ev_var rfl) hw') ev_c))) fun _ => et_not (et_B (ev_allM (el_m as V.ref (fun _ => .bl true) (ev_var rfl) h1 (by omega) (fun _ => rfl)
      (fun i z H1 hi e => ?_))))) ?_) (fun h => by cases h) (fun _ H1 e => q _ H1 e rfl)
    · obtain ⟨row, hrow⟩ := LL.row (K := K) (H := H) (a := a) h2 hi
      have hg := ok.good row (List.mem_of_getElem? hrow)
      have hs := ex_l e (h3 i z row hi hrow)
      have hn := ok.good.len (List.mem_of_getElem? hrow)
      refine ev_callV (.ref z, some (row.map nv), (web.length : Int)) (ea_cons (ev_var rfl) (ea_cons (ev_lenLL (ev_var rfl) (hw'.mono e)) ea_nil)) (fun H2 e2 => ⟨rfl, z, rfl, ex_l e2 hs, ?_, typ_nat⟩) (fun _ v _ r => ?_)
      · rw [List.length_map]
        omega
      · rw [r]
        show V.bl (roadsOk (web.length : Int) (some (row.map nv))) = V.bl true
        rw [roads_good hg.1 hg.2]
    · have e1 : (1 : Int) ≤ (web.length : Int) := by omega
      have e2 : (web.length : Int) ≤ 60 := by omega
      simp [e1, e2]
theorem ok_check_stones {tm : Tok} (d : Df K mg "check_stones" s_check_stones ["web", "stones"]) (T : Bi mg) (gS : mg "STONES" = some (.int 20 tm)) (C1 : Cal P w K mg base CX0 1 "is_within" (sp_is_within K)) : Cal P w K mg base CX0 2 "check_stones" (sp_check_stones K) := by
  have sc := sc_check_stones
  refine d.cal sc (fun vs H Q E h => ?_) (fun f cdv A outer s H vs Q E hr h => ?_)
  · obtain ⟨a, ⟨rfl, _⟩, _⟩ := h
    rfl
  · obtain ⟨⟨⟨a, web⟩, ⟨b, st⟩⟩, ⟨rfl, hw, hs, ok⟩, q⟩ := h
    refine ⟨_, (pss_one (ps_if (PW.pt (pw_or (pt_not (pt_val (pe_callB (r := rIsi K) call_isi (by rfl) T.m_isinstance (by decide +kernel) (pa_cons (pv 1) (pa_cons (pe_bltn (v := .ty "list") (by rfl) T.m_list (by decide +kernel) rfl) pa_nil))))) (pw_or (pt_cmpR op_gt (pe_callB (r := rLenS K) call_len_seq (by rfl) T.m_len PySem.boot_len (pa_cons (pv 1) pa_nil)) (pe_glob (v := .int 20) (by rfl) gS ⟨_, rfl⟩) (nomark _)) (pw_or1 (pt_not (pt_val (pe_callB (r := rAll K) (cr_all rfl) (by rfl) T.m_all (by decide +kernel) (pa_cons (pe_lc (own := [("one", 2)]) (wi := iList K _) rfl sc.nd (pi_list (pv 1)) (blkOk_by (by kernel_rfl)) (fun _ _ _ _ _ => (pg_name (i := 2) sc.nd rfl (.inl rfl))) (fun _ _ _ _ _ => pts_nil) (fun _ _ _ _ _ => (pe_c C1 hr (by decide) (by rfl) (pa_cons (pv 2) (pa_cons (pe_callB (r := rLenS K) call_len_seq (by rfl) T.m_len PySem.boot_len (pa_cons (pv 0) pa_nil)) pa_nil))))) pa_nil))))))))
 (pss_one ps_never)
 pss_nil)), ?_⟩
    have hle := ok.le
    dsimp only at hw hs ok hle q
    refine s_when (b := false) (et_is (et_or (et_not (et_B (ev_isList (ev_var rfl) hs))) fun _ => et_or (et_test (ev_op (ev_lenLI (ev_var rfl) hs) ev_c rv_I0)) fun _ => et_not (et_B (ev_allM (el_m st nv (fun _ => .bl true) (ev_var rfl) hs (by omega) (fun _ => rfl)
      (fun i z H1 hi e => ?_))))) ?_) (fun h => by cases h) (fun _ H1 e => q _ H1 e rfl)
    · refine ev_callV (nv z, (web.length : Int)) (ea_cons (ev_var rfl) (ea_cons (ev_lenLL (ev_var rfl) (hw.mono e)) ea_nil)) (fun H2 e2 => ⟨rfl, .int _⟩) (fun _ v _ r => ?_)
      rw [r]
      have hz := ok.lt z (List.mem_of_getElem? hi)
      show V.bl (decide ((0 : Int) ≤ (z : Int)) && decide ((z : Int) < (web.length : Int))) = V.bl true
      rw [decide_eq_true (by omega : (0 : Int) ≤ (z : Int)), decide_eq_true (by omega : (z : Int) < (web.length : Int))]
      rfl
    · have e2 : ¬ (20 : Int) < (st.length : Int) := by omega
      simp [e2]
theorem ok_check_place (d : Df K mg "check_place" s_check_place ["web", "place"]) (T : Bi mg) (C1 : Cal P w K mg base CX0 1 "is_within" (sp_is_within K)) : Cal P w K mg base CX0 2 "check_place" (sp_check_place K) := by
  have sc := sc_check_place
  refine d.cal sc (fun vs H Q E h => ?_) (fun f cdv A outer s H vs Q E hr h => ?_)
  · obtain ⟨a, ⟨rfl, _⟩, _⟩ := h
    rfl
  · obtain ⟨⟨⟨a, web⟩, p⟩, ⟨hv, hw, hp⟩, q⟩ := h
    dsimp only at hv hw hp q
    subst hv
    refine ⟨_, (pss_one (ps_if (pt_not (pt_val (pe_c C1 hr (by decide) (by rfl) (pa_cons (pv 1) (pa_cons (pe_callB (r := rLenS K) call_len_seq (by rfl) T.m_len PySem.boot_len (pa_cons (pv 0) pa_nil)) pa_nil)))))
 (pss_one ps_never)
 pss_nil)), ?_⟩
    refine s_when (b := false) (et_is (et_not (et_B (ev_callV (nv p, (web.length : Int)) (ea_cons (ev_var rfl) (ea_cons (ev_lenLL (ev_var rfl) hw) ea_nil)) (fun H2 e2 => ⟨rfl, .int _⟩) (fun _ v _ r => r)))) ?_) (fun h => by cases h) (fun _ H1 e => q _ H1 e rfl)
    show (!(decide ((0 : Int) ≤ (p : Int)) && decide ((p : Int) < (web.length : Int)))) = false
    rw [decide_eq_true (by omega : (0 : Int) ≤ (p : Int)), decide_eq_true (by omega : (p : Int) < (web.length : Int))]
    rfl
end
end Sr
set_option Elab.async false
set_option linter.all false
set_option maxRecDepth 100000
set_option maxHeartbeats 4000000
namespace Sr
open PySem PySem.Spec PyProof.Rows L2 Evl
section
variable {P : Program} {w : World} {K : PySem.W.Frag} {mg : Str → Option Value} {base : Heap}
theorem ok_ends_of (d : Df K mg "ends_of" s_ends_of ["web"]) (T : Bi mg) : Cal P w K mg base CX0 1 "ends_of" (sp_ends_of K) := by
  have sc := sc_ends_of
  refine d.cal sc (fun vs H Q E h => ?_) (fun f cdv A outer s H vs Q E hr h => ?_)
  · obtain ⟨a, ⟨rfl, _⟩, _⟩ := h
    rfl
  · obtain ⟨⟨a, web⟩, ⟨hv, hw, ok⟩, q⟩ := h
    dsimp only at hv hw ok q
    subst hv
    have hle := ok.le
    refine ⟨_, (pss_cons (ps_set (i := 1) sc.nd rfl (.inr rfl) (pe_op op_rep (pe_lst (pa_cons pe_non pa_nil)) (pe_callB (r := rLenS K) call_len_seq (by rfl) T.m_len PySem.boot_len (pa_cons (pv 0) pa_nil))))
 (pss_cons (ps_set (i := 2) sc.nd rfl (.inr rfl) pe_int)
 (pss_cons (ps_while PassesOwn.never (pt_cmpR op_le (pv 2) (pe_callB (r := rLenS K) call_len_seq (by rfl) T.m_len PySem.boot_len (pa_cons (pv 0) pa_nil)) (nomark _))
 (pss_cons (ps_for PassesOwn.never rfl (pi_enum (by rfl) T.m_enumerate (pa_cons (pv 0) pa_nil)) (pg_tup rfl (pgs_cons (pg_name (i := 3) sc.nd rfl (.inl rfl)) (pgs_cons (pg_name (i := 4) sc.nd rfl (.inl rfl)) pgs_nil)))
 (pss_one (ps_if (pt_cmpR op_isN (pe_ix (r := rIxL K) ix_list (pv 1) (pv 3) (fun _ _ => rfl)) pe_non (nomark _))
 (pss_cons (ps_setLc (i := 5) (own := [("other", 6)]) (wi := iList K _) rfl sc.nd rfl rfl (sw_true rfl rfl rfl (by decide +kernel)) (pi_list (pv 4)) (blkOk_by (by kernel_rfl)) (fun _ _ _ _ _ => (pg_name (i := 6) sc.nd rfl (.inl rfl))) (fun _ _ _ _ _ => pts_nil) (fun _ _ _ _ _ => (pe_ix (r := rIxL K) ix_list (pv 1) (pv 6) (fun _ _ => rfl))))
 (pss_cons (ps_if (PW.pt (pw_and (pt_cmpR op_eq (pe_op op_mod (pv 2) pe_int) pe_int (nomark _)) (pw_and1 (pt_val (pe_callB (r := rAll K) (cr_all rfl) (by rfl) T.m_all (by decide +kernel) (pa_cons (pe_lc (own := [("one", 7)]) (wi := iList K _) rfl sc.nd (pi_list (pv 5)) (blkOk_by (by kernel_rfl)) (fun _ _ _ _ _ => (pg_name (i := 7) sc.nd rfl (.inl rfl))) (fun _ _ _ _ _ => pts_nil) (fun _ _ _ _ _ => (pe_and (pe_cmpR op_notN (pv 7) pe_non (nomark _)) (pe_and (pe_cmpR op_eq (pe_op op_mod (pv 7) pe_int) pe_int (nomark _)) (pe_one (pe_cmpR op_lt (pv 7) (pv 2) (nomark _))))))) pa_nil))))))
 (pss_one (ps_asg (pv 2) (pg_sub (pv 1) (pv 3) set_list)))
 pss_nil)
 (pss_one (ps_if (PW.pt (pw_and (pt_cmpR op_eq (pe_op op_mod (pv 2) pe_int) pe_int (nomark _)) (pw_and1 (pt_cmpR (r := rIn K false) op_in_seq (pe_op op_sub (pv 2) pe_int) (pv 5) (by rfl)))))
 (pss_one (ps_asg (pv 2) (pg_sub (pv 1) (pv 3) set_list)))
 pss_nil))))
 pss_nil)))
 (pss_one (ps_aug (i := 2) sc.nd rfl (.inr rfl) pe_int ip_add))))
 (pss_one (ps_ret (pv 1)))))), ?_⟩
    refine q_asgL (el_rep (n := web.length) (el_lst (ea_cons ev_c ea_nil) (show 1 ≤ 100000 by decide)) (ev_lenLL (ev_var rfl) hw) rfl (by omega)) fun p H1 np e1 hp => ?_
    rw [flat_one] at hp
    obtain ⟨xs, hx, hxl, hxr⟩ := hw.enum
    refine q_asg ev_c fun H2 e2 => ?_
    refine q_while (fun m σ H' => ∃ t, m = web.length + 1 - t ∧ t ≤ web.length + 1 ∧ EndInv a p web t H σ H') (web.length + 1) ⟨0, rfl, Nat.zero_le _, none, none, none, rfl, e1.trans e2, by
      rw [e2 _ _ hp]
      show _ = some (HO.lst (List.map ov (List.replicate web.length none)))
      rw [List.map_replicate]
      rfl⟩ ?_
    rintro m σ' H3 ⟨t, rfl, ht, x3, x4, x5, rfl, e3, hp3⟩
    refine ⟨_, et_test (ev_le (ev_var rfl) (ev_lenLL (ev_var rfl) (hw.mono e3))), fun hb H4 e4 => ⟨fun σ2 H2 => EndInv a p web (t + 1) H σ2 H2, fun σ2 H2 hN => ?_, ?_⟩, fun hb H4 e4 => ?_⟩
    · rw [decide_eq_true_eq] at hb
      exact ⟨web.length + 1 - (t + 1), by omega, t + 1, rfl, by omega, hN⟩
    · refine q_of (s_forE (ev_var rfl) (ex_l (e3.trans e4) hx) (EndRow a p web t H) (fun H5 e5 => ⟨x3, x4, x5, rfl, (e3.trans e4).trans e5, (e4.trans e5) _ _ hp3⟩) (fun i σ' H' _ ⟨_, _, _, _, e, _⟩ => ex_l e hx) ?_ ?_)
      · rintro i x σ' H5 H6 hi ⟨y3, y4, y5, rfl, e5, hp5⟩ e56
        obtain ⟨r, row, rfl, hrow, hli⟩ := hxr i x hi
        have hil : i < web.length := (List.getElem?_eq_some_iff.mp hrow).1
        have hrl := ok.good.len (List.mem_of_getElem? hrow)
        generalize hs : go (endR web t) (List.range i) (endsT web t) = s at hp5
        have hsl : s.length = web.length := by rw [← hs, go_len, endsT_len]
        have hgo : go (endR web t) (List.range (i + 1)) (endsT web t) = giv (endR web t) s i := by rw [go_snoc, hs]
        have e6 := e5.trans e56
        have hp6 := e56 _ _ hp5
        have hfo : ∀ {σ : L2.St} {tv : TE} {Ha : Hp} {o : Nat}, Ex H6 Ha → o < web.length → σ[1]? = some (some (.ref p)) → Ev tv σ Ha (nv o) → Ev (tOp (rIxL K) (tVar 1) tv) σ Ha (ov (s.getD o none)) := fun ea ho h1 hv => ev_ixL (ev_var h1) (sq_of (ea _ _ hp6)) hv (ov_at (by omega))
        have done : ∀ (y : Option V) (Ha : Hp), Ex H6 Ha → giv (endR web t) s i = s → EndRow a p web t H (i + 1) [some (.ref a), some (.ref p), some (nv t), some (nv i), some (.ref r), y, none, none] Ha := fun y Ha ea h => ⟨_, _, _, rfl, e6.trans ea, by rw [hgo, h]; exact ea _ _ hp6⟩
        refine s_when (et_test (ev_isN (hfo (Ex.refl _) hil rfl (ev_var rfl)))) (fun hn H7 e7 => ?_) (fun hn H7 e7 => ?_)
        · rw [ov_non, Option.isNone_iff_eq_none] at hn
          have hsi := at_none (by omega) hn
          refine q_asgL (el_m row nv (fun o => ov (s.getD o none)) (ev_var rfl) (ex_l (e6.trans e7) hli) (by omega) (fun _ => rfl) (fun j o Ha hj ea => hfo (e7.trans ea) (ok.good.lt hrow (List.mem_of_getElem? hj)) rfl (ev_var rfl))) fun pt H8 npt e8 hpt => ?_
          have e68 := e7.trans e8
          have hne : pt ≠ p := fun z => by rw [z, e7 _ _ hp6] at npt; cases npt
          by_cases hev : t % 2 = 0
          · have hr : endR web t s i = if row.all (fun o => (s.getD o none).any fun v => decide (v % 2 = 1 ∧ v < t)) then some t else none := by
              unfold endR
              rw [if_pos hev, roads_of hrow]
            refine q_if (b := row.all (fun o => (s.getD o none).any fun v => decide (v % 2 = 1 ∧ v < t))) (et_is (et_and (et_test (ev_eqI (ev_mod (ev_var rfl) ev_c (by decide)) ev_c)) fun _ => et_B (ev_allM (f := fun o => (s.getD o none).any fun v => decide (v % 2 = 1 ∧ v < t)) (el_m row (fun o => ov (s.getD o none)) _ (ev_var rfl) (sq_of hpt) (by omega) (fun _ => rfl) (fun j o Ha hj ea => ?_)))) ?_) (fun h H9 e9 => ?_) (fun h H9 e9 => ?_)
            · cases ho : s.getD o none with
              | none => exact ev_andV (a := false) (b := true) (ev_notN (x := .non) (ev_var rfl)) fun h => by cases h
              | some v =>
                refine ev_is (ev_andV (a := true) (ev_is (ev_notN (x := nv v) (ev_var rfl)) rfl) fun _ => ev_andV (ev_eqI (ev_mod (i := (v : Int)) (ev_var rfl) ev_c (by decide)) ev_c) fun _ => ev_lt (ev_var rfl) (ev_var rfl)) ?_
                show V.bl (true && (decide ((v : Int) % 2 = 1) && decide ((v : Int) < (t : Int)))) = V.bl (decide (v % 2 = 1 ∧ v < t))
                rw [Bool.true_and, ← Bool.decide_and]
                congr 1
                exact decide_eq_decide.mpr ⟨fun h => ⟨by omega, by omega⟩, fun h => ⟨by omega, by omega⟩⟩
            · rw [decide_eq_true (by omega : (t : Int) % 2 = 0), Bool.true_and]
            · refine s_setL (j := i) ((e68.trans e9) _ _ hp6) (ev_var rfl) (ev_var rfl) (ev_var rfl) (by rw [List.length_map]; omega) fun Ha ea => ?_
              refine s_when (b := false) (et_is (et_and (b := true) (et_test (ev_eqI (ev_mod (ev_var rfl) ev_c (by decide)) ev_c)) fun z => ?_) ?_) (fun z => by cases z) (fun _ Hb eb => ?_)
              · rw [decide_eq_true_eq] at z
                omega
              · rw [decide_eq_false (by omega), Bool.false_and]
              · rw [if_pos h] at hr
                refine ⟨_, _, _, rfl, (Ex.mut (((e6.trans e68).trans e9).trans ea) np).trans eb, ?_⟩
                rw [hgo, giv_set hsi hr]
                refine eb _ _ ?_
                rw [upd_same, ov_set]
            · refine s_when (b := false) (et_is (et_and (b := true) (et_test (ev_eqI (ev_mod (ev_var rfl) ev_c (by decide)) ev_c)) fun z => ?_) ?_) (fun z => by cases z) (fun _ Hb eb => ?_)
              · rw [decide_eq_true_eq] at z
                omega
              · rw [decide_eq_false (by omega), Bool.false_and]
              · rw [if_neg (by rw [h]; decide)] at hr
                exact done _ _ ((e68.trans e9).trans eb) (giv_no fun _ => hr)
          · have hr : endR web t s i = if row.any (fun o => s.getD o none == some (t - 1)) then some t else none := by
              unfold endR
              rw [if_neg hev, roads_of hrow]
            refine q_if (b := false) (et_is (et_and (b := true) (et_test (ev_eqI (ev_mod (ev_var rfl) ev_c (by decide)) ev_c)) fun z => ?_) ?_) (fun z => by cases z) (fun _ H9 e9 => ?_)
            · rw [decide_eq_true_eq] at z
              omega
            · rw [decide_eq_false (by omega), Bool.false_and]
            refine s_when (b := row.any (fun o => s.getD o none == some (t - 1))) (et_is (et_and (et_test (ev_eqI (ev_mod (ev_var rfl) ev_c (by decide)) ev_c)) fun _ => et_test (ev_op (x := nv (t - 1)) (ev_is (ev_sub (ev_var rfl) ev_c) (congrArg V.int (by omega))) (ev_var rfl) (rv_isL (sq_of (e9 _ _ hpt)) rfl (flat_ov _ _)))) ?_) (fun h Ha ea => ?_) (fun h Ha ea => ?_)
            · rw [decide_eq_true (by omega : (t : Int) % 2 = 1), Bool.true_and, inV_ov]
            · refine s_setL (j := i) (((e68.trans e9).trans ea) _ _ hp6) (ev_var rfl) (ev_var rfl) (ev_var rfl) (by rw [List.length_map]; omega) fun Hb eb => ?_
              rw [if_pos h] at hr
              refine ⟨_, _, _, rfl, Ex.mut ((((e6.trans e68).trans e9).trans ea).trans eb) np, ?_⟩
              rw [hgo, giv_set hsi hr, upd_same, ov_set]
            · rw [if_neg (by rw [h]; decide)] at hr
              exact done _ _ ((e68.trans e9).trans ea) (giv_no fun _ => hr)
        · rw [ov_non] at hn
          cases hv : s.getD i none with
          | none => rw [hv] at hn; cases hn
          | some v => exact done _ _ e7 (giv_some hv)
      · rintro σ' H5 ⟨y3, y4, y5, rfl, e5, hp5⟩
        rw [hxl] at hp5
        exact s_aug (f := fun i j => i + j) rfl ev_c fun H6 e6 => ⟨y3, y4, y5, rfl, e5.trans e6, e6 _ _ hp5⟩
    · rw [decide_eq_false_iff_not] at hb
      have : t = web.length + 1 := by omega
      subst this
      exact s_ret (ev_var rfl) fun H5 e5 => q _ H5 ((e3.trans e4).trans e5) ⟨p, rfl, np, (e4.trans e5) _ _ hp3⟩
theorem ok_ends (d : Df K mg "ends" s_ends ["web"]) (T : Bi mg) (C3 : Cal P w K mg base CX0 3 "check_web" (sp_check_web K)) (CE : Cal P w K mg base CX0 1 "ends_of" (sp_ends_of K)) : Cal P w K mg base CX0 4 "ends" (sp_ends_of K) := by
  have sc := sc_ends
  refine d.cal sc (fun vs H Q E h => ?_) (fun f cdv A outer s H vs Q E hr h => ?_)
  · obtain ⟨a, ⟨rfl, _⟩, _⟩ := h
    rfl
  · obtain ⟨⟨a, web⟩, ⟨hv, hw, ok⟩, q⟩ := h
    dsimp only at hv hw ok q
    subst hv
    refine ⟨_, (pss_cons (ps_expr (pe_c C3 hr (by decide) (by rfl) (pa_cons (pv 0) pa_nil)))
 (pss_one (ps_ret (pe_c CE hr (by decide) (by rfl) (pa_cons (pv 0) pa_nil))))), ?_⟩
    refine q_drop (v := .non) (ev_callV (a, web) (ea_cons (ev_var rfl) ea_nil) (fun H1 e => ⟨rfl, hw.mono e, ok⟩) (fun _ _ _ r => r)) fun H1 e1 => ?_
    exact s_retP (ep_callA (P := fun Ha v Hb => ∃ p, v = .ref p ∧ Ha p = none ∧ Hb p = some (.lst ((endsM web).map ov))) (a, web) (ea_cons (ev_var rfl) ea_nil) (fun H2 e => ⟨rfl, hw.mono (e1.trans e), ok⟩) fun _ _ _ _ _ e0 _ ⟨p, h1, h2, h3⟩ => ⟨p, h1, fresh_back e0 h2, h3⟩) fun v H2 e2 ⟨p, h1, h2, h3⟩ => q v H2 (e1.trans e2) ⟨p, h1, fresh_back e1 h2, h3⟩
theorem ok_end (d : Df K mg "end" s_end ["web", "place"]) (T : Bi mg) (C3 : Cal P w K mg base CX0 3 "check_web" (sp_check_web K)) (CP : Cal P w K mg base CX0 2 "check_place" (sp_check_place K)) (CE : Cal P w K mg base CX0 1 "ends_of" (sp_ends_of K)) : Cal P w K mg base CX0 4 "end" (sp_end K) := by
  have sc := sc_end
  refine d.cal sc (fun vs H Q E h => ?_) (fun f cdv A outer s H vs Q E hr h => ?_)
  · obtain ⟨a, ⟨rfl, _⟩, _⟩ := h
    rfl
  · obtain ⟨⟨⟨a, web⟩, pl⟩, ⟨hv, hw, ok, hpl⟩, q⟩ := h
    dsimp only at hv hw ok hpl q
    subst hv
    refine ⟨_, (pss_cons (ps_expr (pe_c C3 hr (by decide) (by rfl) (pa_cons (pv 0) pa_nil)))
 (pss_cons (ps_expr (pe_c CP hr (by decide) (by rfl) (pa_cons (pv 0) (pa_cons (pv 1) pa_nil))))
 (pss_one (ps_ret (pe_ix (r := rIxL K) ix_list (pe_c CE hr (by decide) (by rfl) (pa_cons (pv 0) pa_nil)) (pv 1) (fun _ _ => rfl)))))), ?_⟩
    refine q_drop (v := .non) (ev_callV (a, web) (ea_cons (ev_var rfl) ea_nil) (fun H1 e => ⟨rfl, hw.mono e, ok⟩) (fun _ _ _ r => r)) fun H1 e1 => ?_
    refine q_drop (v := .non) (ev_callV ((a, web), pl) (ea_cons (ev_var rfl) (ea_cons (ev_var rfl) ea_nil)) (fun H2 e => ⟨rfl, hw.mono (e1.trans e), hpl⟩) (fun _ _ _ r => r)) fun H2 e2 => ?_
    refine s_ret (v := ov (endOf web pl)) (ev_ixP (xs := (endsM web).map ov) (i := pl) (ep_callA (P := fun Ha v Hb => ∃ p, v = .ref p ∧ Hb p = some (.lst ((endsM web).map ov))) (a, web) (ea_cons (ev_var rfl) ea_nil) (fun H3 e => ⟨rfl, hw.mono ((e1.trans e2).trans e), ok⟩) fun _ _ _ _ _ e0 _ ⟨p, h1, h2, h3⟩ => ⟨p, h1, h3⟩) (ev_var rfl) (ov_at (by rw [endsM_len]; exact hpl))) fun H3 e3 => q _ H3 ((e1.trans e2).trans e3) rfl
end
end Sr
set_option Elab.async false
set_option linter.all false
set_option maxRecDepth 100000
set_option maxHeartbeats 4000000
namespace Sr
open PySem PySem.Spec PyProof.Rows L2 Evl
section
variable {P : Program} {w : World} {K : PySem.W.Frag} {mg : Str → Option Value} {base : Heap}
theorem ok_cell_at (d : Df K mg "_law_cell_at" s__law_cell_at ["_law_script", "_law_k"]) (T : Bi mg) : Cal P w K mg base CX0 1 "_law_cell_at" (sp_cell_at K) := by
  have sc := sc__law_cell_at
  refine d.cal sc (fun vs H Q E h => ?_) (fun f cdv A outer s H vs Q E hr h => ?_)
  · obtain ⟨a, ⟨rfl, _⟩, _⟩ := h
    rfl
  · obtain ⟨⟨a, xs, k⟩, ⟨hv, hs⟩, q⟩ := h
    dsimp only at hv hs q
    subst hv
    refine ⟨_, (pss_cons (ps_if (pt_cmpR op_lt (pv 1) (pe_callB (r := rLenS K) call_len_seq (by rfl) T.m_len PySem.boot_len (pa_cons (pv 0) pa_nil)) (nomark _))
 (pss_one (ps_ret (pe_ix (r := rIxL K) ix_list (pv 0) (pv 1) (fun _ _ => rfl))))
 pss_nil)
 (pss_one (ps_ret pe_int))), ?_⟩
    refine q_when (et_test (ev_lt (ev_var rfl) (ev_lenL (ev_var rfl) hs))) (fun h H1 e => ?_) (fun h H1 e => ?_)
    · have hk : k < xs.length := by
        have := of_decide_eq_true h
        rw [List.length_map] at this
        omega
      refine s_ret (ev_ixL (ev_var rfl) (ex_l e hs) (ev_var rfl) (v := .int xs[k]) (by rw [List.getElem?_map, List.getElem?_eq_getElem hk]; rfl)) fun H2 e2 => q _ H2 (e.trans e2) ?_
      rw [List.getD_eq_getElem?_getD, List.getElem?_eq_getElem hk]
      rfl
    · have hk : xs.length ≤ k := by
        have := of_decide_eq_false h
        rw [List.length_map] at this
        omega
      refine s_ret ev_c fun H2 e2 => q _ H2 (e.trans e2) ?_
      rw [List.getD_eq_getElem?_getD, List.getElem?_eq_none hk]
      rfl
theorem ok_draw (d : Df K mg "_law_draw" s__law_draw ["_law_cell", "_law_k", "_law_most"]) : Cal P w K mg base CX0 1 "_law_draw" sp_draw := by
  have sc := sc__law_draw
  refine d.cal sc (fun vs H Q E h => ?_) (fun f cdv A outer s H vs Q E hr h => ?_)
  · obtain ⟨a, ⟨rfl, _⟩, _⟩ := h
    rfl
  · obtain ⟨⟨c, k, m⟩, ⟨hv, hm⟩, q⟩ := h
    dsimp only at hv hm q
    subst hv
    refine ⟨_, (pss_cons (ps_set (i := 3) sc.nd rfl (.inl rfl) (pe_tup (pa_cons pe_int (pa_cons pe_int (pa_cons pe_int (pa_cons pe_int (pa_cons pe_int (pa_cons pe_int (pa_cons pe_int (pa_cons pe_int (pa_cons pe_int (pa_cons pe_int (pa_cons pe_int (pa_cons pe_int (pa_cons pe_int (pa_cons pe_int (pa_cons pe_int (pa_cons pe_int pa_nil))))))))))))))))))
 (pss_one (ps_ret (pe_op op_mod (pe_op op_mod (pe_op op_add (pe_op op_mul (pv 0) pe_int) (pe_op op_mul (pv 1) pe_int)) (pe_ix (r := rIxT K) ix_tup (pv 3) (pe_op op_mod (pv 1) pe_int) (fun _ _ => rfl))) (pv 2))))), ?_⟩
    refine q_asgU (eu_tup (ea_cons ev_c (ea_cons ev_c (ea_cons ev_c (ea_cons ev_c (ea_cons ev_c (ea_cons ev_c (ea_cons ev_c (ea_cons ev_c (ea_cons ev_c (ea_cons ev_c (ea_cons ev_c (ea_cons ev_c (ea_cons ev_c (ea_cons ev_c (ea_cons ev_c (ea_cons ev_c ea_nil)))))))))))))))) (by decide)) fun p H1 hp e1 h1 => ?_
    have hlt : k % 16 < 16 := Nat.mod_lt _ (by decide)
    obtain ⟨z, hz, _, hi⟩ := item_pos (ps := [1000003, 1000033, 1000037, 1000039, 1000081, 1000099, 1000117, 1000121, 1000133, 1000151, 1000159, 1000171, 1000183, 1000187, 1000193, 1000199]) (m := 2000000) (by decide) hlt
    have em : ((k : Int) % 16) = ((k % 16 : Nat) : Int) := by omega
    have hr2 := ev_mod (σ := [some (.int c), some (nv k), some (nv m), some (.ref p)]) (H := H1) (ta := tVar 1) (tb := tC (.int 16)) (ev_var rfl) ev_c (by decide)
    rw [em] at hr2
    refine s_ret (ev_mod (ev_mod (ev_add (ev_mul (ev_var rfl) ev_c (.inr (by decide))) (ev_mul (ev_var rfl) ev_c (.inr (by decide)))) (ev_op (ev_var rfl) hr2 (rv_ixT (st_of h1) (atI_nat hi))) hz) (ev_var rfl) (by omega)) fun H2 e2 => q _ H2 (e1.trans e2) ?_
    have hm' : (0 : Int) < (m : Int) := by omega
    refine ⟨((c * 48271 + k * 69621) % z % (m : Int)).toNat, ?_, ?_⟩
    · have := Int.emod_lt_of_pos ((c * 48271 + k * 69621) % z) hm'
      have := Int.emod_nonneg ((c * 48271 + k * 69621) % z) (b := (m : Int)) (by omega)
      omega
    · have := Int.emod_nonneg ((c * 48271 + k * 69621) % z) (b := (m : Int)) (by omega)
      show V.int _ = V.int _
      rw [Int.toNat_of_nonneg this]
theorem ok_number9 (d : Df K mg "_law_number" s__law_number ["_law_cell", "_law_k", "_law_limit"]) (CD : Cal P w K mg base CX0 1 "_law_draw" sp_draw) : Cal P w K mg base CX0 2 "_law_number" sp_number := by
  have sc := sc__law_number
  refine d.cal sc (fun vs H Q E h => ?_) (fun f cdv A outer s H vs Q E hr h => ?_)
  · obtain ⟨a, ⟨rfl, _⟩, _⟩ := h
    rfl
  · obtain ⟨⟨c, k, m⟩, ⟨hv, hm, hm2, hk⟩, q⟩ := h
    dsimp only at hv hm hm2 hk q
    subst hv
    refine ⟨_, (pss_cons (ps_if (pt_cmpR op_ge (pv 0) (pe_op op_pow pe_int pe_int) (nomark _))
 (pss_one (ps_ret (pe_op op_mod (pe_op op_fdiv (pe_op op_sub (pv 0) (pe_op op_pow pe_int pe_int)) (pe_ix (r := rIxT K) ix_tup (pe_tup (pa_cons pe_int (pa_cons pe_int (pa_cons pe_int (pa_cons pe_int (pa_cons pe_int pa_nil)))))) (pe_op op_mod (pv 1) pe_int) (fun _ _ => rfl))) (pv 2))))
 pss_nil)
 (pss_cons (ps_set (i := 3) sc.nd rfl (.inl rfl) (pe_op op_mod (pv 0) pe_int))
 (pss_one (ps_ret (pe_op op_mod (pe_c CD hr (by decide) (by rfl) (pa_cons (pe_op op_mul (pe_op op_add (pv 3) (pe_op op_mul pe_int (pv 1))) (pe_op op_add (pe_op op_add (pv 3) (pe_op op_mul pe_int (pv 1))) pe_int)) (pa_cons (pe_op op_add (pe_op op_mod (pv 1) pe_int) pe_int) (pa_cons pe_int pa_nil)))) (pv 2)))))), ?_⟩
    have hp : ∀ {σ : L2.St} {H : Hp}, Ev (tOp (rI CPow fun i j => .int (i ^ j.toNat)) (tC (.int 10)) (tC (.int 18))) σ H (.int 1000000000000000000) := fun {σ H} => ev_is (ev_op ev_c ev_c (rv_I ⟨by decide, by decide, by decide⟩)) (by decide)
    refine q_when (et_test (ev_ge (ev_var rfl) hp)) (fun h H1 e => ?_) (fun h H1 e => ?_)
    · have hlt : k % 5 < 5 := Nat.mod_lt _ (by decide)
      obtain ⟨z, hz, hz2, hi⟩ := item_pos (ps := [1, 7, 49, 343, 2401]) (m := 2401) (by decide) hlt
      have em : ((k : Int) % 5) = ((k % 5 : Nat) : Int) := by omega
      have hr2 := ev_mod (σ := start ["_law_cell", "_law_k", "_law_limit", "_law_small"] [.int c, nv k, nv m]) (H := H1) (ta := tVar 1) (tb := tC (.int 5)) (ev_var rfl) ev_c (by decide)
      rw [em] at hr2
      refine s_ret (ev_mod (ev_op (ev_sub (ev_var rfl) hp) (ev_ixU (eu_tup (ea_cons ev_c (ea_cons ev_c (ea_cons ev_c (ea_cons ev_c (ea_cons ev_c ea_nil))))) (by decide)) hr2 hi) (rv_I ⟨hz, by omega⟩)) (ev_var rfl) (by omega)) fun H3 e3 => q _ H3 (e.trans e3) ?_
      have h1 := Int.emod_nonneg ((c - 1000000000000000000) / z) (b := (m : Int)) (by omega)
      have h2 := Int.emod_lt_of_pos ((c - 1000000000000000000) / z) (b := (m : Int)) (by omega)
      refine ⟨((c - 1000000000000000000) / z % (m : Int)).toNat, by omega, ?_⟩
      show V.int _ = V.int _
      rw [Int.toNat_of_nonneg h1]
    · refine q_asg (ev_mod (ev_var rfl) ev_c (by decide)) fun H2 e2 => ?_
      have h1 := Int.emod_nonneg c (b := 1000003) (by decide)
      have h2 := Int.emod_lt_of_pos c (b := 1000003) (by decide)
      have em : (k : Int) % 9 + 1 = ((k % 9 + 1 : Nat) : Int) := by omega
      have hi := ev_add (ev_mod (H := H2) (σ := [some (.int c), some (nv k), some (nv m), some (.int (c % 1000003))]) (ta := tVar 1) (tb := tC (.int 9)) (ev_var rfl) ev_c (by decide)) (tb := tC (.int 1)) ev_c
      rw [em] at hi
      refine s_retP (P := fun _ w _ => ∃ r : Nat, r < m ∧ w = nv r) (ep_op1 (y := nv m) (P' := fun w => ∃ r : Nat, r < m ∧ w = nv r) (ep_call ((c % 1000003 + 977 * (k : Int)) * (c % 1000003 + 31 * (k : Int) + 5), k % 9 + 1, 999983) (EvAP.of (ea_cons (ev_mul (ev_add (ev_var rfl) (ev_mul ev_c (ev_var rfl) (.inl (by decide)))) (ev_add (ev_add (ev_var rfl) (ev_mul ev_c (ev_var rfl) (.inl (by decide)))) ev_c) (.inl ⟨by omega, by omega⟩)) (ea_cons hi (ea_cons ev_c ea_nil))))
        (fun H1 vs H2 _ _ p => ⟨p, show 0 < 999983 by decide⟩)) (ev_var rfl) (fun w hw => ?_)) (fun w H1 e3 ⟨r, hr, hw⟩ => ?_)
      · obtain ⟨H1, H2, H0, _, r, hr, rfl⟩ := hw
        refine ⟨nv (r % m), ⟨r % m, Nat.mod_lt _ hm, rfl⟩, ?_⟩
        exact rv_I (H := _) (C := fun _ j => 0 < j) (g := fun i j => .int (i % j)) (i := (r : Int)) (j := (m : Int)) (by show (0 : Int) < (m : Int); omega)
      · exact q _ H1 ((e.trans e2).trans e3) ⟨r, hr, hw⟩
end
end Sr
set_option Elab.async false
set_option linter.all false
set_option maxRecDepth 100000
set_option maxHeartbeats 4000000
namespace Sr
open PySem PySem.Spec PyProof.Rows L2 Evl
section
variable {P : Program} {w : World} {K : PySem.W.Frag} {mg : Str → Option Value} {base : Heap}
theorem ok_least (d : Df K mg "least_without" s_least_without ["some"]) : Cal P w K mg base CX0 1 "least_without" (sp_least K) := by
  have sc := sc_least_without
  refine d.cal sc (fun vs H Q E h => ?_) (fun f cdv A outer s H vs Q E hr h => ?_)
  · obtain ⟨xs, ⟨a, rfl, _⟩, _⟩ := h
    rfl
  · obtain ⟨xs, ⟨a, hv, hs, hl⟩, q⟩ := h
    dsimp only at q
    subst hv
    refine ⟨_, (pss_cons (ps_set (i := 1) sc.nd rfl (.inl rfl) pe_int)
 (pss_cons (ps_while PassesOwn.never (pt_cmpR (r := rIn K false) op_in_seq (pv 1) (pv 0) (by rfl))
 (pss_one (ps_aug (i := 1) sc.nd rfl (.inl rfl) pe_int ip_add)))
 (pss_one (ps_ret (pv 1))))), ?_⟩
    refine q_asg ev_c fun H1 e1 => ?_
    refine q_while (fun m σ H' => ∃ k, m = (xs.filterMap id).length + 1 - k ∧ (∀ j, j < k → j ∈ xs.filterMap id) ∧ σ = [some (.ref a), some (nv k)] ∧ Ex H H') ((xs.filterMap id).length + 1) ⟨0, rfl, fun j hj => absurd hj (Nat.not_lt_zero j), rfl, e1⟩ ?_
    rintro m σ' H2 ⟨k, rfl, hk, rfl, e2⟩
    have hkl := below_le hk
    refine ⟨_, et_test (ev_op (ev_var rfl) (ev_var rfl) (rv_isL (ex_l e2 hs) rfl (flat_o xs))), fun hb H3 e3 => ⟨fun σ2 Hx => σ2 = [some (.ref a), some (nv (k + 1))] ∧ Ex H Hx, fun σ2 Hx hN => ?_, ?_⟩, fun hb H3 e3 => ?_⟩
    · rw [inV_o, decide_eq_true_eq] at hb
      refine ⟨(xs.filterMap id).length + 1 - (k + 1), by omega, k + 1, rfl, fun j hj => ?_, hN⟩
      by_cases e : j = k
      · subst e
        exact hb
      · exact hk j (by omega)
    · exact s_aug (f := fun i j => i + j) rfl ev_c fun H4 e4 => ⟨rfl, (e2.trans e3).trans e4⟩
    · rw [inV_o, decide_eq_false_iff_not] at hb
      exact s_ret (ev_var rfl) fun H4 e4 => q _ H4 ((e2.trans e3).trans e4) (by rw [mex_stop hk hb])
theorem ok_numbers_of (d : Df K mg "numbers_of" s_numbers_of ["web"]) (T : Bi mg) (CL : Cal P w K mg base CX0 1 "least_without" (sp_least K)) : Cal P w K mg base CX0 2 "numbers_of" (sp_numbers K) := by
  have sc := sc_numbers_of
  refine d.cal sc (fun vs H Q E h => ?_) (fun f cdv A outer s H vs Q E hr h => ?_)
  · obtain ⟨a, ⟨rfl, _⟩, _⟩ := h
    rfl
  · obtain ⟨⟨a, web⟩, ⟨hv, hw, ok⟩, q⟩ := h
    dsimp only at hv hw ok q
    subst hv
    have hle := ok.le
    refine ⟨_, (pss_cons (ps_set (i := 1) sc.nd rfl (.inr rfl) (pe_op op_rep (pe_lst (pa_cons pe_non pa_nil)) (pe_callB (r := rLenS K) call_len_seq (by rfl) T.m_len PySem.boot_len (pa_cons (pv 0) pa_nil))))
 (pss_cons (ps_set (i := 2) sc.nd rfl (.inl rfl) pe_bl)
 (pss_cons (ps_while PassesOwn.never (pt_val (pv 2))
 (pss_cons (ps_set (i := 2) sc.nd rfl (.inl rfl) pe_bl)
 (pss_one (ps_for PassesOwn.never rfl (pi_enum (by rfl) T.m_enumerate (pa_cons (pv 0) pa_nil)) (pg_tup rfl (pgs_cons (pg_name (i := 3) sc.nd rfl (.inl rfl)) (pgs_cons (pg_name (i := 4) sc.nd rfl (.inl rfl)) pgs_nil)))
 (pss_one (ps_if (pt_cmpR op_isN (pe_ix (r := rIxL K) ix_list (pv 1) (pv 3) (fun _ _ => rfl)) pe_non (nomark _))
 (pss_cons (ps_set (i := 5) sc.nd rfl (.inr rfl) (pe_c CL hr (by decide) (by rfl) (pa_cons (pe_lc (own := [("other", 7)]) (wi := iList K _) rfl sc.nd (pi_list (pv 4)) (blkOk_by (by kernel_rfl)) (fun _ _ _ _ _ => (pg_name (i := 7) sc.nd rfl (.inl rfl))) (fun _ _ _ _ _ => pts_nil) (fun _ _ _ _ _ => (pe_ix (r := rIxL K) ix_list (pv 1) (pv 7) (fun _ _ => rfl)))) pa_nil)))
 (pss_cons (ps_setLc (i := 6) (own := [("other", 7)]) (wi := iList K _) rfl sc.nd rfl rfl (sw_true rfl rfl rfl (by decide +kernel)) (pi_list (pv 4)) (blkOk_by (by kernel_rfl)) (fun _ _ _ _ _ => (pg_name (i := 7) sc.nd rfl (.inl rfl))) (fun _ _ _ _ _ => pts_one (pt_cmpR op_isN (pe_ix (r := rIxL K) ix_list (pv 1) (pv 7) (fun _ _ => rfl)) pe_non (nomark _))) (fun _ _ _ _ _ => (pv 7)))
 (pss_one (ps_if (pt_val (pe_callB (r := rAll K) (cr_all rfl) (by rfl) T.m_all (by decide +kernel) (pa_cons (pe_lc (own := [("other", 7)]) (wi := iList K _) rfl sc.nd (pi_list (pv 6)) (blkOk_by (by kernel_rfl)) (fun _ _ _ _ _ => (pg_name (i := 7) sc.nd rfl (.inl rfl))) (fun _ _ _ _ _ => pts_nil) (fun _ _ _ _ _ => (pe_cmpR (r := rIn K false) op_in_seq (pv 5) (pe_lc (own := [("back", 8)]) (wi := iList K _) rfl sc.nd (pi_list (pe_ix (r := rIxL K) ix_list (pv 0) (pv 7) (fun _ _ => rfl))) (blkOk_by (by kernel_rfl)) (fun _ _ _ _ _ => (pg_name (i := 8) sc.nd rfl (.inl rfl))) (fun _ _ _ _ _ => pts_nil) (fun _ _ _ _ _ => (pe_ix (r := rIxL K) ix_list (pv 1) (pv 8) (fun _ _ => rfl)))) (by rfl)))) pa_nil)))
 (pss_cons (ps_asg (pv 5) (pg_sub (pv 1) (pv 3) set_list))
 (pss_one (ps_set (i := 2) sc.nd rfl (.inl rfl) pe_bl)))
 pss_nil))))
 pss_nil))))))
 (pss_one (ps_ret (pv 1)))))), ?_⟩
    refine q_asgL (el_rep (n := web.length) (el_lst (ea_cons ev_c ea_nil) (show 1 ≤ 100000 by decide)) (ev_lenLL (ev_var rfl) hw) rfl (by omega)) fun p H1 np e1 hp => ?_
    rw [flat_one] at hp
    obtain ⟨xs, hx, hxl, hxr⟩ := hw.enum
    refine q_asg ev_c fun H2 e2 => ?_
    refine q_while (fun m σ H' => ∃ b s, m = (if b then cnt s + 1 else 0) ∧ NumBy web s ∧ (b = false → Full web s) ∧ NumInv a p web b s H σ H') (cnt (List.replicate web.length (none : Option Nat)) + 1) ⟨true, List.replicate web.length none, rfl, .nil, (fun z => by cases z), none, none, none, none, rfl, e1.trans e2, by
      rw [e2 _ _ hp, List.map_replicate]
      rfl⟩ ?_
    rintro m σ' H3 ⟨b, s0, rfl, by0, full0, x3, x4, x5, x6, rfl, e3, hp3⟩
    have hs0 := by0.len
    refine ⟨b, et_B (ev_var rfl), fun hb H4 e4 => ?_, fun hb H4 e4 => ?_⟩
    · subst hb
      refine ⟨fun σ2 Hx => ∃ b', (b' = false → go (numR web) (List.range web.length) s0 = s0) ∧ (b' = true → cnt (go (numR web) (List.range web.length) s0) < cnt s0) ∧ NumInv a p web b' (go (numR web) (List.range web.length) s0) H σ2 Hx, ?_, ?_⟩
      · rintro σ2 Hx ⟨b', g1, g2, inv⟩
        refine ⟨if b' then cnt (go (numR web) (List.range web.length) s0) + 1 else 0, ?_, b', _, rfl, numBy_go by0, fun hb' => ?_, inv⟩
        · cases b' with
          | true =>
            have := g2 rfl
            show _ + 1 < _ + 1
            omega
          | false => show 0 < _ + 1; omega
        · have h := g1 hb'
          rw [h]
          exact full_of (go_fixed _ _ h) fun p hp => List.mem_range.mpr (by rw [← hs0]; exact hp)
      · refine q_asg ev_c fun H5 e5 => ?_
        refine s_forE (ev_var rfl) (ex_l ((e3.trans e4).trans e5) hx) (fun i σ2 Hx => ∃ b', (b' = false → go (numR web) (List.range i) s0 = s0) ∧ (b' = true → cnt (go (numR web) (List.range i) s0) < cnt s0) ∧ NumInv a p web b' (go (numR web) (List.range i) s0) H σ2 Hx)
          (fun H6 e6 => ⟨false, (fun _ => rfl), (fun z => by cases z), x3, x4, x5, x6, rfl, ((e3.trans e4).trans e5).trans e6, ((e4.trans e5).trans e6) _ _ hp3⟩) (fun i σ' H' _ ⟨_, _, _, _, _, _, _, _, e, _⟩ => ex_l e hx) ?_ ?_
        · rintro i x σ' H6 H7 hi ⟨b', g1, g2, y3, y4, y5, y6, rfl, e6, hp6⟩ e67
          obtain ⟨r, row, rfl, hrow, hli⟩ := hxr i x hi
          have hil : i < web.length := (List.getElem?_eq_some_iff.mp hrow).1
          have hrl := ok.good.len (List.mem_of_getElem? hrow)
          have hro := roads_of hrow
          rw [go_snoc]
          generalize hs : go (numR web) (List.range i) s0 = s at hp6 g1 g2 ⊢
          have hsl : s.length = web.length := by rw [← hs, go_len]; exact hs0
          have hcn : cnt s ≤ cnt s0 := by rw [← hs]; exact go_cnt _ _
          have e7 := e6.trans e67
          have hp7 := e67 _ _ hp6
          have hlt : ∀ o ∈ row, o < web.length := fun o ho => ok.good.lt hrow ho
          have hfo : ∀ {σ : L2.St} {tv : TE} {Ha : Hp} {o : Nat}, Ex H7 Ha → o < web.length → σ[1]? = some (some (.ref p)) → Ev tv σ Ha (nv o) → Ev (tOp (rIxL K) (tVar 1) tv) σ Ha (ov (s.getD o none)) := fun ea ho h1 hv => ev_ixL (ev_var h1) (sq_of (ea _ _ hp7)) hv (ov_at (by omega))
          refine s_when (et_test (ev_isN (hfo (Ex.refl _) hil rfl (ev_var rfl)))) (fun hn H8 e8 => ?_) (fun hn H8 e8 => ?_)
          · rw [ov_non, Option.isNone_iff_eq_none] at hn
            have hsi := at_none (by omega) hn
            refine q_asg (ev_callL (row.map fun o => s.getD o none) (el_is (el_m row nv (fun o => ov (s.getD o none)) (ev_var rfl) (ex_l (e7.trans e8) hli) (by omega) (fun _ => rfl) (fun j o Ha hj ea => hfo (e8.trans ea) (hlt o (List.mem_of_getElem? hj)) rfl (ev_var rfl))) (by rw [List.map_map]; rfl)) (fun q0 Ha ea hq => ⟨q0, rfl, sq_of hq, by rw [List.length_map]; omega⟩) (fun _ _ _ r => r)) fun H9 e9 => ?_
            rw [nums_map]
            generalize hm : mex (nums s row) = m
            have hr := numR_if (web := web) (s := s) (p := i) (m := m) (by rw [hro, hm])
            rw [hro] at hr
            have e79 := e8.trans e9
            refine q_asgL (el_lcN row nv (fun o => (s.getD o none).isNone) nv (ev_var rfl) (ex_l (e7.trans e79) hli) (by omega) (fun _ => rfl) (fun j o Ha hj ea => et_is (et_test (ev_isN (hfo (e79.trans ea) (hlt o (List.mem_of_getElem? hj)) rfl (ev_var rfl)))) (ov_non _)) (fun j o Ha hj ea _ => ev_var rfl)) fun po Ha npo ea hpo => ?_
            have e7a := e79.trans ea
            have hfl : (row.filter fun o => (s.getD o none).isNone).length ≤ row.length := List.length_filter_le _ _
            refine s_when (b := (row.filter fun o => (s.getD o none).isNone).all (fun o => (roads web o).any fun b => s.getD b none == some m)) (et_B (ev_allM (el_m (row.filter fun o => (s.getD o none).isNone) nv (fun o => .bl ((roads web o).any fun b => s.getD b none == some m)) (ev_var rfl) (sq_of hpo) (by omega) (fun _ => rfl) (fun j o Hb hj eb => ?_)))) (fun h Hb eb => ?_) (fun h Hb eb => ?_)
            · have ho := hlt o (List.mem_filter.mp (List.mem_of_getElem? hj)).1
              have hwo : web[o]? = some web[o] := List.getElem?_eq_getElem ho
              obtain ⟨zs, r2, k1, k2, k3, k4⟩ := (hw.mono ((e7.trans e7a).trans eb)).at hwo
              have hrl2 := ok.good.len (List.mem_of_getElem? hwo)
              rw [roads_of hwo]
              refine ev_is (ev_opL (ev_var rfl) (el_m web[o] nv (fun b => ov (s.getD b none)) (ev_ixL (ev_var rfl) k1 (ev_var rfl) k3) k4 (by omega) (fun _ => rfl) (fun j2 b2 Hc hj2 ec => hfo ((e7a.trans eb).trans ec) (ok.good.lt hwo (List.mem_of_getElem? hj2)) rfl (ev_var rfl))) fun q0 Hc hq _ => rv_isL (sq_of hq) rfl (flat_ov _ _)) ?_
              rw [inV_ov]
            · rw [if_pos h] at hr
              refine q_of (s_setL (j := i) ((e7a.trans eb) _ _ hp7) (ev_var rfl) (ev_var rfl) (ev_var rfl) (by rw [List.length_map]; omega) fun Hc ec => ?_)
              refine s_asg ev_c fun Hd ed => ?_
              rw [giv_set hsi hr]
              have hct := set_cnt (v := m) hsi
              refine ⟨true, (fun z => by cases z), (fun _ => by omega), _, _, _, _, rfl, (Ex.mut (((e7.trans e7a).trans eb).trans ec) np).trans ed, ?_⟩
              refine ed _ _ ?_
              rw [upd_same, ov_set]
            · rw [if_neg (by rw [h]; decide)] at hr
              have hno : giv (numR web) s i = s := giv_no fun _ => hr
              exact ⟨b', (fun z => by rw [hno]; exact g1 z), (fun z => by rw [hno]; exact g2 z), _, _, _, _, rfl, (e7.trans e7a).trans eb, by rw [hno]; exact (e7a.trans eb) _ _ hp7⟩
          · rw [ov_non] at hn
            cases hv : s.getD i none with
            | none => rw [hv] at hn; cases hn
            | some v =>
              have hno : giv (numR web) s i = s := giv_some hv
              exact ⟨b', (fun z => by rw [hno]; exact g1 z), (fun z => by rw [hno]; exact g2 z), _, _, _, _, rfl, e7.trans e8, by rw [hno]; exact e8 _ _ hp7⟩
        · rw [hxl]
          exact fun σ' H' h => h
    · have hf := full0 hb
      rw [numsM_is by0 hf] at hp3
      exact s_ret (ev_var rfl) fun H5 e5 => q _ H5 ((e3.trans e4).trans e5) ⟨p, rfl, np, (e4.trans e5) _ _ hp3⟩
end
end Sr
set_option Elab.async false
set_option linter.all false
set_option maxRecDepth 100000
set_option maxHeartbeats 4000000
namespace Sr
open PySem PySem.Spec PyProof.Rows L2 Evl
section
variable {P : Program} {w : World} {K : PySem.W.Frag} {mg : Str → Option Value} {base : Heap}
theorem ok_worths_of (d : Df K mg "worths_of" s_worths_of ["web"]) (T : Bi mg) (CN : Cal P w K mg base CX0 2 "numbers_of" (sp_numbers K)) : Cal P w K mg base CX0 3 "worths_of" (sp_worths K) := by
  have sc := sc_worths_of
  refine d.cal sc (fun vs H Q E h => ?_) (fun f cdv A outer s H vs Q E hr h => ?_)
  · obtain ⟨a, ⟨rfl, _⟩, _⟩ := h
    rfl
  · obtain ⟨⟨a, web⟩, ⟨hv, hw, ok⟩, q⟩ := h
    dsimp only at hv hw ok q
    subst hv
    have hle := ok.le
    obtain ⟨xs, hx, hxl, hxr⟩ := hw.enum
    refine ⟨_, (pss_cons (ps_set (i := 1) sc.nd rfl (.inr rfl) (pe_c CN hr (by decide) (by rfl) (pa_cons (pv 0) pa_nil)))
 (pss_cons (ps_set (i := 2) sc.nd rfl (.inl rfl) (pe_lst pa_nil))
 (pss_cons (ps_for PassesOwn.never rfl (pi_enum (by rfl) T.m_enumerate (pa_cons (pv 0) pa_nil)) (pg_tup rfl (pgs_cons (pg_name (i := 3) sc.nd rfl (.inl rfl)) (pgs_cons (pg_name (i := 4) sc.nd rfl (.inl rfl)) pgs_nil)))
 (pss_cons (ps_set (i := 5) sc.nd rfl (.inl rfl) (pe_callB (r := rSortedSet w) (cr_sortedSet rfl) (by rfl) T.m_sorted (by decide +kernel) (pa_cons (pe_callTy (r := rSetOf K w) (call_set_of rfl) (by rfl) T.m_set (by decide +kernel) (pa_cons (pe_lc (own := [("other", 6)]) (wi := iList K _) rfl sc.nd (pi_list (pv 4)) (blkOk_by (by kernel_rfl)) (fun _ _ _ _ _ => (pg_name (i := 6) sc.nd rfl (.inl rfl))) (fun _ _ _ _ _ => pts_one (pt_cmpR op_notN (pe_ix (r := rIxL K) ix_list (pv 1) (pv 6) (fun _ _ => rfl)) pe_non (nomark _))) (fun _ _ _ _ _ => (pe_ix (r := rIxL K) ix_list (pv 1) (pv 6) (fun _ _ => rfl)))) pa_nil)) pa_nil)))
 (pss_one (ps_expr (pe_bm PySem.F.plainAttrs_list PySem.F.slot_list_append PySem.F.type_list_append mt_append (pv 2) (pa_cons (pe_ifExp (pt_cmpR op_isN (pe_ix (r := rIxL K) ix_list (pv 1) (pv 3) (fun _ _ => rfl)) pe_non (nomark _)) (pv 5) (pe_ix (r := rIxL K) ix_list (pv 1) (pv 3) (fun _ _ => rfl))) pa_nil))))))
 (pss_one (ps_ret (pv 2)))))), ?_⟩
    refine q_asgP (P := fun Ha v Hb => ∃ p, v = .ref p ∧ Ha p = none ∧ Hb p = some (.lst ((numsM web).map ov))) (ep_callA (a, web) (ea_cons (ev_var rfl) ea_nil) (fun H3 e => ⟨rfl, hw.mono e, ok⟩) fun _ _ _ _ _ e0 _ ⟨p, h1, h2, h3⟩ => ⟨p, h1, fresh_back e0 h2, h3⟩) fun v1 H1 e1 ⟨na, h1, nna, hna⟩ => ?_
    subst h1
    refine q_asgL (el_lst ea_nil sz_nil) fun fa H2 nfa e2 hfa => ?_
    have hnl := numsM_len web
    refine q_of (s_forE (ev_var rfl) (ex_l (e1.trans e2) hx) (fun i σ' H' => ∃ x3 x4 x5 ys, σ' = [some (.ref a), some (.ref na), some (.ref fa), x3, x4, x5, none] ∧ Ex H1 H' ∧ WL H1 fa ys ((wthM web).take i) H') (fun H3 e3 => ⟨none, none, none, [], rfl, e2.trans e3, .nil nfa (e3 _ _ hfa)⟩) (fun i σ' H' _ ⟨_, _, _, _, _, e, _⟩ => ex_l (e1.trans e) hx) ?_ ?_)
    · rintro i x σ' H5 H6 hi ⟨x3, x4, x5, ys, rfl, e5, wl⟩ e56
      obtain ⟨r, row, rfl, hrow, hli⟩ := hxr i x hi
      have hil : i < web.length := (List.getElem?_eq_some_iff.mp hrow).1
      have hrl := ok.good.len (List.mem_of_getElem? hrow)
      have hro := roads_of hrow
      have hlt : ∀ o ∈ row, o < web.length := fun o ho => ok.good.lt hrow ho
      have e16 := e5.trans e56
      have wl6 := wl.ex e56
      have hfo : ∀ {σ : L2.St} {tv : TE} {Ha : Hp} {o : Nat}, Ex H1 Ha → o < web.length → σ[1]? = some (some (.ref na)) → Ev tv σ Ha (nv o) → Ev (tOp (rIxL K) (tVar 1) tv) σ Ha (ov ((numsM web).getD o none)) := fun ea ho h1 hv => ev_ixL (ev_var h1) (sq_of (ea _ _ hna)) hv (ov_at (by omega))
      have hnn := nums_len (numsM web) row
      refine q_asgL (el_sortedSet (ns := (nums (numsM web) row).map fun n : Nat => (n : Int)) (el_is (el_lcN row nv (fun o => ((numsM web).getD o none).isSome) (fun o => ov ((numsM web).getD o none)) (ev_var rfl) (ex_l (e1.trans e16) hli) (by omega) (fun _ => rfl) (fun j o Ha hj ea => et_is (et_test (ev_notN (hfo (e16.trans ea) (hlt o (List.mem_of_getElem? hj)) rfl (ev_var rfl)))) (ov_some _)) (fun j o Ha hj ea _ => hfo (e16.trans ea) (hlt o (List.mem_of_getElem? hj)) rfl (ev_var rfl))) (filt_nums _ _)) (by rw [List.length_map]; omega)) fun pn H7 npn e7 hpn => ?_
      rw [← sortN_int, List.map_map] at hpn
      have wl7 := wl6.ex e7
      have e17 := e16.trans e7
      have hyl : ys.length ≤ 60 := by
        rw [wl.len, List.length_take]
        omega
      have hat := wthM_at hil
      have pnf : pn ≠ fa := fun z => by rw [z, wl6.top] at npn; cases npn
      obtain ⟨vv, hv, hW, hF⟩ : ∃ vv, Ev (tIf (tTest (tOp (fun x y H Q => y = .non ∧ Q (.bl (decide (x = .non))) H) (tOp (rIxL K) (tVar 1) (tVar 3)) (tC .non))) (tVar 5) (tOp (rIxL K) (tVar 1) (tVar 3))) [some (.ref a), some (.ref na), some (.ref fa), some (nv i), some (.ref r), some (.ref pn), none] H7 vv ∧ Wv H7 fa vv (wthOf web (numsM web) i) ∧ ∀ r', vv = .ref r' → H1 r' = none ∧ ∀ i : Nat, ys[i]? ≠ some (V.ref r') := by
        unfold wthOf
        cases hc : (numsM web).getD i none with
        | none => exact ⟨.ref pn, ev_if (b := true) (et_is (et_test (ev_isN (hfo e17 hil rfl (ev_var rfl)))) (by rw [ov_non, hc]; rfl)) (fun _ => ev_var rfl) (fun z => by cases z), ⟨pn, rfl, pnf, by rw [hro]; exact hpn⟩, fun r' hr' => by
            cases hr'
            exact ⟨fresh_back e16 npn, wl6.no npn⟩⟩
        | some n => exact ⟨nv n, ev_if (b := false) (et_is (et_test (ev_isN (hfo e17 hil rfl (ev_var rfl)))) (by rw [ov_non, hc]; rfl)) (fun z => by cases z) (fun _ => by have h := hfo (σ := [some (.ref a), some (.ref na), some (.ref fa), some (nv i), some (.ref r), some (.ref pn), none]) (tv := tVar 3) e17 hil rfl (ev_var rfl); rw [hc] at h; exact h), rfl, fun r' hr' => by cases hr'⟩
      refine s_app wl7.top (ev_var rfl) hv (by omega) fun H8 e8 => ?_
      refine ⟨_, _, _, ys ++ [vv], rfl, Ex.mut (e17.trans e8) nfa, ?_⟩
      rw [take_snoc hat]
      exact (wl7.ex e8).app (hW.mono (ExO.of e8)) hF
    · rintro σ' H5 ⟨x3, x4, x5, ys, rfl, e5, wl⟩
      rw [hxl, List.take_of_length_le (by rw [wthM_len]; exact Nat.le_refl _)] at wl
      exact s_ret (ev_var rfl) fun H6 e6 => q _ H6 ((e1.trans e5).trans e6) ⟨fa, ys, rfl, (wl.ex e6).back e1⟩
theorem ok_worths (d : Df K mg "worths" s_worths ["web"]) (C3 : Cal P w K mg base CX0 3 "check_web" (sp_check_web K)) (CW : Cal P w K mg base CX0 3 "worths_of" (sp_worths K)) : Cal P w K mg base CX0 4 "worths" (sp_worths K) := by
  have sc := sc_worths
  refine d.cal sc (fun vs H Q E h => ?_) (fun f cdv A outer s H vs Q E hr h => ?_)
  · obtain ⟨a, ⟨rfl, _⟩, _⟩ := h
    rfl
  · obtain ⟨⟨a, web⟩, ⟨hv, hw, ok⟩, q⟩ := h
    dsimp only at hv hw ok q
    subst hv
    refine ⟨_, (pss_cons (ps_expr (pe_c C3 hr (by decide) (by rfl) (pa_cons (pv 0) pa_nil)))
 (pss_one (ps_ret (pe_c CW hr (by decide) (by rfl) (pa_cons (pv 0) pa_nil))))), ?_⟩
    refine q_drop (v := .non) (ev_callV (a, web) (ea_cons (ev_var rfl) ea_nil) (fun H1 e => ⟨rfl, hw.mono e, ok⟩) (fun _ _ _ r => r)) fun H1 e1 => ?_
    exact s_retP (ep_callA (P := fun Ha v Hb => ∃ p ys, v = .ref p ∧ WL Ha p ys (wthM web) Hb) (a, web) (ea_cons (ev_var rfl) ea_nil) (fun H2 e => ⟨rfl, hw.mono (e1.trans e), ok⟩) fun _ _ _ _ _ e0 _ ⟨p, ys, h1, h2⟩ => ⟨p, ys, h1, h2.back e0⟩) fun v H2 e2 ⟨p, ys, h1, h2⟩ => q v H2 (e1.trans e2) ⟨p, ys, h1, h2.back e1⟩
theorem ok_worth (d : Df K mg "worth" s_worth ["web", "place"]) (C3 : Cal P w K mg base CX0 3 "check_web" (sp_check_web K)) (CP : Cal P w K mg base CX0 2 "check_place" (sp_check_place K)) (CW : Cal P w K mg base CX0 3 "worths_of" (sp_worths K)) : Cal P w K mg base CX0 4 "worth" (sp_worth K) := by
  have sc := sc_worth
  refine d.cal sc (fun vs H Q E h => ?_) (fun f cdv A outer s H vs Q E hr h => ?_)
  · obtain ⟨a, ⟨rfl, _⟩, _⟩ := h
    rfl
  · obtain ⟨⟨⟨a, web⟩, pl⟩, ⟨hv, hw, ok, hpl⟩, q⟩ := h
    dsimp only at hv hw ok hpl q
    subst hv
    refine ⟨_, (pss_cons (ps_expr (pe_c C3 hr (by decide) (by rfl) (pa_cons (pv 0) pa_nil)))
 (pss_cons (ps_expr (pe_c CP hr (by decide) (by rfl) (pa_cons (pv 0) (pa_cons (pv 1) pa_nil))))
 (pss_one (ps_ret (pe_ix (r := rIxL K) ix_list (pe_c CW hr (by decide) (by rfl) (pa_cons (pv 0) pa_nil)) (pv 1) (fun _ _ => rfl)))))), ?_⟩
    refine q_drop (v := .non) (ev_callV (a, web) (ea_cons (ev_var rfl) ea_nil) (fun H1 e => ⟨rfl, hw.mono e, ok⟩) (fun _ _ _ r => r)) fun H1 e1 => ?_
    refine q_drop (v := .non) (ev_callV ((a, web), pl) (ea_cons (ev_var rfl) (ea_cons (ev_var rfl) ea_nil)) (fun H2 e => ⟨rfl, hw.mono (e1.trans e), hpl⟩) (fun _ _ _ r => r)) fun H2 e2 => ?_
    refine s_retP (P := fun Ha v Hb => ∃ p, Wv Hb p v (wthOf web (numsM web) pl) ∧ ∀ r, v = .ref r → Ha r = none) ?_ fun v H3 e3 ⟨p, h1, h2⟩ => q v H3 ((e1.trans e2).trans e3) ⟨p, h1, fun r hr => fresh_back (e1.trans e2) (h2 r hr)⟩
    intro Ha ea Qx qx
    refine (ep_callA (P := fun Ha v Hb => ∃ p ys, v = .ref p ∧ WL Ha p ys (wthM web) Hb) (a, web) (ea_cons (ev_var rfl) ea_nil) (fun H3 e => ⟨rfl, hw.mono ((e1.trans e2).trans e), ok⟩) fun _ _ _ _ _ e0 _ ⟨p, ys, h1, h2⟩ => ⟨p, ys, h1, h2.back e0⟩) Ha ea _ fun v Hb eb ⟨p, ys, h1, wl⟩ => ?_
    subst h1
    have hlt : pl < ys.length := by
      rw [wl.len, wthM_len]
      exact hpl
    refine (ev_var (i := 1) (v := nv pl) rfl) Hb (ea.trans eb) _ fun Hc ec => ⟨p, ys, (pl : Int), ys[pl], rfl, rfl, sq_of (ec _ _ wl.top), atI_nat (List.getElem?_eq_getElem hlt), qx _ Hc (eb.trans ec) ⟨p, (wl.ex ec).item pl _ _ (List.getElem?_eq_getElem hlt) (wthM_at hpl), fun r hr => wl.fresh pl r (by rw [List.getElem?_eq_getElem hlt, hr])⟩⟩
end
end Sr
set_option Elab.async false
set_option linter.all false
set_option maxRecDepth 100000
set_option maxHeartbeats 4000000
namespace Sr
open PySem PySem.Spec PyProof.Rows L2 Evl
section
variable {P : Program} {w : World} {K : PySem.W.Frag} {mg : Str → Option Value} {base : Heap}
theorem ok_word_of (d : Df K mg "word_of" s_word_of ["told", "stones"]) (T : Bi mg) : Cal P w K mg base CX0 1 "word_of" (sp_word K) := by
  have sc := sc_word_of
  refine d.cal sc (fun vs H Q E h => ?_) (fun f cdv A outer s H vs Q E hr h => ?_)
  · obtain ⟨a, ⟨rfl, _⟩, _⟩ := h
    rfl
  · obtain ⟨⟨⟨wa, web⟩, ⟨sa, st⟩⟩, ⟨hv, hw, hs, hlt, hle⟩, q⟩ := h
    dsimp only at hv hw hs hlt hle q
    subst hv
    obtain ⟨ys, hy1, hy2, hy3⟩ := hw
    refine ⟨_, (pss_cons (ps_set (i := 2) sc.nd rfl (.inl rfl) pe_int)
 (pss_cons (ps_set (i := 3) sc.nd rfl (.inl rfl) (pe_lst pa_nil))
 (pss_cons (ps_for PassesOwn.never rfl (pi_list (pv 1)) (pg_name (i := 4) sc.nd rfl (.inl rfl))
 (pss_one (ps_if (pt_val (pe_callB (r := rIsi K) call_isi (by rfl) T.m_isinstance (by decide +kernel) (pa_cons (pe_ix (r := rIxL K) ix_list (pv 0) (pv 4) (fun _ _ => rfl)) (pa_cons (pe_bltn (v := .ty "list") (by rfl) T.m_list (by decide +kernel) rfl) pa_nil))))
 (pss_one (ps_expr (pe_bm PySem.F.plainAttrs_list PySem.F.slot_list_append PySem.F.type_list_append mt_append (pv 3) (pa_cons (pe_ix (r := rIxL K) ix_list (pv 0) (pv 4) (fun _ _ => rfl)) pa_nil))))
 (pss_one (ps_set (i := 2) sc.nd rfl (.inl rfl) (pe_op op_xor (pv 2) (pe_ix (r := rIxL K) ix_list (pv 0) (pv 4) (fun _ _ => rfl))))))))
 (pss_cons (ps_if (pt_cmpR op_eq (pe_callB (r := rLenS K) call_len_seq (by rfl) T.m_len PySem.boot_len (pa_cons (pv 3) pa_nil)) pe_int (nomark _))
 (pss_one (ps_ret (pe_ifExp (pt_cmpR op_gt (pv 2) pe_int (nomark _)) pe_str pe_str)))
 pss_nil)
 (pss_cons (ps_if (PW.pt (pw_and (pt_cmpR op_eq (pe_callB (r := rLenS K) call_len_seq (by rfl) T.m_len PySem.boot_len (pa_cons (pv 3) pa_nil)) pe_int (nomark _)) (pw_and1 (pt_cmpR (r := rIn K false) op_in_seq (pv 2) (pe_ix (r := rIxL K) ix_list (pv 3) pe_int (fun _ _ => rfl)) (by rfl)))))
 (pss_one (ps_ret pe_str))
 pss_nil)
 (pss_one (ps_ret pe_str))))))), ?_⟩
    refine q_asg ev_c fun H1 e1 => ?_
    refine q_asgL (el_lst ea_nil sz_nil) fun ra H2 nra e2 hra => ?_
    refine q_forLn (ev_var rfl) (ex_l (e1.trans e2) hs) (fun i σ' H' => ∃ (x4 : Option V) (rs : List V), σ' = [some (.ref wa), some (.ref sa), some (nv (xorS (numsM web) (st.take i))), some (.ref ra), x4] ∧ Ex H1 H' ∧ H' ra = some (.lst rs) ∧ Rnd K H web rs (rnds (numsM web) (st.take i))) (fun H3 e3 => ⟨none, [], rfl, e2.trans e3, e3 _ _ hra, .nil⟩) (fun i σ' H' _ ⟨_, _, _, e, _⟩ => ex_l (e1.trans e) hs) ?_ ?_
    · rintro i x σ' H3 hi ⟨x4, rs, rfl, e3, hrs, hR⟩
      have hil : i < st.length := by
        have := (List.getElem?_eq_some_iff.mp hi).1
        rw [List.length_map] at this
        exact this
      have hsi : st[i]? = some st[i] := List.getElem?_eq_getElem hil
      rw [List.getElem?_map, hsi] at hi
      have hx : nv st[i] = x := Option.some.inj hi
      subst hx
      have hpl := hlt _ (List.getElem_mem hil)
      generalize st[i] = p at hsi hpl
      obtain ⟨v, hv1, hv2⟩ := hy3 p hpl
      have e03 := e1.trans e3
      have hix : ∀ {Ha : Hp}, Ex H Ha → Ev (tOp (rIxL K) (tVar 0) (tVar 4)) [some (.ref wa), some (.ref sa), some (nv (xorS (numsM web) (st.take i))), some (.ref ra), some (nv p)] Ha v := fun ea => ev_ixL (ev_var rfl) (ex_l ea hy1) (ev_var rfl) hv1
      have hrl : rs.length ≤ 1000 := by
        rw [hR.1]
        refine Nat.le_trans (List.length_filter_le _ _) ?_
        rw [List.length_take]
        omega
      show tIfS _ _ _ _ [some (.ref wa), some (.ref sa), some (nv (xorS (numsM web) (st.take i))), some (.ref ra), some (nv p)] H3
      cases hc : (numsM web).getD p none with
      | none =>
        rw [wth_row hc] at hv2
        have hv2' := hv2
        obtain ⟨r, rfl, hr2⟩ := hv2
        refine s_if (b := true) (et_B (ev_isList (hix e03) (ex_l e03 hr2))) (fun _ H4 e4 => ?_) (fun z => by cases z)
        refine s_app (e4 _ _ hrs) (ev_var rfl) (hix (e03.trans e4)) (by omega) fun H5 e5 => ?_
        refine ⟨some (nv p), rs ++ [.ref r], ?_, Ex.mut ((e3.trans e4).trans e5) nra, upd_same, ?_⟩
        · rw [take_snoc hsi, xorS_snocR hc]
        · rw [take_snoc hsi, rnds_snocR hc]
          exact hR.app hv2'
      | some k =>
        rw [wth_num hc] at hv2
        have hv3 : v = nv k := hv2
        subst hv3
        refine s_if (b := false) (et_B (ev_noList (hix e03) (.int _))) (fun z => by cases z) (fun _ H4 e4 => ?_)
        refine s_asg (ev_xor (i := xorS (numsM web) (st.take i)) (j := k) (ev_var rfl) (hix (e03.trans e4))) fun H5 e5 => ?_
        refine ⟨some (nv p), rs, ?_, (e3.trans e4).trans e5, (e4.trans e5) _ _ hrs, ?_⟩
        · rw [take_snoc hsi, xorS_snocN hc]
          rfl
        · rw [take_snoc hsi, rnds_snocN hc]
          exact hR
    · rintro σ' H3 ⟨x4, rs, rfl, e3, hrs, hR⟩
      rw [List.length_map, List.take_length] at *
      have e03 := e1.trans e3
      have hlen : ∀ {Ha : Hp}, Ex H3 Ha → Ev (tCB (rLenS K) (tCons (tVar 3) tNil)) [some (.ref wa), some (.ref sa), some (nv (xorS (numsM web) st)), some (.ref ra), x4] Ha (nv rs.length) := fun ea => ev_lenL (ev_var rfl) (sq_of (ea _ _ hrs))
      obtain ⟨hR1, hR2⟩ := hR
      refine q_when (b := decide (rs.length = 0)) (et_is (et_test (ev_eqI (hlen (Ex.refl _)) ev_c)) (decide_eq_decide.mpr ⟨fun h => by omega, fun h => by omega⟩)) (fun hb H4 e4 => ?_) (fun hb H4 e4 => ?_)
      · have h0 : rs.length = 0 := of_decide_eq_true hb
        have hn : rnds (numsM web) st = [] := List.length_eq_zero_iff.mp (by rw [← hR1]; exact h0)
        refine s_ret (ev_if (v := fv (wrd web st)) (b := decide (0 < xorS (numsM web) st)) (et_is (et_test (ev_gt (ev_var rfl) ev_c)) (decide_eq_decide.mpr ⟨fun h => by omega, fun h => by omega⟩)) (fun h => ?_) (fun h => ?_)) fun H5 e5 => q _ H5 ((e03.trans e4).trans e5) rfl
        · have h1 := of_decide_eq_true h
          refine ev_is ev_c ?_
          show _ = fv (wordM web (numsM web) st)
          rw [word_nil hn, decide_eq_false (by omega)]
          rfl
        · have h1 := of_decide_eq_false h
          refine ev_is ev_c ?_
          show _ = fv (wordM web (numsM web) st)
          rw [word_nil hn, decide_eq_true (by omega)]
          rfl
      · have h0 : rs.length ≠ 0 := of_decide_eq_false hb
        have e04 := e03.trans e4
        cases hn : rnds (numsM web) st with
        | nil =>
          rw [hn] at hR1
          exact absurd hR1 h0
        | cons z zs =>
          rw [hn] at hR1 hR2
          cases zs with
          | nil =>
            have h1 : 0 < rs.length := by omega
            obtain ⟨r, hr1, hr2⟩ := hR2 0 rs[0] z (List.getElem?_eq_getElem h1) rfl
            refine q_when (b := decide (xorS (numsM web) st ∈ nums (numsM web) (roads web z))) (et_is (et_and (a := true) (et_is (et_test (ev_eqI (hlen e4) ev_c)) (decide_eq_true (by rw [hR1]; rfl))) fun _ => et_test (ev_op (x := nv (xorS (numsM web) st)) (ev_var rfl) (ev_ixL (i := 0) (v := .ref r) (ev_var rfl) (sq_of (e4 _ _ hrs)) ev_c (by rw [← hr1]; exact List.getElem?_eq_getElem h1)) (rv_isL (ex_l e04 hr2) rfl (flat_nats _)))) ?_) (fun hb2 H5 e5 => ?_) (fun hb2 H5 e5 => ?_)
            · rw [inV_nat, Bool.true_and]
              exact decide_eq_decide.mpr mem_sortN
            · refine s_ret (v := fv (wrd web st)) (ev_is ev_c ?_) fun H6 e6 => q _ H6 ((e04.trans e5).trans e6) rfl
              show _ = fv (wordM web (numsM web) st)
              rw [word_one hn, if_pos (of_decide_eq_true hb2)]
              rfl
            · refine s_ret (v := fv (wrd web st)) (ev_is ev_c ?_) fun H6 e6 => q _ H6 ((e04.trans e5).trans e6) rfl
              show _ = fv (wordM web (numsM web) st)
              rw [word_one hn, if_neg (of_decide_eq_false hb2)]
              rfl
          | cons z2 zs =>
            refine q_when (b := false) (et_is (et_and (a := false) (b := true) (et_is (et_test (ev_eqI (hlen e4) ev_c)) (decide_eq_false (by rw [hR1, List.length_cons, List.length_cons]; omega))) fun z => by cases z) rfl) (fun z => by cases z) (fun _ H5 e5 => ?_)
            refine s_ret (v := fv (wrd web st)) (ev_is ev_c ?_) fun H6 e6 => q _ H6 ((e04.trans e5).trans e6) rfl
            show _ = fv (wordM web (numsM web) st)
            rw [word_two hn]
            rfl
theorem ok_word_ofT (d : Df K mg "word_of" s_word_of ["told", "stones"]) (T : Bi mg) : Cal P w K mg base CX0 1 "word_of" (sp_wordT K) := by
  have sc := sc_word_of
  refine d.cal sc (fun vs H Q E h => ?_) (fun f cdv A outer s H vs Q E hr h => ?_)
  · obtain ⟨a, ⟨rfl, _⟩, _⟩ := h
    rfl
  · obtain ⟨⟨⟨wa, web⟩, ⟨sa, st⟩⟩, ⟨hv, hw, hs, hlt, hle⟩, q⟩ := h
    dsimp only at hv hw hs hlt hle q
    subst hv
    obtain ⟨ys, hy1, hy2, hy3⟩ := hw
    refine ⟨_, (pss_cons (ps_set (i := 2) sc.nd rfl (.inl rfl) pe_int)
 (pss_cons (ps_set (i := 3) sc.nd rfl (.inl rfl) (pe_lst pa_nil))
 (pss_cons (ps_for PassesOwn.never rfl (pi_tup (pv 1)) (pg_name (i := 4) sc.nd rfl (.inl rfl))
 (pss_one (ps_if (pt_val (pe_callB (r := rIsi K) call_isi (by rfl) T.m_isinstance (by decide +kernel) (pa_cons (pe_ix (r := rIxL K) ix_list (pv 0) (pv 4) (fun _ _ => rfl)) (pa_cons (pe_bltn (v := .ty "list") (by rfl) T.m_list (by decide +kernel) rfl) pa_nil))))
 (pss_one (ps_expr (pe_bm PySem.F.plainAttrs_list PySem.F.slot_list_append PySem.F.type_list_append mt_append (pv 3) (pa_cons (pe_ix (r := rIxL K) ix_list (pv 0) (pv 4) (fun _ _ => rfl)) pa_nil))))
 (pss_one (ps_set (i := 2) sc.nd rfl (.inl rfl) (pe_op op_xor (pv 2) (pe_ix (r := rIxL K) ix_list (pv 0) (pv 4) (fun _ _ => rfl))))))))
 (pss_cons (ps_if (pt_cmpR op_eq (pe_callB (r := rLenS K) call_len_seq (by rfl) T.m_len PySem.boot_len (pa_cons (pv 3) pa_nil)) pe_int (nomark _))
 (pss_one (ps_ret (pe_ifExp (pt_cmpR op_gt (pv 2) pe_int (nomark _)) pe_str pe_str)))
 pss_nil)
 (pss_cons (ps_if (PW.pt (pw_and (pt_cmpR op_eq (pe_callB (r := rLenS K) call_len_seq (by rfl) T.m_len PySem.boot_len (pa_cons (pv 3) pa_nil)) pe_int (nomark _)) (pw_and1 (pt_cmpR (r := rIn K false) op_in_seq (pv 2) (pe_ix (r := rIxL K) ix_list (pv 3) pe_int (fun _ _ => rfl)) (by rfl)))))
 (pss_one (ps_ret pe_str))
 pss_nil)
 (pss_one (ps_ret pe_str))))))), ?_⟩
    refine q_asg ev_c fun H1 e1 => ?_
    refine q_asgL (el_lst ea_nil sz_nil) fun ra H2 nra e2 hra => ?_
    refine q_forTn (ev_var rfl) (ex_t (e1.trans e2) hs) (fun i σ' H' => ∃ (x4 : Option V) (rs : List V), σ' = [some (.ref wa), some (.ref sa), some (nv (xorS (numsM web) (st.take i))), some (.ref ra), x4] ∧ Ex H1 H' ∧ H' ra = some (.lst rs) ∧ Rnd K H web rs (rnds (numsM web) (st.take i))) (fun H3 e3 => ⟨none, [], rfl, e2.trans e3, e3 _ _ hra, .nil⟩) (fun i σ' H' _ ⟨_, _, _, e, _⟩ => ex_t (e1.trans e) hs) ?_ ?_
    · rintro i x σ' H3 hi ⟨x4, rs, rfl, e3, hrs, hR⟩
      have hil : i < st.length := by
        have := (List.getElem?_eq_some_iff.mp hi).1
        rw [List.length_map] at this
        exact this
      have hsi : st[i]? = some st[i] := List.getElem?_eq_getElem hil
      rw [List.getElem?_map, hsi] at hi
      have hx : nv st[i] = x := Option.some.inj hi
      subst hx
      have hpl := hlt _ (List.getElem_mem hil)
      generalize st[i] = p at hsi hpl
      obtain ⟨v, hv1, hv2⟩ := hy3 p hpl
      have e03 := e1.trans e3
      have hix : ∀ {Ha : Hp}, Ex H Ha → Ev (tOp (rIxL K) (tVar 0) (tVar 4)) [some (.ref wa), some (.ref sa), some (nv (xorS (numsM web) (st.take i))), some (.ref ra), some (nv p)] Ha v := fun ea => ev_ixL (ev_var rfl) (ex_l ea hy1) (ev_var rfl) hv1
      have hrl : rs.length ≤ 1000 := by
        rw [hR.1]
        refine Nat.le_trans (List.length_filter_le _ _) ?_
        rw [List.length_take]
        omega
      show tIfS _ _ _ _ [some (.ref wa), some (.ref sa), some (nv (xorS (numsM web) (st.take i))), some (.ref ra), some (nv p)] H3
      cases hc : (numsM web).getD p none with
      | none =>
        rw [wth_row hc] at hv2
        have hv2' := hv2
        obtain ⟨r, rfl, hr2⟩ := hv2
        refine s_if (b := true) (et_B (ev_isList (hix e03) (ex_l e03 hr2))) (fun _ H4 e4 => ?_) (fun z => by cases z)
        refine s_app (e4 _ _ hrs) (ev_var rfl) (hix (e03.trans e4)) (by omega) fun H5 e5 => ?_
        refine ⟨some (nv p), rs ++ [.ref r], ?_, Ex.mut ((e3.trans e4).trans e5) nra, upd_same, ?_⟩
        · rw [take_snoc hsi, xorS_snocR hc]
        · rw [take_snoc hsi, rnds_snocR hc]
          exact hR.app hv2'
      | some k =>
        rw [wth_num hc] at hv2
        have hv3 : v = nv k := hv2
        subst hv3
        refine s_if (b := false) (et_B (ev_noList (hix e03) (.int _))) (fun z => by cases z) (fun _ H4 e4 => ?_)
        refine s_asg (ev_xor (i := xorS (numsM web) (st.take i)) (j := k) (ev_var rfl) (hix (e03.trans e4))) fun H5 e5 => ?_
        refine ⟨some (nv p), rs, ?_, (e3.trans e4).trans e5, (e4.trans e5) _ _ hrs, ?_⟩
        · rw [take_snoc hsi, xorS_snocN hc]
          rfl
        · rw [take_snoc hsi, rnds_snocN hc]
          exact hR
    · rintro σ' H3 ⟨x4, rs, rfl, e3, hrs, hR⟩
      rw [List.length_map, List.take_length] at *
      have e03 := e1.trans e3
      have hlen : ∀ {Ha : Hp}, Ex H3 Ha → Ev (tCB (rLenS K) (tCons (tVar 3) tNil)) [some (.ref wa), some (.ref sa), some (nv (xorS (numsM web) st)), some (.ref ra), x4] Ha (nv rs.length) := fun ea => ev_lenL (ev_var rfl) (sq_of (ea _ _ hrs))
      obtain ⟨hR1, hR2⟩ := hR
      refine q_when (b := decide (rs.length = 0)) (et_is (et_test (ev_eqI (hlen (Ex.refl _)) ev_c)) (decide_eq_decide.mpr ⟨fun h => by omega, fun h => by omega⟩)) (fun hb H4 e4 => ?_) (fun hb H4 e4 => ?_)
      · have h0 : rs.length = 0 := of_decide_eq_true hb
        have hn : rnds (numsM web) st = [] := List.length_eq_zero_iff.mp (by rw [← hR1]; exact h0)
        refine s_ret (ev_if (v := fv (wrd web st)) (b := decide (0 < xorS (numsM web) st)) (et_is (et_test (ev_gt (ev_var rfl) ev_c)) (decide_eq_decide.mpr ⟨fun h => by omega, fun h => by omega⟩)) (fun h => ?_) (fun h => ?_)) fun H5 e5 => q _ H5 ((e03.trans e4).trans e5) rfl
        · have h1 := of_decide_eq_true h
          refine ev_is ev_c ?_
          show _ = fv (wordM web (numsM web) st)
          rw [word_nil hn, decide_eq_false (by omega)]
          rfl
        · have h1 := of_decide_eq_false h
          refine ev_is ev_c ?_
          show _ = fv (wordM web (numsM web) st)
          rw [word_nil hn, decide_eq_true (by omega)]
          rfl
      · have h0 : rs.length ≠ 0 := of_decide_eq_false hb
        have e04 := e03.trans e4
        cases hn : rnds (numsM web) st with
        | nil =>
          rw [hn] at hR1
          exact absurd hR1 h0
        | cons z zs =>
          rw [hn] at hR1 hR2
          cases zs with
          | nil =>
            have h1 : 0 < rs.length := by omega
            obtain ⟨r, hr1, hr2⟩ := hR2 0 rs[0] z (List.getElem?_eq_getElem h1) rfl
            refine q_when (b := decide (xorS (numsM web) st ∈ nums (numsM web) (roads web z))) (et_is (et_and (a := true) (et_is (et_test (ev_eqI (hlen e4) ev_c)) (decide_eq_true (by rw [hR1]; rfl))) fun _ => et_test (ev_op (x := nv (xorS (numsM web) st)) (ev_var rfl) (ev_ixL (i := 0) (v := .ref r) (ev_var rfl) (sq_of (e4 _ _ hrs)) ev_c (by rw [← hr1]; exact List.getElem?_eq_getElem h1)) (rv_isL (ex_l e04 hr2) rfl (flat_nats _)))) ?_) (fun hb2 H5 e5 => ?_) (fun hb2 H5 e5 => ?_)
            · rw [inV_nat, Bool.true_and]
              exact decide_eq_decide.mpr mem_sortN
            · refine s_ret (v := fv (wrd web st)) (ev_is ev_c ?_) fun H6 e6 => q _ H6 ((e04.trans e5).trans e6) rfl
              show _ = fv (wordM web (numsM web) st)
              rw [word_one hn, if_pos (of_decide_eq_true hb2)]
              rfl
            · refine s_ret (v := fv (wrd web st)) (ev_is ev_c ?_) fun H6 e6 => q _ H6 ((e04.trans e5).trans e6) rfl
              show _ = fv (wordM web (numsM web) st)
              rw [word_one hn, if_neg (of_decide_eq_false hb2)]
              rfl
          | cons z2 zs =>
            refine q_when (b := false) (et_is (et_and (a := false) (b := true) (et_is (et_test (ev_eqI (hlen e4) ev_c)) (decide_eq_false (by rw [hR1, List.length_cons, List.length_cons]; omega))) fun z => by cases z) rfl) (fun z => by cases z) (fun _ H5 e5 => ?_)
            refine s_ret (v := fv (wrd web st)) (ev_is ev_c ?_) fun H6 e6 => q _ H6 ((e04.trans e5).trans e6) rfl
            show _ = fv (wordM web (numsM web) st)
            rw [word_two hn]
            rfl
theorem ok_behind (d : Df K mg "behind" s_behind ["web", "stones", "stone", "place"]) (T : Bi mg) (C1 : Cal P w K mg base CX0 1 "is_within" (sp_is_within K)) : Cal P w K mg base CX0 2 "behind" (sp_behind K) := by
  have sc := sc_behind
  refine d.cal sc (fun vs H Q E h => ?_) (fun f cdv A outer s H vs Q E hr h => ?_)
  · obtain ⟨a, ⟨rfl, _⟩, _⟩ := h
    rfl
  · obtain ⟨⟨⟨a, web⟩, ⟨b, st⟩, sv, pl⟩, ⟨hv, ws, ts, tp⟩, q⟩ := h
    dsimp only at hv ws ts tp q
    subst hv
    obtain ⟨hw, ok, hs, okS⟩ := ws
    have hll := okS.le
    refine ⟨_, (pss_cons (ps_if (PW.pt (pw_or (pt_not (pt_val (pe_c C1 hr (by decide) (by rfl) (pa_cons (pv 2) (pa_cons (pe_callB (r := rLenS K) call_len_seq (by rfl) T.m_len PySem.boot_len (pa_cons (pv 1) pa_nil)) pa_nil))))) (pw_or (pt_not (pt_val (pe_c C1 hr (by decide) (by rfl) (pa_cons (pv 3) (pa_cons (pe_callB (r := rLenS K) call_len_seq (by rfl) T.m_len PySem.boot_len (pa_cons (pv 0) pa_nil)) pa_nil))))) (pw_or1 (pt_cmpR (r := rIn K true) op_notIn_seq (pv 3) (pe_ix (r := rIxL K) ix_list (pv 0) (pe_ix (r := rIxL K) ix_list (pv 1) (pv 2) (fun _ _ => rfl)) (fun _ _ => rfl)) (by rfl))))))
 (pss_one (ps_ret (pe_tup pa_nil)))
 pss_nil)
 (pss_one (ps_ret (pe_callTy (r := rTupS K) call_tuple_S (by rfl) T.m_tuple (by decide +kernel) (pa_cons (pe_op op_cat (pe_op op_cat (pe_slice (r := rSlL K) sl_list (pv 1) po_none (po_some (pv 2))) (pe_lst (pa_cons (pv 3) pa_nil))) (pe_slice (r := rSlL K) sl_list (pv 1) (po_some (pe_op op_add (pv 2) pe_int)) po_none)) pa_nil))))), ?_⟩
    have t1 : EvT (tNot (tB (tCall (sp_is_within K) [] E0 (tCons (tVar 2) (tCons (tCB (rLenS K) (tCons (tVar 1) tNil)) tNil))))) (start ["web", "stones", "stone", "place"] [.ref a, .ref b, sv, pl]) H (!(within st.length sv)) :=
      et_not (et_B (ev_callV (sv, (st.length : Int)) (ea_cons (ev_var rfl) (ea_cons (ev_lenLI (ev_var rfl) hs) ea_nil)) (fun H3 e => ⟨rfl, ts.mono e⟩) (fun _ _ _ r => r)))
    have t2 : EvT (tNot (tB (tCall (sp_is_within K) [] E0 (tCons (tVar 3) (tCons (tCB (rLenS K) (tCons (tVar 0) tNil)) tNil))))) (start ["web", "stones", "stone", "place"] [.ref a, .ref b, sv, pl]) H (!(within web.length pl)) :=
      et_not (et_B (ev_callV (pl, (web.length : Int)) (ea_cons (ev_var rfl) (ea_cons (ev_lenLL (ev_var rfl) hw) ea_nil)) (fun H3 e => ⟨rfl, tp.mono e⟩) (fun _ _ _ r => r)))
    by_cases g : within st.length sv = true ∧ within web.length pl = true
    · obtain ⟨g1, g2⟩ := g
      obtain ⟨i, hi, rfl⟩ : ∃ i : Nat, i < st.length ∧ sv = nv i := by
        cases sv with
        | int i =>
          have h : (decide (0 ≤ i) && decide (i < (st.length : Int))) = true := g1
          rw [Bool.and_eq_true, decide_eq_true_eq, decide_eq_true_eq] at h
          exact ⟨i.toNat, by omega, by show V.int i = V.int _; rw [Int.toNat_of_nonneg h.1]⟩
        | _ => cases g1
      obtain ⟨j, hj, rfl⟩ : ∃ j : Nat, j < web.length ∧ pl = nv j := by
        cases pl with
        | int i =>
          have h : (decide (0 ≤ i) && decide (i < (web.length : Int))) = true := g2
          rw [Bool.and_eq_true, decide_eq_true_eq, decide_eq_true_eq] at h
          exact ⟨i.toNat, by omega, by show V.int i = V.int _; rw [Int.toNat_of_nonneg h.1]⟩
        | _ => cases g2
      have hsi : st[i] < web.length := okS.lt _ (List.getElem_mem hi)
      have hrow : web[st[i]]? = some web[st[i]] := List.getElem?_eq_getElem hsi
      obtain ⟨xs, r, h1, h2, h3, h4⟩ := hw.at hrow
      have t3 : EvT (tTest (tOp (rIn K true) (tVar 3) (tOp (rIxL K) (tVar 0) (tOp (rIxL K) (tVar 1) (tVar 2))))) (start ["web", "stones", "stone", "place"] [.ref a, .ref b, nv i, nv j]) H (!(decide (j ∈ web[st[i]]))) := by
        rw [← inV_nat]
        exact et_test (ev_op (ev_var rfl) (ev_ixL (ev_var rfl) h1 (ev_ixL (ev_var rfl) hs (ev_var rfl) (by rw [List.getElem?_map, List.getElem?_eq_getElem hi]; rfl)) h3) (rv_niL h4 rfl (flat_nats _)))
      have em : pushM web st (nv i) (nv j) = if j ∈ web[st[i]] then some (st.set i j) else none := by
        have c1 : (0 : Int) ≤ (i : Int) := by omega
        have c2 : (i : Int) < (st.length : Int) := by omega
        have c3 : (0 : Int) ≤ (j : Int) := by omega
        have c4 : (j : Int) < (web.length : Int) := by omega
        have c5 : web.getD (st.getD i 0) [] = web[st[i]] := by
          rw [List.getD_eq_getElem?_getD (l := st), List.getElem?_eq_getElem hi, Option.getD_some, List.getD_eq_getElem?_getD, hrow]
          rfl
        show (if 0 ≤ (i : Int) ∧ (i : Int) < (st.length : Int) ∧ 0 ≤ (j : Int) ∧ (j : Int) < (web.length : Int) ∧ (j : Int).toNat ∈ web.getD (st.getD (i : Int).toNat 0) [] then some (st.set (i : Int).toNat (j : Int).toNat) else none) = _
        rw [Int.toNat_natCast, Int.toNat_natCast, c5]
        simp only [c1, c2, c3, c4, true_and]
      refine q_when (et_or t1 fun _ => et_or t2 fun _ => t3) (fun h H3 e3 => ?_) (fun h H3 e3 => ?_)
      · refine s_retU (eu_tup ea_nil sz_nil) fun p H4 np e4 hp => q _ H4 (e3.trans e4) ⟨p, rfl, fresh_back e3 np, ?_⟩
        rw [em, if_neg]
        · exact hp
        · intro hm
          rw [g1, g2, decide_eq_true hm] at h
          cases h
      · have hm : j ∈ web[st[i]] := by
          rw [g1, g2] at h
          simpa using h
        refine s_retU (eu_tupL (el_setcut (ev_var rfl) (hs.mono e3) (ev_var rfl) (ev_var rfl) (ev_add (ev_var rfl) ev_c) hi (by omega))) fun p H4 np e4 hp => q _ H4 (e3.trans e4) ⟨p, rfl, fresh_back e3 np, ?_⟩
        rw [em, if_pos hm]
        exact hp
    · have em : pushM web st sv pl = none := by
        cases sv with
        | int i =>
          cases pl with
          | int j =>
            show (if 0 ≤ i ∧ i < (st.length : Int) ∧ 0 ≤ j ∧ j < (web.length : Int) ∧ j.toNat ∈ web.getD (st.getD i.toNat 0) [] then _ else none) = none
            rw [if_neg]
            rintro ⟨h1, h2, h3, h4, _⟩
            refine g ⟨?_, ?_⟩
            · show (decide (0 ≤ i) && decide (i < (st.length : Int))) = true
              simp [h1, h2]
            · show (decide (0 ≤ j) && decide (j < (web.length : Int))) = true
              simp [h3, h4]
          | _ => rfl
        | _ => cases pl <;> rfl
      refine q_when (b := true) ?_ (fun _ H3 e3 => s_retU (eu_tup ea_nil sz_nil) fun p H4 np e4 hp => q _ H4 (e3.trans e4) ⟨p, rfl, fresh_back e3 np, by rw [em]; exact hp⟩) (fun h => by cases h)
      cases g1 : within st.length sv with
      | false => exact et_is (et_or (b := true) t1 fun h => by rw [g1] at h; cases h) (by rw [g1]; rfl)
      | true =>
        have g2 : within web.length pl = false := by
          cases g2 : within web.length pl with
          | false => rfl
          | true => exact absurd ⟨g1, g2⟩ g
        exact et_is (et_or t1 fun _ => et_or (b := true) t2 fun h => by rw [g2] at h; cases h) (by rw [g1, g2]; rfl)
end
end Sr
set_option Elab.async false
set_option linter.all false
set_option maxRecDepth 100000
set_option maxHeartbeats 4000000
namespace Sr
open PySem PySem.Spec PyProof.Rows L2 Evl
section
variable {P : Program} {w : World} {K : PySem.W.Frag} {mg : Str → Option Value} {base : Heap}
theorem ok_pushes (d : Df K mg "pushes" s_pushes ["web", "stones"]) (T : Bi mg) : Cal P w K mg base CX0 1 "pushes" (sp_pushes K) := by
  have sc := sc_pushes
  refine d.cal sc (fun vs H Q E h => ?_) (fun f cdv A outer s H vs Q E hr h => ?_)
  · obtain ⟨a, ⟨rfl, _⟩, _⟩ := h
    rfl
  · obtain ⟨⟨⟨a, web⟩, ⟨b, st⟩⟩, ⟨hv, ws⟩, q⟩ := h
    dsimp only at hv ws q
    subst hv
    obtain ⟨hw, ok, hs, okS⟩ := ws
    have hll := okS.le
    have hle := ok.le
    refine ⟨_, (pss_cons (ps_set (i := 2) sc.nd rfl (.inl rfl) (pe_lst pa_nil))
 (pss_cons (ps_for PassesOwn.never rfl (pi_enum (by rfl) T.m_enumerate (pa_cons (pv 1) pa_nil)) (pg_tup rfl (pgs_cons (pg_name (i := 3) sc.nd rfl (.inr rfl)) (pgs_cons (pg_name (i := 4) sc.nd rfl (.inl rfl)) pgs_nil)))
 (pss_one (ps_expr (pe_bm PySem.F.plainAttrs_list PySem.F.slot_list_extend PySem.F.type_list_extend mt_extend (pv 2) (pa_cons (pe_lc (own := [("other", 5)]) (wi := iList K _) rfl sc.nd (pi_list (pe_ix (r := rIxL K) ix_list (pv 0) (pv 4) (fun _ _ => rfl))) (blkOk_by (by kernel_rfl)) (fun _ _ _ _ _ => (pg_name (i := 5) sc.nd rfl (.inl rfl))) (fun _ _ _ _ _ => pts_nil) (fun _ _ _ _ _ => (pe_tup (pa_cons (pv 3) (pa_cons (pv 5) pa_nil))))) pa_nil)))))
 (pss_one (ps_ret (pv 2))))), ?_⟩
    refine q_asgL (el_lst ea_nil sz_nil) fun fa H1 nfa e1 hfa => ?_
    refine q_of (s_forE (ev_var rfl) (hs.mono e1) (fun i σ' H' => ∃ (x3 x4 : Option V) (ys : List V), σ' = [some (.ref a), some (.ref b), some (.ref fa), x3, x4, none] ∧ Ex H H' ∧ PuT web st fa i ys H') (fun H2 e2 => ⟨none, none, [], rfl, e1.trans e2, .nil (e2 _ _ hfa)⟩) (fun i σ' H' _ ⟨_, _, _, _, e, _⟩ => hs.mono e) ?_ ?_)
    · rintro i x σ' H2 H3 hi ⟨x3, x4, ys, rfl, e2, pt⟩ e23
      have hil : i < st.length := by
        have := (List.getElem?_eq_some_iff.mp hi).1
        rw [List.length_map] at this
        exact this
      have hsi : st[i]? = some st[i] := List.getElem?_eq_getElem hil
      rw [List.getElem?_map, hsi] at hi
      have hx : nv st[i] = x := Option.some.inj hi
      subst hx
      have hpl := okS.lt _ (List.getElem_mem hil)
      have hgd : st.getD i 0 = st[i] := by rw [List.getD_eq_getElem?_getD, hsi]; rfl
      generalize st[i] = p at hsi hpl hgd
      have hrow : web[p]? = some web[p] := List.getElem?_eq_getElem hpl
      generalize web[p] = row at hrow
      have hro := roads_of hrow
      have hrl := ok.good.len (List.mem_of_getElem? hrow)
      obtain ⟨zs, r, k1, k2, k3, k4⟩ := hw.at hrow
      have e03 := e2.trans e23
      have pt3 := pt.ex e23
      have hyl := pt.small hle ok.good hll (by omega)
      show tDrop _ _ [some (.ref a), some (.ref b), some (.ref fa), some (nv i), some (nv p), none] H3
      refine s_extP pt3.top (ev_var rfl) (ep_m (K := K) (NewTup fun o : Nat => [nv i, nv o]) newTup_st row nv (ev_ixL (ev_var rfl) (ex_l e03 k1) (ev_var rfl) k3) (ex_l e03 k4) (by omega) (fun _ => rfl) fun j o Ha hj ea D hD => EvU.newTup (tup := fun o : Nat => [nv i, nv o]) (eu_tup (ea_cons (ev_var rfl) (ea_cons (ev_var rfl) ea_nil)) (show 2 ≤ 100000 by decide)) hD) fun Ha v Hb ea eb ⟨p2, ys2, h1, h2, h3, h4, h5⟩ => ⟨p2, ys2, h1, h3, by omega, _, _, ys ++ ys2, rfl, ?_, ?_⟩
      · exact Ex.mut ((e03.trans ea).trans eb) nfa
      · exact (pt3.ex (ea.trans eb)).app (by rw [hgd, hro]; exact h4) fun j z y hz hy => by
          rw [hgd, hro] at hz
          obtain ⟨r', g1, g2, g3⟩ := h5 j z y hz hy
          have : r' ≠ fa := fun z => by rw [z, (pt3.ex (ea.trans eb)).top] at g3; cases g3
          exact ⟨r', g1, this, g3⟩
    · rintro σ' H2 ⟨x3, x4, ys, rfl, e2, pt⟩
      rw [List.length_map] at pt
      refine s_ret (ev_var rfl) fun H3 e3 => q _ H3 (e2.trans e3) ⟨fa, ys, rfl, nfa, (pt.ex e3).top, ?_, ?_⟩
      · rw [pt.len, putL_all]
      · intro j z y hz hy
        rw [← putL_all] at hz
        exact (pt.ex e3).item j z y hz hy
theorem ok_first_to (d : Df K mg "first_to" s_first_to ["web", "stones", "told", "word"]) (T : Bi mg) (CP : Cal P w K mg base CX0 1 "pushes" (sp_pushes K)) (CO : Cal P w K mg base CX0 1 "word_of" (sp_word K)) : Cal P w K mg base CX0 2 "first_to" (sp_first K) := by
  have sc := sc_first_to
  refine d.cal sc (fun vs H Q E h => ?_) (fun f cdv A outer s H vs Q E hr h => ?_)
  · obtain ⟨a, ⟨rfl, _⟩, _⟩ := h
    rfl
  · obtain ⟨⟨⟨a, web⟩, ⟨b, st⟩, ta, wd⟩, ⟨hv, ws, hwl⟩, q⟩ := h
    dsimp only at hv ws hwl q
    subst hv
    have hll := ws.okS.le
    have hle := ws.ok.le
    refine ⟨_, (pss_cons (ps_for PassesOwn.never rfl (pi_list (pe_c CP hr (by decide) (by rfl) (pa_cons (pv 0) (pa_cons (pv 1) pa_nil)))) (pg_tup rfl (pgs_cons (pg_name (i := 4) sc.nd rfl (.inl rfl)) (pgs_cons (pg_name (i := 5) sc.nd rfl (.inl rfl)) pgs_nil)))
 (pss_one (ps_if (pt_cmpR op_eq (pe_c CO hr (by decide) (by rfl) (pa_cons (pv 2) (pa_cons (pe_op op_cat (pe_op op_cat (pe_slice (r := rSlL K) sl_list (pv 1) po_none (po_some (pv 4))) (pe_lst (pa_cons (pv 5) pa_nil))) (pe_slice (r := rSlL K) sl_list (pv 1) (po_some (pe_op op_add (pv 4) pe_int)) po_none)) pa_nil))) (pv 3) (nomark _))
 (pss_one (ps_ret (pe_tup (pa_cons (pv 4) (pa_cons (pv 5) pa_nil)))))
 pss_nil)))
 (pss_one (ps_ret (pe_tup (pa_cons pe_int (pa_cons pe_int pa_nil)))))), ?_⟩
    refine q_of (s_forPLg (K := K) (C := fun Hx p ys => ys.length = (pushesL web st).length ∧ ∀ (j : Nat) (z : Nat × Nat) (y : V), (pushesL web st)[j]? = some z → ys[j]? = some y → NewTup (fun z : Nat × Nat => [nv z.1, nv z.2]) p z y Hx)
      ((ep_callA (P := fun _ v H2 => ∃ p ys, v = .ref p ∧ H2 p = some (.lst ys) ∧ ys.length = (pushesL web st).length ∧ ∀ (j : Nat) (z : Nat × Nat) (y : V), (pushesL web st)[j]? = some z → ys[j]? = some y → NewTup (fun z : Nat × Nat => [nv z.1, nv z.2]) p z y H2) ((a, web), (b, st)) (ea_cons (ev_var rfl) (ea_cons (ev_var rfl) ea_nil)) (fun H1 e => ⟨rfl, ws.mono e⟩) fun _ _ _ _ _ _ _ ⟨p, ys, h1, _, h3, h4⟩ => ⟨p, ys, h1, h3, h4⟩).imp fun _ _ _ _ _ ⟨p, ys, h1, h3, h4⟩ => ⟨p, ys, h4, h1, h3⟩)
      (fun p ys i σ' H' => ∃ (x4 x5 : Option V) (H1 : Hp), σ' = [some (.ref a), some (.ref b), some (.ref ta), some (fv wd), x4, x5] ∧ Ex H H' ∧ Ex H1 H' ∧ H' p = some (.lst ys) ∧ (ys.length = (pushesL web st).length ∧ ∀ (j : Nat) (z : Nat × Nat) (y : V), (pushesL web st)[j]? = some z → ys[j]? = some y → NewTup (fun z : Nat × Nat => [nv z.1, nv z.2]) p z y H1) ∧ ∀ (j : Nat) (z : Nat × Nat), j < i → (pushesL web st)[j]? = some z → wrd web (st.set z.1 z.2) ≠ wd)
      (fun p ys H1 e1 hc hp => ⟨none, none, H1, rfl, e1, Ex.refl _, hp, hc, fun j z hj => absurd hj (Nat.not_lt_zero _)⟩) (fun p ys i σ' H' _ ⟨_, _, _, _, _, _, h, _⟩ => sq_of h) ?_ ?_)
    · rintro p ys i x σ' H2 hi ⟨x4, x5, H1, rfl, e2, e12, hp, hc, hno⟩
      have hil : i < (pushesL web st).length := by
        rw [← hc.1]
        exact (List.getElem?_eq_some_iff.mp hi).1
      have hz : (pushesL web st)[i]? = some (pushesL web st)[i] := List.getElem?_eq_getElem hil
      have hzm := List.getElem_mem hil
      generalize (pushesL web st)[i] = z at hz hzm
      obtain ⟨zi, zo⟩ := z
      obtain ⟨r, rfl, _, hr3⟩ := hc.2 i _ x hz hi
      have hzl := (mem_pushes.mp hzm).1
      refine ⟨r, [nv zi, nv zo], rfl, st_of (e12 _ _ hr3), rfl, _, [nv zo], rfl, nv zo, [], rfl, rfl, ?_⟩
      show tIfS _ _ _ _ [some (.ref a), some (.ref b), some (.ref ta), some (fv wd), some (nv zi), some (nv zo)] H2
      refine s_when (b := decide (wrd web (st.set zi zo) = wd)) (et_is (et_test (ev_eqFF (x := wrd web (st.set zi zo)) (ev_wordP (K := K) (web := web) (st := st.set zi zo) (eap_cons (EvP.of (ev_var rfl)) (eap_cons (EvP.ofL (el_setcut (K := K) (ev_var rfl) (ws.st.mono e2) (ev_var rfl) (ev_var rfl) (ev_add (ev_var rfl) ev_c) hzl (by omega))) eap_nil)) (fun Ha vs Hb ea eb ⟨v1, r1, Hm1, h1, _, em1, hv1, v2, r2, Hm2, h2, _, em2, ⟨p2, hp2, _, hp3⟩, h3⟩ => by
          subst hp2 hv1 h3 h2 h1
          exact ⟨ta, p2, rfl, hwl.mono ((e2.trans ea).trans eb), sq_of (em2 _ _ hp3)⟩) (set_lt ws.ok.good.inR ws.okS.lt hzm) (by rw [List.length_set]; omega)) (ev_var rfl))) rfl) (fun hb H3 e3 => ?_) (fun hb H3 e3 => ?_)
      · have hw := of_decide_eq_true hb
        have hf : firstTo web (numsM web) st wd = (zi, zo) := firstTo_at hz hw hno
        exact s_retU (eu_tup (ea_cons (ev_var rfl) (ea_cons (ev_var rfl) ea_nil)) (show 2 ≤ 100000 by decide)) fun p2 H4 np2 e4 hp2 => q _ H4 ((e2.trans e3).trans e4) ⟨p2, rfl, fresh_back (e2.trans e3) np2, by rw [hf]; exact hp2⟩
      · have hw := of_decide_eq_false hb
        refine ⟨_, _, H1, rfl, e2.trans e3, e12.trans e3, e3 _ _ hp, hc, fun j z hj hjz => ?_⟩
        by_cases hji : j < i
        · exact hno j z hji hjz
        · have : j = i := by omega
          subst this
          rw [hz] at hjz
          cases hjz
          exact hw
    · rintro p ys σ' H2 ⟨x4, x5, H1, rfl, e2, e12, hp, hc, hno⟩
      have hf : firstTo web (numsM web) st wd = (0, 0) := firstTo_no fun j z hjz => hno j z (by rw [hc.1]; exact (List.getElem?_eq_some_iff.mp hjz).1) hjz
      exact s_retU (σ := [some (.ref a), some (.ref b), some (.ref ta), some (fv wd), x4, x5]) (eu_tup (ea_cons ev_c (ea_cons ev_c ea_nil)) (show 2 ≤ 100000 by decide)) fun p2 H4 np2 e4 hp2 => q _ H4 (e2.trans e4) ⟨p2, rfl, fresh_back e2 np2, by rw [hf]; exact hp2⟩
end
end Sr
set_option Elab.async false
set_option linter.all false
set_option maxRecDepth 100000
set_option maxHeartbeats 4000000
namespace Sr
open PySem PySem.Spec PyProof.Rows L2 Evl
section
variable {P : Program} {w : World} {K : PySem.W.Frag} {mg : Str → Option Value} {base : Heap}
theorem ok_Won_init {L W E : Addr} (d : DfM K W "__init__" "Won.__init__" s_Won___init__ ["self", "stone", "place"]) (kl : Kl K mg L W E) (hmk : PySem.W.makesIn K W = true) (hkp : PySem.W.keepIn K (.ref W) = true) : Mak P w K mg base CX0 1 "Won" W (sp_init W) := by
  have sc := sc_Won___init__
  refine d.mak hmk hkp kl.gW sc (fun vs H Q E h => ?_) (fun f cdv A outer s H vs Q X hr h => ?_)
  · obtain ⟨x, dx, s, p, rfl, _⟩ := h
    rfl
  · obtain ⟨x, dx, sv, pv1, rfl, hx, q⟩ := h
    refine ⟨_, (pss_cons (ps_fld (pv 0) (pv 1) rfl)
 (pss_one (ps_fld (pv 0) (pv 2) rfl))), ?_⟩
    refine q_of (s_fld (ev_var rfl) (ev_var rfl) hx kl.iW.cl kl.nWs (by decide) fun H1 e1 => ?_)
    refine s_fld (fs := putF "stone" sv []) (ev_var rfl) (ev_var rfl) upd_same kl.iW.cl kl.nWp (show 1 < 1000 by decide) fun H2 e2 => ?_
    exact q _ (ex_set e1 e2)
theorem ok_Endless_init {L W E : Addr} (d : DfM K E "__init__" "Endless.__init__" s_Endless___init__ ["self", "stone", "place"]) (kl : Kl K mg L W E) (hmk : PySem.W.makesIn K E = true) (hkp : PySem.W.keepIn K (.ref E) = true) : Mak P w K mg base CX0 1 "Endless" E (sp_init E) := by
  have sc := sc_Endless___init__
  refine d.mak hmk hkp kl.gE sc (fun vs H Q E h => ?_) (fun f cdv A outer s H vs Q X hr h => ?_)
  · obtain ⟨x, dx, s, p, rfl, _⟩ := h
    rfl
  · obtain ⟨x, dx, sv, pv1, rfl, hx, q⟩ := h
    refine ⟨_, (pss_cons (ps_fld (pv 0) (pv 1) rfl)
 (pss_one (ps_fld (pv 0) (pv 2) rfl))), ?_⟩
    refine q_of (s_fld (ev_var rfl) (ev_var rfl) hx kl.iE.cl kl.nEs (by decide) fun H1 e1 => ?_)
    refine s_fld (fs := putF "stone" sv []) (ev_var rfl) (ev_var rfl) upd_same kl.iE.cl kl.nEp (show 1 < 1000 by decide) fun H2 e2 => ?_
    exact q _ (ex_set e1 e2)
theorem ok_Lost_shows {L : Addr} (d : DfM K L "shows" "Lost.shows" s_Lost_shows ["self", "web", "stones"]) (CW : Cal P w K mg base CX0 3 "worths_of" (sp_worths K)) (CO : Cal P w K mg base CX0 1 "word_of" (sp_word K)) : Mth P w K mg base CX0 4 L "shows" (sp_showsL K) := by
  have sc := sc_Lost_shows
  refine d.mth sc (fun vs H Q E h => ?_) (fun f cdv A outer s H vs Q X hr h => ?_)
  · obtain ⟨a, ⟨rfl, _⟩, _⟩ := h
    rfl
  · obtain ⟨⟨x, ⟨wa, web⟩, ⟨sa, st⟩⟩, ⟨hv, ws⟩, q⟩ := h
    dsimp only at hv ws q
    subst hv
    have hll := ws.okS.le
    refine ⟨_, (pss_one (ps_ret (pe_cmpR op_eq (pe_c CO hr (by decide) (by rfl) (pa_cons (pe_c CW hr (by decide) (by rfl) (pa_cons (pv 1) pa_nil)) (pa_cons (pv 2) pa_nil))) pe_str (nomark _)))), ?_⟩
    refine s_ret (ev_eqFF (x := wrd web st) (w := some true) (ev_wordP (K := K) (web := web) (st := st) (eap_cons (ep_worthsOf (ea_cons (ev_var rfl) ea_nil) ws.web ws.ok) (eap_cons (EvP.of (ev_var rfl)) eap_nil)) (fun Ha vs Hb ea eb ⟨v1, r1, Hm1, h1, _, em1, ⟨p, hp, hwl⟩, v2, r2, Hm2, h2, _, em2, hv2, h3⟩ => ?_) ws.okS.lt (by omega)) ev_c) fun H1 e1 => q _ H1 e1 rfl
    subst hp hv2 h3 h2 h1
    exact ⟨p, sa, rfl, hwl.mono em1, (ws.mono (ea.trans eb)).st⟩
theorem ok_Won_shows {L W E : Addr} (d : DfM K W "shows" "Won.shows" s_Won_shows ["self", "web", "stones"]) (kl : Kl K mg L W E) (CW : Cal P w K mg base CX0 3 "worths_of" (sp_worths K)) (CT : Cal P w K mg base CX0 1 "word_of" (sp_wordT K)) (CB : Cal P w K mg base CX0 2 "behind" (sp_behind K)) : Mth P w K mg base CX0 4 W "shows" (sp_showsW K W) := by
  have sc := sc_Won_shows
  refine d.mth sc (fun vs H Q E h => ?_) (fun f cdv A outer s H vs Q X hr h => ?_)
  · obtain ⟨a, ⟨rfl, _⟩, _⟩ := h
    rfl
  · obtain ⟨⟨⟨x, sv, pl⟩, ⟨wa, web⟩, ⟨sa, st⟩⟩, ⟨hv, ws, hi, ts, tp⟩, q⟩ := h
    dsimp only at hv ws hi ts tp q
    subst hv
    have hll := ws.okS.le
    refine ⟨_, (pss_cons (ps_set (i := 3) sc.nd rfl (.inl rfl) (pe_c CB hr (by decide) (by rfl) (pa_cons (pv 1) (pa_cons (pv 2) (pa_cons (pe_fld (pv 0) rfl) (pa_cons (pe_fld (pv 0) rfl) pa_nil))))))
 (pss_one (ps_ret (pe_and (pe_cmpR (r := rNeD K) (op_neD hr.units) (pv 3) (pe_tup pa_nil) (nomark _)) (pe_one (pe_cmpR op_eq (pe_c CT hr (by decide) (by rfl) (pa_cons (pe_c CW hr (by decide) (by rfl) (pa_cons (pv 1) pa_nil)) (pa_cons (pv 3) pa_nil))) pe_str (nomark _))))))), ?_⟩
    refine q_asgP (P := fun H1 v H2 => ∃ q, v = .ref q ∧ H2 q = some (.tup (((pushM web st sv pl).getD []).map nv))) (ep_callA ((wa, web), (sa, st), sv, pl) (ea_cons (ev_var rfl) (ea_cons (ev_var rfl) (ea_cons (ev_fld (ev_var rfl) hi kl.iW.cl kl.nWs rfl) (ea_cons (ev_fld (ev_var rfl) hi kl.iW.cl kl.nWp rfl) ea_nil)))) (fun H1 e => ⟨rfl, ws.mono e, ts.mono e, tp.mono e⟩) fun _ _ _ _ _ _ _ ⟨q, h1, _, h3⟩ => ⟨q, h1, h3⟩) fun v1 H1 e1 ⟨ta, h1, hta⟩ => ?_
    subst h1
    have tne := ev_neDD (K := K) (σ := [some (.ref x), some (.ref wa), some (.ref sa), some (.ref ta)]) (H := H1) (ta := tVar 3) (tb := tTup tNil) (ed_of (ev_var rfl) (dp_TI (K := K) (st_of hta))) (ed_tup ed_nil) ((sh_dTI _).mono (by decide)) ⟨by decide +kernel, by decide +kernel⟩
    rw [eqv_dTI] at tne
    cases hc : pushM web st sv pl with
    | none =>
      rw [hc] at tne
      refine s_ret (v := .bl false) (ev_is (ev_andV (b := true) tne fun z => by cases z) rfl) fun H2 e2 => q _ H2 (e1.trans e2) ?_
      show _ = V.bl (showW web st sv pl)
      unfold showW
      rw [hc]
    | some st' =>
      obtain ⟨i, o, rfl, rfl, hio, rfl⟩ := pushM_mem hc
      have hil := (mem_pushes.mp hio).1
      have hne : st.set i o ≠ [] := fun z => by
        have := congrArg List.length z
        rw [List.length_set, List.length_nil] at this
        omega
      rw [hc] at tne hta
      refine s_ret (v := .bl (decide (wrd web (st.set i o) = some true))) (ev_is (ev_andV (b := decide (wrd web (st.set i o) = some true)) tne fun _ => ev_eqFF (x := wrd web (st.set i o)) (w := some true) (ev_wordPT (K := K) (web := web) (st := st.set i o) (eap_cons (ep_worthsOf (ea_cons (ev_var rfl) ea_nil) (ws.web.mono e1) ws.ok) (eap_cons (EvP.of (ev_var rfl)) eap_nil)) (fun Ha vs Hb ea eb ⟨v1, r1, Hm1, h1, _, em1, ⟨p, hp, hwl⟩, v2, r2, Hm2, h2, _, em2, hv2, h3⟩ => ?_) (set_lt ws.ok.good.inR ws.okS.lt hio) (by rw [List.length_set]; omega)) ev_c) ?_) fun H2 e2 => q _ H2 (e1.trans e2) ?_
      · subst hp hv2 h3 h2 h1
        exact ⟨p, ta, rfl, hwl.mono em1, st_of ((ea.trans eb) _ _ hta)⟩
      · show V.bl (!decide (st.set i o = []) && _) = _
        rw [decide_eq_false hne]
        rfl
      · show _ = V.bl (showW web st (nv i) (nv o))
        unfold showW
        rw [hc]
theorem ok_Endless_shows {L W E : Addr} (d : DfM K E "shows" "Endless.shows" s_Endless_shows ["self", "web", "stones"]) (kl : Kl K mg L W E) (CW : Cal P w K mg base CX0 3 "worths_of" (sp_worths K)) (CO : Cal P w K mg base CX0 1 "word_of" (sp_word K)) (CT : Cal P w K mg base CX0 1 "word_of" (sp_wordT K)) (CB : Cal P w K mg base CX0 2 "behind" (sp_behind K)) : Mth P w K mg base CX0 4 E "shows" (sp_showsE K E) := by
  have sc := sc_Endless_shows
  refine d.mth sc (fun vs H Q E h => ?_) (fun f cdv A outer s H vs Q X hr h => ?_)
  · obtain ⟨a, ⟨rfl, _⟩, _⟩ := h
    rfl
  · obtain ⟨⟨⟨x, sv, pl⟩, ⟨wa, web⟩, ⟨sa, st⟩⟩, ⟨hv, ws, hi, ts, tp⟩, q⟩ := h
    dsimp only at hv ws hi ts tp q
    subst hv
    have hll := ws.okS.le
    refine ⟨_, (pss_cons (ps_set (i := 3) sc.nd rfl (.inl rfl) (pe_c CB hr (by decide) (by rfl) (pa_cons (pv 1) (pa_cons (pv 2) (pa_cons (pe_fld (pv 0) rfl) (pa_cons (pe_fld (pv 0) rfl) pa_nil))))))
 (pss_cons (ps_set (i := 4) sc.nd rfl (.inl rfl) (pe_c CW hr (by decide) (by rfl) (pa_cons (pv 1) pa_nil)))
 (pss_one (ps_ret (pe_and (pe_cmpR (r := rNeD K) (op_neD hr.units) (pv 3) (pe_tup pa_nil) (nomark _)) (pe_and (pe_cmpR op_eq (pe_c CO hr (by decide) (by rfl) (pa_cons (pv 4) (pa_cons (pv 2) pa_nil))) pe_str (nomark _)) (pe_one (pe_cmpR op_eq (pe_c CT hr (by decide) (by rfl) (pa_cons (pv 4) (pa_cons (pv 3) pa_nil))) pe_str (nomark _))))))))), ?_⟩
    refine q_asgP (P := fun H1 v H2 => ∃ q, v = .ref q ∧ H2 q = some (.tup (((pushM web st sv pl).getD []).map nv))) (ep_callA ((wa, web), (sa, st), sv, pl) (ea_cons (ev_var rfl) (ea_cons (ev_var rfl) (ea_cons (ev_fld (ev_var rfl) hi kl.iE.cl kl.nEs rfl) (ea_cons (ev_fld (ev_var rfl) hi kl.iE.cl kl.nEp rfl) ea_nil)))) (fun H1 e => ⟨rfl, ws.mono e, ts.mono e, tp.mono e⟩) fun _ _ _ _ _ _ _ ⟨q, h1, _, h3⟩ => ⟨q, h1, h3⟩) fun v1 H1 e1 ⟨ta, h1, hta⟩ => ?_
    subst h1
    refine q_asgP (ep_worthsOf (ea_cons (ev_var rfl) ea_nil) (ws.web.mono e1) ws.ok) fun v2 H2 e2 ⟨wl, h2, hwl⟩ => ?_
    subst h2
    have e02 := e1.trans e2
    have tne := ev_neDD (K := K) (σ := [some (.ref x), some (.ref wa), some (.ref sa), some (.ref ta), some (.ref wl)]) (H := H2) (ta := tVar 3) (tb := tTup tNil) (ed_of (ev_var rfl) (dp_TI (K := K) (st_of (e2 _ _ hta)))) (ed_tup ed_nil) ((sh_dTI _).mono (by decide)) ⟨by decide +kernel, by decide +kernel⟩
    rw [eqv_dTI] at tne
    cases hc : pushM web st sv pl with
    | none =>
      rw [hc] at tne
      refine s_ret (v := .bl false) (ev_is (ev_andV (b := true) tne fun z => by cases z) rfl) fun H3 e3 => q _ H3 (e02.trans e3) ?_
      show _ = V.bl (showE web st sv pl)
      unfold showE
      rw [hc]
    | some st' =>
      obtain ⟨i, o, rfl, rfl, hio, rfl⟩ := pushM_mem hc
      have hil := (mem_pushes.mp hio).1
      have hne : st.set i o ≠ [] := fun z => by
        have := congrArg List.length z
        rw [List.length_set, List.length_nil] at this
        omega
      rw [hc] at tne hta
      refine s_ret (v := .bl (decide (wrd web st = none) && decide (wrd web (st.set i o) = none))) (ev_is (ev_andV (b := decide (wrd web st = none) && decide (wrd web (st.set i o) = none)) tne fun _ => ev_andV (ev_eqFF (x := wrd web st) (w := none) (ev_callV ((wl, web), (sa, st)) (ea_cons (ev_var rfl) (ea_cons (ev_var rfl) ea_nil)) (fun Hx ex => ⟨rfl, hwl.mono ex, (ws.mono (e02.trans ex)).st, ws.okS.lt, by dsimp only; omega⟩) (fun _ _ _ r => r)) ev_c) fun _ => ev_eqFF (x := wrd web (st.set i o)) (w := none) (ev_callV ((wl, web), (ta, st.set i o)) (ea_cons (ev_var rfl) (ea_cons (ev_var rfl) ea_nil)) (fun Hx ex => ⟨rfl, hwl.mono ex, st_of ((e2.trans ex) _ _ hta), set_lt ws.ok.good.inR ws.okS.lt hio, by dsimp only; rw [List.length_set]; omega⟩) (fun _ _ _ r => r)) ev_c) ?_) fun H3 e3 => q _ H3 (e02.trans e3) ?_
      · show V.bl (!decide (st.set i o = []) && _) = _
        rw [decide_eq_false hne]
        rfl
      · show _ = V.bl (showE web st (nv i) (nv o))
        unfold showE
        rw [hc]
end
end Sr
set_option Elab.async false
set_option linter.all false
set_option maxRecDepth 100000
set_option maxHeartbeats 4000000
namespace Sr
open PySem PySem.Spec PyProof.Rows L2 Evl
section
variable {P : Program} {w : World} {K : PySem.W.Frag} {mg : Str → Option Value} {base : Heap}
theorem ok_told {L W E : Addr} (d : Df K mg "told" s_told ["web", "stones"]) (kl : Kl K mg L W E) (C3 : Cal P w K mg base CX0 3 "check_web" (sp_check_web K)) (C2 : Cal P w K mg base CX0 2 "check_stones" (sp_check_stones K)) (CW : Cal P w K mg base CX0 3 "worths_of" (sp_worths K)) (CO : Cal P w K mg base CX0 1 "word_of" (sp_word K)) (CF : Cal P w K mg base CX0 2 "first_to" (sp_first K)) (MW : Mak P w K mg base CX0 1 "Won" W (sp_init W)) (ME : Mak P w K mg base CX0 1 "Endless" E (sp_init E)) :
    Cal P w K mg base CX0 4 "told" (sp_told K L W E) := by
  have sc := sc_told
  refine d.cal sc (fun vs H Q E h => ?_) (fun f cdv A outer s H vs Q X hr h => ?_)
  · obtain ⟨a, ⟨rfl, _⟩, _⟩ := h
    rfl
  · obtain ⟨⟨⟨a, web⟩, ⟨b, st⟩⟩, ⟨hv, ws⟩, q⟩ := h
    dsimp only at hv ws q
    subst hv
    have hll := ws.okS.le
    refine ⟨_, (pss_cons (ps_expr (pe_c C3 hr (by decide) (by rfl) (pa_cons (pv 0) pa_nil)))
 (pss_cons (ps_expr (pe_c C2 hr (by decide) (by rfl) (pa_cons (pv 0) (pa_cons (pv 1) pa_nil))))
 (pss_cons (ps_set (i := 2) sc.nd rfl (.inl rfl) (pe_c CW hr (by decide) (by rfl) (pa_cons (pv 0) pa_nil)))
 (pss_cons (ps_set (i := 3) sc.nd rfl (.inl rfl) (pe_c CO hr (by decide) (by rfl) (pa_cons (pv 2) (pa_cons (pv 1) pa_nil))))
 (pss_cons (ps_if (pt_cmpR op_eq (pv 3) pe_str (nomark _))
 (pss_one (ps_ret (pe_bare kl.bL (by rfl) kl.gL)))
 pss_nil)
 (pss_cons (ps_if (pt_cmpR op_eq (pv 3) pe_str (nomark _))
 (pss_cons (ps_asg (pe_c CF hr (by decide) (by rfl) (pa_cons (pv 0) (pa_cons (pv 1) (pa_cons (pv 2) (pa_cons pe_str pa_nil))))) (pg_tup rfl (pgs_cons (pg_name (i := 4) sc.nd rfl (.inl rfl)) (pgs_cons (pg_name (i := 5) sc.nd rfl (.inl rfl)) pgs_nil))))
 (pss_one (ps_ret (pe_mk MW hr (by decide) (by rfl) (pa_cons (pv 4) (pa_cons (pv 5) pa_nil))))))
 pss_nil)
 (pss_cons (ps_asg (pe_c CF hr (by decide) (by rfl) (pa_cons (pv 0) (pa_cons (pv 1) (pa_cons (pv 2) (pa_cons pe_str pa_nil))))) (pg_tup rfl (pgs_cons (pg_name (i := 4) sc.nd rfl (.inl rfl)) (pgs_cons (pg_name (i := 5) sc.nd rfl (.inl rfl)) pgs_nil))))
 (pss_one (ps_ret (pe_mk ME hr (by decide) (by rfl) (pa_cons (pv 4) (pa_cons (pv 5) pa_nil)))))))))))), ?_⟩
    refine q_drop (v := .non) (ev_callV (a, web) (ea_cons (ev_var rfl) ea_nil) (fun H1 e => ⟨rfl, ws.web.mono e, ws.ok⟩) (fun _ _ _ r => r)) fun H1 e1 => ?_
    refine q_drop (v := .non) (ev_callV ((a, web), (b, st)) (ea_cons (ev_var rfl) (ea_cons (ev_var rfl) ea_nil)) (fun H2 e => ⟨rfl, ws.web.mono (e1.trans e), ws.st.mono (e1.trans e), ws.okS⟩) (fun _ _ _ r => r)) fun H2 e2 => ?_
    have e02 := e1.trans e2
    refine q_asgP (P := fun Ha v Hb => ∃ p ys, v = .ref p ∧ WL Ha p ys (wthM web) Hb) (ep_callA (a, web) (ea_cons (ev_var rfl) ea_nil) (fun H2 e => ⟨rfl, ws.web.mono (e02.trans e), ws.ok⟩) fun _ _ _ _ _ e0 _ ⟨p, ys, h1, h2⟩ => ⟨p, ys, h1, h2.back e0⟩) fun v3 H3 e3 ⟨ta, ys, h3, wl⟩ => ?_
    subst h3
    have hwl : WLs K H3 ta web := wl.s
    have e03 := e02.trans e3
    refine q_asg (v := fv (wrd web st)) (ev_callV ((ta, web), (b, st)) (ea_cons (ev_var rfl) (ea_cons (ev_var rfl) ea_nil)) (fun H4 e => ⟨rfl, hwl.mono e, ws.st.mono (e03.trans e), ws.okS.lt, by dsimp only; omega⟩) (fun _ _ _ r => r)) fun H4 e4 => ?_
    have e04 := e03.trans e4
    have hfirst : ∀ {σ : L2.St} {Hx : Hp} {tk : TE} {wd : Option Bool}, Ex H4 Hx → σ[0]? = some (some (.ref a)) → σ[1]? = some (some (.ref b)) → σ[2]? = some (some (.ref ta)) → Ev tk σ Hx (fv wd) → EvP (tCall (sp_first K) [] E0 (tCons (tVar 0) (tCons (tVar 1) (tCons (tVar 2) (tCons tk tNil))))) σ Hx (fun _ v H2 => ∃ p, v = .ref p ∧ H2 p = some (.tup [nv (firstTo web (numsM web) st wd).1, nv (firstTo web (numsM web) st wd).2])) := fun {σ Hx tk wd} ex h0 h1 h2 hk =>
      ep_callA ((a, web), (b, st), ta, wd) (ea_cons (ev_var h0) (ea_cons (ev_var h1) (ea_cons (ev_var h2) (ea_cons hk ea_nil)))) (fun Hy ey => ⟨rfl, ws.mono ((e04.trans ex).trans ey), hwl.mono ((e4.trans ex).trans ey)⟩) fun _ _ _ _ _ _ _ ⟨p, g1, _, g3⟩ => ⟨p, g1, g3⟩
    refine q_when (b := decide (wrd web st = some true)) (et_is (et_test (ev_eqFF (w := some true) (ev_var rfl) ev_c)) rfl) (fun hb H5 e5 => ?_) (fun hb H5 e5 => ?_)
    · have hw := of_decide_eq_true hb
      refine s_retP ep_bare fun v H6 e6 ⟨x, hx, nx, hi⟩ => q _ H6 ((e04.trans e5).trans e6) ⟨x, hx, fresh_back (e04.trans e5) nx, ?_⟩
      show Ins H6 x (clsOf L W E (wrd web st)) (fldOf (wrd web st) _)
      rw [hw]
      exact hi
    · have hw1 := of_decide_eq_false hb
      refine q_when (b := decide (wrd web st = some false)) (et_is (et_test (ev_eqFF (w := some false) (ev_var rfl) ev_c)) rfl) (fun hb2 H6 e6 => ?_) (fun hb2 H6 e6 => ?_)
      · have hw := of_decide_eq_true hb2
        refine q_unpP (K := K) (hfirst (wd := some true) (e5.trans e6) rfl rfl rfl ev_c) fun v H7 e7 ⟨p, hv, hp⟩ => ⟨p, _, _, hv, hp, ?_⟩
        refine s_retP (ep_make (ea_cons (ev_var rfl) (ea_cons (ev_var rfl) ea_nil))) fun v H8 e8 ⟨x, hx, nx, hi⟩ => ?_
        have e07 := ((e04.trans e5).trans e6).trans e7
        refine q _ H8 (e07.trans e8) ⟨x, hx, fresh_back e07 nx, ?_⟩
        show Ins H8 x (clsOf L W E (wrd web st)) (fldOf (wrd web st) (firstTo web (numsM web) st (nextW (wrd web st))))
        rw [hw]
        exact hi
      · have hw2 := of_decide_eq_false hb2
        have hw : wrd web st = none := by
          cases hc : wrd web st with
          | none => rfl
          | some b =>
            cases b with
            | true => exact absurd hc hw1
            | false => exact absurd hc hw2
        refine q_unpP (K := K) (hfirst (wd := none) (e5.trans e6) rfl rfl rfl ev_c) fun v H7 e7 ⟨p, hv, hp⟩ => ⟨p, _, _, hv, hp, ?_⟩
        refine s_retP (ep_make (ea_cons (ev_var rfl) (ea_cons (ev_var rfl) ea_nil))) fun v H8 e8 ⟨x, hx, nx, hi⟩ => ?_
        have e07 := ((e04.trans e5).trans e6).trans e7
        refine q _ H8 (e07.trans e8) ⟨x, hx, fresh_back e07 nx, ?_⟩
        show Ins H8 x (clsOf L W E (wrd web st)) (fldOf (wrd web st) (firstTo web (numsM web) st (nextW (wrd web st))))
        rw [hw]
        exact hi
end
end Sr
set_option Elab.async false
set_option linter.all false
set_option maxRecDepth 100000
set_option maxHeartbeats 4000000
namespace Sr
open PySem PySem.Spec PyProof.Rows L2 Evl
section
variable {P : Program} {w : World} {K : PySem.W.Frag} {mg : Str → Option Value} {base : Heap}
theorem ok_deepS {n k : Nat} {spv : Sp} (hv : ∀ m, n = m + 1 → spv = sp_deep m) (d : Df K mg "_law_deep" s__law_deep ["_law_thing"]) (T : Bi mg) (CR : Cal P w K mg base CX0 k "_law_deep" spv) : Cal P w K mg base CX0 (k + 1) "_law_deep" (sp_deep n) := by
  have sc := sc__law_deep
  refine d.cal sc (fun vs H Q E h => ?_) (fun f cdv A outer s H vs Q E hr h => ?_)
  · obtain ⟨a, ⟨rfl, _⟩, _⟩ := h
    rfl
  · obtain ⟨⟨v, dd, A0⟩, ⟨hv', hn⟩, q⟩ := h
    dsimp only at hv' hn q
    subst hv'
    refine ⟨_, (pss_cons (ps_if (pt_val (pe_callB (r := rIsi K) call_isi (by rfl) T.m_isinstance (by decide +kernel) (pa_cons (pv 0) (pa_cons (pe_bltn (v := .ty "list") (by rfl) T.m_list (by decide +kernel) rfl) pa_nil))))
 (pss_one (ps_ret (pe_lc (own := [("_law_one", 1)]) (wi := iList K _) rfl sc.nd (pi_list (pv 0)) (blkOk_by (by kernel_rfl)) (fun _ _ _ _ _ => (pg_name (i := 1) sc.nd rfl (.inl rfl))) (fun _ _ _ _ _ => pts_nil) (fun _ _ _ _ _ => (pe_c CR hr (Nat.le_refl _) (by rfl) (pa_cons (pv 1) pa_nil))))))
 pss_nil)
 (pss_one (ps_ret (pe_ifExp (pt_val (pe_callB (r := rIsi K) call_isi (by rfl) T.m_isinstance (by decide +kernel) (pa_cons (pv 0) (pa_cons (pe_bltn (v := .ty "tuple") (by rfl) T.m_tuple (by decide +kernel) rfl) pa_nil)))) (pe_callTy (r := rTupS K) call_tuple_S (by rfl) T.m_tuple (by decide +kernel) (pa_cons (pe_lc (own := [("_law_one", 1)]) (wi := iList K _) rfl sc.nd (pi_list (pv 0)) (blkOk_by (by kernel_rfl)) (fun _ _ _ _ _ => (pg_name (i := 1) sc.nd rfl (.inl rfl))) (fun _ _ _ _ _ => pts_nil) (fun _ _ _ _ _ => (pe_c CR hr (Nat.le_refl _) (by rfl) (pa_cons (pv 1) pa_nil)))) pa_nil)) (pv 0))))), ?_⟩
    rcases hn.split with ⟨hf, rfl⟩ | ⟨m, a, its, rfl, rfl, h2, rfl, rfl, h5, h6⟩
    · obtain ⟨S, hty, h1, h2⟩ := flat_ty (K := K) hf
      refine q_when (b := false) (et_test (ev_isi (S := S) (ev_var rfl) (fun H1 _ => hty H1) h1)) (fun h => by cases h) fun _ H1 e1 => ?_
      exact s_ret (v := v) (ev_if (b := false) (et_test (ev_isi (S := S) (ev_var rfl) (fun H1 _ => hty H1) h2)) (fun h => by cases h) fun _ => ev_var rfl) fun H2 e2 => q _ H2 (e1.trans e2) ⟨[], hn.ex (e1.trans e2), List.nodup_nil, fun a ha => by cases ha⟩
    · have e0 := hv m rfl
      subst e0
      refine q_when (b := true) (et_test (ev_isi (S := "list") (ev_var rfl) (fun H1 e => tyx_sqL (sq_of (e _ _ h2))) (by decide +kernel))) (fun _ H1 e1 => ?_) fun h => by cases h
      exact s_retP (ep_copyN (n := m) (ev_var rfl) (e1 _ _ h2) h5 (fun x => rfl) fun i H2 hi e2 => ep_deep (A := i.2.2) (ev_var rfl) ((h6 i hi).ex (e1.trans e2))) fun w H2 e2 ⟨A', g1, g2, g3⟩ => q w H2 (e1.trans e2) ⟨A', g1, g2, fun a ha => fresh_back e1 (g3 a ha)⟩
theorem ok_deep (d : Df K mg "_law_deep" s__law_deep ["_law_thing"]) (T : Bi mg) : ∀ n : Nat, Cal P w K mg base CX0 (n + 2) "_law_deep" (sp_deep n)
  | 0 => ok_deepS (fun m h => by omega) d T (d.cal (k := 0) (sp := fun _ _ _ _ => False) sc__law_deep (fun _ _ _ _ h => h.elim) fun _ _ _ _ _ _ _ _ _ _ h => h.elim)
  | n + 1 => ok_deepS (fun m h => by cases h; rfl) d T (ok_deep d T n)
theorem ok_spoiltS {n k : Nat} {spv : Sp} (hv : ∀ m, n = m + 1 → spv = sp_spoilt m) (d : Df K mg "_law_spoilt" s__law_spoilt ["_law_found"]) (T : Bi mg) (CR : Cal P w K mg base CX0 k "_law_spoilt" spv) : Cal P w K mg base CX0 (k + 1) "_law_spoilt" (sp_spoilt n) := by
  have sc := sc__law_spoilt
  refine d.cal sc (fun vs H Q E h => ?_) (fun f cdv A outer s H vs Q E hr h => ?_)
  · obtain ⟨v, d, A, rfl, _⟩ := h
    rfl
  · obtain ⟨v, dd, A0, rfl, hn, hnd, q⟩ := h
    refine ⟨_, (pss_cons (ps_if (pt_val (pe_callB (r := rIsiT K) call_isiT (by rfl) T.m_isinstance (by decide +kernel) (pa_cons (pv 0) (pa_cons (pe_tup (pa_cons (pe_bltn (v := .ty "list") (by rfl) T.m_list (by decide +kernel) rfl) (pa_cons (pe_bltn (v := .ty "tuple") (by rfl) T.m_tuple (by decide +kernel) rfl) pa_nil))) pa_nil))))
 (pss_one (ps_for PassesOwn.never rfl (pi_list (pv 0)) (pg_name (i := 1) sc.nd rfl (.inl rfl))
 (pss_one (ps_expr (pe_c CR hr (Nat.le_refl _) (by rfl) (pa_cons (pv 1) pa_nil))))))
 pss_nil)
 (pss_one (ps_if (pt_val (pe_callB (r := rIsi K) call_isi (by rfl) T.m_isinstance (by decide +kernel) (pa_cons (pv 0) (pa_cons (pe_bltn (v := .ty "list") (by rfl) T.m_list (by decide +kernel) rfl) pa_nil))))
 (pss_one (ps_expr (pe_bm PySem.F.plainAttrs_list PySem.F.slot_list_append PySem.F.type_list_append mt_append (pv 0) (pa_cons (pe_tup pa_nil) pa_nil))))
 pss_nil))), ?_⟩
    rcases hn.split with ⟨hf, rfl⟩ | ⟨m, a, its, rfl, rfl, h2, rfl, rfl, h5, h6⟩
    · obtain ⟨S, hty, h1, h2⟩ := flat_ty (K := K) hf
      refine q_when (b := false) (et_test (ev_isiT (S := S) (b := false) (c := false) (ev_var rfl) (fun H1 _ => hty H1) h1 h2)) (fun h => by cases h) fun _ H1 e1 => ?_
      exact s_when (b := false) (et_test (ev_isi (S := S) (ev_var rfl) (fun H1 _ => hty H1) h1)) (fun h => by cases h) fun _ H2 e2 => q H2 (KeptBut.of (e1.trans e2))
    · have e0 := hv m rfl
      subst e0
      obtain ⟨na, nd⟩ := List.nodup_cons.mp hnd
      refine q_when (b := true) (et_test (ev_isiT (S := "list") (b := true) (c := false) (ev_var rfl) (fun H1 e => tyx_sqL (sq_of (e _ _ h2))) (by decide +kernel) (by decide +kernel))) (fun _ H1 e1 => ?_) fun h => by cases h
      refine s_forLn (ev_var rfl) (sq_of (e1 _ _ h2)) (fun i σ' H' => (∃ w, σ' = [some (.ref a), w]) ∧ KeptBut (itA its) H H' ∧ H' a = some (.lst (itV its)) ∧ ∀ (k : Nat) (t : Itm), i ≤ k → its[k]? = some t → Nst m H' t.1 t.2.1 t.2.2) (fun H2 e2 => ?_) (fun i σ' H' _ p => sq_of p.2.2.1) (fun i x σ' H' hi p => ?_) (fun σ' H' p => ?_)
      · exact ⟨⟨_, rfl⟩, KeptBut.of (e1.trans e2), (e1.trans e2) _ _ h2, fun k t _ hk => (h6 t (List.mem_of_getElem? hk)).ex (e1.trans e2)⟩
      · obtain ⟨⟨w, rfl⟩, p1, p2, p3⟩ := p
        rw [List.getElem?_map] at hi
        cases ht : its[i]? with
        | none => rw [ht] at hi; cases hi
        | some t =>
          rw [ht] at hi
          obtain rfl : t.1 = x := Option.some.inj hi
          have hm := List.mem_of_getElem? ht
          refine ev_var (i := 1) rfl H' (Ex.refl H') _ fun H3 e3 => ⟨t.1, t.2.1, t.2.2, rfl, (p3 i t (Nat.le_refl _) ht).ex e3, its_nodup nd t hm, fun H4 k4 => ?_⟩
          have sub : ∀ b ∈ t.2.2, b ∈ itA its := fun b hb => List.mem_flatMap.mpr ⟨t, hm, hb⟩
          exact ⟨⟨_, rfl⟩, (p1.trans (KeptBut.of e3)).trans (k4.wide sub), k4 a _ (fun z => na (sub a z)) (e3 _ _ p2), fun k u hk hu => ((p3 k u (by omega) hu).ex e3).kept k4 fun b hb hb2 => its_apart nd (show i < k by omega) ht hu b hb2 hb⟩
      · obtain ⟨⟨w, rfl⟩, p1, p2, p3⟩ := p
        refine s_when (b := true) (et_test (ev_isi (S := "list") (ev_var rfl) (fun H1 e => tyx_sqL (sq_of (e _ _ p2))) (by decide +kernel))) (fun _ H3 e3 => ?_) fun h => by cases h
        refine s_appU (e3 _ _ p2) (ev_var rfl) (eu_tup ea_nil (show 0 ≤ 100000 by decide)) (by rw [List.length_map]; omega) fun p H4 _ e4 _ => q _ ?_
        exact ((p1.wide fun b hb => List.mem_cons_of_mem _ hb).trans (KeptBut.of (e3.trans e4))).upd (List.mem_cons_self ..)
theorem ok_spoilt (d : Df K mg "_law_spoilt" s__law_spoilt ["_law_found"]) (T : Bi mg) : ∀ n : Nat, Cal P w K mg base CX0 (n + 2) "_law_spoilt" (sp_spoilt n)
  | 0 => ok_spoiltS (fun m h => by omega) d T (d.cal (k := 0) (sp := fun _ _ _ _ => False) sc__law_spoilt (fun _ _ _ _ h => h.elim) fun _ _ _ _ _ _ _ _ _ _ h => h.elim)
  | n + 1 => ok_spoiltS (fun m h => by cases h; rfl) d T (ok_spoilt d T n)
theorem ok_two (d : Df K mg "_law_two" s__law_two ["_law_found"]) : Cal P w K mg base CX0 1 "_law_two" sp_two := by
  have sc := sc__law_two
  refine d.cal sc (fun vs H Q E h => ?_) (fun f cdv A outer s H vs Q E hr h => ?_)
  · obtain ⟨a, rfl, _⟩ := h
    rfl
  · obtain ⟨v, rfl, q⟩ := h
    refine ⟨_, (pss_one (ps_ret (pe_tup (pa_cons (pv 0) (pa_cons (pv 0) pa_nil))))), ?_⟩
    exact eu_tup (ea_cons (ev_var rfl) (ea_cons (ev_var rfl) ea_nil)) (show 2 ≤ 100000 by decide) H (Ex.refl H) _ fun p H2 np e2 hp => q _ H2 e2 ⟨p, rfl, np, hp⟩
end
end Sr
set_option Elab.async false
set_option linter.all false
set_option maxRecDepth 100000
set_option maxHeartbeats 4000000
namespace Sr
open PySem PySem.Spec PyProof.Rows L2 Evl
section
variable {P : Program} {w : World} {K : PySem.W.Frag} {mg : Str → Option Value} {base : Heap}
theorem ok_put (d : Df K mg "_law_put" s__law_put ["_law_handed", "_law_some"]) (T : Bi mg) (CD : Cal P w K mg base CX0 4 "_law_deep" (sp_deep 2)) : Cal P w K mg base CX0 5 "_law_put" sp_put := by
  have sc := sc__law_put
  refine d.cal sc (fun vs H Q E h => ?_) (fun f cdv A outer s H vs Q E hr h => ?_)
  · obtain ⟨h, s, dh, ds, Ah, As, rfl, _⟩ := h
    rfl
  · obtain ⟨hh, ss, dh, ds, Ah, As, rfl, hn, hnd, hn2, hap, hlen, hl1, hl2, q⟩ := h
    obtain ⟨a, its, rfl, h1, rfl, rfl, h4, h5⟩ := nst_list hn
    obtain ⟨b, jts, rfl, g1, rfl, rfl, g4, g5⟩ := nst_list hn2
    rw [List.length_map, List.length_map] at hlen
    obtain ⟨na, nd⟩ := List.nodup_cons.mp hnd
    have nba : b ∉ a :: itA its := fun z => hap b z (List.mem_cons_self ..)
    refine ⟨_, (pss_one (ps_for PassesOwn.never rfl (pi_zip (by rfl) T.m_zip (pa_cons (pv 0) (pa_cons (pv 1) pa_nil))) (pg_tup rfl (pgs_cons (pg_name (i := 2) sc.nd rfl (.inl rfl)) (pgs_cons (pg_name (i := 3) sc.nd rfl (.inl rfl)) pgs_nil)))
 (pss_cons (ps_while PassesOwn.never (pt_cmpR (r := rNeD K) (op_neD hr.units) (pv 2) (pe_lst pa_nil) (nomark _))
 (pss_one (ps_expr (pe_bm0 PySem.F.plainAttrs_list PySem.F.slot_list_pop PySem.F.type_list_pop mt_pop (pv 2)))))
 (pss_one (ps_expr (pe_bm PySem.F.plainAttrs_list PySem.F.slot_list_extend PySem.F.type_list_extend mt_extend (pv 2) (pa_cons (pe_c CD hr (by decide) (by rfl) (pa_cons (pv 3) pa_nil)) pa_nil))))))), ?_⟩
    refine s_forW (ei_zipA (K := K) (ev_var rfl) (ev_var rfl) (sq_of h1) (sq_of g1)) (walk_zip (show its.length = min (itV its).length (itV jts).length by rw [List.length_map, List.length_map]; omega)) (PutI H a b its jts) (fun H1 e _ => ?_) (fun i σ' H' _ p => ⟨sq_of p.top, sq_of (p.kept b _ nba g1)⟩) (fun i x σ' H1 H' hi p y => ?_) (fun σ' H' p => ?_)
    · exact ⟨⟨_, _, rfl⟩, KeptBut.of e, e _ _ h1, [], rfl, rfl, rfl, (fun t ht => by cases ht), (fun t ht => (h5 t ht).ex e), nd, (fun z => by cases z), fun c hc => by cases hc⟩
    · obtain ⟨T1, x1, x2, rfl, nT, rfl, f1, f2⟩ := y
      have ht : its[i]? = some its[i] := List.getElem?_eq_getElem hi
      have hi2 : i < jts.length := by omega
      have hu : jts[i]? = some jts[i] := List.getElem?_eq_getElem hi2
      have f1' : (itV its)[i]? = some x1 := f1
      have f2' : (itV jts)[i]? = some x2 := f2
      rw [List.getElem?_map, ht] at f1'
      rw [List.getElem?_map, hu] at f2'
      obtain rfl : its[i].1 = x1 := Option.some.inj f1'
      obtain rfl : jts[i].1 = x2 := Option.some.inj f2'
      obtain ⟨w1, w2, rfl⟩ := p.st
      refine g_pair (K := K) upd_same ?_
      obtain ⟨r, rs, hr1, hr2, hes, hr4, hr5, hr6⟩ := p.row hi hl1
      have hu2 : Nst 2 H1 jts[i].1 jts[i].2.1 jts[i].2.2 := (g5 _ (List.getElem_mem hi2)).kept p.kept fun c hc hc2 => hap c hc2 (List.mem_cons_of_mem _ (List.mem_flatMap.mpr ⟨_, List.getElem_mem hi2, hc⟩))
      have hrA : r ∈ a :: itA its := List.mem_cons_of_mem _ (List.mem_flatMap.mpr ⟨_, List.getElem_mem hi, by rw [hr4]; exact List.mem_cons_self ..⟩)
      have nru : ∀ c ∈ jts[i].2.2, c ≠ r := fun c hc z => hap r hrA (List.mem_cons_of_mem _ (List.mem_flatMap.mpr ⟨_, List.getElem_mem hi2, z ▸ hc⟩))
      rw [hr1]
      refine q_while (fun m σ' H' => σ' = [some (.ref a), some (.ref b), some (.ref r), some jts[i].1] ∧ m ≤ rs.length ∧ H' r = some (.lst (itV (rs.take m))) ∧ ∀ c o, c ≠ r → H1 c = some o → H' c = some o) rs.length ⟨rfl, Nat.le_refl _, ?_, fun c o _ hc => Ex.new nT _ _ hc⟩ (fun m σ' H2 hw => ?_)
      · rw [List.take_length]
        exact Ex.new nT _ _ hr2
      · obtain ⟨rfl, hm, hw1, hw2⟩ := hw
        have hsub : ∀ k ∈ rs, Nst 1 H2 k.1 k.2.1 k.2.2 := fun k hk => (hr6 k hk).stay fun c hc xs hx => hw2 c _ (p.rowne hi hr4 k hk c hc) hx
        have hrow : Nst 2 H2 (.ref r) (.list (itD (rs.take m))) (r :: itA (rs.take m)) := .inr ⟨r, rs.take m, rfl, hw1, rfl, rfl, by rw [List.length_take]; omega, fun k hk => hsub k (List.mem_of_mem_take hk)⟩
        refine ⟨_, et_test (ev_neNil (xs := []) (ev_var rfl) (hrow.dp (K := K)) hrow.sh), fun hb H3 e3 => ?_, fun hb H3 e3 => ?_⟩
        · rw [eqv_nil] at hb
          have hm0 : 0 < m := Nat.pos_of_ne_zero fun z => by rw [z, List.take_zero] at hb; cases hb
          refine ⟨fun σ2 H4 => σ2 = [some (.ref a), some (.ref b), some (.ref r), some jts[i].1] ∧ m - 1 ≤ rs.length ∧ H4 r = some (.lst (itV (rs.take (m - 1)))) ∧ ∀ c o, c ≠ r → H1 c = some o → H4 c = some o, fun σ2 H4 h => ⟨m - 1, by omega, h⟩, ?_⟩
          refine s_pop (e3 _ _ hw1) (ev_var rfl) (by rw [List.length_map, List.length_take]; omega) fun H4 e4 => ⟨rfl, by omega, ?_, fun c o nc hc => ?_⟩
          · rw [upd_same]
            show some (HO.lst ((rs.take m).map fun i => i.1).dropLast) = some (HO.lst ((rs.take (m - 1)).map fun i => i.1))
            rw [← List.map_dropLast, List.dropLast_eq_take, List.length_take, List.take_take, Nat.min_eq_left hm, Nat.min_eq_left (by omega)]
          · rw [upd_ne nc]
            exact e4 _ _ (e3 _ _ (hw2 c o nc hc))
        · rw [eqv_nil] at hb
          have hm0 : rs.take m = [] := by
            have hb' : (itD (rs.take m)).isEmpty = true := by
              cases hx : (itD (rs.take m)).isEmpty
              · rw [hx] at hb; cases hb
              · rfl
            exact List.map_eq_nil_iff.mp (List.isEmpty_iff.mp hb')
          rw [hm0] at hw1
          refine s_extP (xs := []) (e3 _ _ hw1) (ev_var rfl) (ep_deep (n := 2) (A := jts[i].2.2) (ev_var rfl) ((hu2.stay fun c hc xs hx => hw2 c _ (nru c hc) hx).ex e3)) fun H4 v H5 e4 e5 ⟨A', k1, k2, k3⟩ => ?_
          obtain ⟨es2, hes2⟩ := hl2 jts[i].2.1 (List.mem_map.mpr ⟨_, List.getElem_mem hi2, rfl⟩)
          rw [hes2] at k1
          obtain ⟨p1, ks, rfl, m1, rfl, rfl, m4, m5⟩ := nst_list k1
          refine ⟨p1, itV ks, rfl, m1, by rw [List.length_map]; show 0 + ks.length ≤ 100000; omega, ?_⟩
          exact p.step hi hi2 hr1 hr4 hes2 (fun c o nc hc => e5 _ _ (e4 _ _ (e3 _ _ (hw2 c o nc hc)))) (fun c hc => fresh_back (e3.trans e4) (k3 c (List.mem_cons_of_mem _ hc))) (fun c hc o hz => by
              rw [hw2 c o (fun z => by rw [z, hw1] at hc; cases hc) hz] at hc
              cases hc) hw1 (List.nodup_cons.mp k2).2 m5 m4 na ⟨_, _, rfl⟩
    · exact p.done hlen h4 q
end
end Sr
set_option Elab.async false
set_option linter.all false
set_option maxRecDepth 100000
set_option maxHeartbeats 4000000
namespace Sr
open PySem PySem.Spec PyProof.Rows L2 Evl
section
variable {P : Program} {w : World} {K : PySem.W.Frag} {mg : Str → Option Value} {base : Heap}
theorem ok_told9 {L W E : Addr} (d : Df K mg "_law_told" s__law_told ["_law_web", "_law_stones"]) (T : Bi mg) (kl : Kl K mg L W E) (S : Shs P w K mg base 4 L W E) (CT : Cal P w K mg base CX0 4 "told" (sp_told K L W E)) (CD : Cal P w K mg base CX0 4 "_law_deep" (sp_deep 2)) : Cal P w K mg base CX0 5 "_law_told" (sp_ltold9 K) := by
  have sc := sc__law_told
  refine d.cal sc (fun vs H Q E h => ?_) (fun f cdv A outer s H vs Q X hr h => ?_)
  · obtain ⟨a, ⟨rfl, _⟩, _⟩ := h
    rfl
  · obtain ⟨⟨⟨wa, web⟩, ⟨sa, st⟩⟩, ⟨hv, ws, A0, hn⟩, q⟩ := h
    dsimp only at hv ws hn q
    subst hv
    refine ⟨_, (pss_cons (ps_set (i := 2) sc.nd rfl (.inl rfl) (pe_c CT hr (by decide) (by rfl) (pa_cons (pv 0) (pa_cons (pv 1) pa_nil))))
 (pss_cons (ps_set (i := 3) sc.nd rfl (.inl rfl) (pe_lst (pa_cons (pe_callB (r := rIsi K) call_isi (by rfl) T.m_isinstance (by decide +kernel) (pa_cons (pv 2) (pa_cons (pe_glob (v := .ref L) (by rfl) kl.gL rfl) pa_nil))) (pa_cons (pe_callB (r := rIsi K) call_isi (by rfl) T.m_isinstance (by decide +kernel) (pa_cons (pv 2) (pa_cons (pe_glob (v := .ref W) (by rfl) kl.gW rfl) pa_nil))) (pa_cons (pe_callB (r := rIsi K) call_isi (by rfl) T.m_isinstance (by decide +kernel) (pa_cons (pv 2) (pa_cons (pe_glob (v := .ref E) (by rfl) kl.gE rfl) pa_nil))) pa_nil)))))
 (pss_one (ps_ret (pe_tup (pa_cons (pe_op op_cat (pv 3) (pe_lst (pa_cons (pe_shs (pv 2) kl S hr (by decide) (pa_cons (pe_c CD hr (by decide) (by rfl) (pa_cons (pv 0) pa_nil)) (pa_cons (pe_callTy (r := rListS K) call_list_of (by rfl) T.m_list (by decide +kernel) (pa_cons (pv 1) pa_nil)) pa_nil))) pa_nil))) (pa_cons (pe_lst pa_nil) pa_nil))))))), ?_⟩
    refine q_asgP (ep_told (K := K) (L := L) (W := W) (E := E) (ea_cons (ev_var rfl) (ea_cons (ev_var rfl) ea_nil)) ws) fun v H1 e1 ⟨x, hv, nx, ha⟩ => ?_
    subst hv
    refine q_asgL (xs := (kindsB (wrd web st)).map V.bl) (el_lst (ea_cons (ev_isO (ev_var rfl) ha (kl.i _) ev_c (kl.kL _)) (ea_cons (ev_isO (ev_var rfl) ha (kl.i _) ev_c (kl.kW _)) (ea_cons (ev_isO (ev_var rfl) ha (kl.i _) ev_c (kl.kE _)) ea_nil))) (show 3 ≤ 100000 by decide)) fun p H2 np e2 hp => ?_
    have e02 := e1.trans e2
    have hsh := ev_shsG (K := K) (L := L) (W := W) (E := E) (σ := [some (.ref wa), some (.ref sa), some (.ref x), some (.ref p)]) (H := H2) (s := ((pushOf web st).1 : Int)) (p := ((pushOf web st).2 : Int)) (wrd web st) (EvP.of (ev_var (i := 2) rfl)) (fun Ha v Hb ea eb hv => ⟨x, hv, by
        have := ha.mono (e2.trans (ea.trans eb))
        revert this
        show Ins Hb x _ _ → Ins Hb x _ _
        rcases wrd web st with _ | _ | _ <;> exact id⟩)
      (eap_cons (ep_deep (n := 2) (te := tVar 0) (A := A0) (ev_var rfl) (hn.ex e02)) (eap_cons (EvP.ofL (el_list (K := K) (ta := tVar 1) (ev_var rfl) (ex_l e02 ws.st))) eap_nil))
      (fun Ha vs Hb ea eb ⟨v1, r1, Hm, h1, em1, em2, ⟨A1, g1, _, _⟩, v2, r2, Hm2, h2, em3, em4, ⟨p2, hp2, _, hp3⟩, h3⟩ => by
        obtain ⟨w1, hw1, hl1⟩ := nst_LL (K := K) g1
        subst hw1 hp2 h3 h2 h1
        exact ⟨w1, p2, rfl, hl1.mono em2, ws.ok, sq_of (em4 _ _ hp3), ws.okS⟩)
    have hsh' := ev_is hsh (congrArg V.bl (told_shown ws.ok ws.okS))
    have hcat := el_is (el_catB (ta := tVar 3) (ev_var rfl) hp (el_lst (ea_cons hsh' ea_nil) (show 1 ≤ 100000 by decide)) (show 3 + 1 ≤ 100000 by decide)) (show (kindsB (wrd web st)).map V.bl ++ [.bl true] = (kindsB (wrd web st) ++ [true]).map V.bl by rw [List.map_append]; rfl)
    exact s_retP (ep_tup2L hcat (el_lst ea_nil (show 0 ≤ 100000 by decide))) fun w H3 e3 ⟨t, p3, q3, g1, g2, g3, g4, g5, g6, g7⟩ => q w H3 (e02.trans e3) ⟨t, p3, q3, g1, fresh_back e02 g2, g3, fresh_back e02 g4, g5, fresh_back e02 g6, g7⟩
end
end Sr
set_option Elab.async false
set_option linter.all false
set_option maxRecDepth 100000
set_option maxHeartbeats 4000000
namespace Sr
open PySem PySem.Spec PyProof.Rows L2 Evl
section
variable {P : Program} {w : World} {K : PySem.W.Frag} {mg : Str → Option Value} {base : Heap}
theorem ok_door (d : Df K mg "_law_door_right" s__law_door_right ["_law_ask", "_law_lists", "_law_others"]) (T : Bi mg) (CD : Cal P w K mg base CX0 5 "_law_deep" (sp_deep 3)) (CS : Cal P w K mg base CX0 4 "_law_spoilt" (sp_spoilt 2)) (CP : Cal P w K mg base CX0 5 "_law_put" sp_put) : CalG P w K mg base CX0 7 "_law_door_right" (sp_door (AskF P w K mg base 6)) := by
  have sc := sc__law_door_right
  refine d.calG sc (fun vs H Q E h => ?_) (fun f cdv A outer s H vs Q E hr hgd h => ?_)
  · obtain ⟨f, C, F, ok, vl, vo, dL, dO, AL, AO, rfl, _⟩ := h
    rfl
  · obtain ⟨fl, C, F, ok, vl, vo, dL, dO, AL, AO, rfl, hL, hC, hnl, hno, hlen, hl1, hl2, ok1, ok2, ⟨m1, hm1, hs1⟩, ⟨m2, hm2, hs2⟩, q⟩ := h
    have hup := hL.up
    refine ⟨_, (pss_cons (ps_set (i := 3) sc.nd rfl (.inl rfl) (pe_c CD hr (by decide) (by rfl) (pa_cons (pv 1) pa_nil)))
 (pss_cons (ps_asg (pe_callM (i := 0) (LH := AskF P w K mg base 6) (fun f C sp h => h) hr (by decide) rfl (.inl rfl) (pa_cons (pv 3) pa_nil)) (pg_tup rfl (pgs_cons (pg_name (i := 4) sc.nd rfl (.inl rfl)) (pgs_cons (pg_name (i := 5) sc.nd rfl (.inl rfl)) pgs_nil))))
 (pss_cons (ps_par (i := 6) (j := 7) rfl sc.nd rfl rfl (by decide) rfl rfl (pa_cons (pe_callTy (r := rStrD K) (call_str_data hgd hr) (by rfl) T.m_str (by decide +kernel) (pa_cons (pv 4) pa_nil)) (pa_cons (pe_callTy (r := rStrD K) (call_str_data hgd hr) (by rfl) T.m_str (by decide +kernel) (pa_cons (pe_ix (r := rIxT K) ix_tup (pe_callM (i := 0) (LH := AskF P w K mg base 6) (fun f C sp h => h) hr (by decide) rfl (.inl rfl) (pa_cons (pe_c CD hr (by decide) (by rfl) (pa_cons (pv 2) pa_nil)) pa_nil)) pe_int (fun _ _ => rfl)) pa_nil)) pa_nil)) (by rfl))
 (pss_cons (ps_if (pt_cmpR (r := rNeD K) (op_neD hr.units) (pv 3) (pv 1) (nomark _))
 (pss_one (ps_ret pe_bl))
 pss_nil)
 (pss_cons (ps_expr (pe_c CS hr (by decide) (by rfl) (pa_cons (pv 5) pa_nil)))
 (pss_cons (ps_if (PW.pt (pw_or (pt_cmpR op_ne (pe_callTy (r := rStrD K) (call_str_data hgd hr) (by rfl) T.m_str (by decide +kernel) (pa_cons (pe_ix (r := rIxT K) ix_tup (pe_callM (i := 0) (LH := AskF P w K mg base 6) (fun f C sp h => h) hr (by decide) rfl (.inl rfl) (pa_cons (pv 3) pa_nil)) pe_int (fun _ _ => rfl)) pa_nil)) (pv 6) (nomark _)) (pw_or1 (pt_cmpR (r := rNeD K) (op_neD hr.units) (pv 3) (pv 1) (nomark _)))))
 (pss_one (ps_ret pe_bl))
 pss_nil)
 (pss_cons (ps_for PassesOwn.never rfl (pi_tup (pe_tup (pa_cons (pe_tup (pa_cons (pv 2) (pa_cons (pv 7) pa_nil))) (pa_cons (pe_tup (pa_cons (pv 1) (pa_cons (pv 6) pa_nil))) pa_nil)))) (pg_tup rfl (pgs_cons (pg_name (i := 8) sc.nd rfl (.inl rfl)) (pgs_cons (pg_name (i := 9) sc.nd rfl (.inl rfl)) pgs_nil)))
 (pss_cons (ps_expr (pe_c CP hr (by decide) (by rfl) (pa_cons (pv 3) (pa_cons (pv 8) pa_nil))))
 (pss_one (ps_if (PW.pt (pw_or (pt_cmpR op_ne (pe_callTy (r := rStrD K) (call_str_data hgd hr) (by rfl) T.m_str (by decide +kernel) (pa_cons (pe_ix (r := rIxT K) ix_tup (pe_callM (i := 0) (LH := AskF P w K mg base 6) (fun f C sp h => h) hr (by decide) rfl (.inl rfl) (pa_cons (pv 3) pa_nil)) pe_int (fun _ _ => rfl)) pa_nil)) (pv 9) (nomark _)) (pw_or1 (pt_cmpR (r := rNeD K) (op_neD hr.units) (pv 3) (pv 8) (nomark _)))))
 (pss_one (ps_ret pe_bl))
 pss_nil))))
 (pss_one (ps_ret pe_bl))))))))), ?_⟩
    refine q_asgP (ep_deep (n := 3) (ev_var rfl) hnl) fun vH H1 e1 ⟨AH, hh, hnd, hfr⟩ => ?_
    have hC1 := hup _ _ (.of e1) hC
    refine q_unpP (K := K) (ep_ask (F := F) (d := .list dL) (i := 0) (LH := AskF P w K mg base 6) rfl hL hup hC1 (EvP.of (ev_var (v := vH) rfl)) (fun Ha v Hb ea eb hv => ⟨AH, by rw [hv]; exact hh.ex (ea.trans eb)⟩) ok1) fun v H2 e2 ⟨t, fa, tl, dT, AF, AT, hv, h1, h2, h3, h4, h5, h6, h7⟩ => ?_
    refine ⟨t, .ref fa, tl, hv, h2, ?_⟩
    show tSeq _ _ _ [some (.ref fl), some vl, some vo, some vH, some (.ref fa), some tl, none, none, none, none] H2
    have e02 := e1.trans e2
    refine q_parP (P1 := fun _ v _ => v = .str (F (.list dL)).shown) (P2 := fun _ v _ => v = .str (F (.list dO)).shown) (EvP.of (ev_str (K := K) (ev_var rfl) h3.dp hs1 h3.sh hm1 (by decide))) (EvP.of (ev_askS (K := K) (F := F) (d := .list dO) (ep_ask (F := F) (i := 0) (LH := AskF P w K mg base 6) rfl hL hup (hup _ _ (.of e02) hC) (ep_deep (n := 3) (ev_var rfl) (hno.ex e02)) (fun Ha v Hb ea eb ⟨A', g1, _⟩ => ⟨A', g1⟩) ok2) hs2 hm2)) fun v1 v2 H3 H4 e3 e4 hv1 hv2 => ?_
    subst hv1 hv2
    show tSeq _ _ _ [some (.ref fl), some vl, some vo, some vH, some (.ref fa), some tl, some (.str (F (.list dL)).shown), some (.str (F (.list dO)).shown), none, none] H4
    have e24 := e3.trans e4
    have e04 := e02.trans e24
    refine q_when (b := false) (et_test (ev_neNN (K := K) (n := 3) (ev_var rfl) (ev_var rfl) (hh.ex (e2.trans e24)) (hnl.ex e04) (by decide))) (fun h => by cases h) fun _ H5 e5 => ?_
    refine q_spoilt (ev_var rfl) (h4.ex (e24.trans e5)) h5 fun H6 H7 e6 k7 => ?_
    have e06 := (e04.trans e5).trans e6
    have e16 : Ex H1 H6 := ((e2.trans e24).trans e5).trans e6
    have e07 : Ex H H7 := ex_kept e06 k7 fun b hb => fresh_back e1 (h7 b hb)
    have e17 : Ex H1 H7 := ex_kept e16 k7 h7
    refine q_when (b := false) (et_is (et_or (a := false) (b := false) (et_test (ev_neSS (ev_askS (K := K) (F := F) (d := .list dL) (ep_ask (F := F) (i := 0) (LH := AskF P w K mg base 6) rfl hL hup (hup _ _ (.of e07) hC) (EvP.of (ev_var (v := vH) rfl)) (fun Ha v Hb ea eb hv => ⟨AH, by rw [hv]; exact hh.ex (e17.trans (ea.trans eb))⟩) ok1) hs1 hm1) (ev_var rfl))) fun _ => et_test (ev_neNN (K := K) (n := 3) (ev_var rfl) (ev_var rfl) (hh.ex e17) (hnl.ex e07) (by decide))) rfl) (fun h => by cases h) fun _ H8 e8 => ?_
    have e08 := e07.trans e8
    have turn : ∀ (vw : V) (dS : List PyData) (AS : List Addr) (tx : Str) (m : Nat), Nst 3 H vw (.list dS) AS → dL.length = dS.length → (∀ d ∈ dS, ∃ es, d = .list es) → ok (.list dS) → Shw m (F (.list dS)) → m ≤ 100000 → tx = (F (.list dS)).shown → ∀ (T : Hp → Prop), (∀ Ha Hb, ExL Ha Hb → T Ha → T Hb) → ∀ σ' H', ((∃ w8 w9, σ' = [some (.ref fl), some vl, some vo, some vH, some (.ref fa), some tl, some (.str (F (.list dL)).shown), some (.str (F (.list dO)).shown), w8, w9]) ∧ DoorI H vH dL.length H') → T H' →
        tSeq (tDrop (tCall sp_put [] E0 (tCons (tVar 3) (tCons (tVar 8) tNil)))) (tIfS (tOr (tTest (tOp rNe (tCB (rStrD K) (tCons (tOp (rIxT K) (tCallM 0 (AskF P w K mg base 6) (tCons (tVar 3) tNil)) (tC (.int 0))) tNil)) (tVar 9))) (tTest (tOp (rNeD K) (tVar 3) (tVar 8)))) (tRet (tC (.bl false))) tNext)
          { nx := fun σ2 H2 => ((∃ w8 w9, σ2 = [some (.ref fl), some vl, some vo, some vH, some (.ref fa), some tl, some (.str (F (.list dL)).shown), some (.str (F (.list dO)).shown), w8, w9]) ∧ DoorI H vH dL.length H2) ∧ T H2, ct := fun σ2 H2 => ((∃ w8 w9, σ2 = [some (.ref fl), some vl, some vo, some vH, some (.ref fa), some tl, some (.str (F (.list dL)).shown), some (.str (F (.list dO)).shown), w8, w9]) ∧ DoorI H vH dL.length H2) ∧ T H2, bk := fun σ' H' => tRet (tC (.bl true)) { nx := fun _ H' => Q .non H', rt := Q } σ' H', rt := Q } ((σ'.set 8 (some vw)).set 9 (some (.str tx))) H' := fun vw dS AS tx m hS hlS hllS okS hsS hmS htx T hT σ' H' ⟨⟨w8, w9, hσ⟩, hI⟩ hTH => by
      subst hσ htx
      obtain ⟨ex0, dh, Ah, g1, g2, g3, g4, g5⟩ := hI
      show tSeq _ _ _ [some (.ref fl), some vl, some vo, some vH, some (.ref fa), some tl, some (.str (F (.list dL)).shown), some (.str (F (.list dO)).shown), some vw, some (.str (F (.list dS)).shown)] H'
      have hap : ∀ b ∈ Ah, b ∉ AS := fun b hb hz => by
        obtain ⟨xs, hx⟩ := hS.live b hz
        rw [g5 b hb] at hx
        cases hx
      refine q_put (ev_var rfl) (ev_var rfl) g1 g2 (hS.ex ex0) hap (by omega) g4 hllS fun Ha A' Hb ea p1 p2 p3 p4 => ?_
      have exb : Ex H Hb := ex_kept (ex0.trans ea) p4 g5
      have fr' : ∀ b ∈ A', H b = none := fun b hb => (p3 b hb).elim (g5 b) fun z => fresh_back (ex0.trans ea) z
      have tb : T Hb := hT _ _ ((ExL.of ea).trans (exL_kept p4 fun b hb => (g1.ex ea).live b hb)) hTH
      refine s_when (b := false) (et_is (et_or (a := false) (b := false) (et_test (ev_neSS (ev_askS (K := K) (F := F) (d := .list dS) (ep_ask (F := F) (i := 0) (LH := AskF P w K mg base 6) rfl hL hup (hup _ _ (.of exb) hC) (EvP.of (ev_var (v := vH) rfl)) (fun Hc v Hd ec ed hv => ⟨A', by rw [hv]; exact p1.ex (ec.trans ed)⟩) okS) hsS hmS) (ev_var rfl))) fun _ => et_test (ev_neNN (K := K) (n := 3) (ev_var rfl) (ev_var rfl) p1 (hS.ex exb) (by decide))) rfl) (fun h => by cases h) fun _ Hc ec => ?_
      exact ⟨⟨⟨_, _, rfl⟩, exb.trans ec, dS, A', p1.ex ec, p2, hlS.symm, hllS, fr'⟩, hT _ _ (.of ec) tb⟩
    refine q_for2 (K := K) (ep_pairs (ev_var rfl) (ev_var rfl) (ev_var rfl) (ev_var rfl)) (fun σ' H' => (∃ w8 w9, σ' = [some (.ref fl), some vl, some vo, some vH, some (.ref fa), some tl, some (.str (F (.list dL)).shown), some (.str (F (.list dO)).shown), w8, w9]) ∧ DoorI H vH dL.length H') (fun H9 e9 => ⟨⟨_, _, rfl⟩, e08.trans e9, dL, AH, hh.ex ((e17.trans e8).trans e9), hnd, rfl, hl1, hfr⟩) (turn vo dO AO _ m2 hno hlen hl2 ok2 hs2 hm2 rfl) (turn vl dL AL _ m1 hnl rfl hl1 ok1 hs1 hm1 rfl) fun σ' H' ⟨_, hI⟩ => ?_
    exact s_ret ev_c fun H9 e9 => q _ (hI.ex.trans e9)
end
end Sr
set_option Elab.async false
set_option linter.all false
set_option maxRecDepth 100000
set_option maxHeartbeats 4000000
namespace Sr
open PySem PySem.Spec PyProof.Rows L2 Evl
section
variable {P : Program} {w : World} {K : PySem.W.Frag} {mg : Str → Option Value} {base : Heap}
theorem ok_doors (d : Df K mg "_law_doors_right" s__law_doors_right ["_law_asks", "_law_lists", "_law_others"]) (T : Bi mg) (CDo : CalG P w K mg base CX0 7 "_law_door_right" (sp_door (AskF P w K mg base 6))) : CalG P w K mg base CX0 8 "_law_doors_right" (sp_doors (AskF P w K mg base 6)) := by
  have sc := sc__law_doors_right
  refine d.calG sc (fun vs H Q E h => ?_) (fun f cdv A outer s H vs Q E hr hgd h => ?_)
  · obtain ⟨la, fs, vl, vo, dL, dO, AL, AO, rfl, _⟩ := h
    rfl
  · obtain ⟨la, fs, vl, vo, dL, dO, AL, AO, rfl, h1, h2, h3, h4, h5, h6, h7, h8, q⟩ := h
    refine ⟨_, (pss_one (ps_ret (pe_callB (r := rAll K) (cr_all rfl) (by rfl) T.m_all (by decide +kernel) (pa_cons (pe_lc (own := [("_law_ask", 3)]) (wi := iList K _) rfl sc.nd (pi_list (pv 0)) (blkOk_by (by kernel_rfl)) (fun _ _ _ _ _ => (pg_name (i := 3) sc.nd rfl (.inl rfl))) (fun _ _ _ _ _ => pts_nil) (fun _ _ _ _ _ => (pe_cG CDo hr hgd (by decide) (by rfl) (pa_cons (pv 3) (pa_cons (pv 1) (pa_cons (pv 2) pa_nil)))))) pa_nil)))), ?_⟩
    refine s_ret (v := .bl true) (ev_is (ev_allM (K := K) (zs := fs) (f := fun _ => true) (el_m (K := K) fs V.ref (fun _ => .bl true) (ev_var rfl) (sq_of h1) (by omega) (fun x => rfl) fun i z H1 hz e1 => ?_)) (by simp)) fun H1 e1 => q H1 e1
    obtain ⟨C, F, ok, g1, g2, g3, g4, g5, g6, g7⟩ := h3 z (List.mem_of_getElem? hz)
    exact fun H2 e2 Q2 q2 => ea_cons (ev_var rfl) (ea_cons (ev_var rfl) (ea_cons (ev_var rfl) ea_nil)) H2 e2 _ fun H3 e3 => ⟨z, C, F, ok, vl, vo, dL, dO, AL, AO, rfl, g1, g2 _ _ (.of ((e1.trans e2).trans e3)) g3, h4.ex ((e1.trans e2).trans e3), h5.ex ((e1.trans e2).trans e3), h6, h7, h8, g4, g5, g6, g7, fun H4 e4 => q2 H4 (e3.trans e4)⟩
end
end Sr
set_option Elab.async false
set_option linter.all false
set_option maxRecDepth 100000
set_option maxHeartbeats 4000000
namespace Sr
open PySem PySem.Spec PyProof.Rows L2 Evl LamX NdefX

abbrev noE : Expr := .Name "" ⟨0, 0, 0, 0⟩
abbrev noS : Stmt := .Pass ⟨0, 0, 0, 0⟩
def forBody : Stmt → List Stmt
  | .For _ _ b _ _ => b
  | _ => []
def asgVal : Stmt → Expr
  | .Assign _ v _ => v
  | _ => noE
def lstElts : Expr → List Expr
  | .List es _ => es
  | _ => []
def binRight : Expr → Expr
  | .BinOp _ _ r _ => r
  | e => e
def lamAt (i j : Nat) (add : Bool) : Expr := (lstElts (cond add (binRight (asgVal ((forBody ((defBody s_law).getD 1 noS)).getD i noS))) (asgVal ((forBody ((defBody s_law).getD 1 noS)).getD i noS)))).getD j noE
abbrev lam0 : Expr := lamAt 1 0 false
theorem lo0 : LamOf lam0 (lamSc lam0) := ⟨_, rfl⟩
theorem ns0 : NScope ["_law_some"] ["_law_some"] [] (lamSc lam0) := nscope_by (by decide +kernel)
abbrev lam1 : Expr := lamAt 1 1 false
theorem lo1 : LamOf lam1 (lamSc lam1) := ⟨_, rfl⟩
theorem ns1 : NScope ["_law_one", "_law_place"] ["_law_one"] ["_law_place"] (lamSc lam1) := nscope_by (by decide +kernel)
abbrev lam2 : Expr := lamAt 2 0 true
theorem lo2 : LamOf lam2 (lamSc lam2) := ⟨_, rfl⟩
theorem ns2 : NScope ["_law_some"] ["_law_some"] [] (lamSc lam2) := nscope_by (by decide +kernel)
abbrev lam3 : Expr := lamAt 2 1 true
theorem lo3 : LamOf lam3 (lamSc lam3) := ⟨_, rfl⟩
theorem ns3 : NScope ["_law_one", "_law_place"] ["_law_one"] ["_law_place"] (lamSc lam3) := nscope_by (by decide +kernel)
abbrev lam4 : Expr := lamAt 5 0 false
theorem lo4 : LamOf lam4 (lamSc lam4) := ⟨_, rfl⟩
theorem ns4 : NScope ["_law_some"] ["_law_some"] [] (lamSc lam4) := nscope_by (by decide +kernel)
abbrev lam5 : Expr := lamAt 5 1 false
theorem lo5 : LamOf lam5 (lamSc lam5) := ⟨_, rfl⟩
theorem ns5 : NScope ["_law_one", "_law_here"] ["_law_one"] ["_law_here"] (lamSc lam5) := nscope_by (by decide +kernel)
abbrev lam6 : Expr := lamAt 6 0 true
theorem lo6 : LamOf lam6 (lamSc lam6) := ⟨_, rfl⟩
theorem ns6 : NScope ["_law_some"] ["_law_some"] [] (lamSc lam6) := nscope_by (by decide +kernel)
section
variable {P : Program} {w : World} {K : PySem.W.Frag} {mg : Str → Option Value} {base : Heap} {q : Str} {cl : List (Str × Addr)} {c f : Addr} {pm ctv : Value} {cs : Addr → Option Obj} {wL wO : Webs} {sL sO : List Nat} {L W E : Addr} {pl : Nat}
theorem ask0 (CT2 : Cal P w K mg base CX0 1 "_law_two" sp_two) (CE : Cal P w K mg base CX0 4 "ends" (sp_ends_of K)) (kL : Ok60 wL) (kO : Ok60 wO) (C : CapsO (NF.lam lam0 (lamSc lam0) q cl c) [] [] cs) :
    AskF P w K mg base 6 f (fun H => LamC (NF.lam lam0 (lamSc lam0) q cl c) (lamBody lam0) pm ctv f cs H ∧ True) (spAsk (F2 (.list [dW wL]) (dO (endsM wL)) (dO (endsM wO))) fun d => d = .list [dW wL] ∨ d = .list [dW wO]) := by
  refine ask_mk (F := NF.lam lam0 (lamSc lam0) q cl c) (e := lamBody lam0) (J := fun H => True) (fun _ _ _ h => h) (x := "_law_some") ns0 (fun us hl => ?_) C fun A up s H X hr => ⟨_, (pe_c CT2 hr (by decide) (by rfl) (pa_cons (pe_c CE hr (by decide) (by rfl) (pa_cons (pe_ix (r := rIxL K) ix_list (pv 0) pe_int (fun _ _ => rfl)) pa_nil)) pa_nil)), fun v A0 H0 hc hH hj => ⟨fun hn => ?_, fun hn => ?_⟩⟩
  · match us, hl with
    | [u], _ => rfl
  · exact tr_ends rfl hn kL
  · exact tr_ends rfl hn kO
theorem ask1 (CT2 : Cal P w K mg base CX0 1 "_law_two" sp_two) (CN : Cal P w K mg base CX0 4 "end" (sp_end K)) (kL : Ok60 wL) (kO : Ok60 wO) (hpL : pl < wL.length) (hpO : pl < wO.length) (C : CapsO (NF.lam lam1 (lamSc lam1) q cl c) ["_law_place"] [some (nv pl)] cs) :
    AskF P w K mg base 6 f (fun H => LamC (NF.lam lam1 (lamSc lam1) q cl c) (lamBody lam1) pm ctv f cs H ∧ True) (spAsk (F2 (.list [dW wL]) (.list [od (endOf wL pl)]) (.list [od (endOf wO pl)])) fun d => d = .list [dW wL] ∨ d = .list [dW wO]) := by
  refine ask_mk (F := NF.lam lam1 (lamSc lam1) q cl c) (e := lamBody lam1) (J := fun H => True) (fun _ _ _ h => h) (x := "_law_one") ns1 (fun us hl => ?_) C fun A up s H X hr => ⟨_, (pe_c CT2 hr (by decide) (by rfl) (pa_cons (pe_lst (pa_cons (pe_c CN hr (by decide) (by rfl) (pa_cons (pe_ix (r := rIxL K) ix_list (pv 0) pe_int (fun _ _ => rfl)) (pa_cons (pv 1) pa_nil))) pa_nil)) pa_nil)), fun v A0 H0 hc hH hj => ⟨fun hn => ?_, fun hn => ?_⟩⟩
  · match us, hl with
    | [u], _ => rfl
  · exact tr_end rfl rfl hn kL hpL
  · exact tr_end rfl rfl hn kO hpO
theorem ask2 (CT2 : Cal P w K mg base CX0 1 "_law_two" sp_two) (CW : Cal P w K mg base CX0 4 "worths" (sp_worths K)) (kL : Ok60 wL) (kO : Ok60 wO) (C : CapsO (NF.lam lam2 (lamSc lam2) q cl c) [] [] cs) :
    AskF P w K mg base 6 f (fun H => LamC (NF.lam lam2 (lamSc lam2) q cl c) (lamBody lam2) pm ctv f cs H ∧ True) (spAsk (F2 (.list [dW wL]) (dTs (wthM wL)) (dTs (wthM wO))) fun d => d = .list [dW wL] ∨ d = .list [dW wO]) := by
  refine ask_mk (F := NF.lam lam2 (lamSc lam2) q cl c) (e := lamBody lam2) (J := fun H => True) (fun _ _ _ h => h) (x := "_law_some") ns2 (fun us hl => ?_) C fun A up s H X hr => ⟨_, (pe_c CT2 hr (by decide) (by rfl) (pa_cons (pe_c CW hr (by decide) (by rfl) (pa_cons (pe_ix (r := rIxL K) ix_list (pv 0) pe_int (fun _ _ => rfl)) pa_nil)) pa_nil)), fun v A0 H0 hc hH hj => ⟨fun hn => ?_, fun hn => ?_⟩⟩
  · match us, hl with
    | [u], _ => rfl
  · exact tr_worths rfl hn kL
  · exact tr_worths rfl hn kO
theorem ask3 (CT2 : Cal P w K mg base CX0 1 "_law_two" sp_two) (CO : Cal P w K mg base CX0 4 "worth" (sp_worth K)) (kL : Ok60 wL) (kO : Ok60 wO) (hpL : pl < wL.length) (hpO : pl < wO.length) (C : CapsO (NF.lam lam3 (lamSc lam3) q cl c) ["_law_place"] [some (nv pl)] cs) :
    AskF P w K mg base 6 f (fun H => LamC (NF.lam lam3 (lamSc lam3) q cl c) (lamBody lam3) pm ctv f cs H ∧ True) (spAsk (F2 (.list [dW wL]) (.list [dT (wthOf wL (numsM wL) pl)]) (.list [dT (wthOf wO (numsM wO) pl)])) fun d => d = .list [dW wL] ∨ d = .list [dW wO]) := by
  refine ask_mk (F := NF.lam lam3 (lamSc lam3) q cl c) (e := lamBody lam3) (J := fun H => True) (fun _ _ _ h => h) (x := "_law_one") ns3 (fun us hl => ?_) C fun A up s H X hr => ⟨_, (pe_c CT2 hr (by decide) (by rfl) (pa_cons (pe_lst (pa_cons (pe_c CO hr (by decide) (by rfl) (pa_cons (pe_ix (r := rIxL K) ix_list (pv 0) pe_int (fun _ _ => rfl)) (pa_cons (pv 1) pa_nil))) pa_nil)) pa_nil)), fun v A0 H0 hc hH hj => ⟨fun hn => ?_, fun hn => ?_⟩⟩
  · match us, hl with
    | [u], _ => rfl
  · exact tr_worth rfl rfl hn kL hpL
  · exact tr_worth rfl rfl hn kO hpO
theorem ask4 (CTo : Cal P w K mg base CX0 5 "_law_told" (sp_ltold9 K)) (kL : Ok60 wL) (kO : Ok60 wO) (jL : OkSt wL sL) (jO : OkSt wO sO) (C : CapsO (NF.lam lam4 (lamSc lam4) q cl c) [] [] cs) :
    AskF P w K mg base 6 f (fun H => LamC (NF.lam lam4 (lamSc lam4) q cl c) (lamBody lam4) pm ctv f cs H ∧ True) (spAsk (F2 (.list [dW wL, dI sL]) (dB (kindsB (wrd wL sL) ++ [true])) (dB (kindsB (wrd wO sO) ++ [true]))) fun d => d = .list [dW wL, dI sL] ∨ d = .list [dW wO, dI sO]) := by
  refine ask_mk (F := NF.lam lam4 (lamSc lam4) q cl c) (e := lamBody lam4) (J := fun H => True) (fun _ _ _ h => h) (x := "_law_some") ns4 (fun us hl => ?_) C fun A up s H X hr => ⟨_, (pe_c CTo hr (by decide) (by rfl) (pa_cons (pe_ix (r := rIxL K) ix_list (pv 0) pe_int (fun _ _ => rfl)) (pa_cons (pe_ix (r := rIxL K) ix_list (pv 0) pe_int (fun _ _ => rfl)) pa_nil))), fun v A0 H0 hc hH hj => ⟨fun hn => ?_, fun hn => ?_⟩⟩
  · match us, hl with
    | [u], _ => rfl
  · exact tr_told rfl hn kL jL
  · exact tr_told rfl hn kO jO
theorem ask5 (CT2 : Cal P w K mg base CX0 1 "_law_two" sp_two) (kl : Kl K mg L W E) (S : Shs P w K mg base 4 L W E) (kL : Ok60 wL) (kO : Ok60 wO) (jL : OkSt wL sL) (jO : OkSt wO sO) {b : Option Bool} {sv po : Int} {xa : Addr} (C : CapsO (NF.lam lam5 (lamSc lam5) q cl c) ["_law_here"] [some (.ref xa)] cs) :
    AskF P w K mg base 6 f (fun H => LamC (NF.lam lam5 (lamSc lam5) q cl c) (lamBody lam5) pm ctv f cs H ∧ Ins H xa (clsOf L W E b) (fOf b sv po)) (spAsk (F2 (.list [dW wL, dI sL]) (.list [.bool (shown b wL sL (.int sv) (.int po))]) (.list [.bool (shown b wO sO (.int sv) (.int po))])) fun d => d = .list [dW wL, dI sL] ∨ d = .list [dW wO, dI sO]) := by
  refine ask_mk (F := NF.lam lam5 (lamSc lam5) q cl c) (e := lamBody lam5) (J := fun H => Ins H xa (clsOf L W E b) (fOf b sv po)) (fun _ _ e ⟨dx, h⟩ => ⟨dx, e _ _ h (fun xs z => by cases z)⟩) (x := "_law_one") ns5 (fun us hl => ?_) C fun A up s H X hr => ⟨_, (pe_c CT2 hr (by decide) (by rfl) (pa_cons (pe_lst (pa_cons (pe_shs (pv 1) kl S hr (by decide) (pa_cons (pe_ix (r := rIxL K) ix_list (pv 0) pe_int (fun _ _ => rfl)) (pa_cons (pe_ix (r := rIxL K) ix_list (pv 0) pe_int (fun _ _ => rfl)) pa_nil))) pa_nil)) pa_nil)), fun v A0 H0 hc hH hj => ⟨fun hn => ?_, fun hn => ?_⟩⟩
  · match us, hl with
    | [u], _ => rfl
  · exact tr_shows rfl hn kL jL b (EvP.of (ev_var (i := 1) rfl)) fun Ha v Hb ea eb hv => ⟨xa, hv, (ins_unp hc hH hj).mono (ea.trans eb)⟩
  · exact tr_shows rfl hn kO jO b (EvP.of (ev_var (i := 1) rfl)) fun Ha v Hb ea eb hv => ⟨xa, hv, (ins_unp hc hH hj).mono (ea.trans eb)⟩
theorem ask6 (CT2 : Cal P w K mg base CX0 1 "_law_two" sp_two) (kl : Kl K mg L W E) (S : Shs P w K mg base 4 L W E) (kL : Ok60 wL) (kO : Ok60 wO) (jL : OkSt wL sL) (jO : OkSt wO sO) (C : CapsO (NF.lam lam6 (lamSc lam6) q cl c) [] [] cs) :
    AskF P w K mg base 6 f (fun H => LamC (NF.lam lam6 (lamSc lam6) q cl c) (lamBody lam6) pm ctv f cs H ∧ True) (spAsk (F2 (.list [dW wL, dI sL]) (.list [.bool (shown (some true) wL sL (.int 0) (.int 0))]) (.list [.bool (shown (some true) wO sO (.int 0) (.int 0))])) fun d => d = .list [dW wL, dI sL] ∨ d = .list [dW wO, dI sO]) := by
  refine ask_mk (F := NF.lam lam6 (lamSc lam6) q cl c) (e := lamBody lam6) (J := fun H => True) (fun _ _ _ h => h) (x := "_law_some") ns6 (fun us hl => ?_) C fun A up s H X hr => ⟨_, (pe_c CT2 hr (by decide) (by rfl) (pa_cons (pe_lst (pa_cons (pe_shs (pe_bare kl.bL (by rfl) kl.gL) kl S hr (by decide) (pa_cons (pe_ix (r := rIxL K) ix_list (pv 0) pe_int (fun _ _ => rfl)) (pa_cons (pe_ix (r := rIxL K) ix_list (pv 0) pe_int (fun _ _ => rfl)) pa_nil))) pa_nil)) pa_nil)), fun v A0 H0 hc hH hj => ⟨fun hn => ?_, fun hn => ?_⟩⟩
  · match us, hl with
    | [u], _ => rfl
  · exact tr_shows rfl hn kL jL (some true) (ep_mL (W := W) (E := E)) fun _ _ _ _ _ h => h
  · exact tr_shows rfl hn kO jO (some true) (ep_mL (W := W) (E := E)) fun _ _ _ _ _ h => h
end
end Sr
set_option Elab.async false
set_option linter.all false
set_option maxRecDepth 100000
set_option maxHeartbeats 4000000
namespace Sr
open PySem PySem.Spec PyProof.Rows L2 Evl
section
variable {P : Program} {w : World} {K : PySem.W.Frag} {mg : Str → Option Value} {base : Heap}
open LamX NdefX
abbrev qL : Str := ("law" : Str) ++ ".<locals>." ++ "<lambda>"
theorem fb0 : ((lamSc lam0).names.all fun y => !decide (y.2 = .free) || decide ((defScope s_law).names.lookup y.1 = some .cell)) = true := by decide +kernel
theorem fb1 : ((lamSc lam1).names.all fun y => !decide (y.2 = .free) || decide ((defScope s_law).names.lookup y.1 = some .cell)) = true := by decide +kernel
theorem fb2 : ((lamSc lam2).names.all fun y => !decide (y.2 = .free) || decide ((defScope s_law).names.lookup y.1 = some .cell)) = true := by decide +kernel
theorem fb3 : ((lamSc lam3).names.all fun y => !decide (y.2 = .free) || decide ((defScope s_law).names.lookup y.1 = some .cell)) = true := by decide +kernel
theorem fb4 : ((lamSc lam4).names.all fun y => !decide (y.2 = .free) || decide ((defScope s_law).names.lookup y.1 = some .cell)) = true := by decide +kernel
theorem fb5 : ((lamSc lam5).names.all fun y => !decide (y.2 = .free) || decide ((defScope s_law).names.lookup y.1 = some .cell)) = true := by decide +kernel
theorem fb6 : ((lamSc lam6).names.all fun y => !decide (y.2 = .free) || decide ((defScope s_law).names.lookup y.1 = some .cell)) = true := by decide +kernel
theorem ok_law9 {L W E c Pt f : Addr} {oc kV doc pm ct : Value} {od an : Option Addr} {osl : Array (Option Value)} (lk : K.lookup f = some ⟨oc, od, .func (PySem.W.fnOf "law" "law" (defArgs s_law) (defBody s_law) (defScope s_law) .none kV doc pm an (.ref c) ct), osl⟩) (hcd : PySem.W.codeIn K (.ref c) "law" = true) (TB : TabB base mg c Pt) (T : Bi mg) (kl : Kl K mg L W E) (S : Shs P w K mg base 4 L W E)
    (CC : Cal P w K mg base CX0 1 "_law_cell_at" (sp_cell_at K)) (CNu : Cal P w K mg base CX0 2 "_law_number" sp_number) (CTl : Cal P w K mg base CX0 4 "told" (sp_told K L W E)) (CDr : CalG P w K mg base CX0 8 "_law_doors_right" (sp_doors (AskF P w K mg base 6)))
    (CT2 : Cal P w K mg base CX0 1 "_law_two" sp_two) (CE : Cal P w K mg base CX0 4 "ends" (sp_ends_of K)) (CN : Cal P w K mg base CX0 4 "end" (sp_end K)) (CW : Cal P w K mg base CX0 4 "worths" (sp_worths K)) (CO : Cal P w K mg base CX0 4 "worth" (sp_worth K)) (CTo : Cal P w K mg base CX0 5 "_law_told" (sp_ltold9 K)) :
    FnG P w K mg base CX0 9 f (PySem.W.fnOf "law" "law" (defArgs s_law) (defBody s_law) (defScope s_law) .none kV doc pm an (.ref c) ct) ["_law_script"] (sp_law9 K Pt) := by
  have sc := sc_law
  refine fnG_of lk hcd sc (fun vs H Q X h => ?_) (fun A up s H vs Q X hr hgd h => ?_)
  · obtain ⟨a, xs, rfl, _⟩ := h
    rfl
  · obtain ⟨sa, xs, rfl, hs, hxl, hpt, q⟩ := h
    have hm : (Pt, qL) ∈ [(Pt, qL)] := List.mem_singleton.mpr rfl
    have hu : ∀ p ∈ [(Pt, qL)], p.1 = Pt → p.2 = qL := fun p hp _ => by rw [List.mem_singleton.mp hp]
    refine ⟨_, PSs.nox (X := cxOf CX0 P w K mg base ["_law_script", "_law_web", "_law_other", "_law_by", "_law_place", "_law_asks", "_law_here"] "law" (defScope s_law) f (.ref c) A up s H X) (pss_cons (ps_par (i := 1) (j := 2) rfl sc.nd rfl rfl (by decide) rfl rfl (pa_cons (pe_lst (pa_cons (pe_lst pa_nil) (pa_cons (pe_lst (pa_cons pe_int pa_nil)) (pa_cons (pe_lst (pa_cons pe_int (pa_cons pe_int pa_nil))) (pa_cons (pe_lst (pa_cons pe_int (pa_cons pe_int pa_nil))) (pa_cons (pe_lst (pa_cons pe_int pa_nil)) pa_nil)))))) (pa_cons (pe_lst (pa_cons (pe_lst pa_nil) (pa_cons (pe_lst (pa_cons pe_int pa_nil)) (pa_cons (pe_lst (pa_cons pe_int pa_nil)) (pa_cons (pe_lst (pa_cons pe_int (pa_cons pe_int pa_nil))) (pa_cons (pe_lst (pa_cons pe_int pa_nil)) pa_nil)))))) pa_nil)) (by rfl))
 (pss_cons (ps_for PassesOwn.never rfl (pi_range1 (by rfl) T.m_range (pa_cons pe_int pa_nil)) (pg_name (i := 3) sc.nd rfl (.inl rfl))
 (pss_cons (ps_set (i := 4) sc.nd rfl (.inr rfl) (pe_c CNu hr (by decide) (by rfl) (pa_cons (pe_c CC hr (by decide) (by rfl) (pa_cons (pv 0) (pa_cons (pv 3) pa_nil))) (pa_cons (pe_op op_add (pv 3) pe_int) (pa_cons pe_int pa_nil)))))
 (pss_cons (ps_set (i := 5) sc.nd rfl (.inl rfl) (pe_lst (pa_cons (pe_lmd (T := [(Pt, qL)]) lo0 TB rfl hm hu rfl (free_by (sc := defScope s_law) fb0)) (pa_cons (pe_lmd (T := [(Pt, qL)]) lo1 TB rfl hm hu rfl (free_by (sc := defScope s_law) fb1)) pa_nil))))
 (pss_cons (ps_set (i := 5) sc.nd rfl (.inl rfl) (pe_op op_cat (pv 5) (pe_lst (pa_cons (pe_lmd (T := [(Pt, qL)]) lo2 TB rfl hm hu rfl (free_by (sc := defScope s_law) fb2)) (pa_cons (pe_lmd (T := [(Pt, qL)]) lo3 TB rfl hm hu rfl (free_by (sc := defScope s_law) fb3)) pa_nil)))))
 (pss_cons (ps_if (pt_not (pt_val (pe_cPin (fr := ["_law_place", "_law_here"]) CDr hr hgd (by decide) (by rfl) (fun _ => rfl) (fr2 rfl rfl) (pa_cons (pv 5) (pa_cons (pe_lst (pa_cons (pv 1) pa_nil)) (pa_cons (pe_lst (pa_cons (pv 2) pa_nil)) pa_nil))))))
 (pss_one (ps_ret pe_bl))
 pss_nil)
 (pss_cons (ps_set (i := 6) sc.nd rfl (.inr rfl) (pe_c CTl hr (by decide) (by rfl) (pa_cons (pv 1) (pa_cons (pe_lst (pa_cons (pv 4) (pa_cons pe_int pa_nil))) pa_nil))))
 (pss_cons (ps_set (i := 5) sc.nd rfl (.inl rfl) (pe_lst (pa_cons (pe_lmd (T := [(Pt, qL)]) lo4 TB rfl hm hu rfl (free_by (sc := defScope s_law) fb4)) (pa_cons (pe_lmd (T := [(Pt, qL)]) lo5 TB rfl hm hu rfl (free_by (sc := defScope s_law) fb5)) pa_nil))))
 (pss_cons (ps_set (i := 5) sc.nd rfl (.inl rfl) (pe_op op_cat (pv 5) (pe_lst (pa_cons (pe_lmd (T := [(Pt, qL)]) lo6 TB rfl hm hu rfl (free_by (sc := defScope s_law) fb6)) pa_nil))))
 (pss_cons (ps_if (pt_not (pt_val (pe_cPin (fr := ["_law_place", "_law_here"]) CDr hr hgd (by decide) (by rfl) (fun _ => rfl) (fr2 rfl rfl) (pa_cons (pv 5) (pa_cons (pe_lst (pa_cons (pv 1) (pa_cons (pe_lst (pa_cons (pv 4) (pa_cons pe_int pa_nil))) pa_nil))) (pa_cons (pe_lst (pa_cons (pv 2) (pa_cons (pe_lst (pa_cons (pv 4) (pa_cons pe_int pa_nil))) pa_nil))) pa_nil))))))
 (pss_one (ps_ret pe_bl))
 pss_nil)
 (pss_one (ps_if (pt_not (pt_val (pe_cPin (fr := ["_law_place", "_law_here"]) CDr hr hgd (by decide) (by rfl) (fun _ => rfl) (fr2 rfl rfl) (pa_cons (pv 5) (pa_cons (pe_lst (pa_cons (pv 1) (pa_cons (pe_lst (pa_cons (pv 4) (pa_cons pe_int pa_nil))) pa_nil))) (pa_cons (pe_lst (pa_cons (pv 1) (pa_cons (pe_lst (pa_cons pe_int (pa_cons pe_int pa_nil))) pa_nil))) pa_nil))))))
 (pss_one (ps_ret pe_bl))
 pss_nil)))))))))))
 (pss_one (ps_ret pe_bl)))), ?_⟩
    let cells := (envOfC "law" (defScope s_law) s.heap.objs.size f (.ref c)).cells
    have hT0 : Tabs [(Pt, qL)] H := fun p hp => by
      rw [List.mem_singleton.mp hp]
      exact TabS.nil hpt
    refine q_parP (ew_disp (rows := wA) (er_cons (row := []) (el_lst ea_nil (show 0 ≤ 100000 by decide)) (er_cons (row := [0]) (el_lst (ea_cons ev_c ea_nil) (show 1 ≤ 100000 by decide)) (er_cons (row := [0, 1]) (el_lst (ea_cons ev_c (ea_cons ev_c ea_nil)) (show 2 ≤ 100000 by decide)) (er_cons (row := [2, 4]) (el_lst (ea_cons ev_c (ea_cons ev_c ea_nil)) (show 2 ≤ 100000 by decide)) (er_cons (row := [3]) (el_lst (ea_cons ev_c ea_nil) (show 1 ≤ 100000 by decide)) er_nil))))) (show 5 ≤ 1000 by decide))
      (ew_disp (rows := wB) (er_cons (row := []) (el_lst ea_nil (show 0 ≤ 100000 by decide)) (er_cons (row := [0]) (el_lst (ea_cons ev_c ea_nil) (show 1 ≤ 100000 by decide)) (er_cons (row := [1]) (el_lst (ea_cons ev_c ea_nil) (show 1 ≤ 100000 by decide)) (er_cons (row := [0, 2]) (el_lst (ea_cons ev_c (ea_cons ev_c ea_nil)) (show 2 ≤ 100000 by decide)) (er_cons (row := [4]) (el_lst (ea_cons ev_c ea_nil) (show 1 ≤ 100000 by decide)) er_nil))))) (show 5 ≤ 1000 by decide)) fun v1 v2 H1 H2 e1 e2 ⟨p, as, hv1, _, mw1, _, _⟩ ⟨p2, as2, hv2, _, mw2, _, _⟩ => ?_
    subst hv1 hv2
    have rows : ∀ row ∈ wA ++ wB, row.length ≤ 100 := by decide
    have l0 : L9 K [(Pt, qL)] sa p p2 xs H2 := ⟨ex_l (e1.trans e2) hs, mw_nst (mw1.ex e2) (by decide) (fun r hr => rows r (List.mem_append.mpr (.inl hr))), mw_nst mw2 (by decide) (fun r hr => rows r (List.mem_append.mpr (.inr hr))), hT0.ext (e1.trans e2)⟩
    refine q_of (s_forR (n := 2) ev_c (by decide) (fun i σ' H' => (∃ w3 w4 w5 w6, σ' = [some (.ref sa), some (.ref p), some (.ref p2), w3, w4, w5, w6]) ∧ L9 K [(Pt, qL)] sa p p2 xs H') (fun H3 e3 => ⟨⟨_, _, _, _, rfl⟩, l0.ex e3⟩) (fun i σ' H' hi ⟨⟨w3, w4, w5, w6, hσ⟩, l⟩ => ?_) (fun σ' H' _ => ?_))
    · subst hσ
      show tSeq _ _ _ [some (.ref sa), some (.ref p), some (.ref p2), some (.int (i : Nat)), w4, w5, w6] H'
      have hci := ev_callV (σ := [some (.ref sa), some (.ref p), some (.ref p2), some (.int (i : Nat)), w4, w5, w6]) (H := H') (z := .int (xs.getD i 0)) (A := fun a vs H => vs = [.ref a.1, nv a.2.2] ∧ SqL K H a.1 (a.2.1.map V.int)) (R := fun (a : Addr × List Int × Nat) _ v _ => v = .int (a.2.1.getD a.2.2 0)) (E := E0) (sa, xs, i) (ea_cons (ev_var (i := 0) rfl) (ea_cons (ev_var (i := 3) rfl) ea_nil)) (fun H1 e => ⟨rfl, ex_l e l.sc⟩) fun _ _ _ h => h
      refine q_asgP (P := fun _ v _ => ∃ r : Nat, r < 5 ∧ v = nv r) (ep_callA (A := fun a vs _ => vs = [.int a.1, nv a.2.1, nv a.2.2] ∧ 0 < a.2.2 ∧ a.2.2 ≤ 100000 ∧ a.2.1 ≤ 100000) (R := fun (a : Int × Nat × Nat) _ v _ => ∃ r : Nat, r < a.2.2 ∧ v = nv r) (xs.getD i 0, i + 1, 5) (ea_cons hci (ea_cons (ev_add (ev_var rfl) ev_c) (ea_cons ev_c ea_nil))) (fun H2 _ => ⟨rfl, show 0 < 5 by decide, show 5 ≤ 100000 by decide, by dsimp only; omega⟩) fun _ _ _ _ _ _ _ h => h) fun v H3 e3 ⟨pl, hpl, hv⟩ => ?_
      subst hv
      show tSeq _ _ _ [some (.ref sa), some (.ref p), some (.ref p2), some (.int (i : Nat)), some (nv pl), w5, w6] H3
      have l3 := l.ex e3
      have hplA : pl < wA.length := hpl
      have hplB : pl < wB.length := hpl
      refine q_lams2 l3.t fun pa fa0 fa1 H4 n4 t4 hpa m0 m1 => ?_
      have l4 := l3.up n4 t4
      show tSeq _ _ _ [some (.ref sa), some (.ref p), some (.ref p2), some (.int (i : Nat)), some (nv pl), some (.ref pa), w6] H4
      refine q_cat2 (a := pa) rfl hpa (show 2 ≤ 90 by decide) l4.t fun pb fa2 fa3 H5 n5 t5 hpb m2 m3 => ?_
      have l5 := l4.up n5 t5
      replace m0 := m0.up n5
      replace m1 := m1.up n5
      show tSeq _ _ _ [some (.ref sa), some (.ref p), some (.ref p2), some (.int (i : Nat)), some (nv pl), some (.ref pb), w6] H5
      obtain ⟨Aw, hAw⟩ := l5.a
      obtain ⟨Bw, hBw⟩ := l5.b
      refine q_when (b := false) (et_is (et_not (et_test (ev_doors (LH := AskF P w K mg base 6) (fs := [fa0, fa1, fa2, fa3]) (dL := [dW wA]) (dO := [dW wB]) (eap_imp (eap_cons (EvP.of (ev_var (v := .ref pb) rfl)) (eap_cons (wrap1 (ev_var rfl) hAw) (eap_cons (wrap1 (ev_var rfl) hBw) eap_nil))) fun Ha vs Hb ea eb ⟨v1, r1, Hm1, g1, g2, g3, g4, v2, r2, Hm2, g5, g6, g7, ⟨A2, g8⟩, v3, r3, Hm3, g9, g10, g11, ⟨A3, g12⟩, g13⟩ => ?_) (show 4 ≤ 100 by decide) (fun Hx cs ex hn hp => mem4 ?_ ?_ ?_ ?_) rfl lists1 lists1))) rfl) (fun h => by cases h) fun _ H6 e6 => ?_
      · subst g13 g9 g5 g1 g4
        exact ⟨pb, v2, v3, A2, A3, rfl, (ea.trans eb) _ _ hpb, g8.ex g7, g12.ex g11⟩
      · obtain ⟨c', pm', ctv, h1, h2⟩ := m0.ex ex
        exact door_of (ask0 CT2 CE okA okB (capsO_of hp ns0 (fun y hy => by cases hy) (Nat.zero_le _) rfl hw0)) hn h1 h2 trivial (by decide) shwA shwB
      · obtain ⟨c', pm', ctv, h1, h2⟩ := m1.ex ex
        exact door_of (ask1 CT2 CN okA okB hplA hplB (capsO_of hp ns1 (fun y hy => by rw [List.mem_singleton.mp hy]; exact List.mem_cons_self ..) (Nat.le_refl _) rfl (hw1 (j := 4) rfl rfl))) hn h1 h2 trivial (by decide) (shwN okA pl) (shwN okB pl)
      · obtain ⟨c', pm', ctv, h1, h2⟩ := m2.ex ex
        exact door_of (ask2 CT2 CW okA okB (capsO_of hp ns2 (fun y hy => by cases hy) (Nat.zero_le _) rfl hw0)) hn h1 h2 trivial (by decide) (shwW okA) (shwW okB)
      · obtain ⟨c', pm', ctv, h1, h2⟩ := m3.ex ex
        exact door_of (ask3 CT2 CO okA okB hplA hplB (capsO_of hp ns3 (fun y hy => by rw [List.mem_singleton.mp hy]; exact List.mem_cons_self ..) (Nat.le_refl _) rfl (hw1 (j := 4) rfl rfl))) hn h1 h2 trivial (by decide) (shwO okA pl) (shwO okB pl)
      have l6 := l5.ex e6
      obtain ⟨wa6, hw6, hll6⟩ := nst_LL (K := K) (hAw.ex e6)
      cases hw6
      have kS : OkSt wA [pl, 1] := okS2 hplA (by decide)
      have kT : OkSt wB [pl, 1] := okS2 hplB (by decide)
      have kU : OkSt wA [2, 2] := okS2 (by decide) (by decide)
      have hst : ∀ {σ : L2.St} {Hx : Hp}, σ[4]? = some (some (nv pl)) → EvL (tLst (tCons (tVar 4) (tCons (tC (.int 1)) tNil))) σ Hx ([pl, 1].map nv) := fun h4 => el_lst (ea_cons (ev_var h4) (ea_cons ev_c ea_nil)) (show 2 ≤ 100000 by decide)
      refine q_asgP (ep_toldV (K := K) (L := L) (W := W) (E := E) (web := wA) (st := [pl, 1]) (ev_var rfl) hll6 okA (hst rfl) kS) fun v H7 e7 ⟨xh, hv, _, hans⟩ => ?_
      subst hv
      have l7 := l6.ex e7
      show tSeq _ _ _ [some (.ref sa), some (.ref p), some (.ref p2), some (.int (i : Nat)), some (nv pl), some (.ref pb), some (.ref xh)] H7
      refine q_lams2 l7.t fun pc fa4 fa5 H8 n8 t8 hpc m4 m5 => ?_
      have l8 := l7.up n8 t8
      show tSeq _ _ _ [some (.ref sa), some (.ref p), some (.ref p2), some (.int (i : Nat)), some (nv pl), some (.ref pc), some (.ref xh)] H8
      refine q_cat1 (a := pc) rfl hpc (show 2 ≤ 90 by decide) l8.t fun pd fa6 H9 n9 t9 hpd m6 => ?_
      have l9 := l8.up n9 t9
      replace m4 := m4.up n9
      replace m5 := m5.up n9
      show tSeq _ _ _ [some (.ref sa), some (.ref p), some (.ref p2), some (.int (i : Nat)), some (nv pl), some (.ref pd), some (.ref xh)] H9
      have hin : Ins H9 xh (clsOf L W E (wrd wA [pl, 1])) (fOf (wrd wA [pl, 1]) ((pushOf wA [pl, 1]).1 : Int) ((pushOf wA [pl, 1]).2 : Int)) := by
        obtain ⟨dx, hd⟩ := hans
        have h9 : Ins H9 xh (clsOf L W E (wrd wA [pl, 1])) (fldOf (wrd wA [pl, 1]) (pushOf wA [pl, 1])) := ⟨dx, n9 _ _ (n8 _ _ hd (fun ps z => by cases z)) (fun ps z => by cases z)⟩
        revert h9
        rcases wrd wA [pl, 1] with _ | _ | _ <;> exact id
      have doors : ∀ (wO : Webs) (sO : List Nat) (H0 : Hp), Ok60 wO → OkSt wO sO → Ex H9 H0 → ∀ Hx cs, Ex H0 Hx → (∀ b o, cs b = some o → Hx b = none) → PinsOf cells ["_law_script", "_law_web", "_law_other", "_law_by", "_law_place", "_law_asks", "_law_here"] ["_law_place", "_law_here"] [some (.ref sa), some (.ref p), some (.ref p2), some (.int (i : Nat)), some (nv pl), some (.ref pd), some (.ref xh)] cs → ∀ f ∈ [fa4, fa5, fa6], DoorOk (AskF P w K mg base 6) [dW wA, dI [pl, 1]] [dW wO, dI sO] (pin cs Hx) f := fun wO sO H0 kO jO e0 Hx cs ex hn hp => by
        have e9x := e0.trans ex
        refine mem3 ?_ ?_ ?_
        · obtain ⟨c', pm', ctv, h1, h2⟩ := m4.ex e9x
          exact door_of (ask4 CTo okA kO kS jO (capsO_of hp ns4 (fun y hy => by cases hy) (Nat.zero_le _) rfl hw0)) hn h1 h2 trivial (by decide) (shwK _) (shwK _)
        · obtain ⟨c', pm', ctv, h1, h2⟩ := m5.ex e9x
          obtain ⟨dx, hd⟩ := hin
          exact door_of (ask5 CT2 kl S okA kO kS jO (capsO_of hp ns5 (fun y hy => by rw [List.mem_singleton.mp hy]; exact List.mem_cons_of_mem _ (List.mem_cons_self ..)) (Nat.le_refl _) rfl (hw1 (j := 6) rfl rfl))) hn h1 h2 ⟨dx, pin_some hn (e9x _ _ hd)⟩ (by decide) (shwL _) (shwL _)
        · obtain ⟨c', pm', ctv, h1, h2⟩ := m6.ex e9x
          exact door_of (ask6 CT2 kl S okA kO kS jO (capsO_of hp ns6 (fun y hy => by cases hy) (Nat.zero_le _) rfl hw0)) hn h1 h2 trivial (by decide) (shwL _) (shwL _)
      obtain ⟨A9, hA9⟩ := l9.a
      obtain ⟨B9, hB9⟩ := l9.b
      refine q_when (b := false) (et_is (et_not (et_test (ev_doors (LH := AskF P w K mg base 6) (fs := [fa4, fa5, fa6]) (dL := [dW wA, dI [pl, 1]]) (dO := [dW wB, dI [pl, 1]]) (eap_imp (eap_cons (EvP.of (ev_var (v := .ref pd) rfl)) (eap_cons (wrap2 (st := [pl, 1]) (ev_var rfl) hA9 (hst rfl) (show 2 ≤ 100 by decide)) (eap_cons (wrap2 (st := [pl, 1]) (ev_var rfl) hB9 (hst rfl) (show 2 ≤ 100 by decide)) eap_nil))) fun Ha vs Hb ea eb ⟨v1, r1, Hm1, g1, g2, g3, g4, v2, r2, Hm2, g5, g6, g7, ⟨A2, g8⟩, v3, r3, Hm3, g9, g10, g11, ⟨A3, g12⟩, g13⟩ => ?_) (show 3 ≤ 100 by decide) (doors wB [pl, 1] H9 okB kT (Ex.refl _)) rfl lists2 lists2))) rfl) (fun h => by cases h) fun _ H10 e10 => ?_
      · subst g13 g9 g5 g1 g4
        exact ⟨pd, v2, v3, A2, A3, rfl, (ea.trans eb) _ _ hpd, g8.ex g7, g12.ex g11⟩
      refine s_when (b := false) (et_is (et_not (et_test (ev_doors (LH := AskF P w K mg base 6) (fs := [fa4, fa5, fa6]) (dL := [dW wA, dI [pl, 1]]) (dO := [dW wA, dI [2, 2]]) (eap_imp (eap_cons (EvP.of (ev_var (v := .ref pd) rfl)) (eap_cons (wrap2 (st := [pl, 1]) (ev_var rfl) (hA9.ex e10) (hst rfl) (show 2 ≤ 100 by decide)) (eap_cons (wrap2 (st := [2, 2]) (ev_var rfl) (hA9.ex e10) (el_lst (ea_cons ev_c (ea_cons ev_c ea_nil)) (show 2 ≤ 100000 by decide)) (show 2 ≤ 100 by decide)) eap_nil))) fun Ha vs Hb ea eb ⟨v1, r1, Hm1, g1, g2, g3, g4, v2, r2, Hm2, g5, g6, g7, ⟨A2, g8⟩, v3, r3, Hm3, g9, g10, g11, ⟨A3, g12⟩, g13⟩ => ?_) (show 3 ≤ 100 by decide) (doors wA [2, 2] H10 okA kU e10) rfl lists2 lists2))) rfl) (fun h => by cases h) fun _ H11 e11 => ?_
      · subst g13 g9 g5 g1 g4
        exact ⟨pd, v2, v3, A2, A3, rfl, ((e10.trans ea).trans eb) _ _ hpd, g8.ex g7, g12.ex g11⟩
      exact ⟨⟨_, _, _, _, rfl⟩, l9.ex (e10.trans e11)⟩
    · exact s_ret (σ := σ') (v := .bl true) (D := { nx := fun _ H' => Q .non H', rt := Q }) ev_c fun H3 _ => q H3
end
end Sr
set_option Elab.async false
set_option linter.all false
set_option maxRecDepth 100000
set_option maxHeartbeats 4000000
namespace Sr
open PySem PySem.Spec PyProof.Rows L2 Evl LamX NdefX
/-- what the top has left, and the promises one over another -/
theorem all_mk {l : PySem.W.OpenLaw} {w : World} {K : PySem.W.Frag} {h : Heap} {mg : Str → Option Value} {fa : Addr} (X : K.In h) (G : h.Ns mainGlobals mg) (hfa : mg "law" = some (.ref fa))
    {f_is_within : Addr} {od_is_within an_is_within : Option Addr} {sl_is_within : Array (Option Value)} {oc_is_within kV_is_within dc_is_within pm_is_within cd_is_within ct_is_within : Value} {f_are_roads : Addr} {od_are_roads an_are_roads : Option Addr} {sl_are_roads : Array (Option Value)} {oc_are_roads kV_are_roads dc_are_roads pm_are_roads cd_are_roads ct_are_roads : Value} {f_check_web : Addr} {od_check_web an_check_web : Option Addr} {sl_check_web : Array (Option Value)} {oc_check_web kV_check_web dc_check_web pm_check_web cd_check_web ct_check_web : Value} {f_check_place : Addr} {od_check_place an_check_place : Option Addr} {sl_check_place : Array (Option Value)} {oc_check_place kV_check_place dc_check_place pm_check_place cd_check_place ct_check_place : Value} {f_check_stones : Addr} {od_check_stones an_check_stones : Option Addr} {sl_check_stones : Array (Option Value)} {oc_check_stones kV_check_stones dc_check_stones pm_check_stones cd_check_stones ct_check_stones : Value} {f_least_without : Addr} {od_least_without an_least_without : Option Addr} {sl_least_without : Array (Option Value)} {oc_least_without kV_least_without dc_least_without pm_least_without cd_least_without ct_least_without : Value} {f_numbers_of : Addr} {od_numbers_of an_numbers_of : Option Addr} {sl_numbers_of : Array (Option Value)} {oc_numbers_of kV_numbers_of dc_numbers_of pm_numbers_of cd_numbers_of ct_numbers_of : Value} {f_worths_of : Addr} {od_worths_of an_worths_of : Option Addr} {sl_worths_of : Array (Option Value)} {oc_worths_of kV_worths_of dc_worths_of pm_worths_of cd_worths_of ct_worths_of : Value} {f_worths : Addr} {od_worths an_worths : Option Addr} {sl_worths : Array (Option Value)} {oc_worths kV_worths dc_worths pm_worths cd_worths ct_worths : Value} {f_worth : Addr} {od_worth an_worth : Option Addr} {sl_worth : Array (Option Value)} {oc_worth kV_worth dc_worth pm_worth cd_worth ct_worth : Value} {f_word_of : Addr} {od_word_of an_word_of : Option Addr} {sl_word_of : Array (Option Value)} {oc_word_of kV_word_of dc_word_of pm_word_of cd_word_of ct_word_of : Value} {f_behind : Addr} {od_behind an_behind : Option Addr} {sl_behind : Array (Option Value)} {oc_behind kV_behind dc_behind pm_behind cd_behind ct_behind : Value} {f_pushes : Addr} {od_pushes an_pushes : Option Addr} {sl_pushes : Array (Option Value)} {oc_pushes kV_pushes dc_pushes pm_pushes cd_pushes ct_pushes : Value} {f_first_to : Addr} {od_first_to an_first_to : Option Addr} {sl_first_to : Array (Option Value)} {oc_first_to kV_first_to dc_first_to pm_first_to cd_first_to ct_first_to : Value} {f_told : Addr} {od_told an_told : Option Addr} {sl_told : Array (Option Value)} {oc_told kV_told dc_told pm_told cd_told ct_told : Value} {f_ends_of : Addr} {od_ends_of an_ends_of : Option Addr} {sl_ends_of : Array (Option Value)} {oc_ends_of kV_ends_of dc_ends_of pm_ends_of cd_ends_of ct_ends_of : Value} {f_ends : Addr} {od_ends an_ends : Option Addr} {sl_ends : Array (Option Value)} {oc_ends kV_ends dc_ends pm_ends cd_ends ct_ends : Value} {f_end : Addr} {od_end an_end : Option Addr} {sl_end : Array (Option Value)} {oc_end kV_end dc_end pm_end cd_end ct_end : Value} {f__law_cell_at : Addr} {od__law_cell_at an__law_cell_at : Option Addr} {sl__law_cell_at : Array (Option Value)} {oc__law_cell_at kV__law_cell_at dc__law_cell_at pm__law_cell_at cd__law_cell_at ct__law_cell_at : Value} {f__law_draw : Addr} {od__law_draw an__law_draw : Option Addr} {sl__law_draw : Array (Option Value)} {oc__law_draw kV__law_draw dc__law_draw pm__law_draw cd__law_draw ct__law_draw : Value} {f__law_number : Addr} {od__law_number an__law_number : Option Addr} {sl__law_number : Array (Option Value)} {oc__law_number kV__law_number dc__law_number pm__law_number cd__law_number ct__law_number : Value} {f__law_deep : Addr} {od__law_deep an__law_deep : Option Addr} {sl__law_deep : Array (Option Value)} {oc__law_deep kV__law_deep dc__law_deep pm__law_deep cd__law_deep ct__law_deep : Value} {f__law_spoilt : Addr} {od__law_spoilt an__law_spoilt : Option Addr} {sl__law_spoilt : Array (Option Value)} {oc__law_spoilt kV__law_spoilt dc__law_spoilt pm__law_spoilt cd__law_spoilt ct__law_spoilt : Value} {f__law_put : Addr} {od__law_put an__law_put : Option Addr} {sl__law_put : Array (Option Value)} {oc__law_put kV__law_put dc__law_put pm__law_put cd__law_put ct__law_put : Value} {f__law_door_right : Addr} {od__law_door_right an__law_door_right : Option Addr} {sl__law_door_right : Array (Option Value)} {oc__law_door_right kV__law_door_right dc__law_door_right pm__law_door_right cd__law_door_right ct__law_door_right : Value} {f__law_two : Addr} {od__law_two an__law_two : Option Addr} {sl__law_two : Array (Option Value)} {oc__law_two kV__law_two dc__law_two pm__law_two cd__law_two ct__law_two : Value} {f__law_doors_right : Addr} {od__law_doors_right an__law_doors_right : Option Addr} {sl__law_doors_right : Array (Option Value)} {oc__law_doors_right kV__law_doors_right dc__law_doors_right pm__law_doors_right cd__law_doors_right ct__law_doors_right : Value} {f__law_told : Addr} {od__law_told an__law_told : Option Addr} {sl__law_told : Array (Option Value)} {oc__law_told kV__law_told dc__law_told pm__law_told cd__law_told ct__law_told : Value} {f_law : Addr} {od_law an_law : Option Addr} {sl_law : Array (Option Value)} {oc_law kV_law dc_law pm_law cd_law ct_law : Value} {v_MOST : Value} {t_MOST : Tok} {v_STONES : Value} {t_STONES : Tok} {C_Lost : Addr} {C_Won : Addr} {C_Endless : Addr} {f_Lost_shows : Addr} {od_Lost_shows an_Lost_shows : Option Addr} {sl_Lost_shows : Array (Option Value)} {oc_Lost_shows kV_Lost_shows dc_Lost_shows pm_Lost_shows cd_Lost_shows ct_Lost_shows : Value} {f_Won___init__ : Addr} {od_Won___init__ an_Won___init__ : Option Addr} {sl_Won___init__ : Array (Option Value)} {oc_Won___init__ kV_Won___init__ dc_Won___init__ pm_Won___init__ cd_Won___init__ ct_Won___init__ : Value} {f_Won_shows : Addr} {od_Won_shows an_Won_shows : Option Addr} {sl_Won_shows : Array (Option Value)} {oc_Won_shows kV_Won_shows dc_Won_shows pm_Won_shows cd_Won_shows ct_Won_shows : Value} {f_Endless___init__ : Addr} {od_Endless___init__ an_Endless___init__ : Option Addr} {sl_Endless___init__ : Array (Option Value)} {oc_Endless___init__ kV_Endless___init__ dc_Endless___init__ pm_Endless___init__ cd_Endless___init__ ct_Endless___init__ : Value} {f_Endless_shows : Addr} {od_Endless_shows an_Endless_shows : Option Addr} {sl_Endless_shows : Array (Option Value)} {oc_Endless_shows kV_Endless_shows dc_Endless_shows pm_Endless_shows cd_Endless_shows ct_Endless_shows : Value} {cL PL : Addr} {eL : Value} {ddL : Option Addr} {usL : Array Value} {slL : Array (Option Value)}
    (z_len : PySem.W.nsIn K mainGlobals "len" = some none)
    (z_isinstance : PySem.W.nsIn K mainGlobals "isinstance" = some none)
    (z_int : PySem.W.nsIn K mainGlobals "int" = some none)
    (z_bool : PySem.W.nsIn K mainGlobals "bool" = some none)
    (z_list : PySem.W.nsIn K mainGlobals "list" = some none)
    (z_all : PySem.W.nsIn K mainGlobals "all" = some none)
    (z_any : PySem.W.nsIn K mainGlobals "any" = some none)
    (z_zip : PySem.W.nsIn K mainGlobals "zip" = some none)
    (z_enumerate : PySem.W.nsIn K mainGlobals "enumerate" = some none)
    (z_range : PySem.W.nsIn K mainGlobals "range" = some none)
    (z_reversed : PySem.W.nsIn K mainGlobals "reversed" = some none)
    (z_set : PySem.W.nsIn K mainGlobals "set" = some none)
    (z_sorted : PySem.W.nsIn K mainGlobals "sorted" = some none)
    (z_tuple : PySem.W.nsIn K mainGlobals "tuple" = some none)
    (z_str : PySem.W.nsIn K mainGlobals "str" = some none)
    (z_max : PySem.W.nsIn K mainGlobals "max" = some none)
    (z_min : PySem.W.nsIn K mainGlobals "min" = some none)
    (z_abs : PySem.W.nsIn K mainGlobals "abs" = some none)
    (z_ValueError : PySem.W.nsIn K mainGlobals "ValueError" = some none)
    (a_is_within : PySem.W.nsIn K mainGlobals "is_within" = some (some (.ref f_is_within)))
    (l_is_within : K.lookup f_is_within = some ⟨oc_is_within, od_is_within, .func (PySem.W.fnOf "is_within" "is_within" (defArgs s_is_within) (defBody s_is_within) (defScope s_is_within) .none kV_is_within dc_is_within pm_is_within an_is_within cd_is_within ct_is_within), sl_is_within⟩)
    (c_is_within : PySem.W.codeIn K cd_is_within "is_within" = true)
    (k_is_within : PySem.W.keepIn K (.ref f_is_within) = true)
    (a_are_roads : PySem.W.nsIn K mainGlobals "are_roads" = some (some (.ref f_are_roads)))
    (l_are_roads : K.lookup f_are_roads = some ⟨oc_are_roads, od_are_roads, .func (PySem.W.fnOf "are_roads" "are_roads" (defArgs s_are_roads) (defBody s_are_roads) (defScope s_are_roads) .none kV_are_roads dc_are_roads pm_are_roads an_are_roads cd_are_roads ct_are_roads), sl_are_roads⟩)
    (c_are_roads : PySem.W.codeIn K cd_are_roads "are_roads" = true)
    (k_are_roads : PySem.W.keepIn K (.ref f_are_roads) = true)
    (a_check_web : PySem.W.nsIn K mainGlobals "check_web" = some (some (.ref f_check_web)))
    (l_check_web : K.lookup f_check_web = some ⟨oc_check_web, od_check_web, .func (PySem.W.fnOf "check_web" "check_web" (defArgs s_check_web) (defBody s_check_web) (defScope s_check_web) .none kV_check_web dc_check_web pm_check_web an_check_web cd_check_web ct_check_web), sl_check_web⟩)
    (c_check_web : PySem.W.codeIn K cd_check_web "check_web" = true)
    (k_check_web : PySem.W.keepIn K (.ref f_check_web) = true)
    (a_check_place : PySem.W.nsIn K mainGlobals "check_place" = some (some (.ref f_check_place)))
    (l_check_place : K.lookup f_check_place = some ⟨oc_check_place, od_check_place, .func (PySem.W.fnOf "check_place" "check_place" (defArgs s_check_place) (defBody s_check_place) (defScope s_check_place) .none kV_check_place dc_check_place pm_check_place an_check_place cd_check_place ct_check_place), sl_check_place⟩)
    (c_check_place : PySem.W.codeIn K cd_check_place "check_place" = true)
    (k_check_place : PySem.W.keepIn K (.ref f_check_place) = true)
    (a_check_stones : PySem.W.nsIn K mainGlobals "check_stones" = some (some (.ref f_check_stones)))
    (l_check_stones : K.lookup f_check_stones = some ⟨oc_check_stones, od_check_stones, .func (PySem.W.fnOf "check_stones" "check_stones" (defArgs s_check_stones) (defBody s_check_stones) (defScope s_check_stones) .none kV_check_stones dc_check_stones pm_check_stones an_check_stones cd_check_stones ct_check_stones), sl_check_stones⟩)
    (c_check_stones : PySem.W.codeIn K cd_check_stones "check_stones" = true)
    (k_check_stones : PySem.W.keepIn K (.ref f_check_stones) = true)
    (a_least_without : PySem.W.nsIn K mainGlobals "least_without" = some (some (.ref f_least_without)))
    (l_least_without : K.lookup f_least_without = some ⟨oc_least_without, od_least_without, .func (PySem.W.fnOf "least_without" "least_without" (defArgs s_least_without) (defBody s_least_without) (defScope s_least_without) .none kV_least_without dc_least_without pm_least_without an_least_without cd_least_without ct_least_without), sl_least_without⟩)
    (c_least_without : PySem.W.codeIn K cd_least_without "least_without" = true)
    (k_least_without : PySem.W.keepIn K (.ref f_least_without) = true)
    (a_numbers_of : PySem.W.nsIn K mainGlobals "numbers_of" = some (some (.ref f_numbers_of)))
    (l_numbers_of : K.lookup f_numbers_of = some ⟨oc_numbers_of, od_numbers_of, .func (PySem.W.fnOf "numbers_of" "numbers_of" (defArgs s_numbers_of) (defBody s_numbers_of) (defScope s_numbers_of) .none kV_numbers_of dc_numbers_of pm_numbers_of an_numbers_of cd_numbers_of ct_numbers_of), sl_numbers_of⟩)
    (c_numbers_of : PySem.W.codeIn K cd_numbers_of "numbers_of" = true)
    (k_numbers_of : PySem.W.keepIn K (.ref f_numbers_of) = true)
    (a_worths_of : PySem.W.nsIn K mainGlobals "worths_of" = some (some (.ref f_worths_of)))
    (l_worths_of : K.lookup f_worths_of = some ⟨oc_worths_of, od_worths_of, .func (PySem.W.fnOf "worths_of" "worths_of" (defArgs s_worths_of) (defBody s_worths_of) (defScope s_worths_of) .none kV_worths_of dc_worths_of pm_worths_of an_worths_of cd_worths_of ct_worths_of), sl_worths_of⟩)
    (c_worths_of : PySem.W.codeIn K cd_worths_of "worths_of" = true)
    (k_worths_of : PySem.W.keepIn K (.ref f_worths_of) = true)
    (a_worths : PySem.W.nsIn K mainGlobals "worths" = some (some (.ref f_worths)))
    (l_worths : K.lookup f_worths = some ⟨oc_worths, od_worths, .func (PySem.W.fnOf "worths" "worths" (defArgs s_worths) (defBody s_worths) (defScope s_worths) .none kV_worths dc_worths pm_worths an_worths cd_worths ct_worths), sl_worths⟩)
    (c_worths : PySem.W.codeIn K cd_worths "worths" = true)
    (k_worths : PySem.W.keepIn K (.ref f_worths) = true)
    (a_worth : PySem.W.nsIn K mainGlobals "worth" = some (some (.ref f_worth)))
    (l_worth : K.lookup f_worth = some ⟨oc_worth, od_worth, .func (PySem.W.fnOf "worth" "worth" (defArgs s_worth) (defBody s_worth) (defScope s_worth) .none kV_worth dc_worth pm_worth an_worth cd_worth ct_worth), sl_worth⟩)
    (c_worth : PySem.W.codeIn K cd_worth "worth" = true)
    (k_worth : PySem.W.keepIn K (.ref f_worth) = true)
    (a_word_of : PySem.W.nsIn K mainGlobals "word_of" = some (some (.ref f_word_of)))
    (l_word_of : K.lookup f_word_of = some ⟨oc_word_of, od_word_of, .func (PySem.W.fnOf "word_of" "word_of" (defArgs s_word_of) (defBody s_word_of) (defScope s_word_of) .none kV_word_of dc_word_of pm_word_of an_word_of cd_word_of ct_word_of), sl_word_of⟩)
    (c_word_of : PySem.W.codeIn K cd_word_of "word_of" = true)
    (k_word_of : PySem.W.keepIn K (.ref f_word_of) = true)
    (a_behind : PySem.W.nsIn K mainGlobals "behind" = some (some (.ref f_behind)))
    (l_behind : K.lookup f_behind = some ⟨oc_behind, od_behind, .func (PySem.W.fnOf "behind" "behind" (defArgs s_behind) (defBody s_behind) (defScope s_behind) .none kV_behind dc_behind pm_behind an_behind cd_behind ct_behind), sl_behind⟩)
    (c_behind : PySem.W.codeIn K cd_behind "behind" = true)
    (k_behind : PySem.W.keepIn K (.ref f_behind) = true)
    (a_pushes : PySem.W.nsIn K mainGlobals "pushes" = some (some (.ref f_pushes)))
    (l_pushes : K.lookup f_pushes = some ⟨oc_pushes, od_pushes, .func (PySem.W.fnOf "pushes" "pushes" (defArgs s_pushes) (defBody s_pushes) (defScope s_pushes) .none kV_pushes dc_pushes pm_pushes an_pushes cd_pushes ct_pushes), sl_pushes⟩)
    (c_pushes : PySem.W.codeIn K cd_pushes "pushes" = true)
    (k_pushes : PySem.W.keepIn K (.ref f_pushes) = true)
    (a_first_to : PySem.W.nsIn K mainGlobals "first_to" = some (some (.ref f_first_to)))
    (l_first_to : K.lookup f_first_to = some ⟨oc_first_to, od_first_to, .func (PySem.W.fnOf "first_to" "first_to" (defArgs s_first_to) (defBody s_first_to) (defScope s_first_to) .none kV_first_to dc_first_to pm_first_to an_first_to cd_first_to ct_first_to), sl_first_to⟩)
    (c_first_to : PySem.W.codeIn K cd_first_to "first_to" = true)
    (k_first_to : PySem.W.keepIn K (.ref f_first_to) = true)
    (a_told : PySem.W.nsIn K mainGlobals "told" = some (some (.ref f_told)))
    (l_told : K.lookup f_told = some ⟨oc_told, od_told, .func (PySem.W.fnOf "told" "told" (defArgs s_told) (defBody s_told) (defScope s_told) .none kV_told dc_told pm_told an_told cd_told ct_told), sl_told⟩)
    (c_told : PySem.W.codeIn K cd_told "told" = true)
    (k_told : PySem.W.keepIn K (.ref f_told) = true)
    (a_ends_of : PySem.W.nsIn K mainGlobals "ends_of" = some (some (.ref f_ends_of)))
    (l_ends_of : K.lookup f_ends_of = some ⟨oc_ends_of, od_ends_of, .func (PySem.W.fnOf "ends_of" "ends_of" (defArgs s_ends_of) (defBody s_ends_of) (defScope s_ends_of) .none kV_ends_of dc_ends_of pm_ends_of an_ends_of cd_ends_of ct_ends_of), sl_ends_of⟩)
    (c_ends_of : PySem.W.codeIn K cd_ends_of "ends_of" = true)
    (k_ends_of : PySem.W.keepIn K (.ref f_ends_of) = true)
    (a_ends : PySem.W.nsIn K mainGlobals "ends" = some (some (.ref f_ends)))
    (l_ends : K.lookup f_ends = some ⟨oc_ends, od_ends, .func (PySem.W.fnOf "ends" "ends" (defArgs s_ends) (defBody s_ends) (defScope s_ends) .none kV_ends dc_ends pm_ends an_ends cd_ends ct_ends), sl_ends⟩)
    (c_ends : PySem.W.codeIn K cd_ends "ends" = true)
    (k_ends : PySem.W.keepIn K (.ref f_ends) = true)
    (a_end : PySem.W.nsIn K mainGlobals "end" = some (some (.ref f_end)))
    (l_end : K.lookup f_end = some ⟨oc_end, od_end, .func (PySem.W.fnOf "end" "end" (defArgs s_end) (defBody s_end) (defScope s_end) .none kV_end dc_end pm_end an_end cd_end ct_end), sl_end⟩)
    (c_end : PySem.W.codeIn K cd_end "end" = true)
    (k_end : PySem.W.keepIn K (.ref f_end) = true)
    (a__law_cell_at : PySem.W.nsIn K mainGlobals "_law_cell_at" = some (some (.ref f__law_cell_at)))
    (l__law_cell_at : K.lookup f__law_cell_at = some ⟨oc__law_cell_at, od__law_cell_at, .func (PySem.W.fnOf "_law_cell_at" "_law_cell_at" (defArgs s__law_cell_at) (defBody s__law_cell_at) (defScope s__law_cell_at) .none kV__law_cell_at dc__law_cell_at pm__law_cell_at an__law_cell_at cd__law_cell_at ct__law_cell_at), sl__law_cell_at⟩)
    (c__law_cell_at : PySem.W.codeIn K cd__law_cell_at "_law_cell_at" = true)
    (k__law_cell_at : PySem.W.keepIn K (.ref f__law_cell_at) = true)
    (a__law_draw : PySem.W.nsIn K mainGlobals "_law_draw" = some (some (.ref f__law_draw)))
    (l__law_draw : K.lookup f__law_draw = some ⟨oc__law_draw, od__law_draw, .func (PySem.W.fnOf "_law_draw" "_law_draw" (defArgs s__law_draw) (defBody s__law_draw) (defScope s__law_draw) .none kV__law_draw dc__law_draw pm__law_draw an__law_draw cd__law_draw ct__law_draw), sl__law_draw⟩)
    (c__law_draw : PySem.W.codeIn K cd__law_draw "_law_draw" = true)
    (k__law_draw : PySem.W.keepIn K (.ref f__law_draw) = true)
    (a__law_number : PySem.W.nsIn K mainGlobals "_law_number" = some (some (.ref f__law_number)))
    (l__law_number : K.lookup f__law_number = some ⟨oc__law_number, od__law_number, .func (PySem.W.fnOf "_law_number" "_law_number" (defArgs s__law_number) (defBody s__law_number) (defScope s__law_number) .none kV__law_number dc__law_number pm__law_number an__law_number cd__law_number ct__law_number), sl__law_number⟩)
    (c__law_number : PySem.W.codeIn K cd__law_number "_law_number" = true)
    (k__law_number : PySem.W.keepIn K (.ref f__law_number) = true)
    (a__law_deep : PySem.W.nsIn K mainGlobals "_law_deep" = some (some (.ref f__law_deep)))
    (l__law_deep : K.lookup f__law_deep = some ⟨oc__law_deep, od__law_deep, .func (PySem.W.fnOf "_law_deep" "_law_deep" (defArgs s__law_deep) (defBody s__law_deep) (defScope s__law_deep) .none kV__law_deep dc__law_deep pm__law_deep an__law_deep cd__law_deep ct__law_deep), sl__law_deep⟩)
    (c__law_deep : PySem.W.codeIn K cd__law_deep "_law_deep" = true)
    (k__law_deep : PySem.W.keepIn K (.ref f__law_deep) = true)
    (a__law_spoilt : PySem.W.nsIn K mainGlobals "_law_spoilt" = some (some (.ref f__law_spoilt)))
    (l__law_spoilt : K.lookup f__law_spoilt = some ⟨oc__law_spoilt, od__law_spoilt, .func (PySem.W.fnOf "_law_spoilt" "_law_spoilt" (defArgs s__law_spoilt) (defBody s__law_spoilt) (defScope s__law_spoilt) .none kV__law_spoilt dc__law_spoilt pm__law_spoilt an__law_spoilt cd__law_spoilt ct__law_spoilt), sl__law_spoilt⟩)
    (c__law_spoilt : PySem.W.codeIn K cd__law_spoilt "_law_spoilt" = true)
    (k__law_spoilt : PySem.W.keepIn K (.ref f__law_spoilt) = true)
    (a__law_put : PySem.W.nsIn K mainGlobals "_law_put" = some (some (.ref f__law_put)))
    (l__law_put : K.lookup f__law_put = some ⟨oc__law_put, od__law_put, .func (PySem.W.fnOf "_law_put" "_law_put" (defArgs s__law_put) (defBody s__law_put) (defScope s__law_put) .none kV__law_put dc__law_put pm__law_put an__law_put cd__law_put ct__law_put), sl__law_put⟩)
    (c__law_put : PySem.W.codeIn K cd__law_put "_law_put" = true)
    (k__law_put : PySem.W.keepIn K (.ref f__law_put) = true)
    (a__law_door_right : PySem.W.nsIn K mainGlobals "_law_door_right" = some (some (.ref f__law_door_right)))
    (l__law_door_right : K.lookup f__law_door_right = some ⟨oc__law_door_right, od__law_door_right, .func (PySem.W.fnOf "_law_door_right" "_law_door_right" (defArgs s__law_door_right) (defBody s__law_door_right) (defScope s__law_door_right) .none kV__law_door_right dc__law_door_right pm__law_door_right an__law_door_right cd__law_door_right ct__law_door_right), sl__law_door_right⟩)
    (c__law_door_right : PySem.W.codeIn K cd__law_door_right "_law_door_right" = true)
    (k__law_door_right : PySem.W.keepIn K (.ref f__law_door_right) = true)
    (a__law_two : PySem.W.nsIn K mainGlobals "_law_two" = some (some (.ref f__law_two)))
    (l__law_two : K.lookup f__law_two = some ⟨oc__law_two, od__law_two, .func (PySem.W.fnOf "_law_two" "_law_two" (defArgs s__law_two) (defBody s__law_two) (defScope s__law_two) .none kV__law_two dc__law_two pm__law_two an__law_two cd__law_two ct__law_two), sl__law_two⟩)
    (c__law_two : PySem.W.codeIn K cd__law_two "_law_two" = true)
    (k__law_two : PySem.W.keepIn K (.ref f__law_two) = true)
    (a__law_doors_right : PySem.W.nsIn K mainGlobals "_law_doors_right" = some (some (.ref f__law_doors_right)))
    (l__law_doors_right : K.lookup f__law_doors_right = some ⟨oc__law_doors_right, od__law_doors_right, .func (PySem.W.fnOf "_law_doors_right" "_law_doors_right" (defArgs s__law_doors_right) (defBody s__law_doors_right) (defScope s__law_doors_right) .none kV__law_doors_right dc__law_doors_right pm__law_doors_right an__law_doors_right cd__law_doors_right ct__law_doors_right), sl__law_doors_right⟩)
    (c__law_doors_right : PySem.W.codeIn K cd__law_doors_right "_law_doors_right" = true)
    (k__law_doors_right : PySem.W.keepIn K (.ref f__law_doors_right) = true)
    (a__law_told : PySem.W.nsIn K mainGlobals "_law_told" = some (some (.ref f__law_told)))
    (l__law_told : K.lookup f__law_told = some ⟨oc__law_told, od__law_told, .func (PySem.W.fnOf "_law_told" "_law_told" (defArgs s__law_told) (defBody s__law_told) (defScope s__law_told) .none kV__law_told dc__law_told pm__law_told an__law_told cd__law_told ct__law_told), sl__law_told⟩)
    (c__law_told : PySem.W.codeIn K cd__law_told "_law_told" = true)
    (k__law_told : PySem.W.keepIn K (.ref f__law_told) = true)
    (a_law : PySem.W.nsIn K mainGlobals "law" = some (some (.ref f_law)))
    (l_law : K.lookup f_law = some ⟨oc_law, od_law, .func (PySem.W.fnOf "law" "law" (defArgs s_law) (defBody s_law) (defScope s_law) .none kV_law dc_law pm_law an_law cd_law ct_law), sl_law⟩)
    (c_law : PySem.W.codeIn K cd_law "law" = true)
    (k_law : PySem.W.keepIn K (.ref f_law) = true)
    (a_MOST : PySem.W.nsIn K mainGlobals "MOST" = some (some v_MOST))
    (e_MOST : v_MOST = .int 60 t_MOST)
    (a_STONES : PySem.W.nsIn K mainGlobals "STONES" = some (some v_STONES))
    (e_STONES : v_STONES = .int 20 t_STONES)
    (sp_cls : PySem.W.specialIn K (.builtin "object.__class__") "__get__" = some (some (.builtin "getset_descriptor.__get__")))
    (tk_cls : PySem.W.takesIn K (.builtin "object.__class__") = some true)
    (a_Lost : PySem.W.nsIn K mainGlobals "Lost" = some (some (.ref C_Lost)))
    (pg_Lost : PySem.W.plainGet K C_Lost Str.empty = true)
    (hd_Lost : PySem.W.hasDictIn K C_Lost = true)
    (po_Lost : PySem.W.plainOver K C_Lost = true)
    (sa_Lost : PySem.W.findIn K (.ref C_Lost) "__setattr__" = some (some (.builtin "object.__setattr__")))
    (mk_Lost : PySem.W.makesIn K C_Lost = true)
    (kc_Lost : PySem.W.keepIn K (.ref C_Lost) = true)
    (hc_Lost : PySem.W.findIn K (.ref C_Lost) "__class__" = some (some (.builtin "object.__class__")))
    (mo_Lost : PySem.W.mroIn K C_Lost (.type "object") = some true)
    (io_Lost : PySem.W.findIn K (.ref C_Lost) "__init__" = some (some (.builtin "object.__init__")))
    (a_Won : PySem.W.nsIn K mainGlobals "Won" = some (some (.ref C_Won)))
    (pg_Won : PySem.W.plainGet K C_Won Str.empty = true)
    (hd_Won : PySem.W.hasDictIn K C_Won = true)
    (po_Won : PySem.W.plainOver K C_Won = true)
    (sa_Won : PySem.W.findIn K (.ref C_Won) "__setattr__" = some (some (.builtin "object.__setattr__")))
    (mk_Won : PySem.W.makesIn K C_Won = true)
    (kc_Won : PySem.W.keepIn K (.ref C_Won) = true)
    (hc_Won : PySem.W.findIn K (.ref C_Won) "__class__" = some (some (.builtin "object.__class__")))
    (mo_Won : PySem.W.mroIn K C_Won (.type "object") = some true)
    (nstone_Won : PySem.W.findIn K (.ref C_Won) "stone" = some none)
    (nplace_Won : PySem.W.findIn K (.ref C_Won) "place" = some none)
    (a_Endless : PySem.W.nsIn K mainGlobals "Endless" = some (some (.ref C_Endless)))
    (pg_Endless : PySem.W.plainGet K C_Endless Str.empty = true)
    (hd_Endless : PySem.W.hasDictIn K C_Endless = true)
    (po_Endless : PySem.W.plainOver K C_Endless = true)
    (sa_Endless : PySem.W.findIn K (.ref C_Endless) "__setattr__" = some (some (.builtin "object.__setattr__")))
    (mk_Endless : PySem.W.makesIn K C_Endless = true)
    (kc_Endless : PySem.W.keepIn K (.ref C_Endless) = true)
    (hc_Endless : PySem.W.findIn K (.ref C_Endless) "__class__" = some (some (.builtin "object.__class__")))
    (mo_Endless : PySem.W.mroIn K C_Endless (.type "object") = some true)
    (nstone_Endless : PySem.W.findIn K (.ref C_Endless) "stone" = some none)
    (nplace_Endless : PySem.W.findIn K (.ref C_Endless) "place" = some none)
    (kit_Lost_Lost : PySem.W.kitOne K (.ref C_Lost) (.ref C_Lost) = some true)
    (kit_Lost_Won : PySem.W.kitOne K (.ref C_Lost) (.ref C_Won) = some false)
    (kit_Lost_Endless : PySem.W.kitOne K (.ref C_Lost) (.ref C_Endless) = some false)
    (kit_Won_Lost : PySem.W.kitOne K (.ref C_Won) (.ref C_Lost) = some false)
    (kit_Won_Won : PySem.W.kitOne K (.ref C_Won) (.ref C_Won) = some true)
    (kit_Won_Endless : PySem.W.kitOne K (.ref C_Won) (.ref C_Endless) = some false)
    (kit_Endless_Lost : PySem.W.kitOne K (.ref C_Endless) (.ref C_Lost) = some false)
    (kit_Endless_Won : PySem.W.kitOne K (.ref C_Endless) (.ref C_Won) = some false)
    (kit_Endless_Endless : PySem.W.kitOne K (.ref C_Endless) (.ref C_Endless) = some true)
    (a_Lost_shows : PySem.W.findIn K (.ref C_Lost) "shows" = some (some (.ref f_Lost_shows)))
    (i_Lost_shows : PySem.W.isFn K (.ref f_Lost_shows) = true)
    (l_Lost_shows : K.lookup f_Lost_shows = some ⟨oc_Lost_shows, od_Lost_shows, .func (PySem.W.fnOf "shows" "Lost.shows" (defArgs s_Lost_shows) (defBody s_Lost_shows) (defScope s_Lost_shows) .none kV_Lost_shows dc_Lost_shows pm_Lost_shows an_Lost_shows cd_Lost_shows ct_Lost_shows), sl_Lost_shows⟩)
    (c_Lost_shows : PySem.W.codeIn K cd_Lost_shows "Lost.shows" = true)
    (k_Lost_shows : PySem.W.keepIn K (.ref f_Lost_shows) = true)
    (a_Won___init__ : PySem.W.findIn K (.ref C_Won) "__init__" = some (some (.ref f_Won___init__)))
    (i_Won___init__ : PySem.W.isFn K (.ref f_Won___init__) = true)
    (l_Won___init__ : K.lookup f_Won___init__ = some ⟨oc_Won___init__, od_Won___init__, .func (PySem.W.fnOf "__init__" "Won.__init__" (defArgs s_Won___init__) (defBody s_Won___init__) (defScope s_Won___init__) .none kV_Won___init__ dc_Won___init__ pm_Won___init__ an_Won___init__ cd_Won___init__ ct_Won___init__), sl_Won___init__⟩)
    (c_Won___init__ : PySem.W.codeIn K cd_Won___init__ "Won.__init__" = true)
    (k_Won___init__ : PySem.W.keepIn K (.ref f_Won___init__) = true)
    (a_Won_shows : PySem.W.findIn K (.ref C_Won) "shows" = some (some (.ref f_Won_shows)))
    (i_Won_shows : PySem.W.isFn K (.ref f_Won_shows) = true)
    (l_Won_shows : K.lookup f_Won_shows = some ⟨oc_Won_shows, od_Won_shows, .func (PySem.W.fnOf "shows" "Won.shows" (defArgs s_Won_shows) (defBody s_Won_shows) (defScope s_Won_shows) .none kV_Won_shows dc_Won_shows pm_Won_shows an_Won_shows cd_Won_shows ct_Won_shows), sl_Won_shows⟩)
    (c_Won_shows : PySem.W.codeIn K cd_Won_shows "Won.shows" = true)
    (k_Won_shows : PySem.W.keepIn K (.ref f_Won_shows) = true)
    (a_Endless___init__ : PySem.W.findIn K (.ref C_Endless) "__init__" = some (some (.ref f_Endless___init__)))
    (i_Endless___init__ : PySem.W.isFn K (.ref f_Endless___init__) = true)
    (l_Endless___init__ : K.lookup f_Endless___init__ = some ⟨oc_Endless___init__, od_Endless___init__, .func (PySem.W.fnOf "__init__" "Endless.__init__" (defArgs s_Endless___init__) (defBody s_Endless___init__) (defScope s_Endless___init__) .none kV_Endless___init__ dc_Endless___init__ pm_Endless___init__ an_Endless___init__ cd_Endless___init__ ct_Endless___init__), sl_Endless___init__⟩)
    (c_Endless___init__ : PySem.W.codeIn K cd_Endless___init__ "Endless.__init__" = true)
    (k_Endless___init__ : PySem.W.keepIn K (.ref f_Endless___init__) = true)
    (a_Endless_shows : PySem.W.findIn K (.ref C_Endless) "shows" = some (some (.ref f_Endless_shows)))
    (i_Endless_shows : PySem.W.isFn K (.ref f_Endless_shows) = true)
    (l_Endless_shows : K.lookup f_Endless_shows = some ⟨oc_Endless_shows, od_Endless_shows, .func (PySem.W.fnOf "shows" "Endless.shows" (defArgs s_Endless_shows) (defBody s_Endless_shows) (defScope s_Endless_shows) .none kV_Endless_shows dc_Endless_shows pm_Endless_shows an_Endless_shows cd_Endless_shows ct_Endless_shows), sl_Endless_shows⟩)
    (c_Endless_shows : PySem.W.codeIn K cd_Endless_shows "Endless.shows" = true)
    (k_Endless_shows : PySem.W.keepIn K (.ref f_Endless_shows) = true)
    (x1 : cd_law = .ref cL)
    (x2 : K.lookup cL = some ⟨eL, ddL, .fields usL, slL⟩)
    (x3 : usL[11]? = some (.ref PL))
    (x4 : PySem.W.codeHdIn K cL PL = true)
    (x5 : K.lookup PL = none) :
    LawT l w K CX0 9 "_law_script" mg fa (sp_law9 K) := by
  have e := hfa.symm.trans (PySem.W.mg_of X G a_law)
  cases e
  subst x1
  have T : Bi mg := ⟨PySem.W.mg_none_of X G z_len, PySem.W.mg_none_of X G z_isinstance, PySem.W.mg_none_of X G z_int, PySem.W.mg_none_of X G z_bool, PySem.W.mg_none_of X G z_list, PySem.W.mg_none_of X G z_all, PySem.W.mg_none_of X G z_any, PySem.W.mg_none_of X G z_zip, PySem.W.mg_none_of X G z_enumerate, PySem.W.mg_none_of X G z_range, PySem.W.mg_none_of X G z_reversed, PySem.W.mg_none_of X G z_set, PySem.W.mg_none_of X G z_sorted, PySem.W.mg_none_of X G z_tuple, PySem.W.mg_none_of X G z_str, PySem.W.mg_none_of X G z_max, PySem.W.mg_none_of X G z_min, PySem.W.mg_none_of X G z_abs, PySem.W.mg_none_of X G z_ValueError⟩
  have d_is_within : Df K mg "is_within" s_is_within ["thing", "many"] := df_mk X G a_is_within l_is_within c_is_within k_is_within fun _ _ _ _ _ _ us hl => match us, hl with | [_, _], _ => rfl
  have d_are_roads : Df K mg "are_roads" s_are_roads ["thing", "many"] := df_mk X G a_are_roads l_are_roads c_are_roads k_are_roads fun _ _ _ _ _ _ us hl => match us, hl with | [_, _], _ => rfl
  have d_check_web : Df K mg "check_web" s_check_web ["web"] := df_mk X G a_check_web l_check_web c_check_web k_check_web fun _ _ _ _ _ _ us hl => match us, hl with | [_], _ => rfl
  have d_check_place : Df K mg "check_place" s_check_place ["web", "place"] := df_mk X G a_check_place l_check_place c_check_place k_check_place fun _ _ _ _ _ _ us hl => match us, hl with | [_, _], _ => rfl
  have d_check_stones : Df K mg "check_stones" s_check_stones ["web", "stones"] := df_mk X G a_check_stones l_check_stones c_check_stones k_check_stones fun _ _ _ _ _ _ us hl => match us, hl with | [_, _], _ => rfl
  have d_least_without : Df K mg "least_without" s_least_without ["some"] := df_mk X G a_least_without l_least_without c_least_without k_least_without fun _ _ _ _ _ _ us hl => match us, hl with | [_], _ => rfl
  have d_numbers_of : Df K mg "numbers_of" s_numbers_of ["web"] := df_mk X G a_numbers_of l_numbers_of c_numbers_of k_numbers_of fun _ _ _ _ _ _ us hl => match us, hl with | [_], _ => rfl
  have d_worths_of : Df K mg "worths_of" s_worths_of ["web"] := df_mk X G a_worths_of l_worths_of c_worths_of k_worths_of fun _ _ _ _ _ _ us hl => match us, hl with | [_], _ => rfl
  have d_worths : Df K mg "worths" s_worths ["web"] := df_mk X G a_worths l_worths c_worths k_worths fun _ _ _ _ _ _ us hl => match us, hl with | [_], _ => rfl
  have d_worth : Df K mg "worth" s_worth ["web", "place"] := df_mk X G a_worth l_worth c_worth k_worth fun _ _ _ _ _ _ us hl => match us, hl with | [_, _], _ => rfl
  have d_word_of : Df K mg "word_of" s_word_of ["told", "stones"] := df_mk X G a_word_of l_word_of c_word_of k_word_of fun _ _ _ _ _ _ us hl => match us, hl with | [_, _], _ => rfl
  have d_behind : Df K mg "behind" s_behind ["web", "stones", "stone", "place"] := df_mk X G a_behind l_behind c_behind k_behind fun _ _ _ _ _ _ us hl => match us, hl with | [_, _, _, _], _ => rfl
  have d_pushes : Df K mg "pushes" s_pushes ["web", "stones"] := df_mk X G a_pushes l_pushes c_pushes k_pushes fun _ _ _ _ _ _ us hl => match us, hl with | [_, _], _ => rfl
  have d_first_to : Df K mg "first_to" s_first_to ["web", "stones", "told", "word"] := df_mk X G a_first_to l_first_to c_first_to k_first_to fun _ _ _ _ _ _ us hl => match us, hl with | [_, _, _, _], _ => rfl
  have d_told : Df K mg "told" s_told ["web", "stones"] := df_mk X G a_told l_told c_told k_told fun _ _ _ _ _ _ us hl => match us, hl with | [_, _], _ => rfl
  have d_ends_of : Df K mg "ends_of" s_ends_of ["web"] := df_mk X G a_ends_of l_ends_of c_ends_of k_ends_of fun _ _ _ _ _ _ us hl => match us, hl with | [_], _ => rfl
  have d_ends : Df K mg "ends" s_ends ["web"] := df_mk X G a_ends l_ends c_ends k_ends fun _ _ _ _ _ _ us hl => match us, hl with | [_], _ => rfl
  have d_end : Df K mg "end" s_end ["web", "place"] := df_mk X G a_end l_end c_end k_end fun _ _ _ _ _ _ us hl => match us, hl with | [_, _], _ => rfl
  have d__law_cell_at : Df K mg "_law_cell_at" s__law_cell_at ["_law_script", "_law_k"] := df_mk X G a__law_cell_at l__law_cell_at c__law_cell_at k__law_cell_at fun _ _ _ _ _ _ us hl => match us, hl with | [_, _], _ => rfl
  have d__law_draw : Df K mg "_law_draw" s__law_draw ["_law_cell", "_law_k", "_law_most"] := df_mk X G a__law_draw l__law_draw c__law_draw k__law_draw fun _ _ _ _ _ _ us hl => match us, hl with | [_, _, _], _ => rfl
  have d__law_number : Df K mg "_law_number" s__law_number ["_law_cell", "_law_k", "_law_limit"] := df_mk X G a__law_number l__law_number c__law_number k__law_number fun _ _ _ _ _ _ us hl => match us, hl with | [_, _, _], _ => rfl
  have d__law_deep : Df K mg "_law_deep" s__law_deep ["_law_thing"] := df_mk X G a__law_deep l__law_deep c__law_deep k__law_deep fun _ _ _ _ _ _ us hl => match us, hl with | [_], _ => rfl
  have d__law_spoilt : Df K mg "_law_spoilt" s__law_spoilt ["_law_found"] := df_mk X G a__law_spoilt l__law_spoilt c__law_spoilt k__law_spoilt fun _ _ _ _ _ _ us hl => match us, hl with | [_], _ => rfl
  have d__law_put : Df K mg "_law_put" s__law_put ["_law_handed", "_law_some"] := df_mk X G a__law_put l__law_put c__law_put k__law_put fun _ _ _ _ _ _ us hl => match us, hl with | [_, _], _ => rfl
  have d__law_door_right : Df K mg "_law_door_right" s__law_door_right ["_law_ask", "_law_lists", "_law_others"] := df_mk X G a__law_door_right l__law_door_right c__law_door_right k__law_door_right fun _ _ _ _ _ _ us hl => match us, hl with | [_, _, _], _ => rfl
  have d__law_two : Df K mg "_law_two" s__law_two ["_law_found"] := df_mk X G a__law_two l__law_two c__law_two k__law_two fun _ _ _ _ _ _ us hl => match us, hl with | [_], _ => rfl
  have d__law_doors_right : Df K mg "_law_doors_right" s__law_doors_right ["_law_asks", "_law_lists", "_law_others"] := df_mk X G a__law_doors_right l__law_doors_right c__law_doors_right k__law_doors_right fun _ _ _ _ _ _ us hl => match us, hl with | [_, _, _], _ => rfl
  have d__law_told : Df K mg "_law_told" s__law_told ["_law_web", "_law_stones"] := df_mk X G a__law_told l__law_told c__law_told k__law_told fun _ _ _ _ _ _ us hl => match us, hl with | [_, _], _ => rfl
  have g_MOST : mg "MOST" = some (.int 60 t_MOST) := e_MOST ▸ PySem.W.mg_of X G a_MOST
  have g_STONES : mg "STONES" = some (.int 20 t_STONES) := e_STONES ▸ PySem.W.mg_of X G a_STONES
  have g_Lost : mg "Lost" = some (.ref C_Lost) := PySem.W.mg_of X G a_Lost
  have i_Lost : InsT K C_Lost := ⟨⟨pg_Lost, hd_Lost, po_Lost, sa_Lost⟩, hc_Lost, sp_cls, tk_cls, mo_Lost⟩
  have g_Won : mg "Won" = some (.ref C_Won) := PySem.W.mg_of X G a_Won
  have i_Won : InsT K C_Won := ⟨⟨pg_Won, hd_Won, po_Won, sa_Won⟩, hc_Won, sp_cls, tk_cls, mo_Won⟩
  have g_Endless : mg "Endless" = some (.ref C_Endless) := PySem.W.mg_of X G a_Endless
  have i_Endless : InsT K C_Endless := ⟨⟨pg_Endless, hd_Endless, po_Endless, sa_Endless⟩, hc_Endless, sp_cls, tk_cls, mo_Endless⟩
  have kl : Kl K mg C_Lost C_Won C_Endless := ⟨g_Lost, g_Won, g_Endless, ⟨mk_Lost, io_Lost, kc_Lost, mo_Lost⟩, i_Lost, i_Won, i_Endless, nstone_Won, nplace_Won, nstone_Endless, nplace_Endless, kit_Lost_Lost, kit_Lost_Won, kit_Lost_Endless, kit_Won_Lost, kit_Won_Won, kit_Won_Endless, kit_Endless_Lost, kit_Endless_Won, kit_Endless_Endless⟩
  have d_Lost_shows : DfM K C_Lost "shows" "Lost.shows" s_Lost_shows ["self", "web", "stones"] := dfm_mk a_Lost_shows l_Lost_shows c_Lost_shows k_Lost_shows i_Lost_shows fun _ _ _ _ _ _ us hl => match us, hl with | [_, _, _], _ => rfl
  have d_Won___init__ : DfM K C_Won "__init__" "Won.__init__" s_Won___init__ ["self", "stone", "place"] := dfm_mk a_Won___init__ l_Won___init__ c_Won___init__ k_Won___init__ i_Won___init__ fun _ _ _ _ _ _ us hl => match us, hl with | [_, _, _], _ => rfl
  have d_Won_shows : DfM K C_Won "shows" "Won.shows" s_Won_shows ["self", "web", "stones"] := dfm_mk a_Won_shows l_Won_shows c_Won_shows k_Won_shows i_Won_shows fun _ _ _ _ _ _ us hl => match us, hl with | [_, _, _], _ => rfl
  have d_Endless___init__ : DfM K C_Endless "__init__" "Endless.__init__" s_Endless___init__ ["self", "stone", "place"] := dfm_mk a_Endless___init__ l_Endless___init__ c_Endless___init__ k_Endless___init__ i_Endless___init__ fun _ _ _ _ _ _ us hl => match us, hl with | [_, _, _], _ => rfl
  have d_Endless_shows : DfM K C_Endless "shows" "Endless.shows" s_Endless_shows ["self", "web", "stones"] := dfm_mk a_Endless_shows l_Endless_shows c_Endless_shows k_Endless_shows i_Endless_shows fun _ _ _ _ _ _ us hl => match us, hl with | [_, _, _], _ => rfl
  refine ⟨PySem.W.fnOf "law" "law" (defArgs s_law) (defBody s_law) (defScope s_law) .none kV_law dc_law pm_law an_law (.ref cL) ct_law, cL, PL, _, eL, ddL, usL, slL, l_law, rfl, rfl, x2, x3, x4, x5, fun s v => .of_eq rfl, fun base _ _ TB => ?_⟩
  have c1 := ok_is_within (P := l.prog) (w := w) (base := base) d_is_within T
  have c2 := ok_are_roads d_are_roads T c1
  have c3 := ok_check_web d_check_web T g_MOST c2
  have c4 := ok_check_stones d_check_stones T g_STONES c1
  have cp := ok_check_place d_check_place T c1
  have c5 := ok_least (P := l.prog) (w := w) (base := base) d_least_without
  have c6 := ok_numbers_of d_numbers_of T c5
  have c7 := ok_worths_of d_worths_of T c6
  have c8 := ok_worths d_worths c3 c7
  have c8b := ok_worth d_worth c3 cp c7
  have c9 := ok_word_of (P := l.prog) (w := w) (base := base) d_word_of T
  have c10 := ok_word_ofT (P := l.prog) (w := w) (base := base) d_word_of T
  have c11 := ok_behind d_behind T c1
  have c12 := ok_pushes (P := l.prog) (w := w) (base := base) d_pushes T
  have c13 := ok_first_to d_first_to T c12 c9
  have c14 := ok_Won_init (P := l.prog) (w := w) (base := base) d_Won___init__ kl mk_Won kc_Won
  have c15 := ok_Endless_init (P := l.prog) (w := w) (base := base) d_Endless___init__ kl mk_Endless kc_Endless
  have c16 := ok_told d_told kl c3 c4 c7 c9 c13 c14 c15
  have S : Shs l.prog w K mg base 4 C_Lost C_Won C_Endless := ⟨ok_Lost_shows d_Lost_shows c7 c9, ok_Won_shows d_Won_shows kl c7 c10 c11, ok_Endless_shows d_Endless_shows kl c7 c9 c10 c11⟩
  have e1 := ok_ends_of (P := l.prog) (w := w) (base := base) d_ends_of T
  have e2 := ok_ends d_ends T c3 e1
  have e3 := ok_end d_end T c3 cp e1
  have l1 := ok_cell_at (P := l.prog) (w := w) (base := base) d__law_cell_at T
  have l2 := ok_draw (P := l.prog) (w := w) (base := base) d__law_draw
  have l3 := ok_number9 d__law_number l2
  have p2 := ok_deep (P := l.prog) (w := w) (base := base) d__law_deep T 2
  have p3 := ok_deep (P := l.prog) (w := w) (base := base) d__law_deep T 3
  have p4 := ok_spoilt (P := l.prog) (w := w) (base := base) d__law_spoilt T 2
  have p5 := ok_put d__law_put T p2
  have p6 := ok_two (P := l.prog) (w := w) (base := base) d__law_two
  have p7 := ok_told9 d__law_told T kl S c16 p2
  have p8 := ok_door d__law_door_right T p3 p4 p5
  have p9 := ok_doors d__law_doors_right T p8
  exact ok_law9 l_law c_law TB T kl S l1 l3 c16 p9 p6 e2 e3 c8 c8b p7
end Sr
open PySem PySem.W PyProof.Rows
set_option maxRecDepth 100000 in
set_option maxHeartbeats 0 in
theorem PySem.Challenge.cw_stonesround_k09_whole_anew_holds : PySem.Challenge.rw_stonesround_k09_whole_anew.Holds := by
  w_on; o_law; k_head; (case hw => w_witness2)
  k_fill
  refine Sr.walkT_of (l := PySem.Challenge.rw_stonesround_k09_whole_anew) (n := 63) (k := 9) (x := "_law_script") (CX := fun _ => L2.CX0) (sp := fun w => Sr.sp_law9 _) rfl (by decide) rfl ⟨rfl, by decide, by decide⟩ (by first | rfl | decide +kernel | kernel_rfl) (fun w h Y => PySem.W.km_in_of Y) ?F (fun _ _ _ a ns hl hP hS => ⟨a, ns, rfl, hS, hl, hP, fun _ => rfl⟩) (fun _ _ _ _ _ h => h)
  case F =>
    intro w mg fa h KX G hmg
    refine' Sr.all_mk KX G hmg ?z_len ?z_isinstance ?z_int ?z_bool ?z_list ?z_all ?z_any ?z_zip ?z_enumerate ?z_range ?z_reversed ?z_set ?z_sorted ?z_tuple ?z_str ?z_max ?z_min ?z_abs ?z_ValueError ?a_is_within ?l_is_within ?c_is_within ?k_is_within ?a_are_roads ?l_are_roads ?c_are_roads ?k_are_roads ?a_check_web ?l_check_web ?c_check_web ?k_check_web ?a_check_place ?l_check_place ?c_check_place ?k_check_place ?a_check_stones ?l_check_stones ?c_check_stones ?k_check_stones ?a_least_without ?l_least_without ?c_least_without ?k_least_without ?a_numbers_of ?l_numbers_of ?c_numbers_of ?k_numbers_of ?a_worths_of ?l_worths_of ?c_worths_of ?k_worths_of ?a_worths ?l_worths ?c_worths ?k_worths ?a_worth ?l_worth ?c_worth ?k_worth ?a_word_of ?l_word_of ?c_word_of ?k_word_of ?a_behind ?l_behind ?c_behind ?k_behind ?a_pushes ?l_pushes ?c_pushes ?k_pushes ?a_first_to ?l_first_to ?c_first_to ?k_first_to ?a_told ?l_told ?c_told ?k_told ?a_ends_of ?l_ends_of ?c_ends_of ?k_ends_of ?a_ends ?l_ends ?c_ends ?k_ends ?a_end ?l_end ?c_end ?k_end ?a__law_cell_at ?l__law_cell_at ?c__law_cell_at ?k__law_cell_at ?a__law_draw ?l__law_draw ?c__law_draw ?k__law_draw ?a__law_number ?l__law_number ?c__law_number ?k__law_number ?a__law_deep ?l__law_deep ?c__law_deep ?k__law_deep ?a__law_spoilt ?l__law_spoilt ?c__law_spoilt ?k__law_spoilt ?a__law_put ?l__law_put ?c__law_put ?k__law_put ?a__law_door_right ?l__law_door_right ?c__law_door_right ?k__law_door_right ?a__law_two ?l__law_two ?c__law_two ?k__law_two ?a__law_doors_right ?l__law_doors_right ?c__law_doors_right ?k__law_doors_right ?a__law_told ?l__law_told ?c__law_told ?k__law_told ?a_law ?l_law ?c_law ?k_law ?a_MOST ?e_MOST ?a_STONES ?e_STONES ?sp_cls ?tk_cls ?a_Lost ?pg_Lost ?hd_Lost ?po_Lost ?sa_Lost ?mk_Lost ?kc_Lost ?hc_Lost ?mo_Lost ?io_Lost ?a_Won ?pg_Won ?hd_Won ?po_Won ?sa_Won ?mk_Won ?kc_Won ?hc_Won ?mo_Won ?nstone_Won ?nplace_Won ?a_Endless ?pg_Endless ?hd_Endless ?po_Endless ?sa_Endless ?mk_Endless ?kc_Endless ?hc_Endless ?mo_Endless ?nstone_Endless ?nplace_Endless ?kit_Lost_Lost ?kit_Lost_Won ?kit_Lost_Endless ?kit_Won_Lost ?kit_Won_Won ?kit_Won_Endless ?kit_Endless_Lost ?kit_Endless_Won ?kit_Endless_Endless ?a_Lost_shows ?i_Lost_shows ?l_Lost_shows ?c_Lost_shows ?k_Lost_shows ?a_Won___init__ ?i_Won___init__ ?l_Won___init__ ?c_Won___init__ ?k_Won___init__ ?a_Won_shows ?i_Won_shows ?l_Won_shows ?c_Won_shows ?k_Won_shows ?a_Endless___init__ ?i_Endless___init__ ?l_Endless___init__ ?c_Endless___init__ ?k_Endless___init__ ?a_Endless_shows ?i_Endless_shows ?l_Endless_shows ?c_Endless_shows ?k_Endless_shows ?x1 ?x2 ?x3 ?x4 ?x5
    (case z_len => k_is)
    (case z_isinstance => k_is)
    (case z_int => k_is)
    (case z_bool => k_is)
    (case z_list => k_is)
    (case z_all => k_is)
    (case z_any => k_is)
    (case z_zip => k_is)
    (case z_enumerate => k_is)
    (case z_range => k_is)
    (case z_reversed => k_is)
    (case z_set => k_is)
    (case z_sorted => k_is)
    (case z_tuple => k_is)
    (case z_str => k_is)
    (case z_max => k_is)
    (case z_min => k_is)
    (case z_abs => k_is)
    (case z_ValueError => k_is)
    (case a_is_within => k_is)
    (case l_is_within => k_is)
    (case c_is_within => k_is)
    (case k_is_within => k_is)
    (case a_are_roads => k_is)
    (case l_are_roads => k_is)
    (case c_are_roads => k_is)
    (case k_are_roads => k_is)
    (case a_check_web => k_is)
    (case l_check_web => k_is)
    (case c_check_web => k_is)
    (case k_check_web => k_is)
    (case a_check_place => k_is)
    (case l_check_place => k_is)
    (case c_check_place => k_is)
    (case k_check_place => k_is)
    (case a_check_stones => k_is)
    (case l_check_stones => k_is)
    (case c_check_stones => k_is)
    (case k_check_stones => k_is)
    (case a_least_without => k_is)
    (case l_least_without => k_is)
    (case c_least_without => k_is)
    (case k_least_without => k_is)
    (case a_numbers_of => k_is)
    (case l_numbers_of => k_is)
    (case c_numbers_of => k_is)
    (case k_numbers_of => k_is)
    (case a_worths_of => k_is)
    (case l_worths_of => k_is)
    (case c_worths_of => k_is)
    (case k_worths_of => k_is)
    (case a_worths => k_is)
    (case l_worths => k_is)
    (case c_worths => k_is)
    (case k_worths => k_is)
    (case a_worth => k_is)
    (case l_worth => k_is)
    (case c_worth => k_is)
    (case k_worth => k_is)
    (case a_word_of => k_is)
    (case l_word_of => k_is)
    (case c_word_of => k_is)
    (case k_word_of => k_is)
    (case a_behind => k_is)
    (case l_behind => k_is)
    (case c_behind => k_is)
    (case k_behind => k_is)
    (case a_pushes => k_is)
    (case l_pushes => k_is)
    (case c_pushes => k_is)
    (case k_pushes => k_is)
    (case a_first_to => k_is)
    (case l_first_to => k_is)
    (case c_first_to => k_is)
    (case k_first_to => k_is)
    (case a_told => k_is)
    (case l_told => k_is)
    (case c_told => k_is)
    (case k_told => k_is)
    (case a_ends_of => k_is)
    (case l_ends_of => k_is)
    (case c_ends_of => k_is)
    (case k_ends_of => k_is)
    (case a_ends => k_is)
    (case l_ends => k_is)
    (case c_ends => k_is)
    (case k_ends => k_is)
    (case a_end => k_is)
    (case l_end => k_is)
    (case c_end => k_is)
    (case k_end => k_is)
    (case a__law_cell_at => k_is)
    (case l__law_cell_at => k_is)
    (case c__law_cell_at => k_is)
    (case k__law_cell_at => k_is)
    (case a__law_draw => k_is)
    (case l__law_draw => k_is)
    (case c__law_draw => k_is)
    (case k__law_draw => k_is)
    (case a__law_number => k_is)
    (case l__law_number => k_is)
    (case c__law_number => k_is)
    (case k__law_number => k_is)
    (case a__law_deep => k_is)
    (case l__law_deep => k_is)
    (case c__law_deep => k_is)
    (case k__law_deep => k_is)
    (case a__law_spoilt => k_is)
    (case l__law_spoilt => k_is)
    (case c__law_spoilt => k_is)
    (case k__law_spoilt => k_is)
    (case a__law_put => k_is)
    (case l__law_put => k_is)
    (case c__law_put => k_is)
    (case k__law_put => k_is)
    (case a__law_door_right => k_is)
    (case l__law_door_right => k_is)
    (case c__law_door_right => k_is)
    (case k__law_door_right => k_is)
    (case a__law_two => k_is)
    (case l__law_two => k_is)
    (case c__law_two => k_is)
    (case k__law_two => k_is)
    (case a__law_doors_right => k_is)
    (case l__law_doors_right => k_is)
    (case c__law_doors_right => k_is)
    (case k__law_doors_right => k_is)
    (case a__law_told => k_is)
    (case l__law_told => k_is)
    (case c__law_told => k_is)
    (case k__law_told => k_is)
    (case a_law => k_is)
    (case l_law => k_is)
    (case c_law => k_is)
    (case k_law => k_is)
    (case a_MOST => k_is)
    (case e_MOST => rfl)
    (case a_STONES => k_is)
    (case e_STONES => rfl)
    (case sp_cls => k_is)
    (case tk_cls => k_is)
    (case a_Lost => k_is)
    (case pg_Lost => k_is)
    (case hd_Lost => k_is)
    (case po_Lost => k_is)
    (case sa_Lost => k_is)
    (case mk_Lost => k_is)
    (case kc_Lost => k_is)
    (case hc_Lost => k_is)
    (case mo_Lost => k_is)
    (case io_Lost => k_is)
    (case a_Won => k_is)
    (case pg_Won => k_is)
    (case hd_Won => k_is)
    (case po_Won => k_is)
    (case sa_Won => k_is)
    (case mk_Won => k_is)
    (case kc_Won => k_is)
    (case hc_Won => k_is)
    (case mo_Won => k_is)
    (case nstone_Won => k_is)
    (case nplace_Won => k_is)
    (case a_Endless => k_is)
    (case pg_Endless => k_is)
    (case hd_Endless => k_is)
    (case po_Endless => k_is)
    (case sa_Endless => k_is)
    (case mk_Endless => k_is)
    (case kc_Endless => k_is)
    (case hc_Endless => k_is)
    (case mo_Endless => k_is)
    (case nstone_Endless => k_is)
    (case nplace_Endless => k_is)
    (case kit_Lost_Lost => first | k_is | k_exc | kernel_rfl)
    (case kit_Lost_Won => first | k_is | k_exc | kernel_rfl)
    (case kit_Lost_Endless => first | k_is | k_exc | kernel_rfl)
    (case kit_Won_Lost => first | k_is | k_exc | kernel_rfl)
    (case kit_Won_Won => first | k_is | k_exc | kernel_rfl)
    (case kit_Won_Endless => first | k_is | k_exc | kernel_rfl)
    (case kit_Endless_Lost => first | k_is | k_exc | kernel_rfl)
    (case kit_Endless_Won => first | k_is | k_exc | kernel_rfl)
    (case kit_Endless_Endless => first | k_is | k_exc | kernel_rfl)
    (case a_Lost_shows => k_is)
    (case i_Lost_shows => k_is)
    (case l_Lost_shows => k_is)
    (case c_Lost_shows => k_is)
    (case k_Lost_shows => k_is)
    (case a_Won___init__ => k_is)
    (case i_Won___init__ => k_is)
    (case l_Won___init__ => k_is)
    (case c_Won___init__ => k_is)
    (case k_Won___init__ => k_is)
    (case a_Won_shows => k_is)
    (case i_Won_shows => k_is)
    (case l_Won_shows => k_is)
    (case c_Won_shows => k_is)
    (case k_Won_shows => k_is)
    (case a_Endless___init__ => k_is)
    (case i_Endless___init__ => k_is)
    (case l_Endless___init__ => k_is)
    (case c_Endless___init__ => k_is)
    (case k_Endless___init__ => k_is)
    (case a_Endless_shows => k_is)
    (case i_Endless_shows => k_is)
    (case l_Endless_shows => k_is)
    (case c_Endless_shows => k_is)
    (case k_Endless_shows => k_is)
    (case x1 => first | rfl | k_is)
    (case x2 => first | k_is | k_exc | kernel_rfl)
    (case x3 => first | rfl | kernel_rfl | k_is)
    (case x4 => first | k_is | k_exc | kernel_rfl)
    (case x5 => first | k_is | k_exc | kernel_rfl)
