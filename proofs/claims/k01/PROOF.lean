import PyProof.Rows.All
import Wide.All
import OpenK.AllK
import Wide.FinOn
import HandS.ForMost
import HandS.Evl
import HandS.Wide
import HandS.Gcd
import HandS.IsInst
import HandS.TupMul
import HandS.TupAny
import HandS.Zip
import HandS.More
import HandS.Ends
import PyProof.ReprRoads
import HandS.Defaults
import HandS.Style
import HandS.Dict
import KE.GoesZip
import KE.GoesMore
import KE.GoesEnum
import PySem.Challenge.RW_slidercuts_k01_fractions_and_rows
set_option Elab.async false
set_option linter.all false
set_option maxRecDepth 100000
set_option maxHeartbeats 4100000
/-! DL: data as it is seen by a proof; slots, own lists and the pen as ghosts; wishes over them -/
namespace DL
open PySem PySem.Spec PyProof.Rows L2
abbrev Fg := PySem.W.Frag
abbrev Ex := Evl.Ex
/-- data -/
inductive DV where
  | non | bl (b : Bool) | int (i : Int) | str (x : Str) | ty (n : String) | adr (a : Addr)
  | tup (xs : List DV) | lst (xs : List DV)
  | ins (C : Addr) (ns : List Str) (vs : List DV)
  | dic (ks : List Key) (vs : List DV)
mutual
inductive Rp (K : Fg) (M : Hp) : V → DV → Prop
  | non : Rp K M .non .non
  | bl (b : Bool) : Rp K M (.bl b) (.bl b)
  | int (i : Int) : Rp K M (.int i) (.int i)
  | str (x : Str) : Rp K M (.str x) (.str x)
  | ty (x : String) : Rp K M (.ty x) (.ty x)
  | adr (a : Addr) : Rp K M (.ref a) (.adr a)
  | tup {a : Addr} {vs : List V} {ds : List DV} : SqT K M a vs → RpL K M vs ds → Rp K M (.ref a) (.tup ds)
  | lst {a : Addr} {vs : List V} {ds : List DV} : M a = some (.lst vs) → RpL K M vs ds → Rp K M (.ref a) (.lst ds)
  | ins {a C dx : Addr} {fs : List (Str × V)} {ns : List Str} {ds : List DV} : M a = some (.ins C dx fs) → fs.map (·.1) = ns → RpL K M (fs.map (·.2)) ds → Rp K M (.ref a) (.ins C ns ds)
  | dic {a : Addr} {kvs : List (Key × V)} {ks : List Key} {ds : List DV} : M a = some (.dK kvs) → kvs.map (·.1) = ks → RpL K M (kvs.map (·.2)) ds → Rp K M (.ref a) (.dic ks ds)
inductive RpL (K : Fg) (M : Hp) : List V → List DV → Prop
  | nil : RpL K M [] []
  | cons {v : V} {vs : List V} {d : DV} {ds : List DV} : Rp K M v d → RpL K M vs ds → RpL K M (v :: vs) (d :: ds)
end
section
variable {K : Fg} {M M' : Hp}
mutual
theorem Rp.mono (e : Ex M M') : ∀ {d : DV} {v : V}, Rp K M v d → Rp K M' v d
  | .non, _, h => by cases h; exact .non
  | .bl b, _, h => by cases h; exact .bl b
  | .int i, _, h => by cases h; exact .int i
  | .str i, _, h => by cases h; exact .str i
  | .ty i, _, h => by cases h; exact .ty i
  | .adr i, _, h => by cases h; exact .adr i
  | .tup ds, _, h => by
    cases h with
    | tup a b => exact .tup (Evl.ex_t e a) (RpL.mono e b)
  | .lst ds, _, h => by
    cases h with
    | lst a b => exact .lst (e _ _ a) (RpL.mono e b)
  | .ins C ns ds, _, h => by
    cases h with
    | ins a b c => exact .ins (e _ _ a) b (RpL.mono e c)
  | .dic ks ds, _, h => by
    cases h with
    | dic a b c => exact .dic (e _ _ a) b (RpL.mono e c)
theorem RpL.mono (e : Ex M M') : ∀ {ds : List DV} {vs : List V}, RpL K M vs ds → RpL K M' vs ds
  | [], _, h => by cases h; exact .nil
  | d :: ds, _, h => by
    cases h with
    | cons a b => exact .cons (Rp.mono e a) (RpL.mono e b)
end
theorem RpL.length : ∀ {ds : List DV} {vs : List V}, RpL K M vs ds → vs.length = ds.length
  | [], _, h => by cases h; rfl
  | d :: ds, _, h => by
    cases h with
    | cons a b => simp [RpL.length b]
theorem RpL.get : ∀ {ds : List DV} {vs : List V} {i : Nat} {v : V}, RpL K M vs ds → vs[i]? = some v → ∃ d, ds[i]? = some d ∧ Rp K M v d
  | [], _, _, _, h, e => by cases h; simp at e
  | d :: ds, _, 0, v, h, e => by
    cases h with
    | cons a b => simp at e; subst e; exact ⟨d, rfl, a⟩
  | d :: ds, _, i + 1, v, h, e => by
    cases h with
    | cons a b => simpa using RpL.get b (by simpa using e)
theorem RpL.get' : ∀ {ds : List DV} {vs : List V} {i : Nat} {d : DV}, RpL K M vs ds → ds[i]? = some d → ∃ v, vs[i]? = some v ∧ Rp K M v d
  | [], _, _, _, h, e => by simp at e
  | d :: ds, _, 0, _, h, e => by
    cases h with
    | cons a b => simp at e; subst e; exact ⟨_, rfl, a⟩
  | d :: ds, _, i + 1, v, h, e => by
    cases h with
    | cons a b => simpa using RpL.get' b (by simpa using e)
theorem RpL.append : ∀ {ds es : List DV} {vs ws : List V}, RpL K M vs ds → RpL K M ws es → RpL K M (vs ++ ws) (ds ++ es)
  | [], _, _, _, h, h2 => by cases h; exact h2
  | d :: ds, _, _, _, h, h2 => by
    cases h with
    | cons a b => exact .cons a (RpL.append b h2)
theorem RpL.set {d : DV} {v : V} (r : Rp K M v d) : ∀ {ds : List DV} {vs : List V} (i : Nat), RpL K M vs ds → RpL K M (vs.set i v) (ds.set i d)
  | [], _, _, h => by cases h; exact .nil
  | _ :: _, _, 0, h => by
    cases h with
    | cons a b => exact .cons r b
  | _ :: _, _, i + 1, h => by
    cases h with
    | cons a b => exact .cons a (RpL.set r i b)
theorem RpL.drop : ∀ {ds : List DV} {vs : List V} (i : Nat), RpL K M vs ds → RpL K M (vs.drop i) (ds.drop i)
  | _, _, 0, h => h
  | [], _, _ + 1, h => by cases h; exact .nil
  | _ :: _, _, i + 1, h => by
    cases h with
    | cons a b => exact RpL.drop i b
theorem RpL.take : ∀ {ds : List DV} {vs : List V} (i : Nat), RpL K M vs ds → RpL K M (vs.take i) (ds.take i)
  | _, _, 0, h => by simpa using RpL.nil
  | [], _, _ + 1, h => by cases h; exact .nil
  | _ :: _, _, i + 1, h => by
    cases h with
    | cons a b => exact .cons a (RpL.take i b)
theorem RpL.ints : ∀ {ns : List Int} {vs : List V}, RpL K M vs (ns.map DV.int) → vs = ns.map V.int
  | [], _, h => by cases h; rfl
  | n :: ns, _, h => by
    cases h with
    | cons a b => cases a; rw [RpL.ints b]; rfl
theorem RpL.bools : ∀ {ns : List Bool} {vs : List V}, RpL K M vs (ns.map DV.bl) → vs = ns.map V.bl
  | [], _, h => by cases h; rfl
  | n :: ns, _, h => by
    cases h with
    | cons a b => cases a; rw [RpL.bools b]; rfl
theorem RpL.of_ints : ∀ (ns : List Int), RpL K M (ns.map V.int) (ns.map DV.int)
  | [] => .nil
  | n :: ns => .cons (.int n) (RpL.of_ints ns)
theorem Rp.lst' {v : V} {ds : List DV} (h : Rp K M v (.lst ds)) : ∃ a vs, v = .ref a ∧ M a = some (.lst vs) ∧ RpL K M vs ds := by
  cases h with
  | lst a b => exact ⟨_, _, rfl, a, b⟩
theorem Rp.tup' {v : V} {ds : List DV} (h : Rp K M v (.tup ds)) : ∃ a vs, v = .ref a ∧ SqT K M a vs ∧ RpL K M vs ds := by
  cases h with
  | tup a b => exact ⟨_, _, rfl, a, b⟩
theorem Rp.int' {v : V} {i : Int} (h : Rp K M v (.int i)) : v = .int i := by cases h; rfl
theorem Rp.bl' {v : V} {i : Bool} (h : Rp K M v (.bl i)) : v = .bl i := by cases h; rfl
theorem Rp.str' {v : V} {i : Str} (h : Rp K M v (.str i)) : v = .str i := by cases h; rfl
end
/-- what a slot is known to hold: nothing, data, the j-th own list, the pen -/
inductive SA where
  | no | is (d : DV) | own (j : Nat) | pen
def SlotOk (K : Fg) (pn : Option Addr) (As : List Addr) (M : Hp) : SA → Option V → Prop
  | .no, _ => True
  | .is d, o => ∃ v, o = some v ∧ Rp K M v d
  | .own j, o => ∃ a, As[j]? = some a ∧ o = some (.ref a)
  | .pen, o => ∃ p, pn = some p ∧ o = some (.ref p)
/-- the pen: the cells, the next index (at most n), what is left -/
def PenAt (K : Fg) (M H : Hp) (p : Addr) (n : Nat) : Prop := ∃ (vs : List V) (cells : List Int) (at_ left : Int), H p = some (.lst vs) ∧ RpL K M vs [.lst (cells.map DV.int), .int at_, .int left] ∧ cells.length ≤ 63 ∧ 0 ≤ at_ ∧ at_ ≤ n ∧ 0 ≤ left
theorem PenAt.mono {K : Fg} {M M' H H' : Hp} {p : Addr} {n m : Nat} (h : PenAt K M H p n) (e : Ex M M') (hp : H' p = H p) (hn : n ≤ m) : PenAt K M' H' p m := by
  obtain ⟨vs, cells, a, l, h1, h2, h3, h4, h5, h6⟩ := h
  exact ⟨vs, cells, a, l, hp.trans h1, h2.mono e, h3, h4, by omega, h6⟩
/-- what stood at the entry; what is not to be frozen -/
structure Ent where
  h : Hp
  P : Addr → Prop
instance : CoeFun Ent (fun _ => Hp) := ⟨Ent.h⟩
/-- what a def owes its caller -/
structure Fin (K : Fg) (pn : Option Addr) (H0 : Ent) (M H : Hp) (n : Nat) : Prop where
  ex : Ex M H
  kp : ∀ a o, some a ≠ pn → H0 a = some o → H a = some o
  pen : ∀ p, pn = some p → M p = none ∧ PenAt K M H p n
abbrev Own := List (Option (List DV))
structure Sta (K : Fg) (pn : Option Addr) (As : List Addr) (H0 : Ent) (M H : Hp) (σ : L2.St) (Γ : List SA) (O : Own) (n : Nat) : Prop extends Fin K pn H0 M H n where
  own : ∀ (j : Nat) (a : Addr) (ds : List DV), As[j]? = some a → O[j]? = some (some ds) → M a = none ∧ H0 a = none ∧ some a ≠ pn ∧ ∃ vs, H a = some (.lst vs) ∧ RpL K M vs ds
  live : ∀ a, a ∈ As → H a ≠ none
  pr : ∀ a, H0.P a → M a = none ∧ H a ≠ none ∧ H0 a ≠ none
  nd : As.Nodup
  len : As.length = O.length
  sl : σ.length = Γ.length
  ok : ∀ (i : Nat) (t : SA), Γ[i]? = some t → SlotOk K pn As M t (σ[i]?.join)
section
variable {K : Fg} {pn : Option Addr} {As : List Addr} {H0 : Ent} {M M' H H' : Hp} {σ : L2.St} {Γ : List SA} {O : Own} {n m : Nat}
theorem SlotOk.mono {t : SA} {o : Option V} (e : Ex M M') (h : SlotOk K pn As M t o) : SlotOk K pn As M' t o := by
  cases t with
  | no => exact True.intro
  | is d => obtain ⟨v, h1, h2⟩ := h; exact ⟨v, h1, h2.mono e⟩
  | own j => exact h
  | pen => exact h
theorem upd_live {a p : Addr} {o : HO} (h : H a ≠ none) : upd H p o a ≠ none := by
  by_cases e : a = p
  · subst e; rw [upd_same]; exact fun z => by cases z
  · rw [upd_ne e]; exact h
theorem upd_live' {p : Addr} {o : HO} : upd H p o p ≠ none := by rw [upd_same]; exact fun z => by cases z
/-- a new object, frozen at once -/
theorem Sta.alloc (S : Sta K pn As H0 M H σ Γ O n) {p : Addr} {o : HO} (hp : H p = none) : Ex M (upd M p o) ∧ Sta K pn As H0 (upd M p o) (upd H p o) σ Γ O n := by
  have hM : M p = none := Evl.fresh_back S.ex hp
  have e : Ex M (upd M p o) := Evl.Ex.new hM
  refine ⟨e, ⟨⟨fun a u h => ?_, fun a u h1 h2 => ?_, fun q hq => ?_⟩, fun j a ds h1 h2 => ?_, fun a h => ?_, fun a h => ?_, S.nd, S.len, S.sl, fun i t h => (S.ok i t h).mono e⟩⟩
  · by_cases h1 : a = p
    · subst h1; rw [upd_same] at h ⊢; exact h
    · rw [upd_ne h1] at h ⊢; exact S.ex a u h
  · have h3 := S.kp a u h1 h2
    rw [upd_ne (ne_of_none h3 hp)]; exact h3
  · obtain ⟨h1, h2⟩ := S.pen q hq
    have hne : q ≠ p := by
      obtain ⟨_, _, _, _, h3, _⟩ := h2
      exact ne_of_none h3 hp
    exact ⟨by rw [upd_ne hne]; exact h1, h2.mono e (by rw [upd_ne hne]) (Nat.le_refl _)⟩
  · obtain ⟨h3, h4, h5, vs, h6, h7⟩ := S.own j a ds h1 h2
    have hne : a ≠ p := ne_of_none h6 hp
    exact ⟨by rw [upd_ne hne]; exact h3, h4, h5, vs, by rw [upd_ne hne]; exact h6, h7.mono e⟩
  · exact upd_live (S.live a h)
  · obtain ⟨h1, h2, h3⟩ := S.pr a h
    exact ⟨by rw [upd_ne (show a ≠ p from fun z => h2 (by rw [z]; exact hp))]; exact h1, upd_live h2, h3⟩
/-- a new object, not frozen -/
theorem Sta.lay (S : Sta K pn As H0 M H σ Γ O n) {p : Addr} {o : HO} (hp : H p = none) : Sta K pn As H0 M (upd H p o) σ Γ O n := by
  refine ⟨⟨fun a u h => ?_, fun a u h1 h2 => ?_, fun q hq => ?_⟩, fun j a ds h1 h2 => ?_, fun a h => upd_live (S.live a h), fun a h => ⟨(S.pr a h).1, upd_live (S.pr a h).2.1, (S.pr a h).2.2⟩, S.nd, S.len, S.sl, S.ok⟩
  · have h3 := S.ex a u h
    rw [upd_ne (ne_of_none h3 hp)]; exact h3
  · have h3 := S.kp a u h1 h2
    rw [upd_ne (ne_of_none h3 hp)]; exact h3
  · obtain ⟨h1, h2⟩ := S.pen q hq
    have hne : q ≠ p := by
      obtain ⟨_, _, _, _, h3, _⟩ := h2
      exact ne_of_none h3 hp
    exact ⟨h1, h2.mono (Evl.Ex.refl _) (by rw [upd_ne hne]) (Nat.le_refl _)⟩
  · obtain ⟨h3, h4, h5, vs, h6, h7⟩ := S.own j a ds h1 h2
    have hne : a ≠ p := ne_of_none h6 hp
    exact ⟨h3, h4, h5, vs, by rw [upd_ne hne]; exact h6, h7⟩
end
end DL
namespace DL
open PySem PySem.Spec PyProof.Rows L2
/-! wishes over data -/
section defs
variable (K : Fg)
def W (te : TE) (Γ : List SA) (O : Own) (n : Nat) (k : DV → Nat → Prop) : Prop :=
  ∀ (pn : Option Addr) (As : List Addr) (H0 : Ent) (M H : Hp) (σ : L2.St), Sta K pn As H0 M H σ Γ O n → ∀ Q : VK,
    (∀ v M' H' d n', Ex M M' → Sta K pn As H0 M' H' σ Γ O n' → Rp K M' v d → k d n' → Q v H') → te σ H Q
/-- a new list, nobody else's -/
def WL (te : TE) (Γ : List SA) (O : Own) (n : Nat) (k : List DV → Nat → Prop) : Prop :=
  ∀ (pn : Option Addr) (As : List Addr) (H0 : Ent) (M H : Hp) (σ : L2.St), Sta K pn As H0 M H σ Γ O n → ∀ Q : VK,
    (∀ p vs M' H' ds n', Ex M M' → Sta K pn As H0 M' H' σ Γ O n' → M' p = none → H0 p = none → some p ≠ pn → p ∉ As → ¬ H0.P p → H' p = some (.lst vs) → RpL K M' vs ds → k ds n' → Q (.ref p) H') → te σ H Q
def WT (tt : TT) (Γ : List SA) (O : Own) (n : Nat) (k : Bool → Nat → Prop) : Prop :=
  ∀ (pn : Option Addr) (As : List Addr) (H0 : Ent) (M H : Hp) (σ : L2.St), Sta K pn As H0 M H σ Γ O n → ∀ Q : Bool → Hp → Prop,
    (∀ b M' H' n', Ex M M' → Sta K pn As H0 M' H' σ Γ O n' → k b n' → Q b H') → tt σ H Q
def WA (ta : TA) (Γ : List SA) (O : Own) (n : Nat) (k : List DV → Nat → Prop) : Prop :=
  ∀ (pn : Option Addr) (As : List Addr) (H0 : Ent) (M H : Hp) (σ : L2.St), Sta K pn As H0 M H σ Γ O n → ∀ Q : List V → Hp → Prop,
    (∀ vs M' H' ds n', Ex M M' → Sta K pn As H0 M' H' σ Γ O n' → RpL K M' vs ds → k ds n' → Q vs H') → ta σ H Q
def WO (to : TO) (Γ : List SA) (O : Own) (n : Nat) (k : Option Int → Nat → Prop) : Prop :=
  ∀ (pn : Option Addr) (As : List Addr) (H0 : Ent) (M H : Hp) (σ : L2.St), Sta K pn As H0 M H σ Γ O n → ∀ Q : Option Int → Hp → Prop,
    (∀ o M' H' n', Ex M M' → Sta K pn As H0 M' H' σ Γ O n' → k o n' → Q o H') → to σ H Q
/-- an operation on two data -/
def OW (r : R2) (x y : DV) (k : DV → Prop) : Prop :=
  ∀ (pn : Option Addr) (As : List Addr) (H0 : Ent) (M H : Hp) (σ : L2.St) (Γ : List SA) (O : Own) (n : Nat), Sta K pn As H0 M H σ Γ O n → ∀ v w, Rp K M v x → Rp K M w y → ∀ Q : VK,
    (∀ u M' H' d, Ex M M' → Sta K pn As H0 M' H' σ Γ O n → Rp K M' u d → k d → Q u H') → r v w H Q
def OWL (r : R2) (x y : DV) (k : List DV → Prop) : Prop :=
  ∀ (pn : Option Addr) (As : List Addr) (H0 : Ent) (M H : Hp) (σ : L2.St) (Γ : List SA) (O : Own) (n : Nat), Sta K pn As H0 M H σ Γ O n → ∀ v w, Rp K M v x → Rp K M w y → ∀ Q : VK,
    (∀ p vs M' H' ds, Ex M M' → Sta K pn As H0 M' H' σ Γ O n → M' p = none → H0 p = none → some p ≠ pn → p ∉ As → ¬ H0.P p → H' p = some (.lst vs) → RpL K M' vs ds → k ds → Q (.ref p) H') → r v w H Q
def UW (r : V → Hp → VK → Prop) (x : DV) (k : DV → Prop) : Prop :=
  ∀ (M H : Hp) v, Ex M H → Rp K M v x → ∀ Q : VK, (∀ u d, Rp K M u d → k d → Q u H) → r v H Q
def CW (r : List V → Hp → VK → Prop) (xs : List DV) (k : DV → Prop) : Prop :=
  ∀ (pn : Option Addr) (As : List Addr) (H0 : Ent) (M H : Hp) (σ : L2.St) (Γ : List SA) (O : Own) (n : Nat), Sta K pn As H0 M H σ Γ O n → ∀ vs, RpL K M vs xs → ∀ Q : VK,
    (∀ u M' H' d, Ex M M' → Sta K pn As H0 M' H' σ Γ O n → Rp K M' u d → k d → Q u H') → r vs H Q
def CWL (r : List V → Hp → VK → Prop) (xs : List DV) (k : List DV → Prop) : Prop :=
  ∀ (pn : Option Addr) (As : List Addr) (H0 : Ent) (M H : Hp) (σ : L2.St) (Γ : List SA) (O : Own) (n : Nat), Sta K pn As H0 M H σ Γ O n → ∀ us, RpL K M us xs → ∀ Q : VK,
    (∀ p vs M' H' ds, Ex M M' → Sta K pn As H0 M' H' σ Γ O n → M' p = none → H0 p = none → some p ≠ pn → p ∉ As → ¬ H0.P p → H' p = some (.lst vs) → RpL K M' vs ds → k ds → Q (.ref p) H') → r us H Q
/-- a slice -/
def LW (r : V → Option Int → Option Int → Hp → VK → Prop) (x : DV) (lo hi : Option Int) (k : DV → Prop) : Prop :=
  ∀ (pn : Option Addr) (As : List Addr) (H0 : Ent) (M H : Hp) (σ : L2.St) (Γ : List SA) (O : Own) (n : Nat), Sta K pn As H0 M H σ Γ O n → ∀ v, Rp K M v x → ∀ Q : VK,
    (∀ u M' H' d, Ex M M' → Sta K pn As H0 M' H' σ Γ O n → Rp K M' u d → k d → Q u H') → r v lo hi H Q
/-- what is walked -/
def IterOk (J : It) (xs : List DV) (M0 : Hp) : Prop :=
  ∀ (pn : Option Addr) (As : List Addr) (H0 : Ent) (M H : Hp) (σ : L2.St) (Γ : List SA) (O : Own) (n : Nat), Ex M0 M → Sta K pn As H0 M H σ Γ O n → ∀ i : Nat,
    (∀ d, xs[i]? = some d → J.go i H ∧ ∀ x H', J.yld i H x H' → ∃ M', Ex M M' ∧ Sta K pn As H0 M' H' σ Γ O n ∧ Rp K M' x d) ∧ (xs.length ≤ i → J.stop i H)
def SW (wi : TI) (Γ : List SA) (O : Own) (n : Nat) (k : List DV → Nat → Prop) : Prop :=
  ∀ (pn : Option Addr) (As : List Addr) (H0 : Ent) (M H : Hp) (σ : L2.St), Sta K pn As H0 M H σ Γ O n → ∀ R : It → Hp → Prop,
    (∀ J M' H' xs n', Ex M M' → Sta K pn As H0 M' H' σ Γ O n' → IterOk K J xs M' → k xs n' → R J H') → wi σ H R
/-- a target; it stores slots of vs alone -/
def GW (g : TG) (vs : List Nat) (x : DV) (Γ : List SA) (k : List SA → Prop) : Prop :=
  ∀ (pn : Option Addr) (As : List Addr) (H0 : Ent) (M H : Hp) (σ : L2.St) (O : Own) (n : Nat), Sta K pn As H0 M H σ Γ O n → ∀ v, Rp K M v x → ∀ Q : L2.St → Hp → Prop,
    (∀ σ' Γ', Sta K pn As H0 M H σ' Γ' O n → wipe σ' vs = wipe σ vs → k Γ' → Q σ' H) → g v σ H Q
structure KE where
  nx : List SA → Own → Nat → Prop
  rt : DV → Own → Nat → Prop
  bk : List SA → Own → Nat → Prop := fun _ _ _ => False
  ct : List SA → Own → Nat → Prop := fun _ _ _ => False
/-- how a body's ends serve -/
structure Serves (pn : Option Addr) (As : List Addr) (H0 : Ent) (M : Hp) (E : KE) (D : Ends) : Prop where
  nx : ∀ As' M' H' σ Γ O n, As <+: As' → Ex M M' → Sta K pn As' H0 M' H' σ Γ O n → E.nx Γ O n → D.nx σ H'
  rt : ∀ As' v M' H' σ Γ O d n, As <+: As' → Ex M M' → Sta K pn As' H0 M' H' σ Γ O n → Rp K M' v d → E.rt d O n → D.rt v H'
  bk : ∀ As' M' H' σ Γ O n, As <+: As' → Ex M M' → Sta K pn As' H0 M' H' σ Γ O n → E.bk Γ O n → D.bk σ H'
  ct : ∀ As' M' H' σ Γ O n, As <+: As' → Ex M M' → Sta K pn As' H0 M' H' σ Γ O n → E.ct Γ O n → D.ct σ H'
def WS (ts : TS) (Γ : List SA) (O : Own) (n : Nat) (E : KE) : Prop :=
  ∀ (pn : Option Addr) (As : List Addr) (H0 : Ent) (M H : Hp) (σ : L2.St) (D : Ends), Sta K pn As H0 M H σ Γ O n → Serves K pn As H0 M E D → ts D σ H
end defs
section
variable {K : Fg} {pn : Option Addr} {As : List Addr} {H0 : Ent} {M M' H H' : Hp} {σ : L2.St} {Γ : List SA} {O : Own} {n m : Nat} {te ta tb : TE} {x y : DV}
theorem Serves.at {As' : List Addr} {E : KE} {D : Ends} (s : Serves K pn As H0 M E D) (p : As <+: As') (e : Ex M M') : Serves K pn As' H0 M' E D :=
  ⟨fun A2 M2 H' σ Γ O n q h => s.nx A2 M2 H' σ Γ O n (p.trans q) (Evl.Ex.trans e h), fun A2 v M2 H' σ Γ O d n q h => s.rt A2 v M2 H' σ Γ O d n (p.trans q) (Evl.Ex.trans e h), fun A2 M2 H' σ Γ O n q h => s.bk A2 M2 H' σ Γ O n (p.trans q) (Evl.Ex.trans e h), fun A2 M2 H' σ Γ O n q h => s.ct A2 M2 H' σ Γ O n (p.trans q) (Evl.Ex.trans e h)⟩
theorem Serves.on {E : KE} {D : Ends} (s : Serves K pn As H0 M E D) (e : Ex M M') : Serves K pn As H0 M' E D := s.at (List.prefix_refl _) e
theorem Sta.slot (S : Sta K pn As H0 M H σ Γ O n) {i : Nat} {d : DV} (h : Γ[i]? = some (.is d)) : ∃ v, σ[i]? = some (some v) ∧ Rp K M v d := by
  obtain ⟨v, h1, h2⟩ := S.ok i _ h
  refine ⟨v, ?_, h2⟩
  cases e : σ[i]? with
  | none => rw [e] at h1; cases h1
  | some o => rw [e] at h1; exact congrArg some h1
theorem Sta.slotOwn (S : Sta K pn As H0 M H σ Γ O n) {i j : Nat} {ds : List DV} (h : Γ[i]? = some (.own j)) (ho : O[j]? = some (some ds)) :
    ∃ a vs, σ[i]? = some (some (.ref a)) ∧ As[j]? = some a ∧ H a = some (.lst vs) ∧ RpL K M vs ds ∧ M a = none ∧ H0 a = none ∧ some a ≠ pn := by
  obtain ⟨a, h1, h2⟩ := S.ok i _ h
  obtain ⟨h3, h4, h5, vs, h6, h7⟩ := S.own j a ds h1 ho
  refine ⟨a, vs, ?_, h1, h6, h7, h3, h4, h5⟩
  cases e : σ[i]? with
  | none => rw [e] at h2; cases h2
  | some o => rw [e] at h2; exact congrArg some h2
theorem Sta.slotPen (S : Sta K pn As H0 M H σ Γ O n) {i : Nat} (h : Γ[i]? = some .pen) : ∃ p, σ[i]? = some (some (.ref p)) ∧ pn = some p := by
  obtain ⟨p, h1, h2⟩ := S.ok i _ h
  refine ⟨p, ?_, h1⟩
  cases e : σ[i]? with
  | none => rw [e] at h2; cases h2
  | some o => rw [e] at h2; exact congrArg some h2
/-- a slot is stored -/
theorem Sta.store (S : Sta K pn As H0 M H σ Γ O n) {i : Nat} {v : V} {d : DV} (r : Rp K M v d) : Sta K pn As H0 M H (σ.set i (some v)) (Γ.set i (.is d)) O n := by
  refine ⟨S.toFin, S.own, S.live, S.pr, S.nd, S.len, by simpa using S.sl, fun j t h => ?_⟩
  by_cases hj : i = j
  · subst hj
    have hi : i < Γ.length := by
      have := (List.getElem?_eq_some_iff.mp h).1
      simpa using this
    rw [List.getElem?_set_self hi] at h
    cases h
    rw [List.getElem?_set_self (by rw [S.sl]; exact hi)]
    exact ⟨v, rfl, r⟩
  · rw [List.getElem?_set_ne hj] at h ⊢
    exact S.ok j t h
/-! ### expressions -/
theorem w_var {i : Nat} {d : DV} {k : DV → Nat → Prop} (h : Γ[i]? = some (.is d)) (q : k d n) : W K (tVar i) Γ O n k := fun pn As H0 M H σ S Q c => by
  obtain ⟨v, h1, h2⟩ := S.slot h
  exact ⟨v, h1, c v M H d n (Evl.Ex.refl M) S h2 q⟩
theorem w_cv {v : V} {d : DV} {k : DV → Nat → Prop} (h : ∀ M, Rp K M v d) (q : k d n) : W K (tC v) Γ O n k := fun pn As H0 M H σ S Q c => c v M H d n (Evl.Ex.refl M) S (h M) q
theorem w_int {i : Int} {k : DV → Nat → Prop} (q : k (.int i) n) : W K (tC (.int i)) Γ O n k := w_cv (fun _ => .int i) q
theorem w_bl {i : Bool} {k : DV → Nat → Prop} (q : k (.bl i) n) : W K (tC (.bl i)) Γ O n k := w_cv (fun _ => .bl i) q
theorem w_str {i : Str} {k : DV → Nat → Prop} (q : k (.str i) n) : W K (tC (.str i)) Γ O n k := w_cv (fun _ => .str i) q
theorem w_non {k : DV → Nat → Prop} (q : k .non n) : W K (tC .non) Γ O n k := w_cv (fun _ => .non) q
theorem w_ty {i : String} {k : DV → Nat → Prop} (q : k (.ty i) n) : W K (tC (.ty i)) Γ O n k := w_cv (fun _ => .ty i) q
theorem w_adr {i : Addr} {k : DV → Nat → Prop} (q : k (.adr i) n) : W K (tC (.ref i)) Γ O n k := w_cv (fun _ => .adr i) q
theorem w_op {r : R2} {k : DV → Nat → Prop} (h : W K ta Γ O n fun x n1 => W K tb Γ O n1 fun y n2 => OW K r x y fun z => k z n2) : W K (tOp r ta tb) Γ O n k := fun pn As H0 M H σ S Q c =>
  h pn As H0 M H σ S _ fun v M1 H1 x n1 e1 S1 r1 q1 => q1 pn As H0 M1 H1 σ S1 _ fun w M2 H2 y n2 e2 S2 r2 q2 => q2 pn As H0 M2 H2 σ Γ O n2 S2 v w (r1.mono e2) r2 Q fun u M3 H3 d e3 S3 r3 q3 =>
    c u M3 H3 d n2 (Evl.Ex.trans (Evl.Ex.trans e1 e2) e3) S3 r3 q3
theorem wl_op {r : R2} {k : List DV → Nat → Prop} (h : W K ta Γ O n fun x n1 => W K tb Γ O n1 fun y n2 => OWL K r x y fun z => k z n2) : WL K (tOp r ta tb) Γ O n k := fun pn As H0 M H σ S Q c =>
  h pn As H0 M H σ S _ fun v M1 H1 x n1 e1 S1 r1 q1 => q1 pn As H0 M1 H1 σ S1 _ fun w M2 H2 y n2 e2 S2 r2 q2 => q2 pn As H0 M2 H2 σ Γ O n2 S2 v w (r1.mono e2) r2 Q fun p vs M3 H3 ds e3 S3 =>
    c p vs M3 H3 ds n2 (Evl.Ex.trans (Evl.Ex.trans e1 e2) e3) S3
theorem w_un {r : V → Hp → VK → Prop} {k : DV → Nat → Prop} (h : W K ta Γ O n fun x n1 => UW K r x fun z => k z n1) : W K (tUn r ta) Γ O n k := fun pn As H0 M H σ S Q c =>
  h pn As H0 M H σ S _ fun v M1 H1 x n1 e1 S1 r1 q1 => q1 M1 H1 v S1.ex r1 Q fun u d r2 q2 => c u M1 H1 d n1 e1 S1 r2 q2
/-- a new list is kept for good -/
theorem w_of_wl {k : DV → Nat → Prop} (h : WL K te Γ O n fun ds n1 => k (.lst ds) n1) : W K te Γ O n k := fun pn As H0 M H σ S Q c =>
  h pn As H0 M H σ S Q fun p vs M1 H1 ds n1 e1 S1 h1 h2 h3 h4 hP h5 h6 h7 => by
    have ex : Ex M1 (upd M1 p (.lst vs)) := Evl.Ex.new h1
    refine c (.ref p) (upd M1 p (.lst vs)) H1 (.lst ds) n1 (Evl.Ex.trans e1 ex) ⟨⟨fun a u h => ?_, S1.kp, fun q hq => ?_⟩, fun j a es g1 g2 => ?_, S1.live, fun a h => ?_, S1.nd, S1.len, S1.sl, fun i t h => (S1.ok i t h).mono ex⟩ (.lst upd_same (h6.mono ex)) h7
    · by_cases ha : a = p
      · subst ha; rw [upd_same] at h; rw [← h]; exact h5
      · rw [upd_ne ha] at h; exact S1.ex a u h
    · obtain ⟨g1, g2⟩ := S1.pen q hq
      exact ⟨by rw [upd_ne (fun z => h3 (by rw [← z, hq]))]; exact g1, g2.mono ex rfl (Nat.le_refl _)⟩
    · obtain ⟨g3, g4, g5, ws, g6, g7⟩ := S1.own j a es g1 g2
      exact ⟨by rw [upd_ne (fun z => h4 (by rw [← z]; exact List.mem_of_getElem? g1))]; exact g3, g4, g5, ws, g6, g7.mono ex⟩
    · exact ⟨by rw [upd_ne (show a ≠ p from fun z => hP (by rw [← z]; exact h))]; exact (S1.pr a h).1, (S1.pr a h).2⟩
theorem wa_nil {k : List DV → Nat → Prop} (q : k [] n) : WA K tNil Γ O n k := fun pn As H0 M H σ S Q c => c [] M H [] n (Evl.Ex.refl M) S .nil q
theorem wa_cons {tr : TA} {k : List DV → Nat → Prop} (h : W K te Γ O n fun x n1 => WA K tr Γ O n1 fun xs n2 => k (x :: xs) n2) : WA K (tCons te tr) Γ O n k := fun pn As H0 M H σ S Q c =>
  h pn As H0 M H σ S _ fun v M1 H1 x n1 e1 S1 r1 q1 => q1 pn As H0 M1 H1 σ S1 _ fun vs M2 H2 xs n2 e2 S2 r2 q2 => c (v :: vs) M2 H2 (x :: xs) n2 (Evl.Ex.trans e1 e2) S2 (.cons (r1.mono e2) r2) q2
theorem w_tup {ta : TA} {k : DV → Nat → Prop} (h : WA K ta Γ O n fun xs n1 => xs.length ≤ 100000 ∧ k (.tup xs) n1) : W K (tTup ta) Γ O n k := fun pn As H0 M H σ S Q c =>
  h pn As H0 M H σ S _ fun vs M1 H1 xs n1 e1 S1 r1 ⟨hl, q1⟩ => ⟨Evl.sz_of (by rw [r1.length]; exact hl), fun p hp => by
    obtain ⟨ex, S2⟩ := S1.alloc (o := .tup vs) hp
    exact c (.ref p) _ _ (.tup xs) n1 (Evl.Ex.trans e1 ex) S2 (.tup (.inl (.inl upd_same)) (r1.mono ex)) q1⟩
theorem wl_new {Q : VK} {k : List DV → Nat → Prop} {vs : List V} {ds : List DV} (S : Sta K pn As H0 M H σ Γ O n) {p : Addr} (hp : H p = none) (r : RpL K M vs ds)
    (c : ∀ p vs M' H' ds n', Ex M M' → Sta K pn As H0 M' H' σ Γ O n' → M' p = none → H0 p = none → some p ≠ pn → p ∉ As → ¬ H0.P p → H' p = some (.lst vs) → RpL K M' vs ds → k ds n' → Q (.ref p) H') (q : k ds n) : Q (.ref p) (upd H p (.lst vs)) := by
  refine c p vs M _ ds n (Evl.Ex.refl M) (S.lay hp) (Evl.fresh_back S.ex hp) ?_ (fun z => ?_) (fun z => ?_) (fun z => (S.pr p z).2.1 hp) upd_same r q
  · cases e : H0 p with
    | none => rfl
    | some o =>
      by_cases hpn : some p = pn
      · obtain ⟨_, _, _, _, _, h3, _⟩ := S.pen p hpn.symm
        rw [hp] at h3; cases h3
      · rw [S.kp p o hpn e] at hp; cases hp
  · obtain ⟨_, _, _, _, _, h3, _⟩ := S.pen p z.symm
    rw [hp] at h3; cases h3
  · exact S.live p z hp
end
end DL
namespace DL
open PySem PySem.Spec PyProof.Rows L2
section
variable {K : Fg} {pn : Option Addr} {As : List Addr} {H0 : Ent} {M M' H H' : Hp} {σ : L2.St} {Γ : List SA} {O : Own} {n m : Nat} {te ta tb : TE} {x y : DV}
/-! ### tests -/
def tTru (K : Fg) (ta : TE) : TT := fun σ H Q => ta σ H fun x H1 => ∃ k, TruV K x H1 k ∧ Q k H1
theorem wt_test {te : TE} {k : Bool → Nat → Prop} (h : W K te Γ O n fun d n1 => ∃ b, d = .bl b ∧ k b n1) : WT K (tTest te) Γ O n k := fun pn As H0 M H σ S Q c =>
  h pn As H0 M H σ S _ fun v M1 H1 d n1 e1 S1 r1 ⟨b, e, q⟩ => by
    subst e
    exact ⟨b, r1.bl', c b M1 H1 n1 e1 S1 q⟩
theorem wt_B {te : TE} {k : Bool → Nat → Prop} (h : W K te Γ O n fun d n1 => ∃ b, d = .bl b ∧ k b n1) : WT K (tB te) Γ O n k := fun pn As H0 M H σ S Q c =>
  h pn As H0 M H σ S _ fun v M1 H1 d n1 e1 S1 r1 ⟨b, e, q⟩ => by
    subst e
    exact ⟨b, r1.bl', c b M1 H1 n1 e1 S1 q⟩
theorem wt_and {t u : TT} {k : Bool → Nat → Prop} (h : WT K t Γ O n fun b n1 => (b = true → WT K u Γ O n1 k) ∧ (b = false → k false n1)) : WT K (tAnd t u) Γ O n k := fun pn As H0 M H σ S Q c =>
  h pn As H0 M H σ S _ fun b M1 H1 n1 e1 S1 q => by
    cases b with
    | true => exact q.1 rfl pn As H0 M1 H1 σ S1 Q fun b2 M2 H2 n2 e2 => c b2 M2 H2 n2 (Evl.Ex.trans e1 e2)
    | false => exact c false M1 H1 n1 e1 S1 (q.2 rfl)
theorem wt_or {t u : TT} {k : Bool → Nat → Prop} (h : WT K t Γ O n fun b n1 => (b = true → k true n1) ∧ (b = false → WT K u Γ O n1 k)) : WT K (tOr t u) Γ O n k := fun pn As H0 M H σ S Q c =>
  h pn As H0 M H σ S _ fun b M1 H1 n1 e1 S1 q => by
    cases b with
    | false => exact q.2 rfl pn As H0 M1 H1 σ S1 Q fun b2 M2 H2 n2 e2 => c b2 M2 H2 n2 (Evl.Ex.trans e1 e2)
    | true => exact c true M1 H1 n1 e1 S1 (q.1 rfl)
theorem wt_not {t : TT} {k : Bool → Nat → Prop} (h : WT K t Γ O n fun b n1 => k (!b) n1) : WT K (tNot t) Γ O n k := fun pn As H0 M H σ S Q c =>
  h pn As H0 M H σ S _ fun b M1 H1 n1 e1 S1 q => c (!b) M1 H1 n1 e1 S1 q
theorem wt_yes {k : Bool → Nat → Prop} (h : k true n) : WT K tYes Γ O n k := fun pn As H0 M H σ S Q c => c true M H n (Evl.Ex.refl M) S h
theorem wt_tru {te : TE} {k : Bool → Nat → Prop} (h : W K te Γ O n fun d n1 => (d = .non ∧ k false n1) ∨ (∃ b, d = .bl b ∧ k b n1) ∨ (∃ i, d = .int i ∧ k (i != 0) n1) ∨ (∃ xs, d = .lst xs ∧ k (!xs.isEmpty) n1) ∨ ∃ xs, d = .tup xs ∧ k (!xs.isEmpty) n1) : WT K (tTru K te) Γ O n k := fun pn As H0 M H σ S Q c =>
  h pn As H0 M H σ S _ fun v M1 H1 d n1 e1 S1 r1 q => by
    have em : ∀ {vs : List V} {ds : List DV}, RpL K M1 vs ds → vs.isEmpty = ds.isEmpty := fun h => by cases h <;> rfl
    rcases q with ⟨rfl, q⟩ | ⟨b, rfl, q⟩ | ⟨i, rfl, q⟩ | ⟨xs, rfl, q⟩ | ⟨xs, rfl, q⟩
    · cases r1; exact ⟨false, rfl, c _ M1 H1 n1 e1 S1 q⟩
    · cases r1; exact ⟨b, rfl, c _ M1 H1 n1 e1 S1 q⟩
    · cases r1; exact ⟨_, rfl, c _ M1 H1 n1 e1 S1 q⟩
    · obtain ⟨a, vs, rfl, h1, h2⟩ := r1.lst'
      exact ⟨_, Or.inl ⟨vs, .inl (.inl (S1.ex _ _ h1)), by rw [em h2]⟩, c _ M1 H1 n1 e1 S1 q⟩
    · obtain ⟨a, vs, rfl, h1, h2⟩ := r1.tup'
      exact ⟨_, Or.inr (.inl ⟨vs, Evl.ex_t S1.ex h1, by rw [em h2]⟩), c _ M1 H1 n1 e1 S1 q⟩
/-! ### and, or, not, if as values -/
theorem w_and {k : DV → Nat → Prop} (h : W K ta Γ O n fun d n1 => ∃ b, d = .bl b ∧ (b = true → W K tb Γ O n1 k) ∧ (b = false → k (.bl false) n1)) : W K (tAndV ta tb) Γ O n k := fun pn As H0 M H σ S Q c =>
  h pn As H0 M H σ S _ fun v M1 H1 d n1 e1 S1 r1 ⟨b, e, q⟩ => by
    subst e
    refine ⟨b, r1.bl', ?_⟩
    cases b with
    | true => exact q.1 rfl pn As H0 M1 H1 σ S1 Q fun v2 M2 H2 d2 n2 e2 => c v2 M2 H2 d2 n2 (Evl.Ex.trans e1 e2)
    | false => exact c _ M1 H1 _ n1 e1 S1 (.bl false) (q.2 rfl)
theorem w_or {k : DV → Nat → Prop} (h : W K ta Γ O n fun d n1 => ∃ b, d = .bl b ∧ (b = true → k (.bl true) n1) ∧ (b = false → W K tb Γ O n1 k)) : W K (tOrV ta tb) Γ O n k := fun pn As H0 M H σ S Q c =>
  h pn As H0 M H σ S _ fun v M1 H1 d n1 e1 S1 r1 ⟨b, e, q⟩ => by
    subst e
    refine ⟨b, r1.bl', ?_⟩
    cases b with
    | false => exact q.2 rfl pn As H0 M1 H1 σ S1 Q fun v2 M2 H2 d2 n2 e2 => c v2 M2 H2 d2 n2 (Evl.Ex.trans e1 e2)
    | true => exact c _ M1 H1 _ n1 e1 S1 (.bl true) (q.1 rfl)
theorem w_not {k : DV → Nat → Prop} (h : W K ta Γ O n fun d n1 => ∃ b, d = .bl b ∧ k (.bl (!b)) n1) : W K (tNotV ta) Γ O n k := fun pn As H0 M H σ S Q c =>
  h pn As H0 M H σ S _ fun v M1 H1 d n1 e1 S1 r1 ⟨b, e, q⟩ => by
    subst e
    exact ⟨b, r1.bl', c _ M1 H1 _ n1 e1 S1 (.bl _) q⟩
theorem w_if {t : TT} {k : DV → Nat → Prop} (h : WT K t Γ O n fun b n1 => (b = true → W K ta Γ O n1 k) ∧ (b = false → W K tb Γ O n1 k)) : W K (tIf t ta tb) Γ O n k := fun pn As H0 M H σ S Q c =>
  h pn As H0 M H σ S _ fun b M1 H1 n1 e1 S1 q => by
    cases b with
    | true => exact q.1 rfl pn As H0 M1 H1 σ S1 Q fun v2 M2 H2 d2 n2 e2 => c v2 M2 H2 d2 n2 (Evl.Ex.trans e1 e2)
    | false => exact q.2 rfl pn As H0 M1 H1 σ S1 Q fun v2 M2 H2 d2 n2 e2 => c v2 M2 H2 d2 n2 (Evl.Ex.trans e1 e2)
theorem wl_if {t : TT} {k : List DV → Nat → Prop} (h : WT K t Γ O n fun b n1 => (b = true → WL K ta Γ O n1 k) ∧ (b = false → WL K tb Γ O n1 k)) : WL K (tIf t ta tb) Γ O n k := fun pn As H0 M H σ S Q c =>
  h pn As H0 M H σ S _ fun b M1 H1 n1 e1 S1 q => by
    cases b with
    | true => exact q.1 rfl pn As H0 M1 H1 σ S1 Q fun p vs M2 H2 d2 n2 e2 => c p vs M2 H2 d2 n2 (Evl.Ex.trans e1 e2)
    | false => exact q.2 rfl pn As H0 M1 H1 σ S1 Q fun p vs M2 H2 d2 n2 e2 => c p vs M2 H2 d2 n2 (Evl.Ex.trans e1 e2)
/-! ### operations on ints -/
theorem ow_I0 {g : Int → Int → V} {gd : Int → Int → DV} {i j : Int} {k : DV → Prop} (hg : ∀ M, Rp K M (g i j) (gd i j)) (q : k (gd i j)) : OW K (rI0 g) (.int i) (.int j) k := fun pn As H0 M H σ Γ O n S v w rv rw Q c =>
  ⟨i, j, rv.int', rw.int', c _ M H _ (Evl.Ex.refl M) S (hg M) q⟩
theorem ow_I {C : Int → Int → Prop} {g : Int → Int → V} {gd : Int → Int → DV} {i j : Int} {k : DV → Prop} (hg : ∀ M, Rp K M (g i j) (gd i j)) (hc : C i j) (q : k (gd i j)) : OW K (rI C g) (.int i) (.int j) k := fun pn As H0 M H σ Γ O n S v w rv rw Q c =>
  ⟨i, j, rv.int', rw.int', hc, c _ M H _ (Evl.Ex.refl M) S (hg M) q⟩
theorem OW.l {r r' : R2} {k : DV → Prop} (h : OW K r x y k) : OW K (fun x y H Q => r x y H Q ∨ r' x y H Q) x y k := fun pn As H0 M H σ Γ O n S v w rv rw Q c => .inl (h pn As H0 M H σ Γ O n S v w rv rw Q c)
theorem OW.r {r r' : R2} {k : DV → Prop} (h : OW K r' x y k) : OW K (fun x y H Q => r x y H Q ∨ r' x y H Q) x y k := fun pn As H0 M H σ Γ O n S v w rv rw Q c => .inr (h pn As H0 M H σ Γ O n S v w rv rw Q c)
/-- a + b of any kinds that come here -/
def rPlus (K : Fg) : R2 := fun x y H Q => rI0 (fun i j => .int (i + j)) x y H Q ∨ rCat x y H Q ∨ rCatA K x y H Q
theorem op_plus {X : Cx} : OpR X (binaryOp .Add) (rPlus X.K) := op_add.or (op_cat.or op_catA)
def rMinus : R2 := rI0 (fun i j => .int (i - j))
theorem op_minus {X : Cx} : OpR X (binaryOp .Sub) rMinus := op_sub
def rMulI : R2 := rI IntMulOk fun i j => .int (i * j)
theorem op_mulI {X : Cx} : OpR X (binaryOp .Mult) rMulI := opI fun _ _ _ _ _ _ _ hc q => mul_int q hc
def rTimes (K : Fg) : R2 := fun x y H Q => rMulI x y H Q ∨ rRep x y H Q ∨ rRepT K x y H Q
theorem op_times {X : Cx} : OpR X (binaryOp .Mult) (rTimes X.K) := op_mulI.or (op_rep.or op_repT)
def CDivA (_ j : Int) : Prop := j ≠ 0 ∧ j.natAbs < 2 ^ 9000
def rFdiv : R2 := rI CDivA fun i j => .int (i.fdiv j)
theorem op_fdivA {X : Cx} : OpR X (binaryOp .FloorDiv) rFdiv := opI fun i j _ _ _ _ _ hc q =>
  floordiv_int hc.1 q (.inl (PyProof.noPylong_of_log2 (PySem.Flt.log2_lt_of (by decide) hc.2)))
def rFmod : R2 := rI (fun _ j => j ≠ 0) fun i j => .int (i.fmod j)
theorem op_fmodA {X : Cx} : OpR X (binaryOp .Mod) rFmod := op_modN
def rPow : R2 := rI CPow fun i j => .int (i ^ j.toNat)
theorem op_powA {X : Cx} : OpR X (binaryOp .Pow) rPow := op_pow
theorem ow_plusI {i j : Int} {k : DV → Prop} (q : k (.int (i + j))) : OW K (rPlus K) (.int i) (.int j) k := OW.l (ow_I0 (gd := fun i j => .int (i + j)) (fun _ => .int _) q)
theorem ow_minus {i j : Int} {k : DV → Prop} (q : k (.int (i - j))) : OW K rMinus (.int i) (.int j) k := ow_I0 (gd := fun i j => .int (i - j)) (fun _ => .int _) q
theorem ow_timesI {i j : Int} {k : DV → Prop} (h : IntMulOk i j) (q : k (.int (i * j))) : OW K (rTimes K) (.int i) (.int j) k := OW.l (ow_I (gd := fun i j => .int (i * j)) (fun _ => .int _) h q)
theorem ow_fdiv {i j : Int} {k : DV → Prop} (h : j ≠ 0) (h2 : j.natAbs < 2 ^ 9000) (q : k (.int (i.fdiv j))) : OW K rFdiv (.int i) (.int j) k := ow_I (gd := fun i j => .int (i.fdiv j)) (fun _ => .int _) ⟨h, h2⟩ q
theorem ow_fmod {i j : Int} {k : DV → Prop} (h : j ≠ 0) (q : k (.int (i.fmod j))) : OW K rFmod (.int i) (.int j) k := ow_I (gd := fun i j => .int (i.fmod j)) (fun _ => .int _) h q
theorem ow_pow {i j : Int} {k : DV → Prop} (h : CPow i j) (q : k (.int (i ^ j.toNat))) : OW K rPow (.int i) (.int j) k := ow_I (gd := fun i j => .int (i ^ j.toNat)) (fun _ => .int _) h q
theorem uw_neg {i : Int} {k : DV → Prop} (q : k (.int (-i))) : UW K (rU fun i => .int (-i)) (.int i) k := fun M H v e r Q c => ⟨i, r.int', c _ _ (.int _) q⟩
/-! comparisons of ints -/
def rLt : R2 := rI0 fun i j => .bl (decide (i < j))
def rLe : R2 := rI0 fun i j => .bl (decide (i ≤ j))
def rGt : R2 := rI0 fun i j => .bl (decide (j < i))
def rGe : R2 := rI0 fun i j => .bl (decide (j ≤ i))
theorem op_ltA {X : Cx} : OpR X (compareOp .Lt) rLt := op_lt
theorem op_leA {X : Cx} : OpR X (compareOp .LtE) rLe := op_le
theorem op_gtA {X : Cx} : OpR X (compareOp .Gt) rGt := op_gt
theorem op_geA {X : Cx} : OpR X (compareOp .GtE) rGe := op_ge
theorem ow_lt {i j : Int} {k : DV → Prop} (q : k (.bl (decide (i < j)))) : OW K rLt (.int i) (.int j) k := ow_I0 (gd := fun i j => .bl (decide (i < j))) (fun _ => .bl _) q
theorem ow_le {i j : Int} {k : DV → Prop} (q : k (.bl (decide (i ≤ j)))) : OW K rLe (.int i) (.int j) k := ow_I0 (gd := fun i j => .bl (decide (i ≤ j))) (fun _ => .bl _) q
theorem ow_gt {i j : Int} {k : DV → Prop} (q : k (.bl (decide (j < i)))) : OW K rGt (.int i) (.int j) k := ow_I0 (gd := fun i j => .bl (decide (j < i))) (fun _ => .bl _) q
theorem ow_ge {i j : Int} {k : DV → Prop} (q : k (.bl (decide (j ≤ i)))) : OW K rGe (.int i) (.int j) k := ow_I0 (gd := fun i j => .bl (decide (j ≤ i))) (fun _ => .bl _) q
end
/-! ### plain data -/
mutual
def py : DV → PyData
  | .non => .none
  | .bl b => .bool b
  | .int i => .int i
  | .str x => .str x
  | .tup ds => .tuple (pyL ds)
  | .lst ds => .list (pyL ds)
  | .ty _ => .none
  | .adr _ => .none
  | .ins _ _ _ => .none
  | .dic _ _ => .none
def pyL : List DV → List PyData
  | [] => []
  | d :: ds => py d :: pyL ds
end
mutual
def isPy : DV → Bool
  | .non => true
  | .bl _ => true
  | .int _ => true
  | .str _ => true
  | .tup ds => isPyL ds
  | .lst ds => isPyL ds
  | .ty _ => false
  | .adr _ => false
  | .ins _ _ _ => false
  | .dic _ _ => false
def isPyL : List DV → Bool
  | [] => true
  | d :: ds => isPy d && isPyL ds
end
section
variable {K : Fg} {M H : Hp}
mutual
theorem Rp.dp (e : Ex M H) : ∀ {d : DV} {v : V}, Rp K M v d → isPy d = true → Dp K H v (py d)
  | .non, _, h, _ => by cases h; exact .non
  | .bl b, _, h, _ => by cases h; exact .bl b
  | .int i, _, h, _ => by cases h; exact .int i
  | .str i, _, h, _ => by cases h; exact .str i
  | .tup ds, _, h, p => by
    cases h with
    | tup a b => exact .tup (Evl.ex_t e a) (RpL.dp e b (by simpa [isPy] using p))
  | .lst ds, _, h, p => by
    cases h with
    | lst a b => exact .lst (.inl (.inl (e _ _ a))) (RpL.dp e b (by simpa [isPy] using p))
  | .ty _, _, _, p => by simp [isPy] at p
  | .adr _, _, _, p => by simp [isPy] at p
  | .ins _ _ _, _, _, p => by simp [isPy] at p
  | .dic _ _, _, _, p => by simp [isPy] at p
theorem RpL.dp (e : Ex M H) : ∀ {ds : List DV} {vs : List V}, RpL K M vs ds → isPyL ds = true → DpAll K H vs (pyL ds)
  | [], _, h, _ => by cases h; exact .nil
  | d :: ds, _, h, p => by
    have p' : isPy d = true ∧ isPyL ds = true := by simpa [isPyL] using p
    cases h with
    | cons a b => exact .cons (Rp.dp e a p'.1) (RpL.dp e b p'.2)
end
end
section
variable {K : Fg} {pn : Option Addr} {As : List Addr} {H0 : Ent} {M M' H H' : Hp} {σ : L2.St} {Γ : List SA} {O : Own} {n m : Nat} {te ta tb : TE} {x y : DV}
def rEqA (K : Fg) : R2 := fun x y H Q => rEq x y H Q ∨ rEqD K x y H Q
def rNeA (K : Fg) : R2 := fun x y H Q => rNe x y H Q ∨ rNeD K x y H Q
theorem op_eqA {X : Cx} (hu : X.A.units + 64 < cLine) : OpR X (compareOp .Eq) (rEqA X.K) := op_eq.or (op_eqD hu)
theorem op_neA {X : Cx} (hu : X.A.units + 64 < cLine) : OpR X (compareOp .NotEq) (rNeA X.K) := op_ne.or (op_neD hu)
theorem ow_eqI {i j : Int} {k : DV → Prop} (q : k (.bl (decide (i = j)))) : OW K (rEqA K) (.int i) (.int j) k := fun pn As H0 M H σ Γ O n S v w rv rw Q c => by
  cases rv; cases rw
  refine .inl ⟨rfl, c _ M H _ (Evl.Ex.refl M) S ?_ q⟩
  have e : decide (V.int i = V.int j) = decide (i = j) := by simp
  rw [e]; exact .bl _
theorem ow_neI {i j : Int} {k : DV → Prop} (q : k (.bl (!decide (i = j)))) : OW K (rNeA K) (.int i) (.int j) k := fun pn As H0 M H σ Γ O n S v w rv rw Q c => by
  cases rv; cases rw
  refine .inl ⟨rfl, c _ M H _ (Evl.Ex.refl M) S ?_ q⟩
  have e : decide (V.int i = V.int j) = decide (i = j) := by simp
  rw [e]; exact .bl _
theorem ow_eqB {i j : Bool} {k : DV → Prop} (q : k (.bl (decide (i = j)))) : OW K (rEqA K) (.bl i) (.bl j) k := fun pn As H0 M H σ Γ O n S v w rv rw Q c => by
  cases rv; cases rw
  refine .inl ⟨rfl, c _ M H _ (Evl.Ex.refl M) S ?_ q⟩
  have e : decide (V.bl i = V.bl j) = decide (i = j) := by simp
  rw [e]; exact .bl _
theorem ow_neB {i j : Bool} {k : DV → Prop} (q : k (.bl (!decide (i = j)))) : OW K (rNeA K) (.bl i) (.bl j) k := fun pn As H0 M H σ Γ O n S v w rv rw Q c => by
  cases rv; cases rw
  refine .inl ⟨rfl, c _ M H _ (Evl.Ex.refl M) S ?_ q⟩
  have e : decide (V.bl i = V.bl j) = decide (i = j) := by simp
  rw [e]; exact .bl _
theorem ow_eqS {i j : Str} {k : DV → Prop} (q : k (.bl (decide (i = j)))) : OW K (rEqA K) (.str i) (.str j) k := fun pn As H0 M H σ Γ O n S v w rv rw Q c => by
  cases rv; cases rw
  refine .inl ⟨rfl, c _ M H _ (Evl.Ex.refl M) S ?_ q⟩
  have e : decide (V.str i = V.str j) = decide (i = j) := by simp
  rw [e]; exact .bl _
theorem ow_neS {i j : Str} {k : DV → Prop} (q : k (.bl (!decide (i = j)))) : OW K (rNeA K) (.str i) (.str j) k := fun pn As H0 M H σ Γ O n S v w rv rw Q c => by
  cases rv; cases rw
  refine .inl ⟨rfl, c _ M H _ (Evl.Ex.refl M) S ?_ q⟩
  have e : decide (V.str i = V.str j) = decide (i = j) := by simp
  rw [e]; exact .bl _
def shp (x : DV) : Bool := isPy x && SeqAt.shaped (py x)
theorem ow_eqD {k : DV → Prop} (h1 : shp x = true) (h2 : shp y = true) (q : k (.bl (PyData.eqv (py x) (py y)))) : OW K (rEqA K) x y k := fun pn As H0 M H σ Γ O n S v w rv rw Q c => by
  have a := (Bool.and_eq_true_iff.mp h1)
  have b := (Bool.and_eq_true_iff.mp h2)
  exact .inr ⟨_, _, rv.dp S.ex a.1, rw.dp S.ex b.1, a.2, b.2, c _ M H _ (Evl.Ex.refl M) S (.bl _) q⟩
theorem ow_neD {k : DV → Prop} (h1 : shp x = true) (h2 : shp y = true) (q : k (.bl (!PyData.eqv (py x) (py y)))) : OW K (rNeA K) x y k := fun pn As H0 M H σ Γ O n S v w rv rw Q c => by
  have a := (Bool.and_eq_true_iff.mp h1)
  have b := (Bool.and_eq_true_iff.mp h2)
  exact .inr ⟨_, _, rv.dp S.ex a.1, rw.dp S.ex b.1, a.2, b.2, c _ M H _ (Evl.Ex.refl M) S (.bl _) q⟩
/-- is None -/
def rIsN : R2 := fun x y H Q => y = .non ∧ Q (.bl (decide (x = .non))) H
def rNotN : R2 := fun x y H Q => y = .non ∧ Q (.bl (!decide (x = .non))) H
theorem op_isNA {X : Cx} : OpR X (compareOp .Is) rIsN := op_isN
theorem op_notNA {X : Cx} : OpR X (compareOp .IsNot) rNotN := op_notN
def isNon : DV → Bool
  | .non => true
  | _ => false
theorem Rp.isNon {v : V} (r : Rp K M v x) : decide (v = .non) = isNon x := by cases r <;> simp [DL.isNon]
theorem ow_isN {k : DV → Prop} (q : k (.bl (isNon x))) : OW K rIsN x .non k := fun pn As H0 M H σ Γ O n S v w rv rw Q c => by
  cases rw
  refine ⟨rfl, c _ M H _ (Evl.Ex.refl M) S ?_ q⟩
  rw [rv.isNon]; exact .bl _
theorem ow_notN {k : DV → Prop} (q : k (.bl (!isNon x))) : OW K rNotN x .non k := fun pn As H0 M H σ Γ O n S v w rv rw Q c => by
  cases rw
  refine ⟨rfl, c _ M H _ (Evl.Ex.refl M) S ?_ q⟩
  rw [rv.isNon]; exact .bl _
/-! ### items, slices -/
theorem atI_of {vs : List V} {ds : List DV} {i : Int} {d : DV} (r : RpL K M vs ds) (h : atI ds i = some d) : ∃ v, atI vs i = some v ∧ Rp K M v d := by
  unfold atI at h ⊢
  rw [r.length]
  cases e : ixN ds.length i with
  | none => rw [e] at h; cases h
  | some j => rw [e] at h; exact r.get' h
theorem ow_ixL {ds : List DV} {i : Int} {d : DV} {k : DV → Prop} (h : atI ds i = some d) (q : k d) : OW K (rIx K) (.lst ds) (.int i) k := fun pn As H0 M H σ Γ O n S v w rv rw Q c => by
  obtain ⟨a, vs, rfl, h1, h2⟩ := rv.lst'
  obtain ⟨u, h3, h4⟩ := atI_of h2 h
  exact .inl ⟨a, vs, i, u, rfl, rw.int', .inl (.inl (S.ex _ _ h1)), h3, c u M H d (Evl.Ex.refl M) S h4 q⟩
theorem ow_ixT {ds : List DV} {i : Int} {d : DV} {k : DV → Prop} (h : atI ds i = some d) (q : k d) : OW K (rIx K) (.tup ds) (.int i) k := fun pn As H0 M H σ Γ O n S v w rv rw Q c => by
  obtain ⟨a, vs, rfl, h1, h2⟩ := rv.tup'
  obtain ⟨u, h3, h4⟩ := atI_of h2 h
  exact .inr (.inl ⟨a, vs, i, u, rfl, rw.int', Evl.ex_t S.ex h1, h3, c u M H d (Evl.Ex.refl M) S h4 q⟩)
/-- an own list's item -/
theorem w_ixOwn {i j : Nat} {ds : List DV} {k : DV → Nat → Prop} (hi : Γ[i]? = some (.own j)) (ho : O[j]? = some (some ds)) (h : W K tb Γ O n fun z n1 => ∃ (a : Int) (d : DV), z = .int a ∧ atI ds a = some d ∧ k d n1) : W K (tOp (rIx K) (tVar i) tb) Γ O n k := fun pn As H0 M H σ S Q c => by
  obtain ⟨a, vs, h1, _⟩ := S.slotOwn hi ho
  refine ⟨_, h1, h pn As H0 M H σ S _ fun v M1 H1 d n1 e1 S1 r1 ⟨z, y, ez, ha, q⟩ => ?_⟩
  subst ez
  obtain ⟨a', vs', g1, _, g3, g4, _⟩ := S1.slotOwn hi ho
  rw [h1] at g1; cases g1
  obtain ⟨u, h3, h4⟩ := atI_of g4 ha
  exact .inl ⟨_, _, z, u, rfl, r1.int', .inl (.inl g3), h3, c u M1 H1 y n1 e1 S1 h4 q⟩
theorem cutV_of {vs : List V} {ds : List DV} (lo hi : Option Int) (r : RpL K M vs ds) : RpL K M (cutV vs lo hi) ((ds.drop (HT.sIx ds.length 0 lo)).take (HT.sIx ds.length ds.length hi - HT.sIx ds.length 0 lo)) := by
  unfold cutV
  rw [r.length]
  exact (r.drop _).take _
def cutD (ds : List DV) (lo hi : Option Int) : List DV := (ds.drop (HT.sIx ds.length 0 lo)).take (HT.sIx ds.length ds.length hi - HT.sIx ds.length 0 lo)
theorem wo_none {k : Option Int → Nat → Prop} (q : k none n) : WO K tNoPart Γ O n k := fun pn As H0 M H σ S Q c => c none M H n (Evl.Ex.refl M) S q
theorem wo_some {k : Option Int → Nat → Prop} (h : W K te Γ O n fun d n1 => ∃ i, d = .int i ∧ k (some i) n1) : WO K (tPart te) Γ O n k := fun pn As H0 M H σ S Q c =>
  h pn As H0 M H σ S _ fun v M1 H1 d n1 e1 S1 r1 ⟨i, e, q⟩ => by subst e; exact ⟨i, r1.int', c (some i) M1 H1 n1 e1 S1 q⟩
def rCut (K : Fg) : V → Option Int → Option Int → Hp → VK → Prop := fun x lo hi H Q => rSlL K x lo hi H Q ∨ rSlA K x lo hi H Q
theorem sl_cut {X : Cx} : SlR X (rCut X.K) := sl_list.or sl_tupA
theorem wl_slL {tl th : TO} {k : List DV → Nat → Prop} (h : W K te Γ O n fun d n1 => ∃ ds, d = .lst ds ∧ WO K tl Γ O n1 fun lo n2 => WO K th Γ O n2 fun hi n3 => k (cutD ds lo hi) n3) : WL K (tSl (rCut K) te tl th) Γ O n k := fun pn As H0 M H σ S Q c =>
  h pn As H0 M H σ S _ fun v M1 H1 d n1 e1 S1 r1 ⟨ds, e, h2⟩ => h2 pn As H0 M1 H1 σ S1 _ fun lo M2 H2 n2 e2 S2 h3 => h3 pn As H0 M2 H2 σ S2 _ fun hi M3 H3 n3 e3 S3 q => by
    subst e
    obtain ⟨a, vs, rfl, g1, g2⟩ := (r1.mono (Evl.Ex.trans e2 e3)).lst'
    exact .inl ⟨a, vs, rfl, .inl (.inl (S3.ex _ _ g1)), fun p hp => wl_new S3 hp (cutV_of lo hi g2) (fun p vs M4 H4 ds n4 e4 => c p vs M4 H4 ds n4 (Evl.Ex.trans (Evl.Ex.trans (Evl.Ex.trans e1 e2) e3) e4)) q⟩
/-! ### calls of built-ins by name -/
theorem w_cb {r : List V → Hp → VK → Prop} {ta : TA} {k : DV → Nat → Prop} (h : WA K ta Γ O n fun xs n1 => CW K r xs fun d => k d n1) : W K (tCB r ta) Γ O n k := fun pn As H0 M H σ S Q c =>
  h pn As H0 M H σ S _ fun vs M1 H1 xs n1 e1 S1 r1 q => q pn As H0 M1 H1 σ Γ O n1 S1 vs r1 Q fun u M2 H2 d e2 S2 r2 q2 => c u M2 H2 d n1 (Evl.Ex.trans e1 e2) S2 r2 q2
theorem wl_cb {r : List V → Hp → VK → Prop} {ta : TA} {k : List DV → Nat → Prop} (h : WA K ta Γ O n fun xs n1 => CWL K r xs fun d => k d n1) : WL K (tCB r ta) Γ O n k := fun pn As H0 M H σ S Q c =>
  h pn As H0 M H σ S _ fun vs M1 H1 xs n1 e1 S1 r1 q => q pn As H0 M1 H1 σ Γ O n1 S1 vs r1 Q fun p us M2 H2 ds e2 S2 => c p us M2 H2 ds n1 (Evl.Ex.trans e1 e2) S2
theorem RpL.one {v : List V} (r : RpL K M v [x]) : ∃ u, v = [u] ∧ Rp K M u x := by
  cases r with
  | cons a b => cases b; exact ⟨_, rfl, a⟩
theorem RpL.two {v : List V} (r : RpL K M v [x, y]) : ∃ u w, v = [u, w] ∧ Rp K M u x ∧ Rp K M w y := by
  cases r with
  | cons a b =>
    obtain ⟨w, rfl, h⟩ := b.one
    exact ⟨_, _, rfl, a, h⟩
theorem cw_gcd {i j : Int} {k : DV → Prop} (q : k (.int ((Nat.gcd i.natAbs j.natAbs : Nat) : Int))) : CW K rGcd [.int i, .int j] k := fun pn As H0 M H σ Γ O n S vs r Q c => by
  obtain ⟨u, w, rfl, h1, h2⟩ := r.two
  cases h1; cases h2
  exact ⟨i, j, rfl, c _ M H _ (Evl.Ex.refl M) S (.int _) q⟩
def rAbs : List V → Hp → VK → Prop := fun xs H Q => ∃ i, xs = [.int i] ∧ Q (.int (if i < 0 then -i else i)) H
theorem cr_abs {X : Cx} : CallR X (.builtin "abs") rAbs := call_abs
theorem cw_abs {i : Int} {k : DV → Prop} (q : k (.int (if i < 0 then -i else i))) : CW K rAbs [.int i] k := fun pn As H0 M H σ Γ O n S vs r Q c => by
  obtain ⟨u, rfl, h1⟩ := r.one
  cases h1
  exact ⟨i, rfl, c _ M H _ (Evl.Ex.refl M) S (.int _) q⟩
def rInt1 : List V → Hp → VK → Prop := fun xs H Q => (∃ i, xs = [.int i] ∧ Q (.int i) H) ∨ ∃ k, xs = [.bl k] ∧ Q (.int (if k then 1 else 0)) H
theorem cr_int1 {X : Cx} : CallR X (.type "int") rInt1 := call_int1
theorem cw_intI {i : Int} {k : DV → Prop} (q : k (.int i)) : CW K rInt1 [.int i] k := fun pn As H0 M H σ Γ O n S vs r Q c => by
  obtain ⟨u, rfl, h1⟩ := r.one
  cases h1
  exact .inl ⟨i, rfl, c _ M H _ (Evl.Ex.refl M) S (.int _) q⟩
theorem cw_intB {b : Bool} {k : DV → Prop} (q : k (.int (if b then 1 else 0))) : CW K rInt1 [.bl b] k := fun pn As H0 M H σ Γ O n S vs r Q c => by
  obtain ⟨u, rfl, h1⟩ := r.one
  cases h1
  exact .inr ⟨b, rfl, c _ M H _ (Evl.Ex.refl M) S (.int _) q⟩
def rLenA (K : Fg) : List V → Hp → VK → Prop := fun xs H Q => (∃ p ys, xs = [.ref p] ∧ (SqL K H p ys ∨ SqT K H p ys) ∧ Q (.int ys.length) H) ∨ ∃ x m, xs = [x] ∧ LenV K x H m ∧ Q (.int m) H
theorem cr_len {X : Cx} : CallR X (.builtin "len") (rLenA X.K) := call_len_seq.or call_len
theorem cw_lenL {ds : List DV} {k : DV → Prop} (q : k (.int (ds.length : Int))) : CW K (rLenA K) [.lst ds] k := fun pn As H0 M H σ Γ O n S vs r Q c => by
  obtain ⟨u, rfl, h1⟩ := r.one
  obtain ⟨a, vs, rfl, g1, g2⟩ := h1.lst'
  refine .inl ⟨a, vs, rfl, .inl (.inl (.inl (S.ex _ _ g1))), c _ M H _ (Evl.Ex.refl M) S ?_ q⟩
  rw [g2.length]; exact .int _
theorem cw_lenT {ds : List DV} {k : DV → Prop} (q : k (.int (ds.length : Int))) : CW K (rLenA K) [.tup ds] k := fun pn As H0 M H σ Γ O n S vs r Q c => by
  obtain ⟨u, rfl, h1⟩ := r.one
  obtain ⟨a, vs, rfl, g1, g2⟩ := h1.tup'
  refine .inl ⟨a, vs, rfl, .inr (Evl.ex_t S.ex g1), c _ M H _ (Evl.Ex.refl M) S ?_ q⟩
  rw [g2.length]; exact .int _
theorem w_lenOwn {i j : Nat} {ds : List DV} {k : DV → Nat → Prop} (hi : Γ[i]? = some (.own j)) (ho : O[j]? = some (some ds)) (q : k (.int (ds.length : Int)) n) : W K (tCB (rLenA K) (tCons (tVar i) tNil)) Γ O n k := fun pn As H0 M H σ S Q c => by
  obtain ⟨a, vs, h1, _, h3, h4, _⟩ := S.slotOwn hi ho
  refine ⟨_, h1, .inl ⟨a, vs, rfl, .inl (.inl (.inl h3)), c _ M H _ n (Evl.Ex.refl M) S ?_ q⟩⟩
  rw [h4.length]; exact .int _
def rListOf (K : Fg) : List V → Hp → VK → Prop := fun xs H Q => ∃ p ys, xs = [.ref p] ∧ (SqL K H p ys ∨ SqT K H p ys) ∧ ∀ l, H l = none → Q (.ref l) (upd H l (.lst ys))
theorem cr_listOf {X : Cx} : CallR X (.type "list") (rListOf X.K) := call_list_of
theorem cwl_listL {ds : List DV} {k : List DV → Prop} (q : k ds) : CWL K (rListOf K) [.lst ds] k := fun pn As H0 M H σ Γ O n S vs r Q c => by
  obtain ⟨u, rfl, h1⟩ := r.one
  obtain ⟨a, vs, rfl, g1, g2⟩ := h1.lst'
  exact ⟨a, vs, rfl, .inl (.inl (.inl (S.ex _ _ g1))), fun l hl => wl_new S hl g2 (k := fun ds n' => k ds ∧ n' = n) (fun p vs M4 H4 ds n4 e4 S4 h1 h2 h3 h4 hP h5 h6 ⟨h7, h8⟩ => by subst h8; exact c p vs M4 H4 ds e4 S4 h1 h2 h3 h4 hP h5 h6 h7) ⟨q, rfl⟩⟩
theorem cwl_listT {ds : List DV} {k : List DV → Prop} (q : k ds) : CWL K (rListOf K) [.tup ds] k := fun pn As H0 M H σ Γ O n S vs r Q c => by
  obtain ⟨u, rfl, h1⟩ := r.one
  obtain ⟨a, vs, rfl, g1, g2⟩ := h1.tup'
  exact ⟨a, vs, rfl, .inr (Evl.ex_t S.ex g1), fun l hl => wl_new S hl g2 (k := fun ds n' => k ds ∧ n' = n) (fun p vs M4 H4 ds n4 e4 S4 h1 h2 h3 h4 hP h5 h6 ⟨h7, h8⟩ => by subst h8; exact c p vs M4 H4 ds e4 S4 h1 h2 h3 h4 hP h5 h6 h7) ⟨q, rfl⟩⟩
def rTupOf (K : Fg) : List V → Hp → VK → Prop := fun xs H Q => ∃ p ys, xs = [.ref p] ∧ ((SqL K H p ys ∧ ∀ l, H l = none → Q (.ref l) (upd H l (.tup ys))) ∨ (SqT K H p ys ∧ Q (.ref p) H))
theorem cr_tupOf {X : Cx} : CallR X (.type "tuple") (rTupOf X.K) := call_tuple_of
theorem cw_tupL {ds : List DV} {k : DV → Prop} (q : k (.tup ds)) : CW K (rTupOf K) [.lst ds] k := fun pn As H0 M H σ Γ O n S vs r Q c => by
  obtain ⟨u, rfl, h1⟩ := r.one
  obtain ⟨a, vs, rfl, g1, g2⟩ := h1.lst'
  exact ⟨a, vs, rfl, .inl ⟨.inl (.inl (S.ex _ _ g1)), fun l hl => by
    obtain ⟨ex, S2⟩ := S.alloc (o := .tup vs) hl
    exact c _ _ _ _ ex S2 (.tup (.inl (.inl upd_same)) (g2.mono ex)) q⟩⟩
theorem cw_tupT {ds : List DV} {k : DV → Prop} (q : k (.tup ds)) : CW K (rTupOf K) [.tup ds] k := fun pn As H0 M H σ Γ O n S vs r Q c => by
  obtain ⟨u, rfl, h1⟩ := r.one
  obtain ⟨a, vs, rfl, g1, g2⟩ := id h1.tup'
  exact ⟨a, vs, rfl, .inr ⟨Evl.ex_t S.ex g1, c _ M H _ (Evl.Ex.refl M) S h1 q⟩⟩
theorem cw_sum {ns : List Int} {k : DV → Prop} (q : k (.int ns.sum)) : CW K (rSum K) [.lst (ns.map DV.int)] k := fun pn As H0 M H σ Γ O n S vs r Q c => by
  obtain ⟨u, rfl, h1⟩ := r.one
  obtain ⟨a, vs, rfl, g1, g2⟩ := h1.lst'
  have e := g2.ints
  subst e
  exact ⟨a, ns, rfl, .inl (.inl (S.ex _ _ g1)), c _ M H _ (Evl.Ex.refl M) S (.int _) q⟩
theorem cw_all {bs : List Bool} {k : DV → Prop} (q : k (.bl (bs.all id))) : CW K (rAll K) [.lst (bs.map DV.bl)] k := fun pn As H0 M H σ Γ O n S vs r Q c => by
  obtain ⟨u, rfl, h1⟩ := r.one
  obtain ⟨a, vs, rfl, g1, g2⟩ := h1.lst'
  have e := g2.bools
  subst e
  exact ⟨a, bs, rfl, .inl (.inl (S.ex _ _ g1)), c _ M H _ (Evl.Ex.refl M) S (.bl _) q⟩
theorem cw_any {bs : List Bool} {k : DV → Prop} (q : k (.bl (bs.any id))) : CW K (rAny K) [.lst (bs.map DV.bl)] k := fun pn As H0 M H σ Γ O n S vs r Q c => by
  obtain ⟨u, rfl, h1⟩ := r.one
  obtain ⟨a, vs, rfl, g1, g2⟩ := h1.lst'
  have e := g2.bools
  subst e
  exact ⟨a, bs, rfl, .inl (.inl (S.ex _ _ g1)), c _ M H _ (Evl.Ex.refl M) S (.bl _) q⟩
end
end DL
namespace DL
open PySem PySem.Spec PyProof.Rows L2
section
variable {X : Cx} {pins : List (Addr × Obj)} {σ : L2.St} {H : Hp} {s : Shared} {R : It → Hp → Prop} {tg : Expr}
theorem goes_list {a : Addr} {xs : List V} (I : Inv X pins σ H s) (h : SqL X.K H a xs) (q : R (Itl X.K a) H) :
    wpAny (model X.prog X.w) X.A (pyIter (.ref a)) (PIE X pins σ tg R) X.xe s := by
  obtain ⟨us, _, is, _⟩ := I.list h
  refine wpAny_pyIter_list is.isList ⟨_, [s.heap.objs.size], _, _, H, rfl, ?_, turn_list a s.heap.objs.size, ?_, ?_, q⟩
  · exact I.kept (t' := s.toks) fun c u z => Heap.get?_push_of_some _ z
  · exact ⟨_, Heap.get?_push_size _ rfl, rfl, rfl⟩
  · intro c hc
    rw [List.mem_singleton] at hc
    subst hc
    exact I.fpOk (Nat.le_refl _) (I.hok.fresh (Nat.le_refl _))
theorem goes_tuple {a : Addr} {xs : List V} (I : Inv X pins σ H s) (h : SqT X.K H a xs) (q : R (Itt X.K a) H) :
    wpAny (model X.prog X.w) X.A (pyIter (.ref a)) (PIE X pins σ tg R) X.xe s := by
  obtain ⟨us, _, is, _⟩ := I.tuple h
  refine wpAny_pyIter_tuple (items := us.toArray) is ⟨_, [s.heap.objs.size], _, _, H, rfl, ?_, turn_tuple a s.heap.objs.size, ?_, ?_, q⟩
  · exact I.kept (t' := s.toks) fun c u z => Heap.get?_push_of_some _ z
  · exact ⟨_, Heap.get?_push_size _ rfl, rfl, rfl⟩
  · intro c hc
    rw [List.mem_singleton] at hc
    subst hc
    exact I.fpOk (Nat.le_refl _) (I.hok.fresh (Nat.le_refl _))
/-- over a list or a tuple -/
def iSeq (K : Fg) (tl : TE) : TI := fun σ H R => tl σ H fun x H1 => ∃ a, x = .ref a ∧ (((∃ xs, SqL K H1 a xs) ∧ R (Itl K a) H1) ∨ ((∃ xs, SqT K H1 a xs) ∧ R (Itt K a) H1))
theorem pi_seq {l : Expr} {tl : TE} (hl : PE X l tl) : PI X tg l (iSeq X.K tl) := by
  constructor
  intro pins s σ H R I h
  apply thn (hl.run pins s σ H _ I h)
  rintro v s1 ⟨x, H1, I1, r1, a, e, q⟩
  subst e
  cases r1
  rcases q with ⟨⟨xs, hq⟩, q⟩ | ⟨⟨xs, hq⟩, q⟩
  · exact goes_list I1 hq q
  · exact goes_tuple I1 hq q
end
section
variable {K : Fg} {pn : Option Addr} {As : List Addr} {H0 : Ent} {M M' H H' : Hp} {σ : L2.St} {Γ : List SA} {O : Own} {n m : Nat} {te ta tb : TE} {x y : DV}
theorem iter_list {a : Addr} {vs : List V} {ds : List DV} (h : M a = some (.lst vs)) (r : RpL K M vs ds) : IterOk K (Itl K a) ds M := fun pn As H0 M1 H1 σ Γ O n e S i => by
  have hq : SqL K H1 a vs := .inl (.inl (S.ex _ _ (e _ _ h)))
  refine ⟨fun d hd => ?_, fun hi => ⟨vs, hq, by rw [r.length]; exact hi⟩⟩
  obtain ⟨v, hv, rv⟩ := r.get' hd
  exact ⟨⟨vs, v, hq, hv⟩, fun z H' ⟨e1, e2⟩ => by
    have := e2 vs hq
    rw [hv] at this; cases this
    subst e1
    exact ⟨M1, Evl.Ex.refl M1, S, rv.mono e⟩⟩
theorem iter_tup {a : Addr} {vs : List V} {ds : List DV} (h : SqT K M a vs) (r : RpL K M vs ds) : IterOk K (Itt K a) ds M := fun pn As H0 M1 H1 σ Γ O n e S i => by
  have hq : SqT K H1 a vs := Evl.ex_t S.ex (Evl.ex_t e h)
  refine ⟨fun d hd => ?_, fun hi => ⟨vs, hq, by rw [r.length]; exact hi⟩⟩
  obtain ⟨v, hv, rv⟩ := r.get' hd
  exact ⟨⟨vs, v, hq, hv⟩, fun z H' ⟨e1, e2⟩ => by
    have := e2 vs hq
    rw [hv] at this; cases this
    subst e1
    exact ⟨M1, Evl.Ex.refl M1, S, rv.mono e⟩⟩
def rngD (lo : Int) (m : Nat) : List DV := (List.range m).map fun (i : Nat) => DV.int (lo + (i : Int))
theorem rngD_get {lo : Int} {m i : Nat} {d : DV} (h : (rngD lo m)[i]? = some d) : i < m ∧ d = .int (lo + (i : Int)) := by
  unfold rngD at h
  rw [List.getElem?_map] at h
  by_cases hi : i < m
  · rw [List.getElem?_range hi] at h
    exact ⟨hi, (Option.some.inj h).symm⟩
  · rw [List.getElem?_eq_none (by simpa using hi)] at h
    cases h
theorem rngD_length (lo : Int) (m : Nat) : (rngD lo m).length = m := by simp [rngD]
theorem iter_rng {lo : Int} {m : Nat} : IterOk K (Itr lo m) (rngD lo m) M := fun pn As H0 M1 H1 σ Γ O n e S i => by
  refine ⟨fun d hd => ?_, fun hi => by rw [rngD_length] at hi; exact hi⟩
  obtain ⟨h1, rfl⟩ := rngD_get hd
  refine ⟨h1, fun z H' ⟨e1, e2⟩ => ?_⟩
  subst e1 e2
  exact ⟨M1, Evl.Ex.refl M1, S, .int _⟩
def enumD (k : Nat) : List DV → List DV
  | [] => []
  | d :: ds => .tup [.int (k : Int), d] :: enumD (k + 1) ds
theorem enumD_get : ∀ {ds : List DV} {k i : Nat}, (enumD k ds)[i]? = (ds[i]?).map fun d => DV.tup [.int ((k + i : Nat) : Int), d]
  | [], k, i => by simp [enumD]
  | d :: ds, k, 0 => by simp [enumD]
  | d :: ds, k, i + 1 => by
    simp only [enumD, List.getElem?_cons_succ]
    rw [enumD_get]
    have : k + 1 + i = k + (i + 1) := by omega
    rw [this]
theorem enumD_length : ∀ {ds : List DV} {k : Nat}, (enumD k ds).length = ds.length
  | [], _ => rfl
  | d :: ds, k => by simp [enumD, enumD_length]
theorem iter_enum {a : Addr} {vs : List V} {ds : List DV} (h : M a = some (.lst vs)) (r : RpL K M vs ds) : IterOk K (Ite K a) (enumD 0 ds) M := fun pn As H0 M1 H1 σ Γ O n e S i => by
  have hq : SqL K H1 a vs := .inl (.inl (S.ex _ _ (e _ _ h)))
  refine ⟨fun d hd => ?_, fun hi => ⟨vs, hq, by rw [r.length]; rw [enumD_length] at hi; exact hi⟩⟩
  rw [enumD_get] at hd
  cases hi : ds[i]? with
  | none => rw [hi] at hd; cases hd
  | some d0 =>
    rw [hi] at hd
    cases hd
    obtain ⟨v, hv, rv⟩ := r.get' hi
    refine ⟨⟨vs, v, hq, hv⟩, fun z H' ⟨T, u, e1, e2, e3, e4⟩ => ?_⟩
    have := e4 vs hq
    rw [hv] at this; cases this
    subst e1 e3
    obtain ⟨ex, S2⟩ := S.alloc (o := .tup [.int (i : Int), v]) e2
    refine ⟨_, ex, S2, .tup (.inl (.inl upd_same)) ?_⟩
    have e0 : ((0 + i : Nat) : Int) = (i : Int) := by simp
    rw [e0]
    exact .cons (.int _) (.cons ((rv.mono e).mono ex) .nil)
def zipD : List DV → List DV → List DV
  | x :: xs, y :: ys => .tup [x, y] :: zipD xs ys
  | _, _ => []
theorem zipD_get : ∀ {xs ys : List DV} {i : Nat} {d : DV}, (zipD xs ys)[i]? = some d → ∃ x y, xs[i]? = some x ∧ ys[i]? = some y ∧ d = .tup [x, y]
  | [], _, _, _, h => by simp [zipD] at h
  | x :: xs, [], _, _, h => by simp [zipD] at h
  | x :: xs, y :: ys, 0, d, h => by
    simp [zipD] at h
    exact ⟨x, y, rfl, rfl, h.symm⟩
  | x :: xs, y :: ys, i + 1, d, h => by
    simp only [zipD, List.getElem?_cons_succ] at h
    simpa using zipD_get h
theorem zipD_length : ∀ {xs ys : List DV}, (zipD xs ys).length = min xs.length ys.length
  | [], ys => by simp [zipD]
  | x :: xs, [] => by simp [zipD]
  | x :: xs, y :: ys => by simp [zipD, zipD_length]
theorem iter_zipL {a b : Addr} {vs ws : List V} {ds es : List DV} (h : M a = some (.lst vs)) (r : RpL K M vs ds) (h' : M b = some (.lst ws)) (r' : RpL K M ws es) : IterOk K (Itz K a b) (zipD ds es) M := fun pn As H0 M1 H1 σ Γ O n e S i => by
  have hq : SqL K H1 a vs := .inl (.inl (S.ex _ _ (e _ _ h)))
  have hq' : SqL K H1 b ws := .inl (.inl (S.ex _ _ (e _ _ h')))
  refine ⟨fun d hd => ?_, fun hi => ⟨vs, ws, hq, hq', by rw [r.length, r'.length]; rw [zipD_length] at hi; omega⟩⟩
  obtain ⟨x, y, g1, g2, rfl⟩ := zipD_get hd
  obtain ⟨v, hv, rv⟩ := r.get' g1
  obtain ⟨w, hw, rw'⟩ := r'.get' g2
  refine ⟨⟨vs, ws, v, w, hq, hq', hv, hw⟩, fun z H' ⟨T, u1, u2, e1, e2, e3, e4, e5⟩ => ?_⟩
  have := e4 vs hq
  rw [hv] at this; cases this
  have := e5 ws hq'
  rw [hw] at this; cases this
  subst e1 e3
  obtain ⟨ex, S2⟩ := S.alloc (o := .tup [v, w]) e2
  exact ⟨_, ex, S2, .tup (.inl (.inl upd_same)) (.cons ((rv.mono e).mono ex) (.cons ((rw'.mono e).mono ex) .nil))⟩
theorem iter_zipT {a b : Addr} {vs ws : List V} {ds es : List DV} (h : SqT K M a vs) (r : RpL K M vs ds) (h' : SqT K M b ws) (r' : RpL K M ws es) : IterOk K (RZ.ItzT K a b) (zipD ds es) M := fun pn As H0 M1 H1 σ Γ O n e S i => by
  have hq : SqT K H1 a vs := Evl.ex_t S.ex (Evl.ex_t e h)
  have hq' : SqT K H1 b ws := Evl.ex_t S.ex (Evl.ex_t e h')
  refine ⟨fun d hd => ?_, fun hi => ⟨vs, ws, hq, hq', by rw [r.length, r'.length]; rw [zipD_length] at hi; omega⟩⟩
  obtain ⟨x, y, g1, g2, rfl⟩ := zipD_get hd
  obtain ⟨v, hv, rv⟩ := r.get' g1
  obtain ⟨w, hw, rw'⟩ := r'.get' g2
  refine ⟨⟨vs, ws, v, w, hq, hq', hv, hw⟩, fun z H' ⟨T, u1, u2, e1, e2, e3, e4, e5⟩ => ?_⟩
  have := e4 vs hq
  rw [hv] at this; cases this
  have := e5 ws hq'
  rw [hw] at this; cases this
  subst e1 e3
  obtain ⟨ex, S2⟩ := S.alloc (o := .tup [v, w]) e2
  exact ⟨_, ex, S2, .tup (.inl (.inl upd_same)) (.cons ((rv.mono e).mono ex) (.cons ((rw'.mono e).mono ex) .nil))⟩
/-! ### sources -/
theorem sw_seq {k : List DV → Nat → Prop} (h : W K te Γ O n fun d n1 => ∃ ds, (d = .lst ds ∨ d = .tup ds) ∧ k ds n1) : SW K (iSeq K te) Γ O n k := fun pn As H0 M H σ S R c =>
  h pn As H0 M H σ S _ fun v M1 H1 d n1 e1 S1 r1 ⟨ds, e, q⟩ => by
    rcases e with rfl | rfl
    · obtain ⟨a, vs, rfl, g1, g2⟩ := r1.lst'
      exact ⟨a, rfl, .inl ⟨⟨vs, .inl (.inl (S1.ex _ _ g1))⟩, c _ M1 H1 ds n1 e1 S1 (iter_list g1 g2) q⟩⟩
    · obtain ⟨a, vs, rfl, g1, g2⟩ := r1.tup'
      exact ⟨a, rfl, .inr ⟨⟨vs, Evl.ex_t S1.ex g1⟩, c _ M1 H1 ds n1 e1 S1 (iter_tup g1 g2) q⟩⟩
theorem sw_rng1 {ta : TA} {k : List DV → Nat → Prop} (h : WA K ta Γ O n fun xs n1 => ∃ j : Int, xs = [.int j] ∧ -(2 ^ 62) ≤ j ∧ j < 2 ^ 62 ∧ k (rngD 0 j.toNat) n1) : SW K (iRng1 ta) Γ O n k := fun pn As H0 M H σ S R c =>
  h pn As H0 M H σ S _ fun v M1 H1 d n1 e1 S1 r1 ⟨j, e, q1, q2, q⟩ => by
    subst e
    obtain ⟨u, rfl, r⟩ := r1.one
    cases r
    exact ⟨j, rfl, q1, q2, c _ M1 H1 _ n1 e1 S1 iter_rng q⟩
theorem sw_rng2 {ta : TA} {k : List DV → Nat → Prop} (h : WA K ta Γ O n fun xs n1 => ∃ i j : Int, xs = [.int i, .int j] ∧ (-(2 ^ 62) ≤ i ∧ i < 2 ^ 62 ∧ -(2 ^ 62) ≤ j ∧ j < 2 ^ 62) ∧ k (rngD i (j - i).toNat) n1) : SW K (iRng2 ta) Γ O n k := fun pn As H0 M H σ S R c =>
  h pn As H0 M H σ S _ fun v M1 H1 d n1 e1 S1 r1 ⟨i, j, e, q1, q⟩ => by
    subst e
    obtain ⟨u, w, rfl, r, r'⟩ := r1.two
    cases r; cases r'
    exact ⟨i, j, rfl, q1, c _ M1 H1 _ n1 e1 S1 iter_rng q⟩
theorem sw_enum {ta : TA} {k : List DV → Nat → Prop} (h : WA K ta Γ O n fun xs n1 => ∃ ds, xs = [.lst ds] ∧ k (enumD 0 ds) n1) : SW K (iEnum K ta) Γ O n k := fun pn As H0 M H σ S R c =>
  h pn As H0 M H σ S _ fun v M1 H1 d n1 e1 S1 r1 ⟨ds, e, q⟩ => by
    subst e
    obtain ⟨u, rfl, r⟩ := r1.one
    obtain ⟨a, vs, rfl, g1, g2⟩ := r.lst'
    exact ⟨a, vs, rfl, .inl (.inl (S1.ex _ _ g1)), c _ M1 H1 _ n1 e1 S1 (iter_enum g1 g2) q⟩
theorem sw_zipA {ta : TA} {k : List DV → Nat → Prop} (h : WA K ta Γ O n fun xs n1 => ∃ ds es, (xs = [.lst ds, .lst es] ∨ xs = [.tup ds, .tup es]) ∧ k (zipD ds es) n1) : SW K (RZ.iZipA K ta) Γ O n k := fun pn As H0 M H σ S R c =>
  h pn As H0 M H σ S _ fun v M1 H1 d n1 e1 S1 r1 ⟨ds, es, e, q⟩ => by
    rcases e with rfl | rfl
    · obtain ⟨u, w, rfl, r, r'⟩ := r1.two
      obtain ⟨a, vs, rfl, g1, g2⟩ := r.lst'
      obtain ⟨b, ws, rfl, g3, g4⟩ := r'.lst'
      exact ⟨a, b, vs, ws, rfl, .inl ⟨.inl (.inl (S1.ex _ _ g1)), .inl (.inl (S1.ex _ _ g3)), c _ M1 H1 _ n1 e1 S1 (iter_zipL g1 g2 g3 g4) q⟩⟩
    · obtain ⟨u, w, rfl, r, r'⟩ := r1.two
      obtain ⟨a, vs, rfl, g1, g2⟩ := r.tup'
      obtain ⟨b, ws, rfl, g3, g4⟩ := r'.tup'
      exact ⟨a, b, vs, ws, rfl, .inr ⟨Evl.ex_t S1.ex g1, Evl.ex_t S1.ex g3, c _ M1 H1 _ n1 e1 S1 (iter_zipT g1 g2 g3 g4) q⟩⟩
/-! ### targets -/
theorem wipe_set {σ : L2.St} {i : Nat} {o : Option V} : ∀ {vs : List Nat}, i ∈ vs → wipe (σ.set i o) vs = wipe σ vs
  | v :: vs, h => by
    unfold wipe
    by_cases hi : i ∈ vs
    · rw [wipe_set hi]
    · have e : i = v := by
        rcases List.mem_cons.mp h with h | h
        · exact h
        · exact absurd h hi
      subst e
      have : ∀ {ws : List Nat}, i ∉ ws → wipe (σ.set i o) ws = (wipe σ ws).set i o := by
        intro ws
        induction ws with
        | nil => intro _; rfl
        | cons w ws ih =>
          intro hw
          unfold wipe
          rw [ih (fun z => hw (List.mem_cons_of_mem _ z)), List.set_comm _ _ (fun z => hw (by rw [z]; exact List.mem_cons_self))]
      rw [this hi, List.set_set]
theorem wipe_wipe {σ : L2.St} (vs : List Nat) : wipe (wipe σ vs) vs = wipe σ vs := by
  have key : ∀ (ws us : List Nat) (τ : L2.St), (∀ u ∈ us, u ∈ ws) → wipe (wipe τ us) ws = wipe τ ws := by
    intro ws us
    induction us with
    | nil => intro τ _; rfl
    | cons u us ih =>
      intro τ h
      show wipe ((wipe τ us).set u none) ws = wipe τ ws
      rw [wipe_set (h u List.mem_cons_self), ih τ fun z hz => h z (List.mem_cons_of_mem _ hz)]
  exact key vs vs σ fun _ h => h
theorem gw_name {i : Nat} {vs : List Nat} {k : List SA → Prop} (hi : i ∈ vs) (q : k (Γ.set i (.is x))) : GW K (gName i) vs x Γ k := fun pn As H0 M H σ O n S v r Q c =>
  c _ _ (S.store r) (wipe_set hi) q
def GWs (K : Fg) (g : TGs) (vs : List Nat) (ds : List DV) (Γ : List SA) (k : List SA → Prop) : Prop :=
  ∀ (pn : Option Addr) (As : List Addr) (H0 : Ent) (M H : Hp) (σ : L2.St) (O : Own) (n : Nat), Sta K pn As H0 M H σ Γ O n → ∀ us, RpL K M us ds → ∀ Q : L2.St → Hp → Prop,
    (∀ σ' Γ', Sta K pn As H0 M H σ' Γ' O n → wipe σ' vs = wipe σ vs → k Γ' → Q σ' H) → g us σ H Q
theorem gws_nil {vs : List Nat} {k : List SA → Prop} (q : k Γ) : GWs K gNil vs [] Γ k := fun pn As H0 M H σ O n S us r Q c => by
  cases r
  exact ⟨rfl, c σ Γ S rfl q⟩
theorem gws_cons {g : TG} {gs : TGs} {vs : List Nat} {d : DV} {ds : List DV} {k : List SA → Prop} (h : GW K g vs d Γ fun Γ1 => GWs K gs vs ds Γ1 k) : GWs K (gCons g gs) vs (d :: ds) Γ k := fun pn As H0 M H σ O n S us r Q c => by
  cases r with
  | cons a b => exact ⟨_, _, rfl, h pn As H0 M H σ O n S _ a _ fun σ1 Γ1 S1 w1 q1 => q1 pn As H0 M H σ1 O n S1 _ b Q fun σ2 Γ2 S2 w2 => c σ2 Γ2 S2 (w2.trans w1)⟩
theorem gw_tup {nn : Nat} {gs : TGs} {vs : List Nat} {ds : List DV} {k : List SA → Prop} (hl : ds.length = nn) (h : GWs K gs vs ds Γ k) : GW K (gTup K nn gs) vs (.tup ds) Γ k := fun pn As H0 M H σ O n S v r Q c => by
  obtain ⟨a, us, rfl, g1, g2⟩ := r.tup'
  exact ⟨a, us, rfl, Evl.ex_t S.ex g1, by rw [g2.length]; exact hl, h pn As H0 M H σ O n S us g2 Q c⟩
/-! ### list comprehensions -/
def wipeG (Γ : List SA) : List Nat → List SA
  | [] => Γ
  | v :: vs => (wipeG Γ vs).set v .no
theorem Sta.noslot (S : Sta K pn As H0 M H σ Γ O n) (v : Nat) : Sta K pn As H0 M H (σ.set v none) (Γ.set v .no) O n := by
  refine ⟨S.toFin, S.own, S.live, S.pr, S.nd, S.len, by simpa using S.sl, fun j t h => ?_⟩
  by_cases hj : v = j
  · subst hj
    have hv : v < Γ.length := by
      have := (List.getElem?_eq_some_iff.mp h).1
      simpa using this
    rw [List.getElem?_set_self hv] at h
    cases h
    exact True.intro
  · rw [List.getElem?_set_ne hj] at h ⊢
    exact S.ok j t h
theorem Sta.wiped (S : Sta K pn As H0 M H σ Γ O n) : ∀ vs : List Nat, Sta K pn As H0 M H (wipe σ vs) (wipeG Γ vs) O n
  | [] => S
  | v :: vs => (S.wiped vs).noslot v
/-- slots of elsewhere over the same heap -/
theorem Sta.swap {σ2 : L2.St} {Γ2 : List SA} {H2 M2 : Hp} {n2 : Nat} (S2 : Sta K pn As H0 M2 H2 σ2 Γ2 O n2) (S : Sta K pn As H0 M H σ Γ O n) (e : Ex M M2) : Sta K pn As H0 M2 H2 σ Γ O n2 :=
  ⟨S2.toFin, S2.own, S2.live, S2.pr, S2.nd, S2.len, S.sl, fun i t h => (S.ok i t h).mono e⟩
theorem Sta.lay' (S : Sta K pn As H0 M H σ Γ O n) {p : Addr} {o : HO} (hM : M p = none) (h0 : H0 p = none) (hpn : some p ≠ pn) (hAs : p ∉ As) (hP : ¬ H0.P p) : Sta K pn As H0 M (upd H p o) σ Γ O n := by
  refine ⟨⟨fun a u h => ?_, fun a u h1 h2 => ?_, fun q hq => ?_⟩, fun j a ds h1 h2 => ?_, fun a h => upd_live (S.live a h), fun a h => ⟨(S.pr a h).1, upd_live (S.pr a h).2.1, (S.pr a h).2.2⟩, S.nd, S.len, S.sl, S.ok⟩
  · rw [upd_ne (ne_of_none h hM)]; exact S.ex a u h
  · rw [upd_ne (ne_of_none h2 h0)]; exact S.kp a u h1 h2
  · obtain ⟨h1, h2⟩ := S.pen q hq
    exact ⟨h1, h2.mono (Evl.Ex.refl _) (by rw [upd_ne (fun z => hpn (by rw [← z, hq]))]) (Nat.le_refl _)⟩
  · obtain ⟨h3, h4, h5, vs, h6, h7⟩ := S.own j a ds h1 h2
    exact ⟨h3, h4, h5, vs, by rw [upd_ne (fun z => hAs (by rw [← z]; exact List.mem_of_getElem? h1))]; exact h6, h7⟩
/-- the general form: P by the turn, what is made so far, the pen's bound -/
theorem wl_lc {wi : TI} {g : TG} {tt : TT} {vs : List Nat} {k : List DV → Nat → Prop}
    (h : SW K wi Γ O n fun xs n1 => xs.length ≤ 100000 ∧ ∃ P : Nat → List DV → Nat → Prop, P 0 [] n1 ∧
      (∀ (i : Nat) (x : DV) (acc : List DV) (n2 : Nat), xs[i]? = some x → P i acc n2 → GW K g vs x (wipeG Γ vs) fun Γ2 => WT K tt Γ2 O n2 fun b n3 =>
        (b = true → W K te Γ2 O n3 fun y n4 => P (i + 1) (acc ++ [y]) n4) ∧ (b = false → P (i + 1) acc n3)) ∧ ∀ acc n2, P xs.length acc n2 → k acc n2) :
    WL K (tLc wi g tt te vs) Γ O n k := fun pn As H0 M H σ S Q c =>
  h pn As H0 M H σ S _ fun J M1 H1 xs n1 e1 S1 it ⟨hz, P, p0, step, fin⟩ => fun D hD => by
    have hDM : M1 D = none := Evl.fresh_back S1.ex hD
    have h0D : H0 D = none := by
      cases e : H0 D with
      | none => rfl
      | some o =>
        by_cases hpn : some D = pn
        · obtain ⟨_, _, _, _, _, h3, _⟩ := S1.pen D hpn.symm
          rw [hD] at h3; cases h3
        · rw [S1.kp D o hpn e] at hD; cases hD
    have hpn : some D ≠ pn := fun z => by
      obtain ⟨_, _, _, _, _, h3, _⟩ := S1.pen D z.symm
      rw [hD] at h3; cases h3
    have hAs : D ∉ As := fun z => S1.live D z hD
    have hP : ¬ H0.P D := fun z => (S1.pr D z).2.1 hD
    -- D kept apart: it stands, unfrozen
    have apart : ∀ {M' H' : Hp} {τ : L2.St} {Δ : List SA} {n2 : Nat} {ws : List V}, Sta K pn As H0 M' H' τ Δ O n2 → M' D = none → H' D = some (.lst ws) →
        Sta K pn As ⟨upd H0.h D (.lst ws), fun a => H0.P a ∨ a = D⟩ M' H' τ Δ O n2 := fun {M' H' τ Δ n2 ws} T h1 h2 => by
      refine ⟨⟨T.ex, fun a o g1 g2 => ?_, T.pen⟩, fun j a ds g1 g2 => ?_, T.live, fun a g => ?_, T.nd, T.len, T.sl, T.ok⟩
      · have g2 : upd H0.h D (.lst ws) a = some o := g2
        by_cases ha : a = D
        · subst ha; rw [upd_same] at g2; rw [h2, ← g2]
        · rw [upd_ne ha] at g2; exact T.kp a o g1 g2
      · obtain ⟨g3, g4, g5⟩ := T.own j a ds g1 g2
        have ha : a ≠ D := fun z => hAs (z ▸ List.mem_of_getElem? g1)
        exact ⟨g3, (upd_ne ha).trans g4, g5⟩
      · rcases g with g | g
        · exact ⟨(T.pr a g).1, (T.pr a g).2.1, upd_live (T.pr a g).2.2⟩
        · subst g; exact ⟨h1, (by rw [h2]; exact fun z => nomatch z), upd_live'⟩
    have back : ∀ {M' H' : Hp} {τ : L2.St} {Δ : List SA} {n2 : Nat} {ws : List V}, Sta K pn As ⟨upd H0.h D (.lst ws), fun a => H0.P a ∨ a = D⟩ M' H' τ Δ O n2 →
        Sta K pn As H0 M' H' τ Δ O n2 ∧ M' D = none ∧ H' D = some (.lst ws) := fun {M' H' τ Δ n2 ws} T => by
      refine ⟨⟨⟨T.ex, fun a o g1 g2 => ?_, T.pen⟩, fun j a ds g1 g2 => ?_, T.live, fun a g => ⟨(T.pr a (.inl g)).1, (T.pr a (.inl g)).2.1, fun z => (T.pr a (.inl g)).2.2 ((upd_ne (show a ≠ D from fun y => hP (y ▸ g))).trans z)⟩, T.nd, T.len, T.sl, T.ok⟩, (T.pr D (.inr rfl)).1, T.kp D _ hpn upd_same⟩
      · exact T.kp a o g1 ((upd_ne (ne_of_none g2 h0D)).trans g2)
      · obtain ⟨g3, g4, g5⟩ := T.own j a ds g1 g2
        have ha : a ≠ D := fun z => hAs (z ▸ List.mem_of_getElem? g1)
        exact ⟨g3, (upd_ne (H := H0.h) (o := .lst ws) ha).symm.trans g4, g5⟩
    refine ⟨fun i m H' => m = xs.length - i ∧ i ≤ xs.length ∧ ∃ M' ws acc n2, Ex M1 M' ∧ Sta K pn As H0 M' H' σ Γ O n2 ∧ M' D = none ∧ H' D = some (.lst ws) ∧ RpL K M' ws acc ∧ acc.length ≤ i ∧ P i acc n2,
      ⟨xs.length, by simp, Nat.zero_le _, M1, [], [], n1, Evl.Ex.refl M1, S1.lay hD, hDM, upd_same, .nil, Nat.le_refl _, p0⟩, ?_⟩
    rintro i m H' ⟨rfl, hi, M', ws, acc, n2, e2, S2, hD2, hw, rw2, hl2, p2⟩
    by_cases hlt : i < xs.length
    · have S2' := apart S2 hD2 hw
      obtain ⟨gd, sd⟩ := it pn As _ M' H' σ Γ O n2 e2 S2' i
      have hx : xs[i]? = some xs[i] := by simp [hlt]
      obtain ⟨g1, g2⟩ := gd _ hx
      refine .inr ⟨g1, fun H'' => i + 1 ≤ xs.length ∧ ∃ M' ws acc n2, Ex M1 M' ∧ Sta K pn As H0 M' H'' σ Γ O n2 ∧ M' D = none ∧ H'' D = some (.lst ws) ∧ RpL K M' ws acc ∧ acc.length ≤ i + 1 ∧ P (i + 1) acc n2,
        fun H'' q => ⟨xs.length - (i + 1), by omega, rfl, q⟩, fun z H3 hy => ?_⟩
      obtain ⟨M3, e3, S3, r3⟩ := g2 z H3 hy
      refine step i _ acc n2 hx p2 pn As _ M3 H3 (wipe σ vs) O n2 (S3.wiped vs) z r3 _ fun σ4 Γ4 S4 w4 q4 => ⟨w4.trans (wipe_wipe vs), ?_⟩
      refine q4 pn As _ M3 H3 σ4 S4 _ fun b M5 H5 n5 e5 S5 q5 => ?_
      cases b with
      | false =>
        rw [if_neg Bool.false_ne_true]
        obtain ⟨S6, d6, h6⟩ := back (S5.swap S3 e5)
        exact ⟨hlt, M5, ws, acc, n5, Evl.Ex.trans e2 (Evl.Ex.trans e3 e5), S6, d6, h6, rw2.mono (Evl.Ex.trans e3 e5), Nat.le_succ_of_le hl2, q5.2 rfl⟩
      | true =>
        rw [if_pos rfl]
        refine q5.1 rfl pn As _ M5 H5 σ4 S5 _ fun u M7 H7 y n7 e7 S7 r7 q7 => ?_
        obtain ⟨S8, d8, h8⟩ := back (S7.swap S3 (Evl.Ex.trans e5 e7))
        have hlw : ws.length = acc.length := rw2.length
        refine ⟨ws, h8, Evl.sz_lt (by omega), hlt, M7, ws ++ [u], acc ++ [y], n7, Evl.Ex.trans e2 (Evl.Ex.trans e3 (Evl.Ex.trans e5 e7)), S8.lay' d8 h0D hpn hAs hP, d8, upd_same, (rw2.mono (Evl.Ex.trans e3 (Evl.Ex.trans e5 e7))).append (.cons r7 .nil), by simp; omega, q7⟩
    · have e : i = xs.length := by omega
      subst e
      obtain ⟨_, sd⟩ := it pn As H0 M' H' σ Γ O n2 e2 S2 xs.length
      exact .inl ⟨sd (Nat.le_refl _), c D ws M' H' acc n2 (Evl.Ex.trans e1 e2) S2 hD2 h0D hpn hAs hP hw rw2 (fin acc n2 p2)⟩
end
end DL
namespace DL
open PySem PySem.Spec PyProof.Rows L2
section
variable {K : Fg} {pn : Option Addr} {As : List Addr} {H0 : Ent} {M M' H H' : Hp} {σ : L2.St} {Γ : List SA} {O : Own} {n m : Nat} {te ta tb : TE} {x y : DV} {E : KE}
/-! ### statements -/
theorem ws_next (q : E.nx Γ O n) : WS K tNext Γ O n E := fun pn As H0 M H σ D S s => s.nx As M H σ Γ O n (List.prefix_refl _) (Evl.Ex.refl M) S q
theorem ws_seq {t u : TS} (h : WS K t Γ O n { E with nx := fun Γ1 O1 n1 => WS K u Γ1 O1 n1 E }) : WS K (tSeq t u) Γ O n E := fun pn As H0 M H σ D S s =>
  h pn As H0 M H σ { D with nx := u D } S ⟨fun As1 M1 H1 σ1 Γ1 O1 n1 p1 e1 S1 q => q pn As1 H0 M1 H1 σ1 D S1 (s.at p1 e1), s.rt, s.bk, s.ct⟩
theorem ws_break (q : E.bk Γ O n) : WS K tBreak Γ O n E := fun pn As H0 M H σ D S s => s.bk As M H σ Γ O n (List.prefix_refl _) (Evl.Ex.refl M) S q
theorem ws_cont (q : E.ct Γ O n) : WS K tCont Γ O n E := fun pn As H0 M H σ D S s => s.ct As M H σ Γ O n (List.prefix_refl _) (Evl.Ex.refl M) S q
theorem ws_asg {i : Nat} (h : W K te Γ O n fun d n1 => E.nx (Γ.set i (.is d)) O n1) : WS K (tAsg te (gName i)) Γ O n E := fun pn As H0 M H σ D S s =>
  h pn As H0 M H σ S _ fun v M1 H1 d n1 e1 S1 r1 q1 => s.nx As M1 H1 _ _ O n1 (List.prefix_refl _) e1 (S1.store r1) q1
theorem Sta.addOwn (S : Sta K pn As H0 M H σ Γ O n) {p : Addr} {vs : List V} {ds : List DV} (h1 : M p = none) (h2 : H0 p = none) (h3 : some p ≠ pn) (h4 : p ∉ As) (h5 : H p = some (.lst vs)) (h6 : RpL K M vs ds) :
    Sta K pn (As ++ [p]) H0 M H σ Γ (O ++ [some ds]) n := by
  refine ⟨S.toFin, fun j a es g1 g2 => ?_, fun a h => ?_, S.pr, ?_, by simp [S.len], S.sl, fun j t h => ?_⟩
  · by_cases hj : j < As.length
    · rw [List.getElem?_append_left hj] at g1
      rw [List.getElem?_append_left (by rw [← S.len]; exact hj)] at g2
      exact S.own j a es g1 g2
    · have hj2 : j = As.length := by
        have := (List.getElem?_eq_some_iff.mp g1).1
        simp at this; omega
      subst hj2
      rw [List.getElem?_append_right (Nat.le_refl _)] at g1
      rw [List.getElem?_append_right (by rw [← S.len]; exact Nat.le_refl _)] at g2
      simp at g1; simp [S.len] at g2
      subst g1 g2
      exact ⟨h1, h2, h3, vs, h5, h6⟩
  · rcases List.mem_append.mp h with h | h
    · exact S.live a h
    · simp at h; subst h; rw [h5]; exact fun z => by cases z
  · rw [List.nodup_append]
    exact ⟨S.nd, by simp, fun a ha b hb => by simp at hb; subst hb; exact fun z => h4 (z ▸ ha)⟩
  · have q := S.ok j t h
    cases t with
    | no => exact True.intro
    | is d => exact q
    | own l =>
      obtain ⟨a, q1, q2⟩ := q
      exact ⟨a, by rw [List.getElem?_append_left (List.getElem?_eq_some_iff.mp q1).1]; exact q1, q2⟩
    | pen => exact q
theorem Sta.storeOwn (S : Sta K pn As H0 M H σ Γ O n) {i j : Nat} {a : Addr} (h : As[j]? = some a) : Sta K pn As H0 M H (σ.set i (some (.ref a))) (Γ.set i (.own j)) O n := by
  refine ⟨S.toFin, S.own, S.live, S.pr, S.nd, S.len, by simpa using S.sl, fun l t g => ?_⟩
  by_cases hj : i = l
  · subst hj
    have hi : i < Γ.length := by
      have := (List.getElem?_eq_some_iff.mp g).1
      simpa using this
    rw [List.getElem?_set_self hi] at g
    cases g
    rw [List.getElem?_set_self (by rw [S.sl]; exact hi)]
    exact ⟨a, h, rfl⟩
  · rw [List.getElem?_set_ne hj] at g ⊢
    exact S.ok l t g
/-- a new list that is to be changed -/
theorem ws_asgOwn {i : Nat} (h : WL K te Γ O n fun ds n1 => E.nx (Γ.set i (.own O.length)) (O ++ [some ds]) n1) : WS K (tAsg te (gName i)) Γ O n E := fun pn As H0 M H σ D S s =>
  h pn As H0 M H σ S _ fun p vs M1 H1 ds n1 e1 S1 h1 h2 h3 h4 hP h5 h6 h7 =>
    s.nx (As ++ [p]) M1 H1 _ _ _ n1 (List.prefix_append _ _) e1 ((S1.addOwn h1 h2 h3 h4 h5 h6).storeOwn (j := O.length) (by rw [← S1.len]; simp)) h7
/-- an own list changes -/
theorem Sta.setOwn (S : Sta K pn As H0 M H σ Γ O n) {j : Nat} {a : Addr} {ds es : List DV} {ws : List V} (ha : As[j]? = some a) (ho : O[j]? = some (some ds)) (r : RpL K M ws es) :
    Sta K pn As H0 M (upd H a (.lst ws)) σ Γ (O.set j (some es)) n := by
  obtain ⟨g1, g2, g3, us, g4, g5⟩ := S.own j a ds ha ho
  refine ⟨⟨fun b u h => ?_, fun b u h1 h2 => ?_, fun q hq => ?_⟩, fun l b fs h1 h2 => ?_, fun b h => upd_live (S.live b h), fun b h => ⟨(S.pr b h).1, upd_live (S.pr b h).2.1, (S.pr b h).2.2⟩, S.nd, by simp [S.len], S.sl, S.ok⟩
  · rw [upd_ne (ne_of_none h g1)]; exact S.ex b u h
  · rw [upd_ne (ne_of_none h2 g2)]; exact S.kp b u h1 h2
  · obtain ⟨h1, h2⟩ := S.pen q hq
    exact ⟨h1, h2.mono (Evl.Ex.refl _) (by rw [upd_ne (fun z => g3 (by rw [← z, hq]))]) (Nat.le_refl _)⟩
  · by_cases hl : j = l
    · subst hl
      rw [ha] at h1; cases h1
      have hj : j < O.length := (List.getElem?_eq_some_iff.mp ho).1
      rw [List.getElem?_set_self hj] at h2
      cases h2
      exact ⟨g1, g2, g3, ws, upd_same, r⟩
    · rw [List.getElem?_set_ne hl] at h2
      obtain ⟨f1, f2, f3, vs, f4, f5⟩ := S.own l b fs h1 h2
      refine ⟨f1, f2, f3, vs, ?_, f5⟩
      rw [upd_ne]
      · exact f4
      · intro z
        subst z
        exact hl ((List.getElem?_inj (List.getElem?_eq_some_iff.mp ha).1 S.nd).mp (ha.trans h1.symm))
/-- an own list is kept for good -/
theorem Sta.freeze (S : Sta K pn As H0 M H σ Γ O n) {i j : Nat} {ds : List DV} (hi : Γ[i]? = some (.own j)) (ho : O[j]? = some (some ds)) :
    ∃ M', Ex M M' ∧ Sta K pn As H0 M' H σ (Γ.set i (.is (.lst ds))) (O.set j none) n := by
  obtain ⟨a, vs, h1, h2, h3, h4, h5, h6, h7⟩ := S.slotOwn hi ho
  have ex : Ex M (upd M a (.lst vs)) := Evl.Ex.new h5
  refine ⟨_, ex, ⟨⟨fun b u h => ?_, S.kp, fun q hq => ?_⟩, fun l b fs g1 g2 => ?_, S.live, fun b h => ?_, S.nd, by simp [S.len], by simpa using S.sl, fun l t g => ?_⟩⟩
  · by_cases hb : b = a
    · subst hb; rw [upd_same] at h; rw [← h]; exact h3
    · rw [upd_ne hb] at h; exact S.ex b u h
  · obtain ⟨g1, g2⟩ := S.pen q hq
    exact ⟨by rw [upd_ne (fun z => h7 (by rw [← z, hq]))]; exact g1, g2.mono ex rfl (Nat.le_refl _)⟩
  · by_cases hl : j = l
    · subst hl
      have hj : j < O.length := (List.getElem?_eq_some_iff.mp ho).1
      rw [List.getElem?_set_self hj] at g2
      cases g2
    · rw [List.getElem?_set_ne hl] at g2
      obtain ⟨f1, f2, f3, us, f4, f5⟩ := S.own l b fs g1 g2
      refine ⟨?_, f2, f3, us, f4, f5.mono ex⟩
      rw [upd_ne]
      · exact f1
      · intro z
        subst z
        exact hl ((List.getElem?_inj (List.getElem?_eq_some_iff.mp h2).1 S.nd).mp (h2.trans g1.symm))
  · exact ⟨by rw [upd_ne (show b ≠ a from fun z => (S.pr b h).2.2 (by rw [z]; exact h6))]; exact (S.pr b h).1, (S.pr b h).2⟩
  · by_cases hj : i = l
    · subst hj
      have hi' : i < Γ.length := by
        have := (List.getElem?_eq_some_iff.mp g).1
        simpa using this
      rw [List.getElem?_set_self hi'] at g
      cases g
      exact ⟨.ref a, by rw [h1]; rfl, .lst upd_same (h4.mono ex)⟩
    · rw [List.getElem?_set_ne hj] at g
      exact (S.ok l t g).mono ex
/-- an own list that is not to be changed any more -/
theorem ws_freeze {ts : TS} {i j : Nat} {ds : List DV} (hi : Γ[i]? = some (.own j)) (ho : O[j]? = some (some ds)) (h : WS K ts (Γ.set i (.is (.lst ds))) (O.set j none) n E) : WS K ts Γ O n E := fun pn As H0 M H σ D S s => by
  obtain ⟨M', e, S'⟩ := S.freeze hi ho
  exact h pn As H0 M' H σ D S' (s.on e)
theorem Sta.fin (S : Sta K pn As H0 M H σ Γ O n) : Fin K pn H0 M H n := S.toFin
theorem ws_ret (h : W K te Γ O n fun d n1 => E.rt d O n1) : WS K (tRet te) Γ O n E := fun pn As H0 M H σ D S s =>
  h pn As H0 M H σ S _ fun v M1 H1 d n1 e1 S1 r1 q1 => s.rt As v M1 H1 σ Γ O d n1 (List.prefix_refl _) e1 S1 r1 q1
theorem ws_retN (q : E.rt .non O n) : WS K tRetN Γ O n E := fun pn As H0 M H σ D S s => s.rt As .non M H σ Γ O .non n (List.prefix_refl _) (Evl.Ex.refl M) S .non q
/-- return of an own list -/
theorem ws_retOwn {i j : Nat} {ds : List DV} (hi : Γ[i]? = some (.own j)) (ho : O[j]? = some (some ds)) (q : E.rt (.lst ds) (O.set j none) n) : WS K (tRet (tVar i)) Γ O n E :=
  ws_freeze hi ho (ws_ret (w_var (by rw [List.getElem?_set_self (List.getElem?_eq_some_iff.mp hi).1]) q))
theorem ws_drop (h : W K te Γ O n fun _ n1 => E.nx Γ O n1) : WS K (tDrop te) Γ O n E := fun pn As H0 M H σ D S s =>
  h pn As H0 M H σ S _ fun v M1 H1 d n1 e1 S1 r1 q1 => s.nx As M1 H1 σ Γ O n1 (List.prefix_refl _) e1 S1 q1
theorem ws_if {t : TT} {u w : TS} (h : WT K t Γ O n fun b n1 => (b = true → WS K u Γ O n1 E) ∧ (b = false → WS K w Γ O n1 E)) : WS K (tIfS t u w) Γ O n E := fun pn As H0 M H σ D S s =>
  h pn As H0 M H σ S _ fun b M1 H1 n1 e1 S1 q => by
    cases b with
    | true => exact q.1 rfl pn As H0 M1 H1 σ D S1 (s.on e1)
    | false => exact q.2 rfl pn As H0 M1 H1 σ D S1 (s.on e1)
theorem ws_par {i j : Nat} {ta : TA} (h : WA K ta Γ O n fun xs n1 => ∃ x y, xs = [x, y] ∧ E.nx ((Γ.set i (.is x)).set j (.is y)) O n1) : WS K (tPar i j ta) Γ O n E := fun pn As H0 M H σ D S s =>
  h pn As H0 M H σ S _ fun vs M1 H1 xs n1 e1 S1 r1 ⟨x, y, e, q⟩ => by
    subst e
    obtain ⟨u, w, rfl, r, r'⟩ := r1.two
    exact ⟨u, w, rfl, s.nx As M1 H1 _ _ O n1 (List.prefix_refl _) e1 ((S1.store r).store r') q⟩
theorem ws_aug {i : Nat} {f : Int → Int → Int} {a : Int} (hi : Γ[i]? = some (.is (.int a))) (h : W K te Γ O n fun d n1 => ∃ b, d = .int b ∧ E.nx (Γ.set i (.is (.int (f a b)))) O n1) : WS K (tAug i te (ipI f)) Γ O n E := fun pn As H0 M H σ D S s => by
  obtain ⟨v, h1, h2⟩ := S.slot hi
  cases h2
  refine ⟨_, h1, h pn As H0 M H σ S _ fun w M1 H1 d n1 e1 S1 r1 ⟨b, e, q⟩ => ?_⟩
  subst e
  exact ⟨a, b, rfl, r1.int', s.nx As M1 H1 _ _ O n1 (List.prefix_refl _) e1 (S1.store (.int _)) q⟩
/-- targets of all kinds -/
def XG (K : Fg) (g : TG) (x : DV) (Γ : List SA) (O : Own) (n : Nat) (k : List SA → Own → Nat → Prop) : Prop :=
  ∀ (pn : Option Addr) (As : List Addr) (H0 : Ent) (M H : Hp) (σ : L2.St), Sta K pn As H0 M H σ Γ O n → ∀ v, Rp K M v x → ∀ Q : L2.St → Hp → Prop,
    (∀ As' M' H' σ' Γ' O' n', As <+: As' → Ex M M' → Sta K pn As' H0 M' H' σ' Γ' O' n' → k Γ' O' n' → Q σ' H') → g v σ H Q
def XGs (K : Fg) (g : TGs) (ds : List DV) (Γ : List SA) (O : Own) (n : Nat) (k : List SA → Own → Nat → Prop) : Prop :=
  ∀ (pn : Option Addr) (As : List Addr) (H0 : Ent) (M H : Hp) (σ : L2.St), Sta K pn As H0 M H σ Γ O n → ∀ vs, RpL K M vs ds → ∀ Q : L2.St → Hp → Prop,
    (∀ As' M' H' σ' Γ' O' n', As <+: As' → Ex M M' → Sta K pn As' H0 M' H' σ' Γ' O' n' → k Γ' O' n' → Q σ' H') → g vs σ H Q
theorem xg_name {i : Nat} {k : List SA → Own → Nat → Prop} (q : k (Γ.set i (.is x)) O n) : XG K (gName i) x Γ O n k := fun pn As H0 M H σ S v r Q c => c As M H _ _ O n (List.prefix_refl _) (Evl.Ex.refl M) (S.store r) q
theorem xgs_nil {k : List SA → Own → Nat → Prop} (q : k Γ O n) : XGs K gNil [] Γ O n k := fun pn As H0 M H σ S vs r Q c => by
  cases r
  exact ⟨rfl, c As M H σ Γ O n (List.prefix_refl _) (Evl.Ex.refl M) S q⟩
theorem xgs_cons {g : TG} {gs : TGs} {d : DV} {ds : List DV} {k : List SA → Own → Nat → Prop} (h : XG K g d Γ O n fun Γ1 O1 n1 => XGs K gs ds Γ1 O1 n1 k) : XGs K (gCons g gs) (d :: ds) Γ O n k := fun pn As H0 M H σ S vs r Q c => by
  cases r with
  | cons a b => exact ⟨_, _, rfl, h pn As H0 M H σ S _ a _ fun As1 M1 H1 σ1 Γ1 O1 n1 p1 e1 S1 q1 => q1 pn As1 H0 M1 H1 σ1 S1 _ (b.mono e1) Q fun As2 M2 H2 σ2 Γ2 O2 n2 p2 e2 => c As2 M2 H2 σ2 Γ2 O2 n2 (p1.trans p2) (Evl.Ex.trans e1 e2)⟩
theorem xg_tup {nn : Nat} {gs : TGs} {ds : List DV} {k : List SA → Own → Nat → Prop} (hl : ds.length = nn) (h : XGs K gs ds Γ O n k) : XG K (gTup K nn gs) (.tup ds) Γ O n k := fun pn As H0 M H σ S v r Q c => by
  obtain ⟨a, us, rfl, g1, g2⟩ := r.tup'
  exact ⟨a, us, rfl, Evl.ex_t S.ex g1, by rw [g2.length]; exact hl, h pn As H0 M H σ S us g2 Q c⟩
/-- xs[e] = .., xs an own list -/
theorem xg_set {i j : Nat} {ds : List DV} {ti : TE} {k : List SA → Own → Nat → Prop} (hi : Γ[i]? = some (.own j)) (ho : O[j]? = some (some ds))
    (h : W K ti Γ O n fun d n1 => ∃ (a : Int) (l : Nat), d = .int a ∧ ixN ds.length a = some l ∧ k Γ (O.set j (some (ds.set l x))) n1) : XG K (gSub (tVar i) ti rSetL) x Γ O n k := fun pn As H0 M H σ S v r Q c => by
  obtain ⟨a, vs, h1, h2, _⟩ := S.slotOwn hi ho
  refine ⟨_, h1, h pn As H0 M H σ S _ fun w M1 H1 d n1 e1 S1 r1 ⟨z, l, ez, hz, q⟩ => ?_⟩
  subst ez
  obtain ⟨a', vs', g1, g2, g3, g4, _⟩ := S1.slotOwn hi ho
  rw [h1] at g1; cases g1
  exact ⟨a, vs', z, l, rfl, r1.int', g3, by rw [g4.length]; exact hz, c As M1 _ σ Γ _ n1 (List.prefix_refl _) e1 (S1.setOwn g2 ho (RpL.set (r.mono e1) l g4)) q⟩
theorem ws_asgG {g : TG} (h : W K te Γ O n fun d n1 => XG K g d Γ O n1 E.nx) : WS K (tAsg te g) Γ O n E := fun pn As H0 M H σ D S s =>
  h pn As H0 M H σ S _ fun v M1 H1 d n1 e1 S1 r1 q1 => q1 pn As H0 M1 H1 σ S1 v r1 _ fun As2 M2 H2 σ2 Γ2 O2 n2 p2 e2 S2 q2 => s.nx As2 M2 H2 σ2 Γ2 O2 n2 p2 (Evl.Ex.trans e1 e2) S2 q2
/-- xs.append(e), xs an own list -/
theorem ws_append {i j : Nat} {ds : List DV} (hi : Γ[i]? = some (.own j)) (ho : O[j]? = some (some ds)) (hz : ds.length < 100000) (h : W K te Γ O n fun d n1 => E.nx Γ (O.set j (some (ds ++ [d]))) n1) :
    WS K (tDrop (tBM K "list" rAppend (tVar i) (tCons te tNil))) Γ O n E := fun pn As H0 M H σ D S s => by
  obtain ⟨a, vs, h1, h2, h3, _⟩ := S.slotOwn hi ho
  refine ⟨_, h1, .inl ⟨rfl, _, .inl (.inl h3)⟩, h pn As H0 M H σ S _ fun w M1 H1 d n1 e1 S1 r1 q => ?_⟩
  obtain ⟨a', vs', g1, g2, g3, g4, _⟩ := S1.slotOwn hi ho
  rw [h1] at g1; cases g1
  exact ⟨a, vs', w, rfl, rfl, g3, Evl.sz_lt (by rw [g4.length]; exact hz), s.nx As M1 _ σ Γ _ n1 (List.prefix_refl _) e1 (S1.setOwn g2 ho (g4.append (.cons r1 .nil))) q⟩
def rInsert : V → List V → Hp → VK → Prop := fun x vs H Q => ∃ (l : Addr) (xs : List V) (i : Int) (y : V), x = .ref l ∧ vs = [.int i, y] ∧ H l = some (.lst xs) ∧ xs.length < sizeLine ∧ 0 ≤ i ∧ i < 2 ^ 63 ∧
    Q .non (upd H l (.lst (xs.take i.toNat ++ [y] ++ xs.drop i.toNat)))
theorem ws_insert {i j : Nat} {ds : List DV} {ta : TA} (hi : Γ[i]? = some (.own j)) (ho : O[j]? = some (some ds)) (hz : ds.length < 100000) (h : WA K ta Γ O n fun xs n1 => ∃ (l : Nat) (d : DV), xs = [.int (l : Int), d] ∧ l ≤ ds.length ∧ E.nx Γ (O.set j (some (ds.take l ++ [d] ++ ds.drop l))) n1) :
    WS K (tDrop (tBM K "list" rInsert (tVar i) ta)) Γ O n E := fun pn As H0 M H σ D S s => by
  obtain ⟨a, vs, h1, h2, h3, _⟩ := S.slotOwn hi ho
  refine ⟨_, h1, .inl ⟨rfl, _, .inl (.inl h3)⟩, h pn As H0 M H σ S _ fun ws M1 H1 xs n1 e1 S1 r1 ⟨l, d, e, hl, q⟩ => ?_⟩
  subst e
  obtain ⟨u, w, rfl, r, r'⟩ := r1.two
  cases r
  obtain ⟨a', vs', g1, g2, g3, g4, _⟩ := S1.slotOwn hi ho
  rw [h1] at g1; cases g1
  refine ⟨a, vs', (l : Int), w, rfl, rfl, g3, Evl.sz_lt (by rw [g4.length]; exact hz), by omega, by omega, ?_⟩
  rw [Int.toNat_natCast]
  exact s.nx As M1 _ σ Γ _ n1 (List.prefix_refl _) e1 (S1.setOwn g2 ho (((g4.take l).append (.cons r' .nil)).append (g4.drop l))) q
/-! ### loops -/
theorem ws_for {wi : TI} {g : TG} {tb : TS} {vs : List Nat}
    (h : SW K wi Γ O n fun xs n1 => ∃ I : Nat → List SA → Own → Nat → Prop, I 0 Γ O n1 ∧
      (∀ (i : Nat) (x : DV) (Γ' : List SA) (O' : Own) (n' : Nat), xs[i]? = some x → I i Γ' O' n' → GW K g vs x Γ' fun Γ2 => WS K tb Γ2 O' n' { nx := I (i + 1), ct := I (i + 1), bk := E.nx, rt := E.rt }) ∧
      ∀ Γ' O' n', I xs.length Γ' O' n' → E.nx Γ' O' n') : WS K (tFor wi g tb) Γ O n E := fun pn As H0 M H σ D S s =>
  h pn As H0 M H σ S _ fun J M1 H1 xs n1 e1 S1 it ⟨I, i0, step, fin⟩ => by
    refine ⟨fun i m σ' H' => m = xs.length - i ∧ i ≤ xs.length ∧ ∃ As' M' Γ' O' n', As <+: As' ∧ Ex M1 M' ∧ Sta K pn As' H0 M' H' σ' Γ' O' n' ∧ I i Γ' O' n', ⟨xs.length, by simp, Nat.zero_le _, As, M1, Γ, O, n1, List.prefix_refl _, Evl.Ex.refl M1, S1, i0⟩, ?_⟩
    rintro i m σ' H' ⟨rfl, hi, As', M', Γ', O', n', pA, e2, S2, p2⟩
    obtain ⟨gd, sd⟩ := it pn As' H0 M' H' σ' Γ' O' n' e2 S2 i
    by_cases hlt : i < xs.length
    · have hx : xs[i]? = some xs[i] := by simp [hlt]
      obtain ⟨g1, g2⟩ := gd _ hx
      refine .inr ⟨g1, fun σ'' H'' => i + 1 ≤ xs.length ∧ ∃ As' M' Γ' O' n', As <+: As' ∧ Ex M1 M' ∧ Sta K pn As' H0 M' H'' σ'' Γ' O' n' ∧ I (i + 1) Γ' O' n', fun σ'' H'' q => ⟨xs.length - (i + 1), by omega, rfl, q⟩, fun z H3 hy => ?_⟩
      obtain ⟨M3, e3, S3, r3⟩ := g2 z H3 hy
      have e13 : Ex M1 M3 := Evl.Ex.trans e2 e3
      refine step i _ Γ' O' n' hx p2 pn As' H0 M3 H3 σ' O' n' S3 z r3 _ fun σ4 Γ4 S4 w4 q4 => ?_
      refine q4 pn As' H0 M3 H3 σ4 _ S4 ⟨fun A5 M5 H5 σ5 Γ5 O5 n5 p5 e5 S5 q5 => ⟨hlt, A5, M5, Γ5, O5, n5, pA.trans p5, Evl.Ex.trans e13 e5, S5, q5⟩, fun A5 v M5 H5 σ5 Γ5 O5 d n5 p5 e5 => s.rt A5 v M5 H5 σ5 Γ5 O5 d n5 (pA.trans p5) (Evl.Ex.trans e1 (Evl.Ex.trans e13 e5)),
        fun A5 M5 H5 σ5 Γ5 O5 n5 p5 e5 => s.nx A5 M5 H5 σ5 Γ5 O5 n5 (pA.trans p5) (Evl.Ex.trans e1 (Evl.Ex.trans e13 e5)), fun A5 M5 H5 σ5 Γ5 O5 n5 p5 e5 S5 q5 => ⟨hlt, A5, M5, Γ5, O5, n5, pA.trans p5, Evl.Ex.trans e13 e5, S5, q5⟩⟩
    · have e : i = xs.length := by omega
      subst e
      exact .inl ⟨sd (Nat.le_refl _), s.nx As' M' H' σ' Γ' O' n' pA (Evl.Ex.trans e1 e2) S2 (fin Γ' O' n' p2)⟩
theorem ws_while {c : TT} {tb : TS}
    (h : ∃ I : Nat → List SA → Own → Nat → Prop, (∃ m, I m Γ O n) ∧ ∀ m Γ' O' n', I m Γ' O' n' → WT K c Γ' O' n' fun b n2 =>
      (b = true → WS K tb Γ' O' n2 { nx := fun Γ3 O3 n3 => ∃ m', m' < m ∧ I m' Γ3 O3 n3, ct := fun Γ3 O3 n3 => ∃ m', m' < m ∧ I m' Γ3 O3 n3, bk := E.nx, rt := E.rt }) ∧ (b = false → E.nx Γ' O' n2)) : WS K (tWhile c tb) Γ O n E := fun pn As H0 M H σ D S s => by
  obtain ⟨I, ⟨m0, i0⟩, step⟩ := h
  refine ⟨fun m σ' H' => ∃ As' M' Γ' O' n', As <+: As' ∧ Ex M M' ∧ Sta K pn As' H0 M' H' σ' Γ' O' n' ∧ I m Γ' O' n', ⟨m0, As, M, Γ, O, n, List.prefix_refl _, Evl.Ex.refl M, S, i0⟩, ?_⟩
  rintro m σ' H' ⟨As', M', Γ', O', n', pA, e2, S2, p2⟩
  refine step m Γ' O' n' p2 pn As' H0 M' H' σ' S2 _ fun b M3 H3 n3 e3 S3 q3 => ?_
  cases b with
  | false =>
    rw [if_neg Bool.false_ne_true]
    exact s.nx As' M3 H3 σ' Γ' O' n3 pA (Evl.Ex.trans e2 e3) S3 (q3.2 rfl)
  | true =>
    rw [if_pos rfl]
    refine ⟨fun σ'' H'' => ∃ m', m' < m ∧ ∃ As' M' Γ' O' n', As <+: As' ∧ Ex M M' ∧ Sta K pn As' H0 M' H'' σ'' Γ' O' n' ∧ I m' Γ' O' n', fun σ'' H'' q => q, ?_⟩
    have e23 := Evl.Ex.trans e2 e3
    have again : ∀ A5 M5 H5 σ5 Γ5 O5 n5, As' <+: A5 → Ex M3 M5 → Sta K pn A5 H0 M5 H5 σ5 Γ5 O5 n5 → (∃ m', m' < m ∧ I m' Γ5 O5 n5) → ∃ m', m' < m ∧ ∃ As' M' Γ' O' n', As <+: As' ∧ Ex M M' ∧ Sta K pn As' H0 M' H5 σ5 Γ' O' n' ∧ I m' Γ' O' n' :=
      fun A5 M5 H5 σ5 Γ5 O5 n5 p5 e5 S5 ⟨m', hm, q5⟩ => ⟨m', hm, A5, M5, Γ5, O5, n5, pA.trans p5, Evl.Ex.trans e23 e5, S5, q5⟩
    exact q3.1 rfl pn As' H0 M3 H3 σ' _ S3 ⟨again, fun A5 v M5 H5 σ5 Γ5 O5 d n5 p5 e5 => s.rt A5 v M5 H5 σ5 Γ5 O5 d n5 (pA.trans p5) (Evl.Ex.trans e23 e5), fun A5 M5 H5 σ5 Γ5 O5 n5 p5 e5 => s.nx A5 M5 H5 σ5 Γ5 O5 n5 (pA.trans p5) (Evl.Ex.trans e23 e5), again⟩
end
end DL
namespace DL
open PySem PySem.Spec PyProof.Rows L2
/-! calls, with what is known of the repr-guards around -/
section
variable {P : Program} {w : World} {K : Fg} {mg : Str → Option Value} {base : Heap}
structure FnG (P : Program) (w : World) (K : Fg) (mg : Str → Option Value) (base : Heap) (CX : CXT) (k : Nat) (f : Addr) (fd : FuncData) (ps : List Str) (sp : Sp) : Prop where
  len : ∀ vs H Q E, sp vs H Q E → vs.length = ps.length
  go : ∀ (A : Around) (outer : List Env) (s : Shared) (H : Hp) (args : Args) (us : List Value) (vs : List V) (Q : VK) (E : XK), Room k A → A.guards = some [] → Env0 P w K mg base A outer s H →
    BindsTo s fd args (ps.zip us) → Vals vs us → sp vs H Q E → codeAny (model P w) A (.call (.ref f) args) (CR CX outer P w H s Q E) s
theorem FnG.mono {CX : CXT} {j k : Nat} {f : Addr} {fd : FuncData} {ps : List Str} {sp : Sp} (F : FnG P w K mg base CX j f fd ps sp) (h : j ≤ k) : FnG P w K mg base CX k f fd ps sp :=
  ⟨F.len, fun A outer s H args us vs Q E r => F.go A outer s H args us vs Q E (r.mono h)⟩
theorem fnG_fun {CX : CXT} {x qual : Str} {st : Stmt} {f : Addr} {fd : FuncData} {N ps : List Str} {k : Nat} {sp : Sp} (F : Fun K x qual st f fd) (S : FnScope N ps (defScope st))
    (len : ∀ vs H Q E, sp vs H Q E → vs.length = ps.length)
    (hb : ∀ (cdv : Value) (A : Around) (outer : List Env) (s : Shared) (H : Hp) (vs : List V) (Q : VK) (E : XK), Room k (A.deeper (envOfC qual (defScope st) s.heap.objs.size f cdv)) → A.guards = some [] → sp vs H Q E →
      ∃ t, PSs (cxOf CX P w K mg base N qual (defScope st) f cdv A outer s H E) (defBody st) t ∧ t { nx := fun _ H' => Q .non H', rt := Q } (start N vs) H) : FnG P w K mg base CX (k + 1) f fd ps sp := by
  obtain ⟨oc, od, kV, doc, pm, an, cdv, ct, osl, rfl, lk, hcd⟩ := F.ex
  constructor
  · exact len
  intro A outer s H args us vs Q E hr hG e0 hbi rv hsp
  have KX : K.In s.heap := e0.mod.kin.keeps fun b o z => (e0.bs b o z).1
  have lim : s.heap.NoLimit := e0.mod.nolimit.keeps fun b o z => (e0.bs b o z).1
  apply codeAny_call_function hr.depth (KX _ _ lk) rfl S.co S.gen rfl (PySem.W.codeRec_of KX hcd)
  apply hbi
  apply wpAny_newFunctionEnv_cells S.kind
  · rintro ⟨y, u⟩ hy
    rcases S.par y (List.of_mem_zip hy).1 with q | q
    · exact Or.inl q
    · exact Or.inr ⟨q, PySem.W.cellsFrom_some _ _ _ (Or.inl q)⟩
  intro env he s1 hx
  subst he
  refine ⟨lim.keeps hx.toInCall.keep, codeAny_func ?_⟩
  obtain ⟨t, ht, hq⟩ := hb cdv A outer s H vs Q E (hr.deeper _) hG hsp
  have I0 := inv_start (E := E) (CX := CX) S hr.hd e0 (len _ _ _ _ hsp) rv hx
  apply wpAny_mono (ht.run [] s1 _ H _ I0 hq)
  · intro fl s2 h2
    cases fl with
    | ret u =>
      obtain ⟨z, τ, H2, J, r2, q2⟩ := h2
      exact ⟨z, H2, J.os, J.bare, J.base, J.hok, r2, q2⟩
    | next =>
      obtain ⟨τ, H2, J, q2⟩ := h2
      exact ⟨V.non, H2, J.os, J.bare, J.base, J.hok, rfl, q2⟩
    | brk =>
      obtain ⟨_, _, _, q2⟩ := h2
      exact q2.elim
    | cont =>
      obtain ⟨_, _, _, q2⟩ := h2
      exact q2.elim
  · exact fun e s2 h2 => h2
end
section
variable {X : Cx} {CX : CXT} {k : Nat} {f C : Addr} {fd : FuncData} {ps ks : List Str} {sp : Sp} {dvs : List V} {ds : List Value} {E : XK} {x m : Str} {p pos apos kpos : Pos} {e o : Expr} {es : List Expr} {ta te : TE} {t tk : TA} {kws : List Keyword}
  {pins : List (Addr × Obj)} {σ : L2.St} {H : Hp} {s : Shared} {Q : VK} {us ws : List Value} {vs zs : List V}
theorem after_go (I : Inv X pins σ H s) (hx : Passes CX X E) {r : Result} {s' : Shared} (h : CR CX X.stack X.prog X.w H s Q E r s') :
    (match r with | .ok (.ret u) => EP X pins σ Q u s' | .ok _ => False | .error e => X.xe e s') := by
  cases r with
  | error e => exact hx pins σ H s e s' I h
  | ok fl =>
    cases fl with
    | ret u => exact I.after h
    | next => exact h
    | brk => exact h
    | cont => exact h
theorem run_G (F : FnG X.prog X.w X.K X.mg X.base CX k f fd ps sp) (hr : Room k X.A) (hG : X.A.guards = some []) (hb : Binds X.K fd ps ds) (hd : Vals dvs ds) (hx : Passes CX X E)
    (I : Inv X pins σ H s) (r : Vals vs us) (h : sp (vs ++ dvs) H Q E) : wpAny (model X.prog X.w) X.A (call (.ref f) us) (EP X pins σ Q) X.xe s := by
  have r2 := r.append hd
  have hl := F.len _ _ _ _ h
  rw [r2.length] at hl
  apply wpAny_call
  refine codeAny_mono (F.go X.A X.stack s H ⟨us, []⟩ _ _ Q E hr hG I.env0 (hb s us I.kIn hl) r2 h) ?_
  intro r s' h'
  have z := after_go I hx h'
  cases r with
  | error e => exact z
  | ok fl =>
    cases fl with
    | ret u => exact z
    | next => exact z.elim
    | brk => exact z.elim
    | cont => exact z.elim
theorem pe_callG (F : FnG X.prog X.w X.K X.mg X.base CX k f fd ps sp) (hr : Room k X.A) (hG : X.A.guards = some []) (hg : Gl X x) (hm : X.mg x = some (.ref f)) (hk : PySem.W.keepIn X.K (.ref f) = true) (hb : Binds X.K fd ps ds) (hd : Vals dvs ds) (hx : Passes CX X E)
    (ha : PA X (e :: es) t) (hdb : (x == ("__debug__" : Str)) = false := by decide) (he : starEach (e :: es) X.env = (false, eval e X.env) :: starEach es X.env := by rfl) (hpl : (backTo pos (starEach es X.env)).any (·.1) = false := by rfl) :
    PE X (.Call (.Name x p) (e :: es) [] pos) (tCall sp dvs E t) := by
  constructor
  intro pins s σ H Q I h
  apply wpAny_Call_Name_kw (ld_glob I hg hm ?_ hdb)
  apply PySem.W.callWith_K (h₀ := X.base) I.ok.mod.kin hk ?_ he hpl
  apply thn (ha.run pos pins s σ H _ I h)
  rintro us s1 ⟨vs, H1, I1, r1, q1⟩
  exact ⟨I1.kIn, run_G F hr hG hb hd hx I1 r1 q1⟩
theorem pe_callG0 (F : FnG X.prog X.w X.K X.mg X.base CX k f fd ps sp) (hr : Room k X.A) (hG : X.A.guards = some []) (hg : Gl X x) (hm : X.mg x = some (.ref f)) (hk : PySem.W.keepIn X.K (.ref f) = true) (hb : Binds X.K fd ps ds) (hd : Vals dvs ds) (hx : Passes CX X E)
    (hdb : (x == ("__debug__" : Str)) = false := by decide) : PE X (.Call (.Name x p) [] [] pos) (tCall sp dvs E tNil) := by
  constructor
  intro pins s σ H Q I h
  apply wpAny_Call_Name_kw (ld_glob I hg hm ?_ hdb)
  exact PySem.W.callWith_K0 I.kIn hk (run_G (us := []) F hr hG hb hd hx I .nil h)
variable {g : List Value → List Value → List Value} {gV : List V → List V → List V} {nn : Nat}
theorem run_GK (F : FnG X.prog X.w X.K X.mg X.base CX k f fd ps sp) (hr : Room k X.A) (hG : X.A.guards = some []) (hb : KBn X.K fd ps nn ks g gV) (hx : Passes CX X E)
    (I : Inv X pins σ H s) (r : Vals vs us) (rz : Vals zs ws) (l1 : vs.length = nn) (l2 : zs.length = ks.length) (h : sp (gV vs zs) H Q E) : wpAny (model X.prog X.w) X.A (call (.ref f) us (ks.zip ws)) (EP X pins σ Q) X.xe s := by
  have r2 := hb.rel r rz
  apply wpAny_call
  refine codeAny_mono (F.go X.A X.stack s H ⟨us, ks.zip ws⟩ _ _ Q E hr hG I.env0 (hb.to s us ws I.kIn (by rw [← r.length]; exact l1) (by rw [← rz.length]; exact l2)) r2 h) ?_
  intro r s' h'
  have z := after_go I hx h'
  cases r with
  | error e => exact z
  | ok fl =>
    cases fl with
    | ret u => exact z
    | next => exact z.elim
    | brk => exact z.elim
    | cont => exact z.elim
/-- f(e, .., k = v, ..): nn by place, mm by keyword -/
def tCallM (nn mm : Nat) (sp : Sp) (gV : List V → List V → List V) (E : XK) (t tk : TA) : TE := fun σ H Q => t σ H fun vs H1 => tk σ H1 fun zs H2 => vs.length = nn ∧ zs.length = mm ∧ sp (gV vs zs) H2 Q E
theorem pe_callGK (F : FnG X.prog X.w X.K X.mg X.base CX k f fd ps sp) (hr : Room k X.A) (hG : X.A.guards = some []) (hg : Gl X x) (hm : X.mg x = some (.ref f)) (hk : PySem.W.keepIn X.K (.ref f) = true) (hb : KBn X.K fd ps nn ks g gV) (hx : Passes CX X E)
    (ha : PA X (e :: es) t) (hkw : PK X kws tk) (hall : (backToKw pos (keywordEach kws X.env)).all (·.1.isSome) = true := by rfl) (hks : (backToKw pos (keywordEach kws X.env)).filterMap (·.1) = ks := by rfl)
    (hdb : (x == ("__debug__" : Str)) = false := by decide) (he : starEach (e :: es) X.env = (false, eval e X.env) :: starEach es X.env := by rfl)
    (hpl : ((backTo pos (starEach (e :: es) X.env)).any (·.1) || (backToKw pos (keywordEach kws X.env)).any (·.1.isNone)) = false := by rfl) :
    PE X (.Call (.Name x p) (e :: es) kws pos) (tCallM nn ks.length sp gV E t tk) := by
  constructor
  intro pins s σ H Q I h
  apply wpAny_Call_Name_kw (ld_glob I hg hm ?_ hdb)
  apply PySem.W.callWith_KW (h₀ := X.base) I.ok.mod.kin hk hall ?_ hpl he
  apply thn (ha.run pos pins s σ H _ I h)
  rintro us s1 ⟨vs, H1, I1, r1, q1⟩
  apply thn (hkw.run pos pins s1 σ H1 _ I1 q1)
  rintro ws s2 ⟨zs, H2, I2, rz, l1, l2, q2⟩
  refine ⟨I2.kIn, ?_⟩
  rw [hks]
  exact run_GK F hr hG hb hx I2 r1 rz l1 l2 q2
theorem pe_callGK0 (F : FnG X.prog X.w X.K X.mg X.base CX k f fd ps sp) (hr : Room k X.A) (hG : X.A.guards = some []) (hg : Gl X x) (hm : X.mg x = some (.ref f)) (hk : PySem.W.keepIn X.K (.ref f) = true) (hb : KBn X.K fd ps 0 ks g gV) (hx : Passes CX X E)
    (hkw : PK X kws tk) (hall : (backToKw pos (keywordEach kws X.env)).all (·.1.isSome) = true := by rfl) (hks : (backToKw pos (keywordEach kws X.env)).filterMap (·.1) = ks := by rfl)
    (hdb : (x == ("__debug__" : Str)) = false := by decide)
    (hpl : ((backTo pos (starEach [] X.env)).any (·.1) || (backToKw pos (keywordEach kws X.env)).any (·.1.isNone)) = false := by rfl) :
    PE X (.Call (.Name x p) [] kws pos) (tCallM 0 ks.length sp gV E tNil tk) := by
  constructor
  intro pins s σ H Q I h
  apply wpAny_Call_Name_kw (ld_glob I hg hm ?_ hdb)
  apply PySem.W.callWith_KW0 (h₀ := X.base) I.ok.mod.kin hk hall ?_ hpl
  apply thn (hkw.run pos pins s σ H _ I h)
  rintro ws s2 ⟨zs, H2, I2, rz, l1, l2, q2⟩
  refine ⟨I2.kIn, ?_⟩
  rw [hks]
  exact run_GK (us := []) F hr hG hb hx I2 .nil rz l1 l2 q2
end
/-! ### repr of data -/
def rRepr (K : Fg) : List V → Hp → VK → Prop := fun xs H Q => ∃ a d, xs = [.ref a] ∧ Dp K H (.ref a) d ∧ d.showable = true ∧ d.hasDict = false ∧ d.depth ≤ 60 ∧ d.shown.length ≤ sizeLine ∧ Q (.str d.shown) H
theorem cr_repr {X : Cx} (hG : X.A.guards = some []) (hu : X.A.units + 64 < cLine) : CallR X (.builtin "repr") (rRepr X.K) := by
  intro pins s σ H xs us Q I r h
  obtain ⟨a, d, rfl, hd, h1, h2, h3, h4, q⟩ := h
  obtain ⟨u, rfl, ru⟩ := vals1 r
  obtain ⟨as, hr⟩ := hd.reads I d _ u ru
  cases ru
  refine repr_of_reads' hr h1 (fun z => by rw [h2] at z; cases z) hG (by omega) (fun b o z => z) (fun h' t tk hk => ?_) h4
  exact ⟨.str d.shown, H, I.kept (t' := tk) hk, ⟨t, rfl⟩, q⟩
def showOk (d : PyData) : Prop := d.showable = true ∧ d.hasDict = false ∧ d.depth ≤ 60 ∧ d.shown.length ≤ sizeLine
theorem cw_reprL {K : Fg} {ds : List DV} {k : DV → Prop} (hp : isPy (.lst ds) = true) (hs : showOk (py (.lst ds))) (q : k (.str (py (.lst ds)).shown)) : CW K (rRepr K) [.lst ds] k := fun pn As H0 M H σ Γ O n S vs r Q c => by
  obtain ⟨u, rfl, h1⟩ := r.one
  obtain ⟨a, us, rfl, g1, g2⟩ := id h1.lst'
  exact ⟨a, _, rfl, h1.dp S.ex hp, hs.1, hs.2.1, hs.2.2.1, hs.2.2.2, c _ M H _ (Evl.Ex.refl M) S (.str _) q⟩
theorem cw_reprT {K : Fg} {ds : List DV} {k : DV → Prop} (hp : isPy (.tup ds) = true) (hs : showOk (py (.tup ds))) (q : k (.str (py (.tup ds)).shown)) : CW K (rRepr K) [.tup ds] k := fun pn As H0 M H σ Γ O n S vs r Q c => by
  obtain ⟨u, rfl, h1⟩ := r.one
  obtain ⟨a, us, rfl, g1, g2⟩ := id h1.tup'
  exact ⟨a, _, rfl, h1.dp S.ex hp, hs.1, hs.2.1, hs.2.2.1, hs.2.2.2, c _ M H _ (Evl.Ex.refl M) S (.str _) q⟩
/-! ### the law's own call -/
theorem lawG {P : Program} {w : World} {K : Fg} {mg mb : Str → Option Value} {CX : CXT} {k : Nat} {fa a : Addr} {fd : FuncData} {x : Str} {sp : Sp} {z : Shared} {us : List Value} {ns : List Int}
    (KX : K.In z.heap) (hns : z.heap.Ns mainGlobals mg) (hb : z.heap.Ns builtinsNs mb) (hbb : ∀ x : Str, x ≠ "__name__" → mb x = bootBuiltins x) (hlim : z.heap.NoLimit) (hgen : z.gens = #[])
    (ha : z.heap.get? a = some { cls := .type "list", data := .seq us.toArray }) (hi : IntsAre us ns) (hl : ns.length ≤ sizeLine) (hr : Room k callerA)
    (F : ∀ base : Heap, K.In base → base.Ns mainGlobals mg → FnG P w K mg base CX k fa fd [x] sp) (hbind : ∀ (s : Shared) (u : Value), BindsTo s fd ⟨[u], []⟩ [(x, u)])
    (hsp : ∀ H : Hp, Only H → SqL K H a (ns.map V.int) → sp [.ref a] H (fun v _ => v = .bl true) fun _ _ _ => False)
    (hCX : ∀ H e s', CX [] H z (fun _ _ _ => False) e s' → False) :
    codeAny (model P w) callerA (.call (.ref fa) ⟨[.ref a], []⟩) (fun r s' => r = .ok (.ret (.bool true)) ∧ OldK z.heap s'.heap ∧ s'.os = z.os ∧ AllBare s'.gens) z := by
  have lenV := hi.length
  have main : ∀ H : Hp, Only H → SqL K H a (ns.map V.int) → HOk P w H z.heap → (∀ b, H b ≠ none → b = a) → (H a ≠ none → K.lookup a = none) →
      codeAny (model P w) callerA (.call (.ref fa) ⟨[.ref a], []⟩) (fun r s' => r = .ok (.ret (.bool true)) ∧ OldK z.heap s'.heap ∧ s'.os = z.os ∧ AllBare s'.gens) z := by
    intro H hO hS hok hA hK
    have noD : ∀ {b : Addr} {o : Obj} {es : Array DictEntry} {ep : Nat}, z.heap.get? b = some o → o.data = .dict es ep → H b = none := by
      intro b o es ep e d
      cases q : H b with
      | none => rfl
      | some u =>
        exfalso
        have eb := hA b (by rw [q]; exact fun y => nomatch y)
        rw [eb, ha] at e
        cases e
        cases d
    have nsK : ∀ {b : Addr} {m : Str → Option Value}, z.heap.Ns b m → (hidT z.heap H).Ns b m := by
      rintro b m ⟨o, es, ep, e, d, r⟩
      exact ⟨o, es, ep, hidT_get e (noD e d), d, r⟩
    have hKb : K.In (hidT z.heap H) := by
      intro b o e
      refine hidT_get (KX b o e) ?_
      cases q : H b with
      | none => rfl
      | some u =>
        exfalso
        have eb := hA b (by rw [q]; exact fun y => nomatch y)
        rw [eb] at q e
        rw [hK (by rw [q]; exact fun y => nomatch y)] at e
        cases e
    obtain ⟨mc, l1, l2⟩ := hlim
    have hM : Mod K mg (hidT z.heap H) := ⟨hKb, nsK hns, ⟨mb, nsK hb, hbb⟩, mc, nsK l1, l2⟩
    have e0 : Env0 P w K mg (hidT z.heap H) callerA [] z H := by
      refine ⟨rfl, hM, fun b o e => of_hidT e, Nat.le_of_eq (hidT_size _ _), trivial, ?_, hok, .of_eq hgen⟩
      intro b hb'
      cases hb'
    apply codeAny_mono ((F _ hKb (nsK hns)).go callerA [] z H ⟨[.ref a], []⟩ [.ref a] [.ref a] _ _ hr rfl e0 (hbind z (.ref a)) (.cons rfl .nil) (hsp H hO hS))
    intro r s' h
    cases r with
    | error e => exact (hCX H e s' h).elim
    | ok fl =>
      cases fl with
      | next => exact h.elim
      | brk => exact h.elim
      | cont => exact h.elim
      | ret u =>
        obtain ⟨v, H', os, bare, un, hok', r', q⟩ := h
        have q' : v = .bl true := q
        subst q'
        have hu : u = Value.bool true := r'
        subst hu
        refine ⟨rfl, OldK.of_keep ?_, os, bare⟩
        intro b o e
        cases q : H b with
        | none =>
          refine un.keep b o e q ?_ ?_
          · intro y; cases y
          · intro y; cases y
        | some u =>
          rcases hO b with y | ⟨ob, xs, y⟩
          · rw [q] at y; cases y
          · have t1 := (hok b _ y).1
            have t2 := (hok' b _ (un.frzs b ob _ y)).1
            rw [e] at t1
            cases t1
            exact t2
  by_cases hk : ∃ o, K.lookup a = some o
  · obtain ⟨o, hk⟩ := hk
    have e := KX a o hk
    rw [ha] at e
    cases e
    apply main (fun _ => none)
    · exact fun _ => .inl rfl
    · exact .inr ⟨_, us.toArray, _, hk, rfl, rfl, rfl, by rw [List.size_toArray, lenV]; exact hl, by simpa using vals_ints hi⟩
    · intro b u y; cases y
    · intro b y; exact absurd rfl y
    · intro y; exact absurd rfl y
  · have hk' : K.lookup a = none := by
      cases e : K.lookup a with
      | none => rfl
      | some o => exact absurd ⟨o, e⟩ hk
    let Hs : Hp := fun b => if b = a then some (.frz { cls := .type "list", data := .seq us.toArray } (.lst (ns.map V.int))) else none
    have at_a : Hs a = some (.frz { cls := .type "list", data := .seq us.toArray } (.lst (ns.map V.int))) := if_pos rfl
    have off : ∀ b, b ≠ a → Hs b = none := fun b hb => if_neg hb
    apply main Hs
    · intro b
      by_cases hb : b = a
      · subst hb; exact .inr ⟨_, _, at_a⟩
      · exact .inl (off b hb)
    · exact .inl (.inr ⟨_, at_a⟩)
    · intro b u y
      by_cases hb : b = a
      · subst hb
        rw [at_a] at y
        cases y
        exact ⟨ha, by rw [List.length_map]; exact hl, us, _, vals_ints hi, ha⟩
      · rw [off b hb] at y; cases y
    · intro b y
      by_cases hb : b = a
      · exact hb
      · exact absurd (off b hb) y
    · exact fun _ => hk'
theorem walkG {l : PySem.W.OpenLaw} {n k : Nat} {q : Program} {loose : List Str} {XP : (Str → Option Value) → Heap → Prop} {YP : World → Heap → Prop} {d : DefRec} {K : Params → Fg} {CX : CXT} {sp : Fg → Sp} {x : Str}
    (hn : l.most = some n) (hn2 : n ≤ sizeLine) (hdf : d.params.defaults = []) (hr : Room k callerA) (hY : ∀ (w : World) (h : Heap), YP w h → (K w.params).In h)
    (F : ∀ (w : World) (mg : Str → Option Value) (fa : Addr) (h : Heap), (K w.params).In h → h.Ns mainGlobals mg → mg d.name = some (.ref fa) →
      ∃ fd : FuncData, (∀ (s : Shared) (u : Value), BindsTo s fd ⟨[u], []⟩ [(x, u)]) ∧ ∀ base : Heap, (K w.params).In base → base.Ns mainGlobals mg → FnG l.prog w (K w.params) mg base CX k fa fd [x] (sp (K w.params)))
    (hsp : ∀ (K : Fg) (H : Hp) (a : Addr) (ns : List Int), ns.length ≤ n → Only H → SqL K H a (ns.map V.int) → sp K [.ref a] H (fun v _ => v = .bl true) fun _ _ _ => False)
    (hCX : ∀ (H : Hp) (s : Shared) (e : Value) (s' : Shared), CX [] H s (fun _ _ _ => False) e s' → False) :
    PySem.W.WalkO q loose XP YP l.row.toRowW d [] (fun f vs => PySem.call f vs) := by
  apply Att.attach_call hn hdf
  intro w s₀ s₁ mg mb fa o pm cd doc a vs ns G Y ho hd hcd hmg hobj hints hlen hg
  have KX := hY w _ Y
  obtain ⟨fd, hb, hF⟩ := F w mg fa _ KX G.T.g hmg
  exact lawG KX G.T.g G.T.b G.T.builtins G.T.nolimit hg hobj hints (Nat.le_trans hlen hn2) hr hF hb (fun H hO hS => hsp _ H a ns hlen hO hS) fun H e s' => hCX H s₁ e s'
end DL
namespace DL
open PySem PySem.Spec PyProof.Rows L2
/-! promises over data -/
/-- what is not frozen is not frozen behind it -/
def Thaw (M H M' : Hp) : Prop := ∀ b, H b ≠ none → M b = none → M' b = none
/-- data in, data out; nothing that stood is changed -/
def spD (K : Fg) {α : Type} (pre : α → Prop) (args : α → List DV) (res : α → DV → Prop) : Sp := fun vs H Q _ => ∃ (M : Hp) (a : α), pre a ∧ Ex M H ∧ RpL K M vs (args a) ∧
  ∀ v M' H' d, Ex M M' → Ex H H' → Ex M' H' → Thaw M H M' → Rp K M' v d → res a d → Q v H'
/-- the same with the pen ahead: it turns, at most cost times -/
def spP (K : Fg) {α : Type} (pre : α → Prop) (args : α → List DV) (cost : α → Nat) (res : α → DV → Prop) : Sp := fun vs H Q _ => ∃ (p : Addr) (us : List V) (M : Hp) (n : Nat) (a : α), pre a ∧ vs = .ref p :: us ∧ Ex M H ∧ M p = none ∧ PenAt K M H p n ∧ n + cost a ≤ 1000000 ∧ RpL K M us (args a) ∧
  ∀ v M' H' d, Ex M M' → (∀ b o, b ≠ p → H b = some o → H' b = some o) → Ex M' H' → Thaw M H M' → PenAt K M' H' p (n + cost a) → Rp K M' v d → res a d → Q v H'
def slotsD (N : List Str) (ds : List DV) : List SA := ds.map .is ++ List.replicate (N.length - ds.length) .no
def slotsP (N : List Str) (ds : List DV) : List SA := .pen :: ds.map .is ++ List.replicate (N.length - ds.length - 1) .no
section
variable {K : Fg} {α : Type} {pre : α → Prop} {args : α → List DV} {cost : α → Nat} {res : α → DV → Prop} {N : List Str} {vs : List V} {H M : Hp} {Q : VK} {E : XK} {t : TS}
theorem slots_ok {pn : Option Addr} {As : List Addr} : ∀ {ds : List DV} {us : List V} (r : RpL K M us ds) (m : Nat) (i : Nat) (s : SA), (ds.map SA.is ++ List.replicate m SA.no)[i]? = some s → SlotOk K pn As M s ((us.map some ++ List.replicate m none)[i]?.join)
  | [], _, r, m, i, s, h => by
    cases r
    simp only [List.map_nil, List.nil_append] at h
    rw [List.getElem?_replicate] at h
    split at h
    · cases h; exact True.intro
    · cases h
  | d :: ds, _, r, m, 0, s, h => by
    cases r with
    | cons a b =>
      simp at h
      subst h
      exact ⟨_, rfl, a⟩
  | d :: ds, _, r, m, i + 1, s, h => by
    cases r with
    | cons a b =>
      simp only [List.map_cons, List.cons_append, List.getElem?_cons_succ] at h ⊢
      exact slots_ok b m i s h
theorem enter (e : Ex M H) (r : RpL K M vs ds) : Sta K none [] ⟨H, fun a => H a ≠ none ∧ M a = none⟩ M H (L2.start N vs) (slotsD N ds) [] 0 := by
  refine ⟨⟨e, fun a o _ h => h, fun p hp => nomatch hp⟩, fun j a ds h => by simp at h, fun a h => by simp at h, fun a h => ⟨h.2, h.1, h.1⟩, List.nodup_nil, rfl, ?_, fun i s h => ?_⟩
  · unfold L2.start slotsD
    simp [r.length]
  · unfold L2.start slotsD at *
    rw [r.length]
    exact slots_ok r _ i s h
theorem body_D (h : spD K pre args res vs H Q E) (hw : ∀ a, pre a → WS K t (slotsD N (args a)) [] 0 { nx := fun _ _ _ => res a .non, rt := fun d _ _ => res a d }) :
    t { nx := fun _ H' => Q .non H', rt := Q } (L2.start N vs) H := by
  obtain ⟨M, a, hp, e, r, c⟩ := h
  refine hw a hp none [] ⟨H, fun a => H a ≠ none ∧ M a = none⟩ M H (L2.start N vs) _ (enter e r) ⟨?_, ?_, ?_, ?_⟩
  · intro As M' H' σ Γ O n _ e1 S q
    exact c .non M' H' .non e1 (fun a o z => S.kp a o (fun y => nomatch y) z) S.ex (fun b h1 h2 => (S.pr b ⟨h1, h2⟩).1) .non q
  · intro As v M' H' σ Γ O d n _ e1 S r1 q
    exact c v M' H' d e1 (fun a o z => S.kp a o (fun y => nomatch y) z) S.ex (fun b h1 h2 => (S.pr b ⟨h1, h2⟩).1) r1 q
  · intro As M' H' σ Γ O n _ e1 S q
    exact q
  · intro As M' H' σ Γ O n _ e1 S q
    exact q
theorem enterP {p : Addr} {n : Nat} (e : Ex M H) (hp : M p = none) (pen : PenAt K M H p n) (r : RpL K M vs ds) : Sta K (some p) [] ⟨H, fun a => H a ≠ none ∧ M a = none⟩ M H (L2.start N (.ref p :: vs)) (slotsP N ds) [] n := by
  refine ⟨⟨e, fun a o _ h => h, fun q hq => by cases hq; exact ⟨hp, pen⟩⟩, fun j a ds h => by simp at h, fun a h => by simp at h, fun a h => ⟨h.2, h.1, h.1⟩, List.nodup_nil, rfl, ?_, fun i s h => ?_⟩
  · unfold L2.start slotsP
    simp [r.length]
    omega
  · unfold L2.start
    cases i with
    | zero =>
      simp [slotsP] at h
      subst h
      exact ⟨p, rfl, rfl⟩
    | succ i =>
      have h' : (ds.map SA.is ++ List.replicate (N.length - ds.length - 1) SA.no)[i]? = some s := h
      have q := slots_ok (pn := some p) (As := []) r (N.length - ds.length - 1) i s h'
      have e0 : N.length - (V.ref p :: vs).length = N.length - ds.length - 1 := by simp [r.length]; omega
      rw [e0]
      exact q
theorem body_P (h : spP K pre args cost res vs H Q E) (hw : ∀ a n, pre a → n + cost a ≤ 1000000 → WS K t (slotsP N (args a)) [] n { nx := fun _ _ m => m ≤ n + cost a ∧ res a .non, rt := fun d _ m => m ≤ n + cost a ∧ res a d }) :
    t { nx := fun _ H' => Q .non H', rt := Q } (L2.start N vs) H := by
  obtain ⟨p, us, M, n, a, hpre, rfl, e, hp, pen, hn, r, c⟩ := h
  have off : ∀ b, b ≠ p → some b ≠ some p := fun b hb z => hb (Option.some.inj z)
  refine hw a n hpre hn (some p) [] ⟨H, fun a => H a ≠ none ∧ M a = none⟩ M H (L2.start N (.ref p :: us)) _ (enterP e hp pen r) ⟨?_, ?_, ?_, ?_⟩
  · intro As M' H' σ Γ O m _ e1 S q
    exact c .non M' H' .non e1 (fun b o hb z => S.kp b o (off b hb) z) S.ex (fun b h1 h2 => (S.pr b ⟨h1, h2⟩).1) ((S.pen p rfl).2.mono (Evl.Ex.refl _) rfl q.1) .non q.2
  · intro As v M' H' σ Γ O d m _ e1 S r1 q
    exact c v M' H' d e1 (fun b o hb z => S.kp b o (off b hb) z) S.ex (fun b h1 h2 => (S.pr b ⟨h1, h2⟩).1) ((S.pen p rfl).2.mono (Evl.Ex.refl _) rfl q.1) r1 q.2
  · intro As M' H' σ Γ O m _ e1 S q
    exact q
  · intro As M' H' σ Γ O m _ e1 S q
    exact q
end
section
variable {K : Fg} {α : Type} {pre : α → Prop} {args : α → List DV} {cost : α → Nat} {res : α → DV → Prop} {E : XK} {Γ : List SA} {O : Own} {n : Nat} {ta tr tk : TA} {k : DV → Nat → Prop}
theorem runs_D {pn : Option Addr} {As : List Addr} {H0 : Ent} {M1 H1 : Hp} {σ : L2.St} {n1 : Nat} {vs : List V} {a : α} {Q : VK} (S1 : Sta K pn As H0 M1 H1 σ Γ O n1) (r1 : RpL K M1 vs (args a)) (hpre : pre a)
    (c : ∀ v M' H' d, Ex M1 M' → Sta K pn As H0 M' H' σ Γ O n1 → Rp K M' v d → res a d → Q v H') : spD K pre args res vs H1 Q E := by
  refine ⟨M1, a, hpre, S1.ex, r1, fun v M' H' d e2 eh ex th rv hd => ?_⟩
  refine c v M' H' d e2 ⟨⟨ex, fun b o g1 g2 => eh b o (S1.kp b o g1 g2), fun p hp => ?_⟩, fun j b fs g1 g2 => ?_, fun b hb => ?_, fun b hb => ?_, S1.nd, S1.len, S1.sl, fun i s g => (S1.ok i s g).mono e2⟩ rv hd
  · obtain ⟨g1, g2⟩ := S1.pen p hp
    have g3 : H1 p ≠ none := by
      obtain ⟨_, _, _, _, g3, _⟩ := g2
      rw [g3]; exact fun z => nomatch z
    refine ⟨th p g3 g1, g2.mono e2 ?_ (Nat.le_refl _)⟩
    obtain ⟨_, _, _, _, g4, _⟩ := g2
    rw [g4]; exact eh p _ g4
  · obtain ⟨g3, g4, g5, us, g6, g7⟩ := S1.own j b fs g1 g2
    exact ⟨th b (by rw [g6]; exact fun z => nomatch z) g3, g4, g5, us, eh b _ g6, g7.mono e2⟩
  · intro z
    cases g : H1 b with
    | none => exact S1.live b hb g
    | some o => rw [eh b o g] at z; cases z
  · obtain ⟨g1, g2, g3⟩ := S1.pr b hb
    refine ⟨th b g2 g1, fun z => ?_, g3⟩
    cases g : H1 b with
    | none => exact g2 g
    | some o => rw [eh b o g] at z; cases z
theorem w_call (h : WA K ta Γ O n fun ds n1 => ∃ a, ds = args a ∧ pre a ∧ ∀ d, res a d → k d n1) : W K (tCall (spD K pre args res) [] E ta) Γ O n k := fun pn As H0 M H σ S Q c =>
  h pn As H0 M H σ S _ fun vs M1 H1 ds n1 e1 S1 r1 ⟨a, ea, hpre, q⟩ => by
    subst ea
    rw [List.append_nil]
    exact runs_D S1 r1 hpre fun v M' H' d e2 S2 rv hd => c v M' H' d n1 (Evl.Ex.trans e1 e2) S2 rv (q d hd)
theorem w_callP {i : Nat} (hi : Γ[i]? = some .pen) (h : WA K tr Γ O n fun ds n1 => ∃ a, ds = args a ∧ pre a ∧ n1 + cost a ≤ 1000000 ∧ ∀ d, res a d → k d (n1 + cost a)) : W K (tCall (spP K pre args cost res) [] E (tCons (tVar i) tr)) Γ O n k := fun pn As H0 M H σ S Q c => by
  obtain ⟨p, h1, hpn⟩ := S.slotPen hi
  refine ⟨_, h1, h pn As H0 M H σ S _ fun vs M1 H1 ds n1 e1 S1 r1 ⟨a, ea, hpre, hn, q⟩ => ?_⟩
  subst ea
  obtain ⟨g1, g2⟩ := S1.pen p hpn
  refine ⟨p, vs, M1, n1, a, hpre, by rw [List.append_nil], S1.ex, g1, g2, hn, r1, fun v M' H' d e2 eh ex th pen rv hd => ?_⟩
  have off : ∀ b, some b ≠ pn → b ≠ p := fun b hb z => hb (by rw [z, hpn])
  have pl : H1 p ≠ none := by
    obtain ⟨_, _, _, _, g3, _⟩ := g2
    rw [g3]; exact fun z => nomatch z
  have live : ∀ b, H1 b ≠ none → H' b ≠ none := fun b hb z => by
    by_cases hbp : b = p
    · subst hbp
      obtain ⟨_, _, _, _, g3, _⟩ := pen
      rw [g3] at z; cases z
    · cases g : H1 b with
      | none => exact hb g
      | some o => rw [eh b o hbp g] at z; cases z
  refine c v M' H' d (n1 + cost a) (Evl.Ex.trans e1 e2) ⟨⟨ex, fun b o f1 f2 => eh b o (off b f1) (S1.kp b o f1 f2), fun p' hp' => ?_⟩, fun j b fs f1 f2 => ?_, fun b hb => live b (S1.live b hb), fun b hb => ?_, S1.nd, S1.len, S1.sl, fun i s g => (S1.ok i s g).mono e2⟩ rv (q d hd)
  · rw [hpn] at hp'; cases hp'
    exact ⟨th p pl g1, pen⟩
  · obtain ⟨f3, f4, f5, us, f6, f7⟩ := S1.own j b fs f1 f2
    exact ⟨th b (by rw [f6]; exact fun z => nomatch z) f3, f4, f5, us, eh b _ (off b f5) f6, f7.mono e2⟩
  · obtain ⟨f1, f2, f3⟩ := S1.pr b hb
    exact ⟨th b f2 f1, live b f2, f3⟩
/-- a call with keywords: gD puts the data in order as gV the values -/
theorem w_callK {nn mm : Nat} {gV : List V → List V → List V} (gD : List DV → List DV → List DV) (hg : ∀ M vs zs ds es, RpL K M vs ds → RpL K M zs es → ds.length = nn → es.length = mm → RpL K M (gV vs zs) (gD ds es))
    (h : WA K ta Γ O n fun ds n1 => WA K tk Γ O n1 fun es n2 => ds.length = nn ∧ es.length = mm ∧ ∃ a, gD ds es = args a ∧ pre a ∧ ∀ d, res a d → k d n2) : W K (tCallM nn mm (spD K pre args res) gV E ta tk) Γ O n k := by
  intro pn As H0 M H σ S Q c
  refine h pn As H0 M H σ S _ fun vs M1 H1 ds n1 e1 S1 r1 q1 => q1 pn As H0 M1 H1 σ S1 _ fun zs M2 H2 es n2 e2 S2 r2 ⟨l1, l2, a, ea, hpre, q⟩ => ⟨by rw [r1.length]; exact l1, by rw [r2.length]; exact l2, ?_⟩
  have r := hg M2 vs zs ds es (r1.mono e2) r2 l1 l2
  rw [ea] at r
  exact runs_D S2 r hpre fun v M' H' d e3 S3 rv hd => c v M' H' d n2 (Evl.Ex.trans (Evl.Ex.trans e1 e2) e3) S3 rv (q d hd)
end
end DL
namespace DL
open PySem PySem.Spec PyProof.Rows L2
/-! a def of the text: where it stands, and what it promises -/
structure At (K : Fg) (mg : Str → Option Value) (x : Str) (st : Stmt) (ps : List Str) : Prop where
  ex : ∃ f fd, Fun K x x st f fd ∧ mg x = some (.ref f) ∧ Binds K fd ps []
structure Has (P : Program) (w : World) (K : Fg) (mg : Str → Option Value) (base : Heap) (k : Nat) (x : Str) (st : Stmt) (ps : List Str) (sp : Sp) : Prop where
  ex : ∃ f fd, Fun K x x st f fd ∧ mg x = some (.ref f) ∧ Binds K fd ps [] ∧ FnG P w K mg base CX0 k f fd ps sp
section
variable {P : Program} {w : World} {K : Fg} {mg : Str → Option Value} {base : Heap} {x : Str} {st : Stmt} {ps N : List Str} {sp : Sp} {k : Nat}
theorem At.has (A : At K mg x st ps) (S : FnScope N ps (defScope st)) (len : ∀ vs H Q E, sp vs H Q E → vs.length = ps.length)
    (hb : ∀ (f : Addr) (cdv : Value) (A : Around) (outer : List Env) (s : Shared) (H : Hp) (vs : List V) (Q : VK) (E : XK), Room k (A.deeper (envOfC x (defScope st) s.heap.objs.size f cdv)) → A.guards = some [] → sp vs H Q E →
      ∃ t, PSs (cxOf CX0 P w K mg base N x (defScope st) f cdv A outer s H E).nox (defBody st) t ∧ t { nx := fun _ H' => Q .non H', rt := Q } (L2.start N vs) H) : Has P w K mg base (k + 1) x st ps sp := by
  obtain ⟨f, fd, F, hm, bi⟩ := A.ex
  refine ⟨f, fd, F, hm, bi, fnG_fun F S len fun cdv A outer s H vs Q E hr hG h => ?_⟩
  obtain ⟨t, h1, h2⟩ := hb f cdv A outer s H vs Q E hr hG h
  exact ⟨t, h1.nox, h2⟩
theorem Has.mono {j : Nat} (h : Has P w K mg base j x st ps sp) (hj : j ≤ k) : Has P w K mg base k x st ps sp := by
  obtain ⟨f, fd, F, hm, bi, G⟩ := h.ex
  exact ⟨f, fd, F, hm, bi, G.mono hj⟩
end
section
variable {X : Cx} {x : Str} {st : Stmt} {ps ks : List Str} {sp : Sp} {j k : Nat} {p pos : Pos} {e : Expr} {es : List Expr} {t tk : TA} {kws : List Keyword}
theorem pe_callH (h : Has X.prog X.w X.K X.mg X.base j x st ps sp) (hr : Room k X.A) (hj : j ≤ k) (hG : X.A.guards = some []) (ha : PA X (e :: es) t) (hg : Gl X x := by rfl)
    (hdb : (x == ("__debug__" : Str)) = false := by decide) (he : starEach (e :: es) X.env = (false, eval e X.env) :: starEach es X.env := by rfl) (hpl : (backTo pos (starEach es X.env)).any (·.1) = false := by rfl) :
    PE X (.Call (.Name x p) (e :: es) [] pos) (tCall sp [] E0 t) := by
  obtain ⟨f, fd, F, hm, bi, G⟩ := h.ex
  exact pe_callG G (hr.mono hj) hG hg hm F.kp bi .nil pass0 ha hdb he hpl
theorem pe_callH0 (h : Has X.prog X.w X.K X.mg X.base j x st ps sp) (hr : Room k X.A) (hj : j ≤ k) (hG : X.A.guards = some []) (hg : Gl X x := by rfl)
    (hdb : (x == ("__debug__" : Str)) = false := by decide) : PE X (.Call (.Name x p) [] [] pos) (tCall sp [] E0 tNil) := by
  obtain ⟨f, fd, F, hm, bi, G⟩ := h.ex
  exact pe_callG0 G (hr.mono hj) hG hg hm F.kp bi .nil pass0 hdb
/-- how keywords bind, for every function object of the text -/
def KwOk (x : Str) (st : Stmt) (ps : List Str) (nn : Nat) (ks : List Str) (g : List Value → List Value → List Value) : Prop :=
  ∀ (kV doc pm : Value) (an : Option Addr) (cdv ct : Value) (us ws : List Value), us.length = nn → ws.length = ks.length →
    bindArgs (PySem.W.fnOf x x (defArgs st) (defBody st) (defScope st) .none kV doc pm an cdv ct) ⟨us, ks.zip ws⟩ = pure (ps.zip (g us ws))
theorem KwOk.kbn {K : Fg} {f : Addr} {fd : FuncData} {nn : Nat} {g : List Value → List Value → List Value} {gV : List V → List V → List V} (F : Fun K x x st f fd) (h : KwOk x st ps nn ks g)
    (rel : ∀ {vs : List V} {us : List Value} {zs : List V} {ws : List Value}, Vals vs us → Vals zs ws → Vals (gV vs zs) (g us ws)) : KBn K fd ps nn ks g gV := by
  obtain ⟨oc, od, kV, doc, pm, an, cdv, ct, osl, rfl, lk, hcd⟩ := F.ex
  exact ⟨fun s us ws _ l1 l2 => .of_eq (h kV doc pm an cdv ct us ws l1 l2), rel⟩
theorem pe_callHK {nn : Nat} {g : List Value → List Value → List Value} {gV : List V → List V → List V} (h : Has X.prog X.w X.K X.mg X.base j x st ps sp) (kw : KwOk x st ps nn ks g)
    (rel : ∀ {vs : List V} {us : List Value} {zs : List V} {ws : List Value}, Vals vs us → Vals zs ws → Vals (gV vs zs) (g us ws)) (hr : Room k X.A) (hj : j ≤ k) (hG : X.A.guards = some []) (ha : PA X (e :: es) t) (hkw : PK X kws tk)
    (hg : Gl X x := by rfl) (hall : (backToKw pos (keywordEach kws X.env)).all (·.1.isSome) = true := by rfl) (hks : (backToKw pos (keywordEach kws X.env)).filterMap (·.1) = ks := by rfl)
    (hdb : (x == ("__debug__" : Str)) = false := by decide) (he : starEach (e :: es) X.env = (false, eval e X.env) :: starEach es X.env := by rfl)
    (hpl : ((backTo pos (starEach (e :: es) X.env)).any (·.1) || (backToKw pos (keywordEach kws X.env)).any (·.1.isNone)) = false := by rfl) :
    PE X (.Call (.Name x p) (e :: es) kws pos) (tCallM nn ks.length sp gV E0 t tk) := by
  obtain ⟨f, fd, F, hm, bi, G⟩ := h.ex
  exact pe_callGK G (hr.mono hj) hG hg hm F.kp (kw.kbn F rel) pass0 ha hkw hall hks hdb he hpl
theorem pe_callHK0 {g : List Value → List Value → List Value} {gV : List V → List V → List V} (h : Has X.prog X.w X.K X.mg X.base j x st ps sp) (kw : KwOk x st ps 0 ks g)
    (rel : ∀ {vs : List V} {us : List Value} {zs : List V} {ws : List Value}, Vals vs us → Vals zs ws → Vals (gV vs zs) (g us ws)) (hr : Room k X.A) (hj : j ≤ k) (hG : X.A.guards = some []) (hkw : PK X kws tk)
    (hg : Gl X x := by rfl) (hall : (backToKw pos (keywordEach kws X.env)).all (·.1.isSome) = true := by rfl) (hks : (backToKw pos (keywordEach kws X.env)).filterMap (·.1) = ks := by rfl)
    (hdb : (x == ("__debug__" : Str)) = false := by decide)
    (hpl : ((backTo pos (starEach [] X.env)).any (·.1) || (backToKw pos (keywordEach kws X.env)).any (·.1.isNone)) = false := by rfl) :
    PE X (.Call (.Name x p) [] kws pos) (tCallM 0 ks.length sp gV E0 tNil tk) := by
  obtain ⟨f, fd, F, hm, bi, G⟩ := h.ex
  exact pe_callGK0 G (hr.mono hj) hG hg hm F.kp (kw.kbn F rel) pass0 hkw hall hks hdb hpl
/-- permutations of what is handed in: places among us ++ ws -/
def perm {α : Type} (ix : List Nat) (us ws : List α) : List α := ix.filterMap fun i => (us ++ ws)[i]?
theorem perm_rel (ix : List Nat) {vs : List V} {us : List Value} {zs : List V} {ws : List Value} (h1 : Vals vs us) (h2 : Vals zs ws) : Vals (perm ix vs zs) (perm ix us ws) := by
  have h := h1.append h2
  unfold perm
  induction ix with
  | nil => exact .nil
  | cons i ix ih =>
    rw [List.filterMap_cons, List.filterMap_cons]
    cases e : (vs ++ zs)[i]? with
    | none =>
      rw [h.none_of e]
      exact ih
    | some v =>
      obtain ⟨u, hu, r⟩ := h.get e
      rw [hu]
      exact .cons r ih
theorem perm_rp {K : Fg} {M : Hp} (ix : List Nat) {vs zs : List V} {ds es : List DV} (h1 : RpL K M vs ds) (h2 : RpL K M zs es) : RpL K M (perm ix vs zs) (perm ix ds es) := by
  have h := h1.append h2
  unfold perm
  induction ix with
  | nil => exact .nil
  | cons i ix ih =>
    rw [List.filterMap_cons, List.filterMap_cons]
    cases e : (vs ++ zs)[i]? with
    | none =>
      have e2 : (ds ++ es)[i]? = none := by
        rw [List.getElem?_eq_none_iff] at e ⊢
        rw [← h.length]; exact e
      rw [e2]
      exact ih
    | some v =>
      obtain ⟨u, hu, r⟩ := h.get e
      rw [hu]
      exact .cons r ih
/-- a test by truth -/
theorem pt_tru {a : Expr} {ta : TE} (ha : PE X a ta) (he : ∀ whole, isTrue a X.env whole = (do let v ← whole; standAt a.pos; holding [v] (truthy v)) := by intro _; rfl) : PT X a (tTru X.K ta) := pt_truth ha he
end
end DL
namespace DL
open PySem PySem.Spec PyProof.Rows L2
section
variable {K : Fg} {pn : Option Addr} {As : List Addr} {H0 : Ent} {M M' H H' : Hp} {σ : L2.St} {Γ : List SA} {O : Own} {n m : Nat} {te ta tb : TE} {x y : DV} {E : KE}
theorem ow_isB {i j : Bool} {k : DV → Prop} (q : k (.bl (decide (i = j)))) : OW K rIsB (.bl i) (.bl j) k := fun pn As H0 M H σ Γ O n S v w rv rw Q c => by
  cases rv; cases rw
  exact ⟨i, j, rfl, rfl, c _ M H _ (Evl.Ex.refl M) S (.bl _) q⟩
theorem ow_notB {i j : Bool} {k : DV → Prop} (q : k (.bl (!decide (i = j)))) : OW K rNotB (.bl i) (.bl j) k := fun pn As H0 M H σ Γ O n S v w rv rw Q c => by
  cases rv; cases rw
  exact ⟨i, j, rfl, rfl, c _ M H _ (Evl.Ex.refl M) S (.bl _) q⟩
theorem RpL.reverse : ∀ {ds : List DV} {vs : List V}, RpL K M vs ds → RpL K M vs.reverse ds.reverse
  | [], _, h => by cases h; exact .nil
  | d :: ds, _, h => by
    cases h with
    | cons a b =>
      rw [List.reverse_cons, List.reverse_cons]
      exact (RpL.reverse b).append (.cons a .nil)
theorem wl_rev {k : List DV → Nat → Prop} (h : W K te Γ O n fun d n1 => ∃ ds, d = .lst ds ∧ k ds.reverse n1) : WL K (tRevL K te) Γ O n k := fun pn As H0 M H σ S Q c =>
  h pn As H0 M H σ S _ fun v M1 H1 d n1 e1 S1 r1 ⟨ds, e, q⟩ => by
    subst e
    obtain ⟨a, vs, rfl, g1, g2⟩ := r1.lst'
    exact ⟨a, vs, rfl, .inl (.inl (S1.ex _ _ g1)), fun p hp => wl_new S1 hp g2.reverse (fun p vs M4 H4 ds n4 e4 => c p vs M4 H4 ds n4 (Evl.Ex.trans e1 e4)) q⟩
theorem w_dnew {k : DV → Nat → Prop} (q : k (.dic [] []) n) : W K tDNewK Γ O n k := fun pn As H0 M H σ S Q c => fun p hp => by
  obtain ⟨ex, S2⟩ := S.alloc (o := .dK []) hp
  exact c _ _ _ _ n ex S2 (.dic upd_same rfl .nil) q
theorem wl_lst {ta : TA} {k : List DV → Nat → Prop} (h : WA K ta Γ O n fun xs n1 => xs.length ≤ 100000 ∧ k xs n1) : WL K (tLst ta) Γ O n k := fun pn As H0 M H σ S Q c =>
  h pn As H0 M H σ S _ fun vs M1 H1 xs n1 e1 S1 r1 ⟨hl, q1⟩ => ⟨Evl.sz_of (by rw [r1.length]; exact hl), fun p hp =>
    wl_new S1 hp r1 (fun p vs M4 H4 ds n4 e4 => c p vs M4 H4 ds n4 (Evl.Ex.trans e1 e4)) q1⟩
/-! lists and tuples put together -/
theorem owl_new {Q : VK} {k : List DV → Prop} {vs : List V} {ds : List DV} (S : Sta K pn As H0 M H σ Γ O n) {p : Addr} (hp : H p = none) (r : RpL K M vs ds)
    (c : ∀ p vs M' H' ds, Ex M M' → Sta K pn As H0 M' H' σ Γ O n → M' p = none → H0 p = none → some p ≠ pn → p ∉ As → ¬ H0.P p → H' p = some (.lst vs) → RpL K M' vs ds → k ds → Q (.ref p) H') (q : k ds) : Q (.ref p) (upd H p (.lst vs)) :=
  wl_new (k := fun ds n' => k ds ∧ n' = n) S hp r (fun p vs M4 H4 ds n4 e4 S4 h1 h2 h3 h4 hP h5 h6 ⟨h7, h8⟩ => by subst h8; exact c p vs M4 H4 ds e4 S4 h1 h2 h3 h4 hP h5 h6 h7) ⟨q, rfl⟩
theorem owl_cat {xs ys : List DV} {k : List DV → Prop} (hl : xs.length + ys.length ≤ 100000) (q : k (xs ++ ys)) : OWL K (rPlus K) (.lst xs) (.lst ys) k := fun pn As H0 M H σ Γ O n S v w rv rw Q c => by
  obtain ⟨a, vs, rfl, g1, g2⟩ := rv.lst'
  obtain ⟨b, ws, rfl, g3, g4⟩ := rw.lst'
  exact .inr (.inl ⟨a, b, vs, ws, rfl, rfl, S.ex _ _ g1, S.ex _ _ g3, Evl.sz_of (by rw [g2.length, g4.length]; exact hl), fun p hp => owl_new S hp (g2.append g4) c q⟩)
theorem ow_catT {xs ys : List DV} {k : DV → Prop} (hl : xs.length + ys.length ≤ 100000) (q : k (.tup (xs ++ ys))) : OW K (rPlus K) (.tup xs) (.tup ys) k := fun pn As H0 M H σ Γ O n S v w rv rw Q c => by
  obtain ⟨a, vs, rfl, g1, g2⟩ := id rv.tup'
  obtain ⟨b, ws, rfl, g3, g4⟩ := id rw.tup'
  refine .inr (.inr ⟨a, b, vs, ws, rfl, rfl, Evl.ex_t S.ex g1, Evl.ex_t S.ex g3, Evl.sz_of (by rw [g2.length, g4.length]; exact hl), fun e => ?_, fun _ e => ?_, fun _ _ p hp => ?_⟩)
  · subst e
    cases g2
    exact c _ M H _ (Evl.Ex.refl M) S rw q
  · subst e
    cases g4
    rw [List.append_nil] at q
    exact c _ M H _ (Evl.Ex.refl M) S rv q
  · obtain ⟨ex, S2⟩ := S.alloc (o := .tup (vs ++ ws)) hp
    exact c _ _ _ _ ex S2 (.tup (.inl (.inl upd_same)) ((g2.append g4).mono ex)) q
theorem RpL.flat {vs : List V} {ds : List DV} (r : RpL K M vs ds) : ∀ m : Nat, RpL K M (List.replicate m vs).flatten (List.replicate m ds).flatten
  | 0 => .nil
  | m + 1 => by
    rw [List.replicate_succ, List.replicate_succ, List.flatten_cons, List.flatten_cons]
    exact r.append (r.flat m)
theorem owl_rep {xs : List DV} {j : Int} {k : List DV → Prop} (h1 : -(2 ^ 63) ≤ j) (h2 : j < 2 ^ 63) (hl : xs.length * j.toNat ≤ 100000) (q : k (List.replicate j.toNat xs).flatten) : OWL K (rTimes K) (.lst xs) (.int j) k := fun pn As H0 M H σ Γ O n S v w rv rw Q c => by
  obtain ⟨a, vs, rfl, g1, g2⟩ := rv.lst'
  cases rw
  exact .inr (.inl ⟨a, j, vs, rfl, rfl, S.ex _ _ g1, h1, h2, Evl.sz_of (by rw [g2.length]; exact hl), fun p hp => owl_new S hp (g2.flat _) c q⟩)
theorem wl_w {k : List DV → Nat → Prop} {k' : DV → Nat → Prop} (h : WL K te Γ O n k) (hk : ∀ ds n', k ds n' → k' (.lst ds) n') : W K te Γ O n k' := w_of_wl fun pn As H0 M H σ S Q c => h pn As H0 M H σ S Q fun p vs M' H' ds n' e1 S1 h1 h2 h3 h4 h5 h6 h7 h8 => c p vs M' H' ds n' e1 S1 h1 h2 h3 h4 h5 h6 h7 (hk ds n' h8)
theorem Sta.keep (S1 : Sta K pn As H0 M H σ Γ O n) {p : Addr} {vs : List V} {ds : List DV} (h1 : M p = none) (h3 : some p ≠ pn) (h4 : p ∉ As) (hP : ¬ H0.P p) (h5 : H p = some (.lst vs)) (h6 : RpL K M vs ds) :
    Ex M (upd M p (.lst vs)) ∧ Sta K pn As H0 (upd M p (.lst vs)) H σ Γ O n ∧ Rp K (upd M p (.lst vs)) (.ref p) (.lst ds) := by
  have ex : Ex M (upd M p (.lst vs)) := Evl.Ex.new h1
  refine ⟨ex, ⟨⟨fun a u h => ?_, S1.kp, fun q hq => ?_⟩, fun j a es g1 g2 => ?_, S1.live, fun a h => ?_, S1.nd, S1.len, S1.sl, fun i t h => (S1.ok i t h).mono ex⟩, .lst upd_same (h6.mono ex)⟩
  · by_cases ha : a = p
    · subst ha; rw [upd_same] at h; rw [← h]; exact h5
    · rw [upd_ne ha] at h; exact S1.ex a u h
  · obtain ⟨g1, g2⟩ := S1.pen q hq
    exact ⟨by rw [upd_ne (fun z => h3 (by rw [← z, hq]))]; exact g1, g2.mono ex rfl (Nat.le_refl _)⟩
  · obtain ⟨g3, g4, g5, ws, g6, g7⟩ := S1.own j a es g1 g2
    exact ⟨by rw [upd_ne (fun z => h4 (by rw [← z]; exact List.mem_of_getElem? g1))]; exact g3, g4, g5, ws, g6, g7.mono ex⟩
  · exact ⟨by rw [upd_ne (show a ≠ p from fun z => hP (by rw [← z]; exact h))]; exact (S1.pr a h).1, (S1.pr a h).2⟩
theorem ows {r : R2} {k : DV → Prop} (h : OWL K r x y fun ds => k (.lst ds)) : OW K r x y k := fun pn As H0 M H σ Γ O n S v w rv rw Q c =>
  h pn As H0 M H σ Γ O n S v w rv rw Q fun p vs M1 H1 ds e1 S1 h1 h2 h3 h4 hP h5 h6 q => by
    obtain ⟨ex, S2, r2⟩ := S1.keep h1 h3 h4 hP h5 h6
    exact c (.ref p) _ H1 (.lst ds) (Evl.Ex.trans e1 ex) S2 r2 q
theorem cws {r : List V → Hp → VK → Prop} {xs : List DV} {k : DV → Prop} (h : CWL K r xs fun ds => k (.lst ds)) : CW K r xs k := fun pn As H0 M H σ Γ O n S us rv Q c =>
  h pn As H0 M H σ Γ O n S us rv Q fun p vs M1 H1 ds e1 S1 h1 h2 h3 h4 hP h5 h6 q => by
    obtain ⟨ex, S2, r2⟩ := S1.keep h1 h3 h4 hP h5 h6
    exact c (.ref p) _ H1 (.lst ds) (Evl.Ex.trans e1 ex) S2 r2 q
/-- three names at once -/
theorem ws_par3 {i j l : Nat} {ta : TA} (h : WA K ta Γ O n fun xs n1 => ∃ x y z, xs = [x, y, z] ∧ E.nx (((Γ.set i (.is x)).set j (.is y)).set l (.is z)) O n1) : WS K (tPar3 i j l ta) Γ O n E := fun pn As H0 M H σ D S s =>
  h pn As H0 M H σ S _ fun vs M1 H1 xs n1 e1 S1 r1 ⟨x, y, z, e, q⟩ => by
    subst e
    cases r1 with
    | cons a b =>
      obtain ⟨u, w, rfl, r, r'⟩ := b.two
      exact ⟨_, u, w, rfl, s.nx As M1 H1 _ _ O n1 (List.prefix_refl _) e1 (((S1.store a).store r).store r') q⟩
/-! isinstance -/
def rIsA (K : Fg) : List V → Hp → VK → Prop := fun xs H Q => rIsi K xs H Q ∨ rIsiT K xs H Q
theorem cr_isA {X : Cx} : CallR X (.builtin "isinstance") (rIsA X.K) := call_isi.or call_isiT
/-- the built-in type of data -/
def tyD : DV → Option String
  | .non => some "NoneType"
  | .bl _ => some "bool"
  | .int _ => some "int"
  | .str _ => some "str"
  | .tup _ => some "tuple"
  | .lst _ => some "list"
  | .dic _ _ => some "dict"
  | _ => none
theorem Rp.tyX {v : V} {t : String} (r : Rp K M v x) (e : Ex M H) (h : tyD x = some t) : TyX K H v (.type t) := by
  cases r with
  | non => cases h; exact .base .non
  | bl b => cases h; exact .base (.bl b)
  | int i => cases h; exact .base (.int i)
  | str i => cases h; exact .base (.str i)
  | ty i => cases h
  | adr i => cases h
  | tup a b =>
    cases h
    rcases a with (a | ⟨o, a⟩) | ⟨o, its, n', hk, hc, _⟩
    · exact .base (.tup (e _ _ a))
    · exact .fTuple (e _ _ a)
    · exact .kTuple hk hc
  | lst a b => cases h; exact .base (.lst (e _ _ a))
  | ins a b c => cases h
  | dic a b c => cases h; exact .base (.dK (e _ _ a))
theorem cw_isTy {t c : String} {b : Bool} {k : DV → Prop} (ht : tyD x = some t) (hk : kitB t c = some b) (q : k (.bl b)) : CW K (rIsA K) [x, .ty c] k := fun pn As H0 M H σ Γ O n S vs r Q cc => by
  obtain ⟨u, w, rfl, h1, h2⟩ := r.two
  cases h2
  exact .inl ⟨u, .ty c, _, _, b, rfl, .ty c, h1.tyX S.ex ht, kit_ty hk, cc _ M H _ (Evl.Ex.refl M) S (.bl b) q⟩
def kitL (t : String) : List String → Option Bool
  | [] => some false
  | c :: cs => match kitB t c with
    | some true => some true
    | some false => kitL t cs
    | none => none
theorem kitL_any {t : String} : ∀ {cs : List String} {b : Bool}, kitL t cs = some b → PySem.W.kitAny K (.type t) (cs.map Value.type) = some b
  | [], b, h => by
    cases h
    exact kitAny_nil
  | c :: cs, b, h => by
    unfold kitL at h
    cases e : kitB t c with
    | none => rw [e] at h; cases h
    | some d =>
      rw [e] at h
      cases d with
      | true =>
        cases h
        exact kitAny_cons (kit_ty e) (fun z => nomatch z) fun _ => rfl
      | false => exact kitAny_cons (kit_ty e) (fun _ => kitL_any h) fun z => nomatch z
theorem clsL : ∀ {cs : List String} {vs : List V}, RpL K M vs (cs.map DV.ty) → Paired ClsV vs (cs.map Value.type)
  | [], _, h => by cases h; exact .nil
  | c :: cs, _, h => by
    cases h with
    | cons a b => cases a; exact .cons (.ty c) (clsL b)
theorem w_isT2 {c1 c2 : String} {k : DV → Nat → Prop} (h : W K te Γ O n fun d n1 => ∃ t b, tyD d = some t ∧ kitL t [c1, c2] = some b ∧ k (.bl b) n1) :
    W K (tCB (rIsA K) (tCons te (tCons (tTup (tCons (tC (.ty c1)) (tCons (tC (.ty c2)) tNil))) tNil))) Γ O n k := fun pn As H0 M H σ S Q c =>
  h pn As H0 M H σ S _ fun v M1 H1 d n1 e1 S1 r1 ⟨t, b, ht, hb, q⟩ => ⟨by show 2 ≤ sizeLine; decide, fun p hp => by
    obtain ⟨ex, S2⟩ := S1.alloc (o := .tup [.ty c1, .ty c2]) hp
    exact .inr ⟨v, p, _, _, _, b, rfl, upd_same, clsL (K := K) (M := M1) (cs := [c1, c2]) (.cons (.ty c1) (.cons (.ty c2) .nil)), (r1.mono ex).tyX S2.ex ht, kitL_any hb, c _ _ _ _ n1 (Evl.Ex.trans e1 ex) S2 (.bl b) q⟩⟩
end
section
variable {X : Cx} {e : Expr} {es : List Expr} {t : TA} {p pos : Pos}
theorem pe_sumA (hm : X.mg "sum" = none) (ha : PA X (e :: es) t) (hc : X.calm = true := by rfl) (hg : Gl X "sum" := by rfl) (he : starEach (e :: es) X.env = (false, eval e X.env) :: starEach es X.env := by rfl) (hpl : (backTo pos (starEach es X.env)).any (·.1) = false := by rfl) :
    PE X (.Call (.Name "sum" p) (e :: es) [] pos) (tCB (rSum X.K) t) := pe_callB (cr_sum hc) hg hm (by decide +kernel) ha (by decide) (by decide) he hpl
theorem pe_allA (hm : X.mg "all" = none) (ha : PA X (e :: es) t) (hc : X.calm = true := by rfl) (hg : Gl X "all" := by rfl) (he : starEach (e :: es) X.env = (false, eval e X.env) :: starEach es X.env := by rfl) (hpl : (backTo pos (starEach es X.env)).any (·.1) = false := by rfl) :
    PE X (.Call (.Name "all" p) (e :: es) [] pos) (tCB (rAll X.K) t) := pe_callB (cr_all hc) hg hm (by decide +kernel) ha (by decide) (by decide) he hpl
theorem pe_anyA (hm : X.mg "any" = none) (ha : PA X (e :: es) t) (hc : X.calm = true := by rfl) (hg : Gl X "any" := by rfl) (he : starEach (e :: es) X.env = (false, eval e X.env) :: starEach es X.env := by rfl) (hpl : (backTo pos (starEach es X.env)).any (·.1) = false := by rfl) :
    PE X (.Call (.Name "any" p) (e :: es) [] pos) (tCB (rAny X.K) t) := pe_callB (cr_any hc) hg hm (by decide +kernel) ha (by decide) (by decide) he hpl
end
end DL
namespace DL
open PySem PySem.Spec PyProof.Rows L2
/-! small words for walking -/
theorem br {p : Prop} [Decidable p] {A B : Prop} (h1 : p → A) (h2 : ¬ p → B) : (decide p = true → A) ∧ (decide p = false → B) := ⟨fun h => h1 (of_decide_eq_true h), fun h => h2 (of_decide_eq_false h)⟩
theorem brN {p : Prop} [Decidable p] {A B : Prop} (h1 : ¬ p → A) (h2 : p → B) : ((!decide p) = true → A) ∧ ((!decide p) = false → B) := ⟨fun h => h1 (of_decide_eq_false (by simpa using h)), fun h => h2 (of_decide_eq_true (by simpa using h))⟩
theorem brT {A B : Prop} (h1 : A) : (true = true → A) ∧ (true = false → B) := And.intro (fun _ => h1) (fun h => Bool.noConfusion h)
theorem brF {A B : Prop} (h1 : B) : (false = true → A) ∧ (false = false → B) := And.intro (fun h => Bool.noConfusion h) (fun _ => h1)
theorem mul_ok {i j : Int} {a b : Nat} (ha : i.natAbs < 2 ^ a) (hb : j.natAbs < 2 ^ b) (h0 : 0 < a) (h1 : 0 < b) (h : a + b ≤ 1000000) : IntMulOk i j := (wide_mul ha hb h0 h1 h).ok
theorem mul_okL {i j : Int} (h1 : -(2 ^ 64) < i) (h2 : i < 2 ^ 64) : IntMulOk i j := .of_left (intBits_le_64 h1 h2)
theorem mul_okR {i j : Int} (h1 : -(2 ^ 64) < j) (h2 : j < 2 ^ 64) : IntMulOk i j := .of_right (intBits_le_64 h1 h2)
/-- what stands between two statements, said -/
theorem ws_cut {K : Fg} {Γ : List SA} {O : Own} {n : Nat} {E : KE} {t u : TS} (P : List SA → Own → Nat → Prop) (h : WS K t Γ O n { E with nx := P }) (k : ∀ Γ' O' n', P Γ' O' n' → WS K u Γ' O' n' E) : WS K (tSeq t u) Γ O n E := fun pn As H0 M H σ D S s =>
  h pn As H0 M H σ { D with nx := u D } S ⟨fun As1 M1 H1 σ1 Γ1 O1 n1 p1 e1 S1 q => k _ _ _ q pn As1 H0 M1 H1 σ1 D S1 (s.at p1 e1), s.rt, s.bk, s.ct⟩
theorem ws_mono {K : Fg} {Γ : List SA} {O : Own} {n : Nat} {E E' : KE} {t : TS} (h : WS K t Γ O n E') (h1 : ∀ Γ O n, E'.nx Γ O n → E.nx Γ O n) (h2 : ∀ d O n, E'.rt d O n → E.rt d O n) (h3 : ∀ Γ O n, E'.bk Γ O n → E.bk Γ O n) (h4 : ∀ Γ O n, E'.ct Γ O n → E.ct Γ O n) : WS K t Γ O n E := fun pn As H0 M H σ D S s =>
  h pn As H0 M H σ D S ⟨fun As1 M1 H1 σ1 Γ1 O1 n1 p1 e1 S1 q => s.nx As1 M1 H1 σ1 Γ1 O1 n1 p1 e1 S1 (h1 _ _ _ q), fun As1 v M1 H1 σ1 Γ1 O1 d n1 p1 e1 S1 r q => s.rt As1 v M1 H1 σ1 Γ1 O1 d n1 p1 e1 S1 r (h2 _ _ _ q),
    fun As1 M1 H1 σ1 Γ1 O1 n1 p1 e1 S1 q => s.bk As1 M1 H1 σ1 Γ1 O1 n1 p1 e1 S1 (h3 _ _ _ q), fun As1 M1 H1 σ1 Γ1 O1 n1 p1 e1 S1 q => s.ct As1 M1 H1 σ1 Γ1 O1 n1 p1 e1 S1 (h4 _ _ _ q)⟩
end DL
/-- one step of an expression, of a test, of arguments -/
local macro_rules | `(tactic| walk_at "dl1") => `(tactic| first
  | with_reducible refine DL.w_int ?_
  | with_reducible refine DL.wa_nil ?_
  | with_reducible refine DL.wa_cons ?_
  | ((with_reducible refine' DL.w_ixOwn ?h ?h2 ?_); (case h => rfl); (case h2 => rfl))
  | ((with_reducible refine' DL.w_lenOwn ?h ?h2 ?_); (case h => rfl); (case h2 => rfl))
  | with_reducible refine DL.w_op ?_
  | ((with_reducible refine' DL.w_var ?h ?_); (case h => rfl))
  | with_reducible refine DL.ow_plusI ?_
  | with_reducible refine DL.ow_minus ?_
  | with_reducible refine DL.ow_gt (Exists.intro _ (And.intro rfl ?_))
  | with_reducible refine DL.ow_lt (Exists.intro _ (And.intro rfl ?_))
  | with_reducible refine DL.ow_ge (Exists.intro _ (And.intro rfl ?_))
  | with_reducible refine DL.ow_le (Exists.intro _ (And.intro rfl ?_))
  | with_reducible refine DL.ow_eqI (Exists.intro _ (And.intro rfl ?_))
  | with_reducible refine DL.ow_neI (Exists.intro _ (And.intro rfl ?_))
  | with_reducible refine DL.ow_gt ?_
  | with_reducible refine DL.ow_lt ?_
  | with_reducible refine DL.ow_ge ?_
  | with_reducible refine DL.ow_le ?_
  | with_reducible refine DL.ow_eqI ?_
  | with_reducible refine DL.ow_neI ?_
  | with_reducible refine DL.w_cb ?_
  | with_reducible refine DL.w_un ?_
  | with_reducible refine DL.uw_neg ?_
  | with_reducible refine DL.cw_gcd ?_
  | with_reducible refine DL.cw_abs ?_
  | with_reducible refine DL.cw_intI ?_
  | with_reducible refine DL.cw_intB ?_
  | with_reducible refine DL.cw_lenL ?_
  | with_reducible refine DL.cw_lenT ?_
  | with_reducible refine DL.wt_test ?_
  | with_reducible refine DL.wt_and ?_
  | with_reducible refine DL.wt_or ?_
  | with_reducible refine DL.wt_not ?_
  | with_reducible refine DL.wt_tru ?_
  | with_reducible refine DL.w_if ?_
  | with_reducible refine DL.w_and ?_
  | with_reducible refine DL.w_or ?_
  | with_reducible refine DL.w_not ?_
  | with_reducible refine DL.w_bl ?_
  | with_reducible refine DL.w_non ?_
  | with_reducible refine DL.w_str ?_
  | with_reducible refine DL.w_ty ?_
  | (with_reducible refine DL.w_tup ?_)
  | ((with_reducible refine' DL.ow_ixT ?h ?_); (case h => rfl))
  | with_reducible refine DL.w_call ?_
  | with_reducible refine DL.w_dnew ?_
  | with_reducible refine DL.ow_isN ?_
  | with_reducible refine DL.ow_notN ?_)
local macro_rules | `(tactic| walk_at "ix") => `(tactic| refine Exists.intro _ (Exists.intro _ (And.intro rfl (And.intro rfl ?_))))
local macro_rules | `(tactic| walk_at "dl") => `(tactic| repeat' walk_at "dl1")
local macro_rules | `(tactic| walk_at "len") => `(tactic| refine And.intro (by simp) ?_)
namespace DL
open PySem PySem.Spec PyProof.Rows L2
/-! ### plain data: equality, shape -/
theorem pyL_map {α : Type} (f : α → DV) : ∀ l : List α, pyL (l.map f) = l.map fun x => py (f x)
  | [] => rfl
  | x :: l => by simp only [List.map_cons, pyL, pyL_map f l]
theorem isPyL_map {α : Type} (f : α → DV) : ∀ l : List α, (∀ x ∈ l, isPy (f x) = true) → isPyL (l.map f) = true
  | [], _ => rfl
  | x :: l, h => by simp only [List.map_cons, isPyL, Bool.and_eq_true]; exact ⟨h x (by simp), isPyL_map f l fun y hy => h y (by simp [hy])⟩
theorem canLayAll_map {α : Type} (f : α → PyData) : ∀ l : List α, (∀ x ∈ l, (f x).canLay0 = true) → PyData.canLayAll0 (l.map f) = true
  | [], _ => rfl
  | x :: l, h => by simp only [List.map_cons, PyData.canLayAll0, Bool.and_eq_true]; exact ⟨h x (by simp), canLayAll_map f l fun y hy => h y (by simp [hy])⟩
theorem depthAll_map {α : Type} (f : α → PyData) (m : Nat) : ∀ l : List α, (∀ x ∈ l, (f x).depth ≤ m) → PyData.depthAll (l.map f) ≤ m
  | [], _ => Nat.zero_le _
  | x :: l, h => by
    simp only [List.map_cons, PyData.depthAll]
    exact Nat.max_le.mpr ⟨h x (by simp), depthAll_map f m l fun y hy => h y (by simp [hy])⟩
/-- the same depth at most m, plain through and through -/
structure Pl (m : Nat) (d : DV) : Prop where
  py : isPy d = true
  lay : (DL.py d).canLay0 = true
  dep : (DL.py d).depth ≤ m
theorem Pl.shp {m : Nat} {d : DV} (h : Pl m d) (hm : m ≤ 64 := by decide) : shp d = true := by
  unfold DL.shp SeqAt.shaped
  rw [h.py, h.lay, Bool.true_and, Bool.true_and]
  exact decide_eq_true (Nat.le_trans h.dep hm)
theorem pl_int {m : Nat} (i : Int) : Pl m (.int i) := ⟨rfl, by simp [DL.py, PyData.canLay0], by simp [DL.py, PyData.depth]⟩
theorem pl_bl {m : Nat} (i : Bool) : Pl m (.bl i) := ⟨rfl, by simp [DL.py, PyData.canLay0], by simp [DL.py, PyData.depth]⟩
theorem pl_non {m : Nat} : Pl m .non := ⟨rfl, by simp [DL.py, PyData.canLay0], by simp [DL.py, PyData.depth]⟩
theorem isPyL_all : ∀ ds : List DV, (∀ d ∈ ds, isPy d = true) → isPyL ds = true
  | [], _ => rfl
  | d :: ds, h => by simp only [isPyL, Bool.and_eq_true]; exact ⟨h d (by simp), isPyL_all ds fun y hy => h y (by simp [hy])⟩
theorem canLay_all : ∀ ds : List DV, (∀ d ∈ ds, (DL.py d).canLay0 = true) → PyData.canLayAll0 (pyL ds) = true
  | [], _ => rfl
  | d :: ds, h => by simp only [pyL, PyData.canLayAll0, Bool.and_eq_true]; exact ⟨h d (by simp), canLay_all ds fun y hy => h y (by simp [hy])⟩
theorem depth_all {m : Nat} : ∀ ds : List DV, (∀ d ∈ ds, (DL.py d).depth ≤ m) → PyData.depthAll (pyL ds) ≤ m
  | [], _ => Nat.zero_le _
  | d :: ds, h => by simp only [pyL, PyData.depthAll]; exact Nat.max_le.mpr ⟨h d (by simp), depth_all ds fun y hy => h y (by simp [hy])⟩
theorem pl_lst {m : Nat} {ds : List DV} (h : ∀ d ∈ ds, Pl m d) : Pl (m + 1) (.lst ds) :=
  ⟨by simp only [isPy]; exact isPyL_all ds fun d hd => (h d hd).py, by simp only [DL.py, PyData.canLay0]; exact canLay_all ds fun d hd => (h d hd).lay, by simp only [DL.py, PyData.depth]; exact Nat.succ_le_succ (depth_all ds fun d hd => (h d hd).dep)⟩
theorem pl_tup {m : Nat} {ds : List DV} (h : ∀ d ∈ ds, Pl m d) : Pl (m + 1) (.tup ds) :=
  ⟨by simp only [isPy]; exact isPyL_all ds fun d hd => (h d hd).py, by simp only [DL.py, PyData.canLay0]; exact canLay_all ds fun d hd => (h d hd).lay, by simp only [DL.py, PyData.depth]; exact Nat.succ_le_succ (depth_all ds fun d hd => (h d hd).dep)⟩
theorem pl_ints {m : Nat} (ns : List Int) : Pl (m + 1) (.lst (ns.map DV.int)) := pl_lst fun d hd => by
  obtain ⟨i, _, rfl⟩ := List.mem_map.mp hd
  exact pl_int i
theorem pl_intsT {m : Nat} (ns : List Int) : Pl (m + 1) (.tup (ns.map DV.int)) := pl_tup fun d hd => by
  obtain ⟨i, _, rfl⟩ := List.mem_map.mp hd
  exact pl_int i
/-- data that == tells apart: an encoding -/
theorem eqvAll_map {α : Type} (f : α → DV) (he : ∀ x y, PyData.eqv (DL.py (f x)) (DL.py (f y)) = true ↔ x = y) : ∀ l k : List α, PyData.eqvAll (pyL (l.map f)) (pyL (k.map f)) = true ↔ l = k
  | [], [] => by simp [pyL, PyData.eqvAll]
  | [], y :: k => by simp [pyL, PyData.eqvAll]
  | x :: l, [] => by simp [pyL, PyData.eqvAll]
  | x :: l, y :: k => by
    simp only [List.map_cons, pyL, PyData.eqvAll, Bool.and_eq_true, he, eqvAll_map f he l k, List.cons.injEq]
theorem eqv_int (i j : Int) : PyData.eqv (DL.py (.int i)) (DL.py (.int j)) = true ↔ i = j := by simp [DL.py, PyData.eqv]
theorem eqv_lst {α : Type} (f : α → DV) (he : ∀ x y, PyData.eqv (DL.py (f x)) (DL.py (f y)) = true ↔ x = y) (l k : List α) : PyData.eqv (DL.py (.lst (l.map f))) (DL.py (.lst (k.map f))) = true ↔ l = k := by
  simp only [DL.py, PyData.eqv]; exact eqvAll_map f he l k
theorem eqv_tup {α : Type} (f : α → DV) (he : ∀ x y, PyData.eqv (DL.py (f x)) (DL.py (f y)) = true ↔ x = y) (l k : List α) : PyData.eqv (DL.py (.tup (l.map f))) (DL.py (.tup (k.map f))) = true ↔ l = k := by
  simp only [DL.py, PyData.eqv]; exact eqvAll_map f he l k
theorem eqv_ints (l k : List Int) : PyData.eqv (DL.py (.lst (l.map DV.int))) (DL.py (.lst (k.map DV.int))) = true ↔ l = k := eqv_lst _ eqv_int l k
/-! ### the pen -/
section
variable {K : Fg} {N : List Str} {vs : List V} {H : Hp} {Q : VK} {E : XK} {t : TS}
theorem body_own {α : Type} {pre : α → Prop} {args : α → List DV} {cost : α → Nat} {res : α → DV → Prop} (h : spP K pre args cost res vs H Q E)
    (hw : ∀ (a : α) (n : Nat) (cells : List Int) (at_ left : Int), pre a → n + cost a ≤ 1000000 → cells.length ≤ 63 → 0 ≤ at_ → at_ ≤ (n : Int) → 0 ≤ left →
      WS K t (.own 0 :: (args a).map .is ++ List.replicate (N.length - (args a).length - 1) .no) [some [.lst (cells.map DV.int), .int at_, .int left]] 0
        { nx := fun _ _ _ => False, rt := fun d O _ => (∃ a' l', O = [some [.lst (cells.map DV.int), .int a', .int l']] ∧ 0 ≤ a' ∧ a' ≤ (n : Int) + (cost a : Int) ∧ 0 ≤ l') ∧ res a d }) :
    t { nx := fun _ H' => Q .non H', rt := Q } (L2.start N vs) H := by
  obtain ⟨p, us, M, n, a, hpre, rfl, e, hp, ⟨ws, cells, at_, left, g1, g2, g3, g4, g5, g6⟩, hn, r, c⟩ := h
  let H0 : Ent := ⟨fun b => if b = p then none else H b, fun b => b ≠ p ∧ H b ≠ none ∧ M b = none⟩
  have at_p : H0 p = none := if_pos rfl
  have off : ∀ b, b ≠ p → H0 b = H b := fun b hb => if_neg hb
  have st : Sta K none [p] H0 M H (L2.start N (.ref p :: us)) (.own 0 :: (args a).map .is ++ List.replicate (N.length - (args a).length - 1) .no) [some [.lst (cells.map DV.int), .int at_, .int left]] 0 := by
    refine ⟨⟨e, fun b o _ h => ?_, fun q hq => nomatch hq⟩, fun j b ds h1 h2 => ?_, fun b hb => ?_, fun b hb => ⟨hb.2.2, hb.2.1, by rw [off b hb.1]; exact hb.2.1⟩, by simp, rfl, ?_, fun i s h => ?_⟩
    · by_cases hb : b = p
      · subst hb; rw [at_p] at h; cases h
      · rw [off b hb] at h; exact h
    · cases j with
      | zero =>
        simp at h1 h2
        subst h1 h2
        exact ⟨hp, at_p, (fun z => nomatch z), ws, g1, g2⟩
      | succ j => simp at h1
    · simp at hb; subst hb; rw [g1]; exact fun z => nomatch z
    · unfold L2.start
      simp [r.length]
      omega
    · unfold L2.start
      cases i with
      | zero =>
        simp at h
        subst h
        exact ⟨p, rfl, rfl⟩
      | succ i =>
        have h' : ((args a).map SA.is ++ List.replicate (N.length - (args a).length - 1) SA.no)[i]? = some s := h
        have q := slots_ok (pn := none) (As := [p]) r (N.length - (args a).length - 1) i s h'
        have e0 : N.length - (V.ref p :: us).length = N.length - (args a).length - 1 := by simp [r.length]; omega
        rw [e0]
        exact q
  refine hw a n cells at_ left hpre hn g3 g4 g5 g6 none [p] H0 M H _ _ st ⟨fun _ _ _ _ _ _ _ _ _ _ q => q.elim, ?_, fun _ _ _ _ _ _ _ _ _ _ q => q, fun _ _ _ _ _ _ _ _ _ _ q => q⟩
  intro As v M' H' σ Γ O d m pA e1 S r1 ⟨⟨a', l', eO, k1, k2, k3⟩, q⟩
  subst eO
  obtain ⟨Bs, rfl⟩ := pA
  obtain ⟨f1, f2, f3, ws', f4, f5⟩ := S.own 0 p _ rfl rfl
  refine c v M' H' d e1 (fun b o hb h => S.kp b o (fun z => nomatch z) (by rw [off b hb]; exact h)) S.ex (fun b h1 h2 => ?_) ⟨ws', cells, a', l', f4, f5, g3, k1, by omega, k3⟩ r1 q
  by_cases hb : b = p
  · subst hb; exact f1
  · exact (S.pr b ⟨hb, h1, h2⟩).1
/-- the law's own pen: draw -/
abbrev sp_draw (K : Fg) : Sp := spP K (fun m : Int => 1 ≤ m ∧ m.natAbs < 2 ^ 9000) (fun m => [.int m]) (fun _ => 1) fun m d => ∃ r, d = .int r ∧ 0 ≤ r ∧ r < m
def t_draw (K : Fg) (c1 c2 c3 c4 : Int) : TS :=
    (tSeq (tIfS (tTest (tOp rGt (tOp (rIx K) (tVar 0) (tC (.int 2))) (tC (.int 0)))) (tSeq (tAsg (tOp rFmod (tCB rInt1 (tCons (tOp (rIx K) (tVar 0) (tC (.int 2))) tNil)) (tVar 1)) (gName 2))
    (tSeq (tAsg (tOp rFdiv (tCB rInt1 (tCons (tOp (rIx K) (tVar 0) (tC (.int 2))) tNil)) (tVar 1)) (gSub (tVar 0) (tC (.int 2)) rSetL))
    (tRet (tVar 2)))) tNext)
    (tSeq (tAsg (tOp (rIx K) (tVar 0) (tC (.int 1))) (gName 3))
    (tSeq (tAsg (tOp (rPlus K) (tVar 3) (tC (.int 1))) (gSub (tVar 0) (tC (.int 1)) rSetL))
    (tSeq (tAsg (tOp (rPlus K) (tOp (rTimes K) (tC (.int c1)) (tVar 3)) (tC (.int c2))) (gName 4))
    (tSeq (tIfS (tTest (tOp (rNeA K) (tOp (rIx K) (tVar 0) (tC (.int 0))) (tLst tNil))) (tAsg (tOp (rIx K) (tOp (rIx K) (tVar 0) (tC (.int 0))) (tOp rFmod (tCB rInt1 (tCons (tVar 3) tNil)) (tCB (rLenA K) (tCons (tOp (rIx K) (tVar 0) (tC (.int 0))) tNil)))) (gName 4)) tNext)
    (tSeq (tIfS (tAnd (tTest (tOp rLt (tVar 3) (tCB (rLenA K) (tCons (tOp (rIx K) (tVar 0) (tC (.int 0))) tNil)))) (tTest (tOp rGe (tCB rAbs (tCons (tVar 4) tNil)) (tOp rPow (tC (.int 10)) (tC (.int 18)))))) (tSeq (tAsg (tOp (rPlus K) (tOp (rTimes K) (tC (.int 2)) (tOp rMinus (tCB rAbs (tCons (tVar 4) tNil)) (tOp rPow (tC (.int 10)) (tC (.int 18))))) (tCB rInt1 (tCons (tOp rLt (tVar 4) (tC (.int 0))) tNil))) (gName 5))
    (tSeq (tAsg (tOp rFdiv (tCB rInt1 (tCons (tVar 5) tNil)) (tVar 1)) (gSub (tVar 0) (tC (.int 2)) rSetL))
    (tRet (tOp rFmod (tCB rInt1 (tCons (tVar 5) tNil)) (tVar 1))))) tNext)
    (tSeq (tAsg (tOp rFmod (tCB rInt1 (tCons (tOp rPow (tOp (rPlus K) (tOp (rPlus K) (tOp rFmod (tCB rInt1 (tCons (tVar 4) tNil)) (tC (.int 2147483549))) (tOp (rTimes K) (tC (.int c1)) (tVar 3))) (tC (.int c2))) (tC (.int 5))) tNil)) (tC (.int 2147483629))) (gName 6))
    (tSeq (tAsg (tOp rFmod (tCB rInt1 (tCons (tOp rPow (tOp (rPlus K) (tOp (rPlus K) (tOp (rTimes K) (tVar 6) (tOp (rPlus K) (tOp (rTimes K) (tC (.int 2)) (tVar 3)) (tC (.int c3)))) (tOp (rTimes K) (tOp (rTimes K) (tC (.int c4)) (tVar 3)) (tVar 3))) (tC (.int c2))) (tC (.int 3))) tNil)) (tC (.int 2147483587))) (gName 6))
    (tRet (tOp rFmod (tCB rInt1 (tCons (tOp rFdiv (tVar 6) (tC (.int 64))) tNil)) (tVar 1)))))))))))
theorem fmod_range {x m : Int} (h : 0 < m) : 0 ≤ x.fmod m ∧ x.fmod m < m := by
  rw [Int.fmod_eq_emod_of_nonneg x (by omega)]
  exact ⟨Int.emod_nonneg x (by omega), Int.emod_lt_of_pos x h⟩
theorem fdiv_nn {x m : Int} (h : 0 < m) (hx : 0 ≤ x) : 0 ≤ x.fdiv m := by
  rw [Int.fdiv_eq_ediv_of_nonneg x (by omega)]
  exact Int.ediv_nonneg hx (by omega)
theorem rd_draw {K : Fg} {c1 c2 c3 c4 : Int} (hc1 : 0 ≤ c1 ∧ c1 ≤ 1000000) (hc2 : 0 ≤ c2 ∧ c2 ≤ 1000000) (hc3 : 0 ≤ c3 ∧ c3 ≤ 1000000) (hc4 : 0 ≤ c4 ∧ c4 ≤ 1000000) (m : Int) (n : Nat) (cells : List Int) (at_ left : Int)
    (hm : 1 ≤ m) (hm2 : m.natAbs < 2 ^ 9000) (hn : n + 1 ≤ 1000000) (hl : cells.length ≤ 63) (h0 : 0 ≤ at_) (h1 : at_ ≤ (n : Int)) (h2 : 0 ≤ left) :
    WS K (t_draw K c1 c2 c3 c4) [.own 0, .is (.int m), .no, .no, .no, .no, .no] [some [.lst (cells.map DV.int), .int at_, .int left]] 0
      { nx := fun _ _ _ => False, rt := fun d O _ => (∃ a' l', O = [some [.lst (cells.map DV.int), .int a', .int l']] ∧ 0 ≤ a' ∧ a' ≤ (n : Int) + ((1 : Nat) : Int) ∧ 0 ≤ l') ∧ ∃ r, d = .int r ∧ 0 ≤ r ∧ r < m } := by
  have mne : m ≠ 0 := by omega
  unfold t_draw
  refine ws_seq (ws_if ?_)
  walk_at "dl"
  walk_at "ix"
  walk_at "dl"
  refine br (fun hlt => ?_) (fun hlt => ?_)
  · refine ws_seq (ws_asg ?_)
    walk_at "dl"
    walk_at "ix"
    walk_at "dl"
    refine ow_fmod mne ?_
    refine ws_seq (ws_asgG ?_)
    walk_at "dl"
    walk_at "ix"
    walk_at "dl"
    refine ow_fdiv mne hm2 ?_
    refine xg_set rfl rfl ?_
    walk_at "dl"
    refine ⟨2, 2, rfl, rfl, ?_⟩
    refine ws_ret ?_
    walk_at "dl"
    exact ⟨⟨at_, _, rfl, h0, by omega, fdiv_nn (by omega) h2⟩, _, rfl, fmod_range (by omega)⟩
  · refine ws_next ?_
    refine ws_seq (ws_asg ?_)
    walk_at "dl"
    walk_at "ix"
    refine ws_seq (ws_asgG ?_)
    walk_at "dl"
    refine xg_set rfl rfl ?_
    walk_at "dl"
    refine ⟨1, 1, rfl, rfl, ?_⟩
    refine ws_seq (ws_asg ?_)
    walk_at "dl"
    refine ow_timesI (mul_okL (by omega) (by omega)) ?_
    walk_at "dl"
    refine ws_cut (fun Γ' O' n' => ∃ y : Int, Γ' = [.own 0, .is (.int m), .no, .is (.int at_), .is (.int y), .no, .no] ∧ O' = [some [.lst (cells.map DV.int), .int (at_ + 1), .int left]] ∧ n' = 0) (ws_if ?_) ?_
    · walk_at "dl"
      walk_at "ix"
      refine w_of_wl (wl_lst ?_)
      walk_at "dl"
      walk_at "len"
      refine ow_neD (pl_ints (m := 0) cells).shp (pl_ints (m := 0) []).shp ?_
      refine ⟨_, rfl, fun h => ?_, fun h => ?_⟩
      · have hne : cells ≠ [] := fun z => by
          have e0 : PyData.eqv (DL.py (.lst (cells.map DV.int))) (DL.py (.lst [])) = true := (eqv_ints cells []).mpr z
          rw [e0] at h; cases h
        have hpos : 0 < cells.length := List.length_pos_iff.mpr hne
        refine ws_asg ?_
        walk_at "dl"
        walk_at "ix"
        walk_at "dl"
        walk_at "ix"
        walk_at "dl"
        rw [List.length_map]
        refine ow_fmod (by omega) ?_
        have hr := fmod_range (x := at_) (m := (cells.length : Int)) (by omega)
        obtain ⟨j, hj⟩ : ∃ j : Nat, at_.fmod (cells.length : Int) = (j : Int) := ⟨(at_.fmod (cells.length : Int)).toNat, by omega⟩
        rw [hj]
        have hjl : j < cells.length := by omega
        refine ow_ixL (d := .int cells[j]) ?_ ?_
        · unfold atI
          rw [List.length_map, Evl.ixN_nat hjl]
          simp [hjl]
        · exact ⟨_, rfl, rfl, rfl⟩
      · exact ws_next ⟨_, rfl, rfl, rfl⟩
    rintro _ _ _ ⟨y, rfl, rfl, rfl⟩
    have p18 : (10 : Int) ^ (18 : Int).toNat = 1000000000000000000 := by decide
    have cp : CPow 10 18 := ⟨by decide, by decide, by decide⟩
    have hca : 0 ≤ c1 * at_ ∧ c1 * at_ ≤ 1000000 * 1000000 := ⟨Int.mul_nonneg hc1.1 h0, Int.mul_le_mul hc1.2 (by omega) h0 (by omega)⟩
    have hcb : 0 ≤ c4 * at_ ∧ c4 * at_ ≤ 1000000 * 1000000 := ⟨Int.mul_nonneg hc4.1 h0, Int.mul_le_mul hc4.2 (by omega) h0 (by omega)⟩
    have hcc : 0 ≤ c4 * at_ * at_ ∧ c4 * at_ * at_ ≤ 1000000 * 1000000 * 1000000 := ⟨Int.mul_nonneg hcb.1 h0, Int.mul_le_mul hcb.2 (by omega) h0 (by omega)⟩
    refine ws_cut (fun Γ' O' n' => Γ' = [.own 0, .is (.int m), .no, .is (.int at_), .is (.int y), .no, .no] ∧ O' = [some [.lst (cells.map DV.int), .int (at_ + 1), .int left]] ∧ n' = 0) (ws_if ?_) ?_
    · walk_at "dl"
      walk_at "ix"
      walk_at "dl"
      refine br (fun hat => ?_) (fun hat => brF (ws_next ⟨rfl, rfl, rfl⟩))
      walk_at "dl"
      refine ow_pow cp ?_
      rw [p18]
      walk_at "dl"
      refine br (fun hge => ?_) (fun hge => ws_next ⟨rfl, rfl, rfl⟩)
      refine ws_seq (ws_asg ?_)
      walk_at "dl"
      refine ow_pow cp ?_
      rw [p18]
      walk_at "dl"
      refine ow_timesI (mul_okL (by decide) (by decide)) ?_
      walk_at "dl"
      refine ws_seq (ws_asgG ?_)
      walk_at "dl"
      refine ow_fdiv mne hm2 ?_
      refine xg_set rfl rfl ?_
      walk_at "dl"
      refine ⟨2, 2, rfl, rfl, ?_⟩
      refine ws_ret ?_
      walk_at "dl"
      refine ow_fmod mne ?_
      refine ⟨⟨at_ + 1, _, rfl, by omega, by omega, fdiv_nn (by omega) ?_⟩, _, rfl, fmod_range (by omega)⟩
      split <;> omega
    rintro _ _ _ ⟨rfl, rfl, rfl⟩
    refine ws_seq (ws_asg ?_)
    walk_at "dl"
    refine ow_fmod (by decide) ?_
    walk_at "dl"
    refine ow_timesI (mul_okL (by omega) (by omega)) ?_
    walk_at "dl"
    have hy := fmod_range (x := y) (m := 2147483549) (by decide)
    refine ow_pow ⟨by decide, by decide, by omega⟩ ?_
    walk_at "dl"
    refine ow_fmod (by decide) ?_
    generalize hb : Int.fmod ((Int.fmod y 2147483549 + c1 * at_ + c2) ^ (5 : Int).toNat) 2147483629 = b
    have hb2 : 0 ≤ b ∧ b < 2147483629 := by rw [← hb]; exact fmod_range (by decide)
    have hbm : 0 ≤ b * (2 * at_ + c3) ∧ b * (2 * at_ + c3) ≤ 2147483629 * 3000000 := ⟨Int.mul_nonneg hb2.1 (by omega), Int.mul_le_mul (by omega) (by omega) (by omega) (by omega)⟩
    refine ws_seq (ws_asg ?_)
    walk_at "dl"
    refine ow_timesI (mul_okL (by decide) (by decide)) ?_
    walk_at "dl"
    refine ow_timesI (mul_okL (by omega) (by omega)) ?_
    walk_at "dl"
    refine ow_timesI (mul_okL (by omega) (by omega)) ?_
    walk_at "dl"
    refine ow_timesI (mul_okL (by omega) (by omega)) ?_
    walk_at "dl"
    refine ow_pow ⟨by decide, by decide, by omega⟩ ?_
    walk_at "dl"
    refine ow_fmod (by decide) ?_
    refine ws_ret ?_
    walk_at "dl"
    refine ow_fdiv (by decide) (Nat.lt_of_lt_of_le (by decide : (64 : Int).natAbs < 2 ^ 7) (Nat.pow_le_pow_right (by decide) (by decide))) ?_
    walk_at "dl"
    refine ow_fmod mne ?_
    exact ⟨⟨at_ + 1, _, rfl, by omega, by omega, h2⟩, _, rfl, fmod_range (by omega)⟩
end
end DL
namespace DL
open PySem PySem.Spec PyProof.Rows L2
/-! helpers for the walks -/
abbrev ED (res : DV → Prop) : KE := { nx := fun _ _ _ => res .non, rt := fun d _ _ => res d }
abbrev EP (m : Nat) (res : DV → Prop) : KE := { nx := fun _ _ n => n ≤ m ∧ res .non, rt := fun d _ n => n ≤ m ∧ res d }
theorem nmul {x y : Int} {a b : Nat} (hx : x.natAbs < 2 ^ a) (hy : y.natAbs < 2 ^ b) : (x * y).natAbs < 2 ^ (a + b) := by
  rw [Int.natAbs_mul, Nat.pow_add]
  exact Nat.mul_lt_mul'' hx hy
theorem nadd {x y : Int} {a : Nat} (hx : x.natAbs < 2 ^ a) (hy : y.natAbs < 2 ^ a) : (x + y).natAbs < 2 ^ (a + 1) := by
  rw [Nat.pow_succ]; omega
theorem nsub {x y : Int} {a : Nat} (hx : x.natAbs < 2 ^ a) (hy : y.natAbs < 2 ^ a) : (x - y).natAbs < 2 ^ (a + 1) := by
  rw [Nat.pow_succ]; omega
theorem nle {x : Int} {a b : Nat} (hx : x.natAbs < 2 ^ a) (h : a ≤ b) : x.natAbs < 2 ^ b := Nat.lt_of_lt_of_le hx (Nat.pow_le_pow_right (by decide) h)
section
variable {K : Fg} {Γ : List SA} {O : Own} {n : Nat} {te : TE}
/-- [f(a) for a in xs] -/
theorem wl_lcF {α : Type} {wi : TI} {g : TG} {vs : List Nat} {k : List DV → Nat → Prop}
    (h : SW K wi Γ O n fun xs n1 => ∃ (as : List α) (e f : α → DV), xs = as.map e ∧ as.length ≤ 100000 ∧ (∀ a ∈ as, GW K g vs (e a) (wipeG Γ vs) fun Γ2 => W K te Γ2 O n1 fun y n' => y = f a ∧ n' = n1) ∧ k (as.map f) n1) :
    WL K (tLc wi g tYes te vs) Γ O n k := by
  refine wl_lc fun pn As H0 M H σ S R c => h pn As H0 M H σ S R fun J M' H' xs n' e1 S1 it ⟨as, e, f, ex, hl, hs, hk⟩ => c J M' H' xs n' e1 S1 it ?_
  subst ex
  refine ⟨by simpa using hl, fun i acc n2 => acc = (as.take i).map f ∧ n2 = n', ⟨rfl, rfl⟩, fun i x acc n2 hx ⟨ha, hn⟩ => ?_, fun acc n2 ⟨ha, hn⟩ => ?_⟩
  · subst ha hn
    rw [List.getElem?_map] at hx
    cases hi : as[i]? with
    | none => rw [hi] at hx; cases hx
    | some a =>
      rw [hi] at hx
      cases hx
      have hm : a ∈ as := List.mem_of_getElem? hi
      intro pn As H0 M H σ O n S v r Q c
      refine hs a hm pn As H0 M H σ O n S v r Q fun σ' Γ' S' w q => c σ' Γ' S' w (wt_yes ⟨fun _ => ?_, fun z => nomatch z⟩)
      intro pn As H0 M H σ S Q c
      refine q pn As H0 M H σ S Q fun v M' H' d n3 e1 S1 r1 ⟨ey, en⟩ => c v M' H' d n3 e1 S1 r1 ⟨?_, en⟩
      subst ey
      rw [List.take_add_one, hi]
      simp
  · subst ha hn
    simpa using hk
theorem zipD_map {α β : Type} (e : α → DV) (f : β → DV) : ∀ (as : List α) (bs : List β), zipD (as.map e) (bs.map f) = (as.zip bs).map fun z => .tup [e z.1, f z.2]
  | [], _ => by simp [zipD]
  | _ :: _, [] => by simp [zipD]
  | a :: as, b :: bs => by simp [zipD, zipD_map e f as bs]
/-- lists of numbers, walked -/
theorem SW.mono {wi : TI} {k k' : List DV → Nat → Prop} (h : SW K wi Γ O n k) (hk : ∀ xs n, k xs n → k' xs n) : SW K wi Γ O n k' := fun pn As H0 M H σ S R c => h pn As H0 M H σ S R fun J M' H' xs n' e1 S1 it q => c J M' H' xs n' e1 S1 it (hk xs n' q)
theorem W.mono {k k' : DV → Nat → Prop} (h : W K te Γ O n k) (hk : ∀ d n, k d n → k' d n) : W K te Γ O n k' := fun pn As H0 M H σ S Q c => h pn As H0 M H σ S Q fun v M' H' d n' e1 S1 r q => c v M' H' d n' e1 S1 r (hk d n' q)
theorem WL.mono {k k' : List DV → Nat → Prop} (h : WL K te Γ O n k) (hk : ∀ d n, k d n → k' d n) : WL K te Γ O n k' := fun pn As H0 M H σ S Q c => h pn As H0 M H σ S Q fun p vs M' H' d n' e1 S1 a1 a2 a3 a4 a5 a6 a7 q => c p vs M' H' d n' e1 S1 a1 a2 a3 a4 a5 a6 a7 (hk d n' q)
/-- items at natural places -/
theorem atI_nat {α : Type} {ds : List α} {i : Nat} {d : α} (h : ds[i]? = some d) : atI ds (i : Int) = some d := by
  have hi : i < ds.length := (List.getElem?_eq_some_iff.mp h).1
  unfold atI
  rw [Evl.ixN_nat hi]
  exact h
theorem ow_ixN {ds : List DV} {i : Nat} {d : DV} {k : DV → Prop} (h : ds[i]? = some d) (q : k d) : OW K (rIx K) (.lst ds) (.int (i : Int)) k := ow_ixL (atI_nat h) q
theorem ow_ixNT {ds : List DV} {i : Nat} {d : DV} {k : DV → Prop} (h : ds[i]? = some d) (q : k d) : OW K (rIx K) (.tup ds) (.int (i : Int)) k := ow_ixT (atI_nat h) q
end
end DL
namespace DL
open PySem PySem.Spec PyProof.Rows L2
/-! what repr can show -/
structure Sh (w : Nat) (d : DV) : Prop where
  sh : (DL.py d).showable = true
  nd : (DL.py d).hasDict = false
  lv : (DL.py d).leavesShort 300 = true
  wt : (DL.py d).weight ≤ w
theorem sh_int {i : Int} (h : i.natAbs < 2 ^ 250) : Sh 251 (.int i) := by
  have hl : i.natAbs.log2 < 250 := by
    by_cases h0 : i.natAbs = 0
    · rw [h0]; decide
    · exact (Nat.log2_lt h0).mpr h
  refine ⟨?_, rfl, ?_, ?_⟩
  · simp only [DL.py, PyData.showable]; exact decide_eq_true (by omega)
  · simp only [DL.py, PyData.leavesShort]
    refine decide_eq_true ?_
    show (Str.ofString (toString i)).length ≤ 300
    rw [PySem.ofString_length]
    have := int_text_length_le (by decide) hl
    omega
  · simp only [DL.py, PyData.weight]
    split <;> omega
theorem shs {w : Nat} : ∀ (ds : List DV), (∀ d ∈ ds, Sh w d) → PyData.showableAll (pyL ds) = true ∧ PyData.hasDictAll (pyL ds) = false ∧ PyData.leavesShortAll 300 (pyL ds) = true ∧ PyData.weightAll (pyL ds) ≤ ds.length * (w + 1)
  | [], _ => ⟨rfl, rfl, rfl, Nat.zero_le _⟩
  | d :: ds, h => by
    obtain ⟨a, b, c, e⟩ := h d (by simp)
    obtain ⟨a', b', c', e'⟩ := shs ds fun x hx => h x (by simp [hx])
    refine ⟨?_, ?_, ?_, ?_⟩
    · simp only [pyL, PyData.showableAll, a, a', Bool.and_self]
    · simp only [pyL, PyData.hasDictAll, b, b', Bool.or_self]
    · simp only [pyL, PyData.leavesShortAll, c, c', Bool.and_self]
    · simp only [pyL, PyData.weightAll, List.length_cons]
      rw [Nat.add_mul]
      omega
theorem sh_lst {w : Nat} {ds : List DV} (h : ∀ d ∈ ds, Sh w d) : Sh (ds.length * (w + 1)) (.lst ds) := by
  obtain ⟨a, b, c, e⟩ := shs ds h
  exact ⟨by simp only [DL.py, PyData.showable]; exact a, by simp only [DL.py, PyData.hasDict]; exact b, by simp only [DL.py, PyData.leavesShort]; exact c, by simp only [DL.py, PyData.weight]; exact e⟩
theorem sh_tup {w : Nat} {ds : List DV} (h : ∀ d ∈ ds, Sh w d) : Sh (ds.length * (w + 1)) (.tup ds) := by
  obtain ⟨a, b, c, e⟩ := shs ds h
  exact ⟨by simp only [DL.py, PyData.showable]; exact a, by simp only [DL.py, PyData.hasDict]; exact b, by simp only [DL.py, PyData.leavesShort]; exact c, by simp only [DL.py, PyData.weight]; exact e⟩
theorem Sh.le {w w' : Nat} {d : DV} (h : Sh w d) (hw : w ≤ w') : Sh w' d := ⟨h.sh, h.nd, h.lv, Nat.le_trans h.wt hw⟩
theorem showOk_of {m w : Nat} {d : DV} (p : Pl m d) (h : Sh w d) (hm : m ≤ 60) (hw : w ≤ 50000) : showOk (DL.py d) := by
  refine ⟨h.sh, h.nd, Nat.le_trans p.dep hm, ?_⟩
  have h1 := PyData.shown_le 300 (by decide) _ h.lv
  have h2 := h.wt
  have e : (300 + 2) * (DL.py d).weight ≤ 302 * 50000 := Nat.mul_le_mul (Nat.le_refl _) (by omega)
  rw [sizeLine_eq]
  omega
section
variable {K : Fg} {Γ : List SA} {O : Own} {n : Nat} {te : TE}
/-- a call by keywords alone -/
theorem w_kw {α : Type} {pre : α → Prop} {args : α → List DV} {res : α → DV → Prop} {E : XK} {tk : TA} {mm : Nat} {ix : List Nat} {k : DV → Nat → Prop} (h : WA K tk Γ O n fun es n2 => es.length = mm ∧ ∃ a, perm ix [] es = args a ∧ pre a ∧ ∀ d, res a d → k d n2) :
    W K (tCallM 0 mm (spD K pre args res) (perm ix) E tNil tk) Γ O n k :=
  w_callK (perm ix) (fun M vs zs ds es h1 h2 _ _ => perm_rp ix h1 h2) (wa_nil fun pn As H0 M H σ S Q c => h pn As H0 M H σ S Q fun vs M' H' ds n' e1 S1 r1 ⟨hl, q⟩ => c vs M' H' ds n' e1 S1 r1 ⟨rfl, hl, q⟩)
end
end DL
local macro_rules | `(tactic| walk_at "dl2") => `(tactic| first | walk_at "dl1" | with_reducible refine DL.w_of_wl (DL.wl_lst ?_) | with_reducible refine DL.w_kw ?_)
local macro_rules | `(tactic| walk_at "dlx") => `(tactic| repeat' walk_at "dl2")
namespace DL
open PySem PySem.Spec PyProof.Rows L2
/-! zip of a tuple and a list -/
theorem endT {P : Program} {w : World} {A : Around} (hh : A.handled = none) {it t : Addr} {i : Nat} {xs : Array Value} {h : Heap} (h1 : h.IsTupleIter it t i) (h2 : h.IsTuple t xs) (hne : t ≠ it) :
    ∃ n Pv St, Draws P w A it [it, t] n Pv St ∧ St i h ∧ i ≤ n ∧ (xs.size ≤ i → i = n) := by
  by_cases hi : xs.size ≤ i
  · refine ⟨i, fun _ _ => True, fun j g => j = i ∧ g.IsTupleIter it t i ∧ g.IsTuple t xs, ⟨fun j g e => ?_, fun j g g' e k => ?_, fun j z Q E hj e => ?_, fun z Q E e => ?_⟩, ⟨rfl, h1, h2⟩, Nat.le_refl _, fun _ => rfl⟩
    · obtain ⟨_, ⟨o, ho, _⟩, _⟩ := e
      exact ⟨o, ho⟩
    · exact ⟨e.1, e.2.1.at fun o q => k it (by simp) o q, e.2.2.at fun o q => k t (by simp) o q⟩
    · exact absurd e.1 (by omega)
    · exact wpAny_nextOf_tuple_end hh e.2.1 e.2.2 (by simp; exact hi)
  · exact ⟨_, _, _, Draws.tuple hh it t hne xs, ⟨h1, h2⟩, by omega, fun z => absurd z hi⟩
theorem endL {P : Program} {w : World} {A : Around} (hh : A.handled = none) {it t : Addr} {i : Nat} {xs : Array Value} {h : Heap} (h1 : h.IsListIter it t i) (h2 : h.IsList t xs) (hne : t ≠ it) :
    ∃ n Pv St, Draws P w A it [it, t] n Pv St ∧ St i h ∧ i ≤ n ∧ (xs.size ≤ i → i = n) := by
  by_cases hi : xs.size ≤ i
  · refine ⟨i, fun _ _ => True, fun j g => j = i ∧ g.IsListIter it t i ∧ g.IsList t xs, ⟨fun j g e => ?_, fun j g g' e k => ?_, fun j z Q E hj e => ?_, fun z Q E e => ?_⟩, ⟨rfl, h1, h2⟩, Nat.le_refl _, fun _ => rfl⟩
    · obtain ⟨_, ⟨o, ho, _⟩, _⟩ := e
      exact ⟨o, ho⟩
    · exact ⟨e.1, e.2.1.at fun o q => k it (by simp) o q, e.2.2.at fun o q => k t (by simp) o q⟩
    · exact absurd e.1 (by omega)
    · exact wpAny_nextOf_list_end hh e.2.1 e.2.2 (by simp; exact hi)
  · exact ⟨_, _, _, Draws.list hh it t hne xs, ⟨h1, h2⟩, by omega, fun z => absurd z hi⟩
/-- the tuple at a and the list at b, in new pairs -/
def ItzTL (K : Fg) (a b : Addr) : It where
  go := fun i H => ∃ (us vs : List V) (x y : V), SqT K H a us ∧ SqL K H b vs ∧ us[i]? = some x ∧ vs[i]? = some y
  yld := fun i H v H' => ∃ T x y, v = .ref T ∧ H T = none ∧ H' = upd H T (.tup [x, y]) ∧ (∀ us, SqT K H a us → us[i]? = some x) ∧ ∀ vs, SqL K H b vs → vs[i]? = some y
  stop := fun i H => ∃ us vs : List V, SqT K H a us ∧ SqL K H b vs ∧ (us.length ≤ i ∨ vs.length ≤ i)
theorem turn_zipTL {P : Program} {w : World} {K : Fg} {elts : List Expr} {kk : Nat} {tpos : Pos} {a b z TI TO i1 i2 : Addr} (D : ZipSep2 z TI TO i1 i2 [i1, a] [i2, b]) :
    Turn P w K (.Tuple elts kk tpos) (ItzTL K a b) [z, TI, TO, i1, i2] z (fun i h => IsZip h z TI TO .none ∧ IsTupOf2 h TI (.ref i1) (.ref i2) ∧ (∃ x y, IsTupOf2 h TO x y) ∧ h.IsTupleIter i1 a i ∧ h.IsListIter i2 b i) where
  mem := by simp
  obj := fun i h st c hc => by
    obtain ⟨q1, q2, ⟨x, y, q3⟩, ⟨o1, e1, _, d1⟩, ⟨o2, e2, _, d2⟩⟩ := st
    simp only [List.mem_cons, List.not_mem_nil, or_false] at hc
    rcases hc with rfl | rfl | rfl | rfl | rfl
    · exact ⟨_, q1, fun v q => nomatch q⟩
    · exact ⟨_, q2, fun v q => nomatch q⟩
    · exact ⟨_, q3, fun v q => nomatch q⟩
    · exact ⟨o1, e1, fun v q => by rw [d1] at q; cases q⟩
    · exact ⟨o2, e2, fun v q => by rw [d2] at q; cases q⟩
  keep := fun i h h' st k => by
    obtain ⟨q1, q2, ⟨x, y, q3⟩, q4, q5⟩ := st
    exact ⟨k z (by simp) _ q1, k TI (by simp) _ q2, ⟨x, y, k TO (by simp) _ q3⟩, q4.at fun o q => k i1 (by simp) o q, q5.at fun o q => k i2 (by simp) o q⟩
  item := by
    intro X eP ew eK calm i pins s σ H E I hf st hg
    subst eP ew eK
    obtain ⟨q1, q2, ⟨x0, y0, q3⟩, q4, q5⟩ := st
    obtain ⟨us, vs, x, y, hu, hv, hx, hy⟩ := hg
    obtain ⟨its, rv, p, _⟩ := I.tuple hu
    obtain ⟨its2, rv2, p2, _⟩ := I.list hv
    have hd : X.A.in1.handled = none := I.ok.hd calm
    obtain ⟨u, eu, ru⟩ := rv.get hx
    obtain ⟨u2, eu2, ru2⟩ := rv2.get hy
    have hzl : z < s.heap.objs.size := Heap.lt_size q1
    have n1 : a ≠ i1 := fun e => by
      obtain ⟨o, ho, hc, hd1⟩ := q4
      obtain ⟨o', ho', _, nl, hd2⟩ := p
      rw [e] at ho'; rw [ho] at ho'; cases ho'; rw [hd1] at hd2; cases hd2
    have n2 : b ≠ i2 := fun e => by
      obtain ⟨o, ho, hc, hd1⟩ := q5
      obtain ⟨o', ho', _, nl, hd2⟩ := p2.isList
      rw [e] at ho'; rw [ho] at ho'; cases ho'; rw [hd1] at hd2; cases hd2
    have lt1 : i < its.toArray.size := by
      have := (List.getElem?_eq_some_iff.mp eu).1
      simpa using this
    have lt2 : i < its2.toArray.size := by
      have := (List.getElem?_eq_some_iff.mp eu2).1
      simpa using this
    refine wpAny_pyNext_zipD2_item D (Draws.tuple hd i1 a n1 its.toArray) (Draws.list hd i2 b n2 its2.toArray) q1 q2 q3 ⟨q4, p⟩ ⟨q5, p2.isList⟩ lt1 lt2 fun v1 v2 h' tk k1 k2 z' TO' s1' s2' hT hsz hk => ?_
    have ev1 : v1 = u := by
      have k1' : its.toArray[i]? = some v1 := k1
      rw [List.getElem?_toArray, eu] at k1'; cases k1'; rfl
    have ev2 : v2 = u2 := by
      have k2' : its2.toArray[i]? = some v2 := k2
      rw [List.getElem?_toArray, eu2] at k2'; cases k2'; rfl
    subst ev1 ev2
    refine ⟨_, rfl, wpAny_letOwnedTupleGo_zip (s := { s with heap := h', toks := tk }) z' fun h'' z'' sb => ?_⟩
    have hT2 : h''.get? s.heap.objs.size = some { cls := .type "tuple", data := .seq #[v1, v2] } := (sb.2 _ (Nat.ne_of_gt hzl)).trans hT
    have mk : ObjOk X.prog X.w (upd H s.heap.objs.size (.tup [x, y])) h'' s.heap.objs.size (.tup [x, y]) :=
      ⟨by show 2 ≤ sizeLine; decide, [v1, v2], .cons ru (.cons ru2 .nil), ⟨_, hT2, rfl, _, rfl⟩⟩
    have off : ∀ c o, c ∉ [z, TI, TO, i1, i2] → s.heap.get? c = some o → h''.get? c = some o := fun c o hb q => by
      simp only [List.mem_cons, List.not_mem_nil, or_false, not_or] at hb
      obtain ⟨b1, b2, b3, b4, b5⟩ := hb
      exact (sb.2 c b1).trans (hk c o b1 b3 b4 b5 q)
    have I1 : Inv X pins σ (upd H s.heap.objs.size (.tup [x, y])) { s with heap := h'', toks := tk } := I.turnedNew (t' := tk) (ch := [z, TI, TO, i1, i2]) off hf (Nat.le_refl _) mk
    have nz1 : i1 ≠ z := fun e => D.zi1 e.symm
    have nz2 : i2 ≠ z := fun e => D.zi2 e.symm
    refine ⟨.ref s.heap.objs.size, _, I1, rfl, ⟨_, x, y, rfl, I.hok.fresh (Nat.le_refl _), rfl, fun l hl => by rw [I.tuple_inj hl hu]; exact hx, fun l hl => by rw [I.list_inj hl hv]; exact hy⟩, ⟨z'', ?_, ⟨v1, v2, ?_⟩, ?_, ?_⟩, fun c hcm => ?_⟩
    · exact (sb.2 _ D.TIz).trans (hk _ _ D.TIz D.TITO D.TIi1 D.TIi2 q2)
    · exact (sb.2 _ D.TOz).trans TO'
    · exact s1'.1.at fun o q => (sb.2 _ nz1).trans q
    · exact s2'.1.at fun o q => (sb.2 _ nz2).trans q
    · have hlt : c < s.heap.objs.size := by
        simp only [List.mem_cons, List.not_mem_nil, or_false] at hcm
        rcases hcm with q | q | q | q | q
        · rw [q]; exact hzl
        · rw [q]; exact Heap.lt_size q2
        · rw [q]; exact Heap.lt_size q3
        · rw [q]; obtain ⟨_, e1, _⟩ := q4; exact Heap.lt_size e1
        · rw [q]; obtain ⟨_, e2, _⟩ := q5; exact Heap.lt_size e2
      rw [upd_ne (Nat.ne_of_lt hlt)]
      exact (hf c hcm).1
  done := by
    intro X eP ew eK calm i pins s σ H E I hf st hg
    subst eP ew eK
    obtain ⟨q1, q2, ⟨x0, y0, q3⟩, q4, q5⟩ := st
    obtain ⟨us, vs, hu, hv, hend⟩ := hg
    obtain ⟨its, rv, p, _⟩ := I.tuple hu
    obtain ⟨its2, rv2, p2, _⟩ := I.list hv
    have hd : X.A.in1.handled = none := I.ok.hd calm
    have n1 : a ≠ i1 := fun e => by
      obtain ⟨o, ho, hc, hd1⟩ := q4
      obtain ⟨o', ho', _, nl, hd2⟩ := p
      rw [e] at ho'; rw [ho] at ho'; cases ho'; rw [hd1] at hd2; cases hd2
    have n2 : b ≠ i2 := fun e => by
      obtain ⟨o, ho, hc, hd1⟩ := q5
      obtain ⟨o', ho', _, nl, hd2⟩ := p2.isList
      rw [e] at ho'; rw [ho] at ho'; cases ho'; rw [hd1] at hd2; cases hd2
    obtain ⟨m1, P1, St1, D1, st1, le1, en1⟩ := endT (P := X.prog) (w := X.w) hd q4 (show s.heap.IsTuple a its.toArray from p) n1
    obtain ⟨m2, P2, St2, D2, st2, le2, en2⟩ := endL (P := X.prog) (w := X.w) hd q5 p2.isList n2
    have l1 := rv.length
    have l2 := rv2.length
    have he : i = m1 ∨ i = m2 := by
      rcases hend with q | q
      · exact .inl (en1 (by simp; omega))
      · exact .inr (en2 (by simp; omega))
    refine wpAny_pyNext_zipD2_end D D1 D2 q1 q2 q3 st1 st2 le1 le2 he fun h' tk hk => ⟨rfl, I.turnedL (t' := tk) (ch := [z, TI, TO, i1, i2]) (fun c o hb q => ?_) hf⟩
    simp only [List.mem_cons, List.not_mem_nil, or_false, not_or] at hb
    obtain ⟨b1, b2, b3, b4, b5⟩ := hb
    exact hk c o b1 b3 b4 b5 q
  self := fun A i s Q E st h => wpAny_pyIter_zip st.1 h
def iZipB (K : Fg) (ta : TA) : TI := fun σ H R => ta σ H fun vs H1 => ∃ a b us ws, vs = [.ref a, .ref b] ∧ ((SqL K H1 a us ∧ SqL K H1 b ws ∧ R (Itz K a b) H1) ∨ (SqT K H1 a us ∧ SqT K H1 b ws ∧ R (RZ.ItzT K a b) H1) ∨ (SqT K H1 a us ∧ SqL K H1 b ws ∧ R (ItzTL K a b) H1))
theorem pi_zipB {X : Cx} {e e2 : Expr} {ta : TA} {p pos tpos : Pos} {elts : List Expr} {kk : Nat} (hg : Gl X "zip") (hm : X.mg "zip" = none) (ha : PA X [e, e2] ta)
    (hs : starEach [e, e2] X.env = (false, eval e X.env) :: starEach [e2] X.env := by rfl) (hpl : (backTo pos (starEach [e2] X.env)).any (·.1) = false := by rfl) :
    PI X (.Tuple elts kk tpos) (.Call (.Name "zip" p) [e, e2] [] pos) (iZipB X.K ta) := by
  by_cases hx : True
  · have hA := RZ.pi_zipA (elts := elts) (kk := kk) (tpos := tpos) (p := p) (pos := pos) hg hm (ta := ta) ha hs hpl
    refine ⟨fun pins s σ H R I h => ?_⟩
    refine Call_ (ld_blt I hg hm PyProof.Rows.boot_zip (PyProof.Rows.callWith_type1 (thn (ha.run pos pins s σ H _ I h) fun us s1 ⟨vs, H1, I1, r1, q1⟩ => ?_) hs hpl))
    obtain ⟨a, b, xs, ys, ex, q1⟩ := q1
    subst ex
    have fresh : ∀ c, c ∈ [s1.heap.objs.size + 4, s1.heap.objs.size + 2, s1.heap.objs.size + 3, s1.heap.objs.size, s1.heap.objs.size + 1] → FpOk X pins H1 c := fun c hcm => by
      simp only [List.mem_cons, List.not_mem_nil, or_false] at hcm
      have hle : s1.heap.objs.size ≤ c := by
        have big : ∀ j : Nat, s1.heap.objs.size ≤ s1.heap.objs.size + j := fun j => Nat.le_add_right _ _
        rcases hcm with q | q | q | q | q
        · rw [q]; exact big 4
        · rw [q]; exact big 2
        · rw [q]; exact big 3
        · rw [q]; exact Nat.le_refl _
        · rw [q]; exact big 1
      exact I1.fpOk hle (I1.hok.fresh hle)
    cases r1 with
    | cons r rr =>
    cases rr with
    | cons r' rr =>
    cases rr
    cases r
    cases r'
    rcases q1 with ⟨hqx, hqy, q⟩ | ⟨hqx, hqy, q⟩ | ⟨hqx, hqy, q⟩
    · obtain ⟨its, rv, p1, _⟩ := I1.list hqx
      obtain ⟨its2, rv2, p2, _⟩ := I1.list hqy
      refine call_zip_2 p1.isList p2.isList fun h' hz hTI hTO h1 h2 hsz hk => wpAny_pyIter_zip hz ?_
      exact ⟨s1.heap.objs.size + 4, _, _, _, H1, rfl, I1.kept (t' := s1.toks) hk, turn_zip (PySem.W.ktu_apart s1.heap.objs.size a b p1.lt p2.lt), ⟨hz, hTI, ⟨_, _, hTO⟩, h1, h2⟩, fresh, q⟩
    · obtain ⟨its, rv, p1, _⟩ := I1.tuple hqx
      obtain ⟨its2, rv2, p2, _⟩ := I1.tuple hqy
      have w1 : s1.heap.IsTuple a its.toArray := p1
      have w2 : s1.heap.IsTuple b its2.toArray := p2
      obtain ⟨o1, ho1, _⟩ := id w1
      obtain ⟨o2, ho2, _⟩ := id w2
      refine RZ.call_zipT w1 w2 fun h' hz hTI hTO h1 h2 hsz hk => wpAny_pyIter_zip hz ?_
      exact ⟨s1.heap.objs.size + 4, _, _, _, H1, rfl, I1.kept (t' := s1.toks) hk, RZ.turn_zipT (PySem.W.ktu_apart s1.heap.objs.size a b (Heap.lt_size ho1) (Heap.lt_size ho2)), ⟨hz, hTI, ⟨_, _, hTO⟩, h1, h2⟩, fresh, q⟩
    · obtain ⟨its, rv, p1, _⟩ := I1.tuple hqx
      obtain ⟨its2, rv2, p2, _⟩ := I1.list hqy
      have w1 : s1.heap.IsTuple a its.toArray := p1
      obtain ⟨o1, ho1, _⟩ := id w1
      have la : ∀ c ∈ [a], c < s1.heap.objs.size := fun c hc => by
        have e : c = a := by simpa using hc
        rw [e]; exact Heap.lt_size ho1
      have lb : ∀ c ∈ [b], c < s1.heap.objs.size := fun c hc => by
        have e : c = b := by simpa using hc
        rw [e]; exact p2.lt
      refine zip_begins2 (begins_tuple a its.toArray) (begins_list b its2.toArray) w1 p2.isList fun h' hz hTI hTO h1 h2 hsz hk => wpAny_pyIter_zip hz ?_
      exact ⟨s1.heap.objs.size + 4, _, _, _, H1, rfl, I1.kept (t' := s1.toks) hk, turn_zipTL (zip_sep2 la lb), ⟨hz, hTI, ⟨_, _, hTO⟩, ⟨_, h1, rfl, rfl⟩, ⟨_, h2, rfl, rfl⟩⟩, fresh, q⟩
  · exact absurd trivial hx
section
variable {K : Fg} {M : Hp} {Γ : List SA} {O : Own} {n : Nat} {te t1 t2 t3 : TE} {E : KE}
theorem iter_zipTL {a b : Addr} {vs ws : List V} {ds es : List DV} (h : SqT K M a vs) (r : RpL K M vs ds) (h' : M b = some (.lst ws)) (r' : RpL K M ws es) : IterOk K (ItzTL K a b) (zipD ds es) M := fun pn As H0 M1 H1 σ Γ O n e S i => by
  have hq : SqT K H1 a vs := Evl.ex_t S.ex (Evl.ex_t e h)
  have hq' : SqL K H1 b ws := .inl (.inl (S.ex _ _ (e _ _ h')))
  refine ⟨fun d hd => ?_, fun hi => ⟨vs, ws, hq, hq', by rw [r.length, r'.length]; rw [zipD_length] at hi; omega⟩⟩
  obtain ⟨x, y, hx, hy, rfl⟩ := zipD_get hd
  obtain ⟨u, hu, ru⟩ := r.get' hx
  obtain ⟨w, hw, rw'⟩ := r'.get' hy
  refine ⟨⟨vs, ws, u, w, hq, hq', hu, hw⟩, fun z H' ⟨T, x', y', e1, hT, e2, f1, f2⟩ => ?_⟩
  subst e1 e2
  have g1 := f1 vs hq
  have g2 := f2 ws hq'
  rw [hu] at g1; rw [hw] at g2
  cases g1; cases g2
  obtain ⟨ex, S2⟩ := S.alloc (o := .tup [u, w]) hT
  exact ⟨_, ex, S2, .tup (.inl (.inl upd_same)) (.cons (ru.mono (Evl.Ex.trans e ex)) (.cons (rw'.mono (Evl.Ex.trans e ex)) .nil))⟩
theorem sw_zipB {ta : TA} {k : List DV → Nat → Prop} (h : WA K ta Γ O n fun xs n1 => ∃ ds es, (xs = [.lst ds, .lst es] ∨ xs = [.tup ds, .tup es] ∨ xs = [.tup ds, .lst es]) ∧ k (zipD ds es) n1) : SW K (iZipB K ta) Γ O n k := fun pn As H0 M H σ S R c =>
  h pn As H0 M H σ S _ fun v M1 H1 d n1 e1 S1 r1 ⟨ds, es, e, q⟩ => by
    rcases e with rfl | rfl | rfl
    · obtain ⟨u, w, rfl, r, r'⟩ := r1.two
      obtain ⟨a, vs, rfl, g1, g2⟩ := r.lst'
      obtain ⟨b, ws, rfl, g3, g4⟩ := r'.lst'
      exact ⟨a, b, vs, ws, rfl, .inl ⟨.inl (.inl (S1.ex _ _ g1)), .inl (.inl (S1.ex _ _ g3)), c _ M1 H1 _ n1 e1 S1 (iter_zipL g1 g2 g3 g4) q⟩⟩
    · obtain ⟨u, w, rfl, r, r'⟩ := r1.two
      obtain ⟨a, vs, rfl, g1, g2⟩ := r.tup'
      obtain ⟨b, ws, rfl, g3, g4⟩ := r'.tup'
      exact ⟨a, b, vs, ws, rfl, .inr (.inl ⟨Evl.ex_t S1.ex g1, Evl.ex_t S1.ex g3, c _ M1 H1 _ n1 e1 S1 (iter_zipT g1 g2 g3 g4) q⟩)⟩
    · obtain ⟨u, w, rfl, r, r'⟩ := r1.two
      obtain ⟨a, vs, rfl, g1, g2⟩ := r.tup'
      obtain ⟨b, ws, rfl, g3, g4⟩ := r'.lst'
      exact ⟨a, b, vs, ws, rfl, .inr (.inr ⟨Evl.ex_t S1.ex g1, .inl (.inl (S1.ex _ _ g3)), c _ M1 H1 _ n1 e1 S1 (iter_zipTL g1 g2 g3 g4) q⟩)⟩
/-! a, b = list, data and a, b, c = list, list, data: the lists stay one's own -/
theorem ws_asgT2 {i j : Nat} (h : WL K t1 Γ O n fun ds n1 => W K t2 Γ (O ++ [some ds]) n1 fun d n2 => E.nx ((Γ.set i (.own O.length)).set j (.is d)) (O ++ [some ds]) n2) :
    WS K (tAsg (tTup (tCons t1 (tCons t2 tNil))) (gTup K 2 (gCons (gName i) (gCons (gName j) gNil)))) Γ O n E := fun pn As H0 M H σ D S s =>
  h pn As H0 M H σ S _ fun p vs M1 H1 ds n1 e1 S1 h1 h2 h3 h4 hP h5 h6 q =>
    q pn (As ++ [p]) H0 M1 H1 σ (S1.addOwn h1 h2 h3 h4 h5 h6) _ fun v M2 H2 d n2 e2 S2 r2 q2 => ⟨by show 2 ≤ sizeLine; decide, fun T hT =>
      ⟨T, [.ref p, v], rfl, .inl (.inl upd_same), rfl, _, _, rfl, _, _, rfl, rfl, s.nx (As ++ [p]) M2 _ _ _ _ n2 (List.prefix_append _ _) (Evl.Ex.trans e1 e2) (((S2.lay hT).storeOwn (j := O.length) (by rw [← S1.len]; simp)).store r2) q2⟩⟩
theorem ws_asgT3 {i j l : Nat} (h : WL K t1 Γ O n fun ds n1 => WL K t2 Γ (O ++ [some ds]) n1 fun es n2 => W K t3 Γ ((O ++ [some ds]) ++ [some es]) n2 fun d n3 => E.nx (((Γ.set i (.own O.length)).set j (.own (O.length + 1))).set l (.is d)) ((O ++ [some ds]) ++ [some es]) n3) :
    WS K (tAsg (tTup (tCons t1 (tCons t2 (tCons t3 tNil)))) (gTup K 3 (gCons (gName i) (gCons (gName j) (gCons (gName l) gNil))))) Γ O n E := fun pn As H0 M H σ D S s =>
  h pn As H0 M H σ S _ fun p vs M1 H1 ds n1 e1 S1 h1 h2 h3 h4 hP h5 h6 q =>
    q pn (As ++ [p]) H0 M1 H1 σ (S1.addOwn h1 h2 h3 h4 h5 h6) _ fun p' vs' M2 H2 ds' n2 e2 S2 h1' h2' h3' h4' hP' h5' h6' q' =>
      q' pn ((As ++ [p]) ++ [p']) H0 M2 H2 σ (S2.addOwn h1' h2' h3' h4' h5' h6') _ fun v M3 H3 d n3 e3 S3 r3 q3 => ⟨by show 3 ≤ sizeLine; decide, fun T hT =>
        ⟨T, [.ref p, .ref p', v], rfl, .inl (.inl upd_same), rfl, _, _, rfl, _, _, rfl, _, _, rfl, rfl, s.nx ((As ++ [p]) ++ [p']) M3 _ _ _ _ n3 ((List.prefix_append _ _).trans (List.prefix_append _ _)) (Evl.Ex.trans (Evl.Ex.trans e1 e2) e3)
          ((((S3.lay hT).storeOwn (j := O.length) (by rw [← S1.len]; simp)).storeOwn (j := O.length + 1) (by rw [← S1.len]; simp)).store r3) q3⟩⟩
end
end DL
namespace DL
open PySem PySem.Spec PyProof.Rows L2
/-! own lists by place; lists of places -/
theorem own_app {O L : Own} {i : Nat} {x : Option (List DV)} (h : O[i]? = some x) : (O ++ L)[i]? = some x := by
  have hi := (List.getElem?_eq_some_iff.mp h).1
  rw [List.getElem?_append_left hi]; exact h
theorem own_last {O : Own} {x : Option (List DV)} : (O ++ [x])[O.length]? = some x := by simp
theorem own_set {O : Own} {i : Nat} {x y : Option (List DV)} (h : O[i]? = some x) : (O.set i y)[i]? = some y := List.getElem?_set_self (List.getElem?_eq_some_iff.mp h).1
theorem own_other {O : Own} {i j : Nat} {x y : Option (List DV)} (h : O[i]? = some x) (hij : j ≠ i) : (O.set j y)[i]? = some x := by rw [List.getElem?_set_ne hij]; exact h
theorem own_lt {O : Own} {i : Nat} {x : Option (List DV)} (h : O[i]? = some x) : i < O.length := (List.getElem?_eq_some_iff.mp h).1
def nN (x : Nat) : DV := .int (x : Int)
theorem eqv_nN (x y : Nat) : PyData.eqv (DL.py (nN x)) (DL.py (nN y)) = true ↔ x = y := by
  unfold nN
  rw [eqv_int]
  omega
theorem pl_nN {m : Nat} (x : Nat) : Pl m (nN x) := pl_int _
theorem pl_nNs {m : Nat} (l : List Nat) : Pl (m + 1) (.lst (l.map nN)) := pl_lst fun d hd => by
  obtain ⟨i, _, rfl⟩ := List.mem_map.mp hd
  exact pl_nN i
theorem eqv_nNs (l k : List Nat) : PyData.eqv (DL.py (.lst (l.map nN))) (DL.py (.lst (k.map nN))) = decide (l = k) :=
  Bool.eq_iff_iff.mpr ((eqv_lst nN eqv_nN l k).trans decide_eq_true_iff.symm)
section
variable {K : Fg}
theorem ne_nNs {x y : List Nat} {k : DV → Prop} (q : k (.bl (!decide (x = y)))) : OW K (rNeA K) (.lst (x.map nN)) (.lst (y.map nN)) k := ow_neD (pl_nNs (m := 0) _).shp (pl_nNs (m := 0) _).shp (by rw [eqv_nNs]; exact q)
theorem eq_nNs {x y : List Nat} {k : DV → Prop} (q : k (.bl (decide (x = y)))) : OW K (rEqA K) (.lst (x.map nN)) (.lst (y.map nN)) k := ow_eqD (pl_nNs (m := 0) _).shp (pl_nNs (m := 0) _).shp (by rw [eqv_nNs]; exact q)
end
end DL
namespace K01
open PySem PySem.Spec PyProof.Rows L2 DL
abbrev top (i : Nat) : Stmt := PySem.Challenge.pw_slidercuts_k01_fractions_and_rows.main.body.getD i (.Pass ⟨0, 0, 0, 0⟩)
abbrev s_frac : Stmt := top 2
abbrev N_frac : List Str := ["top", "bottom", "by"]
abbrev P_frac : List Str := ["top", "bottom"]
theorem sc_frac : FnScope N_frac P_frac (defScope s_frac) := ⟨rfl, rfl, rfl, by decide +kernel, rfl, by decide +kernel, by decide +kernel⟩
abbrev s_is_frac : Stmt := top 3
abbrev N_is_frac : List Str := ["value", "part"]
abbrev P_is_frac : List Str := ["value"]
theorem sc_is_frac : FnScope N_is_frac P_is_frac (defScope s_is_frac) := ⟨rfl, rfl, rfl, by decide +kernel, rfl, by decide +kernel, by decide +kernel⟩
abbrev s_plus : Stmt := top 4
abbrev N_plus : List Str := ["one", "other"]
abbrev P_plus : List Str := ["one", "other"]
theorem sc_plus : FnScope N_plus P_plus (defScope s_plus) := ⟨rfl, rfl, rfl, by decide +kernel, rfl, by decide +kernel, by decide +kernel⟩
abbrev s_minus : Stmt := top 5
abbrev N_minus : List Str := ["one", "other"]
abbrev P_minus : List Str := ["one", "other"]
theorem sc_minus : FnScope N_minus P_minus (defScope s_minus) := ⟨rfl, rfl, rfl, by decide +kernel, rfl, by decide +kernel, by decide +kernel⟩
abbrev s_times : Stmt := top 6
abbrev N_times : List Str := ["one", "other"]
abbrev P_times : List Str := ["one", "other"]
theorem sc_times : FnScope N_times P_times (defScope s_times) := ⟨rfl, rfl, rfl, by decide +kernel, rfl, by decide +kernel, by decide +kernel⟩
abbrev s_over : Stmt := top 7
abbrev N_over : List Str := ["one", "other"]
abbrev P_over : List Str := ["one", "other"]
theorem sc_over : FnScope N_over P_over (defScope s_over) := ⟨rfl, rfl, rfl, by decide +kernel, rfl, by decide +kernel, by decide +kernel⟩
abbrev s_compare : Stmt := top 8
abbrev N_compare : List Str := ["one", "other", "here", "there"]
abbrev P_compare : List Str := ["one", "other"]
theorem sc_compare : FnScope N_compare P_compare (defScope s_compare) := ⟨rfl, rfl, rfl, by decide +kernel, rfl, by decide +kernel, by decide +kernel⟩
abbrev s_arranged : Stmt := top 9
abbrev N_arranged : List Str := ["some", "found", "one", "at"]
abbrev P_arranged : List Str := ["some"]
theorem sc_arranged : FnScope N_arranged P_arranged (defScope s_arranged) := ⟨rfl, rfl, rfl, by decide +kernel, rfl, by decide +kernel, by decide +kernel⟩
abbrev s_between : Stmt := top 10
abbrev N_between : List Str := ["low", "high"]
abbrev P_between : List Str := ["low", "high"]
theorem sc_between : FnScope N_between P_between (defScope s_between) := ⟨rfl, rfl, rfl, by decide +kernel, rfl, by decide +kernel, by decide +kernel⟩
abbrev s_gcd_of : Stmt := top 12
abbrev N_gcd_of : List Str := ["numbers", "found", "number"]
abbrev P_gcd_of : List Str := ["numbers"]
theorem sc_gcd_of : FnScope N_gcd_of P_gcd_of (defScope s_gcd_of) := ⟨rfl, rfl, rfl, by decide +kernel, rfl, by decide +kernel, by decide +kernel⟩
abbrev s_shrunk : Stmt := top 13
abbrev N_shrunk : List Str := ["numbers", "divisor", "number"]
abbrev P_shrunk : List Str := ["numbers"]
theorem sc_shrunk : FnScope N_shrunk P_shrunk (defScope s_shrunk) := ⟨rfl, rfl, rfl, by decide +kernel, rfl, by decide +kernel, by decide +kernel⟩
abbrev s_sign : Stmt := top 14
abbrev N_sign : List Str := ["number"]
abbrev P_sign : List Str := ["number"]
theorem sc_sign : FnScope N_sign P_sign (defScope s_sign) := ⟨rfl, rfl, rfl, by decide +kernel, rfl, by decide +kernel, by decide +kernel⟩
abbrev s_product : Stmt := top 15
abbrev N_product : List Str := ["one", "other", "part", "its"]
abbrev P_product : List Str := ["one", "other"]
theorem sc_product : FnScope N_product P_product (defScope s_product) := ⟨rfl, rfl, rfl, by decide +kernel, rfl, by decide +kernel, by decide +kernel⟩
abbrev s_added : Stmt := top 16
abbrev N_added : List Str := ["one", "other", "times", "part", "its"]
abbrev P_added : List Str := ["one", "other", "times"]
theorem sc_added : FnScope N_added P_added (defScope s_added) := ⟨rfl, rfl, rfl, by decide +kernel, rfl, by decide +kernel, by decide +kernel⟩
abbrev s_stepped : Stmt := top 17
abbrev N_stepped : List Str := ["rows", "left", "leads", "divisor", "at", "top", "spots", "line", "row", "spot"]
abbrev P_stepped : List Str := ["rows"]
theorem sc_stepped : FnScope N_stepped P_stepped (defScope s_stepped) := ⟨rfl, rfl, rfl, by decide +kernel, rfl, by decide +kernel, by decide +kernel⟩
abbrev s_cleared : Stmt := top 18
abbrev N_cleared : List Str := ["row", "line", "at", "divisor", "part", "its"]
abbrev P_cleared : List Str := ["row", "line", "at", "divisor"]
theorem sc_cleared : FnScope N_cleared P_cleared (defScope s_cleared) := ⟨rfl, rfl, rfl, by decide +kernel, rfl, by decide +kernel, by decide +kernel⟩
abbrev s_rank_of : Stmt := top 19
abbrev N_rank_of : List Str := ["rows"]
abbrev P_rank_of : List Str := ["rows"]
theorem sc_rank_of : FnScope N_rank_of P_rank_of (defScope s_rank_of) := ⟨rfl, rfl, rfl, by decide +kernel, rfl, by decide +kernel, by decide +kernel⟩
abbrev s_noughts : Stmt := top 20
abbrev N_noughts : List Str := ["rows", "many", "led", "leads", "divisor", "found", "free", "told", "lead", "row", "at"]
abbrev P_noughts : List Str := ["rows", "many"]
theorem sc_noughts : FnScope N_noughts P_noughts (defScope s_noughts) := ⟨rfl, rfl, rfl, by decide +kernel, rfl, by decide +kernel, by decide +kernel⟩
abbrev s_law_pen : Stmt := top 22
abbrev N_law_pen : List Str := ["script", "cell"]
abbrev P_law_pen : List Str := ["script"]
theorem sc_law_pen : FnScope N_law_pen P_law_pen (defScope s_law_pen) := ⟨rfl, rfl, rfl, by decide +kernel, rfl, by decide +kernel, by decide +kernel⟩
abbrev s_law_draw : Stmt := top 23
abbrev N_law_draw : List Str := ["pen", "many", "digit", "at", "cell", "great", "blend"]
abbrev P_law_draw : List Str := ["pen", "many"]
theorem sc_law_draw : FnScope N_law_draw P_law_draw (defScope s_law_draw) := ⟨rfl, rfl, rfl, by decide +kernel, rfl, by decide +kernel, by decide +kernel⟩
abbrev s_law_pick : Stmt := top 24
abbrev N_law_pick : List Str := ["pen", "some"]
abbrev P_law_pick : List Str := ["pen", "some"]
theorem sc_law_pick : FnScope N_law_pick P_law_pick (defScope s_law_pick) := ⟨rfl, rfl, rfl, by decide +kernel, rfl, by decide +kernel, by decide +kernel⟩
abbrev s_law_gcd : Stmt := top 25
abbrev N_law_gcd : List Str := ["one", "other"]
abbrev P_law_gcd : List Str := ["one", "other"]
theorem sc_law_gcd : FnScope N_law_gcd P_law_gcd (defScope s_law_gcd) := ⟨rfl, rfl, rfl, by decide +kernel, rfl, by decide +kernel, by decide +kernel⟩
abbrev s_law_frac : Stmt := top 26
abbrev N_law_frac : List Str := ["top", "bottom", "by"]
abbrev P_law_frac : List Str := ["top", "bottom"]
theorem sc_law_frac : FnScope N_law_frac P_law_frac (defScope s_law_frac) := ⟨rfl, rfl, rfl, by decide +kernel, rfl, by decide +kernel, by decide +kernel⟩
abbrev s_law_plus : Stmt := top 27
abbrev N_law_plus : List Str := ["one", "other"]
abbrev P_law_plus : List Str := ["one", "other"]
theorem sc_law_plus : FnScope N_law_plus P_law_plus (defScope s_law_plus) := ⟨rfl, rfl, rfl, by decide +kernel, rfl, by decide +kernel, by decide +kernel⟩
abbrev s_law_times : Stmt := top 28
abbrev N_law_times : List Str := ["one", "other"]
abbrev P_law_times : List Str := ["one", "other"]
theorem sc_law_times : FnScope N_law_times P_law_times (defScope s_law_times) := ⟨rfl, rfl, rfl, by decide +kernel, rfl, by decide +kernel, by decide +kernel⟩
abbrev s_law_sign : Stmt := top 29
abbrev N_law_sign : List Str := ["number"]
abbrev P_law_sign : List Str := ["number"]
theorem sc_law_sign : FnScope N_law_sign P_law_sign (defScope s_law_sign) := ⟨rfl, rfl, rfl, by decide +kernel, rfl, by decide +kernel, by decide +kernel⟩
abbrev s_law_than : Stmt := top 30
abbrev N_law_than : List Str := ["one", "other"]
abbrev P_law_than : List Str := ["one", "other"]
theorem sc_law_than : FnScope N_law_than P_law_than (defScope s_law_than) := ⟨rfl, rfl, rfl, by decide +kernel, rfl, by decide +kernel, by decide +kernel⟩
abbrev s_law_order : Stmt := top 31
abbrev N_law_order : List Str := ["some", "found", "one", "at"]
abbrev P_law_order : List Str := ["some"]
theorem sc_law_order : FnScope N_law_order P_law_order (defScope s_law_order) := ⟨rfl, rfl, rfl, by decide +kernel, rfl, by decide +kernel, by decide +kernel⟩
abbrev s_law_dot : Stmt := top 32
abbrev N_law_dot : List Str := ["one", "other", "part", "its"]
abbrev P_law_dot : List Str := ["one", "other"]
theorem sc_law_dot : FnScope N_law_dot P_law_dot (defScope s_law_dot) := ⟨rfl, rfl, rfl, by decide +kernel, rfl, by decide +kernel, by decide +kernel⟩
abbrev s_law_drawn : Stmt := top 33
abbrev N_law_drawn : List Str := ["pen", "most"]
abbrev P_law_drawn : List Str := ["pen"]
theorem sc_law_drawn : FnScope N_law_drawn P_law_drawn (defScope s_law_drawn) := ⟨rfl, rfl, rfl, by decide +kernel, rfl, by decide +kernel, by decide +kernel⟩
abbrev s_law_fractions_right : Stmt := top 34
abbrev N_law_fractions_right : List Str := ["pen", "one", "other", "by", "some", "low", "high", "bad", "lap", "part", "value"]
abbrev P_law_fractions_right : List Str := ["pen"]
theorem sc_law_fractions_right : FnScope N_law_fractions_right P_law_fractions_right (defScope s_law_fractions_right) := ⟨rfl, rfl, rfl, by decide +kernel, rfl, by decide +kernel, by decide +kernel⟩
abbrev s_law_rank : Stmt := top 35
abbrev N_law_rank : List Str := ["rows", "left", "rank", "at", "spots", "spot", "row", "part", "its"]
abbrev P_law_rank : List Str := ["rows"]
theorem sc_law_rank : FnScope N_law_rank P_law_rank (defScope s_law_rank) := ⟨rfl, rfl, rfl, by decide +kernel, rfl, by decide +kernel, by decide +kernel⟩
abbrev s_law_rows_right : Stmt := top 36
abbrev N_law_rows_right : List Str := ["pen", "many", "most", "rows", "kept", "rank", "told", "other", "numbers", "by", "number", "due", "row", "lap", "at", "one", "part", "its"]
abbrev P_law_rows_right : List Str := ["pen"]
theorem sc_law_rows_right : FnScope N_law_rows_right P_law_rows_right (defScope s_law_rows_right) := ⟨rfl, rfl, rfl, by decide +kernel, rfl, by decide +kernel, by decide +kernel⟩
abbrev s_law : Stmt := top 37
abbrev N_law : List Str := ["script", "pen", "turn"]
abbrev P_law : List Str := ["script"]
theorem sc_law : FnScope N_law P_law (defScope s_law) := ⟨rfl, rfl, rfl, by decide +kernel, rfl, by decide +kernel, by decide +kernel⟩
theorem kw_is_frac_0_value : KwOk "is_frac" s_is_frac P_is_frac 0 ["value"] (perm [0]) := fun _ _ _ _ _ _ us ws h1 h2 => match us, ws, h1, h2 with | [], [_], _, _ => rfl
theorem kw_between_0_high_low : KwOk "between" s_between P_between 0 ["high", "low"] (perm [1, 0]) := fun _ _ _ _ _ _ us ws h1 h2 => match us, ws, h1, h2 with | [], [_, _], _, _ => rfl
theorem kw_arranged_0_some : KwOk "arranged" s_arranged P_arranged 0 ["some"] (perm [0]) := fun _ _ _ _ _ _ us ws h1 h2 => match us, ws, h1, h2 with | [], [_], _, _ => rfl
theorem kw_over_0_other_one : KwOk "over" s_over P_over 0 ["other", "one"] (perm [1, 0]) := fun _ _ _ _ _ _ us ws h1 h2 => match us, ws, h1, h2 with | [], [_, _], _, _ => rfl
theorem kw_minus_0_other_one : KwOk "minus" s_minus P_minus 0 ["other", "one"] (perm [1, 0]) := fun _ _ _ _ _ _ us ws h1 h2 => match us, ws, h1, h2 with | [], [_, _], _, _ => rfl
theorem kw_times_0_other_one : KwOk "times" s_times P_times 0 ["other", "one"] (perm [1, 0]) := fun _ _ _ _ _ _ us ws h1 h2 => match us, ws, h1, h2 with | [], [_, _], _, _ => rfl
theorem kw_compare_0_other_one : KwOk "compare" s_compare P_compare 0 ["other", "one"] (perm [1, 0]) := fun _ _ _ _ _ _ us ws h1 h2 => match us, ws, h1, h2 with | [], [_, _], _, _ => rfl
theorem kw_plus_0_other_one : KwOk "plus" s_plus P_plus 0 ["other", "one"] (perm [1, 0]) := fun _ _ _ _ _ _ us ws h1 h2 => match us, ws, h1, h2 with | [], [_, _], _, _ => rfl
theorem kw_frac_0_bottom_top : KwOk "frac" s_frac P_frac 0 ["bottom", "top"] (perm [1, 0]) := fun _ _ _ _ _ _ us ws h1 h2 => match us, ws, h1, h2 with | [], [_, _], _, _ => rfl
theorem kw_added_0_times_other_one : KwOk "added" s_added P_added 0 ["times", "other", "one"] (perm [2, 1, 0]) := fun _ _ _ _ _ _ us ws h1 h2 => match us, ws, h1, h2 with | [], [_, _, _], _, _ => rfl
theorem kw_product_0_other_one : KwOk "product" s_product P_product 0 ["other", "one"] (perm [1, 0]) := fun _ _ _ _ _ _ us ws h1 h2 => match us, ws, h1, h2 with | [], [_, _], _, _ => rfl
theorem kw_gcd_of_0_numbers : KwOk "gcd_of" s_gcd_of P_gcd_of 0 ["numbers"] (perm [0]) := fun _ _ _ _ _ _ us ws h1 h2 => match us, ws, h1, h2 with | [], [_], _, _ => rfl
theorem kw_shrunk_0_numbers : KwOk "shrunk" s_shrunk P_shrunk 0 ["numbers"] (perm [0]) := fun _ _ _ _ _ _ us ws h1 h2 => match us, ws, h1, h2 with | [], [_], _, _ => rfl
theorem kw_rank_of_0_rows : KwOk "rank_of" s_rank_of P_rank_of 0 ["rows"] (perm [0]) := fun _ _ _ _ _ _ us ws h1 h2 => match us, ws, h1, h2 with | [], [_], _, _ => rfl
theorem kw_noughts_0_many_rows : KwOk "noughts" s_noughts P_noughts 0 ["many", "rows"] (perm [1, 0]) := fun _ _ _ _ _ _ us ws h1 h2 => match us, ws, h1, h2 with | [], [_, _], _, _ => rfl
theorem kw_sign_0_number : KwOk "sign" s_sign P_sign 0 ["number"] (perm [0]) := fun _ _ _ _ _ _ us ws h1 h2 => match us, ws, h1, h2 with | [], [_], _, _ => rfl
/-- what the top has left -/
structure Txt (K : Fg) (mg : Str → Option Value) : Prop where
  a_frac : At K mg "frac" s_frac P_frac
  a_is_frac : At K mg "is_frac" s_is_frac P_is_frac
  a_plus : At K mg "plus" s_plus P_plus
  a_minus : At K mg "minus" s_minus P_minus
  a_times : At K mg "times" s_times P_times
  a_over : At K mg "over" s_over P_over
  a_compare : At K mg "compare" s_compare P_compare
  a_arranged : At K mg "arranged" s_arranged P_arranged
  a_between : At K mg "between" s_between P_between
  a_gcd_of : At K mg "gcd_of" s_gcd_of P_gcd_of
  a_shrunk : At K mg "shrunk" s_shrunk P_shrunk
  a_sign : At K mg "sign" s_sign P_sign
  a_product : At K mg "product" s_product P_product
  a_added : At K mg "added" s_added P_added
  a_stepped : At K mg "stepped" s_stepped P_stepped
  a_cleared : At K mg "cleared" s_cleared P_cleared
  a_rank_of : At K mg "rank_of" s_rank_of P_rank_of
  a_noughts : At K mg "noughts" s_noughts P_noughts
  a_law_pen : At K mg "_law_pen" s_law_pen P_law_pen
  a_law_draw : At K mg "_law_draw" s_law_draw P_law_draw
  a_law_pick : At K mg "_law_pick" s_law_pick P_law_pick
  a_law_gcd : At K mg "_law_gcd" s_law_gcd P_law_gcd
  a_law_frac : At K mg "_law_frac" s_law_frac P_law_frac
  a_law_plus : At K mg "_law_plus" s_law_plus P_law_plus
  a_law_times : At K mg "_law_times" s_law_times P_law_times
  a_law_sign : At K mg "_law_sign" s_law_sign P_law_sign
  a_law_than : At K mg "_law_than" s_law_than P_law_than
  a_law_order : At K mg "_law_order" s_law_order P_law_order
  a_law_dot : At K mg "_law_dot" s_law_dot P_law_dot
  a_law_drawn : At K mg "_law_drawn" s_law_drawn P_law_drawn
  a_law_fractions_right : At K mg "_law_fractions_right" s_law_fractions_right P_law_fractions_right
  a_law_rank : At K mg "_law_rank" s_law_rank P_law_rank
  a_law_rows_right : At K mg "_law_rows_right" s_law_rows_right P_law_rows_right
  a_law : At K mg "law" s_law P_law
  n_abs : mg "abs" = none
  n_all : mg "all" = none
  n_bool : mg "bool" = none
  n_enumerate : mg "enumerate" = none
  n_int : mg "int" = none
  n_isinstance : mg "isinstance" = none
  n_len : mg "len" = none
  n_list : mg "list" = none
  n_range : mg "range" = none
  n_repr : mg "repr" = none
  n_sum : mg "sum" = none
  n_tuple : mg "tuple" = none
  n_zip : mg "zip" = none
  m_gcd : mg "gcd" = some (.builtin "math.gcd")
end K01
namespace K01
open PySem PySem.Spec PyProof.Rows L2 DL
/-! what each def computes -/
def sq (l : Bool) (ds : List DV) : DV := match l with | true => .lst ds | false => .tup ds
abbrev fD (q : Int × Int) : DV := .tup [.int q.1, .int q.2]
def fS (l : Bool) (q : Int × Int) : DV := sq l [.int q.1, .int q.2]
abbrev iD (ns : List Int) : DV := .lst (ns.map DV.int)
abbrev rD (rows : List (List Int)) : DV := .lst (rows.map iD)
abbrev tD (rows : List (List Int)) : DV := .lst (rows.map fun r => DV.tup (r.map DV.int))
def b2i (b : Bool) : Int := if b then 1 else 0
def sg (n : Int) : Int := b2i (decide (0 < n)) - b2i (decide (n < 0))
def byOf (t b : Int) : Int := if 0 < b then ((Nat.gcd t.natAbs b.natAbs : Nat) : Int) else -((Nat.gcd t.natAbs b.natAbs : Nat) : Int)
def frac (t b : Int) : Int × Int := (t.fdiv (byOf t b), b.fdiv (byOf t b))
def cmpF (p q : Int × Int) : Int := b2i (decide (q.1 * p.2 < p.1 * q.2)) - b2i (decide (p.1 * q.2 < q.1 * p.2))
def thanF (p q : Int × Int) : Int := sg (p.1 * q.2 - q.1 * p.2)
/-- small, a denominator -/
def Sm (q : Int × Int) : Prop := q.1.natAbs < 2 ^ 1000 ∧ q.2.natAbs < 2 ^ 1000 ∧ q.2 ≠ 0
/-- in lowest terms -/
def Nf (q : Int × Int) : Prop := q.1.natAbs < 2 ^ 110 ∧ q.2.natAbs < 2 ^ 110 ∧ 0 < q.2 ∧ Nat.gcd q.1.natAbs q.2.natAbs = 1
theorem Nf.sm {q : Int × Int} (h : Nf q) : Sm q := ⟨Nat.lt_of_lt_of_le h.1 (Nat.pow_le_pow_right (by decide) (by decide)), Nat.lt_of_lt_of_le h.2.1 (Nat.pow_le_pow_right (by decide) (by decide)), by have := h.2.2.1; omega⟩
def ltF (p q : Int × Int) : Prop := p.1 * q.2 < q.1 * p.2
/-- in order, each once, the same members -/
def Ord (L s : List (Int × Int)) : Prop := L.Pairwise ltF ∧ ∀ q, q ∈ L ↔ q ∈ s
def btw : Option (Int × Int) → Option (Int × Int) → Int × Int
  | none, none => (0, 1)
  | none, some h => frac (h.1 - h.2) h.2
  | some l, none => frac (l.1 + l.2) l.2
  | some l, some h => frac (l.1 * h.2 + h.1 * l.2) (2 * l.2 * h.2)
def oD : Option (Int × Int) → DV
  | none => .non
  | some q => fD q
def isI : DV → Bool
  | .int _ => true
  | _ => false
def isFl : List DV → Bool
  | [.int p, .int q] => decide (0 < q) && decide (Nat.gcd p.natAbs q.natAbs = 1)
  | _ => false
def isF : DV → Bool
  | .lst ds => isFl ds
  | .tup ds => isFl ds
  | _ => false
def isP : DV → Bool
  | .lst ds => ds.all fun x => (tyD x).isSome
  | .tup ds => ds.all fun x => (tyD x).isSome
  | d => (tyD d).isSome
/-! rows -/
def Bd (m : Nat) (ns : List Int) : Prop := ∀ x ∈ ns, x.natAbs < 2 ^ m
def Bds (m : Nat) (rows : List (List Int)) : Prop := ∀ r ∈ rows, Bd m r
def gcdL (ns : List Int) : Int := ns.foldl (fun a x => ((Nat.gcd a.natAbs x.natAbs : Nat) : Int)) 0
def shr (ns : List Int) : List Int := if gcdL ns = 0 then ns else ns.map fun x => x.fdiv (gcdL ns)
def dotF (xs ys : List Int) : Int := (List.zipWith (fun x y => x * y) xs ys).sum
def addF (xs ys : List Int) (t : Int) : List Int := List.zipWith (fun x y => x + t * y) xs ys
def cell (l : List (List Int)) (i j : Nat) : Int := (l.getD i []).getD j 0
def spotsTo (l : List (List Int)) (top at_ i : Nat) : List Nat := ((List.range i).map (top + ·)).filter fun s => !decide (cell l s at_ = 0)
def spotsF (l : List (List Int)) (top at_ : Nat) : List Nat := spotsTo l top at_ (l.length - top)
def swp (l : List (List Int)) (a b : Nat) : List (List Int) := (l.set a (l.getD b [])).set b (l.getD a [])
def clr (row line : List Int) (at_ : Nat) (d : Int) : List Int := List.zipWith (fun part its => (part * line.getD at_ 0 - row.getD at_ 0 * its).fdiv d) row line
structure S3 where
  l : List (List Int)
  q : List Nat
  d : Int
def stepF (s : S3) (at_ : Nat) : S3 :=
  match spotsF s.l s.q.length at_ with
  | [] => s
  | p :: _ =>
    let l1 := swp s.l s.q.length p
    let line := l1.getD s.q.length []
    ⟨l1.mapIdx fun i row => if i = s.q.length then row else clr row line at_ s.d, s.q ++ [at_], line.getD at_ 0⟩
def wid (rows : List (List Int)) : Nat := (rows.getD 0 []).length
def stp (rows : List (List Int)) : S3 := (List.range (wid rows)).foldl stepF ⟨rows, [], 1⟩
def elm (row line : List Int) (at_ : Nat) : List Int := List.zipWith (fun part its => part * line.getD at_ 0 - row.getD at_ 0 * its) row line
def lstep (s : List (List Int) × Nat) (at_ : Nat) : List (List Int) × Nat :=
  match spotsF s.1 s.2 at_ with
  | [] => s
  | p :: _ =>
    let l1 := swp s.1 s.2 p
    let line := l1.getD s.2 []
    (l1.mapIdx fun i row => if s.2 < i then elm row line at_ else row, s.2 + 1)
def lrk (rows : List (List Int)) : Nat := ((List.range (wid rows)).foldl lstep (rows, 0)).2
/-- one told row -/
def toldF (s : S3) (many free : Nat) : List Int :=
  (s.q.zip (s.l.take s.q.length)).foldl (fun acc z => acc.set z.1 (-(z.2.getD free 0))) ((List.replicate many 0).set free s.d)
def ngt (rows : List (List Int)) (many : Nat) : List (List Int) :=
  ((List.range many).filter fun a => !decide (a ∈ (stp rows).q)).map fun free => shr (toldF (stp rows) many free)
/-- a matrix -/
def Mat (m b : Nat) (rows : List (List Int)) : Prop := rows.length ≤ 6 ∧ m ≤ 4 ∧ (∀ r ∈ rows, r.length = m) ∧ Bds b rows
/-! promises -/
section
variable (K : Fg)
abbrev sp_frac : Sp := spD K (fun (a : Int × Int) => a.2 ≠ 0 ∧ a.2.natAbs < 2 ^ 9000) (fun a => [.int a.1, .int a.2]) fun a d => d = fD (frac a.1 a.2)
abbrev sp_law_frac : Sp := spD K (fun (a : Int × Int) => a.2 ≠ 0 ∧ a.2.natAbs < 2 ^ 9000) (fun a => [.int a.1, .int a.2]) fun a d => d = fD (frac a.1 a.2)
abbrev sp_is_frac : Sp := spD K (fun (a : DV) => isP a = true) (fun a => [a]) fun a d => d = .bl (isF a)
abbrev sp_plus : Sp := spD K (fun (a : (Int × Int) × Int × Int) => Sm a.1 ∧ Sm a.2) (fun a => [fD a.1, fD a.2]) fun a d => d = fD (frac (a.1.1 * a.2.2 + a.2.1 * a.1.2) (a.1.2 * a.2.2))
abbrev sp_law_plus : Sp := sp_plus K
abbrev sp_minus : Sp := spD K (fun (a : (Int × Int) × Int × Int) => Sm a.1 ∧ Sm a.2) (fun a => [fD a.1, fD a.2]) fun a d => d = fD (frac (a.1.1 * a.2.2 - a.2.1 * a.1.2) (a.1.2 * a.2.2))
abbrev sp_times : Sp := spD K (fun (a : (Int × Int) × Int × Int) => Sm a.1 ∧ Sm a.2) (fun a => [fD a.1, fD a.2]) fun a d => d = fD (frac (a.1.1 * a.2.1) (a.1.2 * a.2.2))
abbrev sp_law_times : Sp := sp_times K
abbrev sp_over : Sp := spD K (fun (a : (Int × Int) × Int × Int) => Sm a.1 ∧ Sm a.2 ∧ a.2.1 ≠ 0) (fun a => [fD a.1, fD a.2]) fun a d => d = fD (frac (a.1.1 * a.2.2) (a.1.2 * a.2.1))
abbrev sp_compare : Sp := spD K (fun (a : (Int × Int) × Bool × Int × Int) => Sm a.1 ∧ Sm a.2.2) (fun a => [fD a.1, fS a.2.1 a.2.2]) fun a d => d = .int (cmpF a.1 a.2.2)
abbrev sp_law_than : Sp := spD K (fun (a : (Int × Int) × Int × Int) => Sm a.1 ∧ Sm a.2) (fun a => [fD a.1, fD a.2]) fun a d => d = .int (thanF a.1 a.2)
abbrev sp_arranged : Sp := spD K (fun (a : List (Bool × Int × Int)) => a.length ≤ 1000 ∧ ∀ x ∈ a, Nf x.2) (fun a => [.lst (a.map fun x => fS x.1 x.2)]) fun a d => ∃ L, d = .lst (L.map fD) ∧ Ord L (a.map (·.2)) ∧ L.length ≤ a.length
abbrev sp_law_order : Sp := spD K (fun (a : List (Int × Int)) => a.length ≤ 1000 ∧ ∀ x ∈ a, Nf x) (fun a => [.lst (a.map fD)]) fun a d => ∃ L, d = .lst (L.map fD) ∧ Ord L a ∧ L.length ≤ a.length
abbrev sp_between : Sp := spD K (fun (a : Option (Int × Int) × Option (Int × Int)) => (∀ q, a.1 = some q → Nf q) ∧ ∀ q, a.2 = some q → Nf q) (fun a => [oD a.1, oD a.2]) fun a d => d = fD (btw a.1 a.2)
abbrev sp_gcd_of : Sp := spD K (fun (a : List Int) => a.length ≤ 1000) (fun a => [iD a]) fun a d => d = .int (gcdL a)
abbrev sp_shrunk : Sp := spD K (fun (a : List Int) => a.length ≤ 1000 ∧ Bd 8000 a) (fun a => [iD a]) fun a d => d = iD (shr a)
abbrev sp_sign : Sp := spD K (fun (_ : Int) => True) (fun a => [.int a]) fun a d => d = .int (sg a)
abbrev sp_law_sign : Sp := sp_sign K
abbrev sp_product : Sp := spD K (fun (a : List Int × List Int) => a.1.length ≤ 1000 ∧ Bd 8000 a.1 ∧ Bd 8000 a.2) (fun a => [iD a.1, iD a.2]) fun a d => d = .int (dotF a.1 a.2)
abbrev sp_added : Sp := spD K (fun (a : List Int × List Int × Int) => a.1.length ≤ 1000 ∧ Bd 8000 a.1 ∧ Bd 8000 a.2.1 ∧ a.2.2.natAbs < 2 ^ 60) (fun a => [iD a.1, iD a.2.1, .int a.2.2]) fun a d => d = .tup ((addF a.1 a.2.1 a.2.2).map DV.int)
abbrev sp_cleared : Sp := spD K (fun (a : (List Int × List Int) × Nat × Int) => a.1.1.length ≤ 1000 ∧ Bd 8000 a.1.1 ∧ Bd 8000 a.1.2 ∧ a.2.1 < a.1.1.length ∧ a.2.1 < a.1.2.length ∧ a.2.2 ≠ 0 ∧ a.2.2.natAbs < 2 ^ 9000) (fun a => [iD a.1.1, iD a.1.2, .int a.2.1, .int a.2.2]) fun a d => d = iD (clr a.1.1 a.1.2 a.2.1 a.2.2)
abbrev sp_stepped : Sp := spD K (fun (a : List (List Int)) => ∃ m, Mat m 60 a) (fun a => [rD a]) fun a d => d = .tup [rD ((stp a).l.take (stp a).q.length), .lst ((stp a).q.map fun (x : Nat) => DV.int (x : Int)), .int (stp a).d]
abbrev sp_rank_of : Sp := spD K (fun (a : List (List Int)) => ∃ m, Mat m 60 a) (fun a => [rD a]) fun a d => d = .int ((stp a).q.length : Int)
abbrev sp_noughts : Sp := spD K (fun (a : List (List Int) × Nat) => Mat a.2 60 a.1) (fun a => [rD a.1, .int (a.2 : Int)]) fun a d => d = tD (ngt a.1 a.2)
abbrev sp_law_draw : Sp := sp_draw K
abbrev sp_law_pick : Sp := spP K (fun (ds : List DV) => 1 ≤ ds.length ∧ ds.length ≤ 1000) (fun ds => [.lst ds]) (fun _ => 1) fun ds d => d ∈ ds
abbrev sp_law_gcd : Sp := spD K (fun (_ : Int × Int) => True) (fun a => [.int a.1, .int a.2]) fun a d => d = .int ((Nat.gcd a.1.natAbs a.2.natAbs : Nat) : Int)
abbrev sp_law_dot : Sp := spD K (fun (a : Bool × List Int × List Int) => a.2.1.length ≤ 1000 ∧ Bd 8000 a.2.1 ∧ Bd 8000 a.2.2) (fun a => [sq a.1 (a.2.1.map DV.int), iD a.2.2]) fun a d => d = .int (dotF a.2.1 a.2.2)
abbrev sp_law_drawn : Sp := spP K (fun (_ : Unit) => True) (fun _ => []) (fun _ => 3) fun _ d => ∃ q, d = fD q ∧ Nf q
abbrev sp_law_rank : Sp := spD K (fun (a : List (List Int)) => ∃ m, Mat m 2000 a) (fun a => [rD a]) fun a d => d = .int (lrk a : Int)
abbrev sp_law_fractions_right : Sp := spP K (fun (_ : Unit) => True) (fun _ => []) (fun _ => 100) fun _ d => d = .bl true
abbrev sp_law_rows_right : Sp := spP K (fun (_ : Unit) => True) (fun _ => []) (fun _ => 100) fun _ d => d = .bl true
/-- a new pen -/
def sp_law_pen : Sp := fun vs H Q _ => ∃ (M : Hp) (a : Addr) (ns : List Int), vs = [.ref a] ∧ SqL K H a (ns.map V.int) ∧ ns.length ≤ 100000 ∧ Ex M H ∧
  ∀ p M' H', Ex M M' → Ex H H' → Ex M' H' → M' p = none → H p = none → PenAt K M' H' p 0 → Q (.ref p) H'
def sp_law : Sp := fun vs H Q _ => ∃ (a : Addr) (ns : List Int), vs = [.ref a] ∧ SqL K H a (ns.map V.int) ∧ ns.length ≤ 100000 ∧ ∀ H', Q (.bl true) H'
end
end K01
namespace K01
open PySem PySem.Spec PyProof.Rows L2 DL
def t_frac (K : Fg) : TS :=
    (tSeq (tAsg (tIf (tTest (tOp rGt (tVar 1) (tC (.int 0)))) (tCB rGcd (tCons (tVar 0) (tCons (tVar 1) tNil))) (tUn (rU fun i => .int (-i)) (tCB rGcd (tCons (tVar 0) (tCons (tVar 1) tNil))))) (gName 2))
    (tRet (tTup (tCons (tOp rFdiv (tVar 0) (tVar 2)) (tCons (tOp rFdiv (tVar 1) (tVar 2)) tNil)))))
def t_is_frac (K : Fg) : TS :=
    (tSeq (tIfS (tOr (tNot (tTru K (tCB (rIsA K) (tCons (tVar 0) (tCons (tTup (tCons (tC (.ty "list")) (tCons (tC (.ty "tuple")) tNil))) tNil))))) (tTest (tOp (rNeA K) (tCB (rLenA K) (tCons (tVar 0) tNil)) (tC (.int 2))))) (tRet (tC (.bl false))) tNext)
    (tSeq (tIfS (tNot (tTru K (tCB (rAll K) (tCons (tLc (iSeq K (tVar 0)) (gName 1) tYes (tAndV (tCB (rIsA K) (tCons (tVar 1) (tCons (tC (.ty "int")) tNil))) (tNotV (tCB (rIsA K) (tCons (tVar 1) (tCons (tC (.ty "bool")) tNil))))) [1]) tNil)))) (tRet (tC (.bl false))) tNext)
    (tRet (tAndV (tOp rGt (tOp (rIx K) (tVar 0) (tC (.int 1))) (tC (.int 0))) (tOp (rEqA K) (tCB rGcd (tCons (tOp (rIx K) (tVar 0) (tC (.int 0))) (tCons (tOp (rIx K) (tVar 0) (tC (.int 1))) tNil))) (tC (.int 1)))))))
def t_compare (K : Fg) : TS :=
    (tSeq (tPar 2 3 (tCons (tOp (rTimes K) (tOp (rIx K) (tVar 0) (tC (.int 0))) (tOp (rIx K) (tVar 1) (tC (.int 1)))) (tCons (tOp (rTimes K) (tOp (rIx K) (tVar 1) (tC (.int 0))) (tOp (rIx K) (tVar 0) (tC (.int 1)))) tNil)))
    (tRet (tOp rMinus (tCB rInt1 (tCons (tOp rGt (tVar 2) (tVar 3)) tNil)) (tCB rInt1 (tCons (tOp rLt (tVar 2) (tVar 3)) tNil)))))
def t_gcd_of (K : Fg) : TS :=
    (tSeq (tAsg (tC (.int 0)) (gName 1))
    (tSeq (tFor (iSeq K (tVar 0)) (gName 2) (tAsg (tCB rGcd (tCons (tVar 1) (tCons (tVar 2) tNil))) (gName 1)))
    (tRet (tVar 1))))
def t_sign (K : Fg) : TS :=
    (tRet (tOp rMinus (tCB rInt1 (tCons (tOp rGt (tVar 0) (tC (.int 0))) tNil)) (tCB rInt1 (tCons (tOp rLt (tVar 0) (tC (.int 0))) tNil))))
def t_product (K : Fg) : TS :=
    (tRet (tCB (rSum K) (tCons (tLc (iZipB K (tCons (tVar 0) (tCons (tVar 1) tNil))) (gTup K 2 (gCons (gName 2) (gCons (gName 3) gNil))) tYes (tOp (rTimes K) (tVar 2) (tVar 3)) [2, 3]) tNil)))
def t_added (K : Fg) : TS :=
    (tRet (tCB (rTupOf K) (tCons (tLc (iZipB K (tCons (tVar 0) (tCons (tVar 1) tNil))) (gTup K 2 (gCons (gName 3) (gCons (gName 4) gNil))) tYes (tOp (rPlus K) (tVar 3) (tOp (rTimes K) (tVar 2) (tVar 4))) [3, 4]) tNil)))
def t_cleared (K : Fg) : TS :=
    (tRet (tLc (iZipB K (tCons (tVar 0) (tCons (tVar 1) tNil))) (gTup K 2 (gCons (gName 4) (gCons (gName 5) gNil))) tYes (tOp rFdiv (tOp rMinus (tOp (rTimes K) (tVar 4) (tOp (rIx K) (tVar 1) (tVar 2))) (tOp (rTimes K) (tOp (rIx K) (tVar 0) (tVar 2)) (tVar 5))) (tVar 3)) [4, 5]))
def t_law_pen (K : Fg) : TS :=
    (tRet (tLst (tCons (tLc (iSeq K (tSl (rCut K) (tVar 0) tNoPart (tPart (tC (.int 63))))) (gName 1) tYes (tCB rInt1 (tCons (tVar 1) tNil)) [1]) (tCons (tC (.int 0)) (tCons (tC (.int 0)) tNil)))))
def t_law_draw (K : Fg) : TS :=
    (tSeq (tIfS (tTest (tOp rGt (tOp (rIx K) (tVar 0) (tC (.int 2))) (tC (.int 0)))) (tSeq (tAsg (tOp rFmod (tCB rInt1 (tCons (tOp (rIx K) (tVar 0) (tC (.int 2))) tNil)) (tVar 1)) (gName 2))
    (tSeq (tAsg (tOp rFdiv (tCB rInt1 (tCons (tOp (rIx K) (tVar 0) (tC (.int 2))) tNil)) (tVar 1)) (gSub (tVar 0) (tC (.int 2)) rSetL))
    (tRet (tVar 2)))) tNext)
    (tSeq (tAsg (tOp (rIx K) (tVar 0) (tC (.int 1))) (gName 3))
    (tSeq (tAsg (tOp (rPlus K) (tVar 3) (tC (.int 1))) (gSub (tVar 0) (tC (.int 1)) rSetL))
    (tSeq (tAsg (tOp (rPlus K) (tOp (rTimes K) (tC (.int 143212)) (tVar 3)) (tC (.int 15138))) (gName 4))
    (tSeq (tIfS (tTest (tOp (rNeA K) (tOp (rIx K) (tVar 0) (tC (.int 0))) (tLst tNil))) (tAsg (tOp (rIx K) (tOp (rIx K) (tVar 0) (tC (.int 0))) (tOp rFmod (tCB rInt1 (tCons (tVar 3) tNil)) (tCB (rLenA K) (tCons (tOp (rIx K) (tVar 0) (tC (.int 0))) tNil)))) (gName 4)) tNext)
    (tSeq (tIfS (tAnd (tTest (tOp rLt (tVar 3) (tCB (rLenA K) (tCons (tOp (rIx K) (tVar 0) (tC (.int 0))) tNil)))) (tTest (tOp rGe (tCB rAbs (tCons (tVar 4) tNil)) (tOp rPow (tC (.int 10)) (tC (.int 18)))))) (tSeq (tAsg (tOp (rPlus K) (tOp (rTimes K) (tC (.int 2)) (tOp rMinus (tCB rAbs (tCons (tVar 4) tNil)) (tOp rPow (tC (.int 10)) (tC (.int 18))))) (tCB rInt1 (tCons (tOp rLt (tVar 4) (tC (.int 0))) tNil))) (gName 5))
    (tSeq (tAsg (tOp rFdiv (tCB rInt1 (tCons (tVar 5) tNil)) (tVar 1)) (gSub (tVar 0) (tC (.int 2)) rSetL))
    (tRet (tOp rFmod (tCB rInt1 (tCons (tVar 5) tNil)) (tVar 1))))) tNext)
    (tSeq (tAsg (tOp rFmod (tCB rInt1 (tCons (tOp rPow (tOp (rPlus K) (tOp (rPlus K) (tOp rFmod (tCB rInt1 (tCons (tVar 4) tNil)) (tC (.int 2147483549))) (tOp (rTimes K) (tC (.int 143212)) (tVar 3))) (tC (.int 15138))) (tC (.int 5))) tNil)) (tC (.int 2147483629))) (gName 6))
    (tSeq (tAsg (tOp rFmod (tCB rInt1 (tCons (tOp rPow (tOp (rPlus K) (tOp (rPlus K) (tOp (rTimes K) (tVar 6) (tOp (rPlus K) (tOp (rTimes K) (tC (.int 2)) (tVar 3)) (tC (.int 4307)))) (tOp (rTimes K) (tOp (rTimes K) (tC (.int 91113)) (tVar 3)) (tVar 3))) (tC (.int 15138))) (tC (.int 3))) tNil)) (tC (.int 2147483587))) (gName 6))
    (tRet (tOp rFmod (tCB rInt1 (tCons (tOp rFdiv (tVar 6) (tC (.int 64))) tNil)) (tVar 1)))))))))))
def t_law_gcd (K : Fg) : TS :=
    (tSeq (tPar 0 1 (tCons (tCB rAbs (tCons (tVar 0) tNil)) (tCons (tCB rAbs (tCons (tVar 1) tNil)) tNil)))
    (tSeq (tWhile (tTest (tOp (rNeA K) (tVar 1) (tC (.int 0)))) (tPar 0 1 (tCons (tVar 1) (tCons (tOp rFmod (tCB rInt1 (tCons (tVar 0) tNil)) (tVar 1)) tNil))))
    (tRet (tVar 0))))
def t_law_sign (K : Fg) : TS :=
    (tRet (tOp rMinus (tCB rInt1 (tCons (tOp rGt (tVar 0) (tC (.int 0))) tNil)) (tCB rInt1 (tCons (tOp rLt (tVar 0) (tC (.int 0))) tNil))))
def t_law_dot (K : Fg) : TS :=
    (tRet (tCB (rSum K) (tCons (tLc (iZipB K (tCons (tVar 0) (tCons (tVar 1) tNil))) (gTup K 2 (gCons (gName 2) (gCons (gName 3) gNil))) tYes (tOp (rTimes K) (tVar 2) (tVar 3)) [2, 3]) tNil)))
def t_law_rank (K : Fg) : TS :=
    (tSeq (tAsg (tTup (tCons (tLc (iSeq K (tVar 0)) (gName 6) tYes (tCB (rListOf K) (tCons (tVar 6) tNil)) [6]) (tCons (tC (.int 0)) tNil))) (gTup K 2 (gCons (gName 1) (gCons (gName 2) gNil))))
    (tSeq (tFor (iRng1 (tCons (tIf (tTest (tOp (rNeA K) (tVar 0) (tLst tNil))) (tCB (rLenA K) (tCons (tOp (rIx K) (tVar 0) (tC (.int 0))) tNil)) (tC (.int 0))) tNil)) (gName 3) (tSeq (tAsg (tLc (iRng2 (tCons (tVar 2) (tCons (tCB (rLenA K) (tCons (tVar 1) tNil)) tNil))) (gName 5) (tTest (tOp (rNeA K) (tOp (rIx K) (tOp (rIx K) (tVar 1) (tVar 5)) (tVar 3)) (tC (.int 0)))) (tVar 5) [5]) (gName 4))
    (tIfS (tTest (tOp (rNeA K) (tVar 4) (tLst tNil))) (tSeq (tAsg (tTup (tCons (tOp (rIx K) (tVar 1) (tOp (rIx K) (tVar 4) (tC (.int 0)))) (tCons (tOp (rIx K) (tVar 1) (tVar 2)) tNil))) (gTup K 2 (gCons (gSub (tVar 1) (tVar 2) rSetL) (gCons (gSub (tVar 1) (tOp (rIx K) (tVar 4) (tC (.int 0))) rSetL) gNil))))
    (tSeq (tFor (iRng2 (tCons (tOp (rPlus K) (tVar 2) (tC (.int 1))) (tCons (tCB (rLenA K) (tCons (tVar 1) tNil)) tNil))) (gName 5) (tAsg (tLc (iZipB K (tCons (tOp (rIx K) (tVar 1) (tVar 5)) (tCons (tOp (rIx K) (tVar 1) (tVar 2)) tNil))) (gTup K 2 (gCons (gName 7) (gCons (gName 8) gNil))) tYes (tOp rMinus (tOp (rTimes K) (tVar 7) (tOp (rIx K) (tOp (rIx K) (tVar 1) (tVar 2)) (tVar 3))) (tOp (rTimes K) (tOp (rIx K) (tOp (rIx K) (tVar 1) (tVar 5)) (tVar 3)) (tVar 8))) [7, 8]) (gSub (tVar 1) (tVar 5) rSetL)))
    (tAsg (tOp (rPlus K) (tVar 2) (tC (.int 1))) (gName 2)))) tNext)))
    (tRet (tVar 2))))
def t_plus (K : Fg) : TS :=
    (tRet (tCall (sp_frac K) [] E0 (tCons (tOp (rPlus K) (tOp (rTimes K) (tOp (rIx K) (tVar 0) (tC (.int 0))) (tOp (rIx K) (tVar 1) (tC (.int 1)))) (tOp (rTimes K) (tOp (rIx K) (tVar 1) (tC (.int 0))) (tOp (rIx K) (tVar 0) (tC (.int 1))))) (tCons (tOp (rTimes K) (tOp (rIx K) (tVar 0) (tC (.int 1))) (tOp (rIx K) (tVar 1) (tC (.int 1)))) tNil))))
def t_minus (K : Fg) : TS :=
    (tRet (tCall (sp_frac K) [] E0 (tCons (tOp rMinus (tOp (rTimes K) (tOp (rIx K) (tVar 0) (tC (.int 0))) (tOp (rIx K) (tVar 1) (tC (.int 1)))) (tOp (rTimes K) (tOp (rIx K) (tVar 1) (tC (.int 0))) (tOp (rIx K) (tVar 0) (tC (.int 1))))) (tCons (tOp (rTimes K) (tOp (rIx K) (tVar 0) (tC (.int 1))) (tOp (rIx K) (tVar 1) (tC (.int 1)))) tNil))))
def t_times (K : Fg) : TS :=
    (tRet (tCall (sp_frac K) [] E0 (tCons (tOp (rTimes K) (tOp (rIx K) (tVar 0) (tC (.int 0))) (tOp (rIx K) (tVar 1) (tC (.int 0)))) (tCons (tOp (rTimes K) (tOp (rIx K) (tVar 0) (tC (.int 1))) (tOp (rIx K) (tVar 1) (tC (.int 1)))) tNil))))
def t_over (K : Fg) : TS :=
    (tRet (tCall (sp_frac K) [] E0 (tCons (tOp (rTimes K) (tOp (rIx K) (tVar 0) (tC (.int 0))) (tOp (rIx K) (tVar 1) (tC (.int 1)))) (tCons (tOp (rTimes K) (tOp (rIx K) (tVar 0) (tC (.int 1))) (tOp (rIx K) (tVar 1) (tC (.int 0)))) tNil))))
def t_arranged (K : Fg) : TS :=
    (tSeq (tAsg (tLst tNil) (gName 1))
    (tSeq (tFor (iSeq K (tVar 0)) (gName 2) (tSeq (tAsg (tC (.int 0)) (gName 3))
    (tSeq (tWhile (tAnd (tTest (tOp rLt (tVar 3) (tCB (rLenA K) (tCons (tVar 1) tNil)))) (tTest (tOp rLt (tCall (sp_compare K) [] E0 (tCons (tOp (rIx K) (tVar 1) (tVar 3)) (tCons (tVar 2) tNil))) (tC (.int 0))))) (tAug 3 (tC (.int 1)) (ipI fun i j => i + j)))
    (tIfS (tOr (tTest (tOp (rEqA K) (tVar 3) (tCB (rLenA K) (tCons (tVar 1) tNil)))) (tTest (tOp (rNeA K) (tCall (sp_compare K) [] E0 (tCons (tOp (rIx K) (tVar 1) (tVar 3)) (tCons (tVar 2) tNil))) (tC (.int 0))))) (tDrop (tBM K "list" rInsert (tVar 1) (tCons (tVar 3) (tCons (tTup (tCons (tOp (rIx K) (tVar 2) (tC (.int 0))) (tCons (tOp (rIx K) (tVar 2) (tC (.int 1))) tNil))) tNil)))) tNext))))
    (tRet (tVar 1))))
def t_between (K : Fg) : TS :=
    (tSeq (tIfS (tAnd (tTest (tOp rIsN (tVar 0) (tC .non))) (tTest (tOp rIsN (tVar 1) (tC .non)))) (tRet (tTup (tCons (tC (.int 0)) (tCons (tC (.int 1)) tNil)))) tNext)
    (tSeq (tIfS (tTest (tOp rIsN (tVar 0) (tC .non))) (tRet (tCall (sp_frac K) [] E0 (tCons (tOp rMinus (tOp (rIx K) (tVar 1) (tC (.int 0))) (tOp (rIx K) (tVar 1) (tC (.int 1)))) (tCons (tOp (rIx K) (tVar 1) (tC (.int 1))) tNil)))) tNext)
    (tSeq (tIfS (tTest (tOp rIsN (tVar 1) (tC .non))) (tRet (tCall (sp_frac K) [] E0 (tCons (tOp (rPlus K) (tOp (rIx K) (tVar 0) (tC (.int 0))) (tOp (rIx K) (tVar 0) (tC (.int 1)))) (tCons (tOp (rIx K) (tVar 0) (tC (.int 1))) tNil)))) tNext)
    (tRet (tCall (sp_frac K) [] E0 (tCons (tOp (rPlus K) (tOp (rTimes K) (tOp (rIx K) (tVar 0) (tC (.int 0))) (tOp (rIx K) (tVar 1) (tC (.int 1)))) (tOp (rTimes K) (tOp (rIx K) (tVar 1) (tC (.int 0))) (tOp (rIx K) (tVar 0) (tC (.int 1))))) (tCons (tOp (rTimes K) (tOp (rTimes K) (tC (.int 2)) (tOp (rIx K) (tVar 0) (tC (.int 1)))) (tOp (rIx K) (tVar 1) (tC (.int 1)))) tNil)))))))
def t_shrunk (K : Fg) : TS :=
    (tSeq (tAsg (tCall (sp_gcd_of K) [] E0 (tCons (tVar 0) tNil)) (gName 1))
    (tRet (tIf (tTest (tOp (rEqA K) (tVar 1) (tC (.int 0)))) (tCB (rListOf K) (tCons (tVar 0) tNil)) (tLc (iSeq K (tVar 0)) (gName 2) tYes (tOp rFdiv (tVar 2) (tVar 1)) [2]))))
def t_stepped (K : Fg) : TS :=
    (tSeq (tAsg (tTup (tCons (tLc (iSeq K (tVar 0)) (gName 8) tYes (tCB (rListOf K) (tCons (tVar 8) tNil)) [8]) (tCons (tLst tNil) (tCons (tC (.int 1)) tNil)))) (gTup K 3 (gCons (gName 1) (gCons (gName 2) (gCons (gName 3) gNil)))))
    (tSeq (tFor (iRng1 (tCons (tIf (tTest (tOp rGt (tCB (rLenA K) (tCons (tVar 0) tNil)) (tC (.int 0)))) (tCB (rLenA K) (tCons (tOp (rIx K) (tVar 0) (tC (.int 0))) tNil)) (tC (.int 0))) tNil)) (gName 4) (tSeq (tAsg (tCB (rLenA K) (tCons (tVar 2) tNil)) (gName 5))
    (tSeq (tAsg (tLc (iRng2 (tCons (tVar 5) (tCons (tCB (rLenA K) (tCons (tVar 1) tNil)) tNil))) (gName 9) (tTest (tOp (rNeA K) (tOp (rIx K) (tOp (rIx K) (tVar 1) (tVar 9)) (tVar 4)) (tC (.int 0)))) (tVar 9) [9]) (gName 6))
    (tIfS (tTest (tOp (rNeA K) (tVar 6) (tLst tNil))) (tSeq (tAsg (tTup (tCons (tOp (rIx K) (tVar 1) (tOp (rIx K) (tVar 6) (tC (.int 0)))) (tCons (tOp (rIx K) (tVar 1) (tVar 5)) tNil))) (gTup K 2 (gCons (gSub (tVar 1) (tVar 5) rSetL) (gCons (gSub (tVar 1) (tOp (rIx K) (tVar 6) (tC (.int 0))) rSetL) gNil))))
    (tSeq (tAsg (tOp (rIx K) (tVar 1) (tVar 5)) (gName 7))
    (tSeq (tAsg (tLc (iEnum K (tCons (tVar 1) tNil)) (gTup K 2 (gCons (gName 9) (gCons (gName 8) gNil))) tYes (tIf (tTest (tOp (rEqA K) (tVar 9) (tVar 5))) (tVar 8) (tCall (sp_cleared K) [] E0 (tCons (tVar 8) (tCons (tVar 7) (tCons (tVar 4) (tCons (tVar 3) tNil)))))) [9, 8]) (gName 1))
    (tSeq (tDrop (tBM K "list" rAppend (tVar 2) (tCons (tVar 4) tNil)))
    (tAsg (tOp (rIx K) (tVar 7) (tVar 4)) (gName 3)))))) tNext))))
    (tRet (tTup (tCons (tSl (rCut K) (tVar 1) tNoPart (tPart (tCB (rLenA K) (tCons (tVar 2) tNil)))) (tCons (tVar 2) (tCons (tVar 3) tNil)))))))
def t_law_pick (K : Fg) : TS :=
    (tRet (tOp (rIx K) (tVar 1) (tCall (sp_law_draw K) [] E0 (tCons (tVar 0) (tCons (tCB (rLenA K) (tCons (tVar 1) tNil)) tNil)))))
def t_law_frac (K : Fg) : TS :=
    (tSeq (tAsg (tOp (rTimes K) (tCall (sp_law_gcd K) [] E0 (tCons (tVar 0) (tCons (tVar 1) tNil))) (tIf (tTest (tOp rGt (tVar 1) (tC (.int 0)))) (tC (.int 1)) (tUn (rU fun i => .int (-i)) (tC (.int 1))))) (gName 2))
    (tRet (tTup (tCons (tOp rFdiv (tVar 0) (tVar 2)) (tCons (tOp rFdiv (tVar 1) (tVar 2)) tNil)))))
def t_law_than (K : Fg) : TS :=
    (tRet (tCall (sp_law_sign K) [] E0 (tCons (tOp rMinus (tOp (rTimes K) (tOp (rIx K) (tVar 0) (tC (.int 0))) (tOp (rIx K) (tVar 1) (tC (.int 1)))) (tOp (rTimes K) (tOp (rIx K) (tVar 1) (tC (.int 0))) (tOp (rIx K) (tVar 0) (tC (.int 1))))) tNil)))
def t_rank_of (K : Fg) : TS :=
    (tRet (tCB (rLenA K) (tCons (tOp (rIx K) (tCall (sp_stepped K) [] E0 (tCons (tVar 0) tNil)) (tC (.int 1))) tNil)))
def t_noughts (K : Fg) : TS :=
    (tSeq (tAsg (tCall (sp_stepped K) [] E0 (tCons (tVar 0) tNil)) (gTup K 3 (gCons (gName 2) (gCons (gName 3) (gCons (gName 4) gNil)))))
    (tSeq (tAsg (tLst tNil) (gName 5))
    (tSeq (tFor (iSeq K (tLc (iRng1 (tCons (tVar 1) tNil)) (gName 10) (tTest (tOp (rIn K true) (tVar 10) (tVar 3))) (tVar 10) [10])) (gName 6) (tSeq (tAsg (tOp (rTimes K) (tLst (tCons (tC (.int 0)) tNil)) (tVar 1)) (gName 7))
    (tSeq (tAsg (tVar 4) (gSub (tVar 7) (tVar 6) rSetL))
    (tSeq (tFor (iZipB K (tCons (tVar 3) (tCons (tVar 2) tNil))) (gTup K 2 (gCons (gName 8) (gCons (gName 9) gNil))) (tAsg (tUn (rU fun i => .int (-i)) (tOp (rIx K) (tVar 9) (tVar 6))) (gSub (tVar 7) (tVar 8) rSetL)))
    (tDrop (tBM K "list" rAppend (tVar 5) (tCons (tCB (rTupOf K) (tCons (tCall (sp_shrunk K) [] E0 (tCons (tVar 7) tNil)) tNil)) tNil)))))))
    (tRet (tVar 5)))))
def t_law_plus (K : Fg) : TS :=
    (tRet (tCall (sp_law_frac K) [] E0 (tCons (tOp (rPlus K) (tOp (rTimes K) (tOp (rIx K) (tVar 0) (tC (.int 0))) (tOp (rIx K) (tVar 1) (tC (.int 1)))) (tOp (rTimes K) (tOp (rIx K) (tVar 1) (tC (.int 0))) (tOp (rIx K) (tVar 0) (tC (.int 1))))) (tCons (tOp (rTimes K) (tOp (rIx K) (tVar 0) (tC (.int 1))) (tOp (rIx K) (tVar 1) (tC (.int 1)))) tNil))))
def t_law_times (K : Fg) : TS :=
    (tRet (tCall (sp_law_frac K) [] E0 (tCons (tOp (rTimes K) (tOp (rIx K) (tVar 0) (tC (.int 0))) (tOp (rIx K) (tVar 1) (tC (.int 0)))) (tCons (tOp (rTimes K) (tOp (rIx K) (tVar 0) (tC (.int 1))) (tOp (rIx K) (tVar 1) (tC (.int 1)))) tNil))))
def t_law_order (K : Fg) : TS :=
    (tSeq (tAsg (tLst tNil) (gName 1))
    (tSeq (tFor (iSeq K (tVar 0)) (gName 2) (tSeq (tAsg (tC (.int 0)) (gName 3))
    (tSeq (tWhile (tAnd (tTest (tOp rLt (tVar 3) (tCB (rLenA K) (tCons (tVar 1) tNil)))) (tTest (tOp rLt (tCall (sp_law_than K) [] E0 (tCons (tOp (rIx K) (tVar 1) (tVar 3)) (tCons (tVar 2) tNil))) (tC (.int 0))))) (tAsg (tOp (rPlus K) (tVar 3) (tC (.int 1))) (gName 3)))
    (tIfS (tOr (tTest (tOp (rEqA K) (tVar 3) (tCB (rLenA K) (tCons (tVar 1) tNil)))) (tTest (tOp (rNeA K) (tOp (rIx K) (tVar 1) (tVar 3)) (tVar 2)))) (tAsg (tOp (rPlus K) (tOp (rPlus K) (tSl (rCut K) (tVar 1) tNoPart (tPart (tVar 3))) (tLst (tCons (tVar 2) tNil))) (tSl (rCut K) (tVar 1) (tPart (tVar 3)) tNoPart)) (gName 1)) tNext))))
    (tRet (tVar 1))))
def t_law_drawn (K : Fg) : TS :=
    (tSeq (tAsg (tCall (sp_law_pick K) [] E0 (tCons (tVar 0) (tCons (tLst (tCons (tC (.int 3)) (tCons (tC (.int 10)) (tCons (tOp rPow (tC (.int 10)) (tC (.int 6))) (tCons (tOp rPow (tC (.int 10)) (tC (.int 30))) tNil))))) tNil))) (gName 1))
    (tRet (tCall (sp_law_frac K) [] E0 (tCons (tOp rMinus (tCall (sp_law_draw K) [] E0 (tCons (tVar 0) (tCons (tOp (rTimes K) (tC (.int 2)) (tVar 1)) tNil))) (tVar 1)) (tCons (tOp (rPlus K) (tC (.int 1)) (tCall (sp_law_draw K) [] E0 (tCons (tVar 0) (tCons (tVar 1) tNil)))) tNil)))))
def t_law_fractions_right (K : Fg) : TS :=
    (tSeq (tPar 1 2 (tCons (tCall (sp_law_drawn K) [] E0 (tCons (tVar 0) tNil)) (tCons (tCall (sp_law_drawn K) [] E0 (tCons (tVar 0) tNil)) tNil)))
    (tSeq (tAsg (tCall (sp_law_pick K) [] E0 (tCons (tVar 0) (tCons (tLst (tCons (tC (.int 1)) (tCons (tC (.int 2)) (tCons (tUn (rU fun i => .int (-i)) (tC (.int 1))) (tCons (tUn (rU fun i => .int (-i)) (tC (.int 6))) (tCons (tOp rPow (tC (.int 10)) (tC (.int 20))) tNil)))))) tNil))) (gName 3))
    (tSeq (tIfS (tOr (tTest (tOp (rNeA K) (tCall (sp_frac K) [] E0 (tCons (tOp (rTimes K) (tOp (rIx K) (tVar 1) (tC (.int 0))) (tVar 3)) (tCons (tOp (rTimes K) (tOp (rIx K) (tVar 1) (tC (.int 1))) (tVar 3)) tNil))) (tVar 1))) (tOr (tTest (tOp (rNeA K) (tCallM 0 2 (sp_frac K) (perm [1, 0]) E0 tNil (tCons (tOp (rTimes K) (tOp (rIx K) (tVar 1) (tC (.int 1))) (tVar 3)) (tCons (tOp (rTimes K) (tOp (rIx K) (tVar 1) (tC (.int 0))) (tVar 3)) tNil))) (tVar 1))) (tTest (tOp (rNeA K) (tCB (rRepr K) (tCons (tCall (sp_frac K) [] E0 (tCons (tC (.int 0)) (tCons (tVar 3) tNil))) tNil)) (tC (.str "(0, 1)")))))) (tRet (tC (.bl false))) tNext)
    (tSeq (tIfS (tOr (tTest (tOp (rNeA K) (tCB (rRepr K) (tCons (tLst (tCons (tCall (sp_plus K) [] E0 (tCons (tVar 1) (tCons (tVar 2) tNil))) (tCons (tCallM 0 2 (sp_plus K) (perm [1, 0]) E0 tNil (tCons (tVar 2) (tCons (tVar 1) tNil))) tNil))) tNil)) (tCB (rRepr K) (tCons (tOp (rTimes K) (tLst (tCons (tCall (sp_law_plus K) [] E0 (tCons (tVar 1) (tCons (tVar 2) tNil))) tNil)) (tC (.int 2))) tNil)))) (tOr (tTest (tOp (rNeA K) (tCall (sp_times K) [] E0 (tCons (tVar 1) (tCons (tVar 2) tNil))) (tCall (sp_law_times K) [] E0 (tCons (tVar 1) (tCons (tVar 2) tNil))))) (tTest (tOp (rNeA K) (tCall (sp_minus K) [] E0 (tCons (tVar 1) (tCons (tVar 2) tNil))) (tCall (sp_law_plus K) [] E0 (tCons (tVar 1) (tCons (tTup (tCons (tUn (rU fun i => .int (-i)) (tOp (rIx K) (tVar 2) (tC (.int 0)))) (tCons (tOp (rIx K) (tVar 2) (tC (.int 1))) tNil))) tNil))))))) (tRet (tC (.bl false))) tNext)
    (tSeq (tIfS (tOr (tTest (tOp (rNeA K) (tCallM 0 2 (sp_minus K) (perm [1, 0]) E0 tNil (tCons (tVar 1) (tCons (tVar 1) tNil))) (tTup (tCons (tC (.int 0)) (tCons (tC (.int 1)) tNil))))) (tOr (tTest (tOp (rNeA K) (tCallM 0 2 (sp_times K) (perm [1, 0]) E0 tNil (tCons (tVar 2) (tCons (tVar 1) tNil))) (tCall (sp_times K) [] E0 (tCons (tVar 2) (tCons (tVar 1) tNil))))) (tOr (tTest (tOp (rNeA K) (tCall (sp_compare K) [] E0 (tCons (tVar 1) (tCons (tVar 2) tNil))) (tCall (sp_law_than K) [] E0 (tCons (tVar 1) (tCons (tVar 2) tNil))))) (tTest (tOp (rNeA K) (tCallM 0 2 (sp_compare K) (perm [1, 0]) E0 tNil (tCons (tVar 1) (tCons (tVar 1) tNil))) (tC (.int 0))))))) (tRet (tC (.bl false))) tNext)
    (tSeq (tIfS (tAnd (tTest (tOp (rNeA K) (tOp (rIx K) (tVar 2) (tC (.int 0))) (tC (.int 0)))) (tOr (tTest (tOp (rNeA K) (tCall (sp_over K) [] E0 (tCons (tVar 1) (tCons (tVar 2) tNil))) (tCall (sp_law_times K) [] E0 (tCons (tVar 1) (tCons (tCall (sp_law_frac K) [] E0 (tCons (tOp (rIx K) (tVar 2) (tC (.int 1))) (tCons (tOp (rIx K) (tVar 2) (tC (.int 0))) tNil))) tNil))))) (tTest (tOp (rNeA K) (tCallM 0 2 (sp_over K) (perm [1, 0]) E0 tNil (tCons (tVar 2) (tCons (tVar 2) tNil))) (tTup (tCons (tC (.int 1)) (tCons (tC (.int 1)) tNil))))))) (tRet (tC (.bl false))) tNext)
    (tSeq (tAsg (tOp (rPlus K) (tLc (iRng1 (tCons (tCall (sp_law_draw K) [] E0 (tCons (tVar 0) (tCons (tC (.int 6)) tNil))) tNil)) (gName 8) tYes (tCall (sp_law_drawn K) [] E0 (tCons (tVar 0) tNil)) [8]) (tLst (tCons (tVar 1) (tCons (tVar 1) tNil)))) (gName 4))
    (tSeq (tIfS (tOr (tTest (tOp (rNeA K) (tCB (rListOf K) (tCons (tCall (sp_arranged K) [] E0 (tCons (tVar 4) tNil)) tNil)) (tCall (sp_law_order K) [] E0 (tCons (tVar 4) tNil)))) (tOr (tTest (tOp (rNeA K) (tCB (rListOf K) (tCons (tCallM 0 1 (sp_arranged K) (perm [0]) E0 tNil (tCons (tRevL K (tVar 4)) tNil)) tNil)) (tCall (sp_law_order K) [] E0 (tCons (tVar 4) tNil)))) (tTest (tOp (rNeA K) (tCB (rRepr K) (tCons (tCall (sp_arranged K) [] E0 (tCons (tOp (rPlus K) (tLc (iSeq K (tVar 4)) (gName 9) tYes (tCB (rListOf K) (tCons (tVar 9) tNil)) [9]) (tVar 4)) tNil)) tNil)) (tCB (rRepr K) (tCons (tCall (sp_law_order K) [] E0 (tCons (tVar 4) tNil)) tNil)))))) (tRet (tC (.bl false))) tNext)
    (tSeq (tPar 5 6 (tCons (tOp (rIx K) (tCall (sp_law_order K) [] E0 (tCons (tLst (tCons (tVar 1) (tCons (tVar 2) tNil))) tNil)) (tC (.int 0))) (tCons (tOp (rIx K) (tCall (sp_law_order K) [] E0 (tCons (tLst (tCons (tVar 1) (tCons (tVar 2) tNil))) tNil)) (tUn (rU fun i => .int (-i)) (tC (.int 1)))) tNil)))
    (tSeq (tIfS (tAnd (tTest (tOp (rNeA K) (tVar 5) (tVar 6))) (tOr (tTest (tOp (rNeA K) (tCall (sp_compare K) [] E0 (tCons (tVar 5) (tCons (tCall (sp_between K) [] E0 (tCons (tVar 5) (tCons (tVar 6) tNil))) tNil))) (tUn (rU fun i => .int (-i)) (tC (.int 1))))) (tTest (tOp (rNeA K) (tCall (sp_compare K) [] E0 (tCons (tCallM 0 2 (sp_between K) (perm [1, 0]) E0 tNil (tCons (tVar 6) (tCons (tVar 5) tNil))) (tCons (tVar 6) tNil))) (tUn (rU fun i => .int (-i)) (tC (.int 1))))))) (tRet (tC (.bl false))) tNext)
    (tSeq (tIfS (tOr (tTest (tOp (rNeA K) (tCall (sp_compare K) [] E0 (tCons (tVar 5) (tCons (tCall (sp_between K) [] E0 (tCons (tVar 5) (tCons (tC .non) tNil))) tNil))) (tUn (rU fun i => .int (-i)) (tC (.int 1))))) (tOr (tTest (tOp (rNeA K) (tCall (sp_compare K) [] E0 (tCons (tCall (sp_between K) [] E0 (tCons (tC .non) (tCons (tVar 6) tNil))) (tCons (tVar 6) tNil))) (tUn (rU fun i => .int (-i)) (tC (.int 1))))) (tTest (tOp rNotB (tCall (sp_is_frac K) [] E0 (tCons (tCall (sp_between K) [] E0 (tCons (tC .non) (tCons (tC .non) tNil))) tNil)) (tC (.bl true)))))) (tRet (tC (.bl false))) tNext)
    (tSeq (tAsg (tLst (tCons (tC .non) (tCons (tC (.int 5)) (tCons (tTup (tCons (tC (.int 1)) tNil)) (tCons (tTup (tCons (tC (.int 1)) (tCons (tC (.int 0)) tNil))) (tCons (tTup (tCons (tC (.int 2)) (tCons (tC (.int 4)) tNil))) (tCons (tTup (tCons (tC (.int 1)) (tCons (tUn (rU fun i => .int (-i)) (tC (.int 1))) tNil))) (tCons (tTup (tCons (tC (.bl true)) (tCons (tC (.int 1)) tNil))) (tCons (tTup (tCons (tC (.int 1)) (tCons (tC (.bl true)) tNil))) (tCons (tTup (tCons (tC (.str "1")) (tCons (tC (.int 1)) tNil))) (tCons (tTup (tCons (tC (.int 0)) (tCons (tC (.int 2)) tNil))) (tCons (tLst (tCons (tC (.int 1)) (tCons (tC (.int 2)) (tCons (tC (.int 3)) tNil)))) (tCons (tTup (tCons (tC (.int 1)) (tCons (tC .non) tNil))) (tCons (tC (.str "12")) (tCons tDNewK tNil))))))))))))))) (gName 7))
    (tRet (tAndV (tOp (rEqA K) (tLc (iSeq K (tVar 7)) (gName 10) (tTest (tOp rNotB (tCall (sp_is_frac K) [] E0 (tCons (tVar 10) tNil)) (tC (.bl false)))) (tVar 10) [10]) (tLst tNil)) (tAndV (tOp rIsB (tCallM 0 1 (sp_is_frac K) (perm [0]) E0 tNil (tCons (tCB (rListOf K) (tCons (tVar 1) tNil)) tNil)) (tC (.bl true))) (tOp rIsB (tCall (sp_is_frac K) [] E0 (tCons (tVar 1) tNil)) (tC (.bl true))))))))))))))))))
def t_law_rows_right (K : Fg) : TS :=
    (tSeq (tAsg (tTup (tCons (tOp (rPlus K) (tC (.int 1)) (tCall (sp_law_draw K) [] E0 (tCons (tVar 0) (tCons (tC (.int 4)) tNil)))) (tCons (tCall (sp_law_pick K) [] E0 (tCons (tVar 0) (tCons (tLst (tCons (tC (.int 2)) (tCons (tC (.int 4)) (tCons (tC (.int 30)) (tCons (tOp rPow (tC (.int 10)) (tC (.int 12))) tNil))))) tNil))) tNil))) (gTup K 2 (gCons (gName 1) (gCons (gName 2) gNil))))
    (tSeq (tAsg (tLc (iRng1 (tCons (tCall (sp_law_draw K) [] E0 (tCons (tVar 0) (tCons (tC (.int 5)) tNil))) tNil)) (gName 13) tYes (tLc (iRng1 (tCons (tVar 1) tNil)) (gName 14) tYes (tOp rMinus (tCall (sp_law_draw K) [] E0 (tCons (tVar 0) (tCons (tOp (rPlus K) (tOp (rTimes K) (tC (.int 2)) (tVar 2)) (tC (.int 1))) tNil))) (tVar 2)) [14]) [13]) (gName 3))
    (tSeq (tIfS (tAnd (tTest (tOp rGt (tCB (rLenA K) (tCons (tVar 3) tNil)) (tC (.int 1)))) (tTest (tOp (rEqA K) (tCall (sp_law_draw K) [] E0 (tCons (tVar 0) (tCons (tC (.int 2)) tNil))) (tC (.int 0))))) (tDrop (tBM K "list" rAppend (tVar 3) (tCons (tLc (iZipB K (tCons (tOp (rIx K) (tVar 3) (tC (.int 0))) (tCons (tOp (rIx K) (tVar 3) (tC (.int 1))) tNil))) (gTup K 2 (gCons (gName 15) (gCons (gName 7) gNil))) tYes (tOp rMinus (tOp (rTimes K) (tC (.int 2)) (tVar 15)) (tOp (rTimes K) (tC (.int 3)) (tVar 7))) [15, 7]) tNil))) tNext)
    (tSeq (tPar 4 5 (tCons (tCB (rRepr K) (tCons (tVar 3) tNil)) (tCons (tCall (sp_law_rank K) [] E0 (tCons (tVar 3) tNil)) tNil)))
    (tSeq (tAsg (tCall (sp_noughts K) [] E0 (tCons (tVar 3) (tCons (tVar 1) tNil))) (gName 6))
    (tSeq (tIfS (tOr (tTest (tOp (rNeA K) (tCall (sp_rank_of K) [] E0 (tCons (tVar 3) tNil)) (tVar 5))) (tOr (tTest (tOp (rNeA K) (tCallM 0 1 (sp_rank_of K) (perm [0]) E0 tNil (tCons (tVar 3) tNil)) (tVar 5))) (tOr (tTest (tOp (rNeA K) (tCallM 0 2 (sp_noughts K) (perm [1, 0]) E0 tNil (tCons (tVar 1) (tCons (tVar 3) tNil))) (tVar 6))) (tOr (tTest (tOp (rNeA K) (tCB (rLenA K) (tCons (tVar 6) tNil)) (tOp rMinus (tVar 1) (tVar 5)))) (tTest (tOp (rNeA K) (tCB (rRepr K) (tCons (tVar 3) tNil)) (tVar 4))))))) (tRet (tC (.bl false))) tNext)
    (tSeq (tFor (iSeq K (tVar 3)) (gName 7) (tIfS (tTest (tOp (rNeA K) (tLc (iSeq K (tVar 6)) (gName 12) (tOr (tTest (tOp (rNeA K) (tCB (rLenA K) (tCons (tVar 12) tNil)) (tVar 1))) (tTest (tOp (rNeA K) (tCall (sp_law_dot K) [] E0 (tCons (tVar 12) (tCons (tVar 7) tNil))) (tC (.int 0))))) (tVar 12) [12]) (tLst tNil))) (tRet (tC (.bl false))) tNext))
    (tSeq (tIfS (tAnd (tTest (tOp (rNeA K) (tVar 6) (tLst tNil))) (tTest (tOp (rNeA K) (tCall (sp_law_rank K) [] E0 (tCons (tLc (iSeq K (tVar 6)) (gName 12) tYes (tCB (rListOf K) (tCons (tVar 12) tNil)) [12]) tNil)) (tCB (rLenA K) (tCons (tVar 6) tNil))))) (tRet (tC (.bl false))) tNext)
    (tSeq (tAsg (tTup (tCons (tLc (iRng1 (tCons (tVar 1) tNil)) (gName 14) tYes (tOp rMinus (tCall (sp_law_draw K) [] E0 (tCons (tVar 0) (tCons (tOp (rPlus K) (tOp (rTimes K) (tC (.int 2)) (tVar 2)) (tC (.int 1))) tNil))) (tVar 2)) [14]) (tCons (tC (.int 0)) tNil))) (gTup K 2 (gCons (gName 8) (gCons (gName 9) gNil))))
    (tSeq (tFor (iSeq K (tVar 8)) (gName 10) (tAsg (tCall (sp_law_gcd K) [] E0 (tCons (tVar 9) (tCons (tVar 10) tNil))) (gName 9)))
    (tSeq (tAsg (tIf (tTest (tOp (rNeA K) (tVar 9) (tC (.int 0)))) (tLc (iSeq K (tVar 8)) (gName 10) tYes (tOp rFdiv (tVar 10) (tVar 9)) [10]) (tVar 8)) (gName 11))
    (tSeq (tIfS (tOr (tTest (tOp (rNeA K) (tCall (sp_gcd_of K) [] E0 (tCons (tVar 8) tNil)) (tVar 9))) (tOr (tTest (tOp (rNeA K) (tCallM 0 1 (sp_gcd_of K) (perm [0]) E0 tNil (tCons (tLst tNil) tNil)) (tC (.int 0)))) (tOr (tTest (tOp (rNeA K) (tCB (rListOf K) (tCons (tCall (sp_shrunk K) [] E0 (tCons (tVar 8) tNil)) tNil)) (tVar 11))) (tOr (tTest (tOp (rNeA K) (tCB (rListOf K) (tCons (tCallM 0 1 (sp_shrunk K) (perm [0]) E0 tNil (tCons (tLst (tCons (tC (.int 0)) (tCons (tC (.int 0)) tNil))) tNil)) tNil)) (tLst (tCons (tC (.int 0)) (tCons (tC (.int 0)) tNil))))) (tTest (tOp (rNeA K) (tLc (iSeq K (tVar 8)) (gName 10) tYes (tCall (sp_sign K) [] E0 (tCons (tVar 10) tNil)) [10]) (tLc (iSeq K (tVar 8)) (gName 10) tYes (tCall (sp_law_sign K) [] E0 (tCons (tVar 10) tNil)) [10]))))))) (tRet (tC (.bl false))) tNext)
    (tSeq (tFor (iSeq K (tVar 3)) (gName 12) (tSeq (tAsg (tOp rMinus (tCall (sp_law_draw K) [] E0 (tCons (tVar 0) (tCons (tC (.int 9)) tNil))) (tC (.int 4))) (gName 9))
    (tSeq (tIfS (tOr (tTest (tOp (rNeA K) (tCall (sp_product K) [] E0 (tCons (tVar 12) (tCons (tVar 8) tNil))) (tCall (sp_law_dot K) [] E0 (tCons (tVar 12) (tCons (tVar 8) tNil))))) (tOr (tTest (tOp (rNeA K) (tCallM 0 2 (sp_product K) (perm [1, 0]) E0 tNil (tCons (tVar 12) (tCons (tVar 8) tNil))) (tCall (sp_law_dot K) [] E0 (tCons (tVar 12) (tCons (tVar 8) tNil))))) (tTest (tOp (rNeA K) (tCB (rTupOf K) (tCons (tCall (sp_added K) [] E0 (tCons (tVar 12) (tCons (tVar 8) (tCons (tVar 9) tNil)))) tNil)) (tCB (rTupOf K) (tCons (tLc (iZipB K (tCons (tVar 12) (tCons (tVar 8) tNil))) (gTup K 2 (gCons (gName 16) (gCons (gName 17) gNil))) tYes (tOp (rPlus K) (tVar 16) (tOp (rTimes K) (tVar 9) (tVar 17))) [16, 17]) tNil)))))) (tRet (tC (.bl false))) tNext)
    (tIfS (tTest (tOp (rNeA K) (tCallM 0 3 (sp_added K) (perm [2, 1, 0]) E0 tNil (tCons (tC (.int 1)) (tCons (tVar 12) (tCons (tVar 8) tNil)))) (tCB (rTupOf K) (tCons (tLc (iZipB K (tCons (tVar 12) (tCons (tVar 8) tNil))) (gTup K 2 (gCons (gName 16) (gCons (gName 17) gNil))) tYes (tOp (rPlus K) (tVar 16) (tVar 17)) [16, 17]) tNil)))) (tRet (tC (.bl false))) tNext))))
    (tRet (tC (.bl true))))))))))))))))
def t_law (K : Fg) : TS :=
    (tSeq (tAsg (tCall (sp_law_pen K) [] E0 (tCons (tVar 0) tNil)) (gName 1))
    (tSeq (tFor (iRng1 (tCons (tC (.int 8)) tNil)) (gName 2) (tIfS (tOr (tNot (tTru K (tCall (sp_law_fractions_right K) [] E0 (tCons (tVar 1) tNil)))) (tNot (tTru K (tCall (sp_law_rows_right K) [] E0 (tCons (tVar 1) tNil))))) (tRet (tC (.bl false))) tNext))
    (tRet (tAndV (tOp (rEqA K) (tCall (sp_frac K) [] E0 (tCons (tUn (rU fun i => .int (-i)) (tC (.int 4))) (tCons (tUn (rU fun i => .int (-i)) (tC (.int 6))) tNil))) (tTup (tCons (tC (.int 2)) (tCons (tC (.int 3)) tNil)))) (tAndV (tOp (rEqA K) (tCall (sp_arranged K) [] E0 (tCons (tLst tNil) tNil)) (tLst tNil)) (tAndV (tOp (rEqA K) (tCallM 0 1 (sp_sign K) (perm [0]) E0 tNil (tCons (tUn (rU fun i => .int (-i)) (tC (.int 7))) tNil)) (tUn (rU fun i => .int (-i)) (tC (.int 1)))) (tAndV (tOp (rEqA K) (tCB (rLenA K) (tCons (tCall (sp_noughts K) [] E0 (tCons (tLst tNil) (tCons (tC (.int 2)) tNil))) tNil)) (tC (.int 2))) (tOp (rEqA K) (tCall (sp_rank_of K) [] E0 (tCons (tLst tNil) tNil)) (tC (.int 0))))))))))
theorem d_frac {P : Program} {w : World} {K : Fg} {mg : Str → Option Value} {base : Heap} (T : Txt K mg)  {f : Addr} {cdv : Value} {A : Around} {outer : List Env} {s : Shared} {H : Hp} {E : XK} (hr : Room 0 (A.deeper (envOfC "frac" (defScope s_frac) s.heap.objs.size f cdv))) (hG : A.guards = some []) :
    PSs (cxOf CX0 P w K mg base N_frac "frac" (defScope s_frac) f cdv A outer s H E).nox (defBody s_frac) (t_frac K) := by
  have nd : N_frac.Nodup := sc_frac.nd
  exact (pss_cons (ps_set (i := 2) nd rfl (Or.inl rfl) (pe_ifExp (pt_cmpR op_gtA (pv 1) pe_int (nomark _)) (pe_callBfun cr_gcd (by rfl) T.m_gcd (pa_cons (pv 0) (pa_cons (pv 1) pa_nil))) (pe_un un_neg (pe_callBfun cr_gcd (by rfl) T.m_gcd (pa_cons (pv 0) (pa_cons (pv 1) pa_nil))))))
      (pss_one (ps_ret (pe_tup (pa_cons (pe_op op_fdivA (pv 0) (pv 2)) (pa_cons (pe_op op_fdivA (pv 1) (pv 2)) pa_nil))))))
theorem d_is_frac {P : Program} {w : World} {K : Fg} {mg : Str → Option Value} {base : Heap} (T : Txt K mg)  {f : Addr} {cdv : Value} {A : Around} {outer : List Env} {s : Shared} {H : Hp} {E : XK} (hr : Room 0 (A.deeper (envOfC "is_frac" (defScope s_is_frac) s.heap.objs.size f cdv))) (hG : A.guards = some []) :
    PSs (cxOf CX0 P w K mg base N_is_frac "is_frac" (defScope s_is_frac) f cdv A outer s H E).nox (defBody s_is_frac) (t_is_frac K) := by
  have nd : N_is_frac.Nodup := sc_is_frac.nd
  exact (pss_cons (ps_if (PW.pt (pw_or (pt_not (pt_tru (pe_callB cr_isA (by rfl) T.n_isinstance (by decide +kernel) (pa_cons (pv 0) (pa_cons (pe_tup (pa_cons (pe_bltn (v := .ty "list") (by rfl) T.n_list (by decide +kernel) rfl) (pa_cons (pe_bltn (v := .ty "tuple") (by rfl) T.n_tuple (by decide +kernel) rfl) pa_nil))) pa_nil))))) (pw_or1 (pt_cmpR (op_neA hr.units) (pe_callB cr_len (by rfl) T.n_len (by decide +kernel) (pa_cons (pv 0) pa_nil)) pe_int (nomark _))))) (pss_one (ps_ret pe_bl)) pss_nil)
      (pss_cons (ps_if (pt_not (pt_tru (pe_allA T.n_all (pa_cons (pe_lc (own := [("part", 1)]) rfl nd (pi_seq (pv 0)) (blkOk_by (own := [("part", 1)]) (N := N_is_frac) (sc := defScope s_is_frac) (by decide +kernel)) (fun _ _ _ _ _ => (pg_name (i := 1) nd rfl (Or.inl rfl))) (fun _ _ _ _ _ => pts_nil) (fun _ _ _ _ _ => (pe_and (pe_callB cr_isA (by rfl) T.n_isinstance (by decide +kernel) (pa_cons (pv 1) (pa_cons (pe_bltn (v := .ty "int") (by rfl) T.n_int (by decide +kernel) rfl) pa_nil))) (pe_one (pe_not (pe_callB cr_isA (by rfl) T.n_isinstance (by decide +kernel) (pa_cons (pv 1) (pa_cons (pe_bltn (v := .ty "bool") (by rfl) T.n_bool (by decide +kernel) rfl) pa_nil)))))))) pa_nil)))) (pss_one (ps_ret pe_bl)) pss_nil)
      (pss_one (ps_ret (pe_and (pe_cmpR op_gtA (pe_ix ix_seq (pv 0) pe_int (fun _ _ => rfl)) pe_int (nomark _)) (pe_one (pe_cmpR (op_eqA hr.units) (pe_callBfun cr_gcd (by rfl) T.m_gcd (pa_cons (pe_ix ix_seq (pv 0) pe_int (fun _ _ => rfl)) (pa_cons (pe_ix ix_seq (pv 0) pe_int (fun _ _ => rfl)) pa_nil))) pe_int (nomark _))))))))
theorem d_compare {P : Program} {w : World} {K : Fg} {mg : Str → Option Value} {base : Heap} (T : Txt K mg)  {f : Addr} {cdv : Value} {A : Around} {outer : List Env} {s : Shared} {H : Hp} {E : XK} (hr : Room 0 (A.deeper (envOfC "compare" (defScope s_compare) s.heap.objs.size f cdv))) (hG : A.guards = some []) :
    PSs (cxOf CX0 P w K mg base N_compare "compare" (defScope s_compare) f cdv A outer s H E).nox (defBody s_compare) (t_compare K) := by
  have nd : N_compare.Nodup := sc_compare.nd
  exact (pss_cons (ps_par (i := 2) (j := 3) rfl nd rfl rfl (by decide) rfl rfl (pa_cons (pe_op op_times (pe_ix ix_seq (pv 0) pe_int (fun _ _ => rfl)) (pe_ix ix_seq (pv 1) pe_int (fun _ _ => rfl))) (pa_cons (pe_op op_times (pe_ix ix_seq (pv 1) pe_int (fun _ _ => rfl)) (pe_ix ix_seq (pv 0) pe_int (fun _ _ => rfl))) pa_nil)) (by rfl))
      (pss_one (ps_ret (pe_op op_minus (pe_callTy cr_int1 (by rfl) T.n_int (by decide +kernel) (pa_cons (pe_cmpR op_gtA (pv 2) (pv 3) (nomark _)) pa_nil)) (pe_callTy cr_int1 (by rfl) T.n_int (by decide +kernel) (pa_cons (pe_cmpR op_ltA (pv 2) (pv 3) (nomark _)) pa_nil))))))
theorem d_gcd_of {P : Program} {w : World} {K : Fg} {mg : Str → Option Value} {base : Heap} (T : Txt K mg)  {f : Addr} {cdv : Value} {A : Around} {outer : List Env} {s : Shared} {H : Hp} {E : XK} (hr : Room 0 (A.deeper (envOfC "gcd_of" (defScope s_gcd_of) s.heap.objs.size f cdv))) (hG : A.guards = some []) :
    PSs (cxOf CX0 P w K mg base N_gcd_of "gcd_of" (defScope s_gcd_of) f cdv A outer s H E).nox (defBody s_gcd_of) (t_gcd_of K) := by
  have nd : N_gcd_of.Nodup := sc_gcd_of.nd
  exact (pss_cons (ps_set (i := 1) nd rfl (Or.inl rfl) pe_int)
      (pss_cons (ps_for PassesOwn.never rfl (pi_seq (pv 0)) (pg_name (i := 2) nd rfl (Or.inl rfl)) (pss_one (ps_set (i := 1) nd rfl (Or.inl rfl) (pe_callBfun cr_gcd (by rfl) T.m_gcd (pa_cons (pv 1) (pa_cons (pv 2) pa_nil))))))
      (pss_one (ps_ret (pv 1)))))
theorem d_sign {P : Program} {w : World} {K : Fg} {mg : Str → Option Value} {base : Heap} (T : Txt K mg)  {f : Addr} {cdv : Value} {A : Around} {outer : List Env} {s : Shared} {H : Hp} {E : XK} (hr : Room 0 (A.deeper (envOfC "sign" (defScope s_sign) s.heap.objs.size f cdv))) (hG : A.guards = some []) :
    PSs (cxOf CX0 P w K mg base N_sign "sign" (defScope s_sign) f cdv A outer s H E).nox (defBody s_sign) (t_sign K) := by
  have nd : N_sign.Nodup := sc_sign.nd
  exact (pss_one (ps_ret (pe_op op_minus (pe_callTy cr_int1 (by rfl) T.n_int (by decide +kernel) (pa_cons (pe_cmpR op_gtA (pv 0) pe_int (nomark _)) pa_nil)) (pe_callTy cr_int1 (by rfl) T.n_int (by decide +kernel) (pa_cons (pe_cmpR op_ltA (pv 0) pe_int (nomark _)) pa_nil)))))
theorem d_product {P : Program} {w : World} {K : Fg} {mg : Str → Option Value} {base : Heap} (T : Txt K mg)  {f : Addr} {cdv : Value} {A : Around} {outer : List Env} {s : Shared} {H : Hp} {E : XK} (hr : Room 0 (A.deeper (envOfC "product" (defScope s_product) s.heap.objs.size f cdv))) (hG : A.guards = some []) :
    PSs (cxOf CX0 P w K mg base N_product "product" (defScope s_product) f cdv A outer s H E).nox (defBody s_product) (t_product K) := by
  have nd : N_product.Nodup := sc_product.nd
  exact (pss_one (ps_ret (pe_sumA T.n_sum (pa_cons (pe_lc (own := [("part", 2), ("its", 3)]) rfl nd (pi_zipB rfl T.n_zip (pa_cons (pv 0) (pa_cons (pv 1) pa_nil))) (blkOk_by (own := [("part", 2), ("its", 3)]) (N := N_product) (sc := defScope s_product) (by decide +kernel)) (fun _ _ _ _ _ => (pg_tup rfl (pgs_cons (pg_name (i := 2) nd rfl (Or.inl rfl)) (pgs_cons (pg_name (i := 3) nd rfl (Or.inl rfl)) pgs_nil)))) (fun _ _ _ _ _ => pts_nil) (fun _ _ _ _ _ => (pe_op op_times (pv 2) (pv 3)))) pa_nil))))
theorem d_added {P : Program} {w : World} {K : Fg} {mg : Str → Option Value} {base : Heap} (T : Txt K mg)  {f : Addr} {cdv : Value} {A : Around} {outer : List Env} {s : Shared} {H : Hp} {E : XK} (hr : Room 0 (A.deeper (envOfC "added" (defScope s_added) s.heap.objs.size f cdv))) (hG : A.guards = some []) :
    PSs (cxOf CX0 P w K mg base N_added "added" (defScope s_added) f cdv A outer s H E).nox (defBody s_added) (t_added K) := by
  have nd : N_added.Nodup := sc_added.nd
  exact (pss_one (ps_ret (pe_callTy cr_tupOf (by rfl) T.n_tuple (by decide +kernel) (pa_cons (pe_lc (own := [("part", 3), ("its", 4)]) rfl nd (pi_zipB rfl T.n_zip (pa_cons (pv 0) (pa_cons (pv 1) pa_nil))) (blkOk_by (own := [("part", 3), ("its", 4)]) (N := N_added) (sc := defScope s_added) (by decide +kernel)) (fun _ _ _ _ _ => (pg_tup rfl (pgs_cons (pg_name (i := 3) nd rfl (Or.inl rfl)) (pgs_cons (pg_name (i := 4) nd rfl (Or.inl rfl)) pgs_nil)))) (fun _ _ _ _ _ => pts_nil) (fun _ _ _ _ _ => (pe_op op_plus (pv 3) (pe_op op_times (pv 2) (pv 4))))) pa_nil))))
theorem d_cleared {P : Program} {w : World} {K : Fg} {mg : Str → Option Value} {base : Heap} (T : Txt K mg)  {f : Addr} {cdv : Value} {A : Around} {outer : List Env} {s : Shared} {H : Hp} {E : XK} (hr : Room 0 (A.deeper (envOfC "cleared" (defScope s_cleared) s.heap.objs.size f cdv))) (hG : A.guards = some []) :
    PSs (cxOf CX0 P w K mg base N_cleared "cleared" (defScope s_cleared) f cdv A outer s H E).nox (defBody s_cleared) (t_cleared K) := by
  have nd : N_cleared.Nodup := sc_cleared.nd
  exact (pss_one (ps_ret (pe_lc (own := [("part", 4), ("its", 5)]) rfl nd (pi_zipB rfl T.n_zip (pa_cons (pv 0) (pa_cons (pv 1) pa_nil))) (blkOk_by (own := [("part", 4), ("its", 5)]) (N := N_cleared) (sc := defScope s_cleared) (by decide +kernel)) (fun _ _ _ _ _ => (pg_tup rfl (pgs_cons (pg_name (i := 4) nd rfl (Or.inl rfl)) (pgs_cons (pg_name (i := 5) nd rfl (Or.inl rfl)) pgs_nil)))) (fun _ _ _ _ _ => pts_nil) (fun _ _ _ _ _ => (pe_op op_fdivA (pe_op op_minus (pe_op op_times (pv 4) (pe_ix ix_seq (pv 1) (pv 2) (fun _ _ => rfl))) (pe_op op_times (pe_ix ix_seq (pv 0) (pv 2) (fun _ _ => rfl)) (pv 5))) (pv 3))))))
theorem d_law_pen {P : Program} {w : World} {K : Fg} {mg : Str → Option Value} {base : Heap} (T : Txt K mg)  {f : Addr} {cdv : Value} {A : Around} {outer : List Env} {s : Shared} {H : Hp} {E : XK} (hr : Room 0 (A.deeper (envOfC "_law_pen" (defScope s_law_pen) s.heap.objs.size f cdv))) (hG : A.guards = some []) :
    PSs (cxOf CX0 P w K mg base N_law_pen "_law_pen" (defScope s_law_pen) f cdv A outer s H E).nox (defBody s_law_pen) (t_law_pen K) := by
  have nd : N_law_pen.Nodup := sc_law_pen.nd
  exact (pss_one (ps_ret (pe_lst (pa_cons (pe_lc (own := [("cell", 1)]) rfl nd (pi_seq (pe_slice sl_cut (pv 0) po_none (po_some pe_int))) (blkOk_by (own := [("cell", 1)]) (N := N_law_pen) (sc := defScope s_law_pen) (by decide +kernel)) (fun _ _ _ _ _ => (pg_name (i := 1) nd rfl (Or.inl rfl))) (fun _ _ _ _ _ => pts_nil) (fun _ _ _ _ _ => (pe_callTy cr_int1 (by rfl) T.n_int (by decide +kernel) (pa_cons (pv 1) pa_nil)))) (pa_cons pe_int (pa_cons pe_int pa_nil))))))
theorem d_law_draw {P : Program} {w : World} {K : Fg} {mg : Str → Option Value} {base : Heap} (T : Txt K mg)  {f : Addr} {cdv : Value} {A : Around} {outer : List Env} {s : Shared} {H : Hp} {E : XK} (hr : Room 0 (A.deeper (envOfC "_law_draw" (defScope s_law_draw) s.heap.objs.size f cdv))) (hG : A.guards = some []) :
    PSs (cxOf CX0 P w K mg base N_law_draw "_law_draw" (defScope s_law_draw) f cdv A outer s H E).nox (defBody s_law_draw) (t_law_draw K) := by
  have nd : N_law_draw.Nodup := sc_law_draw.nd
  exact (pss_cons (ps_if (pt_cmpR op_gtA (pe_ix ix_seq (pv 0) pe_int (fun _ _ => rfl)) pe_int (nomark _)) (pss_cons (ps_set (i := 2) nd rfl (Or.inl rfl) (pe_op op_fmodA (pe_callTy cr_int1 (by rfl) T.n_int (by decide +kernel) (pa_cons (pe_ix ix_seq (pv 0) pe_int (fun _ _ => rfl)) pa_nil)) (pv 1)))
      (pss_cons (ps_asg (pe_op op_fdivA (pe_callTy cr_int1 (by rfl) T.n_int (by decide +kernel) (pa_cons (pe_ix ix_seq (pv 0) pe_int (fun _ _ => rfl)) pa_nil)) (pv 1)) (pg_sub (pv 0) pe_int set_list))
      (pss_one (ps_ret (pv 2))))) pss_nil)
      (pss_cons (ps_set (i := 3) nd rfl (Or.inl rfl) (pe_ix ix_seq (pv 0) pe_int (fun _ _ => rfl)))
      (pss_cons (ps_asg (pe_op op_plus (pv 3) pe_int) (pg_sub (pv 0) pe_int set_list))
      (pss_cons (ps_set (i := 4) nd rfl (Or.inl rfl) (pe_op op_plus (pe_op op_times pe_int (pv 3)) pe_int))
      (pss_cons (ps_if (pt_cmpR (op_neA hr.units) (pe_ix ix_seq (pv 0) pe_int (fun _ _ => rfl)) (pe_lst pa_nil) (nomark _)) (pss_one (ps_set (i := 4) nd rfl (Or.inl rfl) (pe_ix ix_seq (pe_ix ix_seq (pv 0) pe_int (fun _ _ => rfl)) (pe_op op_fmodA (pe_callTy cr_int1 (by rfl) T.n_int (by decide +kernel) (pa_cons (pv 3) pa_nil)) (pe_callB cr_len (by rfl) T.n_len (by decide +kernel) (pa_cons (pe_ix ix_seq (pv 0) pe_int (fun _ _ => rfl)) pa_nil))) (fun _ _ => rfl)))) pss_nil)
      (pss_cons (ps_if (PW.pt (pw_and (pt_cmpR op_ltA (pv 3) (pe_callB cr_len (by rfl) T.n_len (by decide +kernel) (pa_cons (pe_ix ix_seq (pv 0) pe_int (fun _ _ => rfl)) pa_nil)) (nomark _)) (pw_and1 (pt_cmpR op_geA (pe_callB cr_abs (by rfl) T.n_abs (by decide +kernel) (pa_cons (pv 4) pa_nil)) (pe_op op_powA pe_int pe_int) (nomark _))))) (pss_cons (ps_set (i := 5) nd rfl (Or.inl rfl) (pe_op op_plus (pe_op op_times pe_int (pe_op op_minus (pe_callB cr_abs (by rfl) T.n_abs (by decide +kernel) (pa_cons (pv 4) pa_nil)) (pe_op op_powA pe_int pe_int))) (pe_callTy cr_int1 (by rfl) T.n_int (by decide +kernel) (pa_cons (pe_cmpR op_ltA (pv 4) pe_int (nomark _)) pa_nil))))
      (pss_cons (ps_asg (pe_op op_fdivA (pe_callTy cr_int1 (by rfl) T.n_int (by decide +kernel) (pa_cons (pv 5) pa_nil)) (pv 1)) (pg_sub (pv 0) pe_int set_list))
      (pss_one (ps_ret (pe_op op_fmodA (pe_callTy cr_int1 (by rfl) T.n_int (by decide +kernel) (pa_cons (pv 5) pa_nil)) (pv 1)))))) pss_nil)
      (pss_cons (ps_set (i := 6) nd rfl (Or.inl rfl) (pe_op op_fmodA (pe_callTy cr_int1 (by rfl) T.n_int (by decide +kernel) (pa_cons (pe_op op_powA (pe_op op_plus (pe_op op_plus (pe_op op_fmodA (pe_callTy cr_int1 (by rfl) T.n_int (by decide +kernel) (pa_cons (pv 4) pa_nil)) pe_int) (pe_op op_times pe_int (pv 3))) pe_int) pe_int) pa_nil)) pe_int))
      (pss_cons (ps_set (i := 6) nd rfl (Or.inl rfl) (pe_op op_fmodA (pe_callTy cr_int1 (by rfl) T.n_int (by decide +kernel) (pa_cons (pe_op op_powA (pe_op op_plus (pe_op op_plus (pe_op op_times (pv 6) (pe_op op_plus (pe_op op_times pe_int (pv 3)) pe_int)) (pe_op op_times (pe_op op_times pe_int (pv 3)) (pv 3))) pe_int) pe_int) pa_nil)) pe_int))
      (pss_one (ps_ret (pe_op op_fmodA (pe_callTy cr_int1 (by rfl) T.n_int (by decide +kernel) (pa_cons (pe_op op_fdivA (pv 6) pe_int) pa_nil)) (pv 1))))))))))))
theorem d_law_gcd {P : Program} {w : World} {K : Fg} {mg : Str → Option Value} {base : Heap} (T : Txt K mg)  {f : Addr} {cdv : Value} {A : Around} {outer : List Env} {s : Shared} {H : Hp} {E : XK} (hr : Room 0 (A.deeper (envOfC "_law_gcd" (defScope s_law_gcd) s.heap.objs.size f cdv))) (hG : A.guards = some []) :
    PSs (cxOf CX0 P w K mg base N_law_gcd "_law_gcd" (defScope s_law_gcd) f cdv A outer s H E).nox (defBody s_law_gcd) (t_law_gcd K) := by
  have nd : N_law_gcd.Nodup := sc_law_gcd.nd
  exact (pss_cons (ps_par (i := 0) (j := 1) rfl nd rfl rfl (by decide) rfl rfl (pa_cons (pe_callB cr_abs (by rfl) T.n_abs (by decide +kernel) (pa_cons (pv 0) pa_nil)) (pa_cons (pe_callB cr_abs (by rfl) T.n_abs (by decide +kernel) (pa_cons (pv 1) pa_nil)) pa_nil)) (by rfl))
      (pss_cons (ps_while PassesOwn.never (pt_cmpR (op_neA hr.units) (pv 1) pe_int (nomark _)) (pss_one (ps_par (i := 0) (j := 1) rfl nd rfl rfl (by decide) rfl rfl (pa_cons (pv 1) (pa_cons (pe_op op_fmodA (pe_callTy cr_int1 (by rfl) T.n_int (by decide +kernel) (pa_cons (pv 0) pa_nil)) (pv 1)) pa_nil)) (by rfl))))
      (pss_one (ps_ret (pv 0)))))
theorem d_law_sign {P : Program} {w : World} {K : Fg} {mg : Str → Option Value} {base : Heap} (T : Txt K mg)  {f : Addr} {cdv : Value} {A : Around} {outer : List Env} {s : Shared} {H : Hp} {E : XK} (hr : Room 0 (A.deeper (envOfC "_law_sign" (defScope s_law_sign) s.heap.objs.size f cdv))) (hG : A.guards = some []) :
    PSs (cxOf CX0 P w K mg base N_law_sign "_law_sign" (defScope s_law_sign) f cdv A outer s H E).nox (defBody s_law_sign) (t_law_sign K) := by
  have nd : N_law_sign.Nodup := sc_law_sign.nd
  exact (pss_one (ps_ret (pe_op op_minus (pe_callTy cr_int1 (by rfl) T.n_int (by decide +kernel) (pa_cons (pe_cmpR op_gtA (pv 0) pe_int (nomark _)) pa_nil)) (pe_callTy cr_int1 (by rfl) T.n_int (by decide +kernel) (pa_cons (pe_cmpR op_ltA (pv 0) pe_int (nomark _)) pa_nil)))))
theorem d_law_dot {P : Program} {w : World} {K : Fg} {mg : Str → Option Value} {base : Heap} (T : Txt K mg)  {f : Addr} {cdv : Value} {A : Around} {outer : List Env} {s : Shared} {H : Hp} {E : XK} (hr : Room 0 (A.deeper (envOfC "_law_dot" (defScope s_law_dot) s.heap.objs.size f cdv))) (hG : A.guards = some []) :
    PSs (cxOf CX0 P w K mg base N_law_dot "_law_dot" (defScope s_law_dot) f cdv A outer s H E).nox (defBody s_law_dot) (t_law_dot K) := by
  have nd : N_law_dot.Nodup := sc_law_dot.nd
  exact (pss_one (ps_ret (pe_sumA T.n_sum (pa_cons (pe_lc (own := [("part", 2), ("its", 3)]) rfl nd (pi_zipB rfl T.n_zip (pa_cons (pv 0) (pa_cons (pv 1) pa_nil))) (blkOk_by (own := [("part", 2), ("its", 3)]) (N := N_law_dot) (sc := defScope s_law_dot) (by decide +kernel)) (fun _ _ _ _ _ => (pg_tup rfl (pgs_cons (pg_name (i := 2) nd rfl (Or.inl rfl)) (pgs_cons (pg_name (i := 3) nd rfl (Or.inl rfl)) pgs_nil)))) (fun _ _ _ _ _ => pts_nil) (fun _ _ _ _ _ => (pe_op op_times (pv 2) (pv 3)))) pa_nil))))
theorem d_law_rank {P : Program} {w : World} {K : Fg} {mg : Str → Option Value} {base : Heap} (T : Txt K mg)  {f : Addr} {cdv : Value} {A : Around} {outer : List Env} {s : Shared} {H : Hp} {E : XK} (hr : Room 0 (A.deeper (envOfC "_law_rank" (defScope s_law_rank) s.heap.objs.size f cdv))) (hG : A.guards = some []) :
    PSs (cxOf CX0 P w K mg base N_law_rank "_law_rank" (defScope s_law_rank) f cdv A outer s H E).nox (defBody s_law_rank) (t_law_rank K) := by
  have nd : N_law_rank.Nodup := sc_law_rank.nd
  exact (pss_cons (ps_asg (pe_tup (pa_cons (pe_lc (own := [("row", 6)]) rfl nd (pi_seq (pv 0)) (blkOk_by (own := [("row", 6)]) (N := N_law_rank) (sc := defScope s_law_rank) (by decide +kernel)) (fun _ _ _ _ _ => (pg_name (i := 6) nd rfl (Or.inl rfl))) (fun _ _ _ _ _ => pts_nil) (fun _ _ _ _ _ => (pe_callTy cr_listOf (by rfl) T.n_list (by decide +kernel) (pa_cons (pv 6) pa_nil)))) (pa_cons pe_int pa_nil))) (pg_tup rfl (pgs_cons (pg_name (i := 1) nd rfl (Or.inr rfl)) (pgs_cons (pg_name (i := 2) nd rfl (Or.inr rfl)) pgs_nil))))
      (pss_cons (ps_for PassesOwn.never rfl (pi_range1 rfl T.n_range (pa_cons (pe_ifExp (pt_cmpR (op_neA hr.units) (pv 0) (pe_lst pa_nil) (nomark _)) (pe_callB cr_len (by rfl) T.n_len (by decide +kernel) (pa_cons (pe_ix ix_seq (pv 0) pe_int (fun _ _ => rfl)) pa_nil)) pe_int) pa_nil)) (pg_name (i := 3) nd rfl (Or.inr rfl)) (pss_cons (ps_setLc (i := 4) (own := [("spot", 5)]) rfl nd rfl rfl (sw_true rfl rfl rfl (by decide +kernel)) (pi_range2 rfl T.n_range (pa_cons (pv 2) (pa_cons (pe_callB cr_len (by rfl) T.n_len (by decide +kernel) (pa_cons (pv 1) pa_nil)) pa_nil))) (blkOk_by (own := [("spot", 5)]) (N := N_law_rank) (sc := defScope s_law_rank) (by decide +kernel)) (fun _ _ _ _ _ => (pg_name (i := 5) nd rfl (Or.inl rfl))) (fun _ _ _ _ _ => (pts_one (pt_cmpR (op_neA hr.units) (pe_ix ix_seq (pe_ix ix_seq (pv 1) (pv 5) (fun _ _ => rfl)) (pv 3) (fun _ _ => rfl)) pe_int (nomark _)))) (fun _ _ _ _ _ => (pv 5)))
      (pss_one (ps_if (pt_cmpR (op_neA hr.units) (pv 4) (pe_lst pa_nil) (nomark _)) (pss_cons (ps_asg (pe_tup (pa_cons (pe_ix ix_seq (pv 1) (pe_ix ix_seq (pv 4) pe_int (fun _ _ => rfl)) (fun _ _ => rfl)) (pa_cons (pe_ix ix_seq (pv 1) (pv 2) (fun _ _ => rfl)) pa_nil))) (pg_tup rfl (pgs_cons (pg_sub (pv 1) (pv 2) set_list) (pgs_cons (pg_sub (pv 1) (pe_ix ix_seq (pv 4) pe_int (fun _ _ => rfl)) set_list) pgs_nil))))
      (pss_cons (ps_for PassesOwn.never rfl (pi_range2 rfl T.n_range (pa_cons (pe_op op_plus (pv 2) pe_int) (pa_cons (pe_callB cr_len (by rfl) T.n_len (by decide +kernel) (pa_cons (pv 1) pa_nil)) pa_nil))) (pg_name (i := 5) nd rfl (Or.inr rfl)) (pss_one (ps_asg (pe_lc (own := [("part", 7), ("its", 8)]) rfl nd (pi_zipB rfl T.n_zip (pa_cons (pe_ix ix_seq (pv 1) (pv 5) (fun _ _ => rfl)) (pa_cons (pe_ix ix_seq (pv 1) (pv 2) (fun _ _ => rfl)) pa_nil))) (blkOk_by (own := [("part", 7), ("its", 8)]) (N := N_law_rank) (sc := defScope s_law_rank) (by decide +kernel)) (fun _ _ _ _ _ => (pg_tup rfl (pgs_cons (pg_name (i := 7) nd rfl (Or.inl rfl)) (pgs_cons (pg_name (i := 8) nd rfl (Or.inl rfl)) pgs_nil)))) (fun _ _ _ _ _ => pts_nil) (fun _ _ _ _ _ => (pe_op op_minus (pe_op op_times (pv 7) (pe_ix ix_seq (pe_ix ix_seq (pv 1) (pv 2) (fun _ _ => rfl)) (pv 3) (fun _ _ => rfl))) (pe_op op_times (pe_ix ix_seq (pe_ix ix_seq (pv 1) (pv 5) (fun _ _ => rfl)) (pv 3) (fun _ _ => rfl)) (pv 8))))) (pg_sub (pv 1) (pv 5) set_list))))
      (pss_one (ps_set (i := 2) nd rfl (Or.inr rfl) (pe_op op_plus (pv 2) pe_int))))) pss_nil))))
      (pss_one (ps_ret (pv 2)))))
theorem d_plus {P : Program} {w : World} {K : Fg} {mg : Str → Option Value} {base : Heap} (T : Txt K mg) (h_frac : Has P w K mg base 1 "frac" s_frac P_frac (sp_frac K)) {f : Addr} {cdv : Value} {A : Around} {outer : List Env} {s : Shared} {H : Hp} {E : XK} (hr : Room 1 (A.deeper (envOfC "plus" (defScope s_plus) s.heap.objs.size f cdv))) (hG : A.guards = some []) :
    PSs (cxOf CX0 P w K mg base N_plus "plus" (defScope s_plus) f cdv A outer s H E).nox (defBody s_plus) (t_plus K) := by
  have nd : N_plus.Nodup := sc_plus.nd
  exact (pss_one (ps_ret (pe_callH h_frac hr (by decide) hG (pa_cons (pe_op op_plus (pe_op op_times (pe_ix ix_seq (pv 0) pe_int (fun _ _ => rfl)) (pe_ix ix_seq (pv 1) pe_int (fun _ _ => rfl))) (pe_op op_times (pe_ix ix_seq (pv 1) pe_int (fun _ _ => rfl)) (pe_ix ix_seq (pv 0) pe_int (fun _ _ => rfl)))) (pa_cons (pe_op op_times (pe_ix ix_seq (pv 0) pe_int (fun _ _ => rfl)) (pe_ix ix_seq (pv 1) pe_int (fun _ _ => rfl))) pa_nil)))))
theorem d_minus {P : Program} {w : World} {K : Fg} {mg : Str → Option Value} {base : Heap} (T : Txt K mg) (h_frac : Has P w K mg base 1 "frac" s_frac P_frac (sp_frac K)) {f : Addr} {cdv : Value} {A : Around} {outer : List Env} {s : Shared} {H : Hp} {E : XK} (hr : Room 1 (A.deeper (envOfC "minus" (defScope s_minus) s.heap.objs.size f cdv))) (hG : A.guards = some []) :
    PSs (cxOf CX0 P w K mg base N_minus "minus" (defScope s_minus) f cdv A outer s H E).nox (defBody s_minus) (t_minus K) := by
  have nd : N_minus.Nodup := sc_minus.nd
  exact (pss_one (ps_ret (pe_callH h_frac hr (by decide) hG (pa_cons (pe_op op_minus (pe_op op_times (pe_ix ix_seq (pv 0) pe_int (fun _ _ => rfl)) (pe_ix ix_seq (pv 1) pe_int (fun _ _ => rfl))) (pe_op op_times (pe_ix ix_seq (pv 1) pe_int (fun _ _ => rfl)) (pe_ix ix_seq (pv 0) pe_int (fun _ _ => rfl)))) (pa_cons (pe_op op_times (pe_ix ix_seq (pv 0) pe_int (fun _ _ => rfl)) (pe_ix ix_seq (pv 1) pe_int (fun _ _ => rfl))) pa_nil)))))
theorem d_times {P : Program} {w : World} {K : Fg} {mg : Str → Option Value} {base : Heap} (T : Txt K mg) (h_frac : Has P w K mg base 1 "frac" s_frac P_frac (sp_frac K)) {f : Addr} {cdv : Value} {A : Around} {outer : List Env} {s : Shared} {H : Hp} {E : XK} (hr : Room 1 (A.deeper (envOfC "times" (defScope s_times) s.heap.objs.size f cdv))) (hG : A.guards = some []) :
    PSs (cxOf CX0 P w K mg base N_times "times" (defScope s_times) f cdv A outer s H E).nox (defBody s_times) (t_times K) := by
  have nd : N_times.Nodup := sc_times.nd
  exact (pss_one (ps_ret (pe_callH h_frac hr (by decide) hG (pa_cons (pe_op op_times (pe_ix ix_seq (pv 0) pe_int (fun _ _ => rfl)) (pe_ix ix_seq (pv 1) pe_int (fun _ _ => rfl))) (pa_cons (pe_op op_times (pe_ix ix_seq (pv 0) pe_int (fun _ _ => rfl)) (pe_ix ix_seq (pv 1) pe_int (fun _ _ => rfl))) pa_nil)))))
theorem d_over {P : Program} {w : World} {K : Fg} {mg : Str → Option Value} {base : Heap} (T : Txt K mg) (h_frac : Has P w K mg base 1 "frac" s_frac P_frac (sp_frac K)) {f : Addr} {cdv : Value} {A : Around} {outer : List Env} {s : Shared} {H : Hp} {E : XK} (hr : Room 1 (A.deeper (envOfC "over" (defScope s_over) s.heap.objs.size f cdv))) (hG : A.guards = some []) :
    PSs (cxOf CX0 P w K mg base N_over "over" (defScope s_over) f cdv A outer s H E).nox (defBody s_over) (t_over K) := by
  have nd : N_over.Nodup := sc_over.nd
  exact (pss_one (ps_ret (pe_callH h_frac hr (by decide) hG (pa_cons (pe_op op_times (pe_ix ix_seq (pv 0) pe_int (fun _ _ => rfl)) (pe_ix ix_seq (pv 1) pe_int (fun _ _ => rfl))) (pa_cons (pe_op op_times (pe_ix ix_seq (pv 0) pe_int (fun _ _ => rfl)) (pe_ix ix_seq (pv 1) pe_int (fun _ _ => rfl))) pa_nil)))))
theorem d_arranged {P : Program} {w : World} {K : Fg} {mg : Str → Option Value} {base : Heap} (T : Txt K mg) (h_compare : Has P w K mg base 1 "compare" s_compare P_compare (sp_compare K)) {f : Addr} {cdv : Value} {A : Around} {outer : List Env} {s : Shared} {H : Hp} {E : XK} (hr : Room 1 (A.deeper (envOfC "arranged" (defScope s_arranged) s.heap.objs.size f cdv))) (hG : A.guards = some []) :
    PSs (cxOf CX0 P w K mg base N_arranged "arranged" (defScope s_arranged) f cdv A outer s H E).nox (defBody s_arranged) (t_arranged K) := by
  have nd : N_arranged.Nodup := sc_arranged.nd
  exact (pss_cons (ps_set (i := 1) nd rfl (Or.inl rfl) (pe_lst pa_nil))
      (pss_cons (ps_for PassesOwn.never rfl (pi_seq (pv 0)) (pg_name (i := 2) nd rfl (Or.inl rfl)) (pss_cons (ps_set (i := 3) nd rfl (Or.inl rfl) pe_int)
      (pss_cons (ps_while PassesOwn.never (PW.pt (pw_and (pt_cmpR op_ltA (pv 3) (pe_callB cr_len (by rfl) T.n_len (by decide +kernel) (pa_cons (pv 1) pa_nil)) (nomark _)) (pw_and1 (pt_cmpR op_ltA (pe_callH h_compare hr (by decide) hG (pa_cons (pe_ix ix_seq (pv 1) (pv 3) (fun _ _ => rfl)) (pa_cons (pv 2) pa_nil))) pe_int (nomark _))))) (pss_one (ps_aug (i := 3) nd rfl (Or.inl rfl) pe_int ip_add)))
      (pss_one (ps_if (PW.pt (pw_or (pt_cmpR (op_eqA hr.units) (pv 3) (pe_callB cr_len (by rfl) T.n_len (by decide +kernel) (pa_cons (pv 1) pa_nil)) (nomark _)) (pw_or1 (pt_cmpR (op_neA hr.units) (pe_callH h_compare hr (by decide) hG (pa_cons (pe_ix ix_seq (pv 1) (pv 3) (fun _ _ => rfl)) (pa_cons (pv 2) pa_nil))) pe_int (nomark _))))) (pss_one (ps_expr (pe_bm PySem.F.plainAttrs_list PySem.F.slot_list_insert PySem.F.type_list_insert mt_insert (pv 1) (pa_cons (pv 3) (pa_cons (pe_tup (pa_cons (pe_ix ix_seq (pv 2) pe_int (fun _ _ => rfl)) (pa_cons (pe_ix ix_seq (pv 2) pe_int (fun _ _ => rfl)) pa_nil))) pa_nil))))) pss_nil)))))
      (pss_one (ps_ret (pv 1)))))
theorem d_between {P : Program} {w : World} {K : Fg} {mg : Str → Option Value} {base : Heap} (T : Txt K mg) (h_frac : Has P w K mg base 1 "frac" s_frac P_frac (sp_frac K)) {f : Addr} {cdv : Value} {A : Around} {outer : List Env} {s : Shared} {H : Hp} {E : XK} (hr : Room 1 (A.deeper (envOfC "between" (defScope s_between) s.heap.objs.size f cdv))) (hG : A.guards = some []) :
    PSs (cxOf CX0 P w K mg base N_between "between" (defScope s_between) f cdv A outer s H E).nox (defBody s_between) (t_between K) := by
  have nd : N_between.Nodup := sc_between.nd
  exact (pss_cons (ps_if (PW.pt (pw_and (pt_cmpR op_isNA (pv 0) pe_non (nomark _)) (pw_and1 (pt_cmpR op_isNA (pv 1) pe_non (nomark _))))) (pss_one (ps_ret (pe_tup (pa_cons pe_int (pa_cons pe_int pa_nil))))) pss_nil)
      (pss_cons (ps_if (pt_cmpR op_isNA (pv 0) pe_non (nomark _)) (pss_one (ps_ret (pe_callH h_frac hr (by decide) hG (pa_cons (pe_op op_minus (pe_ix ix_seq (pv 1) pe_int (fun _ _ => rfl)) (pe_ix ix_seq (pv 1) pe_int (fun _ _ => rfl))) (pa_cons (pe_ix ix_seq (pv 1) pe_int (fun _ _ => rfl)) pa_nil))))) pss_nil)
      (pss_cons (ps_if (pt_cmpR op_isNA (pv 1) pe_non (nomark _)) (pss_one (ps_ret (pe_callH h_frac hr (by decide) hG (pa_cons (pe_op op_plus (pe_ix ix_seq (pv 0) pe_int (fun _ _ => rfl)) (pe_ix ix_seq (pv 0) pe_int (fun _ _ => rfl))) (pa_cons (pe_ix ix_seq (pv 0) pe_int (fun _ _ => rfl)) pa_nil))))) pss_nil)
      (pss_one (ps_ret (pe_callH h_frac hr (by decide) hG (pa_cons (pe_op op_plus (pe_op op_times (pe_ix ix_seq (pv 0) pe_int (fun _ _ => rfl)) (pe_ix ix_seq (pv 1) pe_int (fun _ _ => rfl))) (pe_op op_times (pe_ix ix_seq (pv 1) pe_int (fun _ _ => rfl)) (pe_ix ix_seq (pv 0) pe_int (fun _ _ => rfl)))) (pa_cons (pe_op op_times (pe_op op_times pe_int (pe_ix ix_seq (pv 0) pe_int (fun _ _ => rfl))) (pe_ix ix_seq (pv 1) pe_int (fun _ _ => rfl))) pa_nil))))))))
theorem d_shrunk {P : Program} {w : World} {K : Fg} {mg : Str → Option Value} {base : Heap} (T : Txt K mg) (h_gcd_of : Has P w K mg base 1 "gcd_of" s_gcd_of P_gcd_of (sp_gcd_of K)) {f : Addr} {cdv : Value} {A : Around} {outer : List Env} {s : Shared} {H : Hp} {E : XK} (hr : Room 1 (A.deeper (envOfC "shrunk" (defScope s_shrunk) s.heap.objs.size f cdv))) (hG : A.guards = some []) :
    PSs (cxOf CX0 P w K mg base N_shrunk "shrunk" (defScope s_shrunk) f cdv A outer s H E).nox (defBody s_shrunk) (t_shrunk K) := by
  have nd : N_shrunk.Nodup := sc_shrunk.nd
  exact (pss_cons (ps_set (i := 1) nd rfl (Or.inr rfl) (pe_callH h_gcd_of hr (by decide) hG (pa_cons (pv 0) pa_nil)))
      (pss_one (ps_ret (pe_ifExp (pt_cmpR (op_eqA hr.units) (pv 1) pe_int (nomark _)) (pe_callTy cr_listOf (by rfl) T.n_list (by decide +kernel) (pa_cons (pv 0) pa_nil)) (pe_lc (own := [("number", 2)]) rfl nd (pi_seq (pv 0)) (blkOk_by (own := [("number", 2)]) (N := N_shrunk) (sc := defScope s_shrunk) (by decide +kernel)) (fun _ _ _ _ _ => (pg_name (i := 2) nd rfl (Or.inl rfl))) (fun _ _ _ _ _ => pts_nil) (fun _ _ _ _ _ => (pe_op op_fdivA (pv 2) (pv 1))))))))
theorem d_stepped {P : Program} {w : World} {K : Fg} {mg : Str → Option Value} {base : Heap} (T : Txt K mg) (h_cleared : Has P w K mg base 1 "cleared" s_cleared P_cleared (sp_cleared K)) {f : Addr} {cdv : Value} {A : Around} {outer : List Env} {s : Shared} {H : Hp} {E : XK} (hr : Room 1 (A.deeper (envOfC "stepped" (defScope s_stepped) s.heap.objs.size f cdv))) (hG : A.guards = some []) :
    PSs (cxOf CX0 P w K mg base N_stepped "stepped" (defScope s_stepped) f cdv A outer s H E).nox (defBody s_stepped) (t_stepped K) := by
  have nd : N_stepped.Nodup := sc_stepped.nd
  exact (pss_cons (ps_asg (pe_tup (pa_cons (pe_lc (own := [("row", 8)]) rfl nd (pi_seq (pv 0)) (blkOk_by (own := [("row", 8)]) (N := N_stepped) (sc := defScope s_stepped) (by decide +kernel)) (fun _ _ _ _ _ => (pg_name (i := 8) nd rfl (Or.inl rfl))) (fun _ _ _ _ _ => pts_nil) (fun _ _ _ _ _ => (pe_callTy cr_listOf (by rfl) T.n_list (by decide +kernel) (pa_cons (pv 8) pa_nil)))) (pa_cons (pe_lst pa_nil) (pa_cons pe_int pa_nil)))) (pg_tup rfl (pgs_cons (pg_name (i := 1) nd rfl (Or.inr rfl)) (pgs_cons (pg_name (i := 2) nd rfl (Or.inl rfl)) (pgs_cons (pg_name (i := 3) nd rfl (Or.inr rfl)) pgs_nil)))))
      (pss_cons (ps_for PassesOwn.never rfl (pi_range1 rfl T.n_range (pa_cons (pe_ifExp (pt_cmpR op_gtA (pe_callB cr_len (by rfl) T.n_len (by decide +kernel) (pa_cons (pv 0) pa_nil)) pe_int (nomark _)) (pe_callB cr_len (by rfl) T.n_len (by decide +kernel) (pa_cons (pe_ix ix_seq (pv 0) pe_int (fun _ _ => rfl)) pa_nil)) pe_int) pa_nil)) (pg_name (i := 4) nd rfl (Or.inr rfl)) (pss_cons (ps_set (i := 5) nd rfl (Or.inr rfl) (pe_callB cr_len (by rfl) T.n_len (by decide +kernel) (pa_cons (pv 2) pa_nil)))
      (pss_cons (ps_setLc (i := 6) (own := [("spot", 9)]) rfl nd rfl rfl (sw_true rfl rfl rfl (by decide +kernel)) (pi_range2 rfl T.n_range (pa_cons (pv 5) (pa_cons (pe_callB cr_len (by rfl) T.n_len (by decide +kernel) (pa_cons (pv 1) pa_nil)) pa_nil))) (blkOk_by (own := [("spot", 9)]) (N := N_stepped) (sc := defScope s_stepped) (by decide +kernel)) (fun _ _ _ _ _ => (pg_name (i := 9) nd rfl (Or.inl rfl))) (fun _ _ _ _ _ => (pts_one (pt_cmpR (op_neA hr.units) (pe_ix ix_seq (pe_ix ix_seq (pv 1) (pv 9) (fun _ _ => rfl)) (pv 4) (fun _ _ => rfl)) pe_int (nomark _)))) (fun _ _ _ _ _ => (pv 9)))
      (pss_one (ps_if (pt_cmpR (op_neA hr.units) (pv 6) (pe_lst pa_nil) (nomark _)) (pss_cons (ps_asg (pe_tup (pa_cons (pe_ix ix_seq (pv 1) (pe_ix ix_seq (pv 6) pe_int (fun _ _ => rfl)) (fun _ _ => rfl)) (pa_cons (pe_ix ix_seq (pv 1) (pv 5) (fun _ _ => rfl)) pa_nil))) (pg_tup rfl (pgs_cons (pg_sub (pv 1) (pv 5) set_list) (pgs_cons (pg_sub (pv 1) (pe_ix ix_seq (pv 6) pe_int (fun _ _ => rfl)) set_list) pgs_nil))))
      (pss_cons (ps_set (i := 7) nd rfl (Or.inr rfl) (pe_ix ix_seq (pv 1) (pv 5) (fun _ _ => rfl)))
      (pss_cons (ps_set (i := 1) nd rfl (Or.inr rfl) (pe_lc (own := [("spot", 9), ("row", 8)]) rfl nd (pi_enum rfl T.n_enumerate (pa_cons (pv 1) pa_nil)) (blkOk_by (own := [("spot", 9), ("row", 8)]) (N := N_stepped) (sc := defScope s_stepped) (by decide +kernel)) (fun _ _ _ _ _ => (pg_tup rfl (pgs_cons (pg_name (i := 9) nd rfl (Or.inl rfl)) (pgs_cons (pg_name (i := 8) nd rfl (Or.inl rfl)) pgs_nil)))) (fun _ _ _ _ _ => pts_nil) (fun _ _ _ _ _ => (pe_ifExp (pt_cmpR (op_eqA hr.units) (pv 9) (pv 5) (nomark _)) (pv 8) (pe_callH h_cleared hr (by decide) hG (pa_cons (pv 8) (pa_cons (pv 7) (pa_cons (pv 4) (pa_cons (pv 3) pa_nil)))))))))
      (pss_cons (ps_expr (pe_bm PySem.F.plainAttrs_list PySem.F.slot_list_append PySem.F.type_list_append mt_append (pv 2) (pa_cons (pv 4) pa_nil)))
      (pss_one (ps_set (i := 3) nd rfl (Or.inr rfl) (pe_ix ix_seq (pv 7) (pv 4) (fun _ _ => rfl)))))))) pss_nil)))))
      (pss_one (ps_ret (pe_tup (pa_cons (pe_slice sl_cut (pv 1) po_none (po_some (pe_callB cr_len (by rfl) T.n_len (by decide +kernel) (pa_cons (pv 2) pa_nil)))) (pa_cons (pv 2) (pa_cons (pv 3) pa_nil))))))))
theorem d_law_pick {P : Program} {w : World} {K : Fg} {mg : Str → Option Value} {base : Heap} (T : Txt K mg) (h_law_draw : Has P w K mg base 1 "_law_draw" s_law_draw P_law_draw (sp_law_draw K)) {f : Addr} {cdv : Value} {A : Around} {outer : List Env} {s : Shared} {H : Hp} {E : XK} (hr : Room 1 (A.deeper (envOfC "_law_pick" (defScope s_law_pick) s.heap.objs.size f cdv))) (hG : A.guards = some []) :
    PSs (cxOf CX0 P w K mg base N_law_pick "_law_pick" (defScope s_law_pick) f cdv A outer s H E).nox (defBody s_law_pick) (t_law_pick K) := by
  have nd : N_law_pick.Nodup := sc_law_pick.nd
  exact (pss_one (ps_ret (pe_ix ix_seq (pv 1) (pe_callH h_law_draw hr (by decide) hG (pa_cons (pv 0) (pa_cons (pe_callB cr_len (by rfl) T.n_len (by decide +kernel) (pa_cons (pv 1) pa_nil)) pa_nil))) (fun _ _ => rfl))))
theorem d_law_frac {P : Program} {w : World} {K : Fg} {mg : Str → Option Value} {base : Heap} (T : Txt K mg) (h_law_gcd : Has P w K mg base 1 "_law_gcd" s_law_gcd P_law_gcd (sp_law_gcd K)) {f : Addr} {cdv : Value} {A : Around} {outer : List Env} {s : Shared} {H : Hp} {E : XK} (hr : Room 1 (A.deeper (envOfC "_law_frac" (defScope s_law_frac) s.heap.objs.size f cdv))) (hG : A.guards = some []) :
    PSs (cxOf CX0 P w K mg base N_law_frac "_law_frac" (defScope s_law_frac) f cdv A outer s H E).nox (defBody s_law_frac) (t_law_frac K) := by
  have nd : N_law_frac.Nodup := sc_law_frac.nd
  exact (pss_cons (ps_set (i := 2) nd rfl (Or.inl rfl) (pe_op op_times (pe_callH h_law_gcd hr (by decide) hG (pa_cons (pv 0) (pa_cons (pv 1) pa_nil))) (pe_ifExp (pt_cmpR op_gtA (pv 1) pe_int (nomark _)) pe_int (pe_un un_neg pe_int))))
      (pss_one (ps_ret (pe_tup (pa_cons (pe_op op_fdivA (pv 0) (pv 2)) (pa_cons (pe_op op_fdivA (pv 1) (pv 2)) pa_nil))))))
theorem d_law_than {P : Program} {w : World} {K : Fg} {mg : Str → Option Value} {base : Heap} (T : Txt K mg) (h_law_sign : Has P w K mg base 1 "_law_sign" s_law_sign P_law_sign (sp_law_sign K)) {f : Addr} {cdv : Value} {A : Around} {outer : List Env} {s : Shared} {H : Hp} {E : XK} (hr : Room 1 (A.deeper (envOfC "_law_than" (defScope s_law_than) s.heap.objs.size f cdv))) (hG : A.guards = some []) :
    PSs (cxOf CX0 P w K mg base N_law_than "_law_than" (defScope s_law_than) f cdv A outer s H E).nox (defBody s_law_than) (t_law_than K) := by
  have nd : N_law_than.Nodup := sc_law_than.nd
  exact (pss_one (ps_ret (pe_callH h_law_sign hr (by decide) hG (pa_cons (pe_op op_minus (pe_op op_times (pe_ix ix_seq (pv 0) pe_int (fun _ _ => rfl)) (pe_ix ix_seq (pv 1) pe_int (fun _ _ => rfl))) (pe_op op_times (pe_ix ix_seq (pv 1) pe_int (fun _ _ => rfl)) (pe_ix ix_seq (pv 0) pe_int (fun _ _ => rfl)))) pa_nil))))
theorem d_rank_of {P : Program} {w : World} {K : Fg} {mg : Str → Option Value} {base : Heap} (T : Txt K mg) (h_stepped : Has P w K mg base 2 "stepped" s_stepped P_stepped (sp_stepped K)) {f : Addr} {cdv : Value} {A : Around} {outer : List Env} {s : Shared} {H : Hp} {E : XK} (hr : Room 2 (A.deeper (envOfC "rank_of" (defScope s_rank_of) s.heap.objs.size f cdv))) (hG : A.guards = some []) :
    PSs (cxOf CX0 P w K mg base N_rank_of "rank_of" (defScope s_rank_of) f cdv A outer s H E).nox (defBody s_rank_of) (t_rank_of K) := by
  have nd : N_rank_of.Nodup := sc_rank_of.nd
  exact (pss_one (ps_ret (pe_callB cr_len (by rfl) T.n_len (by decide +kernel) (pa_cons (pe_ix ix_seq (pe_callH h_stepped hr (by decide) hG (pa_cons (pv 0) pa_nil)) pe_int (fun _ _ => rfl)) pa_nil))))
theorem d_noughts {P : Program} {w : World} {K : Fg} {mg : Str → Option Value} {base : Heap} (T : Txt K mg) (h_shrunk : Has P w K mg base 2 "shrunk" s_shrunk P_shrunk (sp_shrunk K)) (h_stepped : Has P w K mg base 2 "stepped" s_stepped P_stepped (sp_stepped K)) {f : Addr} {cdv : Value} {A : Around} {outer : List Env} {s : Shared} {H : Hp} {E : XK} (hr : Room 2 (A.deeper (envOfC "noughts" (defScope s_noughts) s.heap.objs.size f cdv))) (hG : A.guards = some []) :
    PSs (cxOf CX0 P w K mg base N_noughts "noughts" (defScope s_noughts) f cdv A outer s H E).nox (defBody s_noughts) (t_noughts K) := by
  have nd : N_noughts.Nodup := sc_noughts.nd
  exact (pss_cons (ps_asg (pe_callH h_stepped hr (by decide) hG (pa_cons (pv 0) pa_nil)) (pg_tup rfl (pgs_cons (pg_name (i := 2) nd rfl (Or.inl rfl)) (pgs_cons (pg_name (i := 3) nd rfl (Or.inr rfl)) (pgs_cons (pg_name (i := 4) nd rfl (Or.inl rfl)) pgs_nil)))))
      (pss_cons (ps_set (i := 5) nd rfl (Or.inl rfl) (pe_lst pa_nil))
      (pss_cons (ps_for PassesOwn.never rfl (pi_seq (pe_lc (own := [("at", 10)]) rfl nd (pi_range1 rfl T.n_range (pa_cons (pv 1) pa_nil)) (blkOk_by (own := [("at", 10)]) (N := N_noughts) (sc := defScope s_noughts) (by decide +kernel)) (fun _ _ _ _ _ => (pg_name (i := 10) nd rfl (Or.inl rfl))) (fun _ _ _ _ _ => (pts_one (pt_cmpR op_notIn_seq (pv 10) (pv 3) rfl))) (fun _ _ _ _ _ => (pv 10)))) (pg_name (i := 6) nd rfl (Or.inl rfl)) (pss_cons (ps_set (i := 7) nd rfl (Or.inl rfl) (pe_op op_times (pe_lst (pa_cons pe_int pa_nil)) (pv 1)))
      (pss_cons (ps_asg (pv 4) (pg_sub (pv 7) (pv 6) set_list))
      (pss_cons (ps_for PassesOwn.never rfl (pi_zipB rfl T.n_zip (pa_cons (pv 3) (pa_cons (pv 2) pa_nil))) (pg_tup rfl (pgs_cons (pg_name (i := 8) nd rfl (Or.inl rfl)) (pgs_cons (pg_name (i := 9) nd rfl (Or.inl rfl)) pgs_nil))) (pss_one (ps_asg (pe_un un_neg (pe_ix ix_seq (pv 9) (pv 6) (fun _ _ => rfl))) (pg_sub (pv 7) (pv 8) set_list))))
      (pss_one (ps_expr (pe_bm PySem.F.plainAttrs_list PySem.F.slot_list_append PySem.F.type_list_append mt_append (pv 5) (pa_cons (pe_callTy cr_tupOf (by rfl) T.n_tuple (by decide +kernel) (pa_cons (pe_callH h_shrunk hr (by decide) hG (pa_cons (pv 7) pa_nil)) pa_nil)) pa_nil))))))))
      (pss_one (ps_ret (pv 5))))))
theorem d_law_plus {P : Program} {w : World} {K : Fg} {mg : Str → Option Value} {base : Heap} (T : Txt K mg) (h_law_frac : Has P w K mg base 2 "_law_frac" s_law_frac P_law_frac (sp_law_frac K)) {f : Addr} {cdv : Value} {A : Around} {outer : List Env} {s : Shared} {H : Hp} {E : XK} (hr : Room 2 (A.deeper (envOfC "_law_plus" (defScope s_law_plus) s.heap.objs.size f cdv))) (hG : A.guards = some []) :
    PSs (cxOf CX0 P w K mg base N_law_plus "_law_plus" (defScope s_law_plus) f cdv A outer s H E).nox (defBody s_law_plus) (t_law_plus K) := by
  have nd : N_law_plus.Nodup := sc_law_plus.nd
  exact (pss_one (ps_ret (pe_callH h_law_frac hr (by decide) hG (pa_cons (pe_op op_plus (pe_op op_times (pe_ix ix_seq (pv 0) pe_int (fun _ _ => rfl)) (pe_ix ix_seq (pv 1) pe_int (fun _ _ => rfl))) (pe_op op_times (pe_ix ix_seq (pv 1) pe_int (fun _ _ => rfl)) (pe_ix ix_seq (pv 0) pe_int (fun _ _ => rfl)))) (pa_cons (pe_op op_times (pe_ix ix_seq (pv 0) pe_int (fun _ _ => rfl)) (pe_ix ix_seq (pv 1) pe_int (fun _ _ => rfl))) pa_nil)))))
theorem d_law_times {P : Program} {w : World} {K : Fg} {mg : Str → Option Value} {base : Heap} (T : Txt K mg) (h_law_frac : Has P w K mg base 2 "_law_frac" s_law_frac P_law_frac (sp_law_frac K)) {f : Addr} {cdv : Value} {A : Around} {outer : List Env} {s : Shared} {H : Hp} {E : XK} (hr : Room 2 (A.deeper (envOfC "_law_times" (defScope s_law_times) s.heap.objs.size f cdv))) (hG : A.guards = some []) :
    PSs (cxOf CX0 P w K mg base N_law_times "_law_times" (defScope s_law_times) f cdv A outer s H E).nox (defBody s_law_times) (t_law_times K) := by
  have nd : N_law_times.Nodup := sc_law_times.nd
  exact (pss_one (ps_ret (pe_callH h_law_frac hr (by decide) hG (pa_cons (pe_op op_times (pe_ix ix_seq (pv 0) pe_int (fun _ _ => rfl)) (pe_ix ix_seq (pv 1) pe_int (fun _ _ => rfl))) (pa_cons (pe_op op_times (pe_ix ix_seq (pv 0) pe_int (fun _ _ => rfl)) (pe_ix ix_seq (pv 1) pe_int (fun _ _ => rfl))) pa_nil)))))
theorem d_law_order {P : Program} {w : World} {K : Fg} {mg : Str → Option Value} {base : Heap} (T : Txt K mg) (h_law_than : Has P w K mg base 2 "_law_than" s_law_than P_law_than (sp_law_than K)) {f : Addr} {cdv : Value} {A : Around} {outer : List Env} {s : Shared} {H : Hp} {E : XK} (hr : Room 2 (A.deeper (envOfC "_law_order" (defScope s_law_order) s.heap.objs.size f cdv))) (hG : A.guards = some []) :
    PSs (cxOf CX0 P w K mg base N_law_order "_law_order" (defScope s_law_order) f cdv A outer s H E).nox (defBody s_law_order) (t_law_order K) := by
  have nd : N_law_order.Nodup := sc_law_order.nd
  exact (pss_cons (ps_set (i := 1) nd rfl (Or.inl rfl) (pe_lst pa_nil))
      (pss_cons (ps_for PassesOwn.never rfl (pi_seq (pv 0)) (pg_name (i := 2) nd rfl (Or.inl rfl)) (pss_cons (ps_set (i := 3) nd rfl (Or.inl rfl) pe_int)
      (pss_cons (ps_while PassesOwn.never (PW.pt (pw_and (pt_cmpR op_ltA (pv 3) (pe_callB cr_len (by rfl) T.n_len (by decide +kernel) (pa_cons (pv 1) pa_nil)) (nomark _)) (pw_and1 (pt_cmpR op_ltA (pe_callH h_law_than hr (by decide) hG (pa_cons (pe_ix ix_seq (pv 1) (pv 3) (fun _ _ => rfl)) (pa_cons (pv 2) pa_nil))) pe_int (nomark _))))) (pss_one (ps_set (i := 3) nd rfl (Or.inl rfl) (pe_op op_plus (pv 3) pe_int))))
      (pss_one (ps_if (PW.pt (pw_or (pt_cmpR (op_eqA hr.units) (pv 3) (pe_callB cr_len (by rfl) T.n_len (by decide +kernel) (pa_cons (pv 1) pa_nil)) (nomark _)) (pw_or1 (pt_cmpR (op_neA hr.units) (pe_ix ix_seq (pv 1) (pv 3) (fun _ _ => rfl)) (pv 2) (nomark _))))) (pss_one (ps_set (i := 1) nd rfl (Or.inl rfl) (pe_op op_plus (pe_op op_plus (pe_slice sl_cut (pv 1) po_none (po_some (pv 3))) (pe_lst (pa_cons (pv 2) pa_nil))) (pe_slice sl_cut (pv 1) (po_some (pv 3)) po_none)))) pss_nil)))))
      (pss_one (ps_ret (pv 1)))))
theorem d_law_drawn {P : Program} {w : World} {K : Fg} {mg : Str → Option Value} {base : Heap} (T : Txt K mg) (h_law_draw : Has P w K mg base 1 "_law_draw" s_law_draw P_law_draw (sp_law_draw K)) (h_law_pick : Has P w K mg base 2 "_law_pick" s_law_pick P_law_pick (sp_law_pick K)) (h_law_frac : Has P w K mg base 2 "_law_frac" s_law_frac P_law_frac (sp_law_frac K)) {f : Addr} {cdv : Value} {A : Around} {outer : List Env} {s : Shared} {H : Hp} {E : XK} (hr : Room 2 (A.deeper (envOfC "_law_drawn" (defScope s_law_drawn) s.heap.objs.size f cdv))) (hG : A.guards = some []) :
    PSs (cxOf CX0 P w K mg base N_law_drawn "_law_drawn" (defScope s_law_drawn) f cdv A outer s H E).nox (defBody s_law_drawn) (t_law_drawn K) := by
  have nd : N_law_drawn.Nodup := sc_law_drawn.nd
  exact (pss_cons (ps_set (i := 1) nd rfl (Or.inl rfl) (pe_callH h_law_pick hr (by decide) hG (pa_cons (pv 0) (pa_cons (pe_lst (pa_cons pe_int (pa_cons pe_int (pa_cons (pe_op op_powA pe_int pe_int) (pa_cons (pe_op op_powA pe_int pe_int) pa_nil))))) pa_nil))))
      (pss_one (ps_ret (pe_callH h_law_frac hr (by decide) hG (pa_cons (pe_op op_minus (pe_callH h_law_draw hr (by decide) hG (pa_cons (pv 0) (pa_cons (pe_op op_times pe_int (pv 1)) pa_nil))) (pv 1)) (pa_cons (pe_op op_plus pe_int (pe_callH h_law_draw hr (by decide) hG (pa_cons (pv 0) (pa_cons (pv 1) pa_nil)))) pa_nil))))))
theorem d_law_fractions_right {P : Program} {w : World} {K : Fg} {mg : Str → Option Value} {base : Heap} (T : Txt K mg) (h_frac : Has P w K mg base 1 "frac" s_frac P_frac (sp_frac K)) (h_is_frac : Has P w K mg base 1 "is_frac" s_is_frac P_is_frac (sp_is_frac K)) (h_plus : Has P w K mg base 2 "plus" s_plus P_plus (sp_plus K)) (h_minus : Has P w K mg base 2 "minus" s_minus P_minus (sp_minus K)) (h_times : Has P w K mg base 2 "times" s_times P_times (sp_times K)) (h_over : Has P w K mg base 2 "over" s_over P_over (sp_over K)) (h_compare : Has P w K mg base 1 "compare" s_compare P_compare (sp_compare K)) (h_arranged : Has P w K mg base 2 "arranged" s_arranged P_arranged (sp_arranged K)) (h_between : Has P w K mg base 2 "between" s_between P_between (sp_between K)) (h_law_draw : Has P w K mg base 1 "_law_draw" s_law_draw P_law_draw (sp_law_draw K)) (h_law_pick : Has P w K mg base 2 "_law_pick" s_law_pick P_law_pick (sp_law_pick K)) (h_law_frac : Has P w K mg base 2 "_law_frac" s_law_frac P_law_frac (sp_law_frac K)) (h_law_plus : Has P w K mg base 3 "_law_plus" s_law_plus P_law_plus (sp_law_plus K)) (h_law_times : Has P w K mg base 3 "_law_times" s_law_times P_law_times (sp_law_times K)) (h_law_than : Has P w K mg base 2 "_law_than" s_law_than P_law_than (sp_law_than K)) (h_law_order : Has P w K mg base 3 "_law_order" s_law_order P_law_order (sp_law_order K)) (h_law_drawn : Has P w K mg base 3 "_law_drawn" s_law_drawn P_law_drawn (sp_law_drawn K)) {f : Addr} {cdv : Value} {A : Around} {outer : List Env} {s : Shared} {H : Hp} {E : XK} (hr : Room 3 (A.deeper (envOfC "_law_fractions_right" (defScope s_law_fractions_right) s.heap.objs.size f cdv))) (hG : A.guards = some []) :
    PSs (cxOf CX0 P w K mg base N_law_fractions_right "_law_fractions_right" (defScope s_law_fractions_right) f cdv A outer s H E).nox (defBody s_law_fractions_right) (t_law_fractions_right K) := by
  have nd : N_law_fractions_right.Nodup := sc_law_fractions_right.nd
  exact (pss_cons (ps_par (i := 1) (j := 2) rfl nd rfl rfl (by decide) rfl rfl (pa_cons (pe_callH h_law_drawn hr (by decide) hG (pa_cons (pv 0) pa_nil)) (pa_cons (pe_callH h_law_drawn hr (by decide) hG (pa_cons (pv 0) pa_nil)) pa_nil)) (by rfl))
      (pss_cons (ps_set (i := 3) nd rfl (Or.inl rfl) (pe_callH h_law_pick hr (by decide) hG (pa_cons (pv 0) (pa_cons (pe_lst (pa_cons pe_int (pa_cons pe_int (pa_cons (pe_un un_neg pe_int) (pa_cons (pe_un un_neg pe_int) (pa_cons (pe_op op_powA pe_int pe_int) pa_nil)))))) pa_nil))))
      (pss_cons (ps_if (PW.pt (pw_or (pt_cmpR (op_neA hr.units) (pe_callH h_frac hr (by decide) hG (pa_cons (pe_op op_times (pe_ix ix_seq (pv 1) pe_int (fun _ _ => rfl)) (pv 3)) (pa_cons (pe_op op_times (pe_ix ix_seq (pv 1) pe_int (fun _ _ => rfl)) (pv 3)) pa_nil))) (pv 1) (nomark _)) (pw_or (pt_cmpR (op_neA hr.units) (pe_callHK0 (ks := ["bottom", "top"]) h_frac kw_frac_0_bottom_top (perm_rel [1, 0]) hr (by decide) hG (pk_cons (pe_op op_times (pe_ix ix_seq (pv 1) pe_int (fun _ _ => rfl)) (pv 3)) (pk_cons (pe_op op_times (pe_ix ix_seq (pv 1) pe_int (fun _ _ => rfl)) (pv 3)) pk_nil))) (pv 1) (nomark _)) (pw_or1 (pt_cmpR (op_neA hr.units) (pe_callB (cr_repr hG hr.units) (by rfl) T.n_repr (by decide +kernel) (pa_cons (pe_callH h_frac hr (by decide) hG (pa_cons pe_int (pa_cons (pv 3) pa_nil))) pa_nil)) pe_str (nomark _)))))) (pss_one (ps_ret pe_bl)) pss_nil)
      (pss_cons (ps_if (PW.pt (pw_or (pt_cmpR (op_neA hr.units) (pe_callB (cr_repr hG hr.units) (by rfl) T.n_repr (by decide +kernel) (pa_cons (pe_lst (pa_cons (pe_callH h_plus hr (by decide) hG (pa_cons (pv 1) (pa_cons (pv 2) pa_nil))) (pa_cons (pe_callHK0 (ks := ["other", "one"]) h_plus kw_plus_0_other_one (perm_rel [1, 0]) hr (by decide) hG (pk_cons (pv 2) (pk_cons (pv 1) pk_nil))) pa_nil))) pa_nil)) (pe_callB (cr_repr hG hr.units) (by rfl) T.n_repr (by decide +kernel) (pa_cons (pe_op op_times (pe_lst (pa_cons (pe_callH h_law_plus hr (by decide) hG (pa_cons (pv 1) (pa_cons (pv 2) pa_nil))) pa_nil)) pe_int) pa_nil)) (nomark _)) (pw_or (pt_cmpR (op_neA hr.units) (pe_callH h_times hr (by decide) hG (pa_cons (pv 1) (pa_cons (pv 2) pa_nil))) (pe_callH h_law_times hr (by decide) hG (pa_cons (pv 1) (pa_cons (pv 2) pa_nil))) (nomark _)) (pw_or1 (pt_cmpR (op_neA hr.units) (pe_callH h_minus hr (by decide) hG (pa_cons (pv 1) (pa_cons (pv 2) pa_nil))) (pe_callH h_law_plus hr (by decide) hG (pa_cons (pv 1) (pa_cons (pe_tup (pa_cons (pe_un un_neg (pe_ix ix_seq (pv 2) pe_int (fun _ _ => rfl))) (pa_cons (pe_ix ix_seq (pv 2) pe_int (fun _ _ => rfl)) pa_nil))) pa_nil))) (nomark _)))))) (pss_one (ps_ret pe_bl)) pss_nil)
      (pss_cons (ps_if (PW.pt (pw_or (pt_cmpR (op_neA hr.units) (pe_callHK0 (ks := ["other", "one"]) h_minus kw_minus_0_other_one (perm_rel [1, 0]) hr (by decide) hG (pk_cons (pv 1) (pk_cons (pv 1) pk_nil))) (pe_tup (pa_cons pe_int (pa_cons pe_int pa_nil))) (nomark _)) (pw_or (pt_cmpR (op_neA hr.units) (pe_callHK0 (ks := ["other", "one"]) h_times kw_times_0_other_one (perm_rel [1, 0]) hr (by decide) hG (pk_cons (pv 2) (pk_cons (pv 1) pk_nil))) (pe_callH h_times hr (by decide) hG (pa_cons (pv 2) (pa_cons (pv 1) pa_nil))) (nomark _)) (pw_or (pt_cmpR (op_neA hr.units) (pe_callH h_compare hr (by decide) hG (pa_cons (pv 1) (pa_cons (pv 2) pa_nil))) (pe_callH h_law_than hr (by decide) hG (pa_cons (pv 1) (pa_cons (pv 2) pa_nil))) (nomark _)) (pw_or1 (pt_cmpR (op_neA hr.units) (pe_callHK0 (ks := ["other", "one"]) h_compare kw_compare_0_other_one (perm_rel [1, 0]) hr (by decide) hG (pk_cons (pv 1) (pk_cons (pv 1) pk_nil))) pe_int (nomark _))))))) (pss_one (ps_ret pe_bl)) pss_nil)
      (pss_cons (ps_if (PW.pt (pw_and (pt_cmpR (op_neA hr.units) (pe_ix ix_seq (pv 2) pe_int (fun _ _ => rfl)) pe_int (nomark _)) (pw_and1 (PW.pt (pw_or (pt_cmpR (op_neA hr.units) (pe_callH h_over hr (by decide) hG (pa_cons (pv 1) (pa_cons (pv 2) pa_nil))) (pe_callH h_law_times hr (by decide) hG (pa_cons (pv 1) (pa_cons (pe_callH h_law_frac hr (by decide) hG (pa_cons (pe_ix ix_seq (pv 2) pe_int (fun _ _ => rfl)) (pa_cons (pe_ix ix_seq (pv 2) pe_int (fun _ _ => rfl)) pa_nil))) pa_nil))) (nomark _)) (pw_or1 (pt_cmpR (op_neA hr.units) (pe_callHK0 (ks := ["other", "one"]) h_over kw_over_0_other_one (perm_rel [1, 0]) hr (by decide) hG (pk_cons (pv 2) (pk_cons (pv 2) pk_nil))) (pe_tup (pa_cons pe_int (pa_cons pe_int pa_nil))) (nomark _)))))))) (pss_one (ps_ret pe_bl)) pss_nil)
      (pss_cons (ps_set (i := 4) nd rfl (Or.inl rfl) (pe_op op_plus (pe_lc (own := [("lap", 8)]) rfl nd (pi_range1 rfl T.n_range (pa_cons (pe_callH h_law_draw hr (by decide) hG (pa_cons (pv 0) (pa_cons pe_int pa_nil))) pa_nil)) (blkOk_by (own := [("lap", 8)]) (N := N_law_fractions_right) (sc := defScope s_law_fractions_right) (by decide +kernel)) (fun _ _ _ _ _ => (pg_name (i := 8) nd rfl (Or.inl rfl))) (fun _ _ _ _ _ => pts_nil) (fun _ _ _ _ _ => (pe_callH h_law_drawn hr (by decide) hG (pa_cons (pv 0) pa_nil)))) (pe_lst (pa_cons (pv 1) (pa_cons (pv 1) pa_nil)))))
      (pss_cons (ps_if (PW.pt (pw_or (pt_cmpR (op_neA hr.units) (pe_callTy cr_listOf (by rfl) T.n_list (by decide +kernel) (pa_cons (pe_callH h_arranged hr (by decide) hG (pa_cons (pv 4) pa_nil)) pa_nil)) (pe_callH h_law_order hr (by decide) hG (pa_cons (pv 4) pa_nil)) (nomark _)) (pw_or (pt_cmpR (op_neA hr.units) (pe_callTy cr_listOf (by rfl) T.n_list (by decide +kernel) (pa_cons (pe_callHK0 (ks := ["some"]) h_arranged kw_arranged_0_some (perm_rel [0]) hr (by decide) hG (pk_cons (pe_revL (pv 4)) pk_nil)) pa_nil)) (pe_callH h_law_order hr (by decide) hG (pa_cons (pv 4) pa_nil)) (nomark _)) (pw_or1 (pt_cmpR (op_neA hr.units) (pe_callB (cr_repr hG hr.units) (by rfl) T.n_repr (by decide +kernel) (pa_cons (pe_callH h_arranged hr (by decide) hG (pa_cons (pe_op op_plus (pe_lc (own := [("part", 9)]) rfl nd (pi_seq (pv 4)) (blkOk_by (own := [("part", 9)]) (N := N_law_fractions_right) (sc := defScope s_law_fractions_right) (by decide +kernel)) (fun _ _ _ _ _ => (pg_name (i := 9) nd rfl (Or.inl rfl))) (fun _ _ _ _ _ => pts_nil) (fun _ _ _ _ _ => (pe_callTy cr_listOf (by rfl) T.n_list (by decide +kernel) (pa_cons (pv 9) pa_nil)))) (pv 4)) pa_nil)) pa_nil)) (pe_callB (cr_repr hG hr.units) (by rfl) T.n_repr (by decide +kernel) (pa_cons (pe_callH h_law_order hr (by decide) hG (pa_cons (pv 4) pa_nil)) pa_nil)) (nomark _)))))) (pss_one (ps_ret pe_bl)) pss_nil)
      (pss_cons (ps_par (i := 5) (j := 6) rfl nd rfl rfl (by decide) rfl rfl (pa_cons (pe_ix ix_seq (pe_callH h_law_order hr (by decide) hG (pa_cons (pe_lst (pa_cons (pv 1) (pa_cons (pv 2) pa_nil))) pa_nil)) pe_int (fun _ _ => rfl)) (pa_cons (pe_ix ix_seq (pe_callH h_law_order hr (by decide) hG (pa_cons (pe_lst (pa_cons (pv 1) (pa_cons (pv 2) pa_nil))) pa_nil)) (pe_un un_neg pe_int) (fun _ _ => rfl)) pa_nil)) (by rfl))
      (pss_cons (ps_if (PW.pt (pw_and (pt_cmpR (op_neA hr.units) (pv 5) (pv 6) (nomark _)) (pw_and1 (PW.pt (pw_or (pt_cmpR (op_neA hr.units) (pe_callH h_compare hr (by decide) hG (pa_cons (pv 5) (pa_cons (pe_callH h_between hr (by decide) hG (pa_cons (pv 5) (pa_cons (pv 6) pa_nil))) pa_nil))) (pe_un un_neg pe_int) (nomark _)) (pw_or1 (pt_cmpR (op_neA hr.units) (pe_callH h_compare hr (by decide) hG (pa_cons (pe_callHK0 (ks := ["high", "low"]) h_between kw_between_0_high_low (perm_rel [1, 0]) hr (by decide) hG (pk_cons (pv 6) (pk_cons (pv 5) pk_nil))) (pa_cons (pv 6) pa_nil))) (pe_un un_neg pe_int) (nomark _)))))))) (pss_one (ps_ret pe_bl)) pss_nil)
      (pss_cons (ps_if (PW.pt (pw_or (pt_cmpR (op_neA hr.units) (pe_callH h_compare hr (by decide) hG (pa_cons (pv 5) (pa_cons (pe_callH h_between hr (by decide) hG (pa_cons (pv 5) (pa_cons pe_non pa_nil))) pa_nil))) (pe_un un_neg pe_int) (nomark _)) (pw_or (pt_cmpR (op_neA hr.units) (pe_callH h_compare hr (by decide) hG (pa_cons (pe_callH h_between hr (by decide) hG (pa_cons pe_non (pa_cons (pv 6) pa_nil))) (pa_cons (pv 6) pa_nil))) (pe_un un_neg pe_int) (nomark _)) (pw_or1 (pt_cmpR op_notBl (pe_callH h_is_frac hr (by decide) hG (pa_cons (pe_callH h_between hr (by decide) hG (pa_cons pe_non (pa_cons pe_non pa_nil))) pa_nil)) pe_bl (nomark _)))))) (pss_one (ps_ret pe_bl)) pss_nil)
      (pss_cons (ps_set (i := 7) nd rfl (Or.inl rfl) (pe_lst (pa_cons pe_non (pa_cons pe_int (pa_cons (pe_tup (pa_cons pe_int pa_nil)) (pa_cons (pe_tup (pa_cons pe_int (pa_cons pe_int pa_nil))) (pa_cons (pe_tup (pa_cons pe_int (pa_cons pe_int pa_nil))) (pa_cons (pe_tup (pa_cons pe_int (pa_cons (pe_un un_neg pe_int) pa_nil))) (pa_cons (pe_tup (pa_cons pe_bl (pa_cons pe_int pa_nil))) (pa_cons (pe_tup (pa_cons pe_int (pa_cons pe_bl pa_nil))) (pa_cons (pe_tup (pa_cons pe_str (pa_cons pe_int pa_nil))) (pa_cons (pe_tup (pa_cons pe_int (pa_cons pe_int pa_nil))) (pa_cons (pe_lst (pa_cons pe_int (pa_cons pe_int (pa_cons pe_int pa_nil)))) (pa_cons (pe_tup (pa_cons pe_int (pa_cons pe_non pa_nil))) (pa_cons pe_str (pa_cons pe_dnewK pa_nil))))))))))))))))
      (pss_one (ps_ret (pe_and (pe_cmpR (op_eqA hr.units) (pe_lc (own := [("value", 10)]) rfl nd (pi_seq (pv 7)) (blkOk_by (own := [("value", 10)]) (N := N_law_fractions_right) (sc := defScope s_law_fractions_right) (by decide +kernel)) (fun _ _ _ _ _ => (pg_name (i := 10) nd rfl (Or.inl rfl))) (fun _ _ _ _ _ => (pts_one (pt_cmpR op_notBl (pe_callH h_is_frac hr (by decide) hG (pa_cons (pv 10) pa_nil)) pe_bl (nomark _)))) (fun _ _ _ _ _ => (pv 10))) (pe_lst pa_nil) (nomark _)) (pe_and (pe_cmpR op_isBl (pe_callHK0 (ks := ["value"]) h_is_frac kw_is_frac_0_value (perm_rel [0]) hr (by decide) hG (pk_cons (pe_callTy cr_listOf (by rfl) T.n_list (by decide +kernel) (pa_cons (pv 1) pa_nil)) pk_nil)) pe_bl (nomark _)) (pe_one (pe_cmpR op_isBl (pe_callH h_is_frac hr (by decide) hG (pa_cons (pv 1) pa_nil)) pe_bl (nomark _)))))))))))))))))))
theorem d_law_rows_right {P : Program} {w : World} {K : Fg} {mg : Str → Option Value} {base : Heap} (T : Txt K mg) (h_gcd_of : Has P w K mg base 1 "gcd_of" s_gcd_of P_gcd_of (sp_gcd_of K)) (h_shrunk : Has P w K mg base 2 "shrunk" s_shrunk P_shrunk (sp_shrunk K)) (h_sign : Has P w K mg base 1 "sign" s_sign P_sign (sp_sign K)) (h_product : Has P w K mg base 1 "product" s_product P_product (sp_product K)) (h_added : Has P w K mg base 1 "added" s_added P_added (sp_added K)) (h_rank_of : Has P w K mg base 3 "rank_of" s_rank_of P_rank_of (sp_rank_of K)) (h_noughts : Has P w K mg base 3 "noughts" s_noughts P_noughts (sp_noughts K)) (h_law_draw : Has P w K mg base 1 "_law_draw" s_law_draw P_law_draw (sp_law_draw K)) (h_law_pick : Has P w K mg base 2 "_law_pick" s_law_pick P_law_pick (sp_law_pick K)) (h_law_gcd : Has P w K mg base 1 "_law_gcd" s_law_gcd P_law_gcd (sp_law_gcd K)) (h_law_sign : Has P w K mg base 1 "_law_sign" s_law_sign P_law_sign (sp_law_sign K)) (h_law_dot : Has P w K mg base 1 "_law_dot" s_law_dot P_law_dot (sp_law_dot K)) (h_law_rank : Has P w K mg base 1 "_law_rank" s_law_rank P_law_rank (sp_law_rank K)) {f : Addr} {cdv : Value} {A : Around} {outer : List Env} {s : Shared} {H : Hp} {E : XK} (hr : Room 3 (A.deeper (envOfC "_law_rows_right" (defScope s_law_rows_right) s.heap.objs.size f cdv))) (hG : A.guards = some []) :
    PSs (cxOf CX0 P w K mg base N_law_rows_right "_law_rows_right" (defScope s_law_rows_right) f cdv A outer s H E).nox (defBody s_law_rows_right) (t_law_rows_right K) := by
  have nd : N_law_rows_right.Nodup := sc_law_rows_right.nd
  exact (pss_cons (ps_asg (pe_tup (pa_cons (pe_op op_plus pe_int (pe_callH h_law_draw hr (by decide) hG (pa_cons (pv 0) (pa_cons pe_int pa_nil)))) (pa_cons (pe_callH h_law_pick hr (by decide) hG (pa_cons (pv 0) (pa_cons (pe_lst (pa_cons pe_int (pa_cons pe_int (pa_cons pe_int (pa_cons (pe_op op_powA pe_int pe_int) pa_nil))))) pa_nil))) pa_nil))) (pg_tup rfl (pgs_cons (pg_name (i := 1) nd rfl (Or.inr rfl)) (pgs_cons (pg_name (i := 2) nd rfl (Or.inr rfl)) pgs_nil))))
      (pss_cons (ps_setLc (i := 3) (own := [("lap", 13)]) rfl nd rfl rfl (sw_true rfl rfl rfl (by decide +kernel)) (pi_range1 rfl T.n_range (pa_cons (pe_callH h_law_draw hr (by decide) hG (pa_cons (pv 0) (pa_cons pe_int pa_nil))) pa_nil)) (blkOk_by (own := [("lap", 13)]) (N := N_law_rows_right) (sc := defScope s_law_rows_right) (by decide +kernel)) (fun _ _ _ _ _ => (pg_name (i := 13) nd rfl (Or.inl rfl))) (fun _ _ _ _ _ => pts_nil) (fun _ _ _ _ _ => (pe_lc (own := [("at", 14)]) rfl nd (pi_range1 rfl T.n_range (pa_cons (pv 1) pa_nil)) (blkOk_by (own := [("at", 14)]) (N := N_law_rows_right) (sc := relS _ (defScope s_law_rows_right)) (by decide +kernel)) (fun _ _ _ _ _ => (pg_name (i := 14) nd rfl (Or.inl rfl))) (fun _ _ _ _ _ => pts_nil) (fun _ _ _ _ _ => (pe_op op_minus (pe_callH h_law_draw hr (by decide) hG (pa_cons (pv 0) (pa_cons (pe_op op_plus (pe_op op_times pe_int (pv 2)) pe_int) pa_nil))) (pv 2))))))
      (pss_cons (ps_if (PW.pt (pw_and (pt_cmpR op_gtA (pe_callB cr_len (by rfl) T.n_len (by decide +kernel) (pa_cons (pv 3) pa_nil)) pe_int (nomark _)) (pw_and1 (pt_cmpR (op_eqA hr.units) (pe_callH h_law_draw hr (by decide) hG (pa_cons (pv 0) (pa_cons pe_int pa_nil))) pe_int (nomark _))))) (pss_one (ps_expr (pe_bm PySem.F.plainAttrs_list PySem.F.slot_list_append PySem.F.type_list_append mt_append (pv 3) (pa_cons (pe_lc (own := [("one", 15), ("other", 7)]) rfl nd (pi_zipB rfl T.n_zip (pa_cons (pe_ix ix_seq (pv 3) pe_int (fun _ _ => rfl)) (pa_cons (pe_ix ix_seq (pv 3) pe_int (fun _ _ => rfl)) pa_nil))) (blkOk_by (own := [("one", 15), ("other", 7)]) (N := N_law_rows_right) (sc := defScope s_law_rows_right) (by decide +kernel)) (fun _ _ _ _ _ => (pg_tup rfl (pgs_cons (pg_name (i := 15) nd rfl (Or.inl rfl)) (pgs_cons (pg_name (i := 7) nd rfl (Or.inl rfl)) pgs_nil)))) (fun _ _ _ _ _ => pts_nil) (fun _ _ _ _ _ => (pe_op op_minus (pe_op op_times pe_int (pv 15)) (pe_op op_times pe_int (pv 7))))) pa_nil)))) pss_nil)
      (pss_cons (ps_par (i := 4) (j := 5) rfl nd rfl rfl (by decide) rfl rfl (pa_cons (pe_callB (cr_repr hG hr.units) (by rfl) T.n_repr (by decide +kernel) (pa_cons (pv 3) pa_nil)) (pa_cons (pe_callH h_law_rank hr (by decide) hG (pa_cons (pv 3) pa_nil)) pa_nil)) (by rfl))
      (pss_cons (ps_set (i := 6) nd rfl (Or.inl rfl) (pe_callH h_noughts hr (by decide) hG (pa_cons (pv 3) (pa_cons (pv 1) pa_nil))))
      (pss_cons (ps_if (PW.pt (pw_or (pt_cmpR (op_neA hr.units) (pe_callH h_rank_of hr (by decide) hG (pa_cons (pv 3) pa_nil)) (pv 5) (nomark _)) (pw_or (pt_cmpR (op_neA hr.units) (pe_callHK0 (ks := ["rows"]) h_rank_of kw_rank_of_0_rows (perm_rel [0]) hr (by decide) hG (pk_cons (pv 3) pk_nil)) (pv 5) (nomark _)) (pw_or (pt_cmpR (op_neA hr.units) (pe_callHK0 (ks := ["many", "rows"]) h_noughts kw_noughts_0_many_rows (perm_rel [1, 0]) hr (by decide) hG (pk_cons (pv 1) (pk_cons (pv 3) pk_nil))) (pv 6) (nomark _)) (pw_or (pt_cmpR (op_neA hr.units) (pe_callB cr_len (by rfl) T.n_len (by decide +kernel) (pa_cons (pv 6) pa_nil)) (pe_op op_minus (pv 1) (pv 5)) (nomark _)) (pw_or1 (pt_cmpR (op_neA hr.units) (pe_callB (cr_repr hG hr.units) (by rfl) T.n_repr (by decide +kernel) (pa_cons (pv 3) pa_nil)) (pv 4) (nomark _)))))))) (pss_one (ps_ret pe_bl)) pss_nil)
      (pss_cons (ps_for PassesOwn.never rfl (pi_seq (pv 3)) (pg_name (i := 7) nd rfl (Or.inr rfl)) (pss_one (ps_if (pt_cmpR (op_neA hr.units) (pe_lc (own := [("row", 12)]) rfl nd (pi_seq (pv 6)) (blkOk_by (own := [("row", 12)]) (N := N_law_rows_right) (sc := defScope s_law_rows_right) (by decide +kernel)) (fun _ _ _ _ _ => (pg_name (i := 12) nd rfl (Or.inl rfl))) (fun _ _ _ _ _ => (pts_one (PW.pt (pw_or (pt_cmpR (op_neA hr.units) (pe_callB cr_len (by rfl) T.n_len (by decide +kernel) (pa_cons (pv 12) pa_nil)) (pv 1) (nomark _)) (pw_or1 (pt_cmpR (op_neA hr.units) (pe_callH h_law_dot hr (by decide) hG (pa_cons (pv 12) (pa_cons (pv 7) pa_nil))) pe_int (nomark _))))))) (fun _ _ _ _ _ => (pv 12))) (pe_lst pa_nil) (nomark _)) (pss_one (ps_ret pe_bl)) pss_nil)))
      (pss_cons (ps_if (PW.pt (pw_and (pt_cmpR (op_neA hr.units) (pv 6) (pe_lst pa_nil) (nomark _)) (pw_and1 (pt_cmpR (op_neA hr.units) (pe_callH h_law_rank hr (by decide) hG (pa_cons (pe_lc (own := [("row", 12)]) rfl nd (pi_seq (pv 6)) (blkOk_by (own := [("row", 12)]) (N := N_law_rows_right) (sc := defScope s_law_rows_right) (by decide +kernel)) (fun _ _ _ _ _ => (pg_name (i := 12) nd rfl (Or.inl rfl))) (fun _ _ _ _ _ => pts_nil) (fun _ _ _ _ _ => (pe_callTy cr_listOf (by rfl) T.n_list (by decide +kernel) (pa_cons (pv 12) pa_nil)))) pa_nil)) (pe_callB cr_len (by rfl) T.n_len (by decide +kernel) (pa_cons (pv 6) pa_nil)) (nomark _))))) (pss_one (ps_ret pe_bl)) pss_nil)
      (pss_cons (ps_asg (pe_tup (pa_cons (pe_lc (own := [("at", 14)]) rfl nd (pi_range1 rfl T.n_range (pa_cons (pv 1) pa_nil)) (blkOk_by (own := [("at", 14)]) (N := N_law_rows_right) (sc := defScope s_law_rows_right) (by decide +kernel)) (fun _ _ _ _ _ => (pg_name (i := 14) nd rfl (Or.inl rfl))) (fun _ _ _ _ _ => pts_nil) (fun _ _ _ _ _ => (pe_op op_minus (pe_callH h_law_draw hr (by decide) hG (pa_cons (pv 0) (pa_cons (pe_op op_plus (pe_op op_times pe_int (pv 2)) pe_int) pa_nil))) (pv 2)))) (pa_cons pe_int pa_nil))) (pg_tup rfl (pgs_cons (pg_name (i := 8) nd rfl (Or.inl rfl)) (pgs_cons (pg_name (i := 9) nd rfl (Or.inr rfl)) pgs_nil))))
      (pss_cons (ps_for PassesOwn.never rfl (pi_seq (pv 8)) (pg_name (i := 10) nd rfl (Or.inl rfl)) (pss_one (ps_set (i := 9) nd rfl (Or.inr rfl) (pe_callH h_law_gcd hr (by decide) hG (pa_cons (pv 9) (pa_cons (pv 10) pa_nil))))))
      (pss_cons (ps_set (i := 11) nd rfl (Or.inl rfl) (pe_ifExp (pt_cmpR (op_neA hr.units) (pv 9) pe_int (nomark _)) (pe_lc (own := [("number", 10)]) rfl nd (pi_seq (pv 8)) (blkOk_by (own := [("number", 10)]) (N := N_law_rows_right) (sc := defScope s_law_rows_right) (by decide +kernel)) (fun _ _ _ _ _ => (pg_name (i := 10) nd rfl (Or.inl rfl))) (fun _ _ _ _ _ => pts_nil) (fun _ _ _ _ _ => (pe_op op_fdivA (pv 10) (pv 9)))) (pv 8)))
      (pss_cons (ps_if (PW.pt (pw_or (pt_cmpR (op_neA hr.units) (pe_callH h_gcd_of hr (by decide) hG (pa_cons (pv 8) pa_nil)) (pv 9) (nomark _)) (pw_or (pt_cmpR (op_neA hr.units) (pe_callHK0 (ks := ["numbers"]) h_gcd_of kw_gcd_of_0_numbers (perm_rel [0]) hr (by decide) hG (pk_cons (pe_lst pa_nil) pk_nil)) pe_int (nomark _)) (pw_or (pt_cmpR (op_neA hr.units) (pe_callTy cr_listOf (by rfl) T.n_list (by decide +kernel) (pa_cons (pe_callH h_shrunk hr (by decide) hG (pa_cons (pv 8) pa_nil)) pa_nil)) (pv 11) (nomark _)) (pw_or (pt_cmpR (op_neA hr.units) (pe_callTy cr_listOf (by rfl) T.n_list (by decide +kernel) (pa_cons (pe_callHK0 (ks := ["numbers"]) h_shrunk kw_shrunk_0_numbers (perm_rel [0]) hr (by decide) hG (pk_cons (pe_lst (pa_cons pe_int (pa_cons pe_int pa_nil))) pk_nil)) pa_nil)) (pe_lst (pa_cons pe_int (pa_cons pe_int pa_nil))) (nomark _)) (pw_or1 (pt_cmpR (op_neA hr.units) (pe_lc (own := [("number", 10)]) rfl nd (pi_seq (pv 8)) (blkOk_by (own := [("number", 10)]) (N := N_law_rows_right) (sc := defScope s_law_rows_right) (by decide +kernel)) (fun _ _ _ _ _ => (pg_name (i := 10) nd rfl (Or.inl rfl))) (fun _ _ _ _ _ => pts_nil) (fun _ _ _ _ _ => (pe_callH h_sign hr (by decide) hG (pa_cons (pv 10) pa_nil)))) (pe_lc (own := [("number", 10)]) rfl nd (pi_seq (pv 8)) (blkOk_by (own := [("number", 10)]) (N := N_law_rows_right) (sc := defScope s_law_rows_right) (by decide +kernel)) (fun _ _ _ _ _ => (pg_name (i := 10) nd rfl (Or.inl rfl))) (fun _ _ _ _ _ => pts_nil) (fun _ _ _ _ _ => (pe_callH h_law_sign hr (by decide) hG (pa_cons (pv 10) pa_nil)))) (nomark _)))))))) (pss_one (ps_ret pe_bl)) pss_nil)
      (pss_cons (ps_for PassesOwn.never rfl (pi_seq (pv 3)) (pg_name (i := 12) nd rfl (Or.inl rfl)) (pss_cons (ps_set (i := 9) nd rfl (Or.inr rfl) (pe_op op_minus (pe_callH h_law_draw hr (by decide) hG (pa_cons (pv 0) (pa_cons pe_int pa_nil))) pe_int))
      (pss_cons (ps_if (PW.pt (pw_or (pt_cmpR (op_neA hr.units) (pe_callH h_product hr (by decide) hG (pa_cons (pv 12) (pa_cons (pv 8) pa_nil))) (pe_callH h_law_dot hr (by decide) hG (pa_cons (pv 12) (pa_cons (pv 8) pa_nil))) (nomark _)) (pw_or (pt_cmpR (op_neA hr.units) (pe_callHK0 (ks := ["other", "one"]) h_product kw_product_0_other_one (perm_rel [1, 0]) hr (by decide) hG (pk_cons (pv 12) (pk_cons (pv 8) pk_nil))) (pe_callH h_law_dot hr (by decide) hG (pa_cons (pv 12) (pa_cons (pv 8) pa_nil))) (nomark _)) (pw_or1 (pt_cmpR (op_neA hr.units) (pe_callTy cr_tupOf (by rfl) T.n_tuple (by decide +kernel) (pa_cons (pe_callH h_added hr (by decide) hG (pa_cons (pv 12) (pa_cons (pv 8) (pa_cons (pv 9) pa_nil)))) pa_nil)) (pe_callTy cr_tupOf (by rfl) T.n_tuple (by decide +kernel) (pa_cons (pe_lc (own := [("part", 16), ("its", 17)]) rfl nd (pi_zipB rfl T.n_zip (pa_cons (pv 12) (pa_cons (pv 8) pa_nil))) (blkOk_by (own := [("part", 16), ("its", 17)]) (N := N_law_rows_right) (sc := defScope s_law_rows_right) (by decide +kernel)) (fun _ _ _ _ _ => (pg_tup rfl (pgs_cons (pg_name (i := 16) nd rfl (Or.inl rfl)) (pgs_cons (pg_name (i := 17) nd rfl (Or.inl rfl)) pgs_nil)))) (fun _ _ _ _ _ => pts_nil) (fun _ _ _ _ _ => (pe_op op_plus (pv 16) (pe_op op_times (pv 9) (pv 17))))) pa_nil)) (nomark _)))))) (pss_one (ps_ret pe_bl)) pss_nil)
      (pss_one (ps_if (pt_cmpR (op_neA hr.units) (pe_callHK0 (ks := ["times", "other", "one"]) h_added kw_added_0_times_other_one (perm_rel [2, 1, 0]) hr (by decide) hG (pk_cons pe_int (pk_cons (pv 12) (pk_cons (pv 8) pk_nil)))) (pe_callTy cr_tupOf (by rfl) T.n_tuple (by decide +kernel) (pa_cons (pe_lc (own := [("part", 16), ("its", 17)]) rfl nd (pi_zipB rfl T.n_zip (pa_cons (pv 12) (pa_cons (pv 8) pa_nil))) (blkOk_by (own := [("part", 16), ("its", 17)]) (N := N_law_rows_right) (sc := defScope s_law_rows_right) (by decide +kernel)) (fun _ _ _ _ _ => (pg_tup rfl (pgs_cons (pg_name (i := 16) nd rfl (Or.inl rfl)) (pgs_cons (pg_name (i := 17) nd rfl (Or.inl rfl)) pgs_nil)))) (fun _ _ _ _ _ => pts_nil) (fun _ _ _ _ _ => (pe_op op_plus (pv 16) (pv 17)))) pa_nil)) (nomark _)) (pss_one (ps_ret pe_bl)) pss_nil)))))
      (pss_one (ps_ret pe_bl)))))))))))))))
theorem d_law {P : Program} {w : World} {K : Fg} {mg : Str → Option Value} {base : Heap} (T : Txt K mg) (h_frac : Has P w K mg base 1 "frac" s_frac P_frac (sp_frac K)) (h_arranged : Has P w K mg base 2 "arranged" s_arranged P_arranged (sp_arranged K)) (h_sign : Has P w K mg base 1 "sign" s_sign P_sign (sp_sign K)) (h_rank_of : Has P w K mg base 3 "rank_of" s_rank_of P_rank_of (sp_rank_of K)) (h_noughts : Has P w K mg base 3 "noughts" s_noughts P_noughts (sp_noughts K)) (h_law_pen : Has P w K mg base 1 "_law_pen" s_law_pen P_law_pen (sp_law_pen K)) (h_law_fractions_right : Has P w K mg base 4 "_law_fractions_right" s_law_fractions_right P_law_fractions_right (sp_law_fractions_right K)) (h_law_rows_right : Has P w K mg base 4 "_law_rows_right" s_law_rows_right P_law_rows_right (sp_law_rows_right K)) {f : Addr} {cdv : Value} {A : Around} {outer : List Env} {s : Shared} {H : Hp} {E : XK} (hr : Room 4 (A.deeper (envOfC "law" (defScope s_law) s.heap.objs.size f cdv))) (hG : A.guards = some []) :
    PSs (cxOf CX0 P w K mg base N_law "law" (defScope s_law) f cdv A outer s H E).nox (defBody s_law) (t_law K) := by
  have nd : N_law.Nodup := sc_law.nd
  exact (pss_cons (ps_set (i := 1) nd rfl (Or.inl rfl) (pe_callH h_law_pen hr (by decide) hG (pa_cons (pv 0) pa_nil)))
      (pss_cons (ps_for PassesOwn.never rfl (pi_range1 rfl T.n_range (pa_cons pe_int pa_nil)) (pg_name (i := 2) nd rfl (Or.inl rfl)) (pss_one (ps_if (PW.pt (pw_or (pt_not (pt_tru (pe_callH h_law_fractions_right hr (by decide) hG (pa_cons (pv 1) pa_nil)))) (pw_or1 (pt_not (pt_tru (pe_callH h_law_rows_right hr (by decide) hG (pa_cons (pv 1) pa_nil))))))) (pss_one (ps_ret pe_bl)) pss_nil)))
      (pss_one (ps_ret (pe_and (pe_cmpR (op_eqA hr.units) (pe_callH h_frac hr (by decide) hG (pa_cons (pe_un un_neg pe_int) (pa_cons (pe_un un_neg pe_int) pa_nil))) (pe_tup (pa_cons pe_int (pa_cons pe_int pa_nil))) (nomark _)) (pe_and (pe_cmpR (op_eqA hr.units) (pe_callH h_arranged hr (by decide) hG (pa_cons (pe_lst pa_nil) pa_nil)) (pe_lst pa_nil) (nomark _)) (pe_and (pe_cmpR (op_eqA hr.units) (pe_callHK0 (ks := ["number"]) h_sign kw_sign_0_number (perm_rel [0]) hr (by decide) hG (pk_cons (pe_un un_neg pe_int) pk_nil)) (pe_un un_neg pe_int) (nomark _)) (pe_and (pe_cmpR (op_eqA hr.units) (pe_callB cr_len (by rfl) T.n_len (by decide +kernel) (pa_cons (pe_callH h_noughts hr (by decide) hG (pa_cons (pe_lst pa_nil) (pa_cons pe_int pa_nil))) pa_nil)) pe_int (nomark _)) (pe_one (pe_cmpR (op_eqA hr.units) (pe_callH h_rank_of hr (by decide) hG (pa_cons (pe_lst pa_nil) pa_nil)) pe_int (nomark _)))))))))))
end K01
namespace K01
open PySem PySem.Spec PyProof.Rows L2 DL
section
variable {K : Fg}
theorem byOf_ne {t b : Int} (h : b ≠ 0) : byOf t b ≠ 0 := by
  have : Nat.gcd t.natAbs b.natAbs ≠ 0 := fun z => h (by have := (Nat.gcd_eq_zero_iff.mp z).2; omega)
  unfold byOf; split <;> omega
theorem byOf_lt {t b : Int} {m : Nat} (h : b ≠ 0) (hb : b.natAbs < 2 ^ m) : (byOf t b).natAbs < 2 ^ m := by
  have : Nat.gcd t.natAbs b.natAbs ≤ b.natAbs := Nat.gcd_le_right _ (by omega)
  unfold byOf; split <;> omega
theorem rd_frac (a : Int × Int) (hp : a.2 ≠ 0 ∧ a.2.natAbs < 2 ^ 9000) : WS K (t_frac K) (slotsD N_frac [.int a.1, .int a.2]) [] 0 (ED fun d => d = fD (frac a.1 a.2)) := by
  obtain ⟨t, b⟩ := a
  obtain ⟨h0, h1⟩ := hp
  show WS K (t_frac K) [.is (.int t), .is (.int b), .no] [] 0 _
  unfold t_frac
  have fin : ∀ (y : Int), y = byOf t b → WS K (tRet (tTup (tCons (tOp rFdiv (tVar 0) (tVar 2)) (tCons (tOp rFdiv (tVar 1) (tVar 2)) tNil)))) [.is (.int t), .is (.int b), .is (.int y)] [] 0 (ED fun d => d = fD (frac t b)) := by
    rintro y rfl
    refine ws_ret ?_
    walk_at "dl"
    refine ow_fdiv (byOf_ne h0) (byOf_lt h0 h1) ?_
    walk_at "dl"
    refine ow_fdiv (byOf_ne h0) (byOf_lt h0 h1) ?_
    walk_at "dl"
    exact ⟨by simp, rfl⟩
  refine ws_seq (ws_asg ?_)
  walk_at "dl"
  refine br (fun h => ?_) (fun h => ?_)
  · walk_at "dl"
    refine fin _ ?_
    unfold byOf
    rw [if_pos h]
  · walk_at "dl"
    refine fin _ ?_
    unfold byOf
    rw [if_neg h]
theorem rd_law_gcd (a : Int × Int) (hp : True) : WS K (t_law_gcd K) (slotsD N_law_gcd [.int a.1, .int a.2]) [] 0 (ED fun d => d = .int ((Nat.gcd a.1.natAbs a.2.natAbs : Nat) : Int)) := by
  obtain ⟨t, b⟩ := a
  show WS K (t_law_gcd K) [.is (.int t), .is (.int b)] [] 0 _
  unfold t_law_gcd
  have ea : ∀ i : Int, (if i < 0 then -i else i) = ((i.natAbs : Nat) : Int) := fun i => by split <;> omega
  refine ws_seq (ws_par ?_)
  walk_at "dl"
  refine ⟨_, _, rfl, ?_⟩
  rw [ea, ea]
  refine ws_seq (ws_while ⟨fun m Γ O n => ∃ x y : Nat, Γ = [.is (.int (x : Int)), .is (.int (y : Int))] ∧ O = [] ∧ m = y ∧ Nat.gcd x y = Nat.gcd t.natAbs b.natAbs, ⟨_, _, _, rfl, rfl, rfl, rfl⟩, ?_⟩)
  rintro m _ _ n ⟨x, y, rfl, rfl, rfl, hg⟩
  walk_at "dl"
  refine brN (fun h => ?_) (fun h => ?_)
  · have hy : m ≠ 0 := fun z => h (by omega)
    refine ws_par ?_
    walk_at "dl"
    refine ow_fmod (by omega) ?_
    walk_at "dl"
    refine ⟨_, _, rfl, x % m, Nat.mod_lt _ (by omega), m, x % m, ?_, rfl, rfl, ?_⟩
    · rw [Int.fmod_eq_emod_of_nonneg _ (by omega)]; rfl
    · rw [← hg, Nat.gcd_comm x m, Nat.gcd_rec m x, Nat.gcd_comm]
  · have hy : m = 0 := by omega
    subst hy
    refine ws_ret ?_
    walk_at "dl"
    show DV.int (x : Int) = _
    rw [← hg, Nat.gcd_zero_right]
theorem rd_law_frac (a : Int × Int) (hp : a.2 ≠ 0 ∧ a.2.natAbs < 2 ^ 9000) : WS K (t_law_frac K) (slotsD N_law_frac [.int a.1, .int a.2]) [] 0 (ED fun d => d = fD (frac a.1 a.2)) := by
  obtain ⟨t, b⟩ := a
  obtain ⟨h0, h1⟩ := hp
  show WS K (t_law_frac K) [.is (.int t), .is (.int b), .no] [] 0 _
  unfold t_law_frac
  have fin : ∀ (y : Int), y = byOf t b → WS K (tRet (tTup (tCons (tOp rFdiv (tVar 0) (tVar 2)) (tCons (tOp rFdiv (tVar 1) (tVar 2)) tNil)))) [.is (.int t), .is (.int b), .is (.int y)] [] 0 (ED fun d => d = fD (frac t b)) := by
    rintro y rfl
    refine ws_ret ?_
    walk_at "dl"
    refine ow_fdiv (byOf_ne h0) (byOf_lt h0 h1) ?_
    walk_at "dl"
    refine ow_fdiv (byOf_ne h0) (byOf_lt h0 h1) ?_
    walk_at "dl"
    exact ⟨by simp, rfl⟩
  refine ws_seq (ws_asg ?_)
  walk_at "dl"
  refine ⟨(t, b), rfl, trivial, ?_⟩
  rintro _ rfl
  walk_at "dl"
  refine br (fun h => ?_) (fun h => ?_)
  · walk_at "dl"
    refine ow_timesI (mul_okR (by decide) (by decide)) (fin _ ?_)
    unfold byOf
    rw [if_pos h]
    exact Int.mul_one _
  · walk_at "dl"
    refine ow_timesI (mul_okR (by decide) (by decide)) (fin _ ?_)
    unfold byOf
    rw [if_neg h]
    exact Int.mul_neg_one _
theorem sm_mul {x y : Int} (hx : x.natAbs < 2 ^ 1000) (hy : y.natAbs < 2 ^ 1000) : IntMulOk x y := mul_ok hx hy (by decide) (by decide) (by decide)
theorem sm_den {x y : Int} (hx : x.natAbs < 2 ^ 1000) (hy : y.natAbs < 2 ^ 1000) (h1 : x ≠ 0) (h2 : y ≠ 0) : x * y ≠ 0 ∧ (x * y).natAbs < 2 ^ 9000 := ⟨Int.mul_ne_zero h1 h2, nle (nmul hx hy) (by decide)⟩
theorem rd_plus (a : (Int × Int) × Int × Int) (hp : Sm a.1 ∧ Sm a.2) : WS K (t_plus K) (slotsD N_plus [fD a.1, fD a.2]) [] 0 (ED fun d => d = fD (frac (a.1.1 * a.2.2 + a.2.1 * a.1.2) (a.1.2 * a.2.2))) := by
  obtain ⟨⟨p, q⟩, r, s⟩ := a
  obtain ⟨⟨h1, h2, h3⟩, h4, h5, h6⟩ := hp
  show WS K (t_plus K) [.is (fD (p, q)), .is (fD (r, s))] [] 0 _
  unfold t_plus
  refine ws_ret ?_
  walk_at "dl"
  refine ow_timesI (sm_mul h1 h5) ?_
  walk_at "dl"
  refine ow_timesI (sm_mul h4 h2) ?_
  walk_at "dl"
  refine ow_timesI (sm_mul h2 h5) ?_
  walk_at "dl"
  exact ⟨(_, _), rfl, sm_den h2 h5 h3 h6, fun d hd => hd⟩
theorem rd_law_plus (a : (Int × Int) × Int × Int) (hp : Sm a.1 ∧ Sm a.2) : WS K (t_law_plus K) (slotsD N_law_plus [fD a.1, fD a.2]) [] 0 (ED fun d => d = fD (frac (a.1.1 * a.2.2 + a.2.1 * a.1.2) (a.1.2 * a.2.2))) := rd_plus a hp
theorem rd_minus (a : (Int × Int) × Int × Int) (hp : Sm a.1 ∧ Sm a.2) : WS K (t_minus K) (slotsD N_minus [fD a.1, fD a.2]) [] 0 (ED fun d => d = fD (frac (a.1.1 * a.2.2 - a.2.1 * a.1.2) (a.1.2 * a.2.2))) := by
  obtain ⟨⟨p, q⟩, r, s⟩ := a
  obtain ⟨⟨h1, h2, h3⟩, h4, h5, h6⟩ := hp
  show WS K (t_minus K) [.is (fD (p, q)), .is (fD (r, s))] [] 0 _
  unfold t_minus
  refine ws_ret ?_
  walk_at "dl"
  refine ow_timesI (sm_mul h1 h5) ?_
  walk_at "dl"
  refine ow_timesI (sm_mul h4 h2) ?_
  walk_at "dl"
  refine ow_timesI (sm_mul h2 h5) ?_
  walk_at "dl"
  exact ⟨(_, _), rfl, sm_den h2 h5 h3 h6, fun d hd => hd⟩
theorem rd_times (a : (Int × Int) × Int × Int) (hp : Sm a.1 ∧ Sm a.2) : WS K (t_times K) (slotsD N_times [fD a.1, fD a.2]) [] 0 (ED fun d => d = fD (frac (a.1.1 * a.2.1) (a.1.2 * a.2.2))) := by
  obtain ⟨⟨p, q⟩, r, s⟩ := a
  obtain ⟨⟨h1, h2, h3⟩, h4, h5, h6⟩ := hp
  show WS K (t_times K) [.is (fD (p, q)), .is (fD (r, s))] [] 0 _
  unfold t_times
  refine ws_ret ?_
  walk_at "dl"
  refine ow_timesI (sm_mul h1 h4) ?_
  walk_at "dl"
  refine ow_timesI (sm_mul h2 h5) ?_
  walk_at "dl"
  exact ⟨(_, _), rfl, sm_den h2 h5 h3 h6, fun d hd => hd⟩
theorem rd_law_times (a : (Int × Int) × Int × Int) (hp : Sm a.1 ∧ Sm a.2) : WS K (t_law_times K) (slotsD N_law_times [fD a.1, fD a.2]) [] 0 (ED fun d => d = fD (frac (a.1.1 * a.2.1) (a.1.2 * a.2.2))) := rd_times a hp
theorem rd_over (a : (Int × Int) × Int × Int) (hp : Sm a.1 ∧ Sm a.2 ∧ a.2.1 ≠ 0) : WS K (t_over K) (slotsD N_over [fD a.1, fD a.2]) [] 0 (ED fun d => d = fD (frac (a.1.1 * a.2.2) (a.1.2 * a.2.1))) := by
  obtain ⟨⟨p, q⟩, r, s⟩ := a
  obtain ⟨⟨h1, h2, h3⟩, ⟨h4, h5, h6⟩, h7⟩ := hp
  show WS K (t_over K) [.is (fD (p, q)), .is (fD (r, s))] [] 0 _
  unfold t_over
  refine ws_ret ?_
  walk_at "dl"
  refine ow_timesI (sm_mul h1 h5) ?_
  walk_at "dl"
  refine ow_timesI (sm_mul h2 h4) ?_
  walk_at "dl"
  exact ⟨(_, _), rfl, sm_den h2 h4 h3 h7, fun d hd => hd⟩
theorem rd_sign (a : Int) (hp : True) : WS K (t_sign K) (slotsD N_sign [.int a]) [] 0 (ED fun d => d = .int (sg a)) := by
  show WS K (t_sign K) [.is (.int a)] [] 0 _
  unfold t_sign
  refine ws_ret ?_
  walk_at "dl"
  rfl
theorem rd_law_sign (a : Int) (hp : True) : WS K (t_law_sign K) (slotsD N_law_sign [.int a]) [] 0 (ED fun d => d = .int (sg a)) := rd_sign a hp
theorem rd_compare (a : (Int × Int) × Bool × Int × Int) (hp : Sm a.1 ∧ Sm a.2.2) : WS K (t_compare K) (slotsD N_compare [fD a.1, fS a.2.1 a.2.2]) [] 0 (ED fun d => d = .int (cmpF a.1 a.2.2)) := by
  obtain ⟨⟨p, q⟩, l, r, s⟩ := a
  obtain ⟨⟨h1, h2, h3⟩, h4, h5, h6⟩ := hp
  show WS K (t_compare K) [.is (fD (p, q)), .is (fS l (r, s)), .no, .no] [] 0 _
  unfold t_compare
  have ix0 : ∀ k : DV → Prop, k (.int r) → OW K (rIx K) (fS l (r, s)) (.int 0) k := fun k q => by
    cases l
    · exact ow_ixT rfl q
    · exact ow_ixL rfl q
  have ix1 : ∀ k : DV → Prop, k (.int s) → OW K (rIx K) (fS l (r, s)) (.int 1) k := fun k q => by
    cases l
    · exact ow_ixT rfl q
    · exact ow_ixL rfl q
  refine ws_seq (ws_par ?_)
  walk_at "dl"
  refine ix1 _ ?_
  refine ow_timesI (sm_mul h1 h5) ?_
  walk_at "dl"
  refine ix0 _ ?_
  walk_at "dl"
  refine ow_timesI (sm_mul h4 h2) ?_
  walk_at "dl"
  refine ⟨_, _, rfl, ws_ret ?_⟩
  walk_at "dl"
  rfl
theorem rd_law_than (a : (Int × Int) × Int × Int) (hp : Sm a.1 ∧ Sm a.2) : WS K (t_law_than K) (slotsD N_law_than [fD a.1, fD a.2]) [] 0 (ED fun d => d = .int (thanF a.1 a.2)) := by
  obtain ⟨⟨p, q⟩, r, s⟩ := a
  obtain ⟨⟨h1, h2, h3⟩, h4, h5, h6⟩ := hp
  show WS K (t_law_than K) [.is (fD (p, q)), .is (fD (r, s))] [] 0 _
  unfold t_law_than
  refine ws_ret ?_
  walk_at "dl"
  refine ow_timesI (sm_mul h1 h5) ?_
  walk_at "dl"
  refine ow_timesI (sm_mul h4 h2) ?_
  walk_at "dl"
  exact ⟨_, rfl, trivial, fun d hd => hd⟩
theorem rd_between (a : Option (Int × Int) × Option (Int × Int)) (hp : (∀ q, a.1 = some q → Nf q) ∧ ∀ q, a.2 = some q → Nf q) : WS K (t_between K) (slotsD N_between [oD a.1, oD a.2]) [] 0 (ED fun d => d = fD (btw a.1 a.2)) := by
  obtain ⟨lo, hi⟩ := a
  obtain ⟨hl, hh⟩ := hp
  show WS K (t_between K) [.is (oD lo), .is (oD hi)] [] 0 _
  unfold t_between
  match lo, hi with
  | none, none =>
    show WS K _ [.is .non, .is .non] [] 0 _
    refine ws_seq (ws_if ?_)
    walk_at "dl"
    refine ⟨_, rfl, brT ?_⟩
    walk_at "dl"
    refine ⟨_, rfl, brT (ws_ret ?_)⟩
    walk_at "dl"
    exact ⟨by simp, rfl⟩
  | none, some h =>
    obtain ⟨h1, h2, h3⟩ := (hh h rfl).sm
    show WS K _ [.is .non, .is (fD h)] [] 0 _
    refine ws_seq (ws_if ?_)
    walk_at "dl"
    refine ⟨_, rfl, brT ?_⟩
    walk_at "dl"
    refine ⟨_, rfl, brF (ws_next (ws_seq (ws_if ?_)))⟩
    walk_at "dl"
    refine ⟨_, rfl, brT (ws_ret ?_)⟩
    walk_at "dl"
    exact ⟨(_, _), rfl, ⟨h3, nle h2 (by decide)⟩, fun d hd => hd⟩
  | some l, none =>
    obtain ⟨h1, h2, h3⟩ := (hl l rfl).sm
    show WS K _ [.is (fD l), .is .non] [] 0 _
    refine ws_seq (ws_if ?_)
    walk_at "dl"
    refine ⟨_, rfl, brF (brF (ws_next (ws_seq (ws_if ?_))))⟩
    walk_at "dl"
    refine ⟨_, rfl, brF (ws_next (ws_seq (ws_if ?_)))⟩
    walk_at "dl"
    refine ⟨_, rfl, brT (ws_ret ?_)⟩
    walk_at "dl"
    exact ⟨(_, _), rfl, ⟨h3, nle h2 (by decide)⟩, fun d hd => hd⟩
  | some l, some h =>
    obtain ⟨h1, h2, h3⟩ := (hl l rfl).sm
    obtain ⟨g1, g2, g3⟩ := (hh h rfl).sm
    show WS K _ [.is (fD l), .is (fD h)] [] 0 _
    refine ws_seq (ws_if ?_)
    walk_at "dl"
    refine ⟨_, rfl, brF (brF (ws_next (ws_seq (ws_if ?_))))⟩
    walk_at "dl"
    refine ⟨_, rfl, brF (ws_next (ws_seq (ws_if ?_)))⟩
    walk_at "dl"
    refine ⟨_, rfl, brF (ws_next (ws_ret ?_))⟩
    walk_at "dl"
    refine ow_timesI (sm_mul h1 g2) ?_
    walk_at "dl"
    refine ow_timesI (sm_mul g1 h2) ?_
    walk_at "dl"
    refine ow_timesI (mul_okL (by decide) (by decide)) ?_
    walk_at "dl"
    have e2 : (2 * l.2).natAbs < 2 ^ 1002 := nle (nmul (show (2 : Int).natAbs < 2 ^ 2 by decide) h2) (by decide)
    refine ow_timesI (mul_ok e2 g2 (by decide) (by decide) (by decide)) ?_
    walk_at "dl"
    exact ⟨(_, _), rfl, ⟨Int.mul_ne_zero (Int.mul_ne_zero (by decide) h3) g3, nle (nmul e2 g2) (by decide)⟩, fun d hd => hd⟩
end
end K01
namespace K01
open PySem PySem.Spec PyProof.Rows L2 DL
/-! fractions in lowest terms: order -/
theorem cmpF_lt {p q : Int × Int} : cmpF p q < 0 ↔ ltF p q := by
  unfold cmpF ltF b2i
  by_cases h1 : q.1 * p.2 < p.1 * q.2 <;> by_cases h2 : p.1 * q.2 < q.1 * p.2 <;> simp [h1, h2] <;> omega
theorem thanF_eq (p q : Int × Int) : thanF p q = cmpF p q := by
  unfold thanF cmpF sg b2i
  by_cases h1 : q.1 * p.2 < p.1 * q.2 <;> by_cases h2 : p.1 * q.2 < q.1 * p.2 <;> simp [h1, h2] <;> omega
theorem cmpF_eq {p q : Int × Int} : cmpF p q = 0 ↔ p.1 * q.2 = q.1 * p.2 := by
  unfold cmpF b2i
  by_cases h1 : q.1 * p.2 < p.1 * q.2 <;> by_cases h2 : p.1 * q.2 < q.1 * p.2 <;> simp [h1, h2] <;> omega
theorem nf_eq {p q : Int × Int} (hp : 0 < p.2 ∧ Nat.gcd p.1.natAbs p.2.natAbs = 1) (hq : 0 < q.2 ∧ Nat.gcd q.1.natAbs q.2.natAbs = 1) (h : p.1 * q.2 = q.1 * p.2) : p = q := by
  obtain ⟨a, b⟩ := p
  obtain ⟨c, d⟩ := q
  obtain ⟨h1, h2⟩ := hp
  obtain ⟨h3, h4⟩ := hq
  simp only at h h1 h2 h3 h4
  have e : a.natAbs * d.natAbs = c.natAbs * b.natAbs := by rw [← Int.natAbs_mul, ← Int.natAbs_mul, h]
  have d1 : b.natAbs ∣ d.natAbs := Nat.Coprime.dvd_of_dvd_mul_left (Nat.Coprime.symm h2) ⟨c.natAbs, by rw [e, Nat.mul_comm]⟩
  have d2 : d.natAbs ∣ b.natAbs := Nat.Coprime.dvd_of_dvd_mul_left (Nat.Coprime.symm h4) ⟨a.natAbs, by rw [← e, Nat.mul_comm]⟩
  have e2 : b.natAbs = d.natAbs := Nat.dvd_antisymm d1 d2
  have e3 : b = d := by omega
  subst e3
  have e4 : a = c := Int.eq_of_mul_eq_mul_right (by omega) h
  subst e4
  rfl
theorem Nf.eq {p q : Int × Int} (hp : Nf p) (hq : Nf q) (h : p.1 * q.2 = q.1 * p.2) : p = q := nf_eq hp.2.2 hq.2.2 h
theorem ltF_trans {p q r : Int × Int} (hp : 0 < p.2) (hq : 0 < q.2) (hr : 0 < r.2) (h1 : ltF p q) (h2 : ltF q r) : ltF p r := by
  unfold ltF at *
  have a : p.1 * q.2 * r.2 < q.1 * p.2 * r.2 := Int.mul_lt_mul_of_pos_right h1 hr
  have b : q.1 * r.2 * p.2 < r.1 * q.2 * p.2 := Int.mul_lt_mul_of_pos_right h2 hp
  have c : q.2 * (p.1 * r.2) < q.2 * (r.1 * p.2) := by
    have e1 : q.2 * (p.1 * r.2) = p.1 * q.2 * r.2 := by grind
    have e2 : q.2 * (r.1 * p.2) = r.1 * q.2 * p.2 := by grind
    have e3 : q.1 * p.2 * r.2 = q.1 * r.2 * p.2 := by grind
    omega
  exact Int.lt_of_mul_lt_mul_left c (by omega)
theorem ltF_irr {p : Int × Int} : ¬ ltF p p := by unfold ltF; omega
/-- one more member, at its place -/
theorem ins_ord {L : List (Int × Int)} {q : Int × Int} {a : Nat} (hL : ∀ x ∈ L, 0 < x.2) (hq : 0 < q.2) (h1 : ∀ x ∈ L.take a, ltF x q) (h2 : ∀ x, L[a]? = some x → ltF q x) (pw : L.Pairwise ltF) : (L.take a ++ [q] ++ L.drop a).Pairwise ltF := by
  have hd : ∀ x ∈ L.drop a, ltF q x := by
    intro x hx
    obtain ⟨i, hi⟩ := List.mem_iff_getElem?.mp hx
    rw [List.getElem?_drop] at hi
    cases i with
    | zero => exact h2 x hi
    | succ i =>
      have hl := (List.getElem?_eq_some_iff.mp hi).1
      have ha : a < L.length := by omega
      have e := List.getElem?_eq_getElem ha
      have lt1 := h2 _ e
      have lt2 : ltF L[a] x := by
        obtain ⟨hl2, ex⟩ := List.getElem?_eq_some_iff.mp hi
        rw [← ex]
        exact List.pairwise_iff_getElem.mp pw a (a + (i + 1)) ha hl2 (by omega)
      exact ltF_trans hq (hL _ (List.getElem_mem ha)) (hL _ (List.mem_of_mem_drop hx)) lt1 lt2
  have hp : (L.take a ++ L.drop a).Pairwise ltF := by rw [List.take_append_drop]; exact pw
  obtain ⟨p1, p2, p3⟩ := List.pairwise_append.mp hp
  refine List.pairwise_append.mpr ⟨List.pairwise_append.mpr ⟨p1, List.pairwise_singleton _ _, fun x hx y hy => ?_⟩, p2, fun x hx y hy => ?_⟩
  · rw [List.mem_singleton.mp hy]; exact h1 x hx
  · rcases List.mem_append.mp hx with hx | hx
    · exact p3 x hx y hy
    · rw [List.mem_singleton.mp hx]; exact hd y hy
theorem ins_mem {α : Type} {L : List α} {q : α} (a : Nat) (x : α) : x ∈ L.take a ++ [q] ++ L.drop a ↔ x ∈ L ∨ x = q := by
  have e : x ∈ L ↔ x ∈ L.take a ++ L.drop a := by rw [List.take_append_drop]
  rw [e]
  simp only [List.mem_append, List.mem_singleton]
  grind
/-- one order alone -/
theorem ord_unique : ∀ {L M : List (Int × Int)}, L.Pairwise ltF → M.Pairwise ltF → (∀ x ∈ L, 0 < x.2) → (∀ x, x ∈ L ↔ x ∈ M) → L = M
  | [], [], _, _, _, _ => rfl
  | [], y :: M, _, _, _, h => absurd ((h y).mpr (by simp)) (by simp)
  | x :: L, [], _, _, _, h => absurd ((h x).mp (by simp)) (by simp)
  | x :: L, y :: M, pl, pm, hp, h => by
    obtain ⟨l1, l2⟩ := List.pairwise_cons.mp pl
    obtain ⟨m1, m2⟩ := List.pairwise_cons.mp pm
    have hy : y ∈ x :: L := (h y).mpr (by simp)
    have hx : x ∈ y :: M := (h x).mp (by simp)
    have py : 0 < y.2 := hp y hy
    have px : 0 < x.2 := hp x (by simp)
    have exy : x = y := by
      rcases List.mem_cons.mp hy with e | e
      · exact e.symm
      · rcases List.mem_cons.mp hx with e' | e'
        · exact e'
        · exact absurd (ltF_trans px py px (l1 y e) (m1 x e')) ltF_irr
    subst exy
    have : L = M := ord_unique l2 m2 (fun z hz => hp z (by simp [hz])) fun z => by
      constructor
      · intro hz
        rcases List.mem_cons.mp ((h z).mp (by simp [hz])) with e | e
        · subst e; exact absurd (l1 _ hz) ltF_irr
        · exact e
      · intro hz
        rcases List.mem_cons.mp ((h z).mpr (by simp [hz])) with e | e
        · subst e; exact absurd (m1 _ hz) ltF_irr
        · exact e
    rw [this]
theorem eqv_fD (p q : Int × Int) : PyData.eqv (py (fD p)) (py (fD q)) = decide (p = q) := by
  obtain ⟨a, b⟩ := p
  obtain ⟨c, d⟩ := q
  have e : (PyData.eqv (DL.py (fD (a, b))) (DL.py (fD (c, d))) = true) ↔ (a, b) = (c, d) := by
    have := eqv_tup DV.int eqv_int [a, b] [c, d]
    simpa using this
  exact Bool.eq_iff_iff.mpr (e.trans decide_eq_true_iff.symm)
theorem pl_fD (q : Int × Int) : Pl 1 (fD q) := pl_intsT (m := 0) [q.1, q.2]
section
variable {K : Fg}
theorem rd_is_frac (a : DV) (hp : isP a = true) : WS K (t_is_frac K) (slotsD N_is_frac [a]) [] 0 (ED fun d => d = .bl (isF a)) := by
  show WS K (t_is_frac K) [.is a, .no] [] 0 _
  unfold t_is_frac
  have fr : ∀ (l : Bool) (ds : List DV), (ds.all fun x => (tyD x).isSome) = true → WS K (t_is_frac K) [.is (sq l ds), .no] [] 0 (ED fun d => d = .bl (isFl ds)) := fun l ds hp => by
    unfold t_is_frac
    have ixs : ∀ (i : Int) (d : DV) (k : DV → Prop), atI ds i = some d → k d → OW K (rIx K) (sq l ds) (.int i) k := fun i d k h q => by
      cases l
      · exact ow_ixT h q
      · exact ow_ixL h q
    have lens : ∀ (k : DV → Prop), k (.int (ds.length : Int)) → CW K (rLenA K) [sq l ds] k := fun k q => by
      cases l
      · exact cw_lenT q
      · exact cw_lenL q
    refine ws_seq (ws_if ?_)
    refine wt_or (wt_not (wt_tru (w_isT2 (w_var rfl ⟨if l then "list" else "tuple", true, ?_, ?_, .inr (.inl ⟨_, rfl, ?_⟩)⟩))))
    · cases l <;> rfl
    · cases l <;> rfl
    refine brF ?_
    walk_at "dl"
    refine lens _ ?_
    walk_at "dl"
    refine brN (fun h => ws_ret (w_bl ?_)) (fun h => ws_next ?_)
    · show DV.bl false = _
      congr 1
      match ds, h with
      | [], _ => rfl
      | [_], _ => simp [isFl]
      | [_, _], h => exact absurd rfl h
      | _ :: _ :: _ :: _, _ => simp [isFl]
    have h2 : ds.length = 2 := by omega
    match ds, h2 with
    | [x, y], _ =>
      obtain ⟨hx, hy⟩ : (tyD x).isSome = true ∧ (tyD y).isSome = true := by simpa using hp
      have one : ∀ z : DV, (tyD z).isSome = true → ∀ (Γ : List SA) (O : Own) (n : Nat), Γ[1]? = some (.is z) → W K (tAndV (tCB (rIsA K) (tCons (tVar 1) (tCons (tC (.ty "int")) tNil))) (tNotV (tCB (rIsA K) (tCons (tVar 1) (tCons (tC (.ty "bool")) tNil))))) Γ O n fun d n' => d = .bl (isI z) ∧ n' = n := by
        intro z hz Γ O n hΓ
        refine w_and (w_cb (wa_cons (w_var hΓ (wa_cons (w_ty (wa_nil ?_))))))
        cases z with
        | int i =>
          refine cw_isTy rfl (b := true) rfl ⟨true, rfl, fun _ => ?_, fun z => nomatch z⟩
          exact w_not (w_cb (wa_cons (w_var hΓ (wa_cons (w_ty (wa_nil (cw_isTy rfl (b := false) rfl ⟨false, rfl, rfl, rfl⟩)))))))
        | bl b =>
          refine cw_isTy rfl (b := true) rfl ⟨true, rfl, fun _ => ?_, fun z => nomatch z⟩
          exact w_not (w_cb (wa_cons (w_var hΓ (wa_cons (w_ty (wa_nil (cw_isTy rfl (b := true) rfl ⟨true, rfl, rfl, rfl⟩)))))))
        | non => exact cw_isTy rfl (b := false) rfl ⟨false, rfl, (fun z => nomatch z), fun _ => ⟨rfl, rfl⟩⟩
        | str _ => exact cw_isTy rfl (b := false) rfl ⟨false, rfl, (fun z => nomatch z), fun _ => ⟨rfl, rfl⟩⟩
        | tup _ => exact cw_isTy rfl (b := false) rfl ⟨false, rfl, (fun z => nomatch z), fun _ => ⟨rfl, rfl⟩⟩
        | lst _ => exact cw_isTy rfl (b := false) rfl ⟨false, rfl, (fun z => nomatch z), fun _ => ⟨rfl, rfl⟩⟩
        | dic _ _ => exact cw_isTy rfl (b := false) rfl ⟨false, rfl, (fun z => nomatch z), fun _ => ⟨rfl, rfl⟩⟩
        | ty _ => cases hz
        | adr _ => cases hz
        | ins _ _ _ => cases hz
      refine ws_seq (ws_if (wt_not (wt_tru (w_cb (wa_cons (w_of_wl (wl_lcF (α := DV) (sw_seq (w_var rfl ⟨[x, y], ?_, [x, y], id, fun z => .bl (isI z), by simp, by simp, ?_, ?_⟩)))))))))
      · cases l
        · exact .inr rfl
        · exact .inl rfl
      · intro z hz
        refine gw_name (by simp) ?_
        refine one z ?_ _ _ _ rfl
        rcases List.mem_cons.mp hz with e | e
        · subst e; exact hx
        · have e' : z = y := by simpa using e
          subst e'; exact hy
      refine wa_nil (cw_all (bs := [isI x, isI y]) (.inr (.inl ⟨_, rfl, ?_⟩)))
      by_cases hi : isI x = true ∧ isI y = true
      · rw [hi.1, hi.2]
        refine brF (ws_next ?_)
        cases x with
        | int p =>
          cases y with
          | int q =>
            refine ws_ret (w_and (w_op (w_op (w_var rfl (w_int (ixs _ _ _ rfl (w_int (ow_gt ⟨_, rfl, fun h => ?_, fun h => ?_⟩))))))))
            · walk_at "dl"
              refine ixs _ _ _ rfl ?_
              walk_at "dl"
              refine ixs _ _ _ rfl ?_
              walk_at "dl"
              show DV.bl _ = DV.bl _
              congr 1
              have hq : (0 : Int) < q := of_decide_eq_true h
              simp [isFl, hq]
              omega
            · have hq : ¬ (0 : Int) < q := of_decide_eq_false h
              show DV.bl false = DV.bl _
              simp [isFl, hq]
          | _ => exact absurd hi.2 (by simp [isI])
        | _ => exact absurd hi.1 (by simp [isI])
      · have e0 : ([isI x, isI y].all id) = false := by
          cases h1 : isI x
          · rfl
          · cases h2 : isI y
            · rfl
            · exact absurd ⟨h1, h2⟩ hi
        rw [e0]
        refine brT (ws_ret (w_bl ?_))
        show DV.bl false = DV.bl _
        congr 1
        cases x <;> cases y <;> first | rfl | exact absurd ⟨rfl, rfl⟩ hi
  have nf : ∀ t, tyD a = some t → kitL t ["list", "tuple"] = some false → isF a = false → WS K (t_is_frac K) [.is a, .no] [] 0 (ED fun d => d = .bl (isF a)) := fun t h1 h2 h3 => by
    unfold t_is_frac
    refine ws_seq (ws_if ?_)
    refine wt_or (wt_not (wt_tru (w_isT2 (w_var rfl ⟨t, false, h1, h2, .inr (.inl ⟨_, rfl, ?_⟩)⟩))))
    refine brT (brT (ws_ret (w_bl ?_)))
    show DV.bl false = _
    rw [h3]
  cases a with
  | lst ds => exact fr true ds hp
  | tup ds => exact fr false ds hp
  | non => exact nf _ rfl rfl rfl
  | bl _ => exact nf _ rfl rfl rfl
  | int _ => exact nf _ rfl rfl rfl
  | str _ => exact nf _ rfl rfl rfl
  | dic _ _ => exact nf _ rfl rfl rfl
  | ty _ => cases hp
  | adr _ => cases hp
  | ins _ _ _ => cases hp
end
end K01
namespace K01
open PySem PySem.Spec PyProof.Rows L2 DL
theorem frac_spec {t b : Int} (hb : b ≠ 0) : ∃ g : Int, g ≠ 0 ∧ t = (frac t b).1 * g ∧ b = (frac t b).2 * g ∧ 0 < (frac t b).2 ∧ Nat.gcd (frac t b).1.natAbs (frac t b).2.natAbs = 1 := by
  have hG : Nat.gcd t.natAbs b.natAbs ≠ 0 := fun z => hb (by have := (Nat.gcd_eq_zero_iff.mp z).2; omega)
  have hg : byOf t b ≠ 0 := by unfold byOf; split <;> omega
  have hn : (byOf t b).natAbs = Nat.gcd t.natAbs b.natAbs := by unfold byOf; split <;> omega
  have d1 : byOf t b ∣ t := Int.natAbs_dvd_natAbs.mp (by rw [hn]; exact Nat.gcd_dvd_left _ _)
  have d2 : byOf t b ∣ b := Int.natAbs_dvd_natAbs.mp (by rw [hn]; exact Nat.gcd_dvd_right _ _)
  obtain ⟨t', et⟩ := d1
  obtain ⟨b', eb⟩ := d2
  have f1 : (frac t b).1 = t' := by
    show t.fdiv (byOf t b) = t'
    generalize byOf t b = g at *
    rw [et]; exact Int.mul_fdiv_cancel_left _ hg
  have f2 : (frac t b).2 = b' := by
    show b.fdiv (byOf t b) = b'
    generalize byOf t b = g at *
    rw [eb]; exact Int.mul_fdiv_cancel_left _ hg
  rw [f1, f2]
  refine ⟨byOf t b, hg, et.trans (Int.mul_comm _ _), eb.trans (Int.mul_comm _ _), ?_, ?_⟩
  · by_cases hp : 0 < b
    · have g0 : 0 < byOf t b := by unfold byOf; rw [if_pos hp]; omega
      refine Int.lt_of_mul_lt_mul_left (a := byOf t b) ?_ (by omega)
      rw [← eb]; omega
    · have g0 : byOf t b < 0 := by unfold byOf; rw [if_neg hp]; omega
      refine Int.lt_of_mul_lt_mul_left (a := -byOf t b) ?_ (by omega)
      rw [Int.neg_mul, Int.neg_mul, ← eb]; omega
  · have e : Nat.gcd t.natAbs b.natAbs = Nat.gcd t.natAbs b.natAbs * Nat.gcd t'.natAbs b'.natAbs := by
      have q : Nat.gcd t.natAbs b.natAbs = Nat.gcd ((byOf t b).natAbs * t'.natAbs) ((byOf t b).natAbs * b'.natAbs) := by rw [← Int.natAbs_mul, ← Int.natAbs_mul, ← et, ← eb]
      rw [Nat.gcd_mul_left, hn] at q
      exact q
    have e2 : Nat.gcd t.natAbs b.natAbs * 1 = Nat.gcd t.natAbs b.natAbs * Nat.gcd t'.natAbs b'.natAbs := by rw [Nat.mul_one]; exact e
    exact (Nat.eq_of_mul_eq_mul_left (Nat.pos_of_ne_zero hG) e2).symm
theorem frac_is {t b : Int} {p : Int × Int} (hb : b ≠ 0) (hp : 0 < p.2 ∧ Nat.gcd p.1.natAbs p.2.natAbs = 1) (h : t * p.2 = p.1 * b) : frac t b = p := by
  obtain ⟨g, hg, e1, e2, h3⟩ := frac_spec (t := t) hb
  refine nf_eq h3 hp ?_
  generalize (frac t b).1 = x at *
  generalize (frac t b).2 = y at *
  refine Int.eq_of_mul_eq_mul_right hg ?_
  rw [e1, e2] at h
  grind
theorem frac_same {t b u c : Int} (hb : b ≠ 0) (hc : c ≠ 0) (h : t * c = u * b) : frac t b = frac u c := by
  obtain ⟨g, hg, e1, e2, h3⟩ := frac_spec (t := u) hc
  refine frac_is hb h3 ?_
  generalize (frac u c).1 = x at *
  generalize (frac u c).2 = y at *
  subst e1 e2
  refine Int.eq_of_mul_eq_mul_right hg ?_
  grind
theorem frac_le {t b : Int} (hb : b ≠ 0) : (frac t b).1.natAbs ≤ t.natAbs ∧ (frac t b).2.natAbs ≤ b.natAbs := by
  obtain ⟨g, hg, e1, e2, h3⟩ := frac_spec (t := t) hb
  have g1 : 1 ≤ g.natAbs := by omega
  generalize (frac t b).1 = x at *
  generalize (frac t b).2 = y at *
  subst e1 e2
  rw [Int.natAbs_mul, Int.natAbs_mul]
  exact ⟨Nat.le_mul_of_pos_right _ g1, Nat.le_mul_of_pos_right _ g1⟩
theorem frac_nf {t b : Int} (hb : b ≠ 0) (h1 : t.natAbs < 2 ^ 110) (h2 : b.natAbs < 2 ^ 110) : Nf (frac t b) := by
  obtain ⟨g, hg, e1, e2, h3⟩ := frac_spec (t := t) hb
  obtain ⟨l1, l2⟩ := frac_le (t := t) hb
  exact ⟨by omega, by omega, h3⟩
section
variable {K : Fg}
theorem get_map {α : Type} (e : α → DV) {L : List α} {i : Nat} {x : α} (h : L[i]? = some x) : (L.map e)[i]? = some (e x) := by rw [List.getElem?_map, h]; rfl
theorem rd_arranged (a : List (Bool × Int × Int)) (hp : a.length ≤ 1000 ∧ ∀ x ∈ a, Nf x.2) : WS K (t_arranged K) (slotsD N_arranged [.lst (a.map fun x => fS x.1 x.2)]) [] 0 (ED fun d => ∃ L, d = .lst (L.map fD) ∧ Ord L (a.map (·.2)) ∧ L.length ≤ a.length) := by
  obtain ⟨hl, hn⟩ := hp
  show WS K (t_arranged K) [.is (.lst (a.map fun x => fS x.1 x.2)), .no, .no, .no] [] 0 _
  unfold t_arranged
  refine ws_seq (ws_asgOwn (wl_lst (wa_nil ⟨by simp, ?_⟩)))
  refine ws_seq (ws_for (vs := [2]) (sw_seq (w_var rfl ⟨_, .inl rfl, fun i Γ O n => ∃ (x y : SA) (L : List (Int × Int)), Γ = [.is (.lst (a.map fun x => fS x.1 x.2)), .own 0, x, y] ∧ O = [some (L.map fD)] ∧ Ord L ((a.take i).map (·.2)) ∧ L.length ≤ i ∧ n = 0, ⟨_, _, [], rfl, rfl, ⟨.nil, by simp⟩, by simp, rfl⟩, ?_, ?_⟩)))
  · rintro i x _ _ _ hx ⟨x0, y0, L, rfl, rfl, ⟨hpw, hmem⟩, hlen, rfl⟩
    rw [List.getElem?_map] at hx
    obtain ⟨⟨l, q⟩, hq, rfl⟩ : ∃ z, a[i]? = some z ∧ fS z.1 z.2 = x := by
      cases h : a[i]? with
      | none => rw [h] at hx; cases hx
      | some z => rw [h] at hx; exact ⟨z, rfl, by cases hx; rfl⟩
    have hqn : Nf q := hn (l, q) (List.mem_of_getElem? hq)
    have hia : i < a.length := (List.getElem?_eq_some_iff.mp hq).1
    have take1 : (a.take (i + 1)).map (·.2) = (a.take i).map (·.2) ++ [q] := by rw [List.take_add_one, hq]; simp
    have hLn : ∀ z ∈ L, Nf z := fun z hz => by
      obtain ⟨w, hw, e⟩ := List.mem_map.mp ((hmem z).mp hz)
      rw [← e]; exact hn w (List.mem_of_mem_take hw)
    refine gw_name (by simp) ?_
    refine ws_seq (ws_asg (w_int ?_))
    have cmpW : ∀ (j : Nat) (n : Nat) (z : Int × Int) (k : DV → Nat → Prop), L[j]? = some z → k (.int (cmpF z q)) n → W K (tCall (sp_compare K) [] E0 (tCons (tOp (rIx K) (tVar 1) (tVar 3)) (tCons (tVar 2) tNil))) [.is (.lst (a.map fun x => fS x.1 x.2)), .own 0, .is (fS l q), .is (.int (j : Int))] [some (L.map fD)] n k := fun j n z k hz hk => by
      refine w_call (wa_cons (w_ixOwn rfl rfl (w_var rfl ⟨_, _, rfl, DL.atI_nat (get_map fD hz), ?_⟩)))
      refine wa_cons (w_var rfl (wa_nil ⟨(z, l, q), rfl, ⟨(hLn z (List.mem_of_getElem? hz)).sm, hqn.sm⟩, fun d hd => ?_⟩))
      rw [hd]; exact hk
    refine ws_seq (ws_while ⟨fun m Γ O n => ∃ j : Nat, Γ = [.is (.lst (a.map fun x => fS x.1 x.2)), .own 0, .is (fS l q), .is (.int (j : Int))] ∧ O = [some (L.map fD)] ∧ j ≤ L.length ∧ m = L.length - j ∧ (∀ z ∈ L.take j, ltF z q) ∧ n = 0, ⟨_, 0, rfl, rfl, Nat.zero_le _, rfl, by simp, rfl⟩, ?_⟩)
    rintro m _ _ _ ⟨j, rfl, rfl, hj, rfl, hlt, rfl⟩
    have put : ∀ (j : Nat), j ≤ L.length → (∀ z ∈ L.take j, ltF z q) → (∀ z, L[j]? = some z → ltF q z) → Ord (L.take j ++ [q] ++ L.drop j) ((a.take (i + 1)).map (·.2)) := fun j hj h1 h2 =>
      ⟨ins_ord (fun x hx => (hLn x hx).2.2.1) hqn.2.2.1 h1 h2 hpw, fun z => by rw [ins_mem, take1, hmem]; simp⟩
    have fin : ∀ (E : KE) (j : Nat), j ≤ L.length → (∀ z ∈ L.take j, ltF z q) → (∀ z, L[j]? = some z → ¬ ltF z q) →
        (∀ (x y : SA) (L' : List (Int × Int)), Ord L' ((a.take (i + 1)).map (·.2)) → L'.length ≤ i + 1 → E.nx [.is (.lst (a.map fun x => fS x.1 x.2)), .own 0, x, y] [some (L'.map fD)] 0) →
        WS K (tIfS (tOr (tTest (tOp (rEqA K) (tVar 3) (tCB (rLenA K) (tCons (tVar 1) tNil)))) (tTest (tOp (rNeA K) (tCall (sp_compare K) [] E0 (tCons (tOp (rIx K) (tVar 1) (tVar 3)) (tCons (tVar 2) tNil))) (tC (.int 0))))) (tDrop (tBM K "list" rInsert (tVar 1) (tCons (tVar 3) (tCons (tTup (tCons (tOp (rIx K) (tVar 2) (tC (.int 0))) (tCons (tOp (rIx K) (tVar 2) (tC (.int 1))) tNil))) tNil)))) tNext)
          [.is (.lst (a.map fun x => fS x.1 x.2)), .own 0, .is (fS l q), .is (.int (j : Int))] [some (L.map fD)] 0 E := by
      intro E j hj h1 h2 hE
      have ins : (∀ z, L[j]? = some z → ltF q z) → WS K (tDrop (tBM K "list" rInsert (tVar 1) (tCons (tVar 3) (tCons (tTup (tCons (tOp (rIx K) (tVar 2) (tC (.int 0))) (tCons (tOp (rIx K) (tVar 2) (tC (.int 1))) tNil))) tNil))))
          [.is (.lst (a.map fun x => fS x.1 x.2)), .own 0, .is (fS l q), .is (.int (j : Int))] [some (L.map fD)] 0 E := by
        intro h3
        have ixs : ∀ (k : DV → Prop) (m : Int) (c : Int), atI [DV.int q.1, DV.int q.2] m = some (.int c) → k (.int c) → OW K (rIx K) (fS l q) (.int m) k := fun k m c h hk => by
          cases l
          · exact ow_ixT h hk
          · exact ow_ixL h hk
        refine ws_insert rfl rfl (by rw [List.length_map]; omega) ?_
        refine wa_cons (w_var rfl (wa_cons (w_tup (wa_cons (w_op (w_var rfl (w_int (ixs _ 0 q.1 rfl ?_))))))))
        refine wa_cons (w_op (w_var rfl (w_int (ixs _ 1 q.2 rfl (wa_nil ⟨by simp, wa_nil ⟨j, _, rfl, by rw [List.length_map]; exact hj, ?_⟩⟩)))))
        have e : (L.map fD).take j ++ [DV.tup [DV.int q.1, DV.int q.2]] ++ (L.map fD).drop j = (L.take j ++ [q] ++ L.drop j).map fD := by simp
        rw [e]
        refine hE _ _ _ (put j hj h1 h3) ?_
        simp only [List.length_append, List.length_take, List.length_drop, List.length_singleton]
        omega
      refine ws_if (wt_or (wt_test (w_op (w_var rfl (w_lenOwn rfl rfl (ow_eqI ⟨_, rfl, fun h => ?_, fun h => ?_⟩))))))
      · have hj2 : j = L.length := by
          have := of_decide_eq_true h
          rw [List.length_map] at this; omega
        refine ⟨fun _ => ins fun z hz => ?_, fun z => nomatch z⟩
        rw [hj2, List.getElem?_eq_none (Nat.le_refl _)] at hz; cases hz
      · have hj2 : j < L.length := by
          have := of_decide_eq_false h
          rw [List.length_map] at this; omega
        have hz := List.getElem?_eq_getElem hj2
        refine wt_test (w_op (cmpW j 0 L[j] _ hz (w_int (ow_neI ⟨_, rfl, brN (fun hne => ins fun z hz' => ?_) (fun heq => ?_)⟩))))
        · have e : z = L[j] := by rw [hz] at hz'; cases hz'; rfl
          have n1 := h2 _ hz
          rw [← cmpF_lt] at n1
          rw [e]
          unfold ltF
          have n2 : ¬ (L[j].1 * q.2 = q.1 * L[j].2) := fun z => hne (cmpF_eq.mpr z)
          have n3 : ¬ (L[j].1 * q.2 < q.1 * L[j].2) := fun z => n1 (cmpF_lt.mpr z)
          omega
        · have e : L[j] = q := (hLn _ (List.getElem_mem hj2)).eq hqn (cmpF_eq.mp heq)
          refine ws_next (hE _ _ L ⟨hpw, fun z => ?_⟩ (by omega))
          rw [take1, List.mem_append, ← hmem]
          constructor
          · exact .inl
          · rintro (h | h)
            · exact h
            · rw [List.mem_singleton.mp h, ← e]; exact List.getElem_mem hj2
    refine wt_and (wt_test (w_op (w_var rfl (w_lenOwn rfl rfl (ow_lt ⟨_, rfl, br (fun h => ?_) (fun h => ?_)⟩)))))
    · have hj2 : j < L.length := by rw [List.length_map] at h; omega
      have hz := List.getElem?_eq_getElem hj2
      refine wt_test (w_op (cmpW j 0 L[j] _ hz (w_int (ow_lt ⟨_, rfl, br (fun hc => ?_) (fun hc => ?_)⟩))))
      · refine ws_aug (a := (j : Int)) rfl (w_int ⟨1, rfl, ?_⟩)
        refine ⟨L.length - (j + 1), by omega, j + 1, rfl, rfl, hj2, rfl, fun z hz2 => ?_, rfl⟩
        rw [List.take_add_one, hz] at hz2
        rcases List.mem_append.mp hz2 with h | h
        · exact hlt z h
        · have e : z = L[j] := by simpa using h
          rw [e]; exact cmpF_lt.mp hc
      · refine fin _ j hj hlt (fun z hz' => ?_) fun x y L' hO hL' => ⟨x, y, L', rfl, rfl, hO, hL', rfl⟩
        have e : z = L[j] := by rw [hz] at hz'; cases hz'; rfl
        rw [e, ← cmpF_lt]; exact hc
    · have hj2 : j = L.length := by rw [List.length_map] at h; omega
      refine brF (fin _ j hj hlt (fun z hz' => ?_) fun x y L' hO hL' => ⟨x, y, L', rfl, rfl, hO, hL', rfl⟩)
      rw [hj2, List.getElem?_eq_none (Nat.le_refl _)] at hz'; cases hz'
  · rintro _ _ _ ⟨x0, y0, L, rfl, rfl, hO, hlen, rfl⟩
    rw [List.length_map] at hO hlen
    rw [List.take_length] at hO
    exact ws_retOwn rfl rfl ⟨L, rfl, hO, hlen⟩
end
end K01
namespace K01
open PySem PySem.Spec PyProof.Rows L2 DL
theorem cut_to {ds : List DV} {j : Nat} (h : j ≤ ds.length) : DL.cutD ds none (some (j : Int)) = ds.take j := by
  unfold DL.cutD
  rw [HT.sIx_nat, HT.sIx_none, Nat.min_eq_left h]
  rfl
theorem cut_from {ds : List DV} {j : Nat} (h : j ≤ ds.length) : DL.cutD ds (some (j : Int)) none = ds.drop j := by
  unfold DL.cutD
  rw [HT.sIx_nat, HT.sIx_none, Nat.min_eq_left h]
  exact List.take_of_length_le (by simp)
section
variable {K : Fg}
theorem rd_law_order (a : List (Int × Int)) (hp : a.length ≤ 1000 ∧ ∀ x ∈ a, Nf x) : WS K (t_law_order K) (slotsD N_law_order [.lst (a.map fD)]) [] 0 (ED fun d => ∃ L, d = .lst (L.map fD) ∧ Ord L a ∧ L.length ≤ a.length) := by
  obtain ⟨hl, hn⟩ := hp
  show WS K (t_law_order K) [.is (.lst (a.map fD)), .no, .no, .no] [] 0 _
  unfold t_law_order
  refine ws_seq (ws_asg (w_of_wl (wl_lst (wa_nil ⟨by simp, ?_⟩))))
  refine ws_seq (ws_for (vs := [2]) (sw_seq (w_var rfl ⟨_, .inl rfl, fun i Γ O n => ∃ (x y : SA) (L : List (Int × Int)), Γ = [.is (.lst (a.map fD)), .is (.lst (L.map fD)), x, y] ∧ Ord L (a.take i) ∧ L.length ≤ i, ⟨_, _, [], rfl, ⟨.nil, by simp⟩, by simp⟩, ?_, ?_⟩)))
  · rintro i x _ O n hx ⟨x0, y0, L, rfl, ⟨hpw, hmem⟩, hlen⟩
    rw [List.getElem?_map] at hx
    obtain ⟨q, hq, rfl⟩ : ∃ z, a[i]? = some z ∧ fD z = x := by
      cases h : a[i]? with
      | none => rw [h] at hx; cases hx
      | some z => rw [h] at hx; exact ⟨z, rfl, by cases hx; rfl⟩
    have hqn : Nf q := hn q (List.mem_of_getElem? hq)
    have hia : i < a.length := (List.getElem?_eq_some_iff.mp hq).1
    have take1 : a.take (i + 1) = a.take i ++ [q] := by rw [List.take_add_one, hq]; simp
    have hLn : ∀ z ∈ L, Nf z := fun z hz => hn z (List.mem_of_mem_take ((hmem z).mp hz))
    refine gw_name (by simp) ?_
    refine ws_seq (ws_asg (w_int ?_))
    have cmpW : ∀ (O : Own) (j : Nat) (n : Nat) (z : Int × Int) (k : DV → Nat → Prop), L[j]? = some z → k (.int (cmpF z q)) n → W K (tCall (sp_law_than K) [] E0 (tCons (tOp (rIx K) (tVar 1) (tVar 3)) (tCons (tVar 2) tNil))) [.is (.lst (a.map fD)), .is (.lst (L.map fD)), .is (fD q), .is (.int (j : Int))] O n k := fun O j n z k hz hk => by
      refine w_call (wa_cons (w_op (w_var rfl (w_var rfl (ow_ixN (get_map fD hz) ?_)))))
      refine wa_cons (w_var rfl (wa_nil ⟨(z, q), rfl, ⟨(hLn z (List.mem_of_getElem? hz)).sm, hqn.sm⟩, fun d hd => ?_⟩))
      rw [hd, thanF_eq]; exact hk
    refine ws_seq (ws_while ⟨fun m Γ O n => ∃ j : Nat, Γ = [.is (.lst (a.map fD)), .is (.lst (L.map fD)), .is (fD q), .is (.int (j : Int))] ∧ j ≤ L.length ∧ m = L.length - j ∧ (∀ z ∈ L.take j, ltF z q), ⟨_, 0, rfl, Nat.zero_le _, rfl, by simp⟩, ?_⟩)
    rintro m _ O n ⟨j, rfl, hj, rfl, hlt⟩
    have put : ∀ (j : Nat), j ≤ L.length → (∀ z ∈ L.take j, ltF z q) → (∀ z, L[j]? = some z → ltF q z) → Ord (L.take j ++ [q] ++ L.drop j) (a.take (i + 1)) := fun j hj h1 h2 =>
      ⟨ins_ord (fun x hx => (hLn x hx).2.2.1) hqn.2.2.1 h1 h2 hpw, fun z => by rw [ins_mem, take1, hmem]; simp⟩
    have fin : ∀ (O : Own) (n : Nat) (E : KE) (j : Nat), j ≤ L.length → (∀ z ∈ L.take j, ltF z q) → (∀ z, L[j]? = some z → ¬ ltF z q) →
        (∀ (O : Own) (n : Nat) (x y : SA) (L' : List (Int × Int)), Ord L' (a.take (i + 1)) → L'.length ≤ i + 1 → E.nx [.is (.lst (a.map fD)), .is (.lst (L'.map fD)), x, y] O n) →
        WS K (tIfS (tOr (tTest (tOp (rEqA K) (tVar 3) (tCB (rLenA K) (tCons (tVar 1) tNil)))) (tTest (tOp (rNeA K) (tOp (rIx K) (tVar 1) (tVar 3)) (tVar 2)))) (tAsg (tOp (rPlus K) (tOp (rPlus K) (tSl (rCut K) (tVar 1) tNoPart (tPart (tVar 3))) (tLst (tCons (tVar 2) tNil))) (tSl (rCut K) (tVar 1) (tPart (tVar 3)) tNoPart)) (gName 1)) tNext)
          [.is (.lst (a.map fD)), .is (.lst (L.map fD)), .is (fD q), .is (.int (j : Int))] O n E := by
      intro O n E j hj h1 h2 hE
      have hj' : j ≤ (L.map fD).length := by rw [List.length_map]; exact hj
      have ins : ∀ n, (∀ z, L[j]? = some z → ltF q z) → WS K (tAsg (tOp (rPlus K) (tOp (rPlus K) (tSl (rCut K) (tVar 1) tNoPart (tPart (tVar 3))) (tLst (tCons (tVar 2) tNil))) (tSl (rCut K) (tVar 1) (tPart (tVar 3)) tNoPart)) (gName 1))
          [.is (.lst (a.map fD)), .is (.lst (L.map fD)), .is (fD q), .is (.int (j : Int))] O n E := by
        intro n h3
        refine ws_asg (w_op (w_op (w_of_wl (wl_slL (w_var rfl ⟨_, rfl, wo_none (wo_some (w_var rfl ⟨_, rfl, ?_⟩))⟩)))))
        rw [cut_to hj']
        refine w_of_wl (wl_lst (wa_cons (w_var rfl (wa_nil ⟨by simp, ows (owl_cat ?_ ?_)⟩))))
        · simp; omega
        refine w_of_wl (wl_slL (w_var rfl ⟨_, rfl, wo_some (w_var rfl ⟨_, rfl, wo_none ?_⟩)⟩))
        rw [cut_from hj']
        refine ows (owl_cat ?_ ?_)
        · simp; omega
        have e : (L.map fD).take j ++ [fD q] ++ (L.map fD).drop j = (L.take j ++ [q] ++ L.drop j).map fD := by simp
        rw [e]
        refine hE _ _ _ _ _ (put j hj h1 h3) ?_
        simp only [List.length_append, List.length_take, List.length_drop, List.length_singleton]
        omega
      refine ws_if (wt_or (wt_test (w_op (w_var rfl (w_cb (wa_cons (w_var rfl (wa_nil (cw_lenL (ow_eqI ⟨_, rfl, fun h => ?_, fun h => ?_⟩))))))))))
      · have hj2 : j = L.length := by
          have := of_decide_eq_true h
          rw [List.length_map] at this; omega
        refine ⟨fun _ => ins _ fun z hz => ?_, fun z => nomatch z⟩
        rw [hj2, List.getElem?_eq_none (Nat.le_refl _)] at hz; cases hz
      · have hj2 : j < L.length := by
          have := of_decide_eq_false h
          rw [List.length_map] at this; omega
        have hz := List.getElem?_eq_getElem hj2
        refine wt_test (w_op (w_op (w_var rfl (w_var rfl (ow_ixN (get_map fD hz) (w_var rfl (ow_neD (pl_fD _).shp (pl_fD _).shp ⟨_, rfl, ?_⟩)))))))
        rw [eqv_fD]
        refine brN (fun hne => ins _ fun z hz' => ?_) (fun heq => ?_)
        · have e : z = L[j] := by rw [hz] at hz'; cases hz'; rfl
          have n1 := h2 _ hz
          rw [e]
          unfold ltF at n1 ⊢
          have n2 : ¬ (L[j].1 * q.2 = q.1 * L[j].2) := fun z => hne ((hLn _ (List.getElem_mem hj2)).eq hqn z)
          omega
        · refine ws_next (hE _ _ _ _ L ⟨hpw, fun z => ?_⟩ (by omega))
          rw [take1, List.mem_append, ← hmem]
          constructor
          · exact .inl
          · rintro (h | h)
            · exact h
            · rw [List.mem_singleton.mp h, ← heq]; exact List.getElem_mem hj2
    refine wt_and (wt_test (w_op (w_var rfl (w_cb (wa_cons (w_var rfl (wa_nil (cw_lenL (ow_lt ⟨_, rfl, br (fun h => ?_) (fun h => ?_)⟩)))))))))
    · have hj2 : j < L.length := by rw [List.length_map] at h; omega
      have hz := List.getElem?_eq_getElem hj2
      refine wt_test (w_op (cmpW _ j _ L[j] _ hz (w_int (ow_lt ⟨_, rfl, br (fun hc => ?_) (fun hc => ?_)⟩))))
      · refine ws_asg (w_op (w_var rfl (w_int (ow_plusI ?_))))
        refine ⟨L.length - (j + 1), by omega, j + 1, rfl, hj2, rfl, fun z hz2 => ?_⟩
        rw [List.take_add_one, hz] at hz2
        rcases List.mem_append.mp hz2 with h | h
        · exact hlt z h
        · have e : z = L[j] := by simpa using h
          rw [e]; exact cmpF_lt.mp hc
      · refine fin _ _ _ j hj hlt (fun z hz' => ?_) fun O n x y L' hO hL' => ⟨x, y, L', rfl, hO, hL'⟩
        have e : z = L[j] := by rw [hz] at hz'; cases hz'; rfl
        rw [e, ← cmpF_lt]; exact hc
    · have hj2 : j = L.length := by rw [List.length_map] at h; omega
      refine brF (fin _ _ _ j hj hlt (fun z hz' => ?_) fun O n x y L' hO hL' => ⟨x, y, L', rfl, hO, hL'⟩)
      rw [hj2, List.getElem?_eq_none (Nat.le_refl _)] at hz'; cases hz'
  · rintro _ O n ⟨x0, y0, L, rfl, hO, hlen⟩
    rw [List.length_map] at hO hlen
    rw [List.take_length] at hO
    exact ws_ret (w_var rfl ⟨L, rfl, hO, hlen⟩)
theorem rd_law_pick (a : List DV) (n : Nat) (hp : 1 ≤ a.length ∧ a.length ≤ 1000) (hn : n + 1 ≤ 1000000) : WS K (t_law_pick K) (slotsP N_law_pick [.lst a]) [] n (EP (n + 1) fun d => d ∈ a) := by
  show WS K (t_law_pick K) [.pen, .is (.lst a)] [] n _
  unfold t_law_pick
  refine ws_ret (w_op (w_var rfl (w_callP rfl (wa_cons (w_cb (wa_cons (w_var rfl (wa_nil (cw_lenL (wa_nil ⟨(a.length : Int), rfl, ⟨by omega, ?_⟩, hn, ?_⟩))))))))))
  · exact nle (b := 9000) (show ((a.length : Nat) : Int).natAbs < 2 ^ 10 by omega) (by decide)
  · rintro _ ⟨r, rfl, h1, h2⟩
    obtain ⟨j, rfl⟩ : ∃ j : Nat, r = (j : Int) := ⟨r.toNat, by omega⟩
    have hj : j < a.length := by omega
    exact ow_ixN (List.getElem?_eq_getElem hj) ⟨Nat.le_refl _, List.getElem_mem hj⟩
theorem rd_law_drawn (a : Unit) (n : Nat) (hp : True) (hn : n + 3 ≤ 1000000) : WS K (t_law_drawn K) (slotsP N_law_drawn []) [] n (EP (n + 3) fun d => ∃ q, d = fD q ∧ Nf q) := by
  show WS K (t_law_drawn K) [.pen, .no] [] n _
  unfold t_law_drawn
  refine ws_seq (ws_asg (w_callP rfl (wa_cons (w_of_wl (wl_lst ?_)))))
  walk_at "dl"
  refine ow_pow ⟨by decide, by decide, by decide⟩ ?_
  walk_at "dl"
  refine ow_pow ⟨by decide, by decide, by decide⟩ ?_
  walk_at "dl"
  refine ⟨by simp, ?_⟩
  refine wa_nil ⟨_, rfl, ⟨by simp, by simp⟩, by omega, fun d hd => ?_⟩
  have p6 : (10 : Int) ^ (6 : Int).toNat = 1000000 := by decide
  have p30 : (10 : Int) ^ (30 : Int).toNat = 1000000000000000000000000000000 := by decide
  obtain ⟨m, rfl, hm1, hm2⟩ : ∃ m : Int, d = .int m ∧ 3 ≤ m ∧ m ≤ 1000000000000000000000000000000 := by
    rw [p6, p30] at hd
    simp only [List.mem_cons, List.not_mem_nil, or_false] at hd
    rcases hd with rfl | rfl | rfl | rfl
    · exact ⟨_, rfl, by decide, by decide⟩
    · exact ⟨_, rfl, by decide, by decide⟩
    · exact ⟨_, rfl, by decide, by decide⟩
    · exact ⟨_, rfl, by decide, by decide⟩
  have lim : (1000000000000000000000000000000 : Nat) * 2 < 2 ^ 102 := by decide
  refine ws_ret (w_call (wa_cons (w_op (w_callP rfl (wa_cons (w_op (w_int (w_var rfl (ow_timesI (mul_okL (by decide) (by decide)) ?_)))))))))
  refine wa_nil ⟨2 * m, rfl, ⟨by omega, nle (b := 9000) (show (2 * m).natAbs < 2 ^ 102 by omega) (by decide)⟩, by omega, ?_⟩
  rintro _ ⟨r, rfl, hr1, hr2⟩
  refine w_var rfl (ow_minus ?_)
  refine wa_cons (w_op (w_int (w_callP rfl (wa_cons (w_var rfl (wa_nil ⟨m, rfl, ⟨by omega, nle (b := 9000) (show m.natAbs < 2 ^ 102 by omega) (by decide)⟩, by omega, ?_⟩))))))
  rintro _ ⟨u, rfl, hu1, hu2⟩
  refine ow_plusI (wa_nil ⟨(_, _), rfl, ⟨by omega, nle (b := 9000) (show (1 + u).natAbs < 2 ^ 102 by omega) (by decide)⟩, ?_⟩)
  rintro _ rfl
  refine ⟨Nat.le_refl _, _, rfl, frac_nf (by omega) ?_ ?_⟩
  · exact nle (b := 110) (show (r - m).natAbs < 2 ^ 102 by omega) (by decide)
  · exact nle (b := 110) (show (1 + u).natAbs < 2 ^ 102 by omega) (by decide)
end
end K01
namespace K01
open PySem PySem.Spec PyProof.Rows L2 DL
theorem cmpF_neg {p q : Int × Int} (h : ltF p q) : cmpF p q = -1 := by
  unfold cmpF ltF b2i at *
  have h2 : ¬ q.1 * p.2 < p.1 * q.2 := by omega
  simp [h, h2]
theorem lt_frac {p : Int × Int} {t b : Int} (hb : 0 < b) (h : p.1 * b < t * p.2) : ltF p (frac t b) := by
  obtain ⟨g, hg, e1, e2, h3, _⟩ := frac_spec (t := t) (b := b) (by omega)
  unfold ltF
  generalize (frac t b).1 = x at *
  generalize (frac t b).2 = y at *
  have g0 : 0 < g := Int.lt_of_mul_lt_mul_left (a := y) (by omega) (by omega)
  subst e1 e2
  refine Int.lt_of_mul_lt_mul_right (a := g) ?_ (by omega)
  have i1 : p.1 * y * g = p.1 * (y * g) := by grind
  have i2 : x * p.2 * g = x * g * p.2 := by grind
  omega
theorem frac_lt {p : Int × Int} {t b : Int} (hb : 0 < b) (h : t * p.2 < p.1 * b) : ltF (frac t b) p := by
  obtain ⟨g, hg, e1, e2, h3, _⟩ := frac_spec (t := t) (b := b) (by omega)
  unfold ltF
  generalize (frac t b).1 = x at *
  generalize (frac t b).2 = y at *
  have g0 : 0 < g := Int.lt_of_mul_lt_mul_left (a := y) (by omega) (by omega)
  subst e1 e2
  refine Int.lt_of_mul_lt_mul_right (a := g) ?_ (by omega)
  have i1 : p.1 * y * g = p.1 * (y * g) := by grind
  have i2 : x * p.2 * g = x * g * p.2 := by grind
  omega
theorem frac_sm {t b : Int} (hb : b ≠ 0) (h1 : t.natAbs < 2 ^ 1000) (h2 : b.natAbs < 2 ^ 1000) : Sm (frac t b) := by
  obtain ⟨g, hg, e1, e2, h3, _⟩ := frac_spec (t := t) hb
  obtain ⟨l1, l2⟩ := frac_le (t := t) hb
  exact ⟨by omega, by omega, by omega⟩
theorem btw2 {l h : Int × Int} (hl : Nf l) (hh : Nf h) (lt : ltF l h) : Sm (btw (some l) (some h)) ∧ cmpF l (btw (some l) (some h)) = -1 ∧ cmpF (btw (some l) (some h)) h = -1 := by
  obtain ⟨a1, a2, a3, _⟩ := hl
  obtain ⟨b1, b2, b3, _⟩ := hh
  obtain ⟨p, q⟩ := l
  obtain ⟨r, s⟩ := h
  unfold ltF at lt
  simp only at a1 a2 a3 b1 b2 b3 lt
  show Sm (frac (p * s + r * q) (2 * q * s)) ∧ cmpF _ (frac (p * s + r * q) (2 * q * s)) = -1 ∧ cmpF (frac (p * s + r * q) (2 * q * s)) _ = -1
  have pos : 0 < 2 * q * s := Int.mul_pos (by omega) b3
  refine ⟨frac_sm (by omega) (nle (nadd (nmul a1 b2) (nmul b1 a2)) (by decide)) (nle (nmul (nmul (show (2 : Int).natAbs < 2 ^ 2 by decide) a2) b2) (by decide)), cmpF_neg (lt_frac pos ?_), cmpF_neg (frac_lt pos ?_)⟩
  · show p * (2 * q * s) < (p * s + r * q) * q
    have m : q * (p * s) < q * (r * q) := Int.mul_lt_mul_of_pos_left lt a3
    have i1 : p * (2 * q * s) = q * (p * s) + q * (p * s) := by grind
    have i2 : (p * s + r * q) * q = q * (p * s) + q * (r * q) := by grind
    omega
  · show (p * s + r * q) * s < r * (2 * q * s)
    have m : s * (p * s) < s * (r * q) := Int.mul_lt_mul_of_pos_left lt b3
    have i1 : r * (2 * q * s) = s * (r * q) + s * (r * q) := by grind
    have i2 : (p * s + r * q) * s = s * (p * s) + s * (r * q) := by grind
    omega
theorem btwL {l : Int × Int} (hl : Nf l) : Sm (btw (some l) none) ∧ cmpF l (btw (some l) none) = -1 := by
  obtain ⟨a1, a2, a3, _⟩ := hl
  obtain ⟨p, q⟩ := l
  simp only at a1 a2 a3
  show Sm (frac (p + q) q) ∧ cmpF _ (frac (p + q) q) = -1
  refine ⟨frac_sm (by omega) (nle (nadd a1 a2) (by decide)) (nle a2 (by decide)), cmpF_neg (lt_frac a3 ?_)⟩
  show p * q < (p + q) * q
  have m : 0 < q * q := Int.mul_pos a3 a3
  have i : (p + q) * q = p * q + q * q := by grind
  omega
theorem btwR {h : Int × Int} (hh : Nf h) : Sm (btw none (some h)) ∧ cmpF (btw none (some h)) h = -1 := by
  obtain ⟨a1, a2, a3, _⟩ := hh
  obtain ⟨p, q⟩ := h
  simp only at a1 a2 a3
  show Sm (frac (p - q) q) ∧ cmpF (frac (p - q) q) _ = -1
  refine ⟨frac_sm (by omega) (nle (nsub a1 a2) (by decide)) (nle a2 (by decide)), cmpF_neg (frac_lt a3 ?_)⟩
  show (p - q) * q < p * q
  have m : 0 < q * q := Int.mul_pos a3 a3
  have i : (p - q) * q = p * q - q * q := by grind
  omega
theorem pl_fs (L : List (Int × Int)) : Pl 2 (.lst (L.map fD)) := pl_lst fun d hd => by
  obtain ⟨q, _, rfl⟩ := List.mem_map.mp hd
  exact pl_fD q
theorem sh_fD {q : Int × Int} (h1 : q.1.natAbs < 2 ^ 250) (h2 : q.2.natAbs < 2 ^ 250) : Sh 504 (fD q) := by
  have := sh_tup (w := 251) (ds := [.int q.1, .int q.2]) fun d hd => by
    rcases List.mem_cons.mp hd with rfl | hd
    · exact sh_int h1
    · have e : d = .int q.2 := by simpa using hd
      rw [e]; exact sh_int h2
  exact this
theorem Nf.sh {q : Int × Int} (h : Nf q) : Sh 504 (fD q) := sh_fD (nle h.1 (by decide)) (nle h.2.1 (by decide))
theorem eqv_fs (L M : List (Int × Int)) : PyData.eqv (py (.lst (L.map fD))) (py (.lst (M.map fD))) = decide (L = M) := by
  have e := eqv_lst fD (fun x y => by rw [eqv_fD]; exact decide_eq_true_iff) L M
  exact Bool.eq_iff_iff.mpr (e.trans decide_eq_true_iff.symm)
theorem ends {L : List (Int × Int)} (hne : L ≠ []) (pw : L.Pairwise ltF) : ∃ lo hi, atI (L.map fD) 0 = some (fD lo) ∧ atI (L.map fD) (-1) = some (fD hi) ∧ lo ∈ L ∧ hi ∈ L ∧ (lo = hi ∨ ltF lo hi) := by
  match L, hne with
  | l :: L, _ =>
    have e : atI ((l :: L).map fD) (-1) = some (fD ((l :: L).getLast (by simp))) := by
      have hl : ((l :: L).map fD).length = L.length + 1 := by simp
      have e3 : ((-1 : Int) + ((L.length + 1 : Nat) : Int)).toNat = L.length := by omega
      have ei : ixN ((l :: L).map fD).length (-1) = some L.length := by
        unfold ixN
        rw [if_neg (by omega), hl, if_pos (by omega), e3]
      unfold atI
      rw [ei]
      show ((l :: L).map fD)[L.length]? = _
      rw [List.getLast_eq_getElem, List.getElem?_map, List.getElem?_eq_getElem (by simp)]
      rfl
    have e0 : atI ((l :: L).map fD) 0 = some (fD l) := DL.atI_nat (i := 0) rfl
    refine ⟨l, _, e0, e, by simp, List.getLast_mem _, ?_⟩
    cases L with
    | nil => exact .inl rfl
    | cons m L =>
      refine .inr ?_
      rw [List.getLast_cons (by simp)]
      exact (List.pairwise_cons.mp pw).1 _ (List.getLast_mem _)
end K01
namespace K01
open PySem PySem.Spec PyProof.Rows L2 DL
section
variable {K : Fg}
theorem no_cut {A B : Prop} {p : Prop} [Decidable p] (h : p) (q : B) : ((!decide p) = true → A) ∧ ((!decide p) = false → B) := brN (fun z => absurd h z) fun _ => q
theorem ne_fD {x y : Int × Int} {k : DV → Prop} (q : k (.bl (!decide (x = y)))) : OW K (rNeA K) (fD x) (fD y) k := ow_neD (pl_fD _).shp (pl_fD _).shp (by rw [eqv_fD]; exact q)
theorem ne_fs {x y : List (Int × Int)} {k : DV → Prop} (q : k (.bl (!decide (x = y)))) : OW K (rNeA K) (.lst (x.map fD)) (.lst (y.map fD)) k := ow_neD (pl_fs _).shp (pl_fs _).shp (by rw [eqv_fs]; exact q)
theorem ord_eq {L M s t : List (Int × Int)} (h1 : Ord L s) (h2 : Ord M t) (hst : ∀ x, x ∈ s ↔ x ∈ t) (hn : ∀ x ∈ s, Nf x) : L = M :=
  ord_unique h1.1 h2.1 (fun x hx => (hn x ((h1.2 x).mp hx)).2.2.1) fun x => by rw [h1.2, h2.2, hst]
theorem sh_fs {L : List (Int × Int)} (h : ∀ x ∈ L, Nf x) (hl : L.length ≤ 50) : showOk (py (.lst (L.map fD))) := by
  have := sh_lst (w := 504) (ds := L.map fD) fun d hd => by
    obtain ⟨q, hq, rfl⟩ := List.mem_map.mp hd
    exact (h q hq).sh
  refine showOk_of (pl_fs L) this (by decide) ?_
  rw [List.length_map]
  omega
theorem rd_law_fractions_right (a : Unit) (n : Nat) (hp : True) (hn : n + 100 ≤ 1000000) : WS K (t_law_fractions_right K) (slotsP N_law_fractions_right []) [] n (EP (n + 100) fun d => d = .bl true) := by
  show WS K (t_law_fractions_right K) [.pen, .no, .no, .no, .no, .no, .no, .no, .no, .no, .no] [] n _
  unfold t_law_fractions_right
  refine ws_seq (ws_par (wa_cons (w_callP rfl (wa_nil ⟨(), rfl, trivial, by omega, ?_⟩))))
  rintro _ ⟨p, rfl, hpn⟩
  refine wa_cons (w_callP rfl (wa_nil ⟨(), rfl, trivial, by omega, ?_⟩))
  rintro _ ⟨q, rfl, hqn⟩
  refine wa_nil ⟨_, _, rfl, ?_⟩
  refine ws_seq (ws_asg (w_callP rfl (wa_cons ?_)))
  walk_at "dlx"
  refine ow_pow ⟨by decide, by decide, by decide⟩ ?_
  walk_at "dlx"
  refine ⟨by simp, wa_nil ⟨_, rfl, ⟨by simp, by simp⟩, by omega, fun d hd => ?_⟩⟩
  have p20 : (10 : Int) ^ (20 : Int).toNat = 100000000000000000000 := by decide
  obtain ⟨c, rfl, hc1, hc2⟩ : ∃ c : Int, d = .int c ∧ c ≠ 0 ∧ c.natAbs < 2 ^ 80 := by
    rw [p20] at hd
    simp only [List.mem_cons, List.not_mem_nil, or_false] at hd
    rcases hd with rfl | rfl | rfl | rfl | rfl
    · exact ⟨_, rfl, by decide, by decide⟩
    · exact ⟨_, rfl, by decide, by decide⟩
    · exact ⟨_, rfl, by decide, by decide⟩
    · exact ⟨_, rfl, by decide, by decide⟩
    · exact ⟨_, rfl, by decide, by decide⟩
  obtain ⟨p1, p2, p3, p4⟩ := id hpn
  obtain ⟨q1, q2, q3, q4⟩ := id hqn
  have sp := hpn.sm
  have sq' := hqn.sm
  have by1 : p.2 * c ≠ 0 := Int.mul_ne_zero (by omega) hc1
  have by2 : (p.2 * c).natAbs < 2 ^ 9000 := nle (nmul p2 hc2) (by decide)
  have by3 : frac (p.1 * c) (p.2 * c) = p := frac_is by1 ⟨p3, p4⟩ (by grind)
  have by4 : frac 0 c = (0, 1) := frac_is hc1 ⟨by decide, by decide⟩ (by simp)
  have m1 : IntMulOk p.1 c := mul_ok p1 hc2 (by decide) (by decide) (by decide)
  have m2 : IntMulOk p.2 c := mul_ok p2 hc2 (by decide) (by decide) (by decide)
  -- the first test
  refine ws_seq (ws_if ?_)
  walk_at "dlx"
  refine ow_timesI m1 ?_
  walk_at "dlx"
  refine ow_timesI m2 ?_
  walk_at "dlx"
  refine ⟨(_, _), rfl, ⟨by1, by2⟩, ?_⟩
  rintro _ rfl
  refine w_var rfl (ne_fD ⟨_, rfl, no_cut by3 ?_⟩)
  walk_at "dlx"
  refine ow_timesI m2 ?_
  walk_at "dlx"
  refine ow_timesI m1 ?_
  walk_at "dlx"
  refine ⟨rfl, (p.1 * c, p.2 * c), rfl, ⟨by1, by2⟩, ?_⟩
  rintro _ rfl
  refine w_var rfl (ne_fD ⟨_, rfl, no_cut by3 ?_⟩)
  walk_at "dlx"
  refine ⟨(0, c), rfl, ⟨hc1, nle hc2 (by decide)⟩, ?_⟩
  rintro _ rfl
  refine wa_nil ?_
  show CW K (rRepr K) [fD (frac 0 c)] _
  rw [by4]
  refine cw_reprT rfl (showOk_of (pl_fD (0, 1)) (sh_fD (q := (0, 1)) (by decide) (by decide)) (by decide) (by decide)) ?_
  walk_at "dlx"
  refine ow_neS ⟨_, rfl, no_cut (by decide +kernel) (ws_next ?_)⟩
  -- sums and products
  have eqR : ∀ s : Str, (!decide (s = s)) = false := fun s => by simp
  refine ws_seq (ws_if ?_)
  walk_at "dlx"
  refine ⟨(p, q), rfl, ⟨sp, sq'⟩, ?_⟩
  rintro _ rfl
  walk_at "dlx"
  refine ⟨rfl, (p, q), rfl, ⟨sp, sq'⟩, ?_⟩
  rintro _ rfl
  refine wa_nil ⟨by simp, wa_nil ?_⟩
  generalize hx : frac (p.1 * q.2 + q.1 * p.2) (p.2 * q.2) = x
  have xs : Sh 504 (fD x) := by
    have d0 : p.2 * q.2 ≠ 0 := Int.mul_ne_zero sp.2.2 sq'.2.2
    obtain ⟨l1, l2⟩ := frac_le (t := p.1 * q.2 + q.1 * p.2) d0
    have e1 := nle (b := 250) (nadd (nmul p1 q2) (nmul q1 p2)) (by decide)
    have e2 := nle (b := 250) (nmul p2 q2) (by decide)
    rw [hx] at l1 l2
    exact sh_fD (by omega) (by omega)
  have xxs : ∀ d ∈ [fD x, fD x], Sh 504 d := fun d hd => by
    have e : d = fD x := by simpa using hd
    rw [e]; exact xs
  have xok : showOk (py (.lst [fD x, fD x])) := showOk_of (pl_fs [x, x]) (sh_lst xxs) (by decide) (show 2 * (504 + 1) ≤ 50000 by decide)
  refine cw_reprL (pl_fs [x, x]).py xok ?_
  walk_at "dlx"
  refine ⟨(p, q), rfl, ⟨sp, sq'⟩, ?_⟩
  rintro _ rfl
  refine wa_nil ⟨by simp, w_int (ows (owl_rep (by decide) (by decide) (by simp) (wa_nil ?_)))⟩
  rw [hx]
  refine cw_reprL (ds := [fD x, fD x]) (pl_fs [x, x]).py xok (ow_neS ⟨_, rfl, no_cut rfl ?_⟩)
  walk_at "dlx"
  refine ⟨(p, q), rfl, ⟨sp, sq'⟩, ?_⟩
  rintro _ rfl
  walk_at "dlx"
  refine ⟨(p, q), rfl, ⟨sp, sq'⟩, ?_⟩
  rintro _ rfl
  refine ne_fD ⟨_, rfl, no_cut rfl ?_⟩
  walk_at "dlx"
  refine ⟨(p, q), rfl, ⟨sp, sq'⟩, ?_⟩
  rintro _ rfl
  walk_at "dlx"
  refine ⟨by simp, ?_⟩
  have sqn : Sm (-q.1, q.2) := ⟨by have := sq'.1; show (-q.1).natAbs < _; omega, sq'.2⟩
  refine wa_nil ⟨(p, (-q.1, q.2)), rfl, ⟨sp, sqn⟩, ?_⟩
  rintro _ rfl
  refine ne_fD ⟨_, rfl, no_cut ?_ (ws_next ?_)⟩
  · show frac (p.1 * q.2 - q.1 * p.2) (p.2 * q.2) = frac (p.1 * q.2 + -q.1 * p.2) (p.2 * q.2)
    congr 1
    grind
  -- differences, products, comparisons
  refine ws_seq (ws_if ?_)
  walk_at "dlx"
  refine ⟨rfl, (p, p), rfl, ⟨sp, sp⟩, ?_⟩
  rintro _ rfl
  walk_at "dlx"
  refine ⟨by simp, ne_fD (y := (0, 1)) ⟨_, rfl, no_cut ?_ ?_⟩⟩
  · show frac (p.1 * p.2 - p.1 * p.2) (p.2 * p.2) = (0, 1)
    exact frac_is (Int.mul_ne_zero sp.2.2 sp.2.2) ⟨by decide, by decide⟩ (by simp)
  walk_at "dlx"
  refine ⟨rfl, (p, q), rfl, ⟨sp, sq'⟩, ?_⟩
  rintro _ rfl
  walk_at "dlx"
  refine ⟨(q, p), rfl, ⟨sq', sp⟩, ?_⟩
  rintro _ rfl
  refine ne_fD ⟨_, rfl, no_cut ?_ ?_⟩
  · show frac (p.1 * q.1) (p.2 * q.2) = frac (q.1 * p.1) (q.2 * p.2)
    rw [Int.mul_comm p.1, Int.mul_comm p.2]
  walk_at "dlx"
  refine ⟨(p, (false, q)), rfl, ⟨sp, sq'⟩, ?_⟩
  rintro _ rfl
  walk_at "dlx"
  refine ⟨(p, q), rfl, ⟨sp, sq'⟩, ?_⟩
  rintro _ rfl
  refine ow_neI ⟨_, rfl, no_cut (thanF_eq p q).symm ?_⟩
  walk_at "dlx"
  refine ⟨rfl, (p, (false, p)), rfl, ⟨sp, sp⟩, ?_⟩
  rintro _ rfl
  refine w_int (ow_neI ⟨_, rfl, no_cut (cmpF_eq.mpr rfl) (ws_next ?_)⟩)
  -- quotients
  refine ws_cut (fun Γ O m => Γ = [.pen, .is (fD p), .is (fD q), .is (.int c), .no, .no, .no, .no, .no, .no, .no] ∧ O = [] ∧ m = n + 7) (ws_if ?_) ?_
  · walk_at "dlx"
    refine brN (fun hq0 => ?_) (fun _ => brF (ws_next ⟨rfl, rfl, rfl⟩))
    walk_at "dlx"
    refine ⟨(p, q), rfl, ⟨sp, sq', hq0⟩, ?_⟩
    rintro _ rfl
    walk_at "dlx"
    refine ⟨(_, _), rfl, ⟨hq0, nle sq'.1 (by decide)⟩, ?_⟩
    rintro _ rfl
    have sz := frac_sm (t := q.2) hq0 sq'.2.1 sq'.1
    refine wa_nil ⟨(p, frac q.2 q.1), rfl, ⟨sp, sz⟩, ?_⟩
    rintro _ rfl
    refine ne_fD ⟨_, rfl, no_cut ?_ ?_⟩
    · obtain ⟨g, hg, e1, e2, h3, h4⟩ := frac_spec (t := q.2) hq0
      refine frac_same (Int.mul_ne_zero sp.2.2 hq0) (Int.mul_ne_zero sp.2.2 sz.2.2) ?_
      show p.1 * q.2 * (p.2 * (frac q.2 q.1).2) = p.1 * (frac q.2 q.1).1 * (p.2 * q.1)
      generalize (frac q.2 q.1).1 = u at *
      generalize (frac q.2 q.1).2 = v at *
      rw [e1, e2]
      grind
    walk_at "dlx"
    refine ⟨rfl, (q, q), rfl, ⟨sq', sq', hq0⟩, ?_⟩
    rintro _ rfl
    walk_at "dlx"
    refine ⟨by simp, ne_fD (y := (1, 1)) ⟨_, rfl, no_cut ?_ (ws_next ⟨rfl, rfl, rfl⟩)⟩⟩
    show frac (q.1 * q.2) (q.2 * q.1) = (1, 1)
    exact frac_is (Int.mul_ne_zero sq'.2.2 hq0) ⟨by decide, by decide⟩ (by show q.1 * q.2 * 1 = 1 * (q.2 * q.1); grind)
  rintro _ _ _ ⟨rfl, rfl, rfl⟩
  -- some
  refine ws_seq (ws_asg (w_op (w_of_wl (wl_lc (sw_rng1 (wa_cons (w_callP rfl (wa_cons (w_int (wa_nil ⟨6, rfl, ⟨by decide, nle (b := 9000) (show (6 : Int).natAbs < 2 ^ 3 by decide) (by decide)⟩, by omega, ?_⟩))))))))))
  rintro _ ⟨r, rfl, hr1, hr2⟩
  refine wa_nil ⟨r, rfl, by omega, by omega, by rw [rngD_length]; omega, fun i acc m => ∃ S : List (Int × Int), acc = S.map fD ∧ (∀ x ∈ S, Nf x) ∧ S.length = i ∧ m = n + 8 + 3 * i, ⟨[], rfl, by simp, rfl, rfl⟩, ?_, ?_⟩
  · rintro i x _ _ hx ⟨S, rfl, hS, hl, rfl⟩
    have hi := (rngD_get hx).1
    refine gw_name (by simp) (wt_yes ⟨fun _ => ?_, fun z => nomatch z⟩)
    refine w_callP rfl (wa_nil ⟨(), rfl, trivial, by omega, ?_⟩)
    rintro _ ⟨u, rfl, hu⟩
    refine ⟨S ++ [u], by simp, fun x hx => ?_, by simp [hl], by omega⟩
    rcases List.mem_append.mp hx with h | h
    · exact hS x h
    · rw [List.mem_singleton.mp h]; exact hu
  rintro _ m ⟨S0, rfl, hS0, hl0, hm⟩
  rw [rngD_length] at hl0 hm
  walk_at "dlx"
  refine ⟨by simp, ows (owl_cat (by simp; omega) ?_)⟩
  obtain ⟨S, hSe, hS, hSl, hpS⟩ : ∃ S : List (Int × Int), S0.map fD ++ [fD p, fD p] = S.map fD ∧ (∀ x ∈ S, Nf x) ∧ S.length ≤ 7 ∧ p ∈ S := by
    refine ⟨S0 ++ [p, p], by simp, fun x hx => ?_, by simp; omega, by simp⟩
    rcases List.mem_append.mp hx with h | h
    · exact hS0 x h
    · have e : x = p := by simpa using h
      rw [e]; exact hpn
  rw [hSe]
  show WS K _ [.pen, .is (fD p), .is (fD q), .is (.int c), .is (.lst (S.map fD)), .no, .no, .no, .no, .no, .no] [] m _
  have e1 : (S.map fun x => (false, x)).map (·.2) = S := by rw [List.map_map]; exact List.map_id' S
  -- in order
  refine ws_seq (ws_if ?_)
  walk_at "dlx"
  refine ⟨S.map fun x => (false, x), by rw [List.map_map]; rfl, ⟨by rw [List.length_map]; omega, fun x hx => ?_⟩, ?_⟩
  · obtain ⟨y, hy, rfl⟩ := List.mem_map.mp hx
    exact hS y hy
  rintro _ ⟨L, rfl, hO, hL⟩
  rw [e1] at hO
  rw [List.length_map] at hL
  refine wa_nil (cws (cwl_listL ?_))
  walk_at "dlx"
  refine ⟨S, rfl, ⟨by omega, hS⟩, ?_⟩
  rintro _ ⟨L2, rfl, hO2, -⟩
  refine ne_fs ?_
  refine ⟨_, rfl, no_cut (ord_eq hO hO2 (fun _ => Iff.rfl) hS) ?_⟩
  walk_at "dlx"
  refine w_of_wl (wl_rev (w_var rfl ⟨_, rfl, ?_⟩))
  refine wa_nil ⟨rfl, S.reverse.map fun x => (false, x), ?_, ⟨by rw [List.length_map, List.length_reverse]; omega, fun x hx => ?_⟩, ?_⟩
  · rw [List.map_map, ← List.map_reverse]; rfl
  · obtain ⟨y, hy, rfl⟩ := List.mem_map.mp hx
    exact hS y (List.mem_reverse.mp hy)
  rintro _ ⟨L3, rfl, hO3, -⟩
  have e3 : (S.reverse.map fun x => (false, x)).map (·.2) = S.reverse := by rw [List.map_map]; exact List.map_id' _
  rw [e3] at hO3
  refine wa_nil (cws (cwl_listL ?_))
  walk_at "dlx"
  refine ⟨S, rfl, ⟨by omega, hS⟩, ?_⟩
  rintro _ ⟨L4, rfl, hO4, -⟩
  refine ne_fs ?_
  refine ⟨_, rfl, no_cut (ord_eq hO4 hO3 (fun _ => List.mem_reverse.symm) hS).symm ?_⟩
  walk_at "dlx"
  refine w_of_wl (wl_lcF (α := Int × Int) (sw_seq (w_var rfl ⟨_, .inl rfl, S, fD, fS true, rfl, by omega, fun x _ => ?_, ?_⟩)))
  · exact gw_name (by simp) (w_cb (wa_cons (w_var rfl (wa_nil (cws (cwl_listT ⟨rfl, rfl⟩))))))
  refine w_var rfl (ows (owl_cat (by simp; omega) ?_))
  refine wa_nil ⟨(S.map fun x => (true, x)) ++ S.map fun x => (false, x), ?_, ⟨by simp; omega, fun x hx => ?_⟩, ?_⟩
  · rw [List.map_append, List.map_map, List.map_map]; rfl
  · rcases List.mem_append.mp hx with h | h
    · obtain ⟨y, hy, rfl⟩ := List.mem_map.mp h
      exact hS y hy
    · obtain ⟨y, hy, rfl⟩ := List.mem_map.mp h
      exact hS y hy
  rintro _ ⟨L5, rfl, hO5, hL5⟩
  have e5 : ((S.map fun x => (true, x)) ++ S.map fun x => (false, x)).map (·.2) = S ++ S := by
    rw [List.map_append, List.map_map, List.map_map]
    have i1 : S.map ((fun x : Bool × Int × Int => x.2) ∘ fun x => (true, x)) = S := List.map_id' S
    have i2 : S.map ((fun x : Bool × Int × Int => x.2) ∘ fun x => (false, x)) = S := List.map_id' S
    rw [i1, i2]
  rw [e5] at hO5
  have h5 : L = L5 := ord_eq hO hO5 (fun x => by simp) hS
  subst h5
  have hLn : ∀ x ∈ L, Nf x := fun x hx => hS x ((hO.2 x).mp hx)
  refine wa_nil (cw_reprL (pl_fs L).py (sh_fs hLn (by omega)) ?_)
  walk_at "dlx"
  refine ⟨S, rfl, ⟨by omega, hS⟩, ?_⟩
  rintro _ ⟨L6, rfl, hO6, -⟩
  have h6 : L = L6 := ord_eq hO hO6 (fun x => Iff.rfl) hS
  subst h6
  refine wa_nil (cw_reprL (pl_fs L).py (sh_fs hLn (by omega)) (ow_neS ⟨_, rfl, no_cut rfl (ws_next ?_)⟩))
  -- the ends
  have hpq : ∀ x ∈ [p, q], Nf x := fun x hx => by
    rcases List.mem_cons.mp hx with rfl | h
    · exact hpn
    · have e : x = q := by simpa using h
      rw [e]; exact hqn
  refine ws_seq (ws_par ?_)
  walk_at "dlx"
  refine ⟨by simp, wa_nil ⟨[p, q], rfl, ⟨by simp, hpq⟩, ?_⟩⟩
  rintro _ ⟨M, rfl, hM, -⟩
  have hMne : M ≠ [] := fun z => by
    have := (hM.2 p).mpr (by simp)
    rw [z] at this; cases this
  obtain ⟨lo, hi, f1, f2, f3, f4, f5⟩ := ends hMne hM.1
  have hlo : Nf lo := hpq lo ((hM.2 lo).mp f3)
  have hhi : Nf hi := hpq hi ((hM.2 hi).mp f4)
  refine w_int (ow_ixL f1 ?_)
  walk_at "dlx"
  refine ⟨by simp, wa_nil ⟨[p, q], rfl, ⟨by simp, hpq⟩, ?_⟩⟩
  rintro _ ⟨M2, rfl, hM2, -⟩
  have hMM : M = M2 := ord_eq hM hM2 (fun _ => Iff.rfl) hpq
  subst hMM
  refine w_un (w_int (uw_neg (ow_ixL f2 (wa_nil ⟨_, _, rfl, ?_⟩))))
  show WS K _ [.pen, .is (fD p), .is (fD q), .is (.int c), .is (.lst (S.map fD)), .is (fD lo), .is (fD hi), .no, .no, .no, .no] [] m _
  refine ws_cut (fun Γ O k => Γ = [.pen, .is (fD p), .is (fD q), .is (.int c), .is (.lst (S.map fD)), .is (fD lo), .is (fD hi), .no, .no, .no, .no] ∧ O = [] ∧ k = m) (ws_if ?_) ?_
  · walk_at "dlx"
    refine ne_fD ⟨_, rfl, brN (fun hne => ?_) (fun _ => brF (ws_next ⟨rfl, rfl, rfl⟩))⟩
    have lt : ltF lo hi := by rcases f5 with e | e; exact absurd e hne; exact e
    obtain ⟨b1, b2, b3⟩ := btw2 hlo hhi lt
    have prb : (∀ q, some lo = some q → Nf q) ∧ ∀ q, some hi = some q → Nf q := ⟨fun q e => by cases e; exact hlo, fun q e => by cases e; exact hhi⟩
    walk_at "dlx"
    refine ⟨(some lo, some hi), rfl, prb, ?_⟩
    rintro _ rfl
    refine wa_nil ⟨(lo, (false, _)), rfl, ⟨hlo.sm, b1⟩, ?_⟩
    rintro _ rfl
    walk_at "dlx"
    refine no_cut b2 ?_
    walk_at "dlx"
    refine ⟨rfl, (some lo, some hi), rfl, prb, ?_⟩
    rintro _ rfl
    walk_at "dlx"
    refine ⟨(_, (false, hi)), rfl, ⟨b1, hhi.sm⟩, ?_⟩
    rintro _ rfl
    walk_at "dlx"
    exact no_cut b3 (ws_next ⟨rfl, rfl, rfl⟩)
  rintro _ _ m ⟨rfl, rfl, rfl⟩
  obtain ⟨b1, b2⟩ := btwL hlo
  obtain ⟨b3, b4⟩ := btwR hhi
  refine ws_seq (ws_if ?_)
  walk_at "dlx"
  refine ⟨(some lo, none), rfl, ⟨fun q e => by cases e; exact hlo, fun q e => nomatch e⟩, ?_⟩
  rintro _ rfl
  refine wa_nil ⟨(lo, (false, _)), rfl, ⟨hlo.sm, b1⟩, ?_⟩
  rintro _ rfl
  walk_at "dlx"
  refine no_cut b2 ?_
  walk_at "dlx"
  refine ⟨(none, some hi), rfl, ⟨fun q e => (nomatch e), fun q e => by cases e; exact hhi⟩, ?_⟩
  rintro _ rfl
  walk_at "dlx"
  refine ⟨(_, (false, hi)), rfl, ⟨b3, hhi.sm⟩, ?_⟩
  rintro _ rfl
  walk_at "dlx"
  refine no_cut b4 ?_
  walk_at "dlx"
  refine ⟨(none, none), rfl, ⟨fun q e => (nomatch e), fun q e => nomatch e⟩, ?_⟩
  rintro _ rfl
  refine wa_nil ⟨fD (0, 1), rfl, rfl, ?_⟩
  rintro _ rfl
  walk_at "dlx"
  refine ow_notB ⟨_, rfl, no_cut (by decide) (ws_next ?_)⟩
  -- what is no fraction
  refine ws_seq (ws_asg ?_)
  walk_at "dlx"
  repeat' first | (refine ⟨by simp, ?_⟩) | walk_at "dl2"
  have bad : ∀ B : List DV, B = [.non, .int 5, .tup [.int 1], .tup [.int 1, .int 0], .tup [.int 2, .int 4], .tup [.int 1, .int (-1)], .tup [.bl true, .int 1], .tup [.int 1, .bl true], .tup [.str "1", .int 1], .tup [.int 0, .int 2], .lst [.int 1, .int 2, .int 3], .tup [.int 1, .non], .str "12", .dic [] []] → ∀ x ∈ B, isP x = true ∧ isF x = false := by
    rintro _ rfl x hx
    simp only [List.mem_cons, List.not_mem_nil, or_false] at hx
    rcases hx with rfl | rfl | rfl | rfl | rfl | rfl | rfl | rfl | rfl | rfl | rfl | rfl | rfl | rfl <;> exact ⟨rfl, by decide⟩
  generalize hB : ([DV.non, DV.int 5, DV.tup [.int 1], DV.tup [.int 1, .int 0], DV.tup [.int 2, .int 4], DV.tup [.int 1, .int (-1)], DV.tup [.bl true, .int 1], DV.tup [.int 1, .bl true], DV.tup [.str "1", .int 1], DV.tup [.int 0, .int 2], DV.lst [.int 1, .int 2, .int 3], DV.tup [.int 1, .non], DV.str "12", DV.dic [] []] : List DV) = B
  have hb := bad B hB.symm
  have hbl : B.length ≤ 100 := by rw [← hB]; decide
  show WS K _ [.pen, .is (fD p), .is (fD q), .is (.int c), .is (.lst (S.map fD)), .is (fD lo), .is (fD hi), .is (.lst B), .no, .no, .no] [] m _
  have okp : isFl [.int p.1, .int p.2] = true := by
    show (decide (0 < p.2) && decide (Nat.gcd p.1.natAbs p.2.natAbs = 1)) = true
    simp [p3, p4]
  refine ws_ret (w_and (w_op (w_of_wl (wl_lc (sw_seq (w_var rfl ⟨B, .inl rfl, by omega, fun _ acc k => acc = [] ∧ k = m, ⟨rfl, rfl⟩, ?_, ?_⟩))))))
  · rintro i x _ _ hx ⟨rfl, rfl⟩
    obtain ⟨h1, h2⟩ := hb x (List.mem_of_getElem? hx)
    refine gw_name (by simp) (wt_test (w_op (w_call (wa_cons (w_var rfl (wa_nil ⟨x, rfl, h1, ?_⟩))))))
    rintro _ rfl
    rw [h2]
    exact w_bl (ow_notB ⟨_, rfl, (fun z => nomatch z), fun _ => ⟨rfl, rfl⟩⟩)
  rintro _ _ ⟨rfl, rfl⟩
  refine w_of_wl (wl_lst (wa_nil ⟨by simp, ow_eqD rfl rfl ⟨_, rfl, fun _ => ?_, fun z => nomatch z⟩⟩))
  refine w_and (w_op (w_kw (wa_cons (w_cb (wa_cons (w_var rfl (wa_nil (cws (cwl_listT (wa_nil ⟨rfl, .lst [.int p.1, .int p.2], rfl, rfl, ?_⟩))))))))))
  rintro _ rfl
  refine w_bl (ow_isB ⟨_, rfl, fun _ => ?_, fun z => ?_⟩)
  · refine w_op (w_call (wa_cons (w_var rfl (wa_nil ⟨fD p, rfl, rfl, ?_⟩))))
    rintro _ rfl
    refine w_bl (ow_isB ⟨by omega, ?_⟩)
    show DV.bl (decide (isFl [.int p.1, .int p.2] = true)) = _
    rw [okp]; rfl
  · have z' : decide (isFl [.int p.1, .int p.2] = true) = false := z
    rw [okp] at z'; cases z'
end
end K01
namespace K01
open PySem PySem.Spec PyProof.Rows L2 DL
/-! rows of numbers: the simple defs -/
def gF (c : Int) (ns : List Int) : Int := ns.foldl (fun a x => ((Nat.gcd a.natAbs x.natAbs : Nat) : Int)) c
theorem gF_dvd : ∀ (ns : List Int) (c : Int), gF c ns ∣ c ∧ ∀ x ∈ ns, gF c ns ∣ x
  | [], c => ⟨Int.dvd_refl _, by simp⟩
  | y :: ns, c => by
    obtain ⟨h1, h2⟩ := gF_dvd ns ((Nat.gcd c.natAbs y.natAbs : Nat) : Int)
    have e : gF c (y :: ns) = gF ((Nat.gcd c.natAbs y.natAbs : Nat) : Int) ns := rfl
    rw [e]
    have d1 : ((Nat.gcd c.natAbs y.natAbs : Nat) : Int) ∣ c := Int.natAbs_dvd_natAbs.mp (Nat.gcd_dvd_left _ _)
    have d2 : ((Nat.gcd c.natAbs y.natAbs : Nat) : Int) ∣ y := Int.natAbs_dvd_natAbs.mp (Nat.gcd_dvd_right _ _)
    refine ⟨Int.dvd_trans h1 d1, fun x hx => ?_⟩
    rcases List.mem_cons.mp hx with rfl | hx
    · exact Int.dvd_trans h1 d2
    · exact h2 x hx
theorem gF_zero : ∀ (ns : List Int), (∀ x ∈ ns, x = 0) → gF 0 ns = 0
  | [], _ => rfl
  | y :: ns, h => by
    have e : gF 0 (y :: ns) = gF ((Nat.gcd (0 : Int).natAbs y.natAbs : Nat) : Int) ns := rfl
    rw [e, h y (by simp)]
    exact gF_zero ns fun x hx => h x (by simp [hx])
theorem gcdL_dvd {ns : List Int} {x : Int} (h : x ∈ ns) : gcdL ns ∣ x := (gF_dvd ns 0).2 x h
theorem gcdL_some {ns : List Int} (h : gcdL ns ≠ 0) : ∃ x ∈ ns, x ≠ 0 := Classical.byContradiction fun z => h (gF_zero ns fun x hx => Classical.byContradiction fun y => z ⟨x, hx, y⟩)
theorem gcdL_lt {ns : List Int} {m : Nat} (h : gcdL ns ≠ 0) (hb : Bd m ns) : (gcdL ns).natAbs < 2 ^ m := by
  obtain ⟨x, hx, h0⟩ := gcdL_some h
  have := Nat.le_of_dvd (by omega) (Int.natAbs_dvd_natAbs.mpr (gcdL_dvd hx))
  exact Nat.lt_of_le_of_lt this (hb x hx)
theorem gcdL_take {ns : List Int} {i : Nat} {x : Int} (h : ns[i]? = some x) : gcdL (ns.take (i + 1)) = ((Nat.gcd (gcdL (ns.take i)).natAbs x.natAbs : Nat) : Int) := by
  unfold gcdL
  rw [List.take_add_one, h, List.foldl_append]
  rfl
theorem zmap {α β γ : Type} (g : α → β → γ) : ∀ (xs : List α) (ys : List β), (xs.zip ys).map (fun z => g z.1 z.2) = List.zipWith g xs ys
  | [], _ => by simp
  | _ :: _, [] => by simp
  | x :: xs, y :: ys => by simp [zmap g xs ys]
theorem get_int {ns : List Int} {i : Nat} (h : i < ns.length) : (ns.map DV.int)[i]? = some (.int (ns.getD i 0)) := by
  rw [List.getElem?_map, List.getElem?_eq_getElem h]
  simp [List.getD_eq_getElem?_getD, List.getElem?_eq_getElem h]
theorem getD_bd {ns : List Int} {m i : Nat} (h : Bd m ns) : (ns.getD i 0).natAbs < 2 ^ m := by
  by_cases hi : i < ns.length
  · have e : ns.getD i 0 = ns[i] := by simp [List.getD_eq_getElem?_getD, List.getElem?_eq_getElem hi]
    rw [e]; exact h _ (List.getElem_mem hi)
  · have e : ns.getD i 0 = 0 := by simp [List.getD_eq_getElem?_getD, List.getElem?_eq_none (Nat.le_of_not_lt hi)]
    rw [e]; exact Nat.two_pow_pos m
section
variable {K : Fg}
theorem rd_gcd_of (a : List Int) (hp : a.length ≤ 1000) : WS K (t_gcd_of K) (slotsD N_gcd_of [iD a]) [] 0 (ED fun d => d = .int (gcdL a)) := by
  show WS K (t_gcd_of K) [.is (iD a), .no, .no] [] 0 _
  unfold t_gcd_of
  refine ws_seq (ws_asg (w_int ?_))
  refine ws_seq (ws_for (vs := [2]) (sw_seq (w_var rfl ⟨_, .inl rfl, fun i Γ O n => ∃ x, Γ = [.is (iD a), .is (.int (gcdL (a.take i))), x], ⟨_, rfl⟩, ?_, ?_⟩)))
  · rintro i x _ O n hx ⟨y, rfl⟩
    rw [List.getElem?_map] at hx
    cases hi : a[i]? with
    | none => rw [hi] at hx; cases hx
    | some z =>
      rw [hi] at hx
      cases hx
      refine gw_name (by simp) (ws_asg ?_)
      walk_at "dlx"
      exact ⟨.is (.int z), by rw [gcdL_take hi]; rfl⟩
  · rintro _ O n ⟨x, rfl⟩
    rw [List.length_map, List.take_length]
    exact ws_ret (w_var rfl rfl)
theorem rd_shrunk (a : List Int) (hp : a.length ≤ 1000 ∧ Bd 8000 a) : WS K (t_shrunk K) (slotsD N_shrunk [iD a]) [] 0 (ED fun d => d = iD (shr a)) := by
  obtain ⟨hl, hb⟩ := hp
  show WS K (t_shrunk K) [.is (iD a), .no, .no] [] 0 _
  unfold t_shrunk
  refine ws_seq (ws_asg (w_call (wa_cons (w_var rfl (wa_nil ⟨a, rfl, hl, ?_⟩)))))
  rintro _ rfl
  refine ws_ret ?_
  walk_at "dlx"
  refine br (fun h => ?_) (fun h => ?_)
  · walk_at "dlx"
    refine cws (cwl_listL ?_)
    show DV.lst _ = iD (shr a)
    unfold shr
    rw [if_pos h]
  · refine w_of_wl (wl_lcF (α := Int) (sw_seq (w_var rfl ⟨_, .inl rfl, a, DV.int, fun x => .int (x.fdiv (gcdL a)), rfl, by omega, fun x _ => ?_, ?_⟩)))
    · refine gw_name (by simp) ?_
      walk_at "dlx"
      exact ow_fdiv h (nle (gcdL_lt h hb) (by decide)) ⟨rfl, rfl⟩
    · show DV.lst _ = iD (shr a)
      unfold shr
      rw [if_neg h]
      simp
/-- [g(x, y) for x, y in zip(xs, ys)] -/
theorem lc_zip {xs ys : List Int} {g : Int → Int → Int} {i j : Nat} {ti : TA} {te : TE} {Γ : List SA} {O : Own} {n : Nat} {k : List DV → Nat → Prop} (hl : xs.length ≤ 1000)
    (hs : WA K ti Γ O n fun ds n' => n' = n ∧ (ds = [.lst (xs.map DV.int), .lst (ys.map DV.int)] ∨ ds = [.tup (xs.map DV.int), .tup (ys.map DV.int)] ∨ ds = [.tup (xs.map DV.int), .lst (ys.map DV.int)]))
    (hb : ∀ x ∈ xs, ∀ y ∈ ys, W K te (((wipeG Γ [i, j]).set i (.is (.int x))).set j (.is (.int y))) O n fun d n' => d = .int (g x y) ∧ n' = n) (hij : i ≠ j) (q : k ((List.zipWith g xs ys).map DV.int) n) :
    WL K (tLc (iZipB K ti) (gTup K 2 (gCons (gName i) (gCons (gName j) gNil))) tYes te [i, j]) Γ O n k := by
  refine wl_lcF (α := Int × Int) (sw_zipB fun pn As H0 M H σ S Q c => hs pn As H0 M H σ S Q fun vs M' H' ds n' e1 S1 r1 ⟨en, h⟩ => c vs M' H' ds n' e1 S1 r1 ⟨xs.map DV.int, ys.map DV.int, h, xs.zip ys, fun z => .tup [.int z.1, .int z.2], fun z => .int (g z.1 z.2), zipD_map _ _ _ _, ?_, fun z hz => ?_, ?_⟩)
  · simp; omega
  · obtain ⟨h1, h2⟩ := List.of_mem_zip hz
    subst en
    refine gw_tup rfl (gws_cons (gw_name (by simp) (gws_cons (gw_name (by simp) (gws_nil ?_)))))
    exact hb _ h1 _ h2
  · subst en
    have e : (xs.zip ys).map (fun z => DV.int (g z.1 z.2)) = (List.zipWith g xs ys).map DV.int := by rw [← zmap, List.map_map]; rfl
    rw [e]; exact q
theorem rd_product (a : List Int × List Int) (hp : a.1.length ≤ 1000 ∧ Bd 8000 a.1 ∧ Bd 8000 a.2) : WS K (t_product K) (slotsD N_product [iD a.1, iD a.2]) [] 0 (ED fun d => d = .int (dotF a.1 a.2)) := by
  obtain ⟨xs, ys⟩ := a
  obtain ⟨hl, h1, h2⟩ := hp
  show WS K (t_product K) [.is (iD xs), .is (iD ys), .no, .no] [] 0 _
  unfold t_product
  refine ws_ret (w_cb (wa_cons (w_of_wl (lc_zip (xs := xs) (ys := ys) (g := fun x y => x * y) hl (wa_cons (w_var rfl (wa_cons (w_var rfl (wa_nil ⟨rfl, .inl rfl⟩))))) (fun x hx y hy => ?_) (by decide) (wa_nil (cw_sum rfl))))))
  walk_at "dlx"
  exact ow_timesI (mul_ok (h1 x hx) (h2 y hy) (by decide) (by decide) (by decide)) ⟨rfl, rfl⟩
theorem rd_law_dot (a : Bool × List Int × List Int) (hp : a.2.1.length ≤ 1000 ∧ Bd 8000 a.2.1 ∧ Bd 8000 a.2.2) : WS K (t_law_dot K) (slotsD N_law_dot [sq a.1 (a.2.1.map DV.int), iD a.2.2]) [] 0 (ED fun d => d = .int (dotF a.2.1 a.2.2)) := by
  obtain ⟨l, xs, ys⟩ := a
  obtain ⟨hl, h1, h2⟩ := hp
  show WS K (t_law_dot K) [.is (sq l (xs.map DV.int)), .is (iD ys), .no, .no] [] 0 _
  unfold t_law_dot
  refine ws_ret (w_cb (wa_cons (w_of_wl (lc_zip (xs := xs) (ys := ys) (g := fun x y => x * y) hl (wa_cons (w_var rfl (wa_cons (w_var rfl (wa_nil ⟨rfl, ?_⟩))))) (fun x hx y hy => ?_) (by decide) (wa_nil (cw_sum rfl))))))
  · cases l
    · exact .inr (.inr rfl)
    · exact .inl rfl
  walk_at "dlx"
  exact ow_timesI (mul_ok (h1 x hx) (h2 y hy) (by decide) (by decide) (by decide)) ⟨rfl, rfl⟩
theorem rd_added (a : List Int × List Int × Int) (hp : a.1.length ≤ 1000 ∧ Bd 8000 a.1 ∧ Bd 8000 a.2.1 ∧ a.2.2.natAbs < 2 ^ 60) : WS K (t_added K) (slotsD N_added [iD a.1, iD a.2.1, .int a.2.2]) [] 0 (ED fun d => d = .tup ((addF a.1 a.2.1 a.2.2).map DV.int)) := by
  obtain ⟨xs, ys, t⟩ := a
  obtain ⟨hl, h1, h2, h3⟩ := hp
  show WS K (t_added K) [.is (iD xs), .is (iD ys), .is (.int t), .no, .no] [] 0 _
  unfold t_added
  refine ws_ret (w_cb (wa_cons (w_of_wl (lc_zip (xs := xs) (ys := ys) (g := fun x y => x + t * y) hl (wa_cons (w_var rfl (wa_cons (w_var rfl (wa_nil ⟨rfl, .inl rfl⟩))))) (fun x hx y hy => ?_) (by decide) (wa_nil (cw_tupL rfl))))))
  walk_at "dlx"
  refine ow_timesI (mul_ok h3 (h2 y hy) (by decide) (by decide) (by decide)) ?_
  walk_at "dlx"
  exact ⟨rfl, rfl⟩
theorem rd_cleared (a : (List Int × List Int) × Nat × Int) (hp : a.1.1.length ≤ 1000 ∧ Bd 8000 a.1.1 ∧ Bd 8000 a.1.2 ∧ a.2.1 < a.1.1.length ∧ a.2.1 < a.1.2.length ∧ a.2.2 ≠ 0 ∧ a.2.2.natAbs < 2 ^ 9000) :
    WS K (t_cleared K) (slotsD N_cleared [iD a.1.1, iD a.1.2, .int a.2.1, .int a.2.2]) [] 0 (ED fun d => d = iD (clr a.1.1 a.1.2 a.2.1 a.2.2)) := by
  obtain ⟨⟨xs, ys⟩, i, dv⟩ := a
  obtain ⟨hl, h1, h2, h3, h4, h5, h6⟩ := hp
  show WS K (t_cleared K) [.is (iD xs), .is (iD ys), .is (.int (i : Int)), .is (.int dv), .no, .no] [] 0 _
  unfold t_cleared
  refine ws_ret (w_of_wl (lc_zip (xs := xs) (ys := ys) (g := fun x y => (x * ys.getD i 0 - xs.getD i 0 * y).fdiv dv) hl (wa_cons (w_var rfl (wa_cons (w_var rfl (wa_nil ⟨rfl, .inl rfl⟩))))) (fun x hx y hy => ?_) (by decide) rfl))
  walk_at "dlx"
  refine ow_ixN (get_int h4) ?_
  refine ow_timesI (mul_ok (h1 x hx) (getD_bd h2) (by decide) (by decide) (by decide)) ?_
  walk_at "dlx"
  refine ow_ixN (get_int h3) ?_
  walk_at "dlx"
  refine ow_timesI (mul_ok (getD_bd h1) (h2 y hy) (by decide) (by decide) (by decide)) ?_
  walk_at "dlx"
  exact ow_fdiv h5 h6 ⟨rfl, rfl⟩
end
end K01
namespace K01
open PySem PySem.Spec PyProof.Rows L2 DL
/-! the stepped form: shapes and sizes -/
theorem natAbs_fdiv_le {x d : Int} (h : d ≠ 0) : (x.fdiv d).natAbs ≤ x.natAbs := by
  by_cases hd : 0 < d
  · rw [Int.fdiv_eq_ediv_of_nonneg x (by omega)]
    exact Int.natAbs_ediv_le_natAbs x d
  · have e : x.fdiv d = (-x).fdiv (-d) := (Int.neg_fdiv_neg x d).symm
    rw [e, Int.fdiv_eq_ediv_of_nonneg _ (by omega)]
    have := Int.natAbs_ediv_le_natAbs (-x) (-d)
    omega
theorem spots_mem {l : List (List Int)} {top at_ i p : Nat} (h : p ∈ spotsTo l top at_ i) : top ≤ p ∧ p < top + i ∧ cell l p at_ ≠ 0 := by
  unfold spotsTo at h
  obtain ⟨h1, h2⟩ := List.mem_filter.mp h
  obtain ⟨j, hj, rfl⟩ := List.mem_map.mp h1
  have := List.mem_range.mp hj
  exact ⟨by omega, by omega, by simpa using h2⟩
theorem spots_all {l : List (List Int)} {top at_ : Nat} (h : spotsF l top at_ = []) {p : Nat} (h1 : top ≤ p) (h2 : p < l.length) : cell l p at_ = 0 := by
  refine Classical.byContradiction fun z => ?_
  have : p ∈ spotsF l top at_ := by
    refine List.mem_filter.mpr ⟨List.mem_map.mpr ⟨p - top, List.mem_range.mpr (by omega), by omega⟩, by simpa using z⟩
  rw [h] at this; cases this
theorem spots_first {l : List (List Int)} {top at_ p : Nat} {t : List Nat} (h : spotsF l top at_ = p :: t) : top ≤ p ∧ p < l.length ∧ cell l p at_ ≠ 0 := by
  have hm : p ∈ spotsTo l top at_ (l.length - top) := by
    have : p ∈ spotsF l top at_ := by rw [h]; simp
    exact this
  obtain ⟨h1, h2, h3⟩ := spots_mem hm
  exact ⟨h1, by omega, h3⟩
theorem spotsTo_succ (l : List (List Int)) (top at_ i : Nat) : spotsTo l top at_ (i + 1) = if cell l (top + i) at_ = 0 then spotsTo l top at_ i else spotsTo l top at_ i ++ [top + i] := by
  unfold spotsTo
  rw [List.range_succ, List.map_append, List.filter_append]
  by_cases h : cell l (top + i) at_ = 0 <;> simp [h]
theorem getD_mem {α : Type} {l : List α} {i : Nat} {d : α} (h : i < l.length) : l.getD i d ∈ l := by
  rw [List.getD_eq_getElem?_getD, List.getElem?_eq_getElem h]
  exact List.getElem_mem h
theorem swp_len (l : List (List Int)) (a b : Nat) : (swp l a b).length = l.length := by simp [swp]
theorem swp_mem {l : List (List Int)} {a b : Nat} (ha : a < l.length) (hb : b < l.length) {r : List Int} (h : r ∈ swp l a b) : r ∈ l := by
  unfold swp at h
  rcases List.mem_or_eq_of_mem_set h with h | h
  · rcases List.mem_or_eq_of_mem_set h with h | h
    · exact h
    · rw [h]; exact getD_mem hb
  · rw [h]; exact getD_mem ha
theorem swp_get {l : List (List Int)} {a b i : Nat} (ha : a < l.length) (hb : b < l.length) : (swp l a b).getD i [] = if i = b then l.getD a [] else if i = a then l.getD b [] else l.getD i [] := by
  unfold swp
  rw [List.getD_eq_getElem?_getD, List.getElem?_set]
  by_cases h1 : i = b
  · rw [if_pos h1.symm, if_pos h1, if_pos (by simpa using hb)]; rfl
  · rw [if_neg (fun z => h1 z.symm), if_neg h1, List.getElem?_set]
    by_cases h2 : i = a
    · rw [if_pos h2.symm, if_pos h2, if_pos ha]; rfl
    · rw [if_neg (fun z => h2 z.symm), if_neg h2, ← List.getD_eq_getElem?_getD]
theorem swp_top {l : List (List Int)} {a b : Nat} (ha : a < l.length) (hb : b < l.length) : (swp l a b).getD a [] = l.getD b [] := by
  rw [swp_get ha hb]
  by_cases h : a = b
  · rw [if_pos h, h]
  · rw [if_neg h, if_pos rfl]
theorem stepF_nil {s : S3} {c : Nat} (h : spotsF s.l s.q.length c = []) : stepF s c = s := by unfold stepF; rw [h]
theorem stepF_cons {s : S3} {c p : Nat} {t : List Nat} (h : spotsF s.l s.q.length c = p :: t) :
    stepF s c = ⟨(swp s.l s.q.length p).mapIdx fun i row => if i = s.q.length then row else clr row ((swp s.l s.q.length p).getD s.q.length []) c s.d, s.q ++ [c], ((swp s.l s.q.length p).getD s.q.length []).getD c 0⟩ := by unfold stepF; rw [h]
theorem clr_len {row line : List Int} {c : Nat} {d : Int} (h : line.length = row.length) : (clr row line c d).length = row.length := by unfold clr; simp [h]
theorem clr_bd {row line : List Int} {c b : Nat} {d : Int} (h1 : Bd b row) (h2 : Bd b line) (hd : d ≠ 0) : Bd (2 * b + 1) (clr row line c d) := by
  intro x hx
  unfold clr at hx
  rw [← zmap] at hx
  obtain ⟨⟨u, v⟩, hz, rfl⟩ := List.mem_map.mp hx
  obtain ⟨m1, m2⟩ := List.of_mem_zip hz
  have e := nsub (nmul (h1 u m1) (getD_bd (i := c) h2)) (nmul (getD_bd (i := c) h1) (h2 v m2))
  have e2 : b + b + 1 = 2 * b + 1 := by omega
  rw [e2] at e
  exact Nat.lt_of_le_of_lt (natAbs_fdiv_le hd) e
theorem Bd.le {a b : Nat} {r : List Int} (h : Bd a r) (hab : a ≤ b) : Bd b r := fun x hx => nle (h x hx) hab
structure SI (R m b : Nat) (s : S3) : Prop where
  len : s.l.length = R
  wd : ∀ r ∈ s.l, r.length = m
  bd : Bds b s.l
  d0 : s.d ≠ 0
  db : s.d.natAbs < 2 ^ b
  ql : s.q.length ≤ R
  qm : ∀ x ∈ s.q, x < m
theorem stepF_SI {R m b : Nat} {s : S3} {c : Nat} (h : SI R m b s) (hc : c < m) : SI R m (2 * b + 1) (stepF s c) := by
  cases e : spotsF s.l s.q.length c with
  | nil =>
    rw [stepF_nil e]
    exact ⟨h.len, h.wd, fun r hr => (h.bd r hr).le (by omega), h.d0, nle h.db (by omega), h.ql, h.qm⟩
  | cons p t =>
    rw [stepF_cons e]
    obtain ⟨p1, p2, p3⟩ := spots_first e
    have ht : s.q.length < s.l.length := by omega
    have hlm : s.l.getD p [] ∈ s.l := getD_mem p2
    rw [swp_top ht p2]
    refine ⟨by simp [swp_len, h.len], fun r hr => ?_, fun r hr => ?_, p3, nle (getD_bd (h.bd _ hlm)) (by omega), ?_, fun x hx => ?_⟩
    · obtain ⟨i, hi, rfl⟩ := List.mem_mapIdx.mp hr
      have hm := swp_mem ht p2 (List.getElem_mem hi)
      split
      · exact h.wd _ hm
      · rw [clr_len (by rw [h.wd _ hlm, h.wd _ hm])]; exact h.wd _ hm
    · obtain ⟨i, hi, rfl⟩ := List.mem_mapIdx.mp hr
      have hm := swp_mem ht p2 (List.getElem_mem hi)
      split
      · exact (h.bd _ hm).le (by omega)
      · exact clr_bd (h.bd _ hm) (h.bd _ hlm) h.d0
    · rw [List.length_append, List.length_singleton]
      have := h.len
      omega
    · rcases List.mem_append.mp hx with h1 | h1
      · exact h.qm x h1
      · rw [List.mem_singleton.mp h1]; exact hc
/-- the state ahead of column i -/
def stAt (rows : List (List Int)) (i : Nat) : S3 := (List.range i).foldl stepF ⟨rows, [], 1⟩
theorem stAt_succ (rows : List (List Int)) (i : Nat) : stAt rows (i + 1) = stepF (stAt rows i) i := by
  unfold stAt
  rw [List.range_succ, List.foldl_append]
  rfl
def bAt : Nat → Nat
  | 0 => 61
  | i + 1 => 2 * bAt i + 1
theorem bAt_le : ∀ i, i ≤ 4 → bAt i ≤ 1000 := by decide
theorem stAt_SI {m : Nat} {rows : List (List Int)} (h : Mat m 60 rows) : ∀ i, i ≤ m → SI rows.length m (bAt i) (stAt rows i)
  | 0, _ => ⟨rfl, h.2.2.1, fun r hr => (h.2.2.2 r hr).le (by decide), (by decide : (1 : Int) ≠ 0), (by decide : (1 : Int).natAbs < 2 ^ 61), Nat.zero_le _, fun x hx => absurd hx (by simp [stAt])⟩
  | i + 1, hi => by
    rw [stAt_succ]
    exact stepF_SI (stAt_SI h i (by omega)) (by omega)
theorem wid_of {m b : Nat} {rows : List (List Int)} (h : Mat m b rows) (hne : rows ≠ []) : wid rows = m := by
  unfold wid
  exact h.2.2.1 _ (getD_mem (List.length_pos_iff.mpr hne))
theorem wid_nil : wid [] = 0 := rfl
theorem wid_le {m b : Nat} {rows : List (List Int)} (h : Mat m b rows) : wid rows ≤ m := by
  by_cases hne : rows = []
  · rw [hne, wid_nil]; exact Nat.zero_le _
  · rw [wid_of h hne]; exact Nat.le_refl _
theorem stp_at (rows : List (List Int)) : stp rows = stAt rows (wid rows) := rfl
end K01
namespace K01
open PySem PySem.Spec PyProof.Rows L2 DL
section
variable {K : Fg}
theorem get_rows {l : List (List Int)} {i : Nat} (h : i < l.length) : (l.map iD)[i]? = some (iD (l.getD i [])) := by
  rw [List.getElem?_map, List.getElem?_eq_getElem h]
  simp [List.getD_eq_getElem?_getD, List.getElem?_eq_getElem h]
theorem map_swp (l : List (List Int)) (a b : Nat) : (((l.map iD).set a (iD (l.getD b []))).set b (iD (l.getD a []))) = (swp l a b).map iD := by
  unfold swp
  rw [List.map_set, List.map_set]
theorem mapIdx_take {α β : Type} (F : Nat → α → β) {l : List α} {j : Nat} {x : α} (h : l[j]? = some x) : (l.mapIdx F).take (j + 1) = (l.mapIdx F).take j ++ [F j x] := by
  rw [List.take_add_one, List.getElem?_mapIdx, h]
  rfl
theorem rd_stepped (a : List (List Int)) (hp : ∃ m, Mat m 60 a) : WS K (t_stepped K) (slotsD N_stepped [rD a]) [] 0 (ED fun d => d = .tup [rD ((stp a).l.take (stp a).q.length), .lst ((stp a).q.map fun (x : Nat) => DV.int (x : Int)), .int (stp a).d]) := by
  obtain ⟨m, hM⟩ := hp
  obtain ⟨hal, hm4, hwd, hbd⟩ := id hM
  show WS K (t_stepped K) [.is (rD a), .no, .no, .no, .no, .no, .no, .no, .no, .no] [] 0 _
  unfold t_stepped
  have hw : ∀ (Γ : List SA) (O : Own) (n : Nat) (k : DV → Nat → Prop), Γ[0]? = some (.is (rD a)) → k (.int (wid a : Int)) n → W K (tIf (tTest (tOp rGt (tCB (rLenA K) (tCons (tVar 0) tNil)) (tC (.int 0)))) (tCB (rLenA K) (tCons (tOp (rIx K) (tVar 0) (tC (.int 0))) tNil)) (tC (.int 0))) Γ O n k := by
    intro Γ O n k hΓ hk
    refine w_if (wt_test (w_op (w_cb (wa_cons (w_var hΓ (wa_nil (cw_lenL (w_int (ow_gt ⟨_, rfl, br (fun h => ?_) (fun h => ?_)⟩)))))))))
    · have hpos : 0 < a.length := by rw [List.length_map] at h; omega
      refine w_cb (wa_cons (w_op (w_var hΓ (w_int (ow_ixL (DL.atI_nat (i := 0) (get_rows hpos)) (wa_nil (cw_lenL ?_)))))))
      rw [List.length_map]
      exact hk
    · have hnil : a = [] := by
        rw [List.length_map] at h
        exact List.length_eq_zero_iff.mp (by omega)
      refine w_int ?_
      subst hnil
      exact hk
  refine ws_seq (ws_asgT3 (wl_lcF (α := List Int) (sw_seq (w_var rfl ⟨_, .inl rfl, a, iD, iD, rfl, by omega, fun r _ => ?_, ?_⟩))))
  · exact gw_name (by simp) (w_cb (wa_cons (w_var rfl (wa_nil (cws (cwl_listL ⟨rfl, rfl⟩))))))
  refine wl_lst (wa_nil ⟨by simp, w_int ?_⟩)
  refine ws_seq (ws_for (vs := [4]) (sw_rng1 (wa_cons (hw _ _ _ _ rfl (wa_nil ⟨_, rfl, by have := wid_le hM; omega, by have := wid_le hM; omega, fun i Γ O n => ∃ (jl : Nat) (x4 x5 x6 x7 x8 x9 : SA), Γ = [.is (rD a), .own jl, .own 1, .is (.int (stAt a i).d), x4, x5, x6, x7, x8, x9] ∧ O[jl]? = some (some ((stAt a i).l.map iD)) ∧ O[1]? = some (some ((stAt a i).q.map nN)) ∧ jl ≠ 1, ⟨0, _, _, _, _, _, _, rfl, rfl, rfl, by decide⟩, ?_, ?_⟩)))))
  · rintro i x _ O n hx ⟨jl, x4, x5, x6, x7, x8, x9, rfl, hl, hq, hne⟩
    obtain ⟨hi, rfl⟩ := rngD_get hx
    have hi' : i < wid a := by simpa using hi
    have him : i < m := Nat.lt_of_lt_of_le hi' (wid_le hM)
    have hsucc := stAt_succ a i
    have S := stAt_SI hM i (Nat.le_of_lt him)
    have bb : bAt i ≤ 1000 := bAt_le i (by omega)
    generalize stAt a i = s at *
    obtain ⟨l, q, d⟩ := s
    obtain ⟨s1, s2, s3, s4, s5, s6, s7⟩ := S
    simp only at hl hq s1 s2 s3 s4 s5 s6 s7
    rw [Int.zero_add]
    refine gw_name (by simp) ?_
    refine ws_seq (ws_asg (w_lenOwn rfl hq ?_))
    rw [List.length_map]
    refine ws_seq (ws_asg (w_of_wl (wl_lc (sw_rng2 (wa_cons (w_var rfl (wa_cons (w_lenOwn rfl hl (wa_nil ⟨_, _, rfl, ?_, ?_⟩)))))))))
    · rw [List.length_map]; omega
    rw [List.length_map]
    have en : ((l.length : Int) - (q.length : Int)).toNat = l.length - q.length := by omega
    rw [en]
    refine ⟨by rw [rngD_length]; omega, fun j acc _ => acc = (spotsTo l q.length i j).map nN, rfl, ?_, ?_⟩
    · rintro j x _ _ hx rfl
      obtain ⟨hj, rfl⟩ := rngD_get hx
      have ej : (q.length : Int) + (j : Int) = ((q.length + j : Nat) : Int) := by omega
      rw [ej]
      have hjl : q.length + j < l.length := by omega
      have hrl : (l.getD (q.length + j) []).length = m := s2 _ (getD_mem hjl)
      refine gw_name (by simp) (wt_test (w_op (w_op (w_ixOwn rfl hl (w_var rfl ⟨_, _, rfl, DL.atI_nat (get_rows hjl), w_var rfl (ow_ixN (get_int (by rw [hrl]; exact him)) (w_int (ow_neI ⟨_, rfl, brN (fun h => w_var rfl ?_) (fun h => ?_)⟩)))⟩)))))
      · have h' : ¬ cell l (q.length + j) i = 0 := h
        show _ = (spotsTo l q.length i (j + 1)).map nN
        rw [spotsTo_succ, if_neg h', List.map_append]
        rfl
      · have h' : cell l (q.length + j) i = 0 := h
        show _ = (spotsTo l q.length i (j + 1)).map nN
        rw [spotsTo_succ, if_pos h']
    rintro _ n' rfl
    rw [rngD_length]
    refine ws_if (wt_test (w_op (w_var rfl (w_of_wl (wl_lst (wa_nil ⟨by simp, ne_nNs (y := []) ⟨_, rfl, brN (fun h => ?_) (fun h => ?_)⟩⟩))))))
    · cases e : spotsF l q.length i with
      | nil => exact absurd e h
      | cons p t =>
        have e' : spotsTo l q.length i (l.length - q.length) = p :: t := e
        rw [e']
        have hst := stepF_cons (s := ⟨l, q, d⟩) (c := i) e
        obtain ⟨p1, p2, p3⟩ := spots_first e
        have ht : q.length < l.length := by omega
        have a0 : atI ((p :: t).map nN) 0 = some (nN p) := DL.atI_nat (i := 0) rfl
        refine ws_seq (ws_asgG (w_tup (wa_cons (w_ixOwn rfl hl (w_op (w_var rfl (w_int (ow_ixL a0 ⟨(p : Int), _, rfl, DL.atI_nat (get_rows p2), ?_⟩))))))))
        refine wa_cons (w_ixOwn rfl hl (w_var rfl ⟨(q.length : Int), _, rfl, DL.atI_nat (get_rows ht), wa_nil ⟨by simp, xg_tup rfl (xgs_cons (xg_set rfl hl (w_var rfl ⟨(q.length : Int), q.length, rfl, Evl.ixN_nat (by rw [List.length_map]; exact ht), ?_⟩)))⟩⟩))
        refine xgs_cons (xg_set rfl (own_set hl) (w_op (w_var rfl (w_int (ow_ixL a0 ⟨(p : Int), p, rfl, Evl.ixN_nat (by simpa using p2), xgs_nil ?_⟩)))))
        rw [map_swp]
        have hl1 := own_set (y := some ((swp l q.length p).map iD)) (own_set (y := some ((l.map iD).set q.length (iD (l.getD p [])))) hl)
        have hq1 := own_other (j := jl) (y := some ((swp l q.length p).map iD)) (own_other (j := jl) (y := some ((l.map iD).set q.length (iD (l.getD p [])))) hq hne) hne
        generalize ((O.set jl (some ((l.map iD).set q.length (iD (l.getD p []))))).set jl (some ((swp l q.length p).map iD))) = O1 at hl1 hq1 ⊢
        have w1 : ∀ r ∈ swp l q.length p, r.length = m := fun r hr => s2 r (swp_mem ht p2 hr)
        have b1 : Bds (bAt i) (swp l q.length p) := fun r hr => s3 r (swp_mem ht p2 hr)
        have n1 : (swp l q.length p).length = l.length := swp_len _ _ _
        generalize swp l q.length p = L1 at *
        have lm : L1.getD q.length [] ∈ L1 := getD_mem (by omega)
        have ll := w1 _ lm
        have lb := b1 _ lm
        refine ws_freeze (i := 1) rfl hl1 ?_
        refine ws_seq (ws_asg (w_op (w_var rfl (w_var rfl (ow_ixN (get_rows (by omega)) ?_)))))
        generalize L1.getD q.length [] = line at *
        refine ws_seq (ws_asgOwn (wl_lc (sw_enum (wa_cons (w_var rfl (wa_nil ⟨_, rfl, ?_⟩))))))
        refine ⟨by rw [enumD_length, List.length_map]; omega, fun j acc _ => acc = ((L1.mapIdx fun i' row => if i' = q.length then row else clr row line i d).take j).map iD, rfl, ?_, ?_⟩
        · rintro j x _ _ hx rfl
          rw [enumD_get, List.getElem?_map] at hx
          cases hj : L1[j]? with
          | none => rw [hj] at hx; cases hx
          | some row =>
            rw [hj] at hx
            cases hx
            have hrm := List.mem_of_getElem? hj
            rw [Nat.zero_add]
            refine gw_tup rfl (gws_cons (gw_name (by simp) (gws_cons (gw_name (by simp) (gws_nil ?_)))))
            refine wt_yes ⟨fun _ => ?_, fun z => nomatch z⟩
            refine w_if (wt_test (w_op (w_var rfl (w_var rfl (ow_eqI ⟨_, rfl, br (fun h => ?_) (fun h => ?_)⟩)))))
            · refine w_var rfl ?_
              show _ = ((L1.mapIdx fun i' row => if i' = q.length then row else clr row line i d).take (j + 1)).map iD
              rw [mapIdx_take _ hj, if_pos (by omega)]
              simp
            · refine w_call (wa_cons (w_var rfl (wa_cons (w_var rfl (wa_cons (w_var rfl (wa_cons (w_var rfl (wa_nil ⟨((row, line), i, d), rfl, ⟨?_, ?_, ?_, ?_, ?_, s4, ?_⟩, ?_⟩)))))))))
              · show row.length ≤ 1000
                rw [w1 row hrm]; omega
              · exact (b1 row hrm).le (by omega)
              · exact lb.le (by omega)
              · show i < row.length
                rw [w1 row hrm]; exact him
              · show i < line.length
                rw [ll]; exact him
              · exact nle s5 (by omega)
              · rintro _ rfl
                show _ = ((L1.mapIdx fun i' row => if i' = q.length then row else clr row line i d).take (j + 1)).map iD
                rw [mapIdx_take _ hj, if_neg (by omega)]
                simp
        · rintro _ n2 rfl
          have et : (L1.mapIdx fun i' row => if i' = q.length then row else clr row line i d).take L1.length = L1.mapIdx fun i' row => if i' = q.length then row else clr row line i d := List.take_of_length_le (by rw [List.length_mapIdx]; exact Nat.le_refl _)
          rw [enumD_length, List.length_map, et]
          have hq2 := own_app (L := [some ((L1.mapIdx fun i' row => if i' = q.length then row else clr row line i d).map iD)]) (own_other (j := jl) (y := none) hq1 hne)
          have hl2 : (O1.set jl none ++ [some ((L1.mapIdx fun i' row => if i' = q.length then row else clr row line i d).map iD)])[(O1.set jl none).length]? = some (some ((L1.mapIdx fun i' row => if i' = q.length then row else clr row line i d).map iD)) := own_last
          have hO1 := own_lt hq1
          refine ws_seq (ws_append rfl hq2 (by rw [List.length_map]; omega) (w_var rfl ?_))
          refine ws_asg (w_op (w_var rfl (w_var rfl (ow_ixN (get_int (by rw [ll]; exact him)) ?_))))
          have hl3 : (O1.set jl none).length ≠ 1 := by rw [List.length_set]; omega
          refine ⟨(O1.set jl none).length, .is (.int (i : Int)), .is (.int (q.length : Int)), .is (.lst ((p :: t).map nN)), .is (iD line), x8, x9, ?_, ?_, ?_, hl3⟩
          · rw [hsucc, hst]; rfl
          · rw [hsucc, hst]; exact own_other hl2 (fun z => hl3 z.symm)
          · rw [hsucc, hst]
            have e9 : (q ++ [i]).map nN = q.map nN ++ [.int (i : Int)] := by simp [nN]
            show _ = some (some ((q ++ [i]).map nN))
            rw [e9]
            exact own_set hq2
    · have e : spotsF l q.length i = [] := h
      have hst := stepF_nil (s := ⟨l, q, d⟩) (c := i) e
      refine ws_next ⟨jl, .is (.int (i : Int)), .is (.int (q.length : Int)), .is (.lst ((spotsTo l q.length i (l.length - q.length)).map nN)), x7, x8, x9, ?_, ?_, ?_, hne⟩
      · rw [hsucc, hst]; rfl
      · rw [hsucc, hst]; exact hl
      · rw [hsucc, hst]; exact hq
  · rintro _ O n ⟨jl, x4, x5, x6, x7, x8, x9, rfl, hl, hq, hne⟩
    have e0 : (rngD 0 ((wid a : Nat) : Int).toNat).length = wid a := by rw [rngD_length]; omega
    rw [e0] at hl hq ⊢
    rw [stp_at]
    have S := stAt_SI hM (wid a) (wid_le hM)
    generalize stAt a (wid a) = s at *
    refine ws_freeze (i := 1) rfl hl (ws_freeze (i := 2) rfl (own_other hq hne) (ws_ret (w_tup ?_)))
    refine wa_cons (w_of_wl (wl_slL (w_var rfl ⟨_, rfl, wo_none (wo_some (w_cb (wa_cons (w_var rfl (wa_nil (cw_lenL ⟨_, rfl, ?_⟩))))))⟩)))
    rw [List.length_map, cut_to (by rw [List.length_map, S.len]; exact S.ql)]
    refine wa_cons (w_var rfl (wa_cons (w_var rfl (wa_nil ⟨by simp, ?_⟩))))
    rw [← List.map_take]
    rfl
theorem rd_rank_of (a : List (List Int)) (hp : ∃ m, Mat m 60 a) : WS K (t_rank_of K) (slotsD N_rank_of [rD a]) [] 0 (ED fun d => d = .int ((stp a).q.length : Int)) := by
  show WS K (t_rank_of K) [.is (rD a)] [] 0 _
  unfold t_rank_of
  refine ws_ret (w_cb (wa_cons (w_op (w_call (wa_cons (w_var rfl (wa_nil ⟨a, rfl, hp, ?_⟩)))))))
  rintro _ rfl
  refine w_int (ow_ixT rfl (wa_nil (cw_lenL ?_)))
  rw [List.length_map]
end
end K01
namespace K01
open PySem PySem.Spec PyProof.Rows L2 DL
theorem pl_rD (rows : List (List Int)) : Pl 2 (rD rows) := pl_lst fun d hd => by
  obtain ⟨r, _, rfl⟩ := List.mem_map.mp hd
  exact pl_ints r
theorem eqv_rD (x y : List (List Int)) : PyData.eqv (py (rD x)) (py (rD y)) = decide (x = y) :=
  Bool.eq_iff_iff.mpr ((eqv_lst iD eqv_ints x y).trans decide_eq_true_iff.symm)
theorem lstep_nil {s : List (List Int) × Nat} {c : Nat} (h : spotsF s.1 s.2 c = []) : lstep s c = s := by unfold lstep; rw [h]
theorem lstep_cons {s : List (List Int) × Nat} {c p : Nat} {t : List Nat} (h : spotsF s.1 s.2 c = p :: t) :
    lstep s c = ((swp s.1 s.2 p).mapIdx fun i row => if s.2 < i then elm row ((swp s.1 s.2 p).getD s.2 []) c else row, s.2 + 1) := by unfold lstep; rw [h]
theorem elm_len {row line : List Int} {c : Nat} (h : line.length = row.length) : (elm row line c).length = row.length := by unfold elm; simp [h]
theorem elm_bd {row line : List Int} {c b : Nat} (h1 : Bd b row) (h2 : Bd b line) : Bd (2 * b + 1) (elm row line c) := by
  intro x hx
  unfold elm at hx
  rw [← zmap] at hx
  obtain ⟨⟨u, v⟩, hz, rfl⟩ := List.mem_map.mp hx
  obtain ⟨m1, m2⟩ := List.of_mem_zip hz
  have e := nsub (nmul (h1 u m1) (getD_bd (i := c) h2)) (nmul (getD_bd (i := c) h1) (h2 v m2))
  have e2 : b + b + 1 = 2 * b + 1 := by omega
  rw [e2] at e
  exact e
structure LI (R m b : Nat) (s : List (List Int) × Nat) : Prop where
  len : s.1.length = R
  wd : ∀ r ∈ s.1, r.length = m
  bd : Bds b s.1
  rk : s.2 ≤ R
theorem lstep_LI {R m b : Nat} {s : List (List Int) × Nat} {c : Nat} (h : LI R m b s) (hc : c < m) : LI R m (2 * b + 1) (lstep s c) := by
  cases e : spotsF s.1 s.2 c with
  | nil =>
    rw [lstep_nil e]
    exact ⟨h.len, h.wd, fun r hr => (h.bd r hr).le (by omega), h.rk⟩
  | cons p t =>
    rw [lstep_cons e]
    obtain ⟨p1, p2, p3⟩ := spots_first e
    have ht : s.2 < s.1.length := by omega
    have hlm : s.1.getD p [] ∈ s.1 := getD_mem p2
    rw [swp_top ht p2]
    refine ⟨by simp [swp_len, h.len], fun r hr => ?_, fun r hr => ?_, by have := h.len; show s.2 + 1 ≤ R; omega⟩
    · obtain ⟨i, hi, rfl⟩ := List.mem_mapIdx.mp hr
      have hm := swp_mem ht p2 (List.getElem_mem hi)
      split
      · rw [elm_len (by rw [h.wd _ hlm, h.wd _ hm])]; exact h.wd _ hm
      · exact h.wd _ hm
    · obtain ⟨i, hi, rfl⟩ := List.mem_mapIdx.mp hr
      have hm := swp_mem ht p2 (List.getElem_mem hi)
      split
      · exact elm_bd (h.bd _ hm) (h.bd _ hlm)
      · exact (h.bd _ hm).le (by omega)
def lAt (rows : List (List Int)) (i : Nat) : List (List Int) × Nat := (List.range i).foldl lstep (rows, 0)
theorem lAt_succ (rows : List (List Int)) (i : Nat) : lAt rows (i + 1) = lstep (lAt rows i) i := by
  unfold lAt
  rw [List.range_succ, List.foldl_append]
  rfl
theorem lrk_at (rows : List (List Int)) : lrk rows = (lAt rows (wid rows)).2 := rfl
def cAt : Nat → Nat
  | 0 => 2000
  | i + 1 => 2 * cAt i + 1
theorem cAt_le : ∀ i, i ≤ 4 → 1 ≤ cAt i ∧ cAt i ≤ 40000 := by decide
theorem lAt_LI {m : Nat} {rows : List (List Int)} (h : Mat m 2000 rows) : ∀ i, i ≤ m → LI rows.length m (cAt i) (lAt rows i)
  | 0, _ => ⟨rfl, h.2.2.1, h.2.2.2, Nat.zero_le _⟩
  | i + 1, hi => by
    rw [lAt_succ]
    exact lstep_LI (lAt_LI h i (by omega)) (by omega)
/-- the rows below, one after another -/
def part (rk j c : Nat) (line : List Int) (L : List (List Int)) : List (List Int) := L.mapIdx fun i row => if rk < i ∧ i < rk + 1 + j then elm row line c else row
theorem part_len (rk j c : Nat) (line : List Int) (L : List (List Int)) : (part rk j c line L).length = L.length := by simp [part]
theorem part_zero (rk c : Nat) (line : List Int) (L : List (List Int)) : part rk 0 c line L = L := by
  unfold part
  apply List.ext_getElem?
  intro i
  rw [List.getElem?_mapIdx]
  cases h : L[i]? with
  | none => rfl
  | some r =>
    have e : ¬ (rk < i ∧ i < rk + 1 + 0) := by omega
    show some (if _ then _ else _) = _
    rw [if_neg e]
theorem part_get (rk j c : Nat) (line : List Int) {L : List (List Int)} {i : Nat} (h : ¬ (rk < i ∧ i < rk + 1 + j)) : (part rk j c line L).getD i [] = L.getD i [] := by
  unfold part
  rw [List.getD_eq_getElem?_getD, List.getD_eq_getElem?_getD, List.getElem?_mapIdx]
  cases L[i]? with
  | none => rfl
  | some r =>
    show (some (if _ then _ else _)).getD _ = _
    rw [if_neg h]
theorem part_succ (rk j c : Nat) (line : List Int) {L : List (List Int)} (h : rk + 1 + j < L.length) : (part rk j c line L).set (rk + 1 + j) (elm (L.getD (rk + 1 + j) []) line c) = part rk (j + 1) c line L := by
  unfold part
  apply List.ext_getElem?
  intro i
  rw [List.getElem?_set, List.getElem?_mapIdx, List.getElem?_mapIdx, List.length_mapIdx]
  by_cases hi : rk + 1 + j = i
  · subst hi
    rw [if_pos rfl, if_pos h, List.getElem?_eq_getElem h]
    show _ = some (if _ then _ else _)
    rw [if_pos (by omega), List.getD_eq_getElem?_getD, List.getElem?_eq_getElem h]
    rfl
  · rw [if_neg hi]
    cases L[i]? with
    | none => rfl
    | some r =>
      show some (if _ then _ else _) = some (if _ then _ else _)
      by_cases hc : rk < i ∧ i < rk + 1 + j
      · rw [if_pos hc, if_pos (by omega)]
      · rw [if_neg hc, if_neg (by omega)]
theorem part_all (rk c : Nat) (line : List Int) (L : List (List Int)) : part rk (L.length - (rk + 1)) c line L = L.mapIdx fun i row => if rk < i then elm row line c else row := by
  unfold part
  apply List.ext_getElem?
  intro i
  rw [List.getElem?_mapIdx, List.getElem?_mapIdx]
  by_cases hi : i < L.length
  · rw [List.getElem?_eq_getElem hi]
    show some (if _ then _ else _) = some (if _ then _ else _)
    by_cases hc : rk < i
    · rw [if_pos hc, if_pos (by omega)]
    · rw [if_neg hc, if_neg (by omega)]
  · rw [List.getElem?_eq_none (by omega)]; rfl
section
variable {K : Fg}
theorem rd_law_rank (a : List (List Int)) (hp : ∃ m, Mat m 2000 a) : WS K (t_law_rank K) (slotsD N_law_rank [rD a]) [] 0 (ED fun d => d = .int (lrk a : Int)) := by
  obtain ⟨m, hM⟩ := hp
  obtain ⟨hal, hm4, hwd, hbd⟩ := id hM
  show WS K (t_law_rank K) [.is (rD a), .no, .no, .no, .no, .no, .no, .no, .no] [] 0 _
  unfold t_law_rank
  have hw : ∀ (Γ : List SA) (O : Own) (n : Nat) (k : DV → Nat → Prop), Γ[0]? = some (.is (rD a)) → k (.int (wid a : Int)) n → W K (tIf (tTest (tOp (rNeA K) (tVar 0) (tLst tNil))) (tCB (rLenA K) (tCons (tOp (rIx K) (tVar 0) (tC (.int 0))) tNil)) (tC (.int 0))) Γ O n k := by
    intro Γ O n k hΓ hk
    refine w_if (wt_test (w_op (w_var hΓ (w_of_wl (wl_lst (wa_nil ⟨by simp, ow_neD (y := rD []) (pl_rD a).shp (pl_rD []).shp ?_⟩))))))
    rw [eqv_rD]
    refine ⟨_, rfl, brN (fun h => ?_) (fun h => ?_)⟩
    · have hpos : 0 < a.length := List.length_pos_iff.mpr h
      refine w_cb (wa_cons (w_op (w_var hΓ (w_int (ow_ixL (DL.atI_nat (i := 0) (get_rows hpos)) (wa_nil (cw_lenL ?_)))))))
      rw [List.length_map]
      exact hk
    · refine w_int ?_
      subst h
      exact hk
  refine ws_seq (ws_asgT2 (wl_lcF (α := List Int) (sw_seq (w_var rfl ⟨_, .inl rfl, a, iD, iD, rfl, by omega, fun r _ => ?_, ?_⟩))))
  · exact gw_name (by simp) (w_cb (wa_cons (w_var rfl (wa_nil (cws (cwl_listL ⟨rfl, rfl⟩))))))
  refine w_int ?_
  refine ws_seq (ws_for (vs := [3]) (sw_rng1 (wa_cons (hw _ _ _ _ rfl (wa_nil ⟨_, rfl, by have := wid_le hM; omega, by have := wid_le hM; omega, fun i Γ O n => ∃ (x3 x4 x5 x6 x7 x8 : SA), Γ = [.is (rD a), .own 0, .is (.int ((lAt a i).2 : Int)), x3, x4, x5, x6, x7, x8] ∧ O = [some ((lAt a i).1.map iD)], ⟨_, _, _, _, _, _, rfl, rfl⟩, ?_, ?_⟩)))))
  · rintro i x _ _ n hx ⟨x3, x4, x5, x6, x7, x8, rfl, rfl⟩
    obtain ⟨hi, rfl⟩ := rngD_get hx
    have hi' : i < wid a := by simpa using hi
    have him : i < m := Nat.lt_of_lt_of_le hi' (wid_le hM)
    have hsucc := lAt_succ a i
    have S := lAt_LI hM i (Nat.le_of_lt him)
    have bb := cAt_le i (by omega)
    generalize lAt a i = s at *
    obtain ⟨l, rk⟩ := s
    obtain ⟨s1, s2, s3, s4⟩ := S
    simp only at s1 s2 s3 s4
    rw [Int.zero_add]
    refine gw_name (by simp) ?_
    show WS K _ [.is (rD a), .own 0, .is (.int (rk : Int)), .is (.int (i : Int)), x4, x5, x6, x7, x8] [some (l.map iD)] _ _
    refine ws_seq (ws_asg (w_of_wl (wl_lc (sw_rng2 (wa_cons (w_var rfl (wa_cons (w_lenOwn rfl rfl (wa_nil ⟨_, _, rfl, ?_, ?_⟩)))))))))
    · rw [List.length_map]; omega
    rw [List.length_map]
    have en : ((l.length : Int) - (rk : Int)).toNat = l.length - rk := by omega
    rw [en]
    refine ⟨by rw [rngD_length]; omega, fun j acc _ => acc = (spotsTo l rk i j).map nN, rfl, ?_, ?_⟩
    · rintro j x _ _ hx rfl
      obtain ⟨hj, rfl⟩ := rngD_get hx
      have ej : (rk : Int) + (j : Int) = ((rk + j : Nat) : Int) := by omega
      rw [ej]
      have hjl : rk + j < l.length := by omega
      have hrl : (l.getD (rk + j) []).length = m := s2 _ (getD_mem hjl)
      refine gw_name (by simp) (wt_test (w_op (w_op (w_ixOwn rfl rfl (w_var rfl ⟨_, _, rfl, DL.atI_nat (get_rows hjl), w_var rfl (ow_ixN (get_int (by rw [hrl]; exact him)) (w_int (ow_neI ⟨_, rfl, brN (fun h => w_var rfl ?_) (fun h => ?_)⟩)))⟩)))))
      · have h' : ¬ cell l (rk + j) i = 0 := h
        show _ = (spotsTo l rk i (j + 1)).map nN
        rw [spotsTo_succ, if_neg h', List.map_append]
        rfl
      · have h' : cell l (rk + j) i = 0 := h
        show _ = (spotsTo l rk i (j + 1)).map nN
        rw [spotsTo_succ, if_pos h']
    rintro _ n' rfl
    rw [rngD_length]
    refine ws_if (wt_test (w_op (w_var rfl (w_of_wl (wl_lst (wa_nil ⟨by simp, ne_nNs (y := []) ⟨_, rfl, brN (fun h => ?_) (fun h => ?_)⟩⟩))))))
    · cases e : spotsF l rk i with
      | nil => exact absurd e h
      | cons p t =>
        have e' : spotsTo l rk i (l.length - rk) = p :: t := e
        rw [e']
        have hst := lstep_cons (s := (l, rk)) (c := i) e
        obtain ⟨p1, p2, p3⟩ := spots_first e
        have ht : rk < l.length := by omega
        have a0 : atI ((p :: t).map nN) 0 = some (nN p) := DL.atI_nat (i := 0) rfl
        refine ws_seq (ws_asgG (w_tup (wa_cons (w_ixOwn rfl rfl (w_op (w_var rfl (w_int (ow_ixL a0 ⟨(p : Int), _, rfl, DL.atI_nat (get_rows p2), ?_⟩))))))))
        refine wa_cons (w_ixOwn rfl rfl (w_var rfl ⟨(rk : Int), _, rfl, DL.atI_nat (get_rows ht), wa_nil ⟨by simp, xg_tup rfl (xgs_cons (xg_set rfl rfl (w_var rfl ⟨(rk : Int), rk, rfl, Evl.ixN_nat (by rw [List.length_map]; exact ht), ?_⟩)))⟩⟩))
        refine xgs_cons (xg_set rfl rfl (w_op (w_var rfl (w_int (ow_ixL a0 ⟨(p : Int), p, rfl, Evl.ixN_nat (by simpa using p2), xgs_nil ?_⟩)))))
        rw [map_swp]
        have w1 : ∀ r ∈ swp l rk p, r.length = m := fun r hr => s2 r (swp_mem ht p2 hr)
        have b1 : Bds (cAt i) (swp l rk p) := fun r hr => s3 r (swp_mem ht p2 hr)
        have n1 : (swp l rk p).length = l.length := swp_len _ _ _
        generalize swp l rk p = L1 at *
        have lm : L1.getD rk [] ∈ L1 := getD_mem (by omega)
        have ll := w1 _ lm
        have lb := b1 _ lm
        show WS K _ [.is (rD a), .own 0, .is (.int (rk : Int)), .is (.int (i : Int)), .is (.lst ((p :: t).map nN)), x5, x6, x7, x8] [some (L1.map iD)] _ _
        refine ws_seq (ws_for (vs := [5]) (sw_rng2 (wa_cons (w_op (w_var rfl (w_int (ow_plusI (wa_cons (w_lenOwn rfl rfl (wa_nil ⟨_, _, rfl, ?_, ?_⟩))))))))))
        · rw [List.length_map]; omega
        rw [List.length_map]
        have en2 : ((L1.length : Int) - ((rk : Int) + 1)).toNat = L1.length - (rk + 1) := by omega
        rw [en2]
        refine ⟨fun j Γ O _ => ∃ y5 y6 y7 y8, Γ = [.is (rD a), .own 0, .is (.int (rk : Int)), .is (.int (i : Int)), .is (.lst ((p :: t).map nN)), y5, y6, y7, y8] ∧ O = [some ((part rk j i (L1.getD rk []) L1).map iD)], ⟨_, _, _, _, rfl, by rw [part_zero]⟩, ?_, ?_⟩
        · rintro j x _ _ n2 hx ⟨y5, y6, y7, y8, rfl, rfl⟩
          obtain ⟨hj, rfl⟩ := rngD_get hx
          have ej : (rk : Int) + 1 + (j : Int) = ((rk + 1 + j : Nat) : Int) := by omega
          rw [ej]
          have hjl : rk + 1 + j < L1.length := by omega
          have g1 := part_get rk j i (L1.getD rk []) (L := L1) (i := rk) (by omega)
          have g2 := part_get rk j i (L1.getD rk []) (L := L1) (i := rk + 1 + j) (by omega)
          have h1 : (((part rk j i (L1.getD rk []) L1).map iD)[rk]?) = some (iD (L1.getD rk [])) := by rw [get_rows (by rw [part_len]; omega), g1]
          have h2 : (((part rk j i (L1.getD rk []) L1).map iD)[rk + 1 + j]?) = some (iD (L1.getD (rk + 1 + j) [])) := by rw [get_rows (by rw [part_len]; omega), g2]
          have hps := part_succ rk j i (L1.getD rk []) hjl
          have rm : L1.getD (rk + 1 + j) [] ∈ L1 := getD_mem hjl
          have rl := w1 _ rm
          have rb := b1 _ rm
          have hlenp : ((part rk j i (L1.getD rk []) L1).map iD).length = L1.length := by rw [List.length_map, part_len]
          refine gw_name (by simp) ?_
          refine ws_asgG (w_of_wl (lc_zip (xs := L1.getD (rk + 1 + j) []) (ys := L1.getD rk []) (g := fun x y => x * (L1.getD rk []).getD i 0 - (L1.getD (rk + 1 + j) []).getD i 0 * y) (by rw [rl]; omega) (wa_cons (w_ixOwn rfl rfl (w_var rfl ⟨_, _, rfl, DL.atI_nat h2, wa_cons (w_ixOwn rfl rfl (w_var rfl ⟨_, _, rfl, DL.atI_nat h1, wa_nil ⟨rfl, .inl rfl⟩⟩))⟩))) (fun x hx y hy => ?_) (by decide) ?_))
          · refine w_op (w_op (w_var rfl (w_op (w_ixOwn rfl rfl (w_var rfl ⟨_, _, rfl, DL.atI_nat h1, w_var rfl (ow_ixN (get_int (by rw [ll]; exact him)) (ow_timesI (mul_ok (rb x hx) (getD_bd lb) (by omega) (by omega) (by omega)) ?_))⟩)))))
            exact w_op (w_op (w_ixOwn rfl rfl (w_var rfl ⟨_, _, rfl, DL.atI_nat h2, w_var rfl (ow_ixN (get_int (by rw [rl]; exact him)) (w_var rfl (ow_timesI (mul_ok (getD_bd rb) (lb y hy) (by omega) (by omega) (by omega)) (ow_minus ⟨rfl, rfl⟩))))⟩)))
          · refine xg_set rfl rfl (w_var rfl ⟨((rk + 1 + j : Nat) : Int), rk + 1 + j, rfl, Evl.ixN_nat (by rw [hlenp]; exact hjl), ⟨.is (.int ((rk + 1 + j : Nat) : Int)), y6, y7, y8, rfl, ?_⟩⟩)
            rw [← hps, List.map_set]
            rfl
        · rintro _ _ n2 ⟨y5, y6, y7, y8, rfl, rfl⟩
          rw [rngD_length, part_all]
          refine ws_asg (w_op (w_var rfl (w_int (ow_plusI ?_))))
          refine ⟨.is (.int (i : Int)), .is (.lst ((p :: t).map nN)), y5, y6, y7, y8, ?_, ?_⟩
          · rw [hsucc, hst]; rfl
          · rw [hsucc, hst]
    · have e : spotsF l rk i = [] := h
      have hst := lstep_nil (s := (l, rk)) (c := i) e
      refine ws_next ⟨.is (.int (i : Int)), .is (.lst ((spotsTo l rk i (l.length - rk)).map nN)), x5, x6, x7, x8, ?_, ?_⟩
      · rw [hsucc, hst]; rfl
      · rw [hsucc, hst]
  · rintro _ _ n ⟨x3, x4, x5, x6, x7, x8, rfl, rfl⟩
    have e0 : (rngD 0 ((wid a : Nat) : Int).toNat).length = wid a := by rw [rngD_length]; omega
    rw [e0]
    exact ws_ret (w_var rfl rfl)
end
end K01
namespace K01
open PySem PySem.Spec PyProof.Rows L2 DL
def toldB (s : S3) (many free : Nat) : List Int := (List.replicate many 0).set free s.d
def toldTo (s : S3) (many free i : Nat) : List Int := ((s.q.zip (s.l.take s.q.length)).take i).foldl (fun acc z => acc.set z.1 (-(z.2.getD free 0))) (toldB s many free)
theorem toldF_to (s : S3) (many free : Nat) : toldF s many free = toldTo s many free (s.q.zip (s.l.take s.q.length)).length := by
  unfold toldTo toldF
  rw [List.take_length]
  rfl
theorem toldTo_succ {s : S3} {many free i : Nat} {z : Nat × List Int} (h : (s.q.zip (s.l.take s.q.length))[i]? = some z) : toldTo s many free (i + 1) = (toldTo s many free i).set z.1 (-(z.2.getD free 0)) := by
  unfold toldTo
  rw [List.take_add_one, h, List.foldl_append]
  rfl
theorem toldTo_len (s : S3) (many free : Nat) : ∀ i, (toldTo s many free i).length = many
  | 0 => by simp [toldTo, toldB]
  | i + 1 => by
    cases h : (s.q.zip (s.l.take s.q.length))[i]? with
    | some z => rw [toldTo_succ h, List.length_set]; exact toldTo_len s many free i
    | none =>
      have e : toldTo s many free (i + 1) = toldTo s many free i := by
        unfold toldTo
        rw [List.take_add_one, h]
        simp
      rw [e]; exact toldTo_len s many free i
theorem toldTo_bd {s : S3} {many free b : Nat} (h1 : Bds b s.l) (h2 : s.d.natAbs < 2 ^ b) : ∀ i, Bd b (toldTo s many free i)
  | 0 => by
    intro x hx
    have hx' : x ∈ (List.replicate many 0).set free s.d := hx
    rcases List.mem_or_eq_of_mem_set hx' with h | h
    · rw [(List.mem_replicate.mp h).2]; exact Nat.two_pow_pos b
    · rw [h]; exact h2
  | i + 1 => by
    cases h : (s.q.zip (s.l.take s.q.length))[i]? with
    | some z =>
      rw [toldTo_succ h]
      intro x hx
      rcases List.mem_or_eq_of_mem_set hx with hm | hm
      · exact toldTo_bd h1 h2 i x hm
      · obtain ⟨u, v⟩ := z
        have hz := (List.of_mem_zip (List.mem_of_getElem? h)).2
        have := getD_bd (i := free) (h1 v (List.mem_of_mem_take hz))
        rw [hm]
        show (-(v.getD free 0)).natAbs < _
        omega
    | none =>
      have e : toldTo s many free (i + 1) = toldTo s many free i := by
        unfold toldTo
        rw [List.take_add_one, h]
        simp
      rw [e]; exact toldTo_bd h1 h2 i
def freesTo (q : List Nat) (i : Nat) : List Nat := (List.range i).filter fun a => !decide (a ∈ q)
theorem freesTo_succ (q : List Nat) (i : Nat) : freesTo q (i + 1) = if i ∈ q then freesTo q i else freesTo q i ++ [i] := by
  unfold freesTo
  rw [List.range_succ, List.filter_append]
  by_cases h : i ∈ q <;> simp [h]
theorem freesTo_lt {q : List Nat} {i x : Nat} (h : x ∈ freesTo q i) : x < i ∧ x ∉ q := by
  obtain ⟨h1, h2⟩ := List.mem_filter.mp h
  exact ⟨List.mem_range.mp h1, by simpa using h2⟩
theorem flat_rep : ∀ m : Nat, (List.replicate m [DV.int 0]).flatten = (List.replicate m (0 : Int)).map DV.int
  | 0 => rfl
  | k + 1 => by rw [List.replicate_succ, List.flatten_cons, flat_rep k]; rfl
section
variable {K : Fg}
theorem ow_notIn {q : List Nat} {x : Nat} {k : DV → Prop} (hk : k (.bl (!decide (x ∈ q)))) : OW K (rIn K true) (nN x) (.lst (q.map nN)) k := fun pn As H0 M H σ Γ O n S v w rv rw' Q c => by
  have ev : v = .int (x : Int) := rv.int'
  obtain ⟨p, vs, rfl, g1, g2⟩ := rw'.lst'
  have e1 : q.map nN = (q.map fun (y : Nat) => (y : Int)).map DV.int := by rw [List.map_map]; rfl
  rw [e1] at g2
  have e2 := g2.ints
  subst ev e2
  have e3 : inV (.int (x : Int)) ((q.map fun (y : Nat) => (y : Int)).map V.int) = decide (x ∈ q) := by
    clear g1 g2 e1 rw' hk
    induction q with
    | nil => rfl
    | cons y q ih =>
      have e : inV (.int (x : Int)) (((y :: q).map fun (y : Nat) => (y : Int)).map V.int) = (eqV (.int (y : Int)) (.int (x : Int)) || inV (.int (x : Int)) ((q.map fun (y : Nat) => (y : Int)).map V.int)) := rfl
      have e4 : eqV (.int (y : Int)) (.int (x : Int)) = decide (x = y) := by
        show ((y : Int) == (x : Int)) = _
        rw [Bool.eq_iff_iff, beq_iff_eq, decide_eq_true_iff]
        omega
      rw [e, ih, e4, ← Bool.decide_or]
      simp [List.mem_cons]
  refine ⟨p, _, rfl, .inl (.inl (.inl (S.ex _ _ g1))), rfl, ?_, c _ M H (.bl (!decide (x ∈ q))) (Evl.Ex.refl M) S ?_ hk⟩
  · simp [List.all_eq_true, flatV]
  · rw [e3]; exact .bl _
theorem rd_noughts (a : List (List Int) × Nat) (hp : Mat a.2 60 a.1) : WS K (t_noughts K) (slotsD N_noughts [rD a.1, .int (a.2 : Int)]) [] 0 (ED fun d => d = tD (ngt a.1 a.2)) := by
  obtain ⟨rows, many⟩ := a
  have hM : Mat many 60 rows := hp
  obtain ⟨hal, hm4, hwd, hbd⟩ := id hM
  show WS K (t_noughts K) [.is (rD rows), .is (.int (many : Int)), .no, .no, .no, .no, .no, .no, .no, .no, .no] [] 0 _
  unfold t_noughts
  refine ws_seq (ws_asgG (w_call (wa_cons (w_var rfl (wa_nil ⟨rows, rfl, ⟨many, hM⟩, ?_⟩)))))
  rintro _ rfl
  refine xg_tup rfl (xgs_cons (xg_name (xgs_cons (xg_name (xgs_cons (xg_name (xgs_nil ?_)))))))
  have S := stAt_SI hM (wid rows) (wid_le hM)
  have bb := bAt_le (wid rows) (by have := wid_le hM; omega)
  rw [← stp_at] at S
  have hng : ngt rows many = (freesTo (stp rows).q many).map fun free => shr (toldF (stp rows) many free) := rfl
  rw [hng]
  generalize stp rows = s at *
  obtain ⟨s1, s2, s3, s4, s5, s6, s7⟩ := S
  show WS K _ [.is (rD rows), .is (.int (many : Int)), .is (rD (s.l.take s.q.length)), .is (.lst (s.q.map nN)), .is (.int s.d), .no, .no, .no, .no, .no, .no] [] _ _
  refine ws_seq (ws_asgOwn (wl_lst (wa_nil ⟨by simp, ?_⟩)))
  refine ws_seq (ws_for (vs := [6]) (sw_seq (w_of_wl (wl_lc (sw_rng1 (wa_cons (w_var rfl (wa_nil ⟨_, rfl, by omega, by omega, ?_⟩))))))))
  refine ⟨by rw [rngD_length]; omega, fun j acc _ => acc = (freesTo s.q j).map nN, rfl, ?_, ?_⟩
  · rintro j x _ n2 hx rfl
    obtain ⟨hj, rfl⟩ := rngD_get hx
    rw [Int.zero_add]
    refine gw_name (by simp) (wt_test (w_op (w_var rfl (w_var rfl (ow_notIn (x := j) (q := s.q) ⟨_, rfl, brN (fun h => w_var rfl ?_) (fun h => ?_)⟩)))))
    · show _ = (freesTo s.q (j + 1)).map nN
      rw [freesTo_succ, if_neg h, List.map_append]
      rfl
    · show _ = (freesTo s.q (j + 1)).map nN
      rw [freesTo_succ, if_pos h]
  rintro _ n2 rfl
  have e0 : (rngD 0 ((many : Nat) : Int).toNat).length = many := by rw [rngD_length]; omega
  rw [e0]
  refine ⟨_, .inl rfl, fun i Γ O _ => ∃ y6 y7 y8 y9 y10, Γ = [.is (rD rows), .is (.int (many : Int)), .is (rD (s.l.take s.q.length)), .is (.lst (s.q.map nN)), .is (.int s.d), .own 0, y6, y7, y8, y9, y10] ∧ O[0]? = some (some ((((freesTo s.q many).take i).map fun free => shr (toldF s many free)).map fun r => DV.tup (r.map DV.int))), ⟨_, _, _, _, _, rfl, rfl⟩, ?_, ?_⟩
  · rintro i x _ O n3 hx ⟨y6, y7, y8, y9, y10, rfl, ho⟩
    rw [List.getElem?_map] at hx
    cases hf : (freesTo s.q many)[i]? with
    | none => rw [hf] at hx; cases hx
    | some free =>
      rw [hf] at hx
      cases hx
      obtain ⟨f1, f2⟩ := freesTo_lt (List.mem_of_getElem? hf)
      have hle : (freesTo s.q many).length ≤ many := Nat.le_trans (List.length_filter_le _ _) (by simp)
      have hil := (List.getElem?_eq_some_iff.mp hf).1
      refine gw_name (by simp) ?_
      have hz : ((List.replicate ((many : Int)).toNat [DV.int 0]).flatten) = (List.replicate many (0 : Int)).map DV.int := by
        rw [Int.toNat_natCast]; exact flat_rep many
      refine ws_seq (ws_asgOwn (wl_op (w_of_wl (wl_lst (wa_cons (w_int (wa_nil ⟨by simp, w_var rfl (owl_rep (by omega) (by omega) (by simp; omega) ?_)⟩)))))))
      rw [hz]
      refine ws_seq (ws_asgG (w_var rfl (xg_set rfl own_last (w_var rfl ⟨(free : Int), free, rfl, Evl.ixN_nat (by simp; exact f1), ?_⟩))))
      rw [← List.map_set]
      have ho2 : ((O ++ [some ((List.replicate many (0 : Int)).map DV.int)]).set O.length (some (((List.replicate many 0).set free s.d).map DV.int)))[O.length]? = some (some ((toldB s many free).map DV.int)) := own_set own_last
      have hO := own_lt ho
      have ho3 : ((O ++ [some ((List.replicate many (0 : Int)).map DV.int)]).set O.length (some (((List.replicate many 0).set free s.d).map DV.int)))[0]? = some (some ((((freesTo s.q many).take i).map fun free => shr (toldF s many free)).map fun r => DV.tup (r.map DV.int))) := own_other (own_app ho) (by omega)
      generalize hj : O.length = jt at *
      generalize ((O ++ [some ((List.replicate many (0 : Int)).map DV.int)]).set jt (some (((List.replicate many 0).set free s.d).map DV.int))) = O2 at ho2 ho3 ⊢
      have hjt : jt ≠ 0 := by omega
      refine ws_seq (ws_for (vs := [8, 9]) (sw_zipB (wa_cons (w_var rfl (wa_cons (w_var rfl (wa_nil ⟨_, _, .inl rfl, ?_⟩)))))))
      rw [zipD_map]
      refine ⟨fun j Γ O _ => ∃ y8 y9, Γ = [.is (rD rows), .is (.int (many : Int)), .is (rD (s.l.take s.q.length)), .is (.lst (s.q.map nN)), .is (.int s.d), .own 0, .is (nN free), .own jt, y8, y9, y10] ∧ O[jt]? = some (some ((toldTo s many free j).map DV.int)) ∧ O[0]? = some (some ((((freesTo s.q many).take i).map fun free => shr (toldF s many free)).map fun r => DV.tup (r.map DV.int))), ⟨_, _, rfl, ho2, ho3⟩, ?_, ?_⟩
      · rintro j x _ O3 n4 hx ⟨y8, y9, rfl, g1, g2⟩
        rw [List.getElem?_map] at hx
        cases hz : (s.q.zip (s.l.take s.q.length))[j]? with
        | none => rw [hz] at hx; cases hx
        | some z =>
          rw [hz] at hx
          cases hx
          obtain ⟨lead, row⟩ := z
          obtain ⟨m1, m2⟩ := List.of_mem_zip (List.mem_of_getElem? hz)
          have hrl := s2 row (List.mem_of_mem_take m2)
          refine gw_tup rfl (gws_cons (gw_name (by simp) (gws_cons (gw_name (by simp) (gws_nil ?_)))))
          refine ws_asgG (w_un (w_op (w_var rfl (w_var rfl (ow_ixN (get_int (by rw [hrl]; exact f1)) (uw_neg ?_))))))
          refine xg_set rfl g1 (w_var rfl ⟨(lead : Int), lead, rfl, Evl.ixN_nat (by rw [List.length_map, toldTo_len]; exact s7 lead m1), ?_⟩)
          refine ⟨.is (nN lead), .is (iD row), rfl, ?_, own_other g2 hjt⟩
          show _ = some (some ((toldTo s many free (j + 1)).map DV.int))
          rw [toldTo_succ hz, List.map_set]
          exact own_set g1
      · rintro _ O3 n4 ⟨y8, y9, rfl, g1, g2⟩
        rw [List.length_map, ← toldF_to] at g1
        have tl : (toldF s many free).length ≤ 1000 := by rw [toldF_to, toldTo_len]; omega
        have tb : Bd 8000 (toldF s many free) := by rw [toldF_to]; exact (toldTo_bd s3 s5 _).le (by omega)
        have g3 := own_other (j := jt) (y := none) g2 hjt
        refine ws_freeze (i := 7) rfl g1 (ws_append rfl g3 ?_ (w_cb (wa_cons (w_call (wa_cons (w_var rfl (wa_nil ⟨toldF s many free, rfl, ⟨tl, tb⟩, ?_⟩)))))))
        · rw [List.length_map, List.length_map, List.length_take]; omega
        rintro _ rfl
        refine wa_nil (cw_tupL ⟨.is (nN free), .is (iD (toldF s many free)), y8, y9, y10, rfl, ?_⟩)
        have et : (((freesTo s.q many).take (i + 1)).map fun free => shr (toldF s many free)).map (fun r => DV.tup (r.map DV.int)) = (((freesTo s.q many).take i).map fun free => shr (toldF s many free)).map (fun r => DV.tup (r.map DV.int)) ++ [DV.tup ((shr (toldF s many free)).map DV.int)] := by
          rw [List.take_add_one, hf]
          simp
        rw [et]
        exact own_set g3
  · rintro _ O n3 ⟨y6, y7, y8, y9, y10, rfl, ho⟩
    rw [List.length_map, List.take_length] at ho
    exact ws_retOwn rfl ho rfl
end
end K01
namespace K01
/-! the plain law of rows: elimination without fractions, over functions -/
def sm : Nat → (Nat → Int) → Int
  | 0, _ => 0
  | k + 1, f => sm k f + f k
theorem sm_ext : ∀ {k : Nat} {f g : Nat → Int}, (∀ i, i < k → f i = g i) → sm k f = sm k g
  | 0, _, _, _ => rfl
  | k + 1, f, g, h => by
    show sm k f + f k = sm k g + g k
    rw [sm_ext fun i hi => h i (by omega), h k (by omega)]
theorem sm_lin : ∀ (k : Nat) (a x y : Nat → Int) (u v : Int), sm k (fun s => a s * (u * x s - v * y s)) = u * sm k (fun s => a s * x s) - v * sm k (fun s => a s * y s)
  | 0, _, _, _, _, _ => by simp [sm]
  | k + 1, a, x, y, u, v => by
    show sm k _ + a k * (u * x k - v * y k) = u * (sm k _ + a k * x k) - v * (sm k _ + a k * y k)
    rw [sm_lin k a x y u v]
    grind
theorem sm_dvd : ∀ {k : Nat} {d : Int} {a x : Nat → Int}, (∀ s, s < k → d ∣ x s) → d ∣ sm k (fun s => a s * x s)
  | 0, d, _, _, _ => Int.dvd_zero d
  | k + 1, d, a, x, h => Int.dvd_add (sm_dvd fun s hs => h s (by omega)) (Int.dvd_trans (h k (by omega)) (Int.dvd_mul_left _ _))
structure Inv (R m k : Nat) (A l : Nat → Nat → Int) (q : Nat → Nat) (d : Int) (c : Nat) : Prop where
  i1 : ∀ r, r < k → ∀ t, t < k → l r (q t) = if r = t then d else 0
  i2 : ∀ i, i < R → ∀ j, j < m → d * A i j = (if i < k then 0 else l i j) + sm k (fun r => A i (q r) * l r j)
  i3 : k ≤ 3 → ∀ r, r < k → ∀ t, t < k → ∀ j, j < m → ∀ j', j' < m → d ∣ l r j * l t j' - l r j' * l t j
  z : ∀ i, k ≤ i → i < R → ∀ j, j < c → l i j = 0
  ql : ∀ t, t < k → q t < c
  kc : k ≤ c
  kR : k ≤ R
  d0 : d ≠ 0
def sw (a b i : Nat) : Nat := if i = b then a else if i = a then b else i
section
variable {R m k c : Nat} {A l l' : Nat → Nat → Int} {q : Nat → Nat} {d : Int}
theorem Inv.swap (V : Inv R m k A l q d c) {a b : Nat} (ha : k ≤ a) (hb : k ≤ b) (ha2 : a < R) (hb2 : b < R) : Inv R m k (fun i => A (sw a b i)) (fun i => l (sw a b i)) q d c := by
  have low : ∀ r, r < k → sw a b r = r := fun r hr => by unfold sw; rw [if_neg (by omega), if_neg (by omega)]
  have hi : ∀ i, k ≤ i → i < R → k ≤ sw a b i ∧ sw a b i < R := fun i h1 h2 => by unfold sw; split <;> (try split) <;> omega
  refine ⟨fun r hr t ht => ?_, fun i h1 j hj => ?_, fun h3 r hr t ht => ?_, fun i h1 h2 => ?_, V.ql, V.kc, V.kR, V.d0⟩
  · show l (sw a b r) _ = _
    rw [low r hr]; exact V.i1 r hr t ht
  · by_cases h : i < k
    · have e := V.i2 i h1 j hj
      show d * A (sw a b i) j = (if i < k then 0 else l (sw a b i) j) + sm k (fun r => A (sw a b i) (q r) * l (sw a b r) j)
      rw [low i h, e]
      congr 1
      exact sm_ext fun r hr => by rw [low r hr]
    · have h' := hi i (by omega) h1
      have e := V.i2 (sw a b i) h'.2 j hj
      show d * A (sw a b i) j = (if i < k then 0 else l (sw a b i) j) + sm k (fun r => A (sw a b i) (q r) * l (sw a b r) j)
      rw [e, if_neg h, if_neg (by omega)]
      congr 1
      exact sm_ext fun r hr => by rw [low r hr]
  · show ∀ j, j < m → ∀ j', j' < m → d ∣ l (sw a b r) j * l (sw a b t) j' - l (sw a b r) j' * l (sw a b t) j
    rw [low r hr, low t ht]
    exact V.i3 h3 r hr t ht
  · have h' := hi i h1 h2
    exact V.z _ h'.1 h'.2
/-- row k, told by the pivot rows -/
theorem Inv.rowk (V : Inv R m k A l q d c) (hk : k < R) {j : Nat} (hj : j < m) : l k j = d * A k j - sm k (fun s => A k (q s) * l s j) := by
  have e := V.i2 k hk j hj
  rw [if_neg (by omega)] at e
  omega
theorem Inv.div_low (V : Inv R m k A l q d c) (hk : k < R) (hc : c < m) (h3 : k ≤ 3) {r j : Nat} (hr : r < k) (hj : j < m) : d ∣ l r j * l k c - l r c * l k j := by
  have e : l r j * l k c - l r c * l k j = d * (l r j * A k c - l r c * A k j) - sm k (fun s => A k (q s) * (l r j * l s c - l r c * l s j)) := by
    rw [V.rowk hk hc, V.rowk hk hj, sm_lin k (fun s => A k (q s)) (fun s => l s c) (fun s => l s j)]
    grind
  rw [e]
  exact Int.dvd_sub (Int.dvd_mul_right _ _) (sm_dvd fun s hs => V.i3 h3 r hr s hs j hj c hc)
theorem Inv.div (V : Inv R m k A l q d c) (hk : k < R) (hc : c < m) (h3 : k ≤ 3) {r j : Nat} (hr : r < R) (hrk : r ≠ k) (hj : j < m) : d ∣ l r j * l k c - l r c * l k j := by
  by_cases h : r < k
  · exact V.div_low hk hc h3 h hj
  · have e1 := V.i2 r hr j hj
    have e2 := V.i2 r hr c hc
    rw [if_neg h] at e1 e2
    have e : l r j * l k c - l r c * l k j = d * (A r j * l k c - A r c * l k j) - sm k (fun s => A r (q s) * (l k c * l s j - l k j * l s c)) := by
      rw [sm_lin k (fun s => A r (q s)) (fun s => l s j) (fun s => l s c)]
      have f1 : l r j = d * A r j - sm k (fun s => A r (q s) * l s j) := by omega
      have f2 : l r c = d * A r c - sm k (fun s => A r (q s) * l s c) := by omega
      rw [f1, f2]
      grind
    rw [e]
    refine Int.dvd_sub (Int.dvd_mul_right _ _) (sm_dvd fun s hs => ?_)
    have := V.div_low hk hc h3 hs hj
    have e3 : l k c * l s j - l k j * l s c = l s j * l k c - l s c * l k j := by grind
    rw [e3]; exact this
theorem Inv.wedge (V : Inv R m k A l q d c) (hk : k < R) (h3 : k ≤ 3) {t j j' : Nat} (ht : t < k) (hj : j < m) (hj' : j' < m) : d ∣ l k j * l t j' - l k j' * l t j := by
  have e : l k j * l t j' - l k j' * l t j = d * (A k j * l t j' - A k j' * l t j) - sm k (fun s => A k (q s) * (l t j' * l s j - l t j * l s j')) := by
    rw [V.rowk hk hj, V.rowk hk hj', sm_lin k (fun s => A k (q s)) (fun s => l s j) (fun s => l s j')]
    grind
  rw [e]
  refine Int.dvd_sub (Int.dvd_mul_right _ _) (sm_dvd fun s hs => ?_)
  have := V.i3 h3 t ht s hs j' hj' j hj
  have e3 : l t j' * l s j - l t j * l s j' = l t j' * l s j - l t j * l s j' := rfl
  exact this
theorem Inv.step (V : Inv R m k A l q d c) (hk : k < R) (hc : c < m) (h3 : k ≤ 3) (hp : l k c ≠ 0) (e1 : ∀ j, l' k j = l k j) (e2 : ∀ r, r < R → r ≠ k → ∀ j, j < m → d * l' r j = l r j * l k c - l r c * l k j) :
    Inv R m (k + 1) A l' (fun t => if t = k then c else q t) (l k c) (c + 1) := by
  have qm : ∀ t, t < k → q t < m := fun t ht => by have := V.ql t ht; omega
  have low : ∀ r, r < k → r < R := fun r hr => by omega
  refine ⟨fun r hr t ht => ?_, fun i hi j hj => ?_, fun h r hr t ht j hj j' hj' => ?_, fun i h1 h2 j hj => ?_, fun t ht => ?_, by have := V.kc; omega, hk, hp⟩
  · by_cases hrk : r = k
    · subst hrk
      rw [e1]
      by_cases htk : t = r
      · rw [if_pos htk, if_pos htk.symm]
      · rw [if_neg htk, if_neg (fun z => htk z.symm)]
        exact V.z r (Nat.le_refl _) hk _ (V.ql t (by omega))
    · by_cases htk : t = k
      · rw [if_pos htk, if_neg (by omega)]
        have := e2 r (by omega) hrk c hc
        have z : d * l' r c = 0 := by rw [this]; grind
        exact (Int.mul_eq_zero.mp z).resolve_left V.d0
      · rw [if_neg htk]
        have e := e2 r (by omega) hrk (q t) (qm t (by omega))
        rw [V.i1 r (by omega) t (by omega), V.z k (Nat.le_refl _) hk _ (V.ql t (by omega))] at e
        refine Int.eq_of_mul_eq_mul_left V.d0 ?_
        rw [e]
        by_cases hrt : r = t
        · rw [if_pos hrt, if_pos hrt]; grind
        · rw [if_neg hrt, if_neg hrt]; grind
  · refine Int.eq_of_mul_eq_mul_left V.d0 ?_
    have es : sm (k + 1) (fun r => A i (if r = k then c else q r) * l' r j) = sm k (fun r => A i (q r) * l' r j) + A i c * l k j := by
      show sm k _ + A i (if k = k then c else q k) * l' k j = _
      rw [if_pos rfl, e1]
      congr 1
      exact sm_ext fun r hr => by rw [if_neg (by omega)]
    have ed : d * sm k (fun r => A i (q r) * l' r j) = sm k (fun r => A i (q r) * (l k c * l r j - l k j * l r c)) := by
      have h0 := sm_lin k (fun r => A i (q r)) (fun r => l' r j) (fun r => 0) d 0
      have h1 : sm k (fun s => A i (q s) * (d * l' s j - 0 * 0)) = sm k (fun r => A i (q r) * (l k c * l r j - l k j * l r c)) := sm_ext fun r hr => by
        have := e2 r (low r hr) (by omega) j hj
        rw [this]; grind
      rw [← h1, h0]; omega
    rw [es]
    have f1 := V.i2 i hi j hj
    have f2 := V.i2 i hi c hc
    rw [sm_lin k (fun r => A i (q r)) (fun r => l r j) (fun r => l r c)] at ed
    generalize sm k (fun r => A i (q r) * l' r j) = X at *
    generalize sm k (fun r => A i (q r) * l r j) = U at *
    generalize sm k (fun r => A i (q r) * l r c) = W at *
    by_cases hik : i < k
    · rw [if_pos (by omega)]
      rw [if_pos hik] at f1 f2
      grind
    · rw [if_neg hik] at f1 f2
      by_cases hek : i = k
      · subst hek
        rw [if_pos (by omega)]
        grind
      · rw [if_neg (by omega)]
        have f3 := e2 i hi hek j hj
        grind
  · have wk : ∀ t, t < k → ∀ j, j < m → ∀ j', j' < m → l k c ∣ l k j * l' t j' - l k j' * l' t j := fun t ht j hj j' hj' => by
      obtain ⟨y, hy⟩ := V.wedge hk h3 ht hj hj'
      refine ⟨y, Int.eq_of_mul_eq_mul_left V.d0 ?_⟩
      have g1 := e2 t (low t ht) (by omega) j hj
      have g2 := e2 t (low t ht) (by omega) j' hj'
      grind
    by_cases hrk : r = k
    · subst hrk
      by_cases htk : t = r
      · subst htk
        have : l' t j * l' t j' - l' t j' * l' t j = 0 := by grind
        rw [this]; exact Int.dvd_zero _
      · rw [e1, e1]; exact wk t (by omega) j hj j' hj'
    · by_cases htk : t = k
      · subst htk
        rw [e1, e1]
        have := wk r (by omega) j' hj' j hj
        have e : l' r j * l t j' - l' r j' * l t j = l t j' * l' r j - l t j * l' r j' := by grind
        rw [e]; exact this
      · by_cases hrt : r = t
        · subst hrt
          have : l' r j * l' r j' - l' r j' * l' r j = 0 := by grind
          rw [this]; exact Int.dvd_zero _
        · have hk2 : k = 2 := by omega
          have rk : r < k := by omega
          have tk : t < k := by omega
          obtain ⟨y1, h1⟩ := V.i3 h3 r rk t tk j hj j' hj'
          obtain ⟨y2, h2⟩ := V.i3 h3 r rk t tk j hj c hc
          obtain ⟨y3, h4⟩ := V.i3 h3 r rk t tk j' hj' c hc
          have g1 := e2 r (low r rk) hrk j hj
          have g2 := e2 r (low r rk) hrk j' hj'
          have g3 := e2 t (low t tk) htk j hj
          have g4 := e2 t (low t tk) htk j' hj'
          have two : ∀ x, x < m → ∃ a b : Int, (∀ x, x < m → l k x = d * A k x - a * l r x - b * l t x) := fun _ _ => by
            have su : ∀ x, sm k (fun s => A k (q s) * l s x) = A k (q 0) * l 0 x + A k (q 1) * l 1 x := fun x => by
              rw [hk2]
              show 0 + A 2 (q 0) * l 0 x + A 2 (q 1) * l 1 x = _
              omega
            by_cases hr0 : r = 0
            · have ht1 : t = 1 := by omega
              refine ⟨A k (q 0), A k (q 1), fun x hx => ?_⟩
              rw [V.rowk hk hx, su, hr0, ht1]; omega
            · have hr1 : r = 1 := by omega
              have ht0 : t = 0 := by omega
              refine ⟨A k (q 1), A k (q 0), fun x hx => ?_⟩
              rw [V.rowk hk hx, su, hr1, ht0]; omega
          obtain ⟨a, b, hab⟩ := two c hc
          have k1 := hab j hj
          have k2 := hab j' hj'
          have k3 := hab c hc
          refine ⟨A k c * y1 - A k j' * y2 + A k j * y3, Int.eq_of_mul_eq_mul_left (Int.mul_ne_zero V.d0 V.d0) ?_⟩
          generalize l k c = P at *
          generalize l k j = Lj at *
          generalize l k j' = Lj' at *
          generalize A k c = Ac at *
          generalize A k j = Aj at *
          generalize A k j' = Aj' at *
          have w : d * d * (l' r j * l' t j' - l' r j' * l' t j) = P * (P * (l r j * l t j' - l r j' * l t j) - l t c * (l r j * Lj' - l r j' * Lj) - l r c * (Lj * l t j' - Lj' * l t j)) := by
            have w1 : d * d * (l' r j * l' t j' - l' r j' * l' t j) = (d * l' r j) * (d * l' t j') - (d * l' r j') * (d * l' t j) := by grind
            rw [w1, g1, g2, g3, g4]
            grind
          rw [w]
          have w2 : P * (l r j * l t j' - l r j' * l t j) - l t c * (l r j * Lj' - l r j' * Lj) - l r c * (Lj * l t j' - Lj' * l t j) = d * (Ac * (l r j * l t j' - l r j' * l t j) - Aj' * (l r j * l t c - l r c * l t j) + Aj * (l r j' * l t c - l r c * l t j')) := by
            rw [k1, k2, k3]
            grind
          rw [w2, h1, h2, h4]
          grind
  · by_cases hjc : j = c
    · subst hjc
      have := e2 i h2 (by omega) j hc
      have z : d * l' i j = 0 := by rw [this]; grind
      exact (Int.mul_eq_zero.mp z).resolve_left V.d0
    · have := e2 i h2 (by omega) j (by omega)
      rw [V.z i (by omega) h2 j (by omega), V.z k (Nat.le_refl _) hk j (by omega)] at this
      have z : d * l' i j = 0 := by rw [this]; grind
      exact (Int.mul_eq_zero.mp z).resolve_left V.d0
  · show (if t = k then c else q t) < c + 1
    by_cases htk : t = k
    · rw [if_pos htk]; omega
    · rw [if_neg htk]; have := V.ql t (by omega); omega
end
end K01
namespace K01
open PySem PySem.Spec PyProof.Rows L2 DL
/-! from lists to functions -/
theorem cell_swp {l : List (List Int)} {a b : Nat} (ha : a < l.length) (hb : b < l.length) (x j : Nat) : cell (swp l a b) x j = cell l (sw a b x) j := by
  unfold cell sw
  rw [swp_get ha hb]
  by_cases h1 : x = b
  · rw [if_pos h1, if_pos h1]
  · rw [if_neg h1, if_neg h1]
    by_cases h2 : x = a
    · rw [if_pos h2, if_pos h2]
    · rw [if_neg h2, if_neg h2]
theorem cell_mapIdx {l : List (List Int)} {F : Nat → List Int → List Int} {x j : Nat} (hx : x < l.length) : cell (l.mapIdx F) x j = (F x (l.getD x [])).getD j 0 := by
  unfold cell
  rw [List.getD_eq_getElem?_getD (l := l.mapIdx F), List.getElem?_mapIdx, List.getElem?_eq_getElem hx, List.getD_eq_getElem?_getD (l := l), List.getElem?_eq_getElem hx]
  rfl
theorem zw_getD {g : Int → Int → Int} {xs ys : List Int} {j : Nat} (h1 : j < xs.length) (h2 : j < ys.length) : (List.zipWith g xs ys).getD j 0 = g (xs.getD j 0) (ys.getD j 0) := by
  rw [List.getD_eq_getElem?_getD, List.getD_eq_getElem?_getD, List.getD_eq_getElem?_getD, List.getElem?_zipWith, List.getElem?_eq_getElem h1, List.getElem?_eq_getElem h2]
  rfl
theorem spots_same {l u : List (List Int)} {top at_ : Nat} (hl : u.length = l.length) (h : ∀ x, top ≤ x → x < l.length → (cell u x at_ = 0 ↔ cell l x at_ = 0)) : spotsF u top at_ = spotsF l top at_ := by
  unfold spotsF spotsTo
  rw [hl]
  refine List.filter_congr fun x hx => ?_
  obtain ⟨j, hj, rfl⟩ := List.mem_map.mp hx
  have := List.mem_range.mp hj
  have e := h (top + j) (by omega) (by omega)
  by_cases hc : cell l (top + j) at_ = 0
  · simp [hc, e.mpr hc]
  · have hc' : ¬ cell u (top + j) at_ = 0 := fun z => hc (e.mp z)
    simp [hc, hc']
structure Main (rows : List (List Int)) (m i : Nat) (A : Nat → Nat → Int) (cf : Nat → Int) (s : S3) (u : List (List Int) × Nat) : Prop where
  inv : Inv rows.length m s.q.length A (cell s.l) (fun t => s.q.getD t 0) s.d i
  cov : ∀ r ∈ rows, ∃ x, x < rows.length ∧ ∀ j, A x j = r.getD j 0
  rk : u.2 = s.q.length
  sim : ∀ x, s.q.length ≤ x → x < rows.length → cf x ≠ 0 ∧ ∀ j, j < m → cell u.1 x j = cf x * cell s.l x j
theorem cell_row {l : List (List Int)} {x : Nat} (j : Nat) : (l.getD x []).getD j 0 = cell l x j := rfl
theorem main_step {rows : List (List Int)} {m i b b' : Nat} {A : Nat → Nat → Int} {cf : Nat → Int} {s : S3} {u : List (List Int) × Nat} (M : Main rows m i A cf s u) (S : SI rows.length m b s) (L : LI rows.length m b' u) (hi : i < m) (hm4 : m ≤ 4) :
    ∃ A' cf', Main rows m (i + 1) A' cf' (stepF s i) (lstep u i) := by
  obtain ⟨V, cov, rk, sim⟩ := M
  have same : spotsF u.1 u.2 i = spotsF s.l s.q.length i := by
    rw [rk]
    refine spots_same (by rw [L.len, S.len]) fun x hx1 hx2 => ?_
    obtain ⟨c1, c2⟩ := sim x hx1 (by rw [← S.len]; exact hx2)
    rw [c2 i hi]
    constructor
    · intro z; exact (Int.mul_eq_zero.mp z).resolve_left c1
    · intro z; rw [z, Int.mul_zero]
  cases e : spotsF s.l s.q.length i with
  | nil =>
    rw [e] at same
    rw [stepF_nil e, lstep_nil same]
    refine ⟨A, cf, ⟨V.i1, V.i2, V.i3, fun x hx1 hx2 j hj => ?_, fun t ht => by have := V.ql t ht; omega, by have := V.kc; omega, V.kR, V.d0⟩, cov, rk, sim⟩
    by_cases hji : j < i
    · exact V.z x hx1 hx2 j hji
    · have : j = i := by omega
      subst this
      exact spots_all e hx1 (by rw [S.len]; exact hx2)
  | cons p t =>
    rw [e] at same
    rw [stepF_cons e, lstep_cons same]
    obtain ⟨p1, p2, p3⟩ := spots_first e
    obtain ⟨l, q, d⟩ := s
    obtain ⟨ul, uk⟩ := u
    simp only at rk sim V S L p1 p2 p3 ⊢
    subst rk
    obtain ⟨s1, s2, s3, s4, s5, s6, s7⟩ := S
    obtain ⟨l1, l2, l3, l4⟩ := L
    simp only at s1 s2 s4 l1 l2 V ⊢
    have kc := V.kc
    have hk : q.length < l.length := by omega
    have hk' : q.length < ul.length := by omega
    have p2' : p < ul.length := by omega
    have V1 := V.swap (a := q.length) (b := p) (Nat.le_refl _) p1 (by omega) (by omega)
    have cs : ∀ x j, cell (swp l q.length p) x j = cell l (sw q.length p x) j := cell_swp hk p2
    have cu : ∀ x j, cell (swp ul q.length p) x j = cell ul (sw q.length p x) j := cell_swp hk' p2'
    have n1 : (swp l q.length p).length = rows.length := by rw [swp_len, s1]
    have n2 : (swp ul q.length p).length = rows.length := by rw [swp_len, l1]
    have w1 : ∀ r ∈ swp l q.length p, r.length = m := fun r hr => s2 r (swp_mem hk p2 hr)
    have w2 : ∀ r ∈ swp ul q.length p, r.length = m := fun r hr => l2 r (swp_mem hk' p2' hr)
    have swk : sw q.length p q.length = p := by unfold sw; split <;> simp_all
    have hsw : ∀ x, q.length ≤ x → x < rows.length → q.length ≤ sw q.length p x ∧ sw q.length p x < rows.length := fun x h1 h2 => by unfold sw; split <;> (try split) <;> omega
    have hP : cell l (sw q.length p q.length) i ≠ 0 := by rw [swk]; exact p3
    have V1' : Inv rows.length m q.length (fun i => A (sw q.length p i)) (cell (swp l q.length p)) (fun t => q.getD t 0) d i := by
      have e : cell (swp l q.length p) = fun i => cell l (sw q.length p i) := by funext x j; exact cs x j
      rw [e]; exact V1
    rw [← cs] at hP
    have sim1 : ∀ x, q.length ≤ x → x < rows.length → cf (sw q.length p x) ≠ 0 ∧ ∀ j, j < m → cell (swp ul q.length p) x j = cf (sw q.length p x) * cell (swp l q.length p) x j := fun x h1 h2 => by
      have := hsw x h1 h2
      obtain ⟨a, b⟩ := sim _ this.1 this.2
      exact ⟨a, fun j hj => by rw [cs, cu]; exact b j hj⟩
    have cov1 : ∀ r ∈ rows, ∃ x, x < rows.length ∧ ∀ j, A (sw q.length p x) j = r.getD j 0 := fun r hr => by
      obtain ⟨x, h1, h2⟩ := cov r hr
      have inv : sw q.length p (sw q.length p x) = x := by unfold sw; split <;> (try split) <;> simp_all
      refine ⟨sw q.length p x, ?_, fun j => by rw [inv]; exact h2 j⟩
      unfold sw
      split <;> (try split) <;> omega
    generalize swp l q.length p = L1 at *
    generalize swp ul q.length p = U1 at *
    have lm : L1.getD q.length [] ∈ L1 := getD_mem (by omega)
    have um : U1.getD q.length [] ∈ U1 := getD_mem (by omega)
    -- what the rows become
    have f1 : ∀ j, cell (L1.mapIdx fun i' row => if i' = q.length then row else clr row (L1.getD q.length []) i d) q.length j = cell L1 q.length j := fun j => by
      rw [cell_mapIdx (by omega), if_pos rfl]; rfl
    have f2 : ∀ x, x < rows.length → x ≠ q.length → ∀ j, j < m → d * cell (L1.mapIdx fun i' row => if i' = q.length then row else clr row (L1.getD q.length []) i d) x j = cell L1 x j * cell L1 q.length i - cell L1 x i * cell L1 q.length j := fun x hx hne j hj => by
      have xm : L1.getD x [] ∈ L1 := getD_mem (by omega)
      rw [cell_mapIdx (by omega), if_neg hne]
      unfold clr
      rw [zw_getD (by rw [w1 _ xm]; exact hj) (by rw [w1 _ lm]; exact hj)]
      show d * (cell L1 x j * cell L1 q.length i - cell L1 x i * cell L1 q.length j).fdiv d = _
      obtain ⟨y, hy⟩ := V1'.div (by omega) hi (by omega) hx hne hj
      rw [hy, Int.mul_fdiv_cancel_left _ s4]
    have g2 : ∀ x, x < rows.length → q.length < x → ∀ j, j < m → cell (U1.mapIdx fun i' row => if q.length < i' then elm row (U1.getD q.length []) i else row) x j = cell U1 x j * cell U1 q.length i - cell U1 x i * cell U1 q.length j := fun x hx hlt j hj => by
      have xm : U1.getD x [] ∈ U1 := getD_mem (by omega)
      rw [cell_mapIdx (by omega), if_pos hlt]
      unfold elm
      rw [zw_getD (by rw [w2 _ xm]; exact hj) (by rw [w2 _ um]; exact hj)]
      rfl
    have V2 := V1'.step (l' := cell (L1.mapIdx fun i' row => if i' = q.length then row else clr row (L1.getD q.length []) i d)) (by omega) hi (by omega) hP f1 f2
    refine ⟨fun x => A (sw q.length p x), fun x => cf (sw q.length p x) * cf (sw q.length p q.length) * d, ⟨?_, cov1, ?_, ?_⟩⟩
    · show Inv rows.length m (q ++ [i]).length _ _ (fun t => (q ++ [i]).getD t 0) (cell L1 q.length i) (i + 1)
      have eq : (fun t => (q ++ [i]).getD t 0) = fun t => if t = q.length then i else q.getD t 0 := by
        funext t
        by_cases ht : t = q.length
        · rw [if_pos ht, ht]; simp [List.getD_eq_getElem?_getD]
        · rw [if_neg ht, List.getD_eq_getElem?_getD, List.getD_eq_getElem?_getD]
          by_cases h2 : t < q.length
          · rw [List.getElem?_append_left h2]
          · rw [List.getElem?_eq_none (by simp; omega), List.getElem?_eq_none (by omega)]
      rw [eq, List.length_append]
      exact V2
    · show q.length + 1 = (q ++ [i]).length
      simp
    · intro x hx1 hx2
      have hx1' : q.length < x := by
        have : (q ++ [i]).length ≤ x := hx1
        rw [List.length_append] at this
        exact this
      obtain ⟨c1, c2⟩ := sim1 x (by omega) hx2
      obtain ⟨c3, c4⟩ := sim1 q.length (Nat.le_refl _) (by omega)
      refine ⟨Int.mul_ne_zero (Int.mul_ne_zero c1 c3) s4, fun j hj => ?_⟩
      show cell (U1.mapIdx fun i' row => if q.length < i' then elm row (U1.getD q.length []) i else row) x j = cf (sw q.length p x) * cf (sw q.length p q.length) * d * cell (L1.mapIdx fun i' row => if i' = q.length then row else clr row (L1.getD q.length []) i d) x j
      rw [g2 x hx2 hx1' j hj, c2 j hj, c2 i hi, c4 j hj, c4 i hi, Int.mul_assoc _ d, f2 x hx2 (by omega) j hj]
      grind
theorem main_at {m : Nat} {rows : List (List Int)} (h : Mat m 60 rows) : ∀ i, i ≤ m → ∃ A cf, Main rows m i A cf (stAt rows i) (lAt rows i)
  | 0, _ => by
    refine ⟨cell rows, fun _ => 1, ⟨fun r hr => absurd hr (Nat.not_lt_zero _), fun x hx j hj => ?_, fun _ r hr => absurd hr (Nat.not_lt_zero _), fun x _ _ j hj => absurd hj (Nat.not_lt_zero _), fun t ht => absurd ht (Nat.not_lt_zero _), Nat.le_refl _, Nat.zero_le _, (by decide : (1 : Int) ≠ 0)⟩, fun r hr => ?_, rfl, fun x _ _ => ⟨by decide, fun j _ => ?_⟩⟩
    · show (1 : Int) * cell rows x j = (if x < 0 then 0 else cell rows x j) + 0
      rw [if_neg (Nat.not_lt_zero _)]; omega
    · obtain ⟨x, hx, e⟩ := List.getElem_of_mem hr
      refine ⟨x, hx, fun j => ?_⟩
      unfold cell
      rw [List.getD_eq_getElem?_getD (l := rows), List.getElem?_eq_getElem hx, e]
      rfl
    · show cell rows x j = 1 * cell rows x j
      omega
  | i + 1, hi => by
    obtain ⟨A, cf, M⟩ := main_at h i (by omega)
    have h2000 : Mat m 2000 rows := ⟨h.1, h.2.1, h.2.2.1, fun r hr => (h.2.2.2 r hr).le (by decide)⟩
    rw [stAt_succ, lAt_succ]
    exact main_step M (stAt_SI h i (by omega)) (lAt_LI h2000 i (by omega)) (by omega) h.2.1
end K01
namespace K01
open PySem PySem.Spec PyProof.Rows L2 DL
/-! what the law asks of rank and noughts -/
theorem rank_same {m : Nat} {rows : List (List Int)} (h : Mat m 60 rows) : lrk rows = (stp rows).q.length := by
  obtain ⟨A, cf, M⟩ := main_at h (wid rows) (wid_le h)
  exact M.rk
theorem qget {q : List Nat} {i : Nat} (h : i < q.length) : q.getD i 0 = q[i] := by
  rw [List.getD_eq_getElem?_getD, List.getElem?_eq_getElem h]; rfl
theorem Inv.qnodup {R m c : Nat} {A l : Nat → Nat → Int} {q : List Nat} {d : Int} (V : Inv R m q.length A l (fun t => q.getD t 0) d c) : q.Nodup := by
  refine List.pairwise_iff_getElem.mpr fun i j hi hj hij e => ?_
  have e1 : l i (q.getD i 0) = if i = i then d else 0 := V.i1 i hi i hi
  have e2 : l i (q.getD j 0) = if i = j then d else 0 := V.i1 i hi j hj
  rw [qget hi] at e1
  rw [qget hj] at e2
  rw [e, e2, if_neg (by omega), if_pos rfl] at e1
  exact V.d0 e1.symm
theorem filter_split (p : Nat → Bool) : ∀ l : List Nat, (l.filter p).length + (l.filter fun x => !p x).length = l.length
  | [] => rfl
  | x :: l => by
    have := filter_split p l
    cases h : p x <;> simp [h] <;> omega
theorem frees_len {q : List Nat} {m : Nat} (nd : q.Nodup) (hq : ∀ x ∈ q, x < m) : (freesTo q m).length = m - q.length := by
  have h1 := filter_split (fun x => decide (x ∈ q)) (List.range m)
  rw [List.length_range] at h1
  have h2 : ((List.range m).filter fun x => decide (x ∈ q)).length = q.length := by
    refine List.Perm.length_eq ((List.perm_ext_iff_of_nodup (List.nodup_range.filter _) nd).mpr fun x => ?_)
    rw [List.mem_filter, List.mem_range]
    constructor
    · intro h; simpa using h.2
    · intro h; exact ⟨hq x h, by simpa using h⟩
  have h3 : (freesTo q m).length = ((List.range m).filter fun x => !decide (x ∈ q)).length := rfl
  omega
theorem ngt_len {m : Nat} {rows : List (List Int)} (h : Mat m 60 rows) : (ngt rows m).length = m - (stp rows).q.length := by
  obtain ⟨A, cf, M⟩ := main_at h (wid rows) (wid_le h)
  have e : ngt rows m = (freesTo (stp rows).q m).map fun free => shr (toldF (stp rows) m free) := rfl
  rw [e, List.length_map]
  exact frees_len M.inv.qnodup (stAt_SI h (wid rows) (wid_le h)).qm
/-! told rows -/
theorem dot_set : ∀ (xs ys : List Int) (i : Nat) (v : Int), i < xs.length → i < ys.length → dotF (xs.set i v) ys = dotF xs ys + (v - xs.getD i 0) * ys.getD i 0
  | [], _, _, _, h, _ => absurd h (Nat.not_lt_zero _)
  | _ :: _, [], _, _, _, h => absurd h (Nat.not_lt_zero _)
  | x :: xs, y :: ys, 0, v, _, _ => by
    show v * y + dotF xs ys = x * y + dotF xs ys + (v - x) * y
    grind
  | x :: xs, y :: ys, i + 1, v, h, h' => by
    have ih := dot_set xs ys i v (Nat.lt_of_succ_lt_succ h) (Nat.lt_of_succ_lt_succ h')
    have e1 : dotF ((x :: xs).set (i + 1) v) (y :: ys) = x * y + dotF (xs.set i v) ys := rfl
    have e2 : dotF (x :: xs) (y :: ys) = x * y + dotF xs ys := rfl
    have e3 : (x :: xs).getD (i + 1) 0 = xs.getD i 0 := rfl
    have e4 : (y :: ys).getD (i + 1) 0 = ys.getD i 0 := rfl
    rw [e1, e2, e3, e4, ih]
    omega
theorem dot_zero : ∀ (n : Nat) (ys : List Int), dotF (List.replicate n 0) ys = 0
  | 0, _ => by simp [dotF]
  | n + 1, [] => by simp [dotF]
  | n + 1, y :: ys => by
    have e : dotF (List.replicate (n + 1) 0) (y :: ys) = 0 * y + dotF (List.replicate n 0) ys := rfl
    rw [e, dot_zero n ys]; omega
theorem dot_fdiv {g : Int} (hg : g ≠ 0) : ∀ (xs ys : List Int), (∀ x ∈ xs, g ∣ x) → dotF (xs.map fun x => x.fdiv g) ys * g = dotF xs ys
  | [], _, _ => by simp [dotF]
  | x :: xs, [], _ => by simp [dotF]
  | x :: xs, y :: ys, h => by
    have ih := dot_fdiv hg xs ys fun z hz => h z (by simp [hz])
    have e1 : dotF ((x :: xs).map fun x => x.fdiv g) (y :: ys) = x.fdiv g * y + dotF (xs.map fun x => x.fdiv g) ys := rfl
    have e2 : dotF (x :: xs) (y :: ys) = x * y + dotF xs ys := rfl
    obtain ⟨u, hu⟩ := h x (by simp)
    rw [e1, e2, ← ih, hu, Int.mul_fdiv_cancel_left _ hg]
    grind
theorem shr_len (ns : List Int) : (shr ns).length = ns.length := by unfold shr; split <;> simp
theorem shr_dot {ns ys : List Int} (h : dotF ns ys = 0) : dotF (shr ns) ys = 0 := by
  unfold shr
  by_cases hg : gcdL ns = 0
  · rw [if_pos hg]; exact h
  · rw [if_neg hg]
    have := dot_fdiv hg ns ys fun x hx => gcdL_dvd hx
    rw [h] at this
    exact (Int.mul_eq_zero.mp this).resolve_right hg
theorem set_getD {xs : List Int} {i j : Nat} {v : Int} : (xs.set i v).getD j 0 = if i = j ∧ i < xs.length then v else xs.getD j 0 := by
  rw [List.getD_eq_getElem?_getD, List.getElem?_set, List.getD_eq_getElem?_getD]
  by_cases h : i = j
  · subst h
    by_cases hl : i < xs.length
    · rw [if_pos rfl, if_pos hl, if_pos ⟨rfl, hl⟩]; rfl
    · rw [if_pos rfl, if_neg hl, if_neg (fun z => hl z.2), List.getElem?_eq_none (by omega)]
  · rw [if_neg h, if_neg (fun z => h z.1)]
theorem told_zip {s : S3} {i : Nat} (hi : i < s.q.length) (hl : s.q.length ≤ s.l.length) : (s.q.zip (s.l.take s.q.length))[i]? = some (s.q.getD i 0, s.l.getD i []) := by
  rw [List.getElem?_zip_eq_some]
  refine ⟨by rw [qget hi]; exact List.getElem?_eq_getElem hi, ?_⟩
  show (s.l.take s.q.length)[i]? = some (s.l.getD i [])
  rw [List.getElem?_take, if_pos hi, List.getElem?_eq_getElem (by omega), List.getD_eq_getElem?_getD, List.getElem?_eq_getElem (by omega)]
  rfl
theorem told_zlen {s : S3} (hl : s.q.length ≤ s.l.length) : (s.q.zip (s.l.take s.q.length)).length = s.q.length := by
  rw [List.length_zip, List.length_take]
  omega
theorem told_at {s : S3} {many free : Nat} (hl : s.q.length ≤ s.l.length) (hf : free < many) : ∀ i, i ≤ s.q.length → ∀ x, (∀ t, t < i → s.q.getD t 0 ≠ x) → (toldTo s many free i).getD x 0 = if x = free then s.d else 0
  | 0, _, x, _ => by
    show ((List.replicate many 0).set free s.d).getD x 0 = _
    rw [set_getD]
    by_cases h : x = free
    · rw [if_pos ⟨h.symm, by simpa using hf⟩, if_pos h]
    · rw [if_neg (fun z => h z.1.symm), if_neg h, List.getD_eq_getElem?_getD, List.getElem?_replicate]
      split <;> rfl
  | i + 1, hi, x, hx => by
    rw [toldTo_succ (told_zip (by omega) hl), set_getD, if_neg (fun z => hx i (by omega) z.1)]
    exact told_at hl hf i (by omega) x fun t ht => hx t (by omega)
theorem told_dot {s : S3} {many free : Nat} {row : List Int} (hl : s.q.length ≤ s.l.length) (hf : free < many) (hr : row.length = many) (hq : ∀ x ∈ s.q, x < many) (nd : s.q.Nodup) (hfq : free ∉ s.q) : ∀ i, i ≤ s.q.length →
    dotF (toldTo s many free i) row = s.d * row.getD free 0 - sm i fun t => cell s.l t free * row.getD (s.q.getD t 0) 0
  | 0, _ => by
    show dotF ((List.replicate many 0).set free s.d) row = _
    have e0 : (List.replicate many (0 : Int)).getD free 0 = 0 := by rw [List.getD_eq_getElem?_getD, List.getElem?_replicate]; split <;> rfl
    rw [dot_set _ _ _ _ (by simpa using hf) (by omega), dot_zero, e0]
    show 0 + (s.d - 0) * _ = _ - 0
    rw [Int.sub_zero, Int.sub_zero, Int.zero_add]
  | i + 1, hi => by
    have hi' : i < s.q.length := by omega
    have hm : s.q.getD i 0 ∈ s.q := by rw [qget hi']; exact List.getElem_mem hi'
    have hz : (toldTo s many free i).getD (s.q.getD i 0) 0 = 0 := by
      rw [told_at hl hf i (by omega) _ fun t ht => ?_, if_neg (fun z => hfq (by rw [← z]; exact hm))]
      rw [qget hi', qget (by omega)]
      exact List.pairwise_iff_getElem.mp nd t i (by omega) hi' ht
    rw [toldTo_succ (told_zip hi' hl), dot_set _ _ _ _ (by rw [toldTo_len]; exact hq _ hm) (by rw [hr]; exact hq _ hm), told_dot hl hf hr hq nd hfq i (by omega), hz]
    show _ = s.d * row.getD free 0 - (sm i _ + cell s.l i free * row.getD (s.q.getD i 0) 0)
    show s.d * row.getD free 0 - _ + (-(cell s.l i free) - 0) * _ = _
    grind
theorem ngt_dot {m : Nat} {rows : List (List Int)} (h : Mat m 60 rows) {t : List Int} (ht : t ∈ ngt rows m) : t.length = m ∧ ∀ r ∈ rows, dotF t r = 0 := by
  have e : ngt rows m = (freesTo (stp rows).q m).map fun free => shr (toldF (stp rows) m free) := rfl
  rw [e] at ht
  obtain ⟨free, hf, rfl⟩ := List.mem_map.mp ht
  obtain ⟨f1, f2⟩ := freesTo_lt hf
  have S := stAt_SI h (wid rows) (wid_le h)
  obtain ⟨A, cf, M⟩ := main_at h (wid rows) (wid_le h)
  rw [← stp_at] at S M
  have hl : (stp rows).q.length ≤ (stp rows).l.length := by rw [S.len]; exact S.ql
  refine ⟨by rw [shr_len, toldF_to, toldTo_len], fun r hr => shr_dot ?_⟩
  have hne : rows ≠ [] := fun z => by rw [z] at hr; cases hr
  have hw := wid_of h hne
  have V := M.inv
  have hwd := h.2.2.1 r hr
  rw [toldF_to, told_zlen hl, told_dot hl f1 hwd S.qm V.qnodup f2 _ (Nat.le_refl _)]
  obtain ⟨x, hx, ha⟩ := M.cov r hr
  have i2 := V.i2 x hx free f1
  have z0 : (if x < (stp rows).q.length then 0 else cell (stp rows).l x free) = 0 := by
    by_cases hk : x < (stp rows).q.length
    · rw [if_pos hk]
    · rw [if_neg hk]; exact V.z x (by omega) hx free (by rw [hw]; exact f1)
  rw [z0, ha free] at i2
  have es : sm (stp rows).q.length (fun r' => A x ((stp rows).q.getD r' 0) * cell (stp rows).l r' free) = sm (stp rows).q.length fun t => cell (stp rows).l t free * r.getD ((stp rows).q.getD t 0) 0 := sm_ext fun i _ => by rw [ha, Int.mul_comm]
  have i2' : (stp rows).d * r.getD free 0 = 0 + sm (stp rows).q.length (fun r' => A x ((stp rows).q.getD r' 0) * cell (stp rows).l r' free) := i2
  rw [es] at i2'
  omega
theorem ngt_mat {m : Nat} {rows : List (List Int)} (h : Mat m 60 rows) : Mat m 2000 (ngt rows m) := by
  have S := stAt_SI h (wid rows) (wid_le h)
  have bb := bAt_le (wid rows) (by have := wid_le h; have := h.2.1; omega)
  rw [← stp_at] at S
  refine ⟨by rw [ngt_len h]; have := h.2.1; omega, h.2.1, fun t ht => (ngt_dot h ht).1, fun t ht => ?_⟩
  have e : ngt rows m = (freesTo (stp rows).q m).map fun free => shr (toldF (stp rows) m free) := rfl
  rw [e] at ht
  obtain ⟨free, hf, rfl⟩ := List.mem_map.mp ht
  have b1 : Bd 1000 (toldF (stp rows) m free) := by rw [toldF_to]; exact (toldTo_bd S.bd S.db _).le bb
  unfold shr
  by_cases hg : gcdL (toldF (stp rows) m free) = 0
  · rw [if_pos hg]; exact b1.le (by decide)
  · rw [if_neg hg]
    intro x hx
    obtain ⟨y, hy, rfl⟩ := List.mem_map.mp hx
    exact Nat.lt_of_le_of_lt (natAbs_fdiv_le hg) (nle (b1 y hy) (by decide))
/-! independence -/
theorem sm_pull : ∀ {k a : Nat} {f : Nat → Int}, a < k → sm k f = f a + sm k fun i => if i = a then 0 else f i
  | 0, _, _, h => absurd h (Nat.not_lt_zero _)
  | k + 1, a, f, h => by
    by_cases ha : a = k
    · subst ha
      show sm a f + f a = f a + (sm a (fun i => if i = a then 0 else f i) + if a = a then 0 else f a)
      have e : sm a (fun i => if i = a then 0 else f i) = sm a f := sm_ext fun i hi => by rw [if_neg (by omega)]
      rw [if_pos rfl, e]; omega
    · show sm k f + f k = f a + (sm k (fun i => if i = a then 0 else f i) + if k = a then 0 else f k)
      rw [sm_pull (show a < k by omega), if_neg (by omega)]
      omega
theorem sm_zero : ∀ {k : Nat} {f : Nat → Int}, (∀ i, i < k → f i = 0) → sm k f = 0
  | 0, _, _ => rfl
  | k + 1, f, h => by
    show sm k f + f k = 0
    rw [sm_zero fun i hi => h i (by omega), h k (by omega)]; rfl
theorem sm_one {k a : Nat} {f : Nat → Int} (ha : a < k) (h : ∀ i, i < k → i ≠ a → f i = 0) : sm k f = f a := by
  rw [sm_pull ha, sm_zero fun i hi => ?_]
  · omega
  · show (if i = a then 0 else f i) = 0
    by_cases e : i = a
    · rw [if_pos e]
    · rw [if_neg e]; exact h i hi e
theorem sm_two {k a b : Nat} {f g : Nat → Int} (ha : a < k) (hb : b < k) (hab : a ≠ b) (h : ∀ i, i < k → i ≠ a → i ≠ b → f i = g i) (e : f a + f b = g a + g b) : sm k f = sm k g := by
  rw [sm_pull ha, sm_pull hb, sm_pull (f := g) ha, sm_pull (f := fun i => if i = a then 0 else g i) hb]
  show f a + ((if b = a then 0 else f b) + _) = g a + ((if b = a then 0 else g b) + _)
  rw [if_neg (by omega), if_neg (by omega)]
  have : sm k (fun i => if i = b then 0 else if i = a then 0 else f i) = sm k (fun i => if i = b then 0 else if i = a then 0 else g i) := sm_ext fun i hi => by
    by_cases h1 : i = b
    · rw [if_pos h1, if_pos h1]
    · by_cases h2 : i = a
      · rw [if_neg h1, if_neg h1, if_pos h2, if_pos h2]
      · rw [if_neg h1, if_neg h1, if_neg h2, if_neg h2, h i hi h2 h1]
  omega
theorem sm_sub : ∀ (k : Nat) (f g : Nat → Int), sm k (fun i => f i - g i) = sm k f - sm k g
  | 0, _, _ => rfl
  | k + 1, f, g => by
    show sm k _ + (f k - g k) = sm k f + f k - (sm k g + g k)
    rw [sm_sub k f g]; omega
def Ind (t m : Nat) (l : Nat → Nat → Int) : Prop := ∀ c : Nat → Int, (∀ j, j < m → sm t (fun i => c i * l i j) = 0) → ∀ i, i < t → c i = 0
theorem sw_sw (a b i : Nat) : sw a b (sw a b i) = i := by unfold sw; split <;> (try split) <;> simp_all
theorem Ind.swap {t m : Nat} {l : Nat → Nat → Int} (h : Ind t m l) {a b : Nat} (ha : a < t) (hb : b < t) : Ind t m fun i => l (sw a b i) := by
  intro c hc i hi
  have lt : ∀ i, i < t → sw a b i < t := fun i hi => by unfold sw; split <;> (try split) <;> omega
  have := h (fun i => c (sw a b i)) (fun j hj => ?_) (sw a b i) (lt i hi)
  · have e : c (sw a b (sw a b i)) = 0 := this
    rw [sw_sw] at e; exact e
  · rw [← hc j hj]
    by_cases hab : a = b
    · subst hab
      refine sm_ext fun i _ => ?_
      have e : sw a a i = i := by unfold sw; split <;> simp_all
      show c (sw a a i) * l i j = c i * l (sw a a i) j
      rw [e]
    · have ea : sw a b a = b := by unfold sw; rw [if_neg hab, if_pos rfl]
      have eb : sw a b b = a := by unfold sw; rw [if_pos rfl]
      refine sm_two ha hb hab (fun i _ h1 h2 => ?_) ?_
      · have e : sw a b i = i := by unfold sw; rw [if_neg h2, if_neg h1]
        show c (sw a b i) * l i j = c i * l (sw a b i) j
        rw [e]
      · show c (sw a b a) * l a j + c (sw a b b) * l b j = c a * l (sw a b a) j + c b * l (sw a b b) j
        rw [ea, eb]; omega
theorem Ind.elim {t m k : Nat} {l l' : Nat → Nat → Int} {at_ : Nat} (h : Ind t m l) (hk : k < t) (hp : l k at_ ≠ 0) (h1 : ∀ i, i < t → i ≤ k → ∀ j, j < m → l' i j = l i j) (h2 : ∀ i, i < t → k < i → ∀ j, j < m → l' i j = l i j * l k at_ - l i at_ * l k j) : Ind t m l' := by
  intro c hc
  have hF : ∃ F, F = sm t (fun i => c i * if k < i then l i at_ else 0) := ⟨_, rfl⟩
  obtain ⟨F, hF⟩ := hF
  have key : ∀ i, i < t → c i * (if k < i then l k at_ else 1) - (if i = k then F else 0) = 0 := h _ fun j hj => by
    have e1 : sm t (fun i => (c i * (if k < i then l k at_ else 1) - (if i = k then F else 0)) * l i j) = sm t (fun i => c i * ((if k < i then l k at_ else 1) * l i j)) - F * l k j := by
      have e2 : sm t (fun i => (if i = k then F else 0) * l i j) = F * l k j := by
        rw [sm_one hk fun i _ hne => by show (if i = k then F else 0) * l i j = 0; rw [if_neg hne, Int.zero_mul]]
        rw [if_pos rfl]
      rw [← e2, ← sm_sub]
      exact sm_ext fun i _ => by grind
    rw [e1, hF]
    have e3 := sm_lin t c (fun i => (if k < i then l k at_ else 1) * l i j) (fun i => if k < i then l i at_ else 0) 1 (l k j)
    have e4 : sm t (fun i => c i * (1 * ((if k < i then l k at_ else 1) * l i j) - l k j * if k < i then l i at_ else 0)) = sm t (fun i => c i * l' i j) := sm_ext fun i hi => by
      by_cases hik : k < i
      · rw [if_pos hik, if_pos hik, h2 i hi hik j hj]; grind
      · rw [if_neg hik, if_neg hik, h1 i hi (by omega) j hj]; grind
    have h9 := hc j hj
    rw [← e4, e3, Int.one_mul, Int.mul_comm (l k j)] at h9
    exact h9
  have hi0 : ∀ i, i < t → k < i → c i = 0 := fun i hi hik => by
    have := key i hi
    rw [if_pos hik, if_neg (by omega), Int.sub_zero] at this
    exact (Int.mul_eq_zero.mp this).resolve_right hp
  have F0 : F = 0 := by
    rw [hF]
    refine sm_zero fun i hi => ?_
    show c i * (if k < i then l i at_ else 0) = 0
    by_cases hik : k < i
    · rw [hi0 i hi hik, Int.zero_mul]
    · rw [if_neg hik, Int.mul_zero]
  intro i hi
  by_cases hik : k < i
  · exact hi0 i hi hik
  · have := key i hi
    rw [if_neg hik, F0] at this
    have e : (if i = k then (0 : Int) else 0) = 0 := by split <;> rfl
    rw [e] at this
    omega
theorem lAt_ind {m : Nat} {rows : List (List Int)} (h : Mat m 2000 rows) (h0 : Ind rows.length m (cell rows)) : ∀ i, i ≤ m → Ind rows.length m (cell (lAt rows i).1) ∧ ∀ x, (lAt rows i).2 ≤ x → x < rows.length → ∀ j, j < i → cell (lAt rows i).1 x j = 0
  | 0, _ => ⟨h0, fun _ _ _ j hj => absurd hj (Nat.not_lt_zero _)⟩
  | i + 1, hi => by
    obtain ⟨hI, hZ⟩ := lAt_ind h h0 i (by omega)
    obtain ⟨s1, s2, s3, s4⟩ := lAt_LI h i (by omega)
    rw [lAt_succ]
    generalize lAt rows i = u at *
    obtain ⟨l, k⟩ := u
    simp only at s1 s2 s4 hI hZ
    cases e : spotsF l k i with
    | nil =>
      have e' : spotsF (l, k).1 (l, k).2 i = [] := e
      rw [lstep_nil e']
      refine ⟨hI, fun x hx1 hx2 j hj => ?_⟩
      by_cases hji : j < i
      · exact hZ x hx1 hx2 j hji
      · have : j = i := by omega
        subst this
        exact spots_all e hx1 (by rw [s1]; exact hx2)
    | cons p t =>
      have e' : spotsF (l, k).1 (l, k).2 i = p :: t := e
      rw [lstep_cons e']
      obtain ⟨p1, p2, p3⟩ := spots_first e
      have hk : k < l.length := by omega
      have cs : ∀ x j, cell (swp l k p) x j = cell l (sw k p x) j := cell_swp hk p2
      have n1 : (swp l k p).length = rows.length := by rw [swp_len, s1]
      have w1 : ∀ r ∈ swp l k p, r.length = m := fun r hr => s2 r (swp_mem hk p2 hr)
      have swk : sw k p k = p := by unfold sw; split <;> simp_all
      have I1 : Ind rows.length m (cell (swp l k p)) := by
        have e : cell (swp l k p) = fun i => cell l (sw k p i) := by funext x j; exact cs x j
        rw [e]; exact hI.swap (by omega) (by omega)
      have Z1 : ∀ x, k ≤ x → x < rows.length → ∀ j, j < i → cell (swp l k p) x j = 0 := fun x hx1 hx2 j hj => by
        rw [cs]
        refine hZ _ ?_ ?_ j hj
        · show k ≤ sw k p x
          unfold sw; split <;> (try split) <;> omega
        · unfold sw; split <;> (try split) <;> omega
      have hP : cell (swp l k p) k i ≠ 0 := by rw [cs, swk]; exact p3
      show Ind rows.length m (cell ((swp l k p).mapIdx fun i' row => if k < i' then elm row ((swp l k p).getD k []) i else row)) ∧ ∀ x, k + 1 ≤ x → x < rows.length → ∀ j, j < i + 1 → cell ((swp l k p).mapIdx fun i' row => if k < i' then elm row ((swp l k p).getD k []) i else row) x j = 0
      generalize swp l k p = L1 at *
      have lm : L1.getD k [] ∈ L1 := getD_mem (by omega)
      have g1 : ∀ x, x < rows.length → x ≤ k → ∀ j, j < m → cell (L1.mapIdx fun i' row => if k < i' then elm row (L1.getD k []) i else row) x j = cell L1 x j := fun x hx hle j hj => by
        rw [cell_mapIdx (by omega), if_neg (by omega)]; rfl
      have g2 : ∀ x, x < rows.length → k < x → ∀ j, j < m → cell (L1.mapIdx fun i' row => if k < i' then elm row (L1.getD k []) i else row) x j = cell L1 x j * cell L1 k i - cell L1 x i * cell L1 k j := fun x hx hlt j hj => by
        have xm : L1.getD x [] ∈ L1 := getD_mem (by omega)
        rw [cell_mapIdx (by omega), if_pos hlt]
        unfold elm
        rw [zw_getD (by rw [w1 _ xm]; exact hj) (by rw [w1 _ lm]; exact hj)]
        rfl
      refine ⟨I1.elim (by omega) hP g1 g2, fun x hx1 hx2 j hj => ?_⟩
      rw [g2 x hx2 (by omega) j (by omega)]
      by_cases hji : j < i
      · rw [Z1 x (by omega) hx2 j hji, Z1 k (Nat.le_refl _) (by omega) j hji]; grind
      · have : j = i := by omega
        subst this
        grind
theorem lrk_full {m : Nat} {rows : List (List Int)} (h : Mat m 2000 rows) (h0 : Ind rows.length m (cell rows)) : lrk rows = rows.length := by
  by_cases hne : rows = []
  · subst hne; rfl
  have hw := wid_of h hne
  rw [lrk_at, hw]
  have L := lAt_LI h m (Nat.le_refl _)
  obtain ⟨hI, hZ⟩ := lAt_ind h h0 m (Nat.le_refl _)
  refine Nat.le_antisymm L.rk (Nat.le_of_not_lt fun hlt => ?_)
  have := hI (fun i => if i = (lAt rows m).2 then 1 else 0) (fun j hj => ?_) _ hlt
  · have e : (if (lAt rows m).2 = (lAt rows m).2 then (1 : Int) else 0) = 0 := this
    rw [if_pos rfl] at e
    omega
  · rw [sm_one hlt fun i _ hi => by show (if i = _ then (1 : Int) else 0) * _ = 0; rw [if_neg hi, Int.zero_mul]]
    rw [hZ _ (Nat.le_refl _) hlt j hj, Int.mul_zero]
theorem shr_getD {ns : List Int} (x : Nat) : (ns.getD x 0 = 0 → (shr ns).getD x 0 = 0) ∧ (ns.getD x 0 ≠ 0 → (shr ns).getD x 0 ≠ 0) := by
  unfold shr
  by_cases hg : gcdL ns = 0
  · rw [if_pos hg]; exact ⟨id, id⟩
  · rw [if_neg hg]
    by_cases hx : x < ns.length
    · have e1 : ns.getD x 0 = ns[x] := by rw [List.getD_eq_getElem?_getD, List.getElem?_eq_getElem hx]; rfl
      have e2 : (ns.map fun y => y.fdiv (gcdL ns)).getD x 0 = (ns[x]).fdiv (gcdL ns) := by rw [List.getD_eq_getElem?_getD, List.getElem?_map, List.getElem?_eq_getElem hx]; rfl
      obtain ⟨y, hy⟩ := gcdL_dvd (List.getElem_mem hx)
      rw [e1, e2]
      generalize ns[x] = z at *
      rw [hy, Int.mul_fdiv_cancel_left _ hg]
      refine ⟨fun h => (Int.mul_eq_zero.mp h).resolve_left hg, fun h z => h (by rw [z, Int.mul_zero])⟩
    · have e1 : ns.getD x 0 = 0 := by rw [List.getD_eq_getElem?_getD, List.getElem?_eq_none (by omega)]; rfl
      have e2 : (ns.map fun y => y.fdiv (gcdL ns)).getD x 0 = 0 := by rw [List.getD_eq_getElem?_getD, List.getElem?_map, List.getElem?_eq_none (by omega)]; rfl
      exact ⟨fun _ => e2, fun h => absurd e1 h⟩
theorem ngt_rank {m : Nat} {rows : List (List Int)} (h : Mat m 60 rows) : lrk (ngt rows m) = (ngt rows m).length := by
  refine lrk_full (ngt_mat h) ?_
  have e : ngt rows m = (freesTo (stp rows).q m).map fun free => shr (toldF (stp rows) m free) := rfl
  have S := stAt_SI h (wid rows) (wid_le h)
  rw [← stp_at] at S
  have hl : (stp rows).q.length ≤ (stp rows).l.length := by rw [S.len]; exact S.ql
  have nd : (freesTo (stp rows).q m).Nodup := List.nodup_range.filter _
  have hlen : (ngt rows m).length = (freesTo (stp rows).q m).length := by rw [e, List.length_map]
  rw [hlen]
  have ent : ∀ i, (hi : i < (freesTo (stp rows).q m).length) → ∀ j, (hj : j < (freesTo (stp rows).q m).length) → (i ≠ j → cell (ngt rows m) i (freesTo (stp rows).q m)[j] = 0) ∧ (i = j → cell (ngt rows m) i (freesTo (stp rows).q m)[j] ≠ 0) := fun i hi j hj => by
    obtain ⟨a1, a2⟩ := freesTo_lt (List.getElem_mem hi)
    obtain ⟨b1, b2⟩ := freesTo_lt (List.getElem_mem hj)
    have ec : cell (ngt rows m) i (freesTo (stp rows).q m)[j] = (shr (toldF (stp rows) m (freesTo (stp rows).q m)[i])).getD (freesTo (stp rows).q m)[j] 0 := by
      unfold cell
      rw [e, List.getD_eq_getElem?_getD (l := List.map _ _), List.getElem?_map, List.getElem?_eq_getElem hi]
      rfl
    have et : (toldF (stp rows) m (freesTo (stp rows).q m)[i]).getD (freesTo (stp rows).q m)[j] 0 = if (freesTo (stp rows).q m)[j] = (freesTo (stp rows).q m)[i] then (stp rows).d else 0 := by
      rw [toldF_to, told_zlen hl]
      refine told_at hl a1 _ (Nat.le_refl _) _ fun t ht z => b2 ?_
      rw [← z, qget ht]
      exact List.getElem_mem ht
    refine ⟨fun hij => ?_, fun hij => ?_⟩
    · rw [ec]
      refine (shr_getD _).1 ?_
      rw [et, if_neg]
      intro z
      exact hij ((List.getElem_inj nd).mp z).symm
    · rw [ec]
      refine (shr_getD _).2 ?_
      subst hij
      rw [et, if_pos rfl]
      exact S.d0
  intro c hc i hi
  have hj := hc (freesTo (stp rows).q m)[i] (freesTo_lt (List.getElem_mem hi)).1
  rw [sm_one hi fun i' hi' hne => by rw [(ent i' hi' i hi).1 hne, Int.mul_zero]] at hj
  exact (Int.mul_eq_zero.mp hj).resolve_right ((ent i hi i hi).2 rfl)
end K01
namespace K01
open PySem PySem.Spec PyProof.Rows L2 DL
theorem eqv_iD (x y : List Int) : PyData.eqv (py (iD x)) (py (iD y)) = decide (x = y) := Bool.eq_iff_iff.mpr ((eqv_ints x y).trans decide_eq_true_iff.symm)
theorem eqv_tI (x y : List Int) : PyData.eqv (py (.tup (x.map DV.int))) (py (.tup (y.map DV.int))) = decide (x = y) := Bool.eq_iff_iff.mpr ((eqv_tup DV.int eqv_int x y).trans decide_eq_true_iff.symm)
theorem pl_tD (x : List (List Int)) : Pl 2 (tD x) := pl_lst fun d hd => by
  obtain ⟨r, _, rfl⟩ := List.mem_map.mp hd
  exact pl_intsT r
theorem eqv_tD (x y : List (List Int)) : PyData.eqv (py (tD x)) (py (tD y)) = decide (x = y) := Bool.eq_iff_iff.mpr ((eqv_lst (fun r : List Int => DV.tup (r.map DV.int)) (fun x y => by rw [eqv_tI]; exact decide_eq_true_iff) x y).trans decide_eq_true_iff.symm)
theorem q_le {m : Nat} {rows : List (List Int)} (h : Mat m 60 rows) : (stp rows).q.length ≤ m := by
  obtain ⟨A, cf, M⟩ := main_at h (wid rows) (wid_le h)
  exact Nat.le_trans M.inv.kc (wid_le h)
theorem sh_rD {rows : List (List Int)} {m : Nat} (h : Mat m 60 rows) : showOk (py (rD rows)) := by
  have hr : ∀ r ∈ rows, Sh (4 * 252) (iD r) := fun r hr => by
    have := sh_lst (w := 251) (ds := r.map DV.int) fun d hd => by
      obtain ⟨x, hx, rfl⟩ := List.mem_map.mp hd
      exact sh_int (nle (h.2.2.2 r hr x hx) (by decide))
    refine this.le ?_
    rw [List.length_map, h.2.2.1 r hr]
    have := h.2.1
    omega
  have := sh_lst (w := 4 * 252) (ds := rows.map iD) fun d hd => by
    obtain ⟨r, hr', rfl⟩ := List.mem_map.mp hd
    exact hr r hr'
  refine showOk_of (pl_rD rows) this (by decide) ?_
  rw [List.length_map]
  have := h.1
  omega
theorem zipWith_one (xs ys : List Int) : addF xs ys 1 = List.zipWith (fun x y => x + y) xs ys := by
  unfold addF
  congr 1
  funext x y
  rw [Int.one_mul]
section
variable {K : Fg}
theorem ne_iD {x y : List Int} {k : DV → Prop} (q : k (.bl (!decide (x = y)))) : OW K (rNeA K) (iD x) (iD y) k := ow_neD (pl_ints (m := 0) _).shp (pl_ints (m := 0) _).shp (by rw [eqv_iD]; exact q)
theorem ne_tI {x y : List Int} {k : DV → Prop} (q : k (.bl (!decide (x = y)))) : OW K (rNeA K) (.tup (x.map DV.int)) (.tup (y.map DV.int)) k := ow_neD (pl_intsT (m := 0) _).shp (pl_intsT (m := 0) _).shp (by rw [eqv_tI]; exact q)
theorem ne_tD {x y : List (List Int)} {k : DV → Prop} (q : k (.bl (!decide (x = y)))) : OW K (rNeA K) (tD x) (tD y) k := ow_neD (pl_tD _).shp (pl_tD _).shp (by rw [eqv_tD]; exact q)
/-- a row of draws -/
theorem lc_draw {Γ : List SA} {O : Own} {n : Nat} {many : Nat} {most : Int} {k : List DV → Nat → Prop} (hm : many ≤ 4) (h1 : 2 ≤ most) (h2 : most ≤ 1000000000000) (hn : n + many ≤ 1000000)
    (g0 : (wipeG Γ [14])[0]? = some .pen) (g1 : Γ[1]? = some (.is (.int (many : Int)))) (g2 : (wipeG Γ [14])[2]? = some (.is (.int most))) (q : ∀ r : List Int, r.length = many → Bd 41 r → k (r.map DV.int) (n + many)) :
    WL K (tLc (iRng1 (tCons (tVar 1) tNil)) (gName 14) tYes (tOp rMinus (tCall (sp_law_draw K) [] E0 (tCons (tVar 0) (tCons (tOp (rPlus K) (tOp (rTimes K) (tC (.int 2)) (tVar 2)) (tC (.int 1))) tNil))) (tVar 2)) [14]) Γ O n k := by
  refine wl_lc (sw_rng1 (wa_cons (w_var g1 (wa_nil ⟨_, rfl, by omega, by omega, ?_⟩))))
  rw [Int.toNat_natCast]
  refine ⟨by rw [rngD_length]; omega, fun i acc n2 => ∃ r : List Int, acc = r.map DV.int ∧ r.length = i ∧ Bd 41 r ∧ n2 = n + i, ⟨[], rfl, rfl, fun x hx => absurd hx (by simp), rfl⟩, ?_, ?_⟩
  · rintro i x _ _ hx ⟨r, rfl, hr, hb, rfl⟩
    obtain ⟨hi, rfl⟩ := rngD_get hx
    have s0 : ∀ d, ((wipeG Γ [14]).set 14 d)[0]? = some .pen := fun d => by rw [List.getElem?_set_ne (by decide)]; exact g0
    have s2 : ∀ d, ((wipeG Γ [14]).set 14 d)[2]? = some (.is (.int most)) := fun d => by rw [List.getElem?_set_ne (by decide)]; exact g2
    refine gw_name (by simp) (wt_yes ⟨fun _ => ?_, fun z => nomatch z⟩)
    refine w_op (w_callP (s0 _) (wa_cons (w_op (w_op (w_int (w_var (s2 _) (ow_timesI (mul_okL (by decide) (by decide)) (w_int (ow_plusI (wa_nil ⟨_, rfl, ⟨by omega, ?_⟩, by omega, ?_⟩))))))))))
    · exact nle (b := 9000) (show (2 * most + 1).natAbs < 2 ^ 42 by omega) (by decide)
    · rintro _ ⟨y, rfl, y1, y2⟩
      refine w_var (s2 _) (ow_minus ⟨r ++ [y - most], by simp, by simp [hr], fun x hx => ?_, by omega⟩)
      rcases List.mem_append.mp hx with h | h
      · exact hb x h
      · rw [List.mem_singleton.mp h]; omega
  · rintro _ _ ⟨r, rfl, hr, hb, rfl⟩
    rw [rngD_length] at hr ⊢
    exact q r hr hb
theorem rd_law_rows_right (a : Unit) (n : Nat) (hp : True) (hn : n + 100 ≤ 1000000) : WS K (t_law_rows_right K) (slotsP N_law_rows_right []) [] n (EP (n + 100) fun d => d = .bl true) := by
  show WS K (t_law_rows_right K) [.pen, .no, .no, .no, .no, .no, .no, .no, .no, .no, .no, .no, .no, .no, .no, .no, .no, .no] [] n _
  unfold t_law_rows_right
  have n4 : (4 : Int).natAbs < 2 ^ 9000 := nle (show (4 : Int).natAbs < 2 ^ 3 by decide) (by decide)
  have n5 : (5 : Int).natAbs < 2 ^ 9000 := nle (show (5 : Int).natAbs < 2 ^ 3 by decide) (by decide)
  have n2 : (2 : Int).natAbs < 2 ^ 9000 := nle (show (2 : Int).natAbs < 2 ^ 3 by decide) (by decide)
  have n9 : (9 : Int).natAbs < 2 ^ 9000 := nle (show (9 : Int).natAbs < 2 ^ 4 by decide) (by decide)
  refine ws_seq (ws_asgG (w_tup (wa_cons (w_op (w_int (w_callP rfl (wa_cons (w_int (wa_nil ⟨4, rfl, ⟨by decide, n4⟩, by omega, ?_⟩)))))))))
  rintro _ ⟨d0, rfl, d1, d2⟩
  obtain ⟨many, hmany, mg1, mg4⟩ : ∃ many : Nat, 1 + d0 = (many : Int) ∧ 1 ≤ many ∧ many ≤ 4 := ⟨(1 + d0).toNat, by omega, by omega, by omega⟩
  refine ow_plusI ?_
  rw [hmany]
  refine wa_cons (w_callP rfl (wa_cons ?_))
  walk_at "dlx"
  refine ow_pow ⟨by decide, by decide, by decide⟩ ?_
  walk_at "dlx"
  refine ⟨by simp, wa_nil ⟨_, rfl, ⟨by simp, by simp⟩, by omega, fun d hd => ?_⟩⟩
  have p12 : (10 : Int) ^ (12 : Int).toNat = 1000000000000 := by decide
  obtain ⟨most, rfl, hm1, hm2⟩ : ∃ c : Int, d = .int c ∧ 2 ≤ c ∧ c ≤ 1000000000000 := by
    rw [p12] at hd
    simp only [List.mem_cons, List.not_mem_nil, or_false] at hd
    rcases hd with rfl | rfl | rfl | rfl
    · exact ⟨_, rfl, by decide, by decide⟩
    · exact ⟨_, rfl, by decide, by decide⟩
    · exact ⟨_, rfl, by decide, by decide⟩
    · exact ⟨_, rfl, by decide, by decide⟩
  refine wa_nil ⟨by simp, xg_tup rfl (xgs_cons (xg_name (xgs_cons (xg_name (xgs_nil ?_)))))⟩
  show WS K _ [.pen, .is (.int (many : Int)), .is (.int most), .no, .no, .no, .no, .no, .no, .no, .no, .no, .no, .no, .no, .no, .no, .no] [] (n + 1 + 1) _
  -- the rows
  refine ws_seq (ws_asgOwn (wl_lc (sw_rng1 (wa_cons (w_callP rfl (wa_cons (w_int (wa_nil ⟨5, rfl, ⟨by decide, n5⟩, by omega, ?_⟩))))))))
  rintro _ ⟨r0, rfl, r1, r2⟩
  refine wa_nil ⟨r0, rfl, by omega, by omega, by rw [rngD_length]; omega, fun i acc k => ∃ rows : List (List Int), acc = rows.map iD ∧ rows.length = i ∧ (∀ r ∈ rows, r.length = many) ∧ Bds 41 rows ∧ k = n + 3 + many * i, ⟨[], rfl, rfl, by simp, fun r hr => absurd hr (by simp), rfl⟩, ?_, ?_⟩
  · rintro i x _ _ hx ⟨rows, rfl, hr, hw, hb, rfl⟩
    obtain ⟨hi, rfl⟩ := rngD_get hx
    refine gw_name (by simp) (wt_yes ⟨fun _ => ?_, fun z => nomatch z⟩)
    have hmi : many * i ≤ 4 * 4 := Nat.mul_le_mul mg4 (by omega)
    refine w_of_wl (lc_draw mg4 hm1 hm2 (by omega) rfl rfl rfl fun r hrl hrb => ⟨rows ++ [r], by simp, by simp [hr], fun x hx => ?_, fun x hx => ?_, by rw [Nat.mul_add, Nat.mul_one]; omega⟩)
    · rcases List.mem_append.mp hx with h | h
      · exact hw x h
      · rw [List.mem_singleton.mp h]; exact hrl
    · rcases List.mem_append.mp hx with h | h
      · exact hb x h
      · rw [List.mem_singleton.mp h]; exact hrb
  rintro _ k ⟨rows0, rfl, hr0, hw0, hb0, hk⟩
  rw [rngD_length] at hr0 hk
  have hmi : many * r0.toNat ≤ 4 * 4 := Nat.mul_le_mul mg4 (by omega)
  have hk20 : k ≤ n + 20 := by omega
  clear hk
  -- one more row
  refine ws_cut (fun Γ O k' => ∃ rows : List (List Int), Γ = [.pen, .is (.int (many : Int)), .is (.int most), .own 0, .no, .no, .no, .no, .no, .no, .no, .no, .no, .no, .no, .no, .no, .no] ∧ O = [some (rows.map iD)] ∧ k' ≤ n + 21 ∧ Mat many 60 rows) (ws_if ?_) ?_
  · refine wt_and (wt_test (w_op (w_lenOwn rfl rfl (w_int (ow_gt ⟨_, rfl, br (fun h => ?_) (fun h => ?_)⟩)))))
    · have hl : 1 < rows0.length := by rw [List.length_map] at h; omega
      refine wt_test (w_op (w_callP rfl (wa_cons (w_int (wa_nil ⟨2, rfl, ⟨by decide, n2⟩, by omega, ?_⟩)))))
      rintro _ ⟨z, rfl, -, -⟩
      have m0 : rows0.getD 0 [] ∈ rows0 := getD_mem (by omega)
      have m1 : rows0.getD 1 [] ∈ rows0 := getD_mem hl
      refine w_int (ow_eqI ⟨_, rfl, br (fun _ => ?_) (fun _ => ?_)⟩)
      · refine ws_append rfl rfl (by rw [List.length_map]; omega) (w_of_wl (lc_zip (xs := rows0.getD 0 []) (ys := rows0.getD 1 []) (g := fun x y => 2 * x - 3 * y) (by rw [hw0 _ m0]; omega) (wa_cons (w_ixOwn rfl rfl (w_int ⟨0, _, rfl, DL.atI_nat (i := 0) (get_rows (by omega)), wa_cons (w_ixOwn rfl rfl (w_int ⟨1, _, rfl, DL.atI_nat (i := 1) (get_rows hl), wa_nil ⟨rfl, .inl rfl⟩⟩))⟩))) (fun x hx y hy => ?_) (by decide) ?_))
        · walk_at "dlx"
          refine ow_timesI (mul_okL (by decide) (by decide)) ?_
          walk_at "dlx"
          refine ow_timesI (mul_okL (by decide) (by decide)) (ow_minus ⟨rfl, rfl⟩)
        · refine ⟨rows0 ++ [List.zipWith (fun x y => 2 * x - 3 * y) (rows0.getD 0 []) (rows0.getD 1 [])], rfl, by simp, by omega, ⟨by simp; omega, mg4, fun r hr => ?_, fun r hr => ?_⟩⟩
          · rcases List.mem_append.mp hr with h | h
            · exact hw0 r h
            · rw [List.mem_singleton.mp h, List.length_zipWith, hw0 _ m0, hw0 _ m1]; omega
          · rcases List.mem_append.mp hr with h | h
            · exact (hb0 r h).le (by decide)
            · rw [List.mem_singleton.mp h, ← zmap]
              intro x hx
              obtain ⟨⟨u, v⟩, hz, rfl⟩ := List.mem_map.mp hx
              obtain ⟨u1, u2⟩ := List.of_mem_zip hz
              have b1 := hb0 _ m0 u u1
              have b2 := hb0 _ m1 v u2
              show (2 * u - 3 * v).natAbs < 2 ^ 60
              omega
      · exact ws_next ⟨rows0, rfl, rfl, by omega, ⟨by omega, mg4, hw0, fun r hr => (hb0 r hr).le (by decide)⟩⟩
    · exact brF (ws_next ⟨rows0, rfl, rfl, by omega, ⟨by omega, mg4, hw0, fun r hr => (hb0 r hr).le (by decide)⟩⟩)
  rintro _ _ k' ⟨rows, rfl, rfl, hk', hM⟩
  refine ws_freeze (i := 3) rfl rfl ?_
  show WS K _ [.pen, .is (.int (many : Int)), .is (.int most), .is (rD rows), .no, .no, .no, .no, .no, .no, .no, .no, .no, .no, .no, .no, .no, .no] [none] k' _
  have hM2 : Mat many 2000 rows := ⟨hM.1, hM.2.1, hM.2.2.1, fun r hr => (hM.2.2.2 r hr).le (by decide)⟩
  refine ws_seq (ws_par (wa_cons (w_cb (wa_cons (w_var rfl (wa_nil (cw_reprL (pl_rD rows).py (sh_rD hM) ?_)))))))
  refine wa_cons (w_call (wa_cons (w_var rfl (wa_nil ⟨rows, rfl, ⟨many, hM2⟩, ?_⟩))))
  rintro _ rfl
  refine wa_nil ⟨_, _, rfl, ?_⟩
  refine ws_seq (ws_asg (w_call (wa_cons (w_var rfl (wa_cons (w_var rfl (wa_nil ⟨(rows, many), rfl, hM, ?_⟩)))))))
  rintro _ rfl
  have rk := rank_same hM
  refine ws_seq (ws_if ?_)
  walk_at "dlx"
  refine ⟨rows, rfl, ⟨many, hM⟩, ?_⟩
  rintro _ rfl
  refine w_var rfl (ow_neI ⟨_, rfl, no_cut (by rw [rk]) ?_⟩)
  walk_at "dlx"
  refine ⟨rfl, rows, rfl, ⟨many, hM⟩, ?_⟩
  rintro _ rfl
  refine w_var rfl (ow_neI ⟨_, rfl, no_cut (by rw [rk]) ?_⟩)
  walk_at "dlx"
  refine ⟨rfl, (rows, many), rfl, hM, ?_⟩
  rintro _ rfl
  refine w_var rfl (ne_tD ?_)
  refine ⟨_, rfl, no_cut rfl ?_⟩
  walk_at "dlx"
  have nl := ngt_len hM
  have ql := q_le hM
  refine no_cut (by rw [List.length_map]; show ((ngt rows many).length : Int) = (many : Int) - (lrk rows : Int); omega) ?_
  refine wt_test (w_op (w_cb (wa_cons (w_var rfl (wa_nil (cw_reprL (pl_rD rows).py (sh_rD hM) (w_var rfl (ow_neS ⟨_, rfl, no_cut rfl (ws_next ?_)⟩))))))))
  show WS K _ [.pen, .is (.int (many : Int)), .is (.int most), .is (rD rows), .is (.str (py (rD rows)).shown), .is (.int (lrk rows : Int)), .is (tD (ngt rows many)), .no, .no, .no, .no, .no, .no, .no, .no, .no, .no, .no] [none] k' _
  generalize (py (rD rows)).shown = kept
  -- orthogonal
  have hNM := ngt_mat hM
  refine ws_seq (ws_for (vs := [7]) (sw_seq (w_var rfl ⟨_, .inl rfl, fun i Γ O k => ∃ x, Γ = [.pen, .is (.int (many : Int)), .is (.int most), .is (rD rows), .is (.str kept), .is (.int (lrk rows : Int)), .is (tD (ngt rows many)), x, .no, .no, .no, .no, .no, .no, .no, .no, .no, .no] ∧ O = [none] ∧ k = k', ⟨_, rfl, rfl, rfl⟩, ?_, ?_⟩)))
  · rintro i x _ _ _ hx ⟨x0, rfl, rfl, rfl⟩
    obtain ⟨r, hr, rfl⟩ := List.mem_map.mp (List.mem_of_getElem? hx)
    refine gw_name (by simp) ?_
    refine ws_if (wt_test (w_op (w_of_wl (wl_lc (sw_seq (w_var rfl ⟨_, .inl rfl, by rw [List.length_map]; have := hNM.1; omega, fun _ acc k => acc = [] ∧ k = _, ⟨rfl, rfl⟩, ?_, ?_⟩))))))
    · rintro j y _ _ hy ⟨rfl, rfl⟩
      obtain ⟨t, ht, rfl⟩ := List.mem_map.mp (List.mem_of_getElem? hy)
      obtain ⟨t1, t2⟩ := ngt_dot hM ht
      refine gw_name (by simp) ?_
      refine wt_or (wt_test (w_op (w_cb (wa_cons (w_var rfl (wa_nil (cw_lenT (w_var rfl (ow_neI ⟨_, rfl, no_cut (by rw [List.length_map, t1]) ?_⟩)))))))))
      refine wt_test (w_op (w_call (wa_cons (w_var rfl (wa_cons (w_var rfl (wa_nil ⟨(false, t, r), rfl, ⟨?_, ?_, ?_⟩, ?_⟩)))))))
      · show t.length ≤ 1000
        omega
      · exact (hNM.2.2.2 t ht).le (by decide)
      · exact (hM.2.2.2 r hr).le (by decide)
      · rintro _ rfl
        exact w_int (ow_neI ⟨_, rfl, no_cut (t2 r hr) ⟨rfl, rfl⟩⟩)
    · rintro _ _ ⟨rfl, rfl⟩
      exact w_of_wl (wl_lst (wa_nil ⟨by simp, ow_neD rfl rfl ⟨_, rfl, (fun z => nomatch z), fun _ => ws_next ⟨_, rfl, rfl, rfl⟩⟩⟩))
  rintro _ _ _ ⟨x7, rfl, rfl, rfl⟩
  -- independent
  refine ws_cut (fun Γ O k => Γ = [.pen, .is (.int (many : Int)), .is (.int most), .is (rD rows), .is (.str kept), .is (.int (lrk rows : Int)), .is (tD (ngt rows many)), x7, .no, .no, .no, .no, .no, .no, .no, .no, .no, .no] ∧ O = [none] ∧ k ≤ n + 21) (ws_if ?_) ?_
  · refine wt_and (wt_test (w_op (w_var rfl (w_of_wl (wl_lst (wa_nil ⟨by simp, ne_tD (y := []) ⟨_, rfl, brN (fun h => ?_) (fun h => ?_)⟩⟩))))))
    · refine wt_test (w_op (w_call (wa_cons (w_of_wl (wl_lcF (α := List Int) (sw_seq (w_var rfl ⟨_, .inl rfl, ngt rows many, fun r => DV.tup (r.map DV.int), iD, rfl, by have := hNM.1; omega, fun r _ => ?_, ?_⟩)))))))
      · exact gw_name (by simp) (w_cb (wa_cons (w_var rfl (wa_nil (cws (cwl_listT ⟨rfl, rfl⟩))))))
      refine wa_nil ⟨ngt rows many, rfl, ⟨many, hNM⟩, ?_⟩
      rintro _ rfl
      refine w_cb (wa_cons (w_var rfl (wa_nil (cw_lenL (ow_neI ⟨_, rfl, no_cut ?_ (ws_next ⟨rfl, rfl, hk'⟩)⟩)))))
      rw [List.length_map, ngt_rank hM]
    · exact brF (ws_next ⟨rfl, rfl, hk'⟩)
  rintro _ _ k2 ⟨rfl, rfl, hk2⟩
  -- numbers
  refine ws_seq (ws_asgG (w_tup (wa_cons (w_of_wl (lc_draw mg4 hm1 hm2 (by omega) rfl rfl rfl fun ns hnl hnb => ?_)))))
  refine wa_cons (w_int (wa_nil ⟨by simp, xg_tup rfl (xgs_cons (xg_name (xgs_cons (xg_name (xgs_nil ?_)))))⟩))
  have nb8 : Bd 8000 ns := hnb.le (by decide)
  refine ws_seq (ws_for (vs := [10]) (sw_seq (w_var rfl ⟨_, .inl rfl, fun i Γ O k => ∃ y, Γ = [.pen, .is (.int (many : Int)), .is (.int most), .is (rD rows), .is (.str kept), .is (.int (lrk rows : Int)), .is (tD (ngt rows many)), x7, .is (iD ns), .is (.int (gcdL (ns.take i))), y, .no, .no, .no, .no, .no, .no, .no] ∧ O = [none] ∧ k = k2 + many, ⟨_, rfl, rfl, rfl⟩, ?_, ?_⟩)))
  · rintro i x _ _ _ hx ⟨y, rfl, rfl, rfl⟩
    rw [List.getElem?_map] at hx
    cases hi : ns[i]? with
    | none => rw [hi] at hx; cases hx
    | some z =>
      rw [hi] at hx
      cases hx
      refine gw_name (by simp) (ws_asg (w_call (wa_cons (w_var rfl (wa_cons (w_var rfl (wa_nil ⟨(gcdL (ns.take i), z), rfl, trivial, ?_⟩)))))))
      rintro _ rfl
      exact ⟨.is (.int z), by rw [gcdL_take hi]; rfl, rfl, rfl⟩
  rintro _ _ _ ⟨x10, rfl, rfl, rfl⟩
  rw [List.length_map, List.take_length]
  have hdue : ∀ (Γ : List SA) (O : Own) (n : Nat) (k : DV → Nat → Prop), Γ[8]? = some (.is (iD ns)) → Γ[9]? = some (.is (.int (gcdL ns))) → (wipeG Γ [10])[9]? = some (.is (.int (gcdL ns))) → 10 < Γ.length → k (iD (shr ns)) n →
      W K (tIf (tTest (tOp (rNeA K) (tVar 9) (tC (.int 0)))) (tLc (iSeq K (tVar 8)) (gName 10) tYes (tOp rFdiv (tVar 10) (tVar 9)) [10]) (tVar 8)) Γ O n k := by
    intro Γ O n k h8 h9 h9' hlen hk
    refine w_if (wt_test (w_op (w_var h9 (w_int (ow_neI ⟨_, rfl, brN (fun h => ?_) (fun h => ?_)⟩)))))
    · refine w_of_wl (wl_lcF (α := Int) (sw_seq (w_var h8 ⟨_, .inl rfl, ns, DV.int, fun x => .int (x.fdiv (gcdL ns)), rfl, by omega, fun x _ => ?_, ?_⟩)))
      · refine gw_name (by simp) (w_op (w_var (d := .int x) ?_ (w_var (d := .int (gcdL ns)) ?_ (ow_fdiv h (nle (gcdL_lt h nb8) (by decide)) ⟨rfl, rfl⟩))))
        · rw [List.getElem?_set_self]
          show 10 < (Γ.set 10 .no).length
          simpa using hlen
        · rw [List.getElem?_set_ne (by decide)]; exact h9'
      · have e : ns.map (fun x => DV.int (x.fdiv (gcdL ns))) = (shr ns).map DV.int := by
          unfold shr
          rw [if_neg h, List.map_map]
          rfl
        rw [e]; exact hk
    · refine w_var h8 ?_
      have e : shr ns = ns := by unfold shr; rw [if_pos h]
      rw [e] at hk; exact hk
  refine ws_seq (ws_asg (hdue _ _ _ _ rfl rfl rfl (by simp) ?_))
  show WS K _ [.pen, .is (.int (many : Int)), .is (.int most), .is (rD rows), .is (.str kept), .is (.int (lrk rows : Int)), .is (tD (ngt rows many)), x7, .is (iD ns), .is (.int (gcdL ns)), x10, .is (iD (shr ns)), .no, .no, .no, .no, .no, .no] [none] (k2 + many) _
  refine ws_seq (ws_if ?_)
  walk_at "dlx"
  refine ⟨ns, rfl, by show ns.length ≤ 1000; omega, ?_⟩
  rintro _ rfl
  refine w_var rfl (ow_neI ⟨_, rfl, no_cut rfl ?_⟩)
  walk_at "dlx"
  refine ⟨by simp, wa_nil ⟨rfl, [], rfl, by simp, ?_⟩⟩
  rintro _ rfl
  refine w_int (ow_neI ⟨_, rfl, no_cut rfl ?_⟩)
  walk_at "dlx"
  refine ⟨ns, rfl, ⟨by omega, nb8⟩, ?_⟩
  rintro _ rfl
  refine wa_nil (cws (cwl_listL (w_var rfl (ne_iD ?_))))
  refine ⟨_, rfl, no_cut rfl ?_⟩
  walk_at "dlx"
  refine ⟨by simp, wa_nil ⟨rfl, [0, 0], rfl, ⟨by simp, fun x hx => ?_⟩, ?_⟩⟩
  · have e : x = 0 := by simpa using hx
    rw [e]; exact Nat.two_pow_pos _
  rintro _ rfl
  have e00 : shr [0, 0] = [0, 0] := by decide
  refine wa_nil (cws (cwl_listL ?_))
  walk_at "dlx"
  refine ⟨by simp, ?_⟩
  rw [e00]
  refine ne_iD (x := [0, 0]) (y := [0, 0]) ?_
  refine ⟨_, rfl, no_cut rfl ?_⟩
  refine wt_test (w_op (w_of_wl (wl_lcF (α := Int) (sw_seq (w_var rfl ⟨_, .inl rfl, ns, DV.int, fun x => .int (sg x), rfl, by omega, fun x _ => ?_, ?_⟩)))))
  · refine gw_name (by simp) (w_call (wa_cons (w_var rfl (wa_nil ⟨x, rfl, trivial, fun d hd => ⟨hd, rfl⟩⟩))))
  refine w_of_wl (wl_lcF (α := Int) (sw_seq (w_var rfl ⟨_, .inl rfl, ns, DV.int, fun x => .int (sg x), rfl, by omega, fun x _ => ?_, ?_⟩)))
  · refine gw_name (by simp) (w_call (wa_cons (w_var rfl (wa_nil ⟨x, rfl, trivial, fun d hd => ⟨hd, rfl⟩⟩))))
  have esg : ns.map (fun x => DV.int (sg x)) = (ns.map sg).map DV.int := by rw [List.map_map]; rfl
  rw [esg]
  refine ne_iD ?_
  refine ⟨_, rfl, no_cut rfl (ws_next ?_)⟩
  -- sums and products of rows
  refine ws_seq (ws_for (vs := [12]) (sw_seq (w_var rfl ⟨_, .inl rfl, fun i Γ O k => ∃ y z, Γ = [.pen, .is (.int (many : Int)), .is (.int most), .is (rD rows), .is (.str kept), .is (.int (lrk rows : Int)), .is (tD (ngt rows many)), x7, .is (iD ns), y, x10, .is (iD (shr ns)), z, .no, .no, .no, .no, .no] ∧ O = [none] ∧ k ≤ n + 30 + i, ⟨_, _, rfl, rfl, by omega⟩, ?_, ?_⟩)))
  · rintro i x _ _ k3 hx ⟨y, z, rfl, rfl, hk3⟩
    have hil := (List.getElem?_eq_some_iff.mp hx).1
    rw [List.length_map] at hil
    obtain ⟨r, hr, rfl⟩ := List.mem_map.mp (List.mem_of_getElem? hx)
    have hR6 := hM.1
    have rl := hM.2.2.1 r hr
    have rb : Bd 8000 r := (hM.2.2.2 r hr).le (by decide)
    refine gw_name (by simp) ?_
    refine ws_seq (ws_asg (w_op (w_callP rfl (wa_cons (w_int (wa_nil ⟨9, rfl, ⟨by decide, n9⟩, by omega, ?_⟩))))))
    rintro _ ⟨b0, rfl, b1, b2⟩
    refine w_int (ow_minus ?_)
    refine ws_seq (ws_if ?_)
    walk_at "dlx"
    refine ⟨(r, ns), rfl, ⟨by show r.length ≤ 1000; omega, rb, nb8⟩, ?_⟩
    rintro _ rfl
    walk_at "dlx"
    refine ⟨(true, r, ns), rfl, ⟨by show r.length ≤ 1000; omega, rb, nb8⟩, ?_⟩
    rintro _ rfl
    refine ow_neI ⟨_, rfl, no_cut rfl ?_⟩
    walk_at "dlx"
    refine ⟨rfl, (ns, r), rfl, ⟨by show ns.length ≤ 1000; omega, nb8, rb⟩, ?_⟩
    rintro _ rfl
    walk_at "dlx"
    refine ⟨(true, r, ns), rfl, ⟨by show r.length ≤ 1000; omega, rb, nb8⟩, ?_⟩
    rintro _ rfl
    refine ow_neI ⟨_, rfl, no_cut ?_ ?_⟩
    · show dotF ns r = dotF r ns
      unfold dotF
      congr 1
      rw [List.zipWith_comm]
      congr 1
      funext x y
      exact Int.mul_comm _ _
    walk_at "dlx"
    refine ⟨(r, ns, b0 - 4), rfl, ⟨by show r.length ≤ 1000; omega, rb, nb8, by show (b0 - 4).natAbs < 2 ^ 60; omega⟩, ?_⟩
    rintro _ rfl
    refine wa_nil (cw_tupT ?_)
    refine w_cb (wa_cons (w_of_wl (lc_zip (xs := r) (ys := ns) (g := fun x y => x + (b0 - 4) * y) (by omega) (wa_cons (w_var rfl (wa_cons (w_var rfl (wa_nil ⟨rfl, .inl rfl⟩))))) (fun x hx y hy => ?_) (by decide) ?_)))
    · walk_at "dlx"
      refine ow_timesI (mul_okL (by omega) (by omega)) (ow_plusI ⟨rfl, rfl⟩)
    refine wa_nil (cw_tupL (ne_tI ?_))
    refine ⟨_, rfl, no_cut rfl (ws_next ?_)⟩
    refine ws_if ?_
    walk_at "dlx"
    refine ⟨rfl, (ns, r, 1), rfl, ⟨by show ns.length ≤ 1000; omega, nb8, rb, by show (1 : Int).natAbs < 2 ^ 60; decide⟩, ?_⟩
    rintro _ rfl
    refine w_cb (wa_cons (w_of_wl (lc_zip (xs := r) (ys := ns) (g := fun x y => x + y) (by omega) (wa_cons (w_var rfl (wa_cons (w_var rfl (wa_nil ⟨rfl, .inl rfl⟩))))) (fun x hx y hy => ?_) (by decide) ?_)))
    · walk_at "dlx"
      exact ⟨rfl, rfl⟩
    refine wa_nil (cw_tupL (ne_tI ?_))
    refine ⟨_, rfl, no_cut ?_ (ws_next ⟨_, _, rfl, rfl, by omega⟩)⟩
    show addF ns r 1 = _
    rw [zipWith_one, List.zipWith_comm]
    congr 1
    funext x y
    exact Int.add_comm _ _
  rintro _ _ k4 ⟨y, z, rfl, rfl, hk4⟩
  rw [List.length_map] at hk4
  have hR6 := hM.1
  exact ws_ret (w_bl ⟨by omega, rfl⟩)
end
end K01
namespace K01
open PySem PySem.Spec PyProof.Rows L2 DL
section
variable {K : Fg}
/-- the script's first cells -/
def scr (K : Fg) (a : Addr) (xs : List V) : TE := fun σ H Q => SqL K H a xs → tSl (rCut K) (tVar 0) tNoPart (tPart (tC (.int 63))) σ H Q
theorem wl_scr {a : Addr} {ns : List Int} {Γ : List SA} {O : Own} {n : Nat} {k : List DV → Nat → Prop} (h0 : Γ[0]? = some (.is (.adr a))) (q : k ((ns.take 63).map DV.int) n) : WL K (scr K a (ns.map V.int)) Γ O n k := fun pn As H0 M H σ S Q c => fun hq => by
  obtain ⟨v, h1, h2⟩ := S.slot h0
  cases h2
  refine ⟨_, h1, 63, rfl, .inl ⟨a, ns.map V.int, rfl, hq, fun p hp => ?_⟩⟩
  have e : cutV (ns.map V.int) none (some (63 : Int)) = (ns.take 63).map V.int := by
    unfold cutV
    have e63 : HT.sIx (ns.map V.int).length (ns.map V.int).length (some (63 : Int)) = min 63 (ns.map V.int).length := HT.sIx_nat _ _ 63
    rw [e63, HT.sIx_none, List.drop_zero, Nat.sub_zero, List.map_take]
    by_cases h : 63 ≤ (ns.map V.int).length
    · rw [Nat.min_eq_left h]
    · rw [Nat.min_eq_right (by omega), List.take_of_length_le (Nat.le_refl _), List.take_of_length_le (by omega)]
  rw [e]
  exact wl_new S hp (RpL.of_ints _) c q
theorem body_pen {vs : List V} {H : Hp} {Q : VK} {E : XK} (h : sp_law_pen K vs H Q E) : t_law_pen K { nx := fun _ H' => Q .non H', rt := Q } (L2.start N_law_pen vs) H := by
  obtain ⟨M, a, ns, rfl, hq, hl, ex, c⟩ := h
  have S := enter (K := K) (N := N_law_pen) (M := M) (H := H) (vs := [.ref a]) (ds := [.adr a]) ex (.cons (.adr a) .nil)
  have w : WL K (tLst (tCons (tLc (iSeq K (scr K a (ns.map V.int))) (gName 1) tYes (tCB rInt1 (tCons (tVar 1) tNil)) [1]) (tCons (tC (.int 0)) (tCons (tC (.int 0)) tNil)))) (slotsD N_law_pen [.adr a]) [] 0 fun ds _ => ds = [iD (ns.take 63), .int 0, .int 0] := by
    refine wl_lst (wa_cons (w_of_wl (wl_lcF (α := Int) (sw_seq (w_of_wl (wl_scr rfl ⟨_, .inl rfl, ns.take 63, DV.int, DV.int, rfl, ?_, fun x _ => ?_, ?_⟩))))))
    · rw [List.length_take]; omega
    · exact gw_name (by simp) (w_cb (wa_cons (w_var rfl (wa_nil (cw_intI ⟨rfl, rfl⟩)))))
    · exact wa_cons (w_int (wa_cons (w_int (wa_nil ⟨by simp, rfl⟩))))
  have fin := w none [] _ M H _ S Q fun p us M' H' ds n' e1 S1 h1 h2 _ _ _ h5 h6 hd => by
    subst hd
    refine c p M' H' e1 (fun b o g => S1.kp b o (fun z => nomatch z) g) S1.ex h1 h2 ⟨us, ns.take 63, 0, 0, h5, h6, ?_, by decide, by decide, by decide⟩
    rw [List.length_take]; omega
  exact fin hq
theorem body_draw {vs : List V} {H : Hp} {Q : VK} {E : XK} (h : sp_law_draw K vs H Q E) : t_law_draw K { nx := fun _ H' => Q .non H', rt := Q } (L2.start N_law_draw vs) H :=
  body_own h fun m n cells at_ left hp hn hl h0 h1 h2 => rd_draw (c1 := 143212) (c2 := 15138) (c3 := 4307) (c4 := 91113) (by decide) (by decide) (by decide) (by decide) m n cells at_ left hp.1 hp.2 hn hl h0 h1 h2
def t_rest (K : Fg) : TS :=
    (tSeq (tFor (iRng1 (tCons (tC (.int 8)) tNil)) (gName 2) (tIfS (tOr (tNot (tTru K (tCall (sp_law_fractions_right K) [] E0 (tCons (tVar 1) tNil)))) (tNot (tTru K (tCall (sp_law_rows_right K) [] E0 (tCons (tVar 1) tNil))))) (tRet (tC (.bl false))) tNext))
    (tRet (tAndV (tOp (rEqA K) (tCall (sp_frac K) [] E0 (tCons (tUn (rU fun i => .int (-i)) (tC (.int 4))) (tCons (tUn (rU fun i => .int (-i)) (tC (.int 6))) tNil))) (tTup (tCons (tC (.int 2)) (tCons (tC (.int 3)) tNil)))) (tAndV (tOp (rEqA K) (tCall (sp_arranged K) [] E0 (tCons (tLst tNil) tNil)) (tLst tNil)) (tAndV (tOp (rEqA K) (tCallM 0 1 (sp_sign K) (perm [0]) E0 tNil (tCons (tUn (rU fun i => .int (-i)) (tC (.int 7))) tNil)) (tUn (rU fun i => .int (-i)) (tC (.int 1)))) (tAndV (tOp (rEqA K) (tCB (rLenA K) (tCons (tCall (sp_noughts K) [] E0 (tCons (tLst tNil) (tCons (tC (.int 2)) tNil))) tNil)) (tC (.int 2))) (tOp (rEqA K) (tCall (sp_rank_of K) [] E0 (tCons (tLst tNil) tNil)) (tC (.int 0)))))))))
theorem law_rest (a : Addr) : WS K (t_rest K) [.is (.adr a), .pen, .no] [] 0 (ED fun d => d = .bl true) := by
  unfold t_rest
  have hM0 : ∀ m, m ≤ 4 → Mat m 60 [] := fun m hm => ⟨by simp, hm, fun r hr => absurd hr (by simp), fun r hr => absurd hr (by simp)⟩
  refine ws_seq (ws_for (vs := [2]) (sw_rng1 (wa_cons (w_int (wa_nil ⟨8, rfl, by omega, by omega, fun i Γ O n => ∃ x, Γ = [.is (.adr a), .pen, x] ∧ n ≤ 200 * i, ⟨_, rfl, by omega⟩, ?_, ?_⟩)))))
  · rintro i x _ O n hx ⟨y, rfl, hn⟩
    have hi := (rngD_get hx).1
    have hi8 : i < 8 := hi
    refine gw_name (by simp) (ws_if (wt_or (wt_not (wt_tru (w_callP rfl (wa_nil ⟨(), rfl, trivial, by omega, ?_⟩))))))
    rintro _ rfl
    refine .inr (.inl ⟨true, rfl, ?_⟩)
    refine brF (wt_not (wt_tru (w_callP rfl (wa_nil ⟨(), rfl, trivial, by omega, ?_⟩))))
    rintro _ rfl
    exact .inr (.inl ⟨true, rfl, brF (ws_next ⟨_, rfl, by omega⟩)⟩)
  rintro _ O n ⟨x, rfl, hn⟩
  refine ws_ret (w_and ?_)
  walk_at "dlx"
  refine ⟨(-4, -6), rfl, ⟨by decide, nle (show (-6 : Int).natAbs < 2 ^ 3 by decide) (by decide)⟩, ?_⟩
  rintro _ rfl
  walk_at "dlx"
  refine ⟨by simp, ow_eqD (y := fD (2, 3)) (pl_fD _).shp (pl_fD (2, 3)).shp ?_⟩
  rw [eqv_fD]
  refine ⟨_, rfl, br (fun _ => ?_) (fun z => absurd (by decide) z)⟩
  walk_at "dlx"
  refine ⟨by simp, wa_nil ⟨[], rfl, ⟨by simp, fun x hx => absurd hx (by simp)⟩, ?_⟩⟩
  rintro _ ⟨L, rfl, hO, hL⟩
  have hLn : L = [] := List.length_eq_zero_iff.mp (by simpa using hL)
  subst hLn
  walk_at "dlx"
  refine ⟨by simp, ow_eqD rfl rfl ⟨_, rfl, fun _ => ?_, fun z => nomatch z⟩⟩
  walk_at "dlx"
  refine ⟨rfl, -7, rfl, trivial, ?_⟩
  rintro _ rfl
  walk_at "dlx"
  refine br (fun _ => ?_) (fun z => absurd (by decide) z)
  walk_at "dlx"
  refine ⟨by simp, ?_⟩
  walk_at "dlx"
  refine ⟨([], 2), rfl, hM0 2 (by decide), ?_⟩
  rintro _ rfl
  walk_at "dlx"
  refine br (fun _ => ?_) (fun z => absurd (by decide) z)
  walk_at "dlx"
  refine ⟨by simp, wa_nil ⟨[], rfl, ⟨0, hM0 0 (by decide)⟩, ?_⟩⟩
  rintro _ rfl
  walk_at "dlx"
  rfl
theorem body_law {vs : List V} {H : Hp} {Q : VK} {E : XK} (h : sp_law K vs H Q E) : t_law K { nx := fun _ H' => Q .non H', rt := Q } (L2.start N_law vs) H := by
  obtain ⟨a, ns, rfl, hq, hl, c⟩ := h
  refine ⟨.ref a, rfl, H, a, ns, rfl, hq, hl, Evl.Ex.refl H, fun p M' H' e1 eh ex hp hpH pen => ?_⟩
  have S2 : Sta K (some p) [] ⟨H', fun _ => False⟩ M' H' ((L2.start N_law [.ref a]).set 1 (some (.ref p))) [.is (.adr a), .pen, .no] [] 0 := by
    refine ⟨⟨ex, fun b o _ g => g, fun q hq => by cases hq; exact ⟨hp, pen⟩⟩, fun j b ds h => by simp at h, fun b hb => by simp at hb, fun b hb => hb.elim, List.nodup_nil, rfl, rfl, fun i s hi => ?_⟩
    match i, hi with
    | 0, hi => cases hi; exact ⟨.ref a, rfl, .adr a⟩
    | 1, hi => cases hi; exact ⟨p, rfl, rfl⟩
    | 2, hi => cases hi; exact True.intro
    | i + 3, hi => simp at hi
  refine law_rest a (some p) [] ⟨H', fun _ => False⟩ M' H' _ { nx := fun _ H' => Q .non H', rt := Q } S2 ⟨fun _ _ _ _ _ _ _ _ _ _ q => (nomatch q), fun _ v M2 H2 _ _ _ d _ _ _ _ r q => ?_, fun _ _ _ _ _ _ _ _ _ _ q => q.elim, fun _ _ _ _ _ _ _ _ _ _ q => q.elim⟩
  have q' : d = .bl true := q
  subst q'
  rw [r.bl']
  exact c H2
end
end K01
namespace K01
open PySem PySem.Spec PyProof.Rows L2 DL
theorem len_frac {K : Fg} (vs : List V) (H : Hp) (Q : VK) (E : XK) (h : sp_frac K vs H Q E) : vs.length = P_frac.length := by
  obtain ⟨M, a, _, _, r, _⟩ := h
  exact r.length
theorem ok_frac {P : Program} {w : World} {K : Fg} {mg : Str → Option Value} {base : Heap} (T : Txt K mg) : Has P w K mg base 1 "frac" s_frac P_frac (sp_frac K) :=
  T.a_frac.has sc_frac len_frac fun f cdv A outer s H vs Q E hr hG h => ⟨t_frac K, d_frac T  hr hG, body_D h (fun a hp => rd_frac a hp)⟩
theorem len_is_frac {K : Fg} (vs : List V) (H : Hp) (Q : VK) (E : XK) (h : sp_is_frac K vs H Q E) : vs.length = P_is_frac.length := by
  obtain ⟨M, a, _, _, r, _⟩ := h
  exact r.length
theorem ok_is_frac {P : Program} {w : World} {K : Fg} {mg : Str → Option Value} {base : Heap} (T : Txt K mg) : Has P w K mg base 1 "is_frac" s_is_frac P_is_frac (sp_is_frac K) :=
  T.a_is_frac.has sc_is_frac len_is_frac fun f cdv A outer s H vs Q E hr hG h => ⟨t_is_frac K, d_is_frac T  hr hG, body_D h (fun a hp => rd_is_frac a hp)⟩
theorem len_compare {K : Fg} (vs : List V) (H : Hp) (Q : VK) (E : XK) (h : sp_compare K vs H Q E) : vs.length = P_compare.length := by
  obtain ⟨M, a, _, _, r, _⟩ := h
  exact r.length
theorem ok_compare {P : Program} {w : World} {K : Fg} {mg : Str → Option Value} {base : Heap} (T : Txt K mg) : Has P w K mg base 1 "compare" s_compare P_compare (sp_compare K) :=
  T.a_compare.has sc_compare len_compare fun f cdv A outer s H vs Q E hr hG h => ⟨t_compare K, d_compare T  hr hG, body_D h (fun a hp => rd_compare a hp)⟩
theorem len_gcd_of {K : Fg} (vs : List V) (H : Hp) (Q : VK) (E : XK) (h : sp_gcd_of K vs H Q E) : vs.length = P_gcd_of.length := by
  obtain ⟨M, a, _, _, r, _⟩ := h
  exact r.length
theorem ok_gcd_of {P : Program} {w : World} {K : Fg} {mg : Str → Option Value} {base : Heap} (T : Txt K mg) : Has P w K mg base 1 "gcd_of" s_gcd_of P_gcd_of (sp_gcd_of K) :=
  T.a_gcd_of.has sc_gcd_of len_gcd_of fun f cdv A outer s H vs Q E hr hG h => ⟨t_gcd_of K, d_gcd_of T  hr hG, body_D h (fun a hp => rd_gcd_of a hp)⟩
theorem len_sign {K : Fg} (vs : List V) (H : Hp) (Q : VK) (E : XK) (h : sp_sign K vs H Q E) : vs.length = P_sign.length := by
  obtain ⟨M, a, _, _, r, _⟩ := h
  exact r.length
theorem ok_sign {P : Program} {w : World} {K : Fg} {mg : Str → Option Value} {base : Heap} (T : Txt K mg) : Has P w K mg base 1 "sign" s_sign P_sign (sp_sign K) :=
  T.a_sign.has sc_sign len_sign fun f cdv A outer s H vs Q E hr hG h => ⟨t_sign K, d_sign T  hr hG, body_D h (fun a hp => rd_sign a hp)⟩
theorem len_product {K : Fg} (vs : List V) (H : Hp) (Q : VK) (E : XK) (h : sp_product K vs H Q E) : vs.length = P_product.length := by
  obtain ⟨M, a, _, _, r, _⟩ := h
  exact r.length
theorem ok_product {P : Program} {w : World} {K : Fg} {mg : Str → Option Value} {base : Heap} (T : Txt K mg) : Has P w K mg base 1 "product" s_product P_product (sp_product K) :=
  T.a_product.has sc_product len_product fun f cdv A outer s H vs Q E hr hG h => ⟨t_product K, d_product T  hr hG, body_D h (fun a hp => rd_product a hp)⟩
theorem len_added {K : Fg} (vs : List V) (H : Hp) (Q : VK) (E : XK) (h : sp_added K vs H Q E) : vs.length = P_added.length := by
  obtain ⟨M, a, _, _, r, _⟩ := h
  exact r.length
theorem ok_added {P : Program} {w : World} {K : Fg} {mg : Str → Option Value} {base : Heap} (T : Txt K mg) : Has P w K mg base 1 "added" s_added P_added (sp_added K) :=
  T.a_added.has sc_added len_added fun f cdv A outer s H vs Q E hr hG h => ⟨t_added K, d_added T  hr hG, body_D h (fun a hp => rd_added a hp)⟩
theorem len_cleared {K : Fg} (vs : List V) (H : Hp) (Q : VK) (E : XK) (h : sp_cleared K vs H Q E) : vs.length = P_cleared.length := by
  obtain ⟨M, a, _, _, r, _⟩ := h
  exact r.length
theorem ok_cleared {P : Program} {w : World} {K : Fg} {mg : Str → Option Value} {base : Heap} (T : Txt K mg) : Has P w K mg base 1 "cleared" s_cleared P_cleared (sp_cleared K) :=
  T.a_cleared.has sc_cleared len_cleared fun f cdv A outer s H vs Q E hr hG h => ⟨t_cleared K, d_cleared T  hr hG, body_D h (fun a hp => rd_cleared a hp)⟩
theorem len_law_pen {K : Fg} (vs : List V) (H : Hp) (Q : VK) (E : XK) (h : sp_law_pen K vs H Q E) : vs.length = P_law_pen.length := by
  obtain ⟨M, a, ns, rfl, _⟩ := h
  rfl
theorem ok_law_pen {P : Program} {w : World} {K : Fg} {mg : Str → Option Value} {base : Heap} (T : Txt K mg) : Has P w K mg base 1 "_law_pen" s_law_pen P_law_pen (sp_law_pen K) :=
  T.a_law_pen.has sc_law_pen len_law_pen fun f cdv A outer s H vs Q E hr hG h => ⟨t_law_pen K, d_law_pen T  hr hG, body_pen h⟩
theorem len_law_draw {K : Fg} (vs : List V) (H : Hp) (Q : VK) (E : XK) (h : sp_law_draw K vs H Q E) : vs.length = P_law_draw.length := by
  obtain ⟨p, us, M, n, a, _, rfl, _, _, _, _, r, _⟩ := h
  exact congrArg (· + 1) r.length
theorem ok_law_draw {P : Program} {w : World} {K : Fg} {mg : Str → Option Value} {base : Heap} (T : Txt K mg) : Has P w K mg base 1 "_law_draw" s_law_draw P_law_draw (sp_law_draw K) :=
  T.a_law_draw.has sc_law_draw len_law_draw fun f cdv A outer s H vs Q E hr hG h => ⟨t_law_draw K, d_law_draw T  hr hG, body_draw h⟩
theorem len_law_gcd {K : Fg} (vs : List V) (H : Hp) (Q : VK) (E : XK) (h : sp_law_gcd K vs H Q E) : vs.length = P_law_gcd.length := by
  obtain ⟨M, a, _, _, r, _⟩ := h
  exact r.length
theorem ok_law_gcd {P : Program} {w : World} {K : Fg} {mg : Str → Option Value} {base : Heap} (T : Txt K mg) : Has P w K mg base 1 "_law_gcd" s_law_gcd P_law_gcd (sp_law_gcd K) :=
  T.a_law_gcd.has sc_law_gcd len_law_gcd fun f cdv A outer s H vs Q E hr hG h => ⟨t_law_gcd K, d_law_gcd T  hr hG, body_D h (fun a hp => rd_law_gcd a hp)⟩
theorem len_law_sign {K : Fg} (vs : List V) (H : Hp) (Q : VK) (E : XK) (h : sp_law_sign K vs H Q E) : vs.length = P_law_sign.length := by
  obtain ⟨M, a, _, _, r, _⟩ := h
  exact r.length
theorem ok_law_sign {P : Program} {w : World} {K : Fg} {mg : Str → Option Value} {base : Heap} (T : Txt K mg) : Has P w K mg base 1 "_law_sign" s_law_sign P_law_sign (sp_law_sign K) :=
  T.a_law_sign.has sc_law_sign len_law_sign fun f cdv A outer s H vs Q E hr hG h => ⟨t_law_sign K, d_law_sign T  hr hG, body_D h (fun a hp => rd_law_sign a hp)⟩
theorem len_law_dot {K : Fg} (vs : List V) (H : Hp) (Q : VK) (E : XK) (h : sp_law_dot K vs H Q E) : vs.length = P_law_dot.length := by
  obtain ⟨M, a, _, _, r, _⟩ := h
  exact r.length
theorem ok_law_dot {P : Program} {w : World} {K : Fg} {mg : Str → Option Value} {base : Heap} (T : Txt K mg) : Has P w K mg base 1 "_law_dot" s_law_dot P_law_dot (sp_law_dot K) :=
  T.a_law_dot.has sc_law_dot len_law_dot fun f cdv A outer s H vs Q E hr hG h => ⟨t_law_dot K, d_law_dot T  hr hG, body_D h (fun a hp => rd_law_dot a hp)⟩
theorem len_law_rank {K : Fg} (vs : List V) (H : Hp) (Q : VK) (E : XK) (h : sp_law_rank K vs H Q E) : vs.length = P_law_rank.length := by
  obtain ⟨M, a, _, _, r, _⟩ := h
  exact r.length
theorem ok_law_rank {P : Program} {w : World} {K : Fg} {mg : Str → Option Value} {base : Heap} (T : Txt K mg) : Has P w K mg base 1 "_law_rank" s_law_rank P_law_rank (sp_law_rank K) :=
  T.a_law_rank.has sc_law_rank len_law_rank fun f cdv A outer s H vs Q E hr hG h => ⟨t_law_rank K, d_law_rank T  hr hG, body_D h (fun a hp => rd_law_rank a hp)⟩
theorem len_plus {K : Fg} (vs : List V) (H : Hp) (Q : VK) (E : XK) (h : sp_plus K vs H Q E) : vs.length = P_plus.length := by
  obtain ⟨M, a, _, _, r, _⟩ := h
  exact r.length
theorem ok_plus {P : Program} {w : World} {K : Fg} {mg : Str → Option Value} {base : Heap} (T : Txt K mg) : Has P w K mg base 2 "plus" s_plus P_plus (sp_plus K) :=
  T.a_plus.has sc_plus len_plus fun f cdv A outer s H vs Q E hr hG h => ⟨t_plus K, d_plus T (ok_frac T) hr hG, body_D h (fun a hp => rd_plus a hp)⟩
theorem len_minus {K : Fg} (vs : List V) (H : Hp) (Q : VK) (E : XK) (h : sp_minus K vs H Q E) : vs.length = P_minus.length := by
  obtain ⟨M, a, _, _, r, _⟩ := h
  exact r.length
theorem ok_minus {P : Program} {w : World} {K : Fg} {mg : Str → Option Value} {base : Heap} (T : Txt K mg) : Has P w K mg base 2 "minus" s_minus P_minus (sp_minus K) :=
  T.a_minus.has sc_minus len_minus fun f cdv A outer s H vs Q E hr hG h => ⟨t_minus K, d_minus T (ok_frac T) hr hG, body_D h (fun a hp => rd_minus a hp)⟩
theorem len_times {K : Fg} (vs : List V) (H : Hp) (Q : VK) (E : XK) (h : sp_times K vs H Q E) : vs.length = P_times.length := by
  obtain ⟨M, a, _, _, r, _⟩ := h
  exact r.length
theorem ok_times {P : Program} {w : World} {K : Fg} {mg : Str → Option Value} {base : Heap} (T : Txt K mg) : Has P w K mg base 2 "times" s_times P_times (sp_times K) :=
  T.a_times.has sc_times len_times fun f cdv A outer s H vs Q E hr hG h => ⟨t_times K, d_times T (ok_frac T) hr hG, body_D h (fun a hp => rd_times a hp)⟩
theorem len_over {K : Fg} (vs : List V) (H : Hp) (Q : VK) (E : XK) (h : sp_over K vs H Q E) : vs.length = P_over.length := by
  obtain ⟨M, a, _, _, r, _⟩ := h
  exact r.length
theorem ok_over {P : Program} {w : World} {K : Fg} {mg : Str → Option Value} {base : Heap} (T : Txt K mg) : Has P w K mg base 2 "over" s_over P_over (sp_over K) :=
  T.a_over.has sc_over len_over fun f cdv A outer s H vs Q E hr hG h => ⟨t_over K, d_over T (ok_frac T) hr hG, body_D h (fun a hp => rd_over a hp)⟩
theorem len_arranged {K : Fg} (vs : List V) (H : Hp) (Q : VK) (E : XK) (h : sp_arranged K vs H Q E) : vs.length = P_arranged.length := by
  obtain ⟨M, a, _, _, r, _⟩ := h
  exact r.length
theorem ok_arranged {P : Program} {w : World} {K : Fg} {mg : Str → Option Value} {base : Heap} (T : Txt K mg) : Has P w K mg base 2 "arranged" s_arranged P_arranged (sp_arranged K) :=
  T.a_arranged.has sc_arranged len_arranged fun f cdv A outer s H vs Q E hr hG h => ⟨t_arranged K, d_arranged T (ok_compare T) hr hG, body_D h (fun a hp => rd_arranged a hp)⟩
theorem len_between {K : Fg} (vs : List V) (H : Hp) (Q : VK) (E : XK) (h : sp_between K vs H Q E) : vs.length = P_between.length := by
  obtain ⟨M, a, _, _, r, _⟩ := h
  exact r.length
theorem ok_between {P : Program} {w : World} {K : Fg} {mg : Str → Option Value} {base : Heap} (T : Txt K mg) : Has P w K mg base 2 "between" s_between P_between (sp_between K) :=
  T.a_between.has sc_between len_between fun f cdv A outer s H vs Q E hr hG h => ⟨t_between K, d_between T (ok_frac T) hr hG, body_D h (fun a hp => rd_between a hp)⟩
theorem len_shrunk {K : Fg} (vs : List V) (H : Hp) (Q : VK) (E : XK) (h : sp_shrunk K vs H Q E) : vs.length = P_shrunk.length := by
  obtain ⟨M, a, _, _, r, _⟩ := h
  exact r.length
theorem ok_shrunk {P : Program} {w : World} {K : Fg} {mg : Str → Option Value} {base : Heap} (T : Txt K mg) : Has P w K mg base 2 "shrunk" s_shrunk P_shrunk (sp_shrunk K) :=
  T.a_shrunk.has sc_shrunk len_shrunk fun f cdv A outer s H vs Q E hr hG h => ⟨t_shrunk K, d_shrunk T (ok_gcd_of T) hr hG, body_D h (fun a hp => rd_shrunk a hp)⟩
theorem len_stepped {K : Fg} (vs : List V) (H : Hp) (Q : VK) (E : XK) (h : sp_stepped K vs H Q E) : vs.length = P_stepped.length := by
  obtain ⟨M, a, _, _, r, _⟩ := h
  exact r.length
theorem ok_stepped {P : Program} {w : World} {K : Fg} {mg : Str → Option Value} {base : Heap} (T : Txt K mg) : Has P w K mg base 2 "stepped" s_stepped P_stepped (sp_stepped K) :=
  T.a_stepped.has sc_stepped len_stepped fun f cdv A outer s H vs Q E hr hG h => ⟨t_stepped K, d_stepped T (ok_cleared T) hr hG, body_D h (fun a hp => rd_stepped a hp)⟩
theorem len_law_pick {K : Fg} (vs : List V) (H : Hp) (Q : VK) (E : XK) (h : sp_law_pick K vs H Q E) : vs.length = P_law_pick.length := by
  obtain ⟨p, us, M, n, a, _, rfl, _, _, _, _, r, _⟩ := h
  exact congrArg (· + 1) r.length
theorem ok_law_pick {P : Program} {w : World} {K : Fg} {mg : Str → Option Value} {base : Heap} (T : Txt K mg) : Has P w K mg base 2 "_law_pick" s_law_pick P_law_pick (sp_law_pick K) :=
  T.a_law_pick.has sc_law_pick len_law_pick fun f cdv A outer s H vs Q E hr hG h => ⟨t_law_pick K, d_law_pick T (ok_law_draw T) hr hG, body_P h (fun a n hp hn => rd_law_pick a n hp hn)⟩
theorem len_law_frac {K : Fg} (vs : List V) (H : Hp) (Q : VK) (E : XK) (h : sp_law_frac K vs H Q E) : vs.length = P_law_frac.length := by
  obtain ⟨M, a, _, _, r, _⟩ := h
  exact r.length
theorem ok_law_frac {P : Program} {w : World} {K : Fg} {mg : Str → Option Value} {base : Heap} (T : Txt K mg) : Has P w K mg base 2 "_law_frac" s_law_frac P_law_frac (sp_law_frac K) :=
  T.a_law_frac.has sc_law_frac len_law_frac fun f cdv A outer s H vs Q E hr hG h => ⟨t_law_frac K, d_law_frac T (ok_law_gcd T) hr hG, body_D h (fun a hp => rd_law_frac a hp)⟩
theorem len_law_than {K : Fg} (vs : List V) (H : Hp) (Q : VK) (E : XK) (h : sp_law_than K vs H Q E) : vs.length = P_law_than.length := by
  obtain ⟨M, a, _, _, r, _⟩ := h
  exact r.length
theorem ok_law_than {P : Program} {w : World} {K : Fg} {mg : Str → Option Value} {base : Heap} (T : Txt K mg) : Has P w K mg base 2 "_law_than" s_law_than P_law_than (sp_law_than K) :=
  T.a_law_than.has sc_law_than len_law_than fun f cdv A outer s H vs Q E hr hG h => ⟨t_law_than K, d_law_than T (ok_law_sign T) hr hG, body_D h (fun a hp => rd_law_than a hp)⟩
theorem len_rank_of {K : Fg} (vs : List V) (H : Hp) (Q : VK) (E : XK) (h : sp_rank_of K vs H Q E) : vs.length = P_rank_of.length := by
  obtain ⟨M, a, _, _, r, _⟩ := h
  exact r.length
theorem ok_rank_of {P : Program} {w : World} {K : Fg} {mg : Str → Option Value} {base : Heap} (T : Txt K mg) : Has P w K mg base 3 "rank_of" s_rank_of P_rank_of (sp_rank_of K) :=
  T.a_rank_of.has sc_rank_of len_rank_of fun f cdv A outer s H vs Q E hr hG h => ⟨t_rank_of K, d_rank_of T (ok_stepped T) hr hG, body_D h (fun a hp => rd_rank_of a hp)⟩
theorem len_noughts {K : Fg} (vs : List V) (H : Hp) (Q : VK) (E : XK) (h : sp_noughts K vs H Q E) : vs.length = P_noughts.length := by
  obtain ⟨M, a, _, _, r, _⟩ := h
  exact r.length
theorem ok_noughts {P : Program} {w : World} {K : Fg} {mg : Str → Option Value} {base : Heap} (T : Txt K mg) : Has P w K mg base 3 "noughts" s_noughts P_noughts (sp_noughts K) :=
  T.a_noughts.has sc_noughts len_noughts fun f cdv A outer s H vs Q E hr hG h => ⟨t_noughts K, d_noughts T (ok_shrunk T) (ok_stepped T) hr hG, body_D h (fun a hp => rd_noughts a hp)⟩
theorem len_law_plus {K : Fg} (vs : List V) (H : Hp) (Q : VK) (E : XK) (h : sp_law_plus K vs H Q E) : vs.length = P_law_plus.length := by
  obtain ⟨M, a, _, _, r, _⟩ := h
  exact r.length
theorem ok_law_plus {P : Program} {w : World} {K : Fg} {mg : Str → Option Value} {base : Heap} (T : Txt K mg) : Has P w K mg base 3 "_law_plus" s_law_plus P_law_plus (sp_law_plus K) :=
  T.a_law_plus.has sc_law_plus len_law_plus fun f cdv A outer s H vs Q E hr hG h => ⟨t_law_plus K, d_law_plus T (ok_law_frac T) hr hG, body_D h (fun a hp => rd_law_plus a hp)⟩
theorem len_law_times {K : Fg} (vs : List V) (H : Hp) (Q : VK) (E : XK) (h : sp_law_times K vs H Q E) : vs.length = P_law_times.length := by
  obtain ⟨M, a, _, _, r, _⟩ := h
  exact r.length
theorem ok_law_times {P : Program} {w : World} {K : Fg} {mg : Str → Option Value} {base : Heap} (T : Txt K mg) : Has P w K mg base 3 "_law_times" s_law_times P_law_times (sp_law_times K) :=
  T.a_law_times.has sc_law_times len_law_times fun f cdv A outer s H vs Q E hr hG h => ⟨t_law_times K, d_law_times T (ok_law_frac T) hr hG, body_D h (fun a hp => rd_law_times a hp)⟩
theorem len_law_order {K : Fg} (vs : List V) (H : Hp) (Q : VK) (E : XK) (h : sp_law_order K vs H Q E) : vs.length = P_law_order.length := by
  obtain ⟨M, a, _, _, r, _⟩ := h
  exact r.length
theorem ok_law_order {P : Program} {w : World} {K : Fg} {mg : Str → Option Value} {base : Heap} (T : Txt K mg) : Has P w K mg base 3 "_law_order" s_law_order P_law_order (sp_law_order K) :=
  T.a_law_order.has sc_law_order len_law_order fun f cdv A outer s H vs Q E hr hG h => ⟨t_law_order K, d_law_order T (ok_law_than T) hr hG, body_D h (fun a hp => rd_law_order a hp)⟩
theorem len_law_drawn {K : Fg} (vs : List V) (H : Hp) (Q : VK) (E : XK) (h : sp_law_drawn K vs H Q E) : vs.length = P_law_drawn.length := by
  obtain ⟨p, us, M, n, a, _, rfl, _, _, _, _, r, _⟩ := h
  exact congrArg (· + 1) r.length
theorem ok_law_drawn {P : Program} {w : World} {K : Fg} {mg : Str → Option Value} {base : Heap} (T : Txt K mg) : Has P w K mg base 3 "_law_drawn" s_law_drawn P_law_drawn (sp_law_drawn K) :=
  T.a_law_drawn.has sc_law_drawn len_law_drawn fun f cdv A outer s H vs Q E hr hG h => ⟨t_law_drawn K, d_law_drawn T (ok_law_draw T) (ok_law_pick T) (ok_law_frac T) hr hG, body_P h (fun a n hp hn => rd_law_drawn a n hp hn)⟩
theorem len_law_fractions_right {K : Fg} (vs : List V) (H : Hp) (Q : VK) (E : XK) (h : sp_law_fractions_right K vs H Q E) : vs.length = P_law_fractions_right.length := by
  obtain ⟨p, us, M, n, a, _, rfl, _, _, _, _, r, _⟩ := h
  exact congrArg (· + 1) r.length
theorem ok_law_fractions_right {P : Program} {w : World} {K : Fg} {mg : Str → Option Value} {base : Heap} (T : Txt K mg) : Has P w K mg base 4 "_law_fractions_right" s_law_fractions_right P_law_fractions_right (sp_law_fractions_right K) :=
  T.a_law_fractions_right.has sc_law_fractions_right len_law_fractions_right fun f cdv A outer s H vs Q E hr hG h => ⟨t_law_fractions_right K, d_law_fractions_right T (ok_frac T) (ok_is_frac T) (ok_plus T) (ok_minus T) (ok_times T) (ok_over T) (ok_compare T) (ok_arranged T) (ok_between T) (ok_law_draw T) (ok_law_pick T) (ok_law_frac T) (ok_law_plus T) (ok_law_times T) (ok_law_than T) (ok_law_order T) (ok_law_drawn T) hr hG, body_P h (fun a n hp hn => rd_law_fractions_right a n hp hn)⟩
theorem len_law_rows_right {K : Fg} (vs : List V) (H : Hp) (Q : VK) (E : XK) (h : sp_law_rows_right K vs H Q E) : vs.length = P_law_rows_right.length := by
  obtain ⟨p, us, M, n, a, _, rfl, _, _, _, _, r, _⟩ := h
  exact congrArg (· + 1) r.length
theorem ok_law_rows_right {P : Program} {w : World} {K : Fg} {mg : Str → Option Value} {base : Heap} (T : Txt K mg) : Has P w K mg base 4 "_law_rows_right" s_law_rows_right P_law_rows_right (sp_law_rows_right K) :=
  T.a_law_rows_right.has sc_law_rows_right len_law_rows_right fun f cdv A outer s H vs Q E hr hG h => ⟨t_law_rows_right K, d_law_rows_right T (ok_gcd_of T) (ok_shrunk T) (ok_sign T) (ok_product T) (ok_added T) (ok_rank_of T) (ok_noughts T) (ok_law_draw T) (ok_law_pick T) (ok_law_gcd T) (ok_law_sign T) (ok_law_dot T) (ok_law_rank T) hr hG, body_P h (fun a n hp hn => rd_law_rows_right a n hp hn)⟩
theorem len_law {K : Fg} (vs : List V) (H : Hp) (Q : VK) (E : XK) (h : sp_law K vs H Q E) : vs.length = P_law.length := by
  obtain ⟨a, ns, rfl, _⟩ := h
  rfl
theorem law_F {P : Program} {w : World} {K : Fg} {mg : Str → Option Value} {fa : Addr} (T : Txt K mg) (hmg : mg "law" = some (.ref fa)) :
    ∃ fd : FuncData, (∀ (s : Shared) (u : Value), BindsTo s fd ⟨[u], []⟩ [("script", u)]) ∧ ∀ base : Heap, K.In base → base.Ns mainGlobals mg → FnG P w K mg base CX0 5 fa fd ["script"] (sp_law K) := by
  obtain ⟨f, fd, F, hm, bi⟩ := T.a_law.ex
  rw [hm] at hmg
  cases hmg
  have hF : ∀ base : Heap, FnG P w K mg base CX0 5 fa fd ["script"] (sp_law K) := fun base => fnG_fun F sc_law len_law fun cdv A outer s H vs Q E hr hG h => ⟨t_law K, (d_law (base := base) T (ok_frac T) (ok_arranged T) (ok_sign T) (ok_rank_of T) (ok_noughts T) (ok_law_pen T) (ok_law_fractions_right T) (ok_law_rows_right T) hr hG).nox, body_law h⟩
  obtain ⟨oc, od, kV, doc, pm, an, cdv, ct, osl, rfl, lk, hcd⟩ := F.ex
  exact ⟨_, fun s u => .of_eq rfl, fun base _ _ => hF base⟩
theorem at_mk {K : Fg} {h : Heap} {mg : Str → Option Value} {x : Str} {st : Stmt} {ps : List Str} {f : Addr} {oc : Value} {od an : Option Addr} {osl : Array (Option Value)} {kV doc pm cdv ct : Value} (X : K.In h) (G : h.Ns mainGlobals mg)
    (a : PySem.W.nsIn K mainGlobals x = some (some (.ref f))) (l : K.lookup f = some ⟨oc, od, .func (PySem.W.fnOf x x (defArgs st) (defBody st) (defScope st) .none kV doc pm an cdv ct), osl⟩) (c : PySem.W.codeIn K cdv x = true) (k : PySem.W.keepIn K (.ref f) = true)
    (hb : ∀ (kV doc pm : Value) (an : Option Addr) (cdv ct : Value) (us : List Value), us.length = ps.length → bindArgs (PySem.W.fnOf x x (defArgs st) (defBody st) (defScope st) .none kV doc pm an cdv ct) ⟨us, []⟩ = pure (ps.zip us)) : At K mg x st ps :=
  ⟨f, _, fun_mk l c k, PySem.W.mg_of X G a, (fun_mk l c k).binds hb⟩
theorem law_walk {l : PySem.W.OpenLaw} {q : Program} {loose : List Str} {XP : (Str → Option Value) → Heap → Prop} {YP : World → Heap → Prop} {d : DefRec} {K : Params → Fg} (hn : l.most = some 63) (hdf : d.params.defaults = []) (hY : ∀ (w : World) (h : Heap), YP w h → (K w.params).In h) (hd : d.name = "law")
    (T : ∀ (w : World) (mg : Str → Option Value) (h : Heap), (K w.params).In h → h.Ns mainGlobals mg → Txt (K w.params) mg) :
    PySem.W.WalkO q loose XP YP l.row.toRowW d [] (fun f vs => PySem.call f vs) :=
  walkG (n := 63) (k := 5) (x := "script") (CX := CX0) (sp := fun K => sp_law K) hn (by decide) hdf ⟨rfl, by decide, by decide⟩ hY (fun w mg fa h KX G hmg => law_F (T w mg h KX G) (by rw [← hd]; exact hmg))
    (fun K H a ns hl _ hS => ⟨a, ns, rfl, hS, by omega, fun _ => rfl⟩) fun _ _ _ _ z => z
end K01
open PySem PySem.W PyProof.Rows in
set_option maxRecDepth 100000 in
set_option maxHeartbeats 0 in
theorem PySem.Challenge.cw_slidercuts_k01_fractions_and_rows_holds : PySem.Challenge.rw_slidercuts_k01_fractions_and_rows.Holds := by
  w_on; o_law; k_head; (case hw => w_witness2)
  k_fill
  refine K01.law_walk (l := PySem.Challenge.rw_slidercuts_k01_fractions_and_rows) rfl rfl (fun w h Y => PySem.W.kIn_of Y) rfl ?T
  case T =>
    intro w mg h KX G
    refine' K01.Txt.mk ?a_frac ?a_is_frac ?a_plus ?a_minus ?a_times ?a_over ?a_compare ?a_arranged ?a_between ?a_gcd_of ?a_shrunk ?a_sign ?a_product ?a_added ?a_stepped ?a_cleared ?a_rank_of ?a_noughts ?a_law_pen ?a_law_draw ?a_law_pick ?a_law_gcd ?a_law_frac ?a_law_plus ?a_law_times ?a_law_sign ?a_law_than ?a_law_order ?a_law_dot ?a_law_drawn ?a_law_fractions_right ?a_law_rank ?a_law_rows_right ?a_law ?n_abs ?n_all ?n_bool ?n_enumerate ?n_int ?n_isinstance ?n_len ?n_list ?n_range ?n_repr ?n_sum ?n_tuple ?n_zip ?m_gcd
    (case a_frac => refine' K01.at_mk KX G ?a ?l ?c ?k (fun _ _ _ _ _ _ us hl => match us, hl with | [_, _], _ => rfl); (case a => k_is); (case l => k_is); (case c => k_is); (case k => k_is))
    (case a_is_frac => refine' K01.at_mk KX G ?a ?l ?c ?k (fun _ _ _ _ _ _ us hl => match us, hl with | [_], _ => rfl); (case a => k_is); (case l => k_is); (case c => k_is); (case k => k_is))
    (case a_plus => refine' K01.at_mk KX G ?a ?l ?c ?k (fun _ _ _ _ _ _ us hl => match us, hl with | [_, _], _ => rfl); (case a => k_is); (case l => k_is); (case c => k_is); (case k => k_is))
    (case a_minus => refine' K01.at_mk KX G ?a ?l ?c ?k (fun _ _ _ _ _ _ us hl => match us, hl with | [_, _], _ => rfl); (case a => k_is); (case l => k_is); (case c => k_is); (case k => k_is))
    (case a_times => refine' K01.at_mk KX G ?a ?l ?c ?k (fun _ _ _ _ _ _ us hl => match us, hl with | [_, _], _ => rfl); (case a => k_is); (case l => k_is); (case c => k_is); (case k => k_is))
    (case a_over => refine' K01.at_mk KX G ?a ?l ?c ?k (fun _ _ _ _ _ _ us hl => match us, hl with | [_, _], _ => rfl); (case a => k_is); (case l => k_is); (case c => k_is); (case k => k_is))
    (case a_compare => refine' K01.at_mk KX G ?a ?l ?c ?k (fun _ _ _ _ _ _ us hl => match us, hl with | [_, _], _ => rfl); (case a => k_is); (case l => k_is); (case c => k_is); (case k => k_is))
    (case a_arranged => refine' K01.at_mk KX G ?a ?l ?c ?k (fun _ _ _ _ _ _ us hl => match us, hl with | [_], _ => rfl); (case a => k_is); (case l => k_is); (case c => k_is); (case k => k_is))
    (case a_between => refine' K01.at_mk KX G ?a ?l ?c ?k (fun _ _ _ _ _ _ us hl => match us, hl with | [_, _], _ => rfl); (case a => k_is); (case l => k_is); (case c => k_is); (case k => k_is))
    (case a_gcd_of => refine' K01.at_mk KX G ?a ?l ?c ?k (fun _ _ _ _ _ _ us hl => match us, hl with | [_], _ => rfl); (case a => k_is); (case l => k_is); (case c => k_is); (case k => k_is))
    (case a_shrunk => refine' K01.at_mk KX G ?a ?l ?c ?k (fun _ _ _ _ _ _ us hl => match us, hl with | [_], _ => rfl); (case a => k_is); (case l => k_is); (case c => k_is); (case k => k_is))
    (case a_sign => refine' K01.at_mk KX G ?a ?l ?c ?k (fun _ _ _ _ _ _ us hl => match us, hl with | [_], _ => rfl); (case a => k_is); (case l => k_is); (case c => k_is); (case k => k_is))
    (case a_product => refine' K01.at_mk KX G ?a ?l ?c ?k (fun _ _ _ _ _ _ us hl => match us, hl with | [_, _], _ => rfl); (case a => k_is); (case l => k_is); (case c => k_is); (case k => k_is))
    (case a_added => refine' K01.at_mk KX G ?a ?l ?c ?k (fun _ _ _ _ _ _ us hl => match us, hl with | [_, _, _], _ => rfl); (case a => k_is); (case l => k_is); (case c => k_is); (case k => k_is))
    (case a_stepped => refine' K01.at_mk KX G ?a ?l ?c ?k (fun _ _ _ _ _ _ us hl => match us, hl with | [_], _ => rfl); (case a => k_is); (case l => k_is); (case c => k_is); (case k => k_is))
    (case a_cleared => refine' K01.at_mk KX G ?a ?l ?c ?k (fun _ _ _ _ _ _ us hl => match us, hl with | [_, _, _, _], _ => rfl); (case a => k_is); (case l => k_is); (case c => k_is); (case k => k_is))
    (case a_rank_of => refine' K01.at_mk KX G ?a ?l ?c ?k (fun _ _ _ _ _ _ us hl => match us, hl with | [_], _ => rfl); (case a => k_is); (case l => k_is); (case c => k_is); (case k => k_is))
    (case a_noughts => refine' K01.at_mk KX G ?a ?l ?c ?k (fun _ _ _ _ _ _ us hl => match us, hl with | [_, _], _ => rfl); (case a => k_is); (case l => k_is); (case c => k_is); (case k => k_is))
    (case a_law_pen => refine' K01.at_mk KX G ?a ?l ?c ?k (fun _ _ _ _ _ _ us hl => match us, hl with | [_], _ => rfl); (case a => k_is); (case l => k_is); (case c => k_is); (case k => k_is))
    (case a_law_draw => refine' K01.at_mk KX G ?a ?l ?c ?k (fun _ _ _ _ _ _ us hl => match us, hl with | [_, _], _ => rfl); (case a => k_is); (case l => k_is); (case c => k_is); (case k => k_is))
    (case a_law_pick => refine' K01.at_mk KX G ?a ?l ?c ?k (fun _ _ _ _ _ _ us hl => match us, hl with | [_, _], _ => rfl); (case a => k_is); (case l => k_is); (case c => k_is); (case k => k_is))
    (case a_law_gcd => refine' K01.at_mk KX G ?a ?l ?c ?k (fun _ _ _ _ _ _ us hl => match us, hl with | [_, _], _ => rfl); (case a => k_is); (case l => k_is); (case c => k_is); (case k => k_is))
    (case a_law_frac => refine' K01.at_mk KX G ?a ?l ?c ?k (fun _ _ _ _ _ _ us hl => match us, hl with | [_, _], _ => rfl); (case a => k_is); (case l => k_is); (case c => k_is); (case k => k_is))
    (case a_law_plus => refine' K01.at_mk KX G ?a ?l ?c ?k (fun _ _ _ _ _ _ us hl => match us, hl with | [_, _], _ => rfl); (case a => k_is); (case l => k_is); (case c => k_is); (case k => k_is))
    (case a_law_times => refine' K01.at_mk KX G ?a ?l ?c ?k (fun _ _ _ _ _ _ us hl => match us, hl with | [_, _], _ => rfl); (case a => k_is); (case l => k_is); (case c => k_is); (case k => k_is))
    (case a_law_sign => refine' K01.at_mk KX G ?a ?l ?c ?k (fun _ _ _ _ _ _ us hl => match us, hl with | [_], _ => rfl); (case a => k_is); (case l => k_is); (case c => k_is); (case k => k_is))
    (case a_law_than => refine' K01.at_mk KX G ?a ?l ?c ?k (fun _ _ _ _ _ _ us hl => match us, hl with | [_, _], _ => rfl); (case a => k_is); (case l => k_is); (case c => k_is); (case k => k_is))
    (case a_law_order => refine' K01.at_mk KX G ?a ?l ?c ?k (fun _ _ _ _ _ _ us hl => match us, hl with | [_], _ => rfl); (case a => k_is); (case l => k_is); (case c => k_is); (case k => k_is))
    (case a_law_dot => refine' K01.at_mk KX G ?a ?l ?c ?k (fun _ _ _ _ _ _ us hl => match us, hl with | [_, _], _ => rfl); (case a => k_is); (case l => k_is); (case c => k_is); (case k => k_is))
    (case a_law_drawn => refine' K01.at_mk KX G ?a ?l ?c ?k (fun _ _ _ _ _ _ us hl => match us, hl with | [_], _ => rfl); (case a => k_is); (case l => k_is); (case c => k_is); (case k => k_is))
    (case a_law_fractions_right => refine' K01.at_mk KX G ?a ?l ?c ?k (fun _ _ _ _ _ _ us hl => match us, hl with | [_], _ => rfl); (case a => k_is); (case l => k_is); (case c => k_is); (case k => k_is))
    (case a_law_rank => refine' K01.at_mk KX G ?a ?l ?c ?k (fun _ _ _ _ _ _ us hl => match us, hl with | [_], _ => rfl); (case a => k_is); (case l => k_is); (case c => k_is); (case k => k_is))
    (case a_law_rows_right => refine' K01.at_mk KX G ?a ?l ?c ?k (fun _ _ _ _ _ _ us hl => match us, hl with | [_], _ => rfl); (case a => k_is); (case l => k_is); (case c => k_is); (case k => k_is))
    (case a_law => refine' K01.at_mk KX G ?a ?l ?c ?k (fun _ _ _ _ _ _ us hl => match us, hl with | [_], _ => rfl); (case a => k_is); (case l => k_is); (case c => k_is); (case k => k_is))
    (case n_abs => refine' PySem.W.mg_none_of KX G ?a; (case a => k_is))
    (case n_all => refine' PySem.W.mg_none_of KX G ?a; (case a => k_is))
    (case n_bool => refine' PySem.W.mg_none_of KX G ?a; (case a => k_is))
    (case n_enumerate => refine' PySem.W.mg_none_of KX G ?a; (case a => k_is))
    (case n_int => refine' PySem.W.mg_none_of KX G ?a; (case a => k_is))
    (case n_isinstance => refine' PySem.W.mg_none_of KX G ?a; (case a => k_is))
    (case n_len => refine' PySem.W.mg_none_of KX G ?a; (case a => k_is))
    (case n_list => refine' PySem.W.mg_none_of KX G ?a; (case a => k_is))
    (case n_range => refine' PySem.W.mg_none_of KX G ?a; (case a => k_is))
    (case n_repr => refine' PySem.W.mg_none_of KX G ?a; (case a => k_is))
    (case n_sum => refine' PySem.W.mg_none_of KX G ?a; (case a => k_is))
    (case n_tuple => refine' PySem.W.mg_none_of KX G ?a; (case a => k_is))
    (case n_zip => refine' PySem.W.mg_none_of KX G ?a; (case a => k_is))
    (case m_gcd => refine' PySem.W.mg_of KX G ?a; (case a => k_is))
