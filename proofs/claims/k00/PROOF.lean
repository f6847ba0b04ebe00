import PyProof.Rows.All
import Wide.All
import OpenK.AllK
import Wide.FinOn
import HandS.ForMost
import HandS.Evl
import HandS.Wide
import HandS.Gcd
import HandS.ExcInit
import HandS.IsInst
import HandS.TupMul
import HandS.TupAny
import HandS.Zip
import HandS.More
import HandS.Ends
import PyProof.ReprRoads
import HandS.Defaults
import HandS.Style
import HandS.Dict
import KE.GoesZip
import KE.GoesMore
import KE.GoesEnum
import HandS.Nested
import HandS.ExcSuper
import KE.KExcSuper
import KE.KSuper
import HandS.MakeKw
import HandS.ExcIs
import HandS.ExcField
import KE.KTypeName
import HandS.DeepEq
import HandS.Star
import PySem.Challenge.RW_slidercuts_k00_errors_and_papers
set_option Elab.async false
set_option linter.all false
set_option maxRecDepth 100000
set_option maxHeartbeats 4100000
/-! DL: data as it is seen by a proof; slots, own lists and the pen as ghosts; wishes over them -/
namespace DL
open PySem PySem.Spec PyProof.Rows L2
abbrev Fg := PySem.W.Frag
abbrev Ex := Evl.Ex
/-- data -/
inductive DV where
  | non | bl (b : Bool) | int (i : Int) | str (x : Str) | ty (n : String) | adr (a : Addr)
  | tup (xs : List DV) | lst (xs : List DV)
  | ins (C : Addr) (ns : List Str) (vs : List DV)
  | dic (ks : List Key) (vs : List DV)
  | exc (C : Addr) (ns : List Str) (vs : List DV)
mutual
inductive Rp (K : Fg) (M : Hp) : V → DV → Prop
  | non : Rp K M .non .non
  | bl (b : Bool) : Rp K M (.bl b) (.bl b)
  | int (i : Int) : Rp K M (.int i) (.int i)
  | str (x : Str) : Rp K M (.str x) (.str x)
  | ty (x : String) : Rp K M (.ty x) (.ty x)
  | adr (a : Addr) : Rp K M (.ref a) (.adr a)
  | tup {a : Addr} {vs : List V} {ds : List DV} : SqT K M a vs → RpL K M vs ds → Rp K M (.ref a) (.tup ds)
  | lst {a : Addr} {vs : List V} {ds : List DV} : M a = some (.lst vs) → RpL K M vs ds → Rp K M (.ref a) (.lst ds)
  | ins {a C dx : Addr} {fs : List (Str × V)} {ns : List Str} {ds : List DV} : M a = some (.ins C dx fs) → fs.map (·.1) = ns → RpL K M (fs.map (·.2)) ds → Rp K M (.ref a) (.ins C ns ds)
  | dic {a : Addr} {kvs : List (Key × V)} {ks : List Key} {ds : List DV} : M a = some (.dK kvs) → kvs.map (·.1) = ks → RpL K M (kvs.map (·.2)) ds → Rp K M (.ref a) (.dic ks ds)
  | exc {a C dx : Addr} {fs : List (Str × V)} {ns : List Str} {ds : List DV} : M a = some (exo a C (some dx)) → M dx = some (exd dx fs) → fs.map (·.1) = ns → RpL K M (fs.map (·.2)) ds → Rp K M (.ref a) (.exc C ns ds)
inductive RpL (K : Fg) (M : Hp) : List V → List DV → Prop
  | nil : RpL K M [] []
  | cons {v : V} {vs : List V} {d : DV} {ds : List DV} : Rp K M v d → RpL K M vs ds → RpL K M (v :: vs) (d :: ds)
end
section
variable {K : Fg} {M M' : Hp}
mutual
theorem Rp.mono (e : Ex M M') : ∀ {d : DV} {v : V}, Rp K M v d → Rp K M' v d
  | .non, _, h => by cases h; exact .non
  | .bl b, _, h => by cases h; exact .bl b
  | .int i, _, h => by cases h; exact .int i
  | .str i, _, h => by cases h; exact .str i
  | .ty i, _, h => by cases h; exact .ty i
  | .adr i, _, h => by cases h; exact .adr i
  | .tup ds, _, h => by
    cases h with
    | tup a b => exact .tup (Evl.ex_t e a) (RpL.mono e b)
  | .lst ds, _, h => by
    cases h with
    | lst a b => exact .lst (e _ _ a) (RpL.mono e b)
  | .ins C ns ds, _, h => by
    cases h with
    | ins a b c => exact .ins (e _ _ a) b (RpL.mono e c)
  | .dic ks ds, _, h => by
    cases h with
    | dic a b c => exact .dic (e _ _ a) b (RpL.mono e c)
  | .exc C ns ds, _, h => by
    cases h with
    | exc a b c f => exact .exc (e _ _ a) (e _ _ b) c (RpL.mono e f)
theorem RpL.mono (e : Ex M M') : ∀ {ds : List DV} {vs : List V}, RpL K M vs ds → RpL K M' vs ds
  | [], _, h => by cases h; exact .nil
  | d :: ds, _, h => by
    cases h with
    | cons a b => exact .cons (Rp.mono e a) (RpL.mono e b)
end
theorem RpL.length : ∀ {ds : List DV} {vs : List V}, RpL K M vs ds → vs.length = ds.length
  | [], _, h => by cases h; rfl
  | d :: ds, _, h => by
    cases h with
    | cons a b => simp [RpL.length b]
theorem RpL.get : ∀ {ds : List DV} {vs : List V} {i : Nat} {v : V}, RpL K M vs ds → vs[i]? = some v → ∃ d, ds[i]? = some d ∧ Rp K M v d
  | [], _, _, _, h, e => by cases h; simp at e
  | d :: ds, _, 0, v, h, e => by
    cases h with
    | cons a b => simp at e; subst e; exact ⟨d, rfl, a⟩
  | d :: ds, _, i + 1, v, h, e => by
    cases h with
    | cons a b => simpa using RpL.get b (by simpa using e)
theorem RpL.get' : ∀ {ds : List DV} {vs : List V} {i : Nat} {d : DV}, RpL K M vs ds → ds[i]? = some d → ∃ v, vs[i]? = some v ∧ Rp K M v d
  | [], _, _, _, h, e => by simp at e
  | d :: ds, _, 0, _, h, e => by
    cases h with
    | cons a b => simp at e; subst e; exact ⟨_, rfl, a⟩
  | d :: ds, _, i + 1, v, h, e => by
    cases h with
    | cons a b => simpa using RpL.get' b (by simpa using e)
theorem RpL.append : ∀ {ds es : List DV} {vs ws : List V}, RpL K M vs ds → RpL K M ws es → RpL K M (vs ++ ws) (ds ++ es)
  | [], _, _, _, h, h2 => by cases h; exact h2
  | d :: ds, _, _, _, h, h2 => by
    cases h with
    | cons a b => exact .cons a (RpL.append b h2)
theorem RpL.set {d : DV} {v : V} (r : Rp K M v d) : ∀ {ds : List DV} {vs : List V} (i : Nat), RpL K M vs ds → RpL K M (vs.set i v) (ds.set i d)
  | [], _, _, h => by cases h; exact .nil
  | _ :: _, _, 0, h => by
    cases h with
    | cons a b => exact .cons r b
  | _ :: _, _, i + 1, h => by
    cases h with
    | cons a b => exact .cons a (RpL.set r i b)
theorem RpL.drop : ∀ {ds : List DV} {vs : List V} (i : Nat), RpL K M vs ds → RpL K M (vs.drop i) (ds.drop i)
  | _, _, 0, h => h
  | [], _, _ + 1, h => by cases h; exact .nil
  | _ :: _, _, i + 1, h => by
    cases h with
    | cons a b => exact RpL.drop i b
theorem RpL.take : ∀ {ds : List DV} {vs : List V} (i : Nat), RpL K M vs ds → RpL K M (vs.take i) (ds.take i)
  | _, _, 0, h => by simpa using RpL.nil
  | [], _, _ + 1, h => by cases h; exact .nil
  | _ :: _, _, i + 1, h => by
    cases h with
    | cons a b => exact .cons a (RpL.take i b)
theorem RpL.ints : ∀ {ns : List Int} {vs : List V}, RpL K M vs (ns.map DV.int) → vs = ns.map V.int
  | [], _, h => by cases h; rfl
  | n :: ns, _, h => by
    cases h with
    | cons a b => cases a; rw [RpL.ints b]; rfl
theorem RpL.bools : ∀ {ns : List Bool} {vs : List V}, RpL K M vs (ns.map DV.bl) → vs = ns.map V.bl
  | [], _, h => by cases h; rfl
  | n :: ns, _, h => by
    cases h with
    | cons a b => cases a; rw [RpL.bools b]; rfl
theorem RpL.of_ints : ∀ (ns : List Int), RpL K M (ns.map V.int) (ns.map DV.int)
  | [] => .nil
  | n :: ns => .cons (.int n) (RpL.of_ints ns)
theorem Rp.lst' {v : V} {ds : List DV} (h : Rp K M v (.lst ds)) : ∃ a vs, v = .ref a ∧ M a = some (.lst vs) ∧ RpL K M vs ds := by
  cases h with
  | lst a b => exact ⟨_, _, rfl, a, b⟩
theorem Rp.tup' {v : V} {ds : List DV} (h : Rp K M v (.tup ds)) : ∃ a vs, v = .ref a ∧ SqT K M a vs ∧ RpL K M vs ds := by
  cases h with
  | tup a b => exact ⟨_, _, rfl, a, b⟩
theorem Rp.int' {v : V} {i : Int} (h : Rp K M v (.int i)) : v = .int i := by cases h; rfl
theorem Rp.bl' {v : V} {i : Bool} (h : Rp K M v (.bl i)) : v = .bl i := by cases h; rfl
theorem Rp.str' {v : V} {i : Str} (h : Rp K M v (.str i)) : v = .str i := by cases h; rfl
end
/-- what a slot is known to hold: nothing, data, the j-th own list, the pen -/
inductive SA where
  | no | is (d : DV) | own (j : Nat) | pen
def SlotOk (K : Fg) (pn : Option Addr) (As : List Addr) (M : Hp) : SA → Option V → Prop
  | .no, _ => True
  | .is d, o => ∃ v, o = some v ∧ Rp K M v d
  | .own j, o => ∃ a, As[j]? = some a ∧ o = some (.ref a)
  | .pen, o => ∃ p, pn = some p ∧ o = some (.ref p)
/-- the pen: the cells, the next index (at most n), what is left -/
def PenAt (K : Fg) (M H : Hp) (p : Addr) (n : Nat) : Prop := ∃ (vs : List V) (cells : List Int) (at_ left : Int), H p = some (.lst vs) ∧ RpL K M vs [.lst (cells.map DV.int), .int at_, .int left] ∧ cells.length ≤ 63 ∧ 0 ≤ at_ ∧ at_ ≤ n ∧ 0 ≤ left
theorem PenAt.mono {K : Fg} {M M' H H' : Hp} {p : Addr} {n m : Nat} (h : PenAt K M H p n) (e : Ex M M') (hp : H' p = H p) (hn : n ≤ m) : PenAt K M' H' p m := by
  obtain ⟨vs, cells, a, l, h1, h2, h3, h4, h5, h6⟩ := h
  exact ⟨vs, cells, a, l, hp.trans h1, h2.mono e, h3, h4, by omega, h6⟩
/-- what stood at the entry; what is not to be frozen -/
structure Ent where
  h : Hp
  P : Addr → Prop
instance : CoeFun Ent (fun _ => Hp) := ⟨Ent.h⟩
/-- what a def owes its caller -/
structure Fin (K : Fg) (pn : Option Addr) (H0 : Ent) (M H : Hp) (n : Nat) : Prop where
  ex : Ex M H
  kp : ∀ a o, some a ≠ pn → H0 a = some o → H a = some o
  pen : ∀ p, pn = some p → M p = none ∧ PenAt K M H p n
abbrev Own := List (Option (List DV))
structure Sta (K : Fg) (pn : Option Addr) (As : List Addr) (H0 : Ent) (M H : Hp) (σ : L2.St) (Γ : List SA) (O : Own) (n : Nat) : Prop extends Fin K pn H0 M H n where
  own : ∀ (j : Nat) (a : Addr) (ds : List DV), As[j]? = some a → O[j]? = some (some ds) → M a = none ∧ H0 a = none ∧ some a ≠ pn ∧ ∃ vs, H a = some (.lst vs) ∧ RpL K M vs ds
  live : ∀ a, a ∈ As → H a ≠ none
  pr : ∀ a, H0.P a → M a = none ∧ H a ≠ none ∧ H0 a ≠ none
  nd : As.Nodup
  len : As.length = O.length
  sl : σ.length = Γ.length
  ok : ∀ (i : Nat) (t : SA), Γ[i]? = some t → SlotOk K pn As M t (σ[i]?.join)
section
variable {K : Fg} {pn : Option Addr} {As : List Addr} {H0 : Ent} {M M' H H' : Hp} {σ : L2.St} {Γ : List SA} {O : Own} {n m : Nat}
theorem SlotOk.mono {t : SA} {o : Option V} (e : Ex M M') (h : SlotOk K pn As M t o) : SlotOk K pn As M' t o := by
  cases t with
  | no => exact True.intro
  | is d => obtain ⟨v, h1, h2⟩ := h; exact ⟨v, h1, h2.mono e⟩
  | own j => exact h
  | pen => exact h
theorem upd_live {a p : Addr} {o : HO} (h : H a ≠ none) : upd H p o a ≠ none := by
  by_cases e : a = p
  · subst e; rw [upd_same]; exact fun z => by cases z
  · rw [upd_ne e]; exact h
theorem upd_live' {p : Addr} {o : HO} : upd H p o p ≠ none := by rw [upd_same]; exact fun z => by cases z
/-- a new object, frozen at once -/
theorem Sta.alloc (S : Sta K pn As H0 M H σ Γ O n) {p : Addr} {o : HO} (hp : H p = none) : Ex M (upd M p o) ∧ Sta K pn As H0 (upd M p o) (upd H p o) σ Γ O n := by
  have hM : M p = none := Evl.fresh_back S.ex hp
  have e : Ex M (upd M p o) := Evl.Ex.new hM
  refine ⟨e, ⟨⟨fun a u h => ?_, fun a u h1 h2 => ?_, fun q hq => ?_⟩, fun j a ds h1 h2 => ?_, fun a h => ?_, fun a h => ?_, S.nd, S.len, S.sl, fun i t h => (S.ok i t h).mono e⟩⟩
  · by_cases h1 : a = p
    · subst h1; rw [upd_same] at h ⊢; exact h
    · rw [upd_ne h1] at h ⊢; exact S.ex a u h
  · have h3 := S.kp a u h1 h2
    rw [upd_ne (ne_of_none h3 hp)]; exact h3
  · obtain ⟨h1, h2⟩ := S.pen q hq
    have hne : q ≠ p := by
      obtain ⟨_, _, _, _, h3, _⟩ := h2
      exact ne_of_none h3 hp
    exact ⟨by rw [upd_ne hne]; exact h1, h2.mono e (by rw [upd_ne hne]) (Nat.le_refl _)⟩
  · obtain ⟨h3, h4, h5, vs, h6, h7⟩ := S.own j a ds h1 h2
    have hne : a ≠ p := ne_of_none h6 hp
    exact ⟨by rw [upd_ne hne]; exact h3, h4, h5, vs, by rw [upd_ne hne]; exact h6, h7.mono e⟩
  · exact upd_live (S.live a h)
  · obtain ⟨h1, h2, h3⟩ := S.pr a h
    exact ⟨by rw [upd_ne (show a ≠ p from fun z => h2 (by rw [z]; exact hp))]; exact h1, upd_live h2, h3⟩
/-- a new object, not frozen -/
theorem Sta.lay (S : Sta K pn As H0 M H σ Γ O n) {p : Addr} {o : HO} (hp : H p = none) : Sta K pn As H0 M (upd H p o) σ Γ O n := by
  refine ⟨⟨fun a u h => ?_, fun a u h1 h2 => ?_, fun q hq => ?_⟩, fun j a ds h1 h2 => ?_, fun a h => upd_live (S.live a h), fun a h => ⟨(S.pr a h).1, upd_live (S.pr a h).2.1, (S.pr a h).2.2⟩, S.nd, S.len, S.sl, S.ok⟩
  · have h3 := S.ex a u h
    rw [upd_ne (ne_of_none h3 hp)]; exact h3
  · have h3 := S.kp a u h1 h2
    rw [upd_ne (ne_of_none h3 hp)]; exact h3
  · obtain ⟨h1, h2⟩ := S.pen q hq
    have hne : q ≠ p := by
      obtain ⟨_, _, _, _, h3, _⟩ := h2
      exact ne_of_none h3 hp
    exact ⟨h1, h2.mono (Evl.Ex.refl _) (by rw [upd_ne hne]) (Nat.le_refl _)⟩
  · obtain ⟨h3, h4, h5, vs, h6, h7⟩ := S.own j a ds h1 h2
    have hne : a ≠ p := ne_of_none h6 hp
    exact ⟨h3, h4, h5, vs, by rw [upd_ne hne]; exact h6, h7⟩
end
end DL
namespace DL
open PySem PySem.Spec PyProof.Rows L2
/-! wishes over data -/
section defs
variable (K : Fg)
def W (te : TE) (Γ : List SA) (O : Own) (n : Nat) (k : DV → Nat → Prop) : Prop :=
  ∀ (pn : Option Addr) (As : List Addr) (H0 : Ent) (M H : Hp) (σ : L2.St), Sta K pn As H0 M H σ Γ O n → ∀ Q : VK,
    (∀ v M' H' d n', Ex M M' → Sta K pn As H0 M' H' σ Γ O n' → Rp K M' v d → k d n' → Q v H') → te σ H Q
/-- a new list, nobody else's -/
def WL (te : TE) (Γ : List SA) (O : Own) (n : Nat) (k : List DV → Nat → Prop) : Prop :=
  ∀ (pn : Option Addr) (As : List Addr) (H0 : Ent) (M H : Hp) (σ : L2.St), Sta K pn As H0 M H σ Γ O n → ∀ Q : VK,
    (∀ p vs M' H' ds n', Ex M M' → Sta K pn As H0 M' H' σ Γ O n' → M' p = none → H0 p = none → some p ≠ pn → p ∉ As → ¬ H0.P p → H' p = some (.lst vs) → RpL K M' vs ds → k ds n' → Q (.ref p) H') → te σ H Q
def WT (tt : TT) (Γ : List SA) (O : Own) (n : Nat) (k : Bool → Nat → Prop) : Prop :=
  ∀ (pn : Option Addr) (As : List Addr) (H0 : Ent) (M H : Hp) (σ : L2.St), Sta K pn As H0 M H σ Γ O n → ∀ Q : Bool → Hp → Prop,
    (∀ b M' H' n', Ex M M' → Sta K pn As H0 M' H' σ Γ O n' → k b n' → Q b H') → tt σ H Q
def WA (ta : TA) (Γ : List SA) (O : Own) (n : Nat) (k : List DV → Nat → Prop) : Prop :=
  ∀ (pn : Option Addr) (As : List Addr) (H0 : Ent) (M H : Hp) (σ : L2.St), Sta K pn As H0 M H σ Γ O n → ∀ Q : List V → Hp → Prop,
    (∀ vs M' H' ds n', Ex M M' → Sta K pn As H0 M' H' σ Γ O n' → RpL K M' vs ds → k ds n' → Q vs H') → ta σ H Q
def WO (to : TO) (Γ : List SA) (O : Own) (n : Nat) (k : Option Int → Nat → Prop) : Prop :=
  ∀ (pn : Option Addr) (As : List Addr) (H0 : Ent) (M H : Hp) (σ : L2.St), Sta K pn As H0 M H σ Γ O n → ∀ Q : Option Int → Hp → Prop,
    (∀ o M' H' n', Ex M M' → Sta K pn As H0 M' H' σ Γ O n' → k o n' → Q o H') → to σ H Q
/-- an operation on two data -/
def OW (r : R2) (x y : DV) (k : DV → Prop) : Prop :=
  ∀ (pn : Option Addr) (As : List Addr) (H0 : Ent) (M H : Hp) (σ : L2.St) (Γ : List SA) (O : Own) (n : Nat), Sta K pn As H0 M H σ Γ O n → ∀ v w, Rp K M v x → Rp K M w y → ∀ Q : VK,
    (∀ u M' H' d, Ex M M' → Sta K pn As H0 M' H' σ Γ O n → Rp K M' u d → k d → Q u H') → r v w H Q
def OWL (r : R2) (x y : DV) (k : List DV → Prop) : Prop :=
  ∀ (pn : Option Addr) (As : List Addr) (H0 : Ent) (M H : Hp) (σ : L2.St) (Γ : List SA) (O : Own) (n : Nat), Sta K pn As H0 M H σ Γ O n → ∀ v w, Rp K M v x → Rp K M w y → ∀ Q : VK,
    (∀ p vs M' H' ds, Ex M M' → Sta K pn As H0 M' H' σ Γ O n → M' p = none → H0 p = none → some p ≠ pn → p ∉ As → ¬ H0.P p → H' p = some (.lst vs) → RpL K M' vs ds → k ds → Q (.ref p) H') → r v w H Q
def UW (r : V → Hp → VK → Prop) (x : DV) (k : DV → Prop) : Prop :=
  ∀ (M H : Hp) v, Ex M H → Rp K M v x → ∀ Q : VK, (∀ u d, Rp K M u d → k d → Q u H) → r v H Q
def CW (r : List V → Hp → VK → Prop) (xs : List DV) (k : DV → Prop) : Prop :=
  ∀ (pn : Option Addr) (As : List Addr) (H0 : Ent) (M H : Hp) (σ : L2.St) (Γ : List SA) (O : Own) (n : Nat), Sta K pn As H0 M H σ Γ O n → ∀ vs, RpL K M vs xs → ∀ Q : VK,
    (∀ u M' H' d, Ex M M' → Sta K pn As H0 M' H' σ Γ O n → Rp K M' u d → k d → Q u H') → r vs H Q
def CWL (r : List V → Hp → VK → Prop) (xs : List DV) (k : List DV → Prop) : Prop :=
  ∀ (pn : Option Addr) (As : List Addr) (H0 : Ent) (M H : Hp) (σ : L2.St) (Γ : List SA) (O : Own) (n : Nat), Sta K pn As H0 M H σ Γ O n → ∀ us, RpL K M us xs → ∀ Q : VK,
    (∀ p vs M' H' ds, Ex M M' → Sta K pn As H0 M' H' σ Γ O n → M' p = none → H0 p = none → some p ≠ pn → p ∉ As → ¬ H0.P p → H' p = some (.lst vs) → RpL K M' vs ds → k ds → Q (.ref p) H') → r us H Q
/-- a slice -/
def LW (r : V → Option Int → Option Int → Hp → VK → Prop) (x : DV) (lo hi : Option Int) (k : DV → Prop) : Prop :=
  ∀ (pn : Option Addr) (As : List Addr) (H0 : Ent) (M H : Hp) (σ : L2.St) (Γ : List SA) (O : Own) (n : Nat), Sta K pn As H0 M H σ Γ O n → ∀ v, Rp K M v x → ∀ Q : VK,
    (∀ u M' H' d, Ex M M' → Sta K pn As H0 M' H' σ Γ O n → Rp K M' u d → k d → Q u H') → r v lo hi H Q
/-- what is walked -/
def IterOk (J : It) (xs : List DV) (M0 : Hp) : Prop :=
  ∀ (pn : Option Addr) (As : List Addr) (H0 : Ent) (M H : Hp) (σ : L2.St) (Γ : List SA) (O : Own) (n : Nat), Ex M0 M → Sta K pn As H0 M H σ Γ O n → ∀ i : Nat,
    (∀ d, xs[i]? = some d → J.go i H ∧ ∀ x H', J.yld i H x H' → ∃ M', Ex M M' ∧ Sta K pn As H0 M' H' σ Γ O n ∧ Rp K M' x d) ∧ (xs.length ≤ i → J.stop i H)
def SW (wi : TI) (Γ : List SA) (O : Own) (n : Nat) (k : List DV → Nat → Prop) : Prop :=
  ∀ (pn : Option Addr) (As : List Addr) (H0 : Ent) (M H : Hp) (σ : L2.St), Sta K pn As H0 M H σ Γ O n → ∀ R : It → Hp → Prop,
    (∀ J M' H' xs n', Ex M M' → Sta K pn As H0 M' H' σ Γ O n' → IterOk K J xs M' → k xs n' → R J H') → wi σ H R
/-- a target; it stores slots of vs alone -/
def GW (g : TG) (vs : List Nat) (x : DV) (Γ : List SA) (k : List SA → Prop) : Prop :=
  ∀ (pn : Option Addr) (As : List Addr) (H0 : Ent) (M H : Hp) (σ : L2.St) (O : Own) (n : Nat), Sta K pn As H0 M H σ Γ O n → ∀ v, Rp K M v x → ∀ Q : L2.St → Hp → Prop,
    (∀ σ' Γ', Sta K pn As H0 M H σ' Γ' O n → wipe σ' vs = wipe σ vs → k Γ' → Q σ' H) → g v σ H Q
structure KE where
  nx : List SA → Own → Nat → Prop
  rt : DV → Own → Nat → Prop
  bk : List SA → Own → Nat → Prop := fun _ _ _ => False
  ct : List SA → Own → Nat → Prop := fun _ _ _ => False
/-- how a body's ends serve -/
structure Serves (pn : Option Addr) (As : List Addr) (H0 : Ent) (M : Hp) (E : KE) (D : Ends) : Prop where
  nx : ∀ As' M' H' σ Γ O n, As <+: As' → Ex M M' → Sta K pn As' H0 M' H' σ Γ O n → E.nx Γ O n → D.nx σ H'
  rt : ∀ As' v M' H' σ Γ O d n, As <+: As' → Ex M M' → Sta K pn As' H0 M' H' σ Γ O n → Rp K M' v d → E.rt d O n → D.rt v H'
  bk : ∀ As' M' H' σ Γ O n, As <+: As' → Ex M M' → Sta K pn As' H0 M' H' σ Γ O n → E.bk Γ O n → D.bk σ H'
  ct : ∀ As' M' H' σ Γ O n, As <+: As' → Ex M M' → Sta K pn As' H0 M' H' σ Γ O n → E.ct Γ O n → D.ct σ H'
def WS (ts : TS) (Γ : List SA) (O : Own) (n : Nat) (E : KE) : Prop :=
  ∀ (pn : Option Addr) (As : List Addr) (H0 : Ent) (M H : Hp) (σ : L2.St) (D : Ends), Sta K pn As H0 M H σ Γ O n → Serves K pn As H0 M E D → ts D σ H
end defs
section
variable {K : Fg} {pn : Option Addr} {As : List Addr} {H0 : Ent} {M M' H H' : Hp} {σ : L2.St} {Γ : List SA} {O : Own} {n m : Nat} {te ta tb : TE} {x y : DV}
theorem Serves.at {As' : List Addr} {E : KE} {D : Ends} (s : Serves K pn As H0 M E D) (p : As <+: As') (e : Ex M M') : Serves K pn As' H0 M' E D :=
  ⟨fun A2 M2 H' σ Γ O n q h => s.nx A2 M2 H' σ Γ O n (p.trans q) (Evl.Ex.trans e h), fun A2 v M2 H' σ Γ O d n q h => s.rt A2 v M2 H' σ Γ O d n (p.trans q) (Evl.Ex.trans e h), fun A2 M2 H' σ Γ O n q h => s.bk A2 M2 H' σ Γ O n (p.trans q) (Evl.Ex.trans e h), fun A2 M2 H' σ Γ O n q h => s.ct A2 M2 H' σ Γ O n (p.trans q) (Evl.Ex.trans e h)⟩
theorem Serves.on {E : KE} {D : Ends} (s : Serves K pn As H0 M E D) (e : Ex M M') : Serves K pn As H0 M' E D := s.at (List.prefix_refl _) e
theorem Sta.slot (S : Sta K pn As H0 M H σ Γ O n) {i : Nat} {d : DV} (h : Γ[i]? = some (.is d)) : ∃ v, σ[i]? = some (some v) ∧ Rp K M v d := by
  obtain ⟨v, h1, h2⟩ := S.ok i _ h
  refine ⟨v, ?_, h2⟩
  cases e : σ[i]? with
  | none => rw [e] at h1; cases h1
  | some o => rw [e] at h1; exact congrArg some h1
theorem Sta.slotOwn (S : Sta K pn As H0 M H σ Γ O n) {i j : Nat} {ds : List DV} (h : Γ[i]? = some (.own j)) (ho : O[j]? = some (some ds)) :
    ∃ a vs, σ[i]? = some (some (.ref a)) ∧ As[j]? = some a ∧ H a = some (.lst vs) ∧ RpL K M vs ds ∧ M a = none ∧ H0 a = none ∧ some a ≠ pn := by
  obtain ⟨a, h1, h2⟩ := S.ok i _ h
  obtain ⟨h3, h4, h5, vs, h6, h7⟩ := S.own j a ds h1 ho
  refine ⟨a, vs, ?_, h1, h6, h7, h3, h4, h5⟩
  cases e : σ[i]? with
  | none => rw [e] at h2; cases h2
  | some o => rw [e] at h2; exact congrArg some h2
theorem Sta.slotPen (S : Sta K pn As H0 M H σ Γ O n) {i : Nat} (h : Γ[i]? = some .pen) : ∃ p, σ[i]? = some (some (.ref p)) ∧ pn = some p := by
  obtain ⟨p, h1, h2⟩ := S.ok i _ h
  refine ⟨p, ?_, h1⟩
  cases e : σ[i]? with
  | none => rw [e] at h2; cases h2
  | some o => rw [e] at h2; exact congrArg some h2
/-- a slot is stored -/
theorem Sta.store (S : Sta K pn As H0 M H σ Γ O n) {i : Nat} {v : V} {d : DV} (r : Rp K M v d) : Sta K pn As H0 M H (σ.set i (some v)) (Γ.set i (.is d)) O n := by
  refine ⟨S.toFin, S.own, S.live, S.pr, S.nd, S.len, by simpa using S.sl, fun j t h => ?_⟩
  by_cases hj : i = j
  · subst hj
    have hi : i < Γ.length := by
      have := (List.getElem?_eq_some_iff.mp h).1
      simpa using this
    rw [List.getElem?_set_self hi] at h
    cases h
    rw [List.getElem?_set_self (by rw [S.sl]; exact hi)]
    exact ⟨v, rfl, r⟩
  · rw [List.getElem?_set_ne hj] at h ⊢
    exact S.ok j t h
/-! ### expressions -/
theorem w_var {i : Nat} {d : DV} {k : DV → Nat → Prop} (h : Γ[i]? = some (.is d)) (q : k d n) : W K (tVar i) Γ O n k := fun pn As H0 M H σ S Q c => by
  obtain ⟨v, h1, h2⟩ := S.slot h
  exact ⟨v, h1, c v M H d n (Evl.Ex.refl M) S h2 q⟩
theorem w_cv {v : V} {d : DV} {k : DV → Nat → Prop} (h : ∀ M, Rp K M v d) (q : k d n) : W K (tC v) Γ O n k := fun pn As H0 M H σ S Q c => c v M H d n (Evl.Ex.refl M) S (h M) q
theorem w_int {i : Int} {k : DV → Nat → Prop} (q : k (.int i) n) : W K (tC (.int i)) Γ O n k := w_cv (fun _ => .int i) q
theorem w_bl {i : Bool} {k : DV → Nat → Prop} (q : k (.bl i) n) : W K (tC (.bl i)) Γ O n k := w_cv (fun _ => .bl i) q
theorem w_str {i : Str} {k : DV → Nat → Prop} (q : k (.str i) n) : W K (tC (.str i)) Γ O n k := w_cv (fun _ => .str i) q
theorem w_non {k : DV → Nat → Prop} (q : k .non n) : W K (tC .non) Γ O n k := w_cv (fun _ => .non) q
theorem w_ty {i : String} {k : DV → Nat → Prop} (q : k (.ty i) n) : W K (tC (.ty i)) Γ O n k := w_cv (fun _ => .ty i) q
theorem w_adr {i : Addr} {k : DV → Nat → Prop} (q : k (.adr i) n) : W K (tC (.ref i)) Γ O n k := w_cv (fun _ => .adr i) q
theorem w_op {r : R2} {k : DV → Nat → Prop} (h : W K ta Γ O n fun x n1 => W K tb Γ O n1 fun y n2 => OW K r x y fun z => k z n2) : W K (tOp r ta tb) Γ O n k := fun pn As H0 M H σ S Q c =>
  h pn As H0 M H σ S _ fun v M1 H1 x n1 e1 S1 r1 q1 => q1 pn As H0 M1 H1 σ S1 _ fun w M2 H2 y n2 e2 S2 r2 q2 => q2 pn As H0 M2 H2 σ Γ O n2 S2 v w (r1.mono e2) r2 Q fun u M3 H3 d e3 S3 r3 q3 =>
    c u M3 H3 d n2 (Evl.Ex.trans (Evl.Ex.trans e1 e2) e3) S3 r3 q3
theorem wl_op {r : R2} {k : List DV → Nat → Prop} (h : W K ta Γ O n fun x n1 => W K tb Γ O n1 fun y n2 => OWL K r x y fun z => k z n2) : WL K (tOp r ta tb) Γ O n k := fun pn As H0 M H σ S Q c =>
  h pn As H0 M H σ S _ fun v M1 H1 x n1 e1 S1 r1 q1 => q1 pn As H0 M1 H1 σ S1 _ fun w M2 H2 y n2 e2 S2 r2 q2 => q2 pn As H0 M2 H2 σ Γ O n2 S2 v w (r1.mono e2) r2 Q fun p vs M3 H3 ds e3 S3 =>
    c p vs M3 H3 ds n2 (Evl.Ex.trans (Evl.Ex.trans e1 e2) e3) S3
theorem w_un {r : V → Hp → VK → Prop} {k : DV → Nat → Prop} (h : W K ta Γ O n fun x n1 => UW K r x fun z => k z n1) : W K (tUn r ta) Γ O n k := fun pn As H0 M H σ S Q c =>
  h pn As H0 M H σ S _ fun v M1 H1 x n1 e1 S1 r1 q1 => q1 M1 H1 v S1.ex r1 Q fun u d r2 q2 => c u M1 H1 d n1 e1 S1 r2 q2
/-- a new list is kept for good -/
theorem w_of_wl {k : DV → Nat → Prop} (h : WL K te Γ O n fun ds n1 => k (.lst ds) n1) : W K te Γ O n k := fun pn As H0 M H σ S Q c =>
  h pn As H0 M H σ S Q fun p vs M1 H1 ds n1 e1 S1 h1 h2 h3 h4 hP h5 h6 h7 => by
    have ex : Ex M1 (upd M1 p (.lst vs)) := Evl.Ex.new h1
    refine c (.ref p) (upd M1 p (.lst vs)) H1 (.lst ds) n1 (Evl.Ex.trans e1 ex) ⟨⟨fun a u h => ?_, S1.kp, fun q hq => ?_⟩, fun j a es g1 g2 => ?_, S1.live, fun a h => ?_, S1.nd, S1.len, S1.sl, fun i t h => (S1.ok i t h).mono ex⟩ (.lst upd_same (h6.mono ex)) h7
    · by_cases ha : a = p
      · subst ha; rw [upd_same] at h; rw [← h]; exact h5
      · rw [upd_ne ha] at h; exact S1.ex a u h
    · obtain ⟨g1, g2⟩ := S1.pen q hq
      exact ⟨by rw [upd_ne (fun z => h3 (by rw [← z, hq]))]; exact g1, g2.mono ex rfl (Nat.le_refl _)⟩
    · obtain ⟨g3, g4, g5, ws, g6, g7⟩ := S1.own j a es g1 g2
      exact ⟨by rw [upd_ne (fun z => h4 (by rw [← z]; exact List.mem_of_getElem? g1))]; exact g3, g4, g5, ws, g6, g7.mono ex⟩
    · exact ⟨by rw [upd_ne (show a ≠ p from fun z => hP (by rw [← z]; exact h))]; exact (S1.pr a h).1, (S1.pr a h).2⟩
theorem wa_nil {k : List DV → Nat → Prop} (q : k [] n) : WA K tNil Γ O n k := fun pn As H0 M H σ S Q c => c [] M H [] n (Evl.Ex.refl M) S .nil q
theorem wa_cons {tr : TA} {k : List DV → Nat → Prop} (h : W K te Γ O n fun x n1 => WA K tr Γ O n1 fun xs n2 => k (x :: xs) n2) : WA K (tCons te tr) Γ O n k := fun pn As H0 M H σ S Q c =>
  h pn As H0 M H σ S _ fun v M1 H1 x n1 e1 S1 r1 q1 => q1 pn As H0 M1 H1 σ S1 _ fun vs M2 H2 xs n2 e2 S2 r2 q2 => c (v :: vs) M2 H2 (x :: xs) n2 (Evl.Ex.trans e1 e2) S2 (.cons (r1.mono e2) r2) q2
theorem w_tup {ta : TA} {k : DV → Nat → Prop} (h : WA K ta Γ O n fun xs n1 => xs.length ≤ 100000 ∧ k (.tup xs) n1) : W K (tTup ta) Γ O n k := fun pn As H0 M H σ S Q c =>
  h pn As H0 M H σ S _ fun vs M1 H1 xs n1 e1 S1 r1 ⟨hl, q1⟩ => ⟨Evl.sz_of (by rw [r1.length]; exact hl), fun p hp => by
    obtain ⟨ex, S2⟩ := S1.alloc (o := .tup vs) hp
    exact c (.ref p) _ _ (.tup xs) n1 (Evl.Ex.trans e1 ex) S2 (.tup (.inl (.inl upd_same)) (r1.mono ex)) q1⟩
theorem wl_new {Q : VK} {k : List DV → Nat → Prop} {vs : List V} {ds : List DV} (S : Sta K pn As H0 M H σ Γ O n) {p : Addr} (hp : H p = none) (r : RpL K M vs ds)
    (c : ∀ p vs M' H' ds n', Ex M M' → Sta K pn As H0 M' H' σ Γ O n' → M' p = none → H0 p = none → some p ≠ pn → p ∉ As → ¬ H0.P p → H' p = some (.lst vs) → RpL K M' vs ds → k ds n' → Q (.ref p) H') (q : k ds n) : Q (.ref p) (upd H p (.lst vs)) := by
  refine c p vs M _ ds n (Evl.Ex.refl M) (S.lay hp) (Evl.fresh_back S.ex hp) ?_ (fun z => ?_) (fun z => ?_) (fun z => (S.pr p z).2.1 hp) upd_same r q
  · cases e : H0 p with
    | none => rfl
    | some o =>
      by_cases hpn : some p = pn
      · obtain ⟨_, _, _, _, _, h3, _⟩ := S.pen p hpn.symm
        rw [hp] at h3; cases h3
      · rw [S.kp p o hpn e] at hp; cases hp
  · obtain ⟨_, _, _, _, _, h3, _⟩ := S.pen p z.symm
    rw [hp] at h3; cases h3
  · exact S.live p z hp
end
end DL
namespace DL
open PySem PySem.Spec PyProof.Rows L2
section
variable {K : Fg} {pn : Option Addr} {As : List Addr} {H0 : Ent} {M M' H H' : Hp} {σ : L2.St} {Γ : List SA} {O : Own} {n m : Nat} {te ta tb : TE} {x y : DV}
/-! ### tests -/
def tTru (K : Fg) (ta : TE) : TT := fun σ H Q => ta σ H fun x H1 => ∃ k, TruV K x H1 k ∧ Q k H1
theorem wt_test {te : TE} {k : Bool → Nat → Prop} (h : W K te Γ O n fun d n1 => ∃ b, d = .bl b ∧ k b n1) : WT K (tTest te) Γ O n k := fun pn As H0 M H σ S Q c =>
  h pn As H0 M H σ S _ fun v M1 H1 d n1 e1 S1 r1 ⟨b, e, q⟩ => by
    subst e
    exact ⟨b, r1.bl', c b M1 H1 n1 e1 S1 q⟩
theorem wt_B {te : TE} {k : Bool → Nat → Prop} (h : W K te Γ O n fun d n1 => ∃ b, d = .bl b ∧ k b n1) : WT K (tB te) Γ O n k := fun pn As H0 M H σ S Q c =>
  h pn As H0 M H σ S _ fun v M1 H1 d n1 e1 S1 r1 ⟨b, e, q⟩ => by
    subst e
    exact ⟨b, r1.bl', c b M1 H1 n1 e1 S1 q⟩
theorem wt_and {t u : TT} {k : Bool → Nat → Prop} (h : WT K t Γ O n fun b n1 => (b = true → WT K u Γ O n1 k) ∧ (b = false → k false n1)) : WT K (tAnd t u) Γ O n k := fun pn As H0 M H σ S Q c =>
  h pn As H0 M H σ S _ fun b M1 H1 n1 e1 S1 q => by
    cases b with
    | true => exact q.1 rfl pn As H0 M1 H1 σ S1 Q fun b2 M2 H2 n2 e2 => c b2 M2 H2 n2 (Evl.Ex.trans e1 e2)
    | false => exact c false M1 H1 n1 e1 S1 (q.2 rfl)
theorem wt_or {t u : TT} {k : Bool → Nat → Prop} (h : WT K t Γ O n fun b n1 => (b = true → k true n1) ∧ (b = false → WT K u Γ O n1 k)) : WT K (tOr t u) Γ O n k := fun pn As H0 M H σ S Q c =>
  h pn As H0 M H σ S _ fun b M1 H1 n1 e1 S1 q => by
    cases b with
    | false => exact q.2 rfl pn As H0 M1 H1 σ S1 Q fun b2 M2 H2 n2 e2 => c b2 M2 H2 n2 (Evl.Ex.trans e1 e2)
    | true => exact c true M1 H1 n1 e1 S1 (q.1 rfl)
theorem wt_not {t : TT} {k : Bool → Nat → Prop} (h : WT K t Γ O n fun b n1 => k (!b) n1) : WT K (tNot t) Γ O n k := fun pn As H0 M H σ S Q c =>
  h pn As H0 M H σ S _ fun b M1 H1 n1 e1 S1 q => c (!b) M1 H1 n1 e1 S1 q
theorem wt_yes {k : Bool → Nat → Prop} (h : k true n) : WT K tYes Γ O n k := fun pn As H0 M H σ S Q c => c true M H n (Evl.Ex.refl M) S h
theorem wt_tru {te : TE} {k : Bool → Nat → Prop} (h : W K te Γ O n fun d n1 => (d = .non ∧ k false n1) ∨ (∃ b, d = .bl b ∧ k b n1) ∨ (∃ i, d = .int i ∧ k (i != 0) n1) ∨ (∃ xs, d = .lst xs ∧ k (!xs.isEmpty) n1) ∨ ∃ xs, d = .tup xs ∧ k (!xs.isEmpty) n1) : WT K (tTru K te) Γ O n k := fun pn As H0 M H σ S Q c =>
  h pn As H0 M H σ S _ fun v M1 H1 d n1 e1 S1 r1 q => by
    have em : ∀ {vs : List V} {ds : List DV}, RpL K M1 vs ds → vs.isEmpty = ds.isEmpty := fun h => by cases h <;> rfl
    rcases q with ⟨rfl, q⟩ | ⟨b, rfl, q⟩ | ⟨i, rfl, q⟩ | ⟨xs, rfl, q⟩ | ⟨xs, rfl, q⟩
    · cases r1; exact ⟨false, rfl, c _ M1 H1 n1 e1 S1 q⟩
    · cases r1; exact ⟨b, rfl, c _ M1 H1 n1 e1 S1 q⟩
    · cases r1; exact ⟨_, rfl, c _ M1 H1 n1 e1 S1 q⟩
    · obtain ⟨a, vs, rfl, h1, h2⟩ := r1.lst'
      exact ⟨_, Or.inl ⟨vs, .inl (.inl (S1.ex _ _ h1)), by rw [em h2]⟩, c _ M1 H1 n1 e1 S1 q⟩
    · obtain ⟨a, vs, rfl, h1, h2⟩ := r1.tup'
      exact ⟨_, Or.inr (.inl ⟨vs, Evl.ex_t S1.ex h1, by rw [em h2]⟩), c _ M1 H1 n1 e1 S1 q⟩
/-! ### and, or, not, if as values -/
theorem w_and {k : DV → Nat → Prop} (h : W K ta Γ O n fun d n1 => ∃ b, d = .bl b ∧ (b = true → W K tb Γ O n1 k) ∧ (b = false → k (.bl false) n1)) : W K (tAndV ta tb) Γ O n k := fun pn As H0 M H σ S Q c =>
  h pn As H0 M H σ S _ fun v M1 H1 d n1 e1 S1 r1 ⟨b, e, q⟩ => by
    subst e
    refine ⟨b, r1.bl', ?_⟩
    cases b with
    | true => exact q.1 rfl pn As H0 M1 H1 σ S1 Q fun v2 M2 H2 d2 n2 e2 => c v2 M2 H2 d2 n2 (Evl.Ex.trans e1 e2)
    | false => exact c _ M1 H1 _ n1 e1 S1 (.bl false) (q.2 rfl)
theorem w_or {k : DV → Nat → Prop} (h : W K ta Γ O n fun d n1 => ∃ b, d = .bl b ∧ (b = true → k (.bl true) n1) ∧ (b = false → W K tb Γ O n1 k)) : W K (tOrV ta tb) Γ O n k := fun pn As H0 M H σ S Q c =>
  h pn As H0 M H σ S _ fun v M1 H1 d n1 e1 S1 r1 ⟨b, e, q⟩ => by
    subst e
    refine ⟨b, r1.bl', ?_⟩
    cases b with
    | false => exact q.2 rfl pn As H0 M1 H1 σ S1 Q fun v2 M2 H2 d2 n2 e2 => c v2 M2 H2 d2 n2 (Evl.Ex.trans e1 e2)
    | true => exact c _ M1 H1 _ n1 e1 S1 (.bl true) (q.1 rfl)
theorem w_not {k : DV → Nat → Prop} (h : W K ta Γ O n fun d n1 => ∃ b, d = .bl b ∧ k (.bl (!b)) n1) : W K (tNotV ta) Γ O n k := fun pn As H0 M H σ S Q c =>
  h pn As H0 M H σ S _ fun v M1 H1 d n1 e1 S1 r1 ⟨b, e, q⟩ => by
    subst e
    exact ⟨b, r1.bl', c _ M1 H1 _ n1 e1 S1 (.bl _) q⟩
theorem w_if {t : TT} {k : DV → Nat → Prop} (h : WT K t Γ O n fun b n1 => (b = true → W K ta Γ O n1 k) ∧ (b = false → W K tb Γ O n1 k)) : W K (tIf t ta tb) Γ O n k := fun pn As H0 M H σ S Q c =>
  h pn As H0 M H σ S _ fun b M1 H1 n1 e1 S1 q => by
    cases b with
    | true => exact q.1 rfl pn As H0 M1 H1 σ S1 Q fun v2 M2 H2 d2 n2 e2 => c v2 M2 H2 d2 n2 (Evl.Ex.trans e1 e2)
    | false => exact q.2 rfl pn As H0 M1 H1 σ S1 Q fun v2 M2 H2 d2 n2 e2 => c v2 M2 H2 d2 n2 (Evl.Ex.trans e1 e2)
theorem wl_if {t : TT} {k : List DV → Nat → Prop} (h : WT K t Γ O n fun b n1 => (b = true → WL K ta Γ O n1 k) ∧ (b = false → WL K tb Γ O n1 k)) : WL K (tIf t ta tb) Γ O n k := fun pn As H0 M H σ S Q c =>
  h pn As H0 M H σ S _ fun b M1 H1 n1 e1 S1 q => by
    cases b with
    | true => exact q.1 rfl pn As H0 M1 H1 σ S1 Q fun p vs M2 H2 d2 n2 e2 => c p vs M2 H2 d2 n2 (Evl.Ex.trans e1 e2)
    | false => exact q.2 rfl pn As H0 M1 H1 σ S1 Q fun p vs M2 H2 d2 n2 e2 => c p vs M2 H2 d2 n2 (Evl.Ex.trans e1 e2)
/-! ### operations on ints -/
theorem ow_I0 {g : Int → Int → V} {gd : Int → Int → DV} {i j : Int} {k : DV → Prop} (hg : ∀ M, Rp K M (g i j) (gd i j)) (q : k (gd i j)) : OW K (rI0 g) (.int i) (.int j) k := fun pn As H0 M H σ Γ O n S v w rv rw Q c =>
  ⟨i, j, rv.int', rw.int', c _ M H _ (Evl.Ex.refl M) S (hg M) q⟩
theorem ow_I {C : Int → Int → Prop} {g : Int → Int → V} {gd : Int → Int → DV} {i j : Int} {k : DV → Prop} (hg : ∀ M, Rp K M (g i j) (gd i j)) (hc : C i j) (q : k (gd i j)) : OW K (rI C g) (.int i) (.int j) k := fun pn As H0 M H σ Γ O n S v w rv rw Q c =>
  ⟨i, j, rv.int', rw.int', hc, c _ M H _ (Evl.Ex.refl M) S (hg M) q⟩
theorem OW.l {r r' : R2} {k : DV → Prop} (h : OW K r x y k) : OW K (fun x y H Q => r x y H Q ∨ r' x y H Q) x y k := fun pn As H0 M H σ Γ O n S v w rv rw Q c => .inl (h pn As H0 M H σ Γ O n S v w rv rw Q c)
theorem OW.r {r r' : R2} {k : DV → Prop} (h : OW K r' x y k) : OW K (fun x y H Q => r x y H Q ∨ r' x y H Q) x y k := fun pn As H0 M H σ Γ O n S v w rv rw Q c => .inr (h pn As H0 M H σ Γ O n S v w rv rw Q c)
/-- a + b of any kinds that come here -/
def rPlus (K : Fg) : R2 := fun x y H Q => rI0 (fun i j => .int (i + j)) x y H Q ∨ rCat x y H Q ∨ rCatA K x y H Q
theorem op_plus {X : Cx} : OpR X (binaryOp .Add) (rPlus X.K) := op_add.or (op_cat.or op_catA)
def rMinus : R2 := rI0 (fun i j => .int (i - j))
theorem op_minus {X : Cx} : OpR X (binaryOp .Sub) rMinus := op_sub
def rMulI : R2 := rI IntMulOk fun i j => .int (i * j)
theorem op_mulI {X : Cx} : OpR X (binaryOp .Mult) rMulI := opI fun _ _ _ _ _ _ _ hc q => mul_int q hc
def rTimes (K : Fg) : R2 := fun x y H Q => rMulI x y H Q ∨ rRep x y H Q ∨ rRepT K x y H Q
theorem op_times {X : Cx} : OpR X (binaryOp .Mult) (rTimes X.K) := op_mulI.or (op_rep.or op_repT)
def CDivA (_ j : Int) : Prop := j ≠ 0 ∧ j.natAbs < 2 ^ 9000
def rFdiv : R2 := rI CDivA fun i j => .int (i.fdiv j)
theorem op_fdivA {X : Cx} : OpR X (binaryOp .FloorDiv) rFdiv := opI fun i j _ _ _ _ _ hc q =>
  floordiv_int hc.1 q (.inl (PyProof.noPylong_of_log2 (PySem.Flt.log2_lt_of (by decide) hc.2)))
def rFmod : R2 := rI (fun _ j => j ≠ 0) fun i j => .int (i.fmod j)
theorem op_fmodA {X : Cx} : OpR X (binaryOp .Mod) rFmod := op_modN
def rPow : R2 := rI CPow fun i j => .int (i ^ j.toNat)
theorem op_powA {X : Cx} : OpR X (binaryOp .Pow) rPow := op_pow
theorem ow_plusI {i j : Int} {k : DV → Prop} (q : k (.int (i + j))) : OW K (rPlus K) (.int i) (.int j) k := OW.l (ow_I0 (gd := fun i j => .int (i + j)) (fun _ => .int _) q)
theorem ow_minus {i j : Int} {k : DV → Prop} (q : k (.int (i - j))) : OW K rMinus (.int i) (.int j) k := ow_I0 (gd := fun i j => .int (i - j)) (fun _ => .int _) q
theorem ow_timesI {i j : Int} {k : DV → Prop} (h : IntMulOk i j) (q : k (.int (i * j))) : OW K (rTimes K) (.int i) (.int j) k := OW.l (ow_I (gd := fun i j => .int (i * j)) (fun _ => .int _) h q)
theorem ow_fdiv {i j : Int} {k : DV → Prop} (h : j ≠ 0) (h2 : j.natAbs < 2 ^ 9000) (q : k (.int (i.fdiv j))) : OW K rFdiv (.int i) (.int j) k := ow_I (gd := fun i j => .int (i.fdiv j)) (fun _ => .int _) ⟨h, h2⟩ q
theorem ow_fmod {i j : Int} {k : DV → Prop} (h : j ≠ 0) (q : k (.int (i.fmod j))) : OW K rFmod (.int i) (.int j) k := ow_I (gd := fun i j => .int (i.fmod j)) (fun _ => .int _) h q
theorem ow_pow {i j : Int} {k : DV → Prop} (h : CPow i j) (q : k (.int (i ^ j.toNat))) : OW K rPow (.int i) (.int j) k := ow_I (gd := fun i j => .int (i ^ j.toNat)) (fun _ => .int _) h q
theorem uw_neg {i : Int} {k : DV → Prop} (q : k (.int (-i))) : UW K (rU fun i => .int (-i)) (.int i) k := fun M H v e r Q c => ⟨i, r.int', c _ _ (.int _) q⟩
/-! comparisons of ints -/
def rLt : R2 := rI0 fun i j => .bl (decide (i < j))
def rLe : R2 := rI0 fun i j => .bl (decide (i ≤ j))
def rGt : R2 := rI0 fun i j => .bl (decide (j < i))
def rGe : R2 := rI0 fun i j => .bl (decide (j ≤ i))
theorem op_ltA {X : Cx} : OpR X (compareOp .Lt) rLt := op_lt
theorem op_leA {X : Cx} : OpR X (compareOp .LtE) rLe := op_le
theorem op_gtA {X : Cx} : OpR X (compareOp .Gt) rGt := op_gt
theorem op_geA {X : Cx} : OpR X (compareOp .GtE) rGe := op_ge
theorem ow_lt {i j : Int} {k : DV → Prop} (q : k (.bl (decide (i < j)))) : OW K rLt (.int i) (.int j) k := ow_I0 (gd := fun i j => .bl (decide (i < j))) (fun _ => .bl _) q
theorem ow_le {i j : Int} {k : DV → Prop} (q : k (.bl (decide (i ≤ j)))) : OW K rLe (.int i) (.int j) k := ow_I0 (gd := fun i j => .bl (decide (i ≤ j))) (fun _ => .bl _) q
theorem ow_gt {i j : Int} {k : DV → Prop} (q : k (.bl (decide (j < i)))) : OW K rGt (.int i) (.int j) k := ow_I0 (gd := fun i j => .bl (decide (j < i))) (fun _ => .bl _) q
theorem ow_ge {i j : Int} {k : DV → Prop} (q : k (.bl (decide (j ≤ i)))) : OW K rGe (.int i) (.int j) k := ow_I0 (gd := fun i j => .bl (decide (j ≤ i))) (fun _ => .bl _) q
end
/-! ### plain data -/
mutual
def py : DV → PyData
  | .non => .none
  | .bl b => .bool b
  | .int i => .int i
  | .str x => .str x
  | .tup ds => .tuple (pyL ds)
  | .lst ds => .list (pyL ds)
  | .ty _ => .none
  | .adr _ => .none
  | .ins _ _ _ => .none
  | .dic _ _ => .none
  | .exc _ _ _ => .none
def pyL : List DV → List PyData
  | [] => []
  | d :: ds => py d :: pyL ds
end
mutual
def isPy : DV → Bool
  | .non => true
  | .bl _ => true
  | .int _ => true
  | .str _ => true
  | .tup ds => isPyL ds
  | .lst ds => isPyL ds
  | .ty _ => false
  | .adr _ => false
  | .ins _ _ _ => false
  | .dic _ _ => false
  | .exc _ _ _ => false
def isPyL : List DV → Bool
  | [] => true
  | d :: ds => isPy d && isPyL ds
end
section
variable {K : Fg} {M H : Hp}
mutual
theorem Rp.dp (e : Ex M H) : ∀ {d : DV} {v : V}, Rp K M v d → isPy d = true → Dp K H v (py d)
  | .non, _, h, _ => by cases h; exact .non
  | .bl b, _, h, _ => by cases h; exact .bl b
  | .int i, _, h, _ => by cases h; exact .int i
  | .str i, _, h, _ => by cases h; exact .str i
  | .tup ds, _, h, p => by
    cases h with
    | tup a b => exact .tup (Evl.ex_t e a) (RpL.dp e b (by simpa [isPy] using p))
  | .lst ds, _, h, p => by
    cases h with
    | lst a b => exact .lst (.inl (.inl (e _ _ a))) (RpL.dp e b (by simpa [isPy] using p))
  | .ty _, _, _, p => by simp [isPy] at p
  | .adr _, _, _, p => by simp [isPy] at p
  | .ins _ _ _, _, _, p => by simp [isPy] at p
  | .dic _ _, _, _, p => by simp [isPy] at p
  | .exc _ _ _, _, _, p => by simp [isPy] at p
theorem RpL.dp (e : Ex M H) : ∀ {ds : List DV} {vs : List V}, RpL K M vs ds → isPyL ds = true → DpAll K H vs (pyL ds)
  | [], _, h, _ => by cases h; exact .nil
  | d :: ds, _, h, p => by
    have p' : isPy d = true ∧ isPyL ds = true := by simpa [isPyL] using p
    cases h with
    | cons a b => exact .cons (Rp.dp e a p'.1) (RpL.dp e b p'.2)
end
end
section
variable {K : Fg} {pn : Option Addr} {As : List Addr} {H0 : Ent} {M M' H H' : Hp} {σ : L2.St} {Γ : List SA} {O : Own} {n m : Nat} {te ta tb : TE} {x y : DV}
def rEqA (K : Fg) : R2 := fun x y H Q => rEq x y H Q ∨ rEqD K x y H Q
def rNeA (K : Fg) : R2 := fun x y H Q => rNe x y H Q ∨ rNeD K x y H Q
theorem op_eqA {X : Cx} (hu : X.A.units + 64 < cLine) : OpR X (compareOp .Eq) (rEqA X.K) := op_eq.or (op_eqD hu)
theorem op_neA {X : Cx} (hu : X.A.units + 64 < cLine) : OpR X (compareOp .NotEq) (rNeA X.K) := op_ne.or (op_neD hu)
theorem ow_eqI {i j : Int} {k : DV → Prop} (q : k (.bl (decide (i = j)))) : OW K (rEqA K) (.int i) (.int j) k := fun pn As H0 M H σ Γ O n S v w rv rw Q c => by
  cases rv; cases rw
  refine .inl ⟨rfl, c _ M H _ (Evl.Ex.refl M) S ?_ q⟩
  have e : decide (V.int i = V.int j) = decide (i = j) := by simp
  rw [e]; exact .bl _
theorem ow_neI {i j : Int} {k : DV → Prop} (q : k (.bl (!decide (i = j)))) : OW K (rNeA K) (.int i) (.int j) k := fun pn As H0 M H σ Γ O n S v w rv rw Q c => by
  cases rv; cases rw
  refine .inl ⟨rfl, c _ M H _ (Evl.Ex.refl M) S ?_ q⟩
  have e : decide (V.int i = V.int j) = decide (i = j) := by simp
  rw [e]; exact .bl _
theorem ow_eqB {i j : Bool} {k : DV → Prop} (q : k (.bl (decide (i = j)))) : OW K (rEqA K) (.bl i) (.bl j) k := fun pn As H0 M H σ Γ O n S v w rv rw Q c => by
  cases rv; cases rw
  refine .inl ⟨rfl, c _ M H _ (Evl.Ex.refl M) S ?_ q⟩
  have e : decide (V.bl i = V.bl j) = decide (i = j) := by simp
  rw [e]; exact .bl _
theorem ow_neB {i j : Bool} {k : DV → Prop} (q : k (.bl (!decide (i = j)))) : OW K (rNeA K) (.bl i) (.bl j) k := fun pn As H0 M H σ Γ O n S v w rv rw Q c => by
  cases rv; cases rw
  refine .inl ⟨rfl, c _ M H _ (Evl.Ex.refl M) S ?_ q⟩
  have e : decide (V.bl i = V.bl j) = decide (i = j) := by simp
  rw [e]; exact .bl _
theorem ow_eqS {i j : Str} {k : DV → Prop} (q : k (.bl (decide (i = j)))) : OW K (rEqA K) (.str i) (.str j) k := fun pn As H0 M H σ Γ O n S v w rv rw Q c => by
  cases rv; cases rw
  refine .inl ⟨rfl, c _ M H _ (Evl.Ex.refl M) S ?_ q⟩
  have e : decide (V.str i = V.str j) = decide (i = j) := by simp
  rw [e]; exact .bl _
theorem ow_neS {i j : Str} {k : DV → Prop} (q : k (.bl (!decide (i = j)))) : OW K (rNeA K) (.str i) (.str j) k := fun pn As H0 M H σ Γ O n S v w rv rw Q c => by
  cases rv; cases rw
  refine .inl ⟨rfl, c _ M H _ (Evl.Ex.refl M) S ?_ q⟩
  have e : decide (V.str i = V.str j) = decide (i = j) := by simp
  rw [e]; exact .bl _
def shp (x : DV) : Bool := isPy x && SeqAt.shaped (py x)
theorem ow_eqD {k : DV → Prop} (h1 : shp x = true) (h2 : shp y = true) (q : k (.bl (PyData.eqv (py x) (py y)))) : OW K (rEqA K) x y k := fun pn As H0 M H σ Γ O n S v w rv rw Q c => by
  have a := (Bool.and_eq_true_iff.mp h1)
  have b := (Bool.and_eq_true_iff.mp h2)
  exact .inr ⟨_, _, rv.dp S.ex a.1, rw.dp S.ex b.1, a.2, b.2, c _ M H _ (Evl.Ex.refl M) S (.bl _) q⟩
theorem ow_neD {k : DV → Prop} (h1 : shp x = true) (h2 : shp y = true) (q : k (.bl (!PyData.eqv (py x) (py y)))) : OW K (rNeA K) x y k := fun pn As H0 M H σ Γ O n S v w rv rw Q c => by
  have a := (Bool.and_eq_true_iff.mp h1)
  have b := (Bool.and_eq_true_iff.mp h2)
  exact .inr ⟨_, _, rv.dp S.ex a.1, rw.dp S.ex b.1, a.2, b.2, c _ M H _ (Evl.Ex.refl M) S (.bl _) q⟩
/-- is None -/
def rIsN : R2 := fun x y H Q => y = .non ∧ Q (.bl (decide (x = .non))) H
def rNotN : R2 := fun x y H Q => y = .non ∧ Q (.bl (!decide (x = .non))) H
theorem op_isNA {X : Cx} : OpR X (compareOp .Is) rIsN := op_isN
theorem op_notNA {X : Cx} : OpR X (compareOp .IsNot) rNotN := op_notN
def isNon : DV → Bool
  | .non => true
  | _ => false
theorem Rp.isNon {v : V} (r : Rp K M v x) : decide (v = .non) = isNon x := by cases r <;> simp [DL.isNon]
theorem ow_isN {k : DV → Prop} (q : k (.bl (isNon x))) : OW K rIsN x .non k := fun pn As H0 M H σ Γ O n S v w rv rw Q c => by
  cases rw
  refine ⟨rfl, c _ M H _ (Evl.Ex.refl M) S ?_ q⟩
  rw [rv.isNon]; exact .bl _
theorem ow_notN {k : DV → Prop} (q : k (.bl (!isNon x))) : OW K rNotN x .non k := fun pn As H0 M H σ Γ O n S v w rv rw Q c => by
  cases rw
  refine ⟨rfl, c _ M H _ (Evl.Ex.refl M) S ?_ q⟩
  rw [rv.isNon]; exact .bl _
/-! ### items, slices -/
theorem atI_of {vs : List V} {ds : List DV} {i : Int} {d : DV} (r : RpL K M vs ds) (h : atI ds i = some d) : ∃ v, atI vs i = some v ∧ Rp K M v d := by
  unfold atI at h ⊢
  rw [r.length]
  cases e : ixN ds.length i with
  | none => rw [e] at h; cases h
  | some j => rw [e] at h; exact r.get' h
theorem ow_ixL {ds : List DV} {i : Int} {d : DV} {k : DV → Prop} (h : atI ds i = some d) (q : k d) : OW K (rIx K) (.lst ds) (.int i) k := fun pn As H0 M H σ Γ O n S v w rv rw Q c => by
  obtain ⟨a, vs, rfl, h1, h2⟩ := rv.lst'
  obtain ⟨u, h3, h4⟩ := atI_of h2 h
  exact .inl ⟨a, vs, i, u, rfl, rw.int', .inl (.inl (S.ex _ _ h1)), h3, c u M H d (Evl.Ex.refl M) S h4 q⟩
theorem ow_ixT {ds : List DV} {i : Int} {d : DV} {k : DV → Prop} (h : atI ds i = some d) (q : k d) : OW K (rIx K) (.tup ds) (.int i) k := fun pn As H0 M H σ Γ O n S v w rv rw Q c => by
  obtain ⟨a, vs, rfl, h1, h2⟩ := rv.tup'
  obtain ⟨u, h3, h4⟩ := atI_of h2 h
  exact .inr (.inl ⟨a, vs, i, u, rfl, rw.int', Evl.ex_t S.ex h1, h3, c u M H d (Evl.Ex.refl M) S h4 q⟩)
/-- an own list's item -/
theorem w_ixOwn {i j : Nat} {ds : List DV} {k : DV → Nat → Prop} (hi : Γ[i]? = some (.own j)) (ho : O[j]? = some (some ds)) (h : W K tb Γ O n fun z n1 => ∃ (a : Int) (d : DV), z = .int a ∧ atI ds a = some d ∧ k d n1) : W K (tOp (rIx K) (tVar i) tb) Γ O n k := fun pn As H0 M H σ S Q c => by
  obtain ⟨a, vs, h1, _⟩ := S.slotOwn hi ho
  refine ⟨_, h1, h pn As H0 M H σ S _ fun v M1 H1 d n1 e1 S1 r1 ⟨z, y, ez, ha, q⟩ => ?_⟩
  subst ez
  obtain ⟨a', vs', g1, _, g3, g4, _⟩ := S1.slotOwn hi ho
  rw [h1] at g1; cases g1
  obtain ⟨u, h3, h4⟩ := atI_of g4 ha
  exact .inl ⟨_, _, z, u, rfl, r1.int', .inl (.inl g3), h3, c u M1 H1 y n1 e1 S1 h4 q⟩
theorem cutV_of {vs : List V} {ds : List DV} (lo hi : Option Int) (r : RpL K M vs ds) : RpL K M (cutV vs lo hi) ((ds.drop (HT.sIx ds.length 0 lo)).take (HT.sIx ds.length ds.length hi - HT.sIx ds.length 0 lo)) := by
  unfold cutV
  rw [r.length]
  exact (r.drop _).take _
def cutD (ds : List DV) (lo hi : Option Int) : List DV := (ds.drop (HT.sIx ds.length 0 lo)).take (HT.sIx ds.length ds.length hi - HT.sIx ds.length 0 lo)
theorem wo_none {k : Option Int → Nat → Prop} (q : k none n) : WO K tNoPart Γ O n k := fun pn As H0 M H σ S Q c => c none M H n (Evl.Ex.refl M) S q
theorem wo_some {k : Option Int → Nat → Prop} (h : W K te Γ O n fun d n1 => ∃ i, d = .int i ∧ k (some i) n1) : WO K (tPart te) Γ O n k := fun pn As H0 M H σ S Q c =>
  h pn As H0 M H σ S _ fun v M1 H1 d n1 e1 S1 r1 ⟨i, e, q⟩ => by subst e; exact ⟨i, r1.int', c (some i) M1 H1 n1 e1 S1 q⟩
def rCut (K : Fg) : V → Option Int → Option Int → Hp → VK → Prop := fun x lo hi H Q => rSlL K x lo hi H Q ∨ rSlA K x lo hi H Q
theorem sl_cut {X : Cx} : SlR X (rCut X.K) := sl_list.or sl_tupA
theorem wl_slL {tl th : TO} {k : List DV → Nat → Prop} (h : W K te Γ O n fun d n1 => ∃ ds, d = .lst ds ∧ WO K tl Γ O n1 fun lo n2 => WO K th Γ O n2 fun hi n3 => k (cutD ds lo hi) n3) : WL K (tSl (rCut K) te tl th) Γ O n k := fun pn As H0 M H σ S Q c =>
  h pn As H0 M H σ S _ fun v M1 H1 d n1 e1 S1 r1 ⟨ds, e, h2⟩ => h2 pn As H0 M1 H1 σ S1 _ fun lo M2 H2 n2 e2 S2 h3 => h3 pn As H0 M2 H2 σ S2 _ fun hi M3 H3 n3 e3 S3 q => by
    subst e
    obtain ⟨a, vs, rfl, g1, g2⟩ := (r1.mono (Evl.Ex.trans e2 e3)).lst'
    exact .inl ⟨a, vs, rfl, .inl (.inl (S3.ex _ _ g1)), fun p hp => wl_new S3 hp (cutV_of lo hi g2) (fun p vs M4 H4 ds n4 e4 => c p vs M4 H4 ds n4 (Evl.Ex.trans (Evl.Ex.trans (Evl.Ex.trans e1 e2) e3) e4)) q⟩
/-! ### calls of built-ins by name -/
theorem w_cb {r : List V → Hp → VK → Prop} {ta : TA} {k : DV → Nat → Prop} (h : WA K ta Γ O n fun xs n1 => CW K r xs fun d => k d n1) : W K (tCB r ta) Γ O n k := fun pn As H0 M H σ S Q c =>
  h pn As H0 M H σ S _ fun vs M1 H1 xs n1 e1 S1 r1 q => q pn As H0 M1 H1 σ Γ O n1 S1 vs r1 Q fun u M2 H2 d e2 S2 r2 q2 => c u M2 H2 d n1 (Evl.Ex.trans e1 e2) S2 r2 q2
theorem wl_cb {r : List V → Hp → VK → Prop} {ta : TA} {k : List DV → Nat → Prop} (h : WA K ta Γ O n fun xs n1 => CWL K r xs fun d => k d n1) : WL K (tCB r ta) Γ O n k := fun pn As H0 M H σ S Q c =>
  h pn As H0 M H σ S _ fun vs M1 H1 xs n1 e1 S1 r1 q => q pn As H0 M1 H1 σ Γ O n1 S1 vs r1 Q fun p us M2 H2 ds e2 S2 => c p us M2 H2 ds n1 (Evl.Ex.trans e1 e2) S2
theorem RpL.one {v : List V} (r : RpL K M v [x]) : ∃ u, v = [u] ∧ Rp K M u x := by
  cases r with
  | cons a b => cases b; exact ⟨_, rfl, a⟩
theorem RpL.two {v : List V} (r : RpL K M v [x, y]) : ∃ u w, v = [u, w] ∧ Rp K M u x ∧ Rp K M w y := by
  cases r with
  | cons a b =>
    obtain ⟨w, rfl, h⟩ := b.one
    exact ⟨_, _, rfl, a, h⟩
theorem cw_gcd {i j : Int} {k : DV → Prop} (q : k (.int ((Nat.gcd i.natAbs j.natAbs : Nat) : Int))) : CW K rGcd [.int i, .int j] k := fun pn As H0 M H σ Γ O n S vs r Q c => by
  obtain ⟨u, w, rfl, h1, h2⟩ := r.two
  cases h1; cases h2
  exact ⟨i, j, rfl, c _ M H _ (Evl.Ex.refl M) S (.int _) q⟩
def rAbs : List V → Hp → VK → Prop := fun xs H Q => ∃ i, xs = [.int i] ∧ Q (.int (if i < 0 then -i else i)) H
theorem cr_abs {X : Cx} : CallR X (.builtin "abs") rAbs := call_abs
theorem cw_abs {i : Int} {k : DV → Prop} (q : k (.int (if i < 0 then -i else i))) : CW K rAbs [.int i] k := fun pn As H0 M H σ Γ O n S vs r Q c => by
  obtain ⟨u, rfl, h1⟩ := r.one
  cases h1
  exact ⟨i, rfl, c _ M H _ (Evl.Ex.refl M) S (.int _) q⟩
def rInt1 : List V → Hp → VK → Prop := fun xs H Q => (∃ i, xs = [.int i] ∧ Q (.int i) H) ∨ ∃ k, xs = [.bl k] ∧ Q (.int (if k then 1 else 0)) H
theorem cr_int1 {X : Cx} : CallR X (.type "int") rInt1 := call_int1
theorem cw_intI {i : Int} {k : DV → Prop} (q : k (.int i)) : CW K rInt1 [.int i] k := fun pn As H0 M H σ Γ O n S vs r Q c => by
  obtain ⟨u, rfl, h1⟩ := r.one
  cases h1
  exact .inl ⟨i, rfl, c _ M H _ (Evl.Ex.refl M) S (.int _) q⟩
theorem cw_intB {b : Bool} {k : DV → Prop} (q : k (.int (if b then 1 else 0))) : CW K rInt1 [.bl b] k := fun pn As H0 M H σ Γ O n S vs r Q c => by
  obtain ⟨u, rfl, h1⟩ := r.one
  cases h1
  exact .inr ⟨b, rfl, c _ M H _ (Evl.Ex.refl M) S (.int _) q⟩
def rLenA (K : Fg) : List V → Hp → VK → Prop := fun xs H Q => (∃ p ys, xs = [.ref p] ∧ (SqL K H p ys ∨ SqT K H p ys) ∧ Q (.int ys.length) H) ∨ ∃ x m, xs = [x] ∧ LenV K x H m ∧ Q (.int m) H
theorem cr_len {X : Cx} : CallR X (.builtin "len") (rLenA X.K) := call_len_seq.or call_len
theorem cw_lenL {ds : List DV} {k : DV → Prop} (q : k (.int (ds.length : Int))) : CW K (rLenA K) [.lst ds] k := fun pn As H0 M H σ Γ O n S vs r Q c => by
  obtain ⟨u, rfl, h1⟩ := r.one
  obtain ⟨a, vs, rfl, g1, g2⟩ := h1.lst'
  refine .inl ⟨a, vs, rfl, .inl (.inl (.inl (S.ex _ _ g1))), c _ M H _ (Evl.Ex.refl M) S ?_ q⟩
  rw [g2.length]; exact .int _
theorem cw_lenT {ds : List DV} {k : DV → Prop} (q : k (.int (ds.length : Int))) : CW K (rLenA K) [.tup ds] k := fun pn As H0 M H σ Γ O n S vs r Q c => by
  obtain ⟨u, rfl, h1⟩ := r.one
  obtain ⟨a, vs, rfl, g1, g2⟩ := h1.tup'
  refine .inl ⟨a, vs, rfl, .inr (Evl.ex_t S.ex g1), c _ M H _ (Evl.Ex.refl M) S ?_ q⟩
  rw [g2.length]; exact .int _
theorem w_lenOwn {i j : Nat} {ds : List DV} {k : DV → Nat → Prop} (hi : Γ[i]? = some (.own j)) (ho : O[j]? = some (some ds)) (q : k (.int (ds.length : Int)) n) : W K (tCB (rLenA K) (tCons (tVar i) tNil)) Γ O n k := fun pn As H0 M H σ S Q c => by
  obtain ⟨a, vs, h1, _, h3, h4, _⟩ := S.slotOwn hi ho
  refine ⟨_, h1, .inl ⟨a, vs, rfl, .inl (.inl (.inl h3)), c _ M H _ n (Evl.Ex.refl M) S ?_ q⟩⟩
  rw [h4.length]; exact .int _
def rListOf (K : Fg) : List V → Hp → VK → Prop := fun xs H Q => ∃ p ys, xs = [.ref p] ∧ (SqL K H p ys ∨ SqT K H p ys) ∧ ∀ l, H l = none → Q (.ref l) (upd H l (.lst ys))
theorem cr_listOf {X : Cx} : CallR X (.type "list") (rListOf X.K) := call_list_of
theorem cwl_listL {ds : List DV} {k : List DV → Prop} (q : k ds) : CWL K (rListOf K) [.lst ds] k := fun pn As H0 M H σ Γ O n S vs r Q c => by
  obtain ⟨u, rfl, h1⟩ := r.one
  obtain ⟨a, vs, rfl, g1, g2⟩ := h1.lst'
  exact ⟨a, vs, rfl, .inl (.inl (.inl (S.ex _ _ g1))), fun l hl => wl_new S hl g2 (k := fun ds n' => k ds ∧ n' = n) (fun p vs M4 H4 ds n4 e4 S4 h1 h2 h3 h4 hP h5 h6 ⟨h7, h8⟩ => by subst h8; exact c p vs M4 H4 ds e4 S4 h1 h2 h3 h4 hP h5 h6 h7) ⟨q, rfl⟩⟩
theorem cwl_listT {ds : List DV} {k : List DV → Prop} (q : k ds) : CWL K (rListOf K) [.tup ds] k := fun pn As H0 M H σ Γ O n S vs r Q c => by
  obtain ⟨u, rfl, h1⟩ := r.one
  obtain ⟨a, vs, rfl, g1, g2⟩ := h1.tup'
  exact ⟨a, vs, rfl, .inr (Evl.ex_t S.ex g1), fun l hl => wl_new S hl g2 (k := fun ds n' => k ds ∧ n' = n) (fun p vs M4 H4 ds n4 e4 S4 h1 h2 h3 h4 hP h5 h6 ⟨h7, h8⟩ => by subst h8; exact c p vs M4 H4 ds e4 S4 h1 h2 h3 h4 hP h5 h6 h7) ⟨q, rfl⟩⟩
def rTupOf (K : Fg) : List V → Hp → VK → Prop := fun xs H Q => ∃ p ys, xs = [.ref p] ∧ ((SqL K H p ys ∧ ∀ l, H l = none → Q (.ref l) (upd H l (.tup ys))) ∨ (SqT K H p ys ∧ Q (.ref p) H))
theorem cr_tupOf {X : Cx} : CallR X (.type "tuple") (rTupOf X.K) := call_tuple_of
theorem cw_tupL {ds : List DV} {k : DV → Prop} (q : k (.tup ds)) : CW K (rTupOf K) [.lst ds] k := fun pn As H0 M H σ Γ O n S vs r Q c => by
  obtain ⟨u, rfl, h1⟩ := r.one
  obtain ⟨a, vs, rfl, g1, g2⟩ := h1.lst'
  exact ⟨a, vs, rfl, .inl ⟨.inl (.inl (S.ex _ _ g1)), fun l hl => by
    obtain ⟨ex, S2⟩ := S.alloc (o := .tup vs) hl
    exact c _ _ _ _ ex S2 (.tup (.inl (.inl upd_same)) (g2.mono ex)) q⟩⟩
theorem cw_tupT {ds : List DV} {k : DV → Prop} (q : k (.tup ds)) : CW K (rTupOf K) [.tup ds] k := fun pn As H0 M H σ Γ O n S vs r Q c => by
  obtain ⟨u, rfl, h1⟩ := r.one
  obtain ⟨a, vs, rfl, g1, g2⟩ := id h1.tup'
  exact ⟨a, vs, rfl, .inr ⟨Evl.ex_t S.ex g1, c _ M H _ (Evl.Ex.refl M) S h1 q⟩⟩
theorem cw_sum {ns : List Int} {k : DV → Prop} (q : k (.int ns.sum)) : CW K (rSum K) [.lst (ns.map DV.int)] k := fun pn As H0 M H σ Γ O n S vs r Q c => by
  obtain ⟨u, rfl, h1⟩ := r.one
  obtain ⟨a, vs, rfl, g1, g2⟩ := h1.lst'
  have e := g2.ints
  subst e
  exact ⟨a, ns, rfl, .inl (.inl (S.ex _ _ g1)), c _ M H _ (Evl.Ex.refl M) S (.int _) q⟩
theorem cw_all {bs : List Bool} {k : DV → Prop} (q : k (.bl (bs.all id))) : CW K (rAll K) [.lst (bs.map DV.bl)] k := fun pn As H0 M H σ Γ O n S vs r Q c => by
  obtain ⟨u, rfl, h1⟩ := r.one
  obtain ⟨a, vs, rfl, g1, g2⟩ := h1.lst'
  have e := g2.bools
  subst e
  exact ⟨a, bs, rfl, .inl (.inl (S.ex _ _ g1)), c _ M H _ (Evl.Ex.refl M) S (.bl _) q⟩
theorem cw_any {bs : List Bool} {k : DV → Prop} (q : k (.bl (bs.any id))) : CW K (rAny K) [.lst (bs.map DV.bl)] k := fun pn As H0 M H σ Γ O n S vs r Q c => by
  obtain ⟨u, rfl, h1⟩ := r.one
  obtain ⟨a, vs, rfl, g1, g2⟩ := h1.lst'
  have e := g2.bools
  subst e
  exact ⟨a, bs, rfl, .inl (.inl (S.ex _ _ g1)), c _ M H _ (Evl.Ex.refl M) S (.bl _) q⟩
end
end DL
namespace DL
open PySem PySem.Spec PyProof.Rows L2
section
variable {X : Cx} {pins : List (Addr × Obj)} {σ : L2.St} {H : Hp} {s : Shared} {R : It → Hp → Prop} {tg : Expr}
theorem goes_list {a : Addr} {xs : List V} (I : Inv X pins σ H s) (h : SqL X.K H a xs) (q : R (Itl X.K a) H) :
    wpAny (model X.prog X.w) X.A (pyIter (.ref a)) (PIE X pins σ tg R) X.xe s := by
  obtain ⟨us, _, is, _⟩ := I.list h
  refine wpAny_pyIter_list is.isList ⟨_, [s.heap.objs.size], _, _, H, rfl, ?_, turn_list a s.heap.objs.size, ?_, ?_, q⟩
  · exact I.kept (t' := s.toks) fun c u z => Heap.get?_push_of_some _ z
  · exact ⟨_, Heap.get?_push_size _ rfl, rfl, rfl⟩
  · intro c hc
    rw [List.mem_singleton] at hc
    subst hc
    exact I.fpOk (Nat.le_refl _) (I.hok.fresh (Nat.le_refl _))
theorem goes_tuple {a : Addr} {xs : List V} (I : Inv X pins σ H s) (h : SqT X.K H a xs) (q : R (Itt X.K a) H) :
    wpAny (model X.prog X.w) X.A (pyIter (.ref a)) (PIE X pins σ tg R) X.xe s := by
  obtain ⟨us, _, is, _⟩ := I.tuple h
  refine wpAny_pyIter_tuple (items := us.toArray) is ⟨_, [s.heap.objs.size], _, _, H, rfl, ?_, turn_tuple a s.heap.objs.size, ?_, ?_, q⟩
  · exact I.kept (t' := s.toks) fun c u z => Heap.get?_push_of_some _ z
  · exact ⟨_, Heap.get?_push_size _ rfl, rfl, rfl⟩
  · intro c hc
    rw [List.mem_singleton] at hc
    subst hc
    exact I.fpOk (Nat.le_refl _) (I.hok.fresh (Nat.le_refl _))
/-- over a list or a tuple -/
def iSeq (K : Fg) (tl : TE) : TI := fun σ H R => tl σ H fun x H1 => ∃ a, x = .ref a ∧ (((∃ xs, SqL K H1 a xs) ∧ R (Itl K a) H1) ∨ ((∃ xs, SqT K H1 a xs) ∧ R (Itt K a) H1))
theorem pi_seq {l : Expr} {tl : TE} (hl : PE X l tl) : PI X tg l (iSeq X.K tl) := by
  constructor
  intro pins s σ H R I h
  apply thn (hl.run pins s σ H _ I h)
  rintro v s1 ⟨x, H1, I1, r1, a, e, q⟩
  subst e
  cases r1
  rcases q with ⟨⟨xs, hq⟩, q⟩ | ⟨⟨xs, hq⟩, q⟩
  · exact goes_list I1 hq q
  · exact goes_tuple I1 hq q
end
section
variable {K : Fg} {pn : Option Addr} {As : List Addr} {H0 : Ent} {M M' H H' : Hp} {σ : L2.St} {Γ : List SA} {O : Own} {n m : Nat} {te ta tb : TE} {x y : DV}
theorem iter_list {a : Addr} {vs : List V} {ds : List DV} (h : M a = some (.lst vs)) (r : RpL K M vs ds) : IterOk K (Itl K a) ds M := fun pn As H0 M1 H1 σ Γ O n e S i => by
  have hq : SqL K H1 a vs := .inl (.inl (S.ex _ _ (e _ _ h)))
  refine ⟨fun d hd => ?_, fun hi => ⟨vs, hq, by rw [r.length]; exact hi⟩⟩
  obtain ⟨v, hv, rv⟩ := r.get' hd
  exact ⟨⟨vs, v, hq, hv⟩, fun z H' ⟨e1, e2⟩ => by
    have := e2 vs hq
    rw [hv] at this; cases this
    subst e1
    exact ⟨M1, Evl.Ex.refl M1, S, rv.mono e⟩⟩
theorem iter_tup {a : Addr} {vs : List V} {ds : List DV} (h : SqT K M a vs) (r : RpL K M vs ds) : IterOk K (Itt K a) ds M := fun pn As H0 M1 H1 σ Γ O n e S i => by
  have hq : SqT K H1 a vs := Evl.ex_t S.ex (Evl.ex_t e h)
  refine ⟨fun d hd => ?_, fun hi => ⟨vs, hq, by rw [r.length]; exact hi⟩⟩
  obtain ⟨v, hv, rv⟩ := r.get' hd
  exact ⟨⟨vs, v, hq, hv⟩, fun z H' ⟨e1, e2⟩ => by
    have := e2 vs hq
    rw [hv] at this; cases this
    subst e1
    exact ⟨M1, Evl.Ex.refl M1, S, rv.mono e⟩⟩
def rngD (lo : Int) (m : Nat) : List DV := (List.range m).map fun (i : Nat) => DV.int (lo + (i : Int))
theorem rngD_get {lo : Int} {m i : Nat} {d : DV} (h : (rngD lo m)[i]? = some d) : i < m ∧ d = .int (lo + (i : Int)) := by
  unfold rngD at h
  rw [List.getElem?_map] at h
  by_cases hi : i < m
  · rw [List.getElem?_range hi] at h
    exact ⟨hi, (Option.some.inj h).symm⟩
  · rw [List.getElem?_eq_none (by simpa using hi)] at h
    cases h
theorem rngD_length (lo : Int) (m : Nat) : (rngD lo m).length = m := by simp [rngD]
theorem iter_rng {lo : Int} {m : Nat} : IterOk K (Itr lo m) (rngD lo m) M := fun pn As H0 M1 H1 σ Γ O n e S i => by
  refine ⟨fun d hd => ?_, fun hi => by rw [rngD_length] at hi; exact hi⟩
  obtain ⟨h1, rfl⟩ := rngD_get hd
  refine ⟨h1, fun z H' ⟨e1, e2⟩ => ?_⟩
  subst e1 e2
  exact ⟨M1, Evl.Ex.refl M1, S, .int _⟩
def enumD (k : Nat) : List DV → List DV
  | [] => []
  | d :: ds => .tup [.int (k : Int), d] :: enumD (k + 1) ds
theorem enumD_get : ∀ {ds : List DV} {k i : Nat}, (enumD k ds)[i]? = (ds[i]?).map fun d => DV.tup [.int ((k + i : Nat) : Int), d]
  | [], k, i => by simp [enumD]
  | d :: ds, k, 0 => by simp [enumD]
  | d :: ds, k, i + 1 => by
    simp only [enumD, List.getElem?_cons_succ]
    rw [enumD_get]
    have : k + 1 + i = k + (i + 1) := by omega
    rw [this]
theorem enumD_length : ∀ {ds : List DV} {k : Nat}, (enumD k ds).length = ds.length
  | [], _ => rfl
  | d :: ds, k => by simp [enumD, enumD_length]
theorem iter_enum {a : Addr} {vs : List V} {ds : List DV} (h : M a = some (.lst vs)) (r : RpL K M vs ds) : IterOk K (Ite K a) (enumD 0 ds) M := fun pn As H0 M1 H1 σ Γ O n e S i => by
  have hq : SqL K H1 a vs := .inl (.inl (S.ex _ _ (e _ _ h)))
  refine ⟨fun d hd => ?_, fun hi => ⟨vs, hq, by rw [r.length]; rw [enumD_length] at hi; exact hi⟩⟩
  rw [enumD_get] at hd
  cases hi : ds[i]? with
  | none => rw [hi] at hd; cases hd
  | some d0 =>
    rw [hi] at hd
    cases hd
    obtain ⟨v, hv, rv⟩ := r.get' hi
    refine ⟨⟨vs, v, hq, hv⟩, fun z H' ⟨T, u, e1, e2, e3, e4⟩ => ?_⟩
    have := e4 vs hq
    rw [hv] at this; cases this
    subst e1 e3
    obtain ⟨ex, S2⟩ := S.alloc (o := .tup [.int (i : Int), v]) e2
    refine ⟨_, ex, S2, .tup (.inl (.inl upd_same)) ?_⟩
    have e0 : ((0 + i : Nat) : Int) = (i : Int) := by simp
    rw [e0]
    exact .cons (.int _) (.cons ((rv.mono e).mono ex) .nil)
def zipD : List DV → List DV → List DV
  | x :: xs, y :: ys => .tup [x, y] :: zipD xs ys
  | _, _ => []
theorem zipD_get : ∀ {xs ys : List DV} {i : Nat} {d : DV}, (zipD xs ys)[i]? = some d → ∃ x y, xs[i]? = some x ∧ ys[i]? = some y ∧ d = .tup [x, y]
  | [], _, _, _, h => by simp [zipD] at h
  | x :: xs, [], _, _, h => by simp [zipD] at h
  | x :: xs, y :: ys, 0, d, h => by
    simp [zipD] at h
    exact ⟨x, y, rfl, rfl, h.symm⟩
  | x :: xs, y :: ys, i + 1, d, h => by
    simp only [zipD, List.getElem?_cons_succ] at h
    simpa using zipD_get h
theorem zipD_length : ∀ {xs ys : List DV}, (zipD xs ys).length = min xs.length ys.length
  | [], ys => by simp [zipD]
  | x :: xs, [] => by simp [zipD]
  | x :: xs, y :: ys => by simp [zipD, zipD_length]
theorem iter_zipL {a b : Addr} {vs ws : List V} {ds es : List DV} (h : M a = some (.lst vs)) (r : RpL K M vs ds) (h' : M b = some (.lst ws)) (r' : RpL K M ws es) : IterOk K (Itz K a b) (zipD ds es) M := fun pn As H0 M1 H1 σ Γ O n e S i => by
  have hq : SqL K H1 a vs := .inl (.inl (S.ex _ _ (e _ _ h)))
  have hq' : SqL K H1 b ws := .inl (.inl (S.ex _ _ (e _ _ h')))
  refine ⟨fun d hd => ?_, fun hi => ⟨vs, ws, hq, hq', by rw [r.length, r'.length]; rw [zipD_length] at hi; omega⟩⟩
  obtain ⟨x, y, g1, g2, rfl⟩ := zipD_get hd
  obtain ⟨v, hv, rv⟩ := r.get' g1
  obtain ⟨w, hw, rw'⟩ := r'.get' g2
  refine ⟨⟨vs, ws, v, w, hq, hq', hv, hw⟩, fun z H' ⟨T, u1, u2, e1, e2, e3, e4, e5⟩ => ?_⟩
  have := e4 vs hq
  rw [hv] at this; cases this
  have := e5 ws hq'
  rw [hw] at this; cases this
  subst e1 e3
  obtain ⟨ex, S2⟩ := S.alloc (o := .tup [v, w]) e2
  exact ⟨_, ex, S2, .tup (.inl (.inl upd_same)) (.cons ((rv.mono e).mono ex) (.cons ((rw'.mono e).mono ex) .nil))⟩
theorem iter_zipT {a b : Addr} {vs ws : List V} {ds es : List DV} (h : SqT K M a vs) (r : RpL K M vs ds) (h' : SqT K M b ws) (r' : RpL K M ws es) : IterOk K (RZ.ItzT K a b) (zipD ds es) M := fun pn As H0 M1 H1 σ Γ O n e S i => by
  have hq : SqT K H1 a vs := Evl.ex_t S.ex (Evl.ex_t e h)
  have hq' : SqT K H1 b ws := Evl.ex_t S.ex (Evl.ex_t e h')
  refine ⟨fun d hd => ?_, fun hi => ⟨vs, ws, hq, hq', by rw [r.length, r'.length]; rw [zipD_length] at hi; omega⟩⟩
  obtain ⟨x, y, g1, g2, rfl⟩ := zipD_get hd
  obtain ⟨v, hv, rv⟩ := r.get' g1
  obtain ⟨w, hw, rw'⟩ := r'.get' g2
  refine ⟨⟨vs, ws, v, w, hq, hq', hv, hw⟩, fun z H' ⟨T, u1, u2, e1, e2, e3, e4, e5⟩ => ?_⟩
  have := e4 vs hq
  rw [hv] at this; cases this
  have := e5 ws hq'
  rw [hw] at this; cases this
  subst e1 e3
  obtain ⟨ex, S2⟩ := S.alloc (o := .tup [v, w]) e2
  exact ⟨_, ex, S2, .tup (.inl (.inl upd_same)) (.cons ((rv.mono e).mono ex) (.cons ((rw'.mono e).mono ex) .nil))⟩
/-! ### sources -/
theorem sw_seq {k : List DV → Nat → Prop} (h : W K te Γ O n fun d n1 => ∃ ds, (d = .lst ds ∨ d = .tup ds) ∧ k ds n1) : SW K (iSeq K te) Γ O n k := fun pn As H0 M H σ S R c =>
  h pn As H0 M H σ S _ fun v M1 H1 d n1 e1 S1 r1 ⟨ds, e, q⟩ => by
    rcases e with rfl | rfl
    · obtain ⟨a, vs, rfl, g1, g2⟩ := r1.lst'
      exact ⟨a, rfl, .inl ⟨⟨vs, .inl (.inl (S1.ex _ _ g1))⟩, c _ M1 H1 ds n1 e1 S1 (iter_list g1 g2) q⟩⟩
    · obtain ⟨a, vs, rfl, g1, g2⟩ := r1.tup'
      exact ⟨a, rfl, .inr ⟨⟨vs, Evl.ex_t S1.ex g1⟩, c _ M1 H1 ds n1 e1 S1 (iter_tup g1 g2) q⟩⟩
theorem sw_rng1 {ta : TA} {k : List DV → Nat → Prop} (h : WA K ta Γ O n fun xs n1 => ∃ j : Int, xs = [.int j] ∧ -(2 ^ 62) ≤ j ∧ j < 2 ^ 62 ∧ k (rngD 0 j.toNat) n1) : SW K (iRng1 ta) Γ O n k := fun pn As H0 M H σ S R c =>
  h pn As H0 M H σ S _ fun v M1 H1 d n1 e1 S1 r1 ⟨j, e, q1, q2, q⟩ => by
    subst e
    obtain ⟨u, rfl, r⟩ := r1.one
    cases r
    exact ⟨j, rfl, q1, q2, c _ M1 H1 _ n1 e1 S1 iter_rng q⟩
theorem sw_rng2 {ta : TA} {k : List DV → Nat → Prop} (h : WA K ta Γ O n fun xs n1 => ∃ i j : Int, xs = [.int i, .int j] ∧ (-(2 ^ 62) ≤ i ∧ i < 2 ^ 62 ∧ -(2 ^ 62) ≤ j ∧ j < 2 ^ 62) ∧ k (rngD i (j - i).toNat) n1) : SW K (iRng2 ta) Γ O n k := fun pn As H0 M H σ S R c =>
  h pn As H0 M H σ S _ fun v M1 H1 d n1 e1 S1 r1 ⟨i, j, e, q1, q⟩ => by
    subst e
    obtain ⟨u, w, rfl, r, r'⟩ := r1.two
    cases r; cases r'
    exact ⟨i, j, rfl, q1, c _ M1 H1 _ n1 e1 S1 iter_rng q⟩
theorem sw_enum {ta : TA} {k : List DV → Nat → Prop} (h : WA K ta Γ O n fun xs n1 => ∃ ds, xs = [.lst ds] ∧ k (enumD 0 ds) n1) : SW K (iEnum K ta) Γ O n k := fun pn As H0 M H σ S R c =>
  h pn As H0 M H σ S _ fun v M1 H1 d n1 e1 S1 r1 ⟨ds, e, q⟩ => by
    subst e
    obtain ⟨u, rfl, r⟩ := r1.one
    obtain ⟨a, vs, rfl, g1, g2⟩ := r.lst'
    exact ⟨a, vs, rfl, .inl (.inl (S1.ex _ _ g1)), c _ M1 H1 _ n1 e1 S1 (iter_enum g1 g2) q⟩
theorem sw_zipA {ta : TA} {k : List DV → Nat → Prop} (h : WA K ta Γ O n fun xs n1 => ∃ ds es, (xs = [.lst ds, .lst es] ∨ xs = [.tup ds, .tup es]) ∧ k (zipD ds es) n1) : SW K (RZ.iZipA K ta) Γ O n k := fun pn As H0 M H σ S R c =>
  h pn As H0 M H σ S _ fun v M1 H1 d n1 e1 S1 r1 ⟨ds, es, e, q⟩ => by
    rcases e with rfl | rfl
    · obtain ⟨u, w, rfl, r, r'⟩ := r1.two
      obtain ⟨a, vs, rfl, g1, g2⟩ := r.lst'
      obtain ⟨b, ws, rfl, g3, g4⟩ := r'.lst'
      exact ⟨a, b, vs, ws, rfl, .inl ⟨.inl (.inl (S1.ex _ _ g1)), .inl (.inl (S1.ex _ _ g3)), c _ M1 H1 _ n1 e1 S1 (iter_zipL g1 g2 g3 g4) q⟩⟩
    · obtain ⟨u, w, rfl, r, r'⟩ := r1.two
      obtain ⟨a, vs, rfl, g1, g2⟩ := r.tup'
      obtain ⟨b, ws, rfl, g3, g4⟩ := r'.tup'
      exact ⟨a, b, vs, ws, rfl, .inr ⟨Evl.ex_t S1.ex g1, Evl.ex_t S1.ex g3, c _ M1 H1 _ n1 e1 S1 (iter_zipT g1 g2 g3 g4) q⟩⟩
/-! ### targets -/
theorem wipe_set {σ : L2.St} {i : Nat} {o : Option V} : ∀ {vs : List Nat}, i ∈ vs → wipe (σ.set i o) vs = wipe σ vs
  | v :: vs, h => by
    unfold wipe
    by_cases hi : i ∈ vs
    · rw [wipe_set hi]
    · have e : i = v := by
        rcases List.mem_cons.mp h with h | h
        · exact h
        · exact absurd h hi
      subst e
      have : ∀ {ws : List Nat}, i ∉ ws → wipe (σ.set i o) ws = (wipe σ ws).set i o := by
        intro ws
        induction ws with
        | nil => intro _; rfl
        | cons w ws ih =>
          intro hw
          unfold wipe
          rw [ih (fun z => hw (List.mem_cons_of_mem _ z)), List.set_comm _ _ (fun z => hw (by rw [z]; exact List.mem_cons_self))]
      rw [this hi, List.set_set]
theorem wipe_wipe {σ : L2.St} (vs : List Nat) : wipe (wipe σ vs) vs = wipe σ vs := by
  have key : ∀ (ws us : List Nat) (τ : L2.St), (∀ u ∈ us, u ∈ ws) → wipe (wipe τ us) ws = wipe τ ws := by
    intro ws us
    induction us with
    | nil => intro τ _; rfl
    | cons u us ih =>
      intro τ h
      show wipe ((wipe τ us).set u none) ws = wipe τ ws
      rw [wipe_set (h u List.mem_cons_self), ih τ fun z hz => h z (List.mem_cons_of_mem _ hz)]
  exact key vs vs σ fun _ h => h
theorem gw_name {i : Nat} {vs : List Nat} {k : List SA → Prop} (hi : i ∈ vs) (q : k (Γ.set i (.is x))) : GW K (gName i) vs x Γ k := fun pn As H0 M H σ O n S v r Q c =>
  c _ _ (S.store r) (wipe_set hi) q
def GWs (K : Fg) (g : TGs) (vs : List Nat) (ds : List DV) (Γ : List SA) (k : List SA → Prop) : Prop :=
  ∀ (pn : Option Addr) (As : List Addr) (H0 : Ent) (M H : Hp) (σ : L2.St) (O : Own) (n : Nat), Sta K pn As H0 M H σ Γ O n → ∀ us, RpL K M us ds → ∀ Q : L2.St → Hp → Prop,
    (∀ σ' Γ', Sta K pn As H0 M H σ' Γ' O n → wipe σ' vs = wipe σ vs → k Γ' → Q σ' H) → g us σ H Q
theorem gws_nil {vs : List Nat} {k : List SA → Prop} (q : k Γ) : GWs K gNil vs [] Γ k := fun pn As H0 M H σ O n S us r Q c => by
  cases r
  exact ⟨rfl, c σ Γ S rfl q⟩
theorem gws_cons {g : TG} {gs : TGs} {vs : List Nat} {d : DV} {ds : List DV} {k : List SA → Prop} (h : GW K g vs d Γ fun Γ1 => GWs K gs vs ds Γ1 k) : GWs K (gCons g gs) vs (d :: ds) Γ k := fun pn As H0 M H σ O n S us r Q c => by
  cases r with
  | cons a b => exact ⟨_, _, rfl, h pn As H0 M H σ O n S _ a _ fun σ1 Γ1 S1 w1 q1 => q1 pn As H0 M H σ1 O n S1 _ b Q fun σ2 Γ2 S2 w2 => c σ2 Γ2 S2 (w2.trans w1)⟩
theorem gw_tup {nn : Nat} {gs : TGs} {vs : List Nat} {ds : List DV} {k : List SA → Prop} (hl : ds.length = nn) (h : GWs K gs vs ds Γ k) : GW K (gTup K nn gs) vs (.tup ds) Γ k := fun pn As H0 M H σ O n S v r Q c => by
  obtain ⟨a, us, rfl, g1, g2⟩ := r.tup'
  exact ⟨a, us, rfl, Evl.ex_t S.ex g1, by rw [g2.length]; exact hl, h pn As H0 M H σ O n S us g2 Q c⟩
/-! ### list comprehensions -/
def wipeG (Γ : List SA) : List Nat → List SA
  | [] => Γ
  | v :: vs => (wipeG Γ vs).set v .no
theorem Sta.noslot (S : Sta K pn As H0 M H σ Γ O n) (v : Nat) : Sta K pn As H0 M H (σ.set v none) (Γ.set v .no) O n := by
  refine ⟨S.toFin, S.own, S.live, S.pr, S.nd, S.len, by simpa using S.sl, fun j t h => ?_⟩
  by_cases hj : v = j
  · subst hj
    have hv : v < Γ.length := by
      have := (List.getElem?_eq_some_iff.mp h).1
      simpa using this
    rw [List.getElem?_set_self hv] at h
    cases h
    exact True.intro
  · rw [List.getElem?_set_ne hj] at h ⊢
    exact S.ok j t h
theorem Sta.wiped (S : Sta K pn As H0 M H σ Γ O n) : ∀ vs : List Nat, Sta K pn As H0 M H (wipe σ vs) (wipeG Γ vs) O n
  | [] => S
  | v :: vs => (S.wiped vs).noslot v
/-- slots of elsewhere over the same heap -/
theorem Sta.swap {σ2 : L2.St} {Γ2 : List SA} {H2 M2 : Hp} {n2 : Nat} (S2 : Sta K pn As H0 M2 H2 σ2 Γ2 O n2) (S : Sta K pn As H0 M H σ Γ O n) (e : Ex M M2) : Sta K pn As H0 M2 H2 σ Γ O n2 :=
  ⟨S2.toFin, S2.own, S2.live, S2.pr, S2.nd, S2.len, S.sl, fun i t h => (S.ok i t h).mono e⟩
theorem Sta.lay' (S : Sta K pn As H0 M H σ Γ O n) {p : Addr} {o : HO} (hM : M p = none) (h0 : H0 p = none) (hpn : some p ≠ pn) (hAs : p ∉ As) (hP : ¬ H0.P p) : Sta K pn As H0 M (upd H p o) σ Γ O n := by
  refine ⟨⟨fun a u h => ?_, fun a u h1 h2 => ?_, fun q hq => ?_⟩, fun j a ds h1 h2 => ?_, fun a h => upd_live (S.live a h), fun a h => ⟨(S.pr a h).1, upd_live (S.pr a h).2.1, (S.pr a h).2.2⟩, S.nd, S.len, S.sl, S.ok⟩
  · rw [upd_ne (ne_of_none h hM)]; exact S.ex a u h
  · rw [upd_ne (ne_of_none h2 h0)]; exact S.kp a u h1 h2
  · obtain ⟨h1, h2⟩ := S.pen q hq
    exact ⟨h1, h2.mono (Evl.Ex.refl _) (by rw [upd_ne (fun z => hpn (by rw [← z, hq]))]) (Nat.le_refl _)⟩
  · obtain ⟨h3, h4, h5, vs, h6, h7⟩ := S.own j a ds h1 h2
    exact ⟨h3, h4, h5, vs, by rw [upd_ne (fun z => hAs (by rw [← z]; exact List.mem_of_getElem? h1))]; exact h6, h7⟩
/-- the general form: P by the turn, what is made so far, the pen's bound -/
theorem wl_lc {wi : TI} {g : TG} {tt : TT} {vs : List Nat} {k : List DV → Nat → Prop}
    (h : SW K wi Γ O n fun xs n1 => xs.length ≤ 100000 ∧ ∃ P : Nat → List DV → Nat → Prop, P 0 [] n1 ∧
      (∀ (i : Nat) (x : DV) (acc : List DV) (n2 : Nat), xs[i]? = some x → P i acc n2 → GW K g vs x (wipeG Γ vs) fun Γ2 => WT K tt Γ2 O n2 fun b n3 =>
        (b = true → W K te Γ2 O n3 fun y n4 => P (i + 1) (acc ++ [y]) n4) ∧ (b = false → P (i + 1) acc n3)) ∧ ∀ acc n2, P xs.length acc n2 → k acc n2) :
    WL K (tLc wi g tt te vs) Γ O n k := fun pn As H0 M H σ S Q c =>
  h pn As H0 M H σ S _ fun J M1 H1 xs n1 e1 S1 it ⟨hz, P, p0, step, fin⟩ => fun D hD => by
    have hDM : M1 D = none := Evl.fresh_back S1.ex hD
    have h0D : H0 D = none := by
      cases e : H0 D with
      | none => rfl
      | some o =>
        by_cases hpn : some D = pn
        · obtain ⟨_, _, _, _, _, h3, _⟩ := S1.pen D hpn.symm
          rw [hD] at h3; cases h3
        · rw [S1.kp D o hpn e] at hD; cases hD
    have hpn : some D ≠ pn := fun z => by
      obtain ⟨_, _, _, _, _, h3, _⟩ := S1.pen D z.symm
      rw [hD] at h3; cases h3
    have hAs : D ∉ As := fun z => S1.live D z hD
    have hP : ¬ H0.P D := fun z => (S1.pr D z).2.1 hD
    -- D kept apart: it stands, unfrozen
    have apart : ∀ {M' H' : Hp} {τ : L2.St} {Δ : List SA} {n2 : Nat} {ws : List V}, Sta K pn As H0 M' H' τ Δ O n2 → M' D = none → H' D = some (.lst ws) →
        Sta K pn As ⟨upd H0.h D (.lst ws), fun a => H0.P a ∨ a = D⟩ M' H' τ Δ O n2 := fun {M' H' τ Δ n2 ws} T h1 h2 => by
      refine ⟨⟨T.ex, fun a o g1 g2 => ?_, T.pen⟩, fun j a ds g1 g2 => ?_, T.live, fun a g => ?_, T.nd, T.len, T.sl, T.ok⟩
      · have g2 : upd H0.h D (.lst ws) a = some o := g2
        by_cases ha : a = D
        · subst ha; rw [upd_same] at g2; rw [h2, ← g2]
        · rw [upd_ne ha] at g2; exact T.kp a o g1 g2
      · obtain ⟨g3, g4, g5⟩ := T.own j a ds g1 g2
        have ha : a ≠ D := fun z => hAs (z ▸ List.mem_of_getElem? g1)
        exact ⟨g3, (upd_ne ha).trans g4, g5⟩
      · rcases g with g | g
        · exact ⟨(T.pr a g).1, (T.pr a g).2.1, upd_live (T.pr a g).2.2⟩
        · subst g; exact ⟨h1, (by rw [h2]; exact fun z => nomatch z), upd_live'⟩
    have back : ∀ {M' H' : Hp} {τ : L2.St} {Δ : List SA} {n2 : Nat} {ws : List V}, Sta K pn As ⟨upd H0.h D (.lst ws), fun a => H0.P a ∨ a = D⟩ M' H' τ Δ O n2 →
        Sta K pn As H0 M' H' τ Δ O n2 ∧ M' D = none ∧ H' D = some (.lst ws) := fun {M' H' τ Δ n2 ws} T => by
      refine ⟨⟨⟨T.ex, fun a o g1 g2 => ?_, T.pen⟩, fun j a ds g1 g2 => ?_, T.live, fun a g => ⟨(T.pr a (.inl g)).1, (T.pr a (.inl g)).2.1, fun z => (T.pr a (.inl g)).2.2 ((upd_ne (show a ≠ D from fun y => hP (y ▸ g))).trans z)⟩, T.nd, T.len, T.sl, T.ok⟩, (T.pr D (.inr rfl)).1, T.kp D _ hpn upd_same⟩
      · exact T.kp a o g1 ((upd_ne (ne_of_none g2 h0D)).trans g2)
      · obtain ⟨g3, g4, g5⟩ := T.own j a ds g1 g2
        have ha : a ≠ D := fun z => hAs (z ▸ List.mem_of_getElem? g1)
        exact ⟨g3, (upd_ne (H := H0.h) (o := .lst ws) ha).symm.trans g4, g5⟩
    refine ⟨fun i m H' => m = xs.length - i ∧ i ≤ xs.length ∧ ∃ M' ws acc n2, Ex M1 M' ∧ Sta K pn As H0 M' H' σ Γ O n2 ∧ M' D = none ∧ H' D = some (.lst ws) ∧ RpL K M' ws acc ∧ acc.length ≤ i ∧ P i acc n2,
      ⟨xs.length, by simp, Nat.zero_le _, M1, [], [], n1, Evl.Ex.refl M1, S1.lay hD, hDM, upd_same, .nil, Nat.le_refl _, p0⟩, ?_⟩
    rintro i m H' ⟨rfl, hi, M', ws, acc, n2, e2, S2, hD2, hw, rw2, hl2, p2⟩
    by_cases hlt : i < xs.length
    · have S2' := apart S2 hD2 hw
      obtain ⟨gd, sd⟩ := it pn As _ M' H' σ Γ O n2 e2 S2' i
      have hx : xs[i]? = some xs[i] := by simp [hlt]
      obtain ⟨g1, g2⟩ := gd _ hx
      refine .inr ⟨g1, fun H'' => i + 1 ≤ xs.length ∧ ∃ M' ws acc n2, Ex M1 M' ∧ Sta K pn As H0 M' H'' σ Γ O n2 ∧ M' D = none ∧ H'' D = some (.lst ws) ∧ RpL K M' ws acc ∧ acc.length ≤ i + 1 ∧ P (i + 1) acc n2,
        fun H'' q => ⟨xs.length - (i + 1), by omega, rfl, q⟩, fun z H3 hy => ?_⟩
      obtain ⟨M3, e3, S3, r3⟩ := g2 z H3 hy
      refine step i _ acc n2 hx p2 pn As _ M3 H3 (wipe σ vs) O n2 (S3.wiped vs) z r3 _ fun σ4 Γ4 S4 w4 q4 => ⟨w4.trans (wipe_wipe vs), ?_⟩
      refine q4 pn As _ M3 H3 σ4 S4 _ fun b M5 H5 n5 e5 S5 q5 => ?_
      cases b with
      | false =>
        rw [if_neg Bool.false_ne_true]
        obtain ⟨S6, d6, h6⟩ := back (S5.swap S3 e5)
        exact ⟨hlt, M5, ws, acc, n5, Evl.Ex.trans e2 (Evl.Ex.trans e3 e5), S6, d6, h6, rw2.mono (Evl.Ex.trans e3 e5), Nat.le_succ_of_le hl2, q5.2 rfl⟩
      | true =>
        rw [if_pos rfl]
        refine q5.1 rfl pn As _ M5 H5 σ4 S5 _ fun u M7 H7 y n7 e7 S7 r7 q7 => ?_
        obtain ⟨S8, d8, h8⟩ := back (S7.swap S3 (Evl.Ex.trans e5 e7))
        have hlw : ws.length = acc.length := rw2.length
        refine ⟨ws, h8, Evl.sz_lt (by omega), hlt, M7, ws ++ [u], acc ++ [y], n7, Evl.Ex.trans e2 (Evl.Ex.trans e3 (Evl.Ex.trans e5 e7)), S8.lay' d8 h0D hpn hAs hP, d8, upd_same, (rw2.mono (Evl.Ex.trans e3 (Evl.Ex.trans e5 e7))).append (.cons r7 .nil), by simp; omega, q7⟩
    · have e : i = xs.length := by omega
      subst e
      obtain ⟨_, sd⟩ := it pn As H0 M' H' σ Γ O n2 e2 S2 xs.length
      exact .inl ⟨sd (Nat.le_refl _), c D ws M' H' acc n2 (Evl.Ex.trans e1 e2) S2 hD2 h0D hpn hAs hP hw rw2 (fin acc n2 p2)⟩
end
end DL
namespace DL
open PySem PySem.Spec PyProof.Rows L2
section
variable {K : Fg} {pn : Option Addr} {As : List Addr} {H0 : Ent} {M M' H H' : Hp} {σ : L2.St} {Γ : List SA} {O : Own} {n m : Nat} {te ta tb : TE} {x y : DV} {E : KE}
/-! ### statements -/
theorem ws_next (q : E.nx Γ O n) : WS K tNext Γ O n E := fun pn As H0 M H σ D S s => s.nx As M H σ Γ O n (List.prefix_refl _) (Evl.Ex.refl M) S q
theorem ws_seq {t u : TS} (h : WS K t Γ O n { E with nx := fun Γ1 O1 n1 => WS K u Γ1 O1 n1 E }) : WS K (tSeq t u) Γ O n E := fun pn As H0 M H σ D S s =>
  h pn As H0 M H σ { D with nx := u D } S ⟨fun As1 M1 H1 σ1 Γ1 O1 n1 p1 e1 S1 q => q pn As1 H0 M1 H1 σ1 D S1 (s.at p1 e1), s.rt, s.bk, s.ct⟩
theorem ws_break (q : E.bk Γ O n) : WS K tBreak Γ O n E := fun pn As H0 M H σ D S s => s.bk As M H σ Γ O n (List.prefix_refl _) (Evl.Ex.refl M) S q
theorem ws_cont (q : E.ct Γ O n) : WS K tCont Γ O n E := fun pn As H0 M H σ D S s => s.ct As M H σ Γ O n (List.prefix_refl _) (Evl.Ex.refl M) S q
theorem ws_asg {i : Nat} (h : W K te Γ O n fun d n1 => E.nx (Γ.set i (.is d)) O n1) : WS K (tAsg te (gName i)) Γ O n E := fun pn As H0 M H σ D S s =>
  h pn As H0 M H σ S _ fun v M1 H1 d n1 e1 S1 r1 q1 => s.nx As M1 H1 _ _ O n1 (List.prefix_refl _) e1 (S1.store r1) q1
theorem Sta.addOwn (S : Sta K pn As H0 M H σ Γ O n) {p : Addr} {vs : List V} {ds : List DV} (h1 : M p = none) (h2 : H0 p = none) (h3 : some p ≠ pn) (h4 : p ∉ As) (h5 : H p = some (.lst vs)) (h6 : RpL K M vs ds) :
    Sta K pn (As ++ [p]) H0 M H σ Γ (O ++ [some ds]) n := by
  refine ⟨S.toFin, fun j a es g1 g2 => ?_, fun a h => ?_, S.pr, ?_, by simp [S.len], S.sl, fun j t h => ?_⟩
  · by_cases hj : j < As.length
    · rw [List.getElem?_append_left hj] at g1
      rw [List.getElem?_append_left (by rw [← S.len]; exact hj)] at g2
      exact S.own j a es g1 g2
    · have hj2 : j = As.length := by
        have := (List.getElem?_eq_some_iff.mp g1).1
        simp at this; omega
      subst hj2
      rw [List.getElem?_append_right (Nat.le_refl _)] at g1
      rw [List.getElem?_append_right (by rw [← S.len]; exact Nat.le_refl _)] at g2
      simp at g1; simp [S.len] at g2
      subst g1 g2
      exact ⟨h1, h2, h3, vs, h5, h6⟩
  · rcases List.mem_append.mp h with h | h
    · exact S.live a h
    · simp at h; subst h; rw [h5]; exact fun z => by cases z
  · rw [List.nodup_append]
    exact ⟨S.nd, by simp, fun a ha b hb => by simp at hb; subst hb; exact fun z => h4 (z ▸ ha)⟩
  · have q := S.ok j t h
    cases t with
    | no => exact True.intro
    | is d => exact q
    | own l =>
      obtain ⟨a, q1, q2⟩ := q
      exact ⟨a, by rw [List.getElem?_append_left (List.getElem?_eq_some_iff.mp q1).1]; exact q1, q2⟩
    | pen => exact q
theorem Sta.storeOwn (S : Sta K pn As H0 M H σ Γ O n) {i j : Nat} {a : Addr} (h : As[j]? = some a) : Sta K pn As H0 M H (σ.set i (some (.ref a))) (Γ.set i (.own j)) O n := by
  refine ⟨S.toFin, S.own, S.live, S.pr, S.nd, S.len, by simpa using S.sl, fun l t g => ?_⟩
  by_cases hj : i = l
  · subst hj
    have hi : i < Γ.length := by
      have := (List.getElem?_eq_some_iff.mp g).1
      simpa using this
    rw [List.getElem?_set_self hi] at g
    cases g
    rw [List.getElem?_set_self (by rw [S.sl]; exact hi)]
    exact ⟨a, h, rfl⟩
  · rw [List.getElem?_set_ne hj] at g ⊢
    exact S.ok l t g
/-- a new list that is to be changed -/
theorem ws_asgOwn {i : Nat} (h : WL K te Γ O n fun ds n1 => E.nx (Γ.set i (.own O.length)) (O ++ [some ds]) n1) : WS K (tAsg te (gName i)) Γ O n E := fun pn As H0 M H σ D S s =>
  h pn As H0 M H σ S _ fun p vs M1 H1 ds n1 e1 S1 h1 h2 h3 h4 hP h5 h6 h7 =>
    s.nx (As ++ [p]) M1 H1 _ _ _ n1 (List.prefix_append _ _) e1 ((S1.addOwn h1 h2 h3 h4 h5 h6).storeOwn (j := O.length) (by rw [← S1.len]; simp)) h7
/-- an own list changes -/
theorem Sta.setOwn (S : Sta K pn As H0 M H σ Γ O n) {j : Nat} {a : Addr} {ds es : List DV} {ws : List V} (ha : As[j]? = some a) (ho : O[j]? = some (some ds)) (r : RpL K M ws es) :
    Sta K pn As H0 M (upd H a (.lst ws)) σ Γ (O.set j (some es)) n := by
  obtain ⟨g1, g2, g3, us, g4, g5⟩ := S.own j a ds ha ho
  refine ⟨⟨fun b u h => ?_, fun b u h1 h2 => ?_, fun q hq => ?_⟩, fun l b fs h1 h2 => ?_, fun b h => upd_live (S.live b h), fun b h => ⟨(S.pr b h).1, upd_live (S.pr b h).2.1, (S.pr b h).2.2⟩, S.nd, by simp [S.len], S.sl, S.ok⟩
  · rw [upd_ne (ne_of_none h g1)]; exact S.ex b u h
  · rw [upd_ne (ne_of_none h2 g2)]; exact S.kp b u h1 h2
  · obtain ⟨h1, h2⟩ := S.pen q hq
    exact ⟨h1, h2.mono (Evl.Ex.refl _) (by rw [upd_ne (fun z => g3 (by rw [← z, hq]))]) (Nat.le_refl _)⟩
  · by_cases hl : j = l
    · subst hl
      rw [ha] at h1; cases h1
      have hj : j < O.length := (List.getElem?_eq_some_iff.mp ho).1
      rw [List.getElem?_set_self hj] at h2
      cases h2
      exact ⟨g1, g2, g3, ws, upd_same, r⟩
    · rw [List.getElem?_set_ne hl] at h2
      obtain ⟨f1, f2, f3, vs, f4, f5⟩ := S.own l b fs h1 h2
      refine ⟨f1, f2, f3, vs, ?_, f5⟩
      rw [upd_ne]
      · exact f4
      · intro z
        subst z
        exact hl ((List.getElem?_inj (List.getElem?_eq_some_iff.mp ha).1 S.nd).mp (ha.trans h1.symm))
/-- an own list is kept for good -/
theorem Sta.freeze (S : Sta K pn As H0 M H σ Γ O n) {i j : Nat} {ds : List DV} (hi : Γ[i]? = some (.own j)) (ho : O[j]? = some (some ds)) :
    ∃ M', Ex M M' ∧ Sta K pn As H0 M' H σ (Γ.set i (.is (.lst ds))) (O.set j none) n := by
  obtain ⟨a, vs, h1, h2, h3, h4, h5, h6, h7⟩ := S.slotOwn hi ho
  have ex : Ex M (upd M a (.lst vs)) := Evl.Ex.new h5
  refine ⟨_, ex, ⟨⟨fun b u h => ?_, S.kp, fun q hq => ?_⟩, fun l b fs g1 g2 => ?_, S.live, fun b h => ?_, S.nd, by simp [S.len], by simpa using S.sl, fun l t g => ?_⟩⟩
  · by_cases hb : b = a
    · subst hb; rw [upd_same] at h; rw [← h]; exact h3
    · rw [upd_ne hb] at h; exact S.ex b u h
  · obtain ⟨g1, g2⟩ := S.pen q hq
    exact ⟨by rw [upd_ne (fun z => h7 (by rw [← z, hq]))]; exact g1, g2.mono ex rfl (Nat.le_refl _)⟩
  · by_cases hl : j = l
    · subst hl
      have hj : j < O.length := (List.getElem?_eq_some_iff.mp ho).1
      rw [List.getElem?_set_self hj] at g2
      cases g2
    · rw [List.getElem?_set_ne hl] at g2
      obtain ⟨f1, f2, f3, us, f4, f5⟩ := S.own l b fs g1 g2
      refine ⟨?_, f2, f3, us, f4, f5.mono ex⟩
      rw [upd_ne]
      · exact f1
      · intro z
        subst z
        exact hl ((List.getElem?_inj (List.getElem?_eq_some_iff.mp h2).1 S.nd).mp (h2.trans g1.symm))
  · exact ⟨by rw [upd_ne (show b ≠ a from fun z => (S.pr b h).2.2 (by rw [z]; exact h6))]; exact (S.pr b h).1, (S.pr b h).2⟩
  · by_cases hj : i = l
    · subst hj
      have hi' : i < Γ.length := by
        have := (List.getElem?_eq_some_iff.mp g).1
        simpa using this
      rw [List.getElem?_set_self hi'] at g
      cases g
      exact ⟨.ref a, by rw [h1]; rfl, .lst upd_same (h4.mono ex)⟩
    · rw [List.getElem?_set_ne hj] at g
      exact (S.ok l t g).mono ex
/-- an own list that is not to be changed any more -/
theorem ws_freeze {ts : TS} {i j : Nat} {ds : List DV} (hi : Γ[i]? = some (.own j)) (ho : O[j]? = some (some ds)) (h : WS K ts (Γ.set i (.is (.lst ds))) (O.set j none) n E) : WS K ts Γ O n E := fun pn As H0 M H σ D S s => by
  obtain ⟨M', e, S'⟩ := S.freeze hi ho
  exact h pn As H0 M' H σ D S' (s.on e)
theorem Sta.fin (S : Sta K pn As H0 M H σ Γ O n) : Fin K pn H0 M H n := S.toFin
theorem ws_ret (h : W K te Γ O n fun d n1 => E.rt d O n1) : WS K (tRet te) Γ O n E := fun pn As H0 M H σ D S s =>
  h pn As H0 M H σ S _ fun v M1 H1 d n1 e1 S1 r1 q1 => s.rt As v M1 H1 σ Γ O d n1 (List.prefix_refl _) e1 S1 r1 q1
theorem ws_retN (q : E.rt .non O n) : WS K tRetN Γ O n E := fun pn As H0 M H σ D S s => s.rt As .non M H σ Γ O .non n (List.prefix_refl _) (Evl.Ex.refl M) S .non q
/-- return of an own list -/
theorem ws_retOwn {i j : Nat} {ds : List DV} (hi : Γ[i]? = some (.own j)) (ho : O[j]? = some (some ds)) (q : E.rt (.lst ds) (O.set j none) n) : WS K (tRet (tVar i)) Γ O n E :=
  ws_freeze hi ho (ws_ret (w_var (by rw [List.getElem?_set_self (List.getElem?_eq_some_iff.mp hi).1]) q))
theorem ws_drop (h : W K te Γ O n fun _ n1 => E.nx Γ O n1) : WS K (tDrop te) Γ O n E := fun pn As H0 M H σ D S s =>
  h pn As H0 M H σ S _ fun v M1 H1 d n1 e1 S1 r1 q1 => s.nx As M1 H1 σ Γ O n1 (List.prefix_refl _) e1 S1 q1
theorem ws_if {t : TT} {u w : TS} (h : WT K t Γ O n fun b n1 => (b = true → WS K u Γ O n1 E) ∧ (b = false → WS K w Γ O n1 E)) : WS K (tIfS t u w) Γ O n E := fun pn As H0 M H σ D S s =>
  h pn As H0 M H σ S _ fun b M1 H1 n1 e1 S1 q => by
    cases b with
    | true => exact q.1 rfl pn As H0 M1 H1 σ D S1 (s.on e1)
    | false => exact q.2 rfl pn As H0 M1 H1 σ D S1 (s.on e1)
theorem ws_par {i j : Nat} {ta : TA} (h : WA K ta Γ O n fun xs n1 => ∃ x y, xs = [x, y] ∧ E.nx ((Γ.set i (.is x)).set j (.is y)) O n1) : WS K (tPar i j ta) Γ O n E := fun pn As H0 M H σ D S s =>
  h pn As H0 M H σ S _ fun vs M1 H1 xs n1 e1 S1 r1 ⟨x, y, e, q⟩ => by
    subst e
    obtain ⟨u, w, rfl, r, r'⟩ := r1.two
    exact ⟨u, w, rfl, s.nx As M1 H1 _ _ O n1 (List.prefix_refl _) e1 ((S1.store r).store r') q⟩
theorem ws_aug {i : Nat} {f : Int → Int → Int} {a : Int} (hi : Γ[i]? = some (.is (.int a))) (h : W K te Γ O n fun d n1 => ∃ b, d = .int b ∧ E.nx (Γ.set i (.is (.int (f a b)))) O n1) : WS K (tAug i te (ipI f)) Γ O n E := fun pn As H0 M H σ D S s => by
  obtain ⟨v, h1, h2⟩ := S.slot hi
  cases h2
  refine ⟨_, h1, h pn As H0 M H σ S _ fun w M1 H1 d n1 e1 S1 r1 ⟨b, e, q⟩ => ?_⟩
  subst e
  exact ⟨a, b, rfl, r1.int', s.nx As M1 H1 _ _ O n1 (List.prefix_refl _) e1 (S1.store (.int _)) q⟩
/-- targets of all kinds -/
def XG (K : Fg) (g : TG) (x : DV) (Γ : List SA) (O : Own) (n : Nat) (k : List SA → Own → Nat → Prop) : Prop :=
  ∀ (pn : Option Addr) (As : List Addr) (H0 : Ent) (M H : Hp) (σ : L2.St), Sta K pn As H0 M H σ Γ O n → ∀ v, Rp K M v x → ∀ Q : L2.St → Hp → Prop,
    (∀ As' M' H' σ' Γ' O' n', As <+: As' → Ex M M' → Sta K pn As' H0 M' H' σ' Γ' O' n' → k Γ' O' n' → Q σ' H') → g v σ H Q
def XGs (K : Fg) (g : TGs) (ds : List DV) (Γ : List SA) (O : Own) (n : Nat) (k : List SA → Own → Nat → Prop) : Prop :=
  ∀ (pn : Option Addr) (As : List Addr) (H0 : Ent) (M H : Hp) (σ : L2.St), Sta K pn As H0 M H σ Γ O n → ∀ vs, RpL K M vs ds → ∀ Q : L2.St → Hp → Prop,
    (∀ As' M' H' σ' Γ' O' n', As <+: As' → Ex M M' → Sta K pn As' H0 M' H' σ' Γ' O' n' → k Γ' O' n' → Q σ' H') → g vs σ H Q
theorem xg_name {i : Nat} {k : List SA → Own → Nat → Prop} (q : k (Γ.set i (.is x)) O n) : XG K (gName i) x Γ O n k := fun pn As H0 M H σ S v r Q c => c As M H _ _ O n (List.prefix_refl _) (Evl.Ex.refl M) (S.store r) q
theorem xgs_nil {k : List SA → Own → Nat → Prop} (q : k Γ O n) : XGs K gNil [] Γ O n k := fun pn As H0 M H σ S vs r Q c => by
  cases r
  exact ⟨rfl, c As M H σ Γ O n (List.prefix_refl _) (Evl.Ex.refl M) S q⟩
theorem xgs_cons {g : TG} {gs : TGs} {d : DV} {ds : List DV} {k : List SA → Own → Nat → Prop} (h : XG K g d Γ O n fun Γ1 O1 n1 => XGs K gs ds Γ1 O1 n1 k) : XGs K (gCons g gs) (d :: ds) Γ O n k := fun pn As H0 M H σ S vs r Q c => by
  cases r with
  | cons a b => exact ⟨_, _, rfl, h pn As H0 M H σ S _ a _ fun As1 M1 H1 σ1 Γ1 O1 n1 p1 e1 S1 q1 => q1 pn As1 H0 M1 H1 σ1 S1 _ (b.mono e1) Q fun As2 M2 H2 σ2 Γ2 O2 n2 p2 e2 => c As2 M2 H2 σ2 Γ2 O2 n2 (p1.trans p2) (Evl.Ex.trans e1 e2)⟩
theorem xg_tup {nn : Nat} {gs : TGs} {ds : List DV} {k : List SA → Own → Nat → Prop} (hl : ds.length = nn) (h : XGs K gs ds Γ O n k) : XG K (gTup K nn gs) (.tup ds) Γ O n k := fun pn As H0 M H σ S v r Q c => by
  obtain ⟨a, us, rfl, g1, g2⟩ := r.tup'
  exact ⟨a, us, rfl, Evl.ex_t S.ex g1, by rw [g2.length]; exact hl, h pn As H0 M H σ S us g2 Q c⟩
/-- xs[e] = .., xs an own list -/
theorem xg_set {i j : Nat} {ds : List DV} {ti : TE} {k : List SA → Own → Nat → Prop} (hi : Γ[i]? = some (.own j)) (ho : O[j]? = some (some ds))
    (h : W K ti Γ O n fun d n1 => ∃ (a : Int) (l : Nat), d = .int a ∧ ixN ds.length a = some l ∧ k Γ (O.set j (some (ds.set l x))) n1) : XG K (gSub (tVar i) ti rSetL) x Γ O n k := fun pn As H0 M H σ S v r Q c => by
  obtain ⟨a, vs, h1, h2, _⟩ := S.slotOwn hi ho
  refine ⟨_, h1, h pn As H0 M H σ S _ fun w M1 H1 d n1 e1 S1 r1 ⟨z, l, ez, hz, q⟩ => ?_⟩
  subst ez
  obtain ⟨a', vs', g1, g2, g3, g4, _⟩ := S1.slotOwn hi ho
  rw [h1] at g1; cases g1
  exact ⟨a, vs', z, l, rfl, r1.int', g3, by rw [g4.length]; exact hz, c As M1 _ σ Γ _ n1 (List.prefix_refl _) e1 (S1.setOwn g2 ho (RpL.set (r.mono e1) l g4)) q⟩
theorem ws_asgG {g : TG} (h : W K te Γ O n fun d n1 => XG K g d Γ O n1 E.nx) : WS K (tAsg te g) Γ O n E := fun pn As H0 M H σ D S s =>
  h pn As H0 M H σ S _ fun v M1 H1 d n1 e1 S1 r1 q1 => q1 pn As H0 M1 H1 σ S1 v r1 _ fun As2 M2 H2 σ2 Γ2 O2 n2 p2 e2 S2 q2 => s.nx As2 M2 H2 σ2 Γ2 O2 n2 p2 (Evl.Ex.trans e1 e2) S2 q2
/-- xs.append(e), xs an own list -/
theorem ws_append {i j : Nat} {ds : List DV} (hi : Γ[i]? = some (.own j)) (ho : O[j]? = some (some ds)) (hz : ds.length < 100000) (h : W K te Γ O n fun d n1 => E.nx Γ (O.set j (some (ds ++ [d]))) n1) :
    WS K (tDrop (tBM K "list" rAppend (tVar i) (tCons te tNil))) Γ O n E := fun pn As H0 M H σ D S s => by
  obtain ⟨a, vs, h1, h2, h3, _⟩ := S.slotOwn hi ho
  refine ⟨_, h1, .inl ⟨rfl, _, .inl (.inl h3)⟩, h pn As H0 M H σ S _ fun w M1 H1 d n1 e1 S1 r1 q => ?_⟩
  obtain ⟨a', vs', g1, g2, g3, g4, _⟩ := S1.slotOwn hi ho
  rw [h1] at g1; cases g1
  exact ⟨a, vs', w, rfl, rfl, g3, Evl.sz_lt (by rw [g4.length]; exact hz), s.nx As M1 _ σ Γ _ n1 (List.prefix_refl _) e1 (S1.setOwn g2 ho (g4.append (.cons r1 .nil))) q⟩
def rInsert : V → List V → Hp → VK → Prop := fun x vs H Q => ∃ (l : Addr) (xs : List V) (i : Int) (y : V), x = .ref l ∧ vs = [.int i, y] ∧ H l = some (.lst xs) ∧ xs.length < sizeLine ∧ 0 ≤ i ∧ i < 2 ^ 63 ∧
    Q .non (upd H l (.lst (xs.take i.toNat ++ [y] ++ xs.drop i.toNat)))
theorem ws_insert {i j : Nat} {ds : List DV} {ta : TA} (hi : Γ[i]? = some (.own j)) (ho : O[j]? = some (some ds)) (hz : ds.length < 100000) (h : WA K ta Γ O n fun xs n1 => ∃ (l : Nat) (d : DV), xs = [.int (l : Int), d] ∧ l ≤ ds.length ∧ E.nx Γ (O.set j (some (ds.take l ++ [d] ++ ds.drop l))) n1) :
    WS K (tDrop (tBM K "list" rInsert (tVar i) ta)) Γ O n E := fun pn As H0 M H σ D S s => by
  obtain ⟨a, vs, h1, h2, h3, _⟩ := S.slotOwn hi ho
  refine ⟨_, h1, .inl ⟨rfl, _, .inl (.inl h3)⟩, h pn As H0 M H σ S _ fun ws M1 H1 xs n1 e1 S1 r1 ⟨l, d, e, hl, q⟩ => ?_⟩
  subst e
  obtain ⟨u, w, rfl, r, r'⟩ := r1.two
  cases r
  obtain ⟨a', vs', g1, g2, g3, g4, _⟩ := S1.slotOwn hi ho
  rw [h1] at g1; cases g1
  refine ⟨a, vs', (l : Int), w, rfl, rfl, g3, Evl.sz_lt (by rw [g4.length]; exact hz), by omega, by omega, ?_⟩
  rw [Int.toNat_natCast]
  exact s.nx As M1 _ σ Γ _ n1 (List.prefix_refl _) e1 (S1.setOwn g2 ho (((g4.take l).append (.cons r' .nil)).append (g4.drop l))) q
/-! ### loops -/
theorem ws_for {wi : TI} {g : TG} {tb : TS} {vs : List Nat}
    (h : SW K wi Γ O n fun xs n1 => ∃ I : Nat → List SA → Own → Nat → Prop, I 0 Γ O n1 ∧
      (∀ (i : Nat) (x : DV) (Γ' : List SA) (O' : Own) (n' : Nat), xs[i]? = some x → I i Γ' O' n' → GW K g vs x Γ' fun Γ2 => WS K tb Γ2 O' n' { nx := I (i + 1), ct := I (i + 1), bk := E.nx, rt := E.rt }) ∧
      ∀ Γ' O' n', I xs.length Γ' O' n' → E.nx Γ' O' n') : WS K (tFor wi g tb) Γ O n E := fun pn As H0 M H σ D S s =>
  h pn As H0 M H σ S _ fun J M1 H1 xs n1 e1 S1 it ⟨I, i0, step, fin⟩ => by
    refine ⟨fun i m σ' H' => m = xs.length - i ∧ i ≤ xs.length ∧ ∃ As' M' Γ' O' n', As <+: As' ∧ Ex M1 M' ∧ Sta K pn As' H0 M' H' σ' Γ' O' n' ∧ I i Γ' O' n', ⟨xs.length, by simp, Nat.zero_le _, As, M1, Γ, O, n1, List.prefix_refl _, Evl.Ex.refl M1, S1, i0⟩, ?_⟩
    rintro i m σ' H' ⟨rfl, hi, As', M', Γ', O', n', pA, e2, S2, p2⟩
    obtain ⟨gd, sd⟩ := it pn As' H0 M' H' σ' Γ' O' n' e2 S2 i
    by_cases hlt : i < xs.length
    · have hx : xs[i]? = some xs[i] := by simp [hlt]
      obtain ⟨g1, g2⟩ := gd _ hx
      refine .inr ⟨g1, fun σ'' H'' => i + 1 ≤ xs.length ∧ ∃ As' M' Γ' O' n', As <+: As' ∧ Ex M1 M' ∧ Sta K pn As' H0 M' H'' σ'' Γ' O' n' ∧ I (i + 1) Γ' O' n', fun σ'' H'' q => ⟨xs.length - (i + 1), by omega, rfl, q⟩, fun z H3 hy => ?_⟩
      obtain ⟨M3, e3, S3, r3⟩ := g2 z H3 hy
      have e13 : Ex M1 M3 := Evl.Ex.trans e2 e3
      refine step i _ Γ' O' n' hx p2 pn As' H0 M3 H3 σ' O' n' S3 z r3 _ fun σ4 Γ4 S4 w4 q4 => ?_
      refine q4 pn As' H0 M3 H3 σ4 _ S4 ⟨fun A5 M5 H5 σ5 Γ5 O5 n5 p5 e5 S5 q5 => ⟨hlt, A5, M5, Γ5, O5, n5, pA.trans p5, Evl.Ex.trans e13 e5, S5, q5⟩, fun A5 v M5 H5 σ5 Γ5 O5 d n5 p5 e5 => s.rt A5 v M5 H5 σ5 Γ5 O5 d n5 (pA.trans p5) (Evl.Ex.trans e1 (Evl.Ex.trans e13 e5)),
        fun A5 M5 H5 σ5 Γ5 O5 n5 p5 e5 => s.nx A5 M5 H5 σ5 Γ5 O5 n5 (pA.trans p5) (Evl.Ex.trans e1 (Evl.Ex.trans e13 e5)), fun A5 M5 H5 σ5 Γ5 O5 n5 p5 e5 S5 q5 => ⟨hlt, A5, M5, Γ5, O5, n5, pA.trans p5, Evl.Ex.trans e13 e5, S5, q5⟩⟩
    · have e : i = xs.length := by omega
      subst e
      exact .inl ⟨sd (Nat.le_refl _), s.nx As' M' H' σ' Γ' O' n' pA (Evl.Ex.trans e1 e2) S2 (fin Γ' O' n' p2)⟩
theorem ws_while {c : TT} {tb : TS}
    (h : ∃ I : Nat → List SA → Own → Nat → Prop, (∃ m, I m Γ O n) ∧ ∀ m Γ' O' n', I m Γ' O' n' → WT K c Γ' O' n' fun b n2 =>
      (b = true → WS K tb Γ' O' n2 { nx := fun Γ3 O3 n3 => ∃ m', m' < m ∧ I m' Γ3 O3 n3, ct := fun Γ3 O3 n3 => ∃ m', m' < m ∧ I m' Γ3 O3 n3, bk := E.nx, rt := E.rt }) ∧ (b = false → E.nx Γ' O' n2)) : WS K (tWhile c tb) Γ O n E := fun pn As H0 M H σ D S s => by
  obtain ⟨I, ⟨m0, i0⟩, step⟩ := h
  refine ⟨fun m σ' H' => ∃ As' M' Γ' O' n', As <+: As' ∧ Ex M M' ∧ Sta K pn As' H0 M' H' σ' Γ' O' n' ∧ I m Γ' O' n', ⟨m0, As, M, Γ, O, n, List.prefix_refl _, Evl.Ex.refl M, S, i0⟩, ?_⟩
  rintro m σ' H' ⟨As', M', Γ', O', n', pA, e2, S2, p2⟩
  refine step m Γ' O' n' p2 pn As' H0 M' H' σ' S2 _ fun b M3 H3 n3 e3 S3 q3 => ?_
  cases b with
  | false =>
    rw [if_neg Bool.false_ne_true]
    exact s.nx As' M3 H3 σ' Γ' O' n3 pA (Evl.Ex.trans e2 e3) S3 (q3.2 rfl)
  | true =>
    rw [if_pos rfl]
    refine ⟨fun σ'' H'' => ∃ m', m' < m ∧ ∃ As' M' Γ' O' n', As <+: As' ∧ Ex M M' ∧ Sta K pn As' H0 M' H'' σ'' Γ' O' n' ∧ I m' Γ' O' n', fun σ'' H'' q => q, ?_⟩
    have e23 := Evl.Ex.trans e2 e3
    have again : ∀ A5 M5 H5 σ5 Γ5 O5 n5, As' <+: A5 → Ex M3 M5 → Sta K pn A5 H0 M5 H5 σ5 Γ5 O5 n5 → (∃ m', m' < m ∧ I m' Γ5 O5 n5) → ∃ m', m' < m ∧ ∃ As' M' Γ' O' n', As <+: As' ∧ Ex M M' ∧ Sta K pn As' H0 M' H5 σ5 Γ' O' n' ∧ I m' Γ' O' n' :=
      fun A5 M5 H5 σ5 Γ5 O5 n5 p5 e5 S5 ⟨m', hm, q5⟩ => ⟨m', hm, A5, M5, Γ5, O5, n5, pA.trans p5, Evl.Ex.trans e23 e5, S5, q5⟩
    exact q3.1 rfl pn As' H0 M3 H3 σ' _ S3 ⟨again, fun A5 v M5 H5 σ5 Γ5 O5 d n5 p5 e5 => s.rt A5 v M5 H5 σ5 Γ5 O5 d n5 (pA.trans p5) (Evl.Ex.trans e23 e5), fun A5 M5 H5 σ5 Γ5 O5 n5 p5 e5 => s.nx A5 M5 H5 σ5 Γ5 O5 n5 (pA.trans p5) (Evl.Ex.trans e23 e5), again⟩
end
end DL
namespace DL
open PySem PySem.Spec PyProof.Rows L2
/-! calls, with what is known of the repr-guards around -/
section
variable {P : Program} {w : World} {K : Fg} {mg : Str → Option Value} {base : Heap}
structure FnG (P : Program) (w : World) (K : Fg) (mg : Str → Option Value) (base : Heap) (CX : CXT) (k : Nat) (f : Addr) (fd : FuncData) (ps : List Str) (sp : Sp) : Prop where
  len : ∀ vs H Q E, sp vs H Q E → vs.length = ps.length
  go : ∀ (A : Around) (outer : List Env) (s : Shared) (H : Hp) (args : Args) (us : List Value) (vs : List V) (Q : VK) (E : XK), Room k A → A.guards = some [] → Env0 P w K mg base A outer s H →
    BindsTo s fd args (ps.zip us) → Vals vs us → sp vs H Q E → codeAny (model P w) A (.call (.ref f) args) (CR CX outer P w H s Q E) s
theorem FnG.mono {CX : CXT} {j k : Nat} {f : Addr} {fd : FuncData} {ps : List Str} {sp : Sp} (F : FnG P w K mg base CX j f fd ps sp) (h : j ≤ k) : FnG P w K mg base CX k f fd ps sp :=
  ⟨F.len, fun A outer s H args us vs Q E r => F.go A outer s H args us vs Q E (r.mono h)⟩
theorem fnG_fun {CX : CXT} {x qual : Str} {st : Stmt} {f : Addr} {fd : FuncData} {N ps : List Str} {k : Nat} {sp : Sp} (F : Fun K x qual st f fd) (S : FnScope N ps (defScope st))
    (len : ∀ vs H Q E, sp vs H Q E → vs.length = ps.length)
    (hb : ∀ (cdv : Value) (A : Around) (outer : List Env) (s : Shared) (H : Hp) (vs : List V) (Q : VK) (E : XK), Room k (A.deeper (envOfC qual (defScope st) s.heap.objs.size f cdv)) → A.guards = some [] → sp vs H Q E →
      ∃ t, PSs (cxOf CX P w K mg base N qual (defScope st) f cdv A outer s H E) (defBody st) t ∧ t { nx := fun _ H' => Q .non H', rt := Q } (start N vs) H) : FnG P w K mg base CX (k + 1) f fd ps sp := by
  obtain ⟨oc, od, kV, doc, pm, an, cdv, ct, osl, rfl, lk, hcd⟩ := F.ex
  constructor
  · exact len
  intro A outer s H args us vs Q E hr hG e0 hbi rv hsp
  have KX : K.In s.heap := e0.mod.kin.keeps fun b o z => (e0.bs b o z).1
  have lim : s.heap.NoLimit := e0.mod.nolimit.keeps fun b o z => (e0.bs b o z).1
  apply codeAny_call_function hr.depth (KX _ _ lk) rfl S.co S.gen rfl (PySem.W.codeRec_of KX hcd)
  apply hbi
  apply wpAny_newFunctionEnv_cells S.kind
  · rintro ⟨y, u⟩ hy
    rcases S.par y (List.of_mem_zip hy).1 with q | q
    · exact Or.inl q
    · exact Or.inr ⟨q, PySem.W.cellsFrom_some _ _ _ (Or.inl q)⟩
  intro env he s1 hx
  subst he
  refine ⟨lim.keeps hx.toInCall.keep, codeAny_func ?_⟩
  obtain ⟨t, ht, hq⟩ := hb cdv A outer s H vs Q E (hr.deeper _) hG hsp
  have I0 := inv_start (E := E) (CX := CX) S hr.hd e0 (len _ _ _ _ hsp) rv hx
  apply wpAny_mono (ht.run [] s1 _ H _ I0 hq)
  · intro fl s2 h2
    cases fl with
    | ret u =>
      obtain ⟨z, τ, H2, J, r2, q2⟩ := h2
      exact ⟨z, H2, J.os, J.bare, J.base, J.hok, r2, q2⟩
    | next =>
      obtain ⟨τ, H2, J, q2⟩ := h2
      exact ⟨V.non, H2, J.os, J.bare, J.base, J.hok, rfl, q2⟩
    | brk =>
      obtain ⟨_, _, _, q2⟩ := h2
      exact q2.elim
    | cont =>
      obtain ⟨_, _, _, q2⟩ := h2
      exact q2.elim
  · exact fun e s2 h2 => h2
end
section
variable {X : Cx} {CX : CXT} {k : Nat} {f C : Addr} {fd : FuncData} {ps ks : List Str} {sp : Sp} {dvs : List V} {ds : List Value} {E : XK} {x m : Str} {p pos apos kpos : Pos} {e o : Expr} {es : List Expr} {ta te : TE} {t tk : TA} {kws : List Keyword}
  {pins : List (Addr × Obj)} {σ : L2.St} {H : Hp} {s : Shared} {Q : VK} {us ws : List Value} {vs zs : List V}
theorem after_go (I : Inv X pins σ H s) (hx : Passes CX X E) {r : Result} {s' : Shared} (h : CR CX X.stack X.prog X.w H s Q E r s') :
    (match r with | .ok (.ret u) => EP X pins σ Q u s' | .ok _ => False | .error e => X.xe e s') := by
  cases r with
  | error e => exact hx pins σ H s e s' I h
  | ok fl =>
    cases fl with
    | ret u => exact I.after h
    | next => exact h
    | brk => exact h
    | cont => exact h
theorem run_G (F : FnG X.prog X.w X.K X.mg X.base CX k f fd ps sp) (hr : Room k X.A) (hG : X.A.guards = some []) (hb : Binds X.K fd ps ds) (hd : Vals dvs ds) (hx : Passes CX X E)
    (I : Inv X pins σ H s) (r : Vals vs us) (h : sp (vs ++ dvs) H Q E) : wpAny (model X.prog X.w) X.A (call (.ref f) us) (EP X pins σ Q) X.xe s := by
  have r2 := r.append hd
  have hl := F.len _ _ _ _ h
  rw [r2.length] at hl
  apply wpAny_call
  refine codeAny_mono (F.go X.A X.stack s H ⟨us, []⟩ _ _ Q E hr hG I.env0 (hb s us I.kIn hl) r2 h) ?_
  intro r s' h'
  have z := after_go I hx h'
  cases r with
  | error e => exact z
  | ok fl =>
    cases fl with
    | ret u => exact z
    | next => exact z.elim
    | brk => exact z.elim
    | cont => exact z.elim
theorem pe_callG (F : FnG X.prog X.w X.K X.mg X.base CX k f fd ps sp) (hr : Room k X.A) (hG : X.A.guards = some []) (hg : Gl X x) (hm : X.mg x = some (.ref f)) (hk : PySem.W.keepIn X.K (.ref f) = true) (hb : Binds X.K fd ps ds) (hd : Vals dvs ds) (hx : Passes CX X E)
    (ha : PA X (e :: es) t) (hdb : (x == ("__debug__" : Str)) = false := by decide) (he : starEach (e :: es) X.env = (false, eval e X.env) :: starEach es X.env := by rfl) (hpl : (backTo pos (starEach es X.env)).any (·.1) = false := by rfl) :
    PE X (.Call (.Name x p) (e :: es) [] pos) (tCall sp dvs E t) := by
  constructor
  intro pins s σ H Q I h
  apply wpAny_Call_Name_kw (ld_glob I hg hm ?_ hdb)
  apply PySem.W.callWith_K (h₀ := X.base) I.ok.mod.kin hk ?_ he hpl
  apply thn (ha.run pos pins s σ H _ I h)
  rintro us s1 ⟨vs, H1, I1, r1, q1⟩
  exact ⟨I1.kIn, run_G F hr hG hb hd hx I1 r1 q1⟩
theorem pe_callG0 (F : FnG X.prog X.w X.K X.mg X.base CX k f fd ps sp) (hr : Room k X.A) (hG : X.A.guards = some []) (hg : Gl X x) (hm : X.mg x = some (.ref f)) (hk : PySem.W.keepIn X.K (.ref f) = true) (hb : Binds X.K fd ps ds) (hd : Vals dvs ds) (hx : Passes CX X E)
    (hdb : (x == ("__debug__" : Str)) = false := by decide) : PE X (.Call (.Name x p) [] [] pos) (tCall sp dvs E tNil) := by
  constructor
  intro pins s σ H Q I h
  apply wpAny_Call_Name_kw (ld_glob I hg hm ?_ hdb)
  exact PySem.W.callWith_K0 I.kIn hk (run_G (us := []) F hr hG hb hd hx I .nil h)
variable {g : List Value → List Value → List Value} {gV : List V → List V → List V} {nn : Nat}
theorem run_GK (F : FnG X.prog X.w X.K X.mg X.base CX k f fd ps sp) (hr : Room k X.A) (hG : X.A.guards = some []) (hb : KBn X.K fd ps nn ks g gV) (hx : Passes CX X E)
    (I : Inv X pins σ H s) (r : Vals vs us) (rz : Vals zs ws) (l1 : vs.length = nn) (l2 : zs.length = ks.length) (h : sp (gV vs zs) H Q E) : wpAny (model X.prog X.w) X.A (call (.ref f) us (ks.zip ws)) (EP X pins σ Q) X.xe s := by
  have r2 := hb.rel r rz
  apply wpAny_call
  refine codeAny_mono (F.go X.A X.stack s H ⟨us, ks.zip ws⟩ _ _ Q E hr hG I.env0 (hb.to s us ws I.kIn (by rw [← r.length]; exact l1) (by rw [← rz.length]; exact l2)) r2 h) ?_
  intro r s' h'
  have z := after_go I hx h'
  cases r with
  | error e => exact z
  | ok fl =>
    cases fl with
    | ret u => exact z
    | next => exact z.elim
    | brk => exact z.elim
    | cont => exact z.elim
/-- f(e, .., k = v, ..): nn by place, mm by keyword -/
def tCallM (nn mm : Nat) (sp : Sp) (gV : List V → List V → List V) (E : XK) (t tk : TA) : TE := fun σ H Q => t σ H fun vs H1 => tk σ H1 fun zs H2 => vs.length = nn ∧ zs.length = mm ∧ sp (gV vs zs) H2 Q E
theorem pe_callGK (F : FnG X.prog X.w X.K X.mg X.base CX k f fd ps sp) (hr : Room k X.A) (hG : X.A.guards = some []) (hg : Gl X x) (hm : X.mg x = some (.ref f)) (hk : PySem.W.keepIn X.K (.ref f) = true) (hb : KBn X.K fd ps nn ks g gV) (hx : Passes CX X E)
    (ha : PA X (e :: es) t) (hkw : PK X kws tk) (hall : (backToKw pos (keywordEach kws X.env)).all (·.1.isSome) = true := by rfl) (hks : (backToKw pos (keywordEach kws X.env)).filterMap (·.1) = ks := by rfl)
    (hdb : (x == ("__debug__" : Str)) = false := by decide) (he : starEach (e :: es) X.env = (false, eval e X.env) :: starEach es X.env := by rfl)
    (hpl : ((backTo pos (starEach (e :: es) X.env)).any (·.1) || (backToKw pos (keywordEach kws X.env)).any (·.1.isNone)) = false := by rfl) :
    PE X (.Call (.Name x p) (e :: es) kws pos) (tCallM nn ks.length sp gV E t tk) := by
  constructor
  intro pins s σ H Q I h
  apply wpAny_Call_Name_kw (ld_glob I hg hm ?_ hdb)
  apply PySem.W.callWith_KW (h₀ := X.base) I.ok.mod.kin hk hall ?_ hpl he
  apply thn (ha.run pos pins s σ H _ I h)
  rintro us s1 ⟨vs, H1, I1, r1, q1⟩
  apply thn (hkw.run pos pins s1 σ H1 _ I1 q1)
  rintro ws s2 ⟨zs, H2, I2, rz, l1, l2, q2⟩
  refine ⟨I2.kIn, ?_⟩
  rw [hks]
  exact run_GK F hr hG hb hx I2 r1 rz l1 l2 q2
theorem pe_callGK0 (F : FnG X.prog X.w X.K X.mg X.base CX k f fd ps sp) (hr : Room k X.A) (hG : X.A.guards = some []) (hg : Gl X x) (hm : X.mg x = some (.ref f)) (hk : PySem.W.keepIn X.K (.ref f) = true) (hb : KBn X.K fd ps 0 ks g gV) (hx : Passes CX X E)
    (hkw : PK X kws tk) (hall : (backToKw pos (keywordEach kws X.env)).all (·.1.isSome) = true := by rfl) (hks : (backToKw pos (keywordEach kws X.env)).filterMap (·.1) = ks := by rfl)
    (hdb : (x == ("__debug__" : Str)) = false := by decide)
    (hpl : ((backTo pos (starEach [] X.env)).any (·.1) || (backToKw pos (keywordEach kws X.env)).any (·.1.isNone)) = false := by rfl) :
    PE X (.Call (.Name x p) [] kws pos) (tCallM 0 ks.length sp gV E tNil tk) := by
  constructor
  intro pins s σ H Q I h
  apply wpAny_Call_Name_kw (ld_glob I hg hm ?_ hdb)
  apply PySem.W.callWith_KW0 (h₀ := X.base) I.ok.mod.kin hk hall ?_ hpl
  apply thn (hkw.run pos pins s σ H _ I h)
  rintro ws s2 ⟨zs, H2, I2, rz, l1, l2, q2⟩
  refine ⟨I2.kIn, ?_⟩
  rw [hks]
  exact run_GK (us := []) F hr hG hb hx I2 .nil rz l1 l2 q2
end
/-! ### repr of data -/
def rRepr (K : Fg) : List V → Hp → VK → Prop := fun xs H Q => ∃ a d, xs = [.ref a] ∧ Dp K H (.ref a) d ∧ d.showable = true ∧ d.hasDict = false ∧ d.depth ≤ 60 ∧ d.shown.length ≤ sizeLine ∧ Q (.str d.shown) H
theorem cr_repr {X : Cx} (hG : X.A.guards = some []) (hu : X.A.units + 64 < cLine) : CallR X (.builtin "repr") (rRepr X.K) := by
  intro pins s σ H xs us Q I r h
  obtain ⟨a, d, rfl, hd, h1, h2, h3, h4, q⟩ := h
  obtain ⟨u, rfl, ru⟩ := vals1 r
  obtain ⟨as, hr⟩ := hd.reads I d _ u ru
  cases ru
  refine repr_of_reads' hr h1 (fun z => by rw [h2] at z; cases z) hG (by omega) (fun b o z => z) (fun h' t tk hk => ?_) h4
  exact ⟨.str d.shown, H, I.kept (t' := tk) hk, ⟨t, rfl⟩, q⟩
def showOk (d : PyData) : Prop := d.showable = true ∧ d.hasDict = false ∧ d.depth ≤ 60 ∧ d.shown.length ≤ sizeLine
theorem cw_reprL {K : Fg} {ds : List DV} {k : DV → Prop} (hp : isPy (.lst ds) = true) (hs : showOk (py (.lst ds))) (q : k (.str (py (.lst ds)).shown)) : CW K (rRepr K) [.lst ds] k := fun pn As H0 M H σ Γ O n S vs r Q c => by
  obtain ⟨u, rfl, h1⟩ := r.one
  obtain ⟨a, us, rfl, g1, g2⟩ := id h1.lst'
  exact ⟨a, _, rfl, h1.dp S.ex hp, hs.1, hs.2.1, hs.2.2.1, hs.2.2.2, c _ M H _ (Evl.Ex.refl M) S (.str _) q⟩
theorem cw_reprT {K : Fg} {ds : List DV} {k : DV → Prop} (hp : isPy (.tup ds) = true) (hs : showOk (py (.tup ds))) (q : k (.str (py (.tup ds)).shown)) : CW K (rRepr K) [.tup ds] k := fun pn As H0 M H σ Γ O n S vs r Q c => by
  obtain ⟨u, rfl, h1⟩ := r.one
  obtain ⟨a, us, rfl, g1, g2⟩ := id h1.tup'
  exact ⟨a, _, rfl, h1.dp S.ex hp, hs.1, hs.2.1, hs.2.2.1, hs.2.2.2, c _ M H _ (Evl.Ex.refl M) S (.str _) q⟩
/-! ### the law's own call -/
theorem lawG {P : Program} {w : World} {K : Fg} {mg mb : Str → Option Value} {CX : CXT} {k : Nat} {fa a : Addr} {fd : FuncData} {x : Str} {sp : Sp} {z : Shared} {us : List Value} {ns : List Int}
    (KX : K.In z.heap) (hns : z.heap.Ns mainGlobals mg) (hb : z.heap.Ns builtinsNs mb) (hbb : ∀ x : Str, x ≠ "__name__" → mb x = bootBuiltins x) (hlim : z.heap.NoLimit) (hgen : z.gens = #[])
    (ha : z.heap.get? a = some { cls := .type "list", data := .seq us.toArray }) (hi : IntsAre us ns) (hl : ns.length ≤ sizeLine) (hr : Room k callerA)
    (F : ∀ base : Heap, K.In base → base.Ns mainGlobals mg → FnG P w K mg base CX k fa fd [x] sp) (hbind : ∀ (s : Shared) (u : Value), BindsTo s fd ⟨[u], []⟩ [(x, u)])
    (hsp : ∀ H : Hp, Only H → SqL K H a (ns.map V.int) → sp [.ref a] H (fun v _ => v = .bl true) fun _ _ _ => False)
    (hCX : ∀ H e s', CX [] H z (fun _ _ _ => False) e s' → False) :
    codeAny (model P w) callerA (.call (.ref fa) ⟨[.ref a], []⟩) (fun r s' => r = .ok (.ret (.bool true)) ∧ OldK z.heap s'.heap ∧ s'.os = z.os ∧ AllBare s'.gens) z := by
  have lenV := hi.length
  have main : ∀ H : Hp, Only H → SqL K H a (ns.map V.int) → HOk P w H z.heap → (∀ b, H b ≠ none → b = a) → (H a ≠ none → K.lookup a = none) →
      codeAny (model P w) callerA (.call (.ref fa) ⟨[.ref a], []⟩) (fun r s' => r = .ok (.ret (.bool true)) ∧ OldK z.heap s'.heap ∧ s'.os = z.os ∧ AllBare s'.gens) z := by
    intro H hO hS hok hA hK
    have noD : ∀ {b : Addr} {o : Obj} {es : Array DictEntry} {ep : Nat}, z.heap.get? b = some o → o.data = .dict es ep → H b = none := by
      intro b o es ep e d
      cases q : H b with
      | none => rfl
      | some u =>
        exfalso
        have eb := hA b (by rw [q]; exact fun y => nomatch y)
        rw [eb, ha] at e
        cases e
        cases d
    have nsK : ∀ {b : Addr} {m : Str → Option Value}, z.heap.Ns b m → (hidT z.heap H).Ns b m := by
      rintro b m ⟨o, es, ep, e, d, r⟩
      exact ⟨o, es, ep, hidT_get e (noD e d), d, r⟩
    have hKb : K.In (hidT z.heap H) := by
      intro b o e
      refine hidT_get (KX b o e) ?_
      cases q : H b with
      | none => rfl
      | some u =>
        exfalso
        have eb := hA b (by rw [q]; exact fun y => nomatch y)
        rw [eb] at q e
        rw [hK (by rw [q]; exact fun y => nomatch y)] at e
        cases e
    obtain ⟨mc, l1, l2⟩ := hlim
    have hM : Mod K mg (hidT z.heap H) := ⟨hKb, nsK hns, ⟨mb, nsK hb, hbb⟩, mc, nsK l1, l2⟩
    have e0 : Env0 P w K mg (hidT z.heap H) callerA [] z H := by
      refine ⟨rfl, hM, fun b o e => of_hidT e, Nat.le_of_eq (hidT_size _ _), trivial, ?_, hok, .of_eq hgen⟩
      intro b hb'
      cases hb'
    apply codeAny_mono ((F _ hKb (nsK hns)).go callerA [] z H ⟨[.ref a], []⟩ [.ref a] [.ref a] _ _ hr rfl e0 (hbind z (.ref a)) (.cons rfl .nil) (hsp H hO hS))
    intro r s' h
    cases r with
    | error e => exact (hCX H e s' h).elim
    | ok fl =>
      cases fl with
      | next => exact h.elim
      | brk => exact h.elim
      | cont => exact h.elim
      | ret u =>
        obtain ⟨v, H', os, bare, un, hok', r', q⟩ := h
        have q' : v = .bl true := q
        subst q'
        have hu : u = Value.bool true := r'
        subst hu
        refine ⟨rfl, OldK.of_keep ?_, os, bare⟩
        intro b o e
        cases q : H b with
        | none =>
          refine un.keep b o e q ?_ ?_
          · intro y; cases y
          · intro y; cases y
        | some u =>
          rcases hO b with y | ⟨ob, xs, y⟩
          · rw [q] at y; cases y
          · have t1 := (hok b _ y).1
            have t2 := (hok' b _ (un.frzs b ob _ y)).1
            rw [e] at t1
            cases t1
            exact t2
  by_cases hk : ∃ o, K.lookup a = some o
  · obtain ⟨o, hk⟩ := hk
    have e := KX a o hk
    rw [ha] at e
    cases e
    apply main (fun _ => none)
    · exact fun _ => .inl rfl
    · exact .inr ⟨_, us.toArray, _, hk, rfl, rfl, rfl, by rw [List.size_toArray, lenV]; exact hl, by simpa using vals_ints hi⟩
    · intro b u y; cases y
    · intro b y; exact absurd rfl y
    · intro y; exact absurd rfl y
  · have hk' : K.lookup a = none := by
      cases e : K.lookup a with
      | none => rfl
      | some o => exact absurd ⟨o, e⟩ hk
    let Hs : Hp := fun b => if b = a then some (.frz { cls := .type "list", data := .seq us.toArray } (.lst (ns.map V.int))) else none
    have at_a : Hs a = some (.frz { cls := .type "list", data := .seq us.toArray } (.lst (ns.map V.int))) := if_pos rfl
    have off : ∀ b, b ≠ a → Hs b = none := fun b hb => if_neg hb
    apply main Hs
    · intro b
      by_cases hb : b = a
      · subst hb; exact .inr ⟨_, _, at_a⟩
      · exact .inl (off b hb)
    · exact .inl (.inr ⟨_, at_a⟩)
    · intro b u y
      by_cases hb : b = a
      · subst hb
        rw [at_a] at y
        cases y
        exact ⟨ha, by rw [List.length_map]; exact hl, us, _, vals_ints hi, ha⟩
      · rw [off b hb] at y; cases y
    · intro b y
      by_cases hb : b = a
      · exact hb
      · exact absurd (off b hb) y
    · exact fun _ => hk'
theorem walkG {l : PySem.W.OpenLaw} {n k : Nat} {q : Program} {loose : List Str} {XP : (Str → Option Value) → Heap → Prop} {YP : World → Heap → Prop} {d : DefRec} {K : Params → Fg} {CX : CXT} {sp : Fg → Sp} {x : Str}
    (hn : l.most = some n) (hn2 : n ≤ sizeLine) (hdf : d.params.defaults = []) (hr : Room k callerA) (hY : ∀ (w : World) (h : Heap), YP w h → (K w.params).In h)
    (F : ∀ (w : World) (mg : Str → Option Value) (fa : Addr) (h : Heap), (K w.params).In h → h.Ns mainGlobals mg → mg d.name = some (.ref fa) →
      ∃ fd : FuncData, (∀ (s : Shared) (u : Value), BindsTo s fd ⟨[u], []⟩ [(x, u)]) ∧ ∀ base : Heap, (K w.params).In base → base.Ns mainGlobals mg → FnG l.prog w (K w.params) mg base CX k fa fd [x] (sp (K w.params)))
    (hsp : ∀ (K : Fg) (H : Hp) (a : Addr) (ns : List Int), ns.length ≤ n → Only H → SqL K H a (ns.map V.int) → sp K [.ref a] H (fun v _ => v = .bl true) fun _ _ _ => False)
    (hCX : ∀ (H : Hp) (s : Shared) (e : Value) (s' : Shared), CX [] H s (fun _ _ _ => False) e s' → False) :
    PySem.W.WalkO q loose XP YP l.row.toRowW d [] (fun f vs => PySem.call f vs) := by
  apply Att.attach_call hn hdf
  intro w s₀ s₁ mg mb fa o pm cd doc a vs ns G Y ho hd hcd hmg hobj hints hlen hg
  have KX := hY w _ Y
  obtain ⟨fd, hb, hF⟩ := F w mg fa _ KX G.T.g hmg
  exact lawG KX G.T.g G.T.b G.T.builtins G.T.nolimit hg hobj hints (Nat.le_trans hlen hn2) hr hF hb (fun H hO hS => hsp _ H a ns hlen hO hS) fun H e s' => hCX H s₁ e s'
end DL
namespace DL
open PySem PySem.Spec PyProof.Rows L2
/-! promises over data -/
/-- what is not frozen is not frozen behind it -/
def Thaw (M H M' : Hp) : Prop := ∀ b, H b ≠ none → M b = none → M' b = none
/-- data in, data out; nothing that stood is changed -/
def spD (K : Fg) {α : Type} (pre : α → Prop) (args : α → List DV) (res : α → DV → Prop) : Sp := fun vs H Q _ => ∃ (M : Hp) (a : α), pre a ∧ Ex M H ∧ RpL K M vs (args a) ∧
  ∀ v M' H' d, Ex M M' → Ex H H' → Ex M' H' → Thaw M H M' → Rp K M' v d → res a d → Q v H'
/-- the same with the pen ahead: it turns, at most cost times -/
def spP (K : Fg) {α : Type} (pre : α → Prop) (args : α → List DV) (cost : α → Nat) (res : α → DV → Prop) : Sp := fun vs H Q _ => ∃ (p : Addr) (us : List V) (M : Hp) (n : Nat) (a : α), pre a ∧ vs = .ref p :: us ∧ Ex M H ∧ M p = none ∧ PenAt K M H p n ∧ n + cost a ≤ 1000000 ∧ RpL K M us (args a) ∧
  ∀ v M' H' d, Ex M M' → (∀ b o, b ≠ p → H b = some o → H' b = some o) → Ex M' H' → Thaw M H M' → PenAt K M' H' p (n + cost a) → Rp K M' v d → res a d → Q v H'
def slotsD (N : List Str) (ds : List DV) : List SA := ds.map .is ++ List.replicate (N.length - ds.length) .no
def slotsP (N : List Str) (ds : List DV) : List SA := .pen :: ds.map .is ++ List.replicate (N.length - ds.length - 1) .no
section
variable {K : Fg} {α : Type} {pre : α → Prop} {args : α → List DV} {cost : α → Nat} {res : α → DV → Prop} {N : List Str} {vs : List V} {H M : Hp} {Q : VK} {E : XK} {t : TS}
theorem slots_ok {pn : Option Addr} {As : List Addr} : ∀ {ds : List DV} {us : List V} (r : RpL K M us ds) (m : Nat) (i : Nat) (s : SA), (ds.map SA.is ++ List.replicate m SA.no)[i]? = some s → SlotOk K pn As M s ((us.map some ++ List.replicate m none)[i]?.join)
  | [], _, r, m, i, s, h => by
    cases r
    simp only [List.map_nil, List.nil_append] at h
    rw [List.getElem?_replicate] at h
    split at h
    · cases h; exact True.intro
    · cases h
  | d :: ds, _, r, m, 0, s, h => by
    cases r with
    | cons a b =>
      simp at h
      subst h
      exact ⟨_, rfl, a⟩
  | d :: ds, _, r, m, i + 1, s, h => by
    cases r with
    | cons a b =>
      simp only [List.map_cons, List.cons_append, List.getElem?_cons_succ] at h ⊢
      exact slots_ok b m i s h
theorem enter (e : Ex M H) (r : RpL K M vs ds) : Sta K none [] ⟨H, fun a => H a ≠ none ∧ M a = none⟩ M H (L2.start N vs) (slotsD N ds) [] 0 := by
  refine ⟨⟨e, fun a o _ h => h, fun p hp => nomatch hp⟩, fun j a ds h => by simp at h, fun a h => by simp at h, fun a h => ⟨h.2, h.1, h.1⟩, List.nodup_nil, rfl, ?_, fun i s h => ?_⟩
  · unfold L2.start slotsD
    simp [r.length]
  · unfold L2.start slotsD at *
    rw [r.length]
    exact slots_ok r _ i s h
theorem body_D (h : spD K pre args res vs H Q E) (hw : ∀ a, pre a → WS K t (slotsD N (args a)) [] 0 { nx := fun _ _ _ => res a .non, rt := fun d _ _ => res a d }) :
    t { nx := fun _ H' => Q .non H', rt := Q } (L2.start N vs) H := by
  obtain ⟨M, a, hp, e, r, c⟩ := h
  refine hw a hp none [] ⟨H, fun a => H a ≠ none ∧ M a = none⟩ M H (L2.start N vs) _ (enter e r) ⟨?_, ?_, ?_, ?_⟩
  · intro As M' H' σ Γ O n _ e1 S q
    exact c .non M' H' .non e1 (fun a o z => S.kp a o (fun y => nomatch y) z) S.ex (fun b h1 h2 => (S.pr b ⟨h1, h2⟩).1) .non q
  · intro As v M' H' σ Γ O d n _ e1 S r1 q
    exact c v M' H' d e1 (fun a o z => S.kp a o (fun y => nomatch y) z) S.ex (fun b h1 h2 => (S.pr b ⟨h1, h2⟩).1) r1 q
  · intro As M' H' σ Γ O n _ e1 S q
    exact q
  · intro As M' H' σ Γ O n _ e1 S q
    exact q
theorem enterP {p : Addr} {n : Nat} (e : Ex M H) (hp : M p = none) (pen : PenAt K M H p n) (r : RpL K M vs ds) : Sta K (some p) [] ⟨H, fun a => H a ≠ none ∧ M a = none⟩ M H (L2.start N (.ref p :: vs)) (slotsP N ds) [] n := by
  refine ⟨⟨e, fun a o _ h => h, fun q hq => by cases hq; exact ⟨hp, pen⟩⟩, fun j a ds h => by simp at h, fun a h => by simp at h, fun a h => ⟨h.2, h.1, h.1⟩, List.nodup_nil, rfl, ?_, fun i s h => ?_⟩
  · unfold L2.start slotsP
    simp [r.length]
    omega
  · unfold L2.start
    cases i with
    | zero =>
      simp [slotsP] at h
      subst h
      exact ⟨p, rfl, rfl⟩
    | succ i =>
      have h' : (ds.map SA.is ++ List.replicate (N.length - ds.length - 1) SA.no)[i]? = some s := h
      have q := slots_ok (pn := some p) (As := []) r (N.length - ds.length - 1) i s h'
      have e0 : N.length - (V.ref p :: vs).length = N.length - ds.length - 1 := by simp [r.length]; omega
      rw [e0]
      exact q
theorem body_P (h : spP K pre args cost res vs H Q E) (hw : ∀ a n, pre a → n + cost a ≤ 1000000 → WS K t (slotsP N (args a)) [] n { nx := fun _ _ m => m ≤ n + cost a ∧ res a .non, rt := fun d _ m => m ≤ n + cost a ∧ res a d }) :
    t { nx := fun _ H' => Q .non H', rt := Q } (L2.start N vs) H := by
  obtain ⟨p, us, M, n, a, hpre, rfl, e, hp, pen, hn, r, c⟩ := h
  have off : ∀ b, b ≠ p → some b ≠ some p := fun b hb z => hb (Option.some.inj z)
  refine hw a n hpre hn (some p) [] ⟨H, fun a => H a ≠ none ∧ M a = none⟩ M H (L2.start N (.ref p :: us)) _ (enterP e hp pen r) ⟨?_, ?_, ?_, ?_⟩
  · intro As M' H' σ Γ O m _ e1 S q
    exact c .non M' H' .non e1 (fun b o hb z => S.kp b o (off b hb) z) S.ex (fun b h1 h2 => (S.pr b ⟨h1, h2⟩).1) ((S.pen p rfl).2.mono (Evl.Ex.refl _) rfl q.1) .non q.2
  · intro As v M' H' σ Γ O d m _ e1 S r1 q
    exact c v M' H' d e1 (fun b o hb z => S.kp b o (off b hb) z) S.ex (fun b h1 h2 => (S.pr b ⟨h1, h2⟩).1) ((S.pen p rfl).2.mono (Evl.Ex.refl _) rfl q.1) r1 q.2
  · intro As M' H' σ Γ O m _ e1 S q
    exact q
  · intro As M' H' σ Γ O m _ e1 S q
    exact q
end
section
variable {K : Fg} {α : Type} {pre : α → Prop} {args : α → List DV} {cost : α → Nat} {res : α → DV → Prop} {E : XK} {Γ : List SA} {O : Own} {n : Nat} {ta tr tk : TA} {k : DV → Nat → Prop}
theorem runs_D {pn : Option Addr} {As : List Addr} {H0 : Ent} {M1 H1 : Hp} {σ : L2.St} {n1 : Nat} {vs : List V} {a : α} {Q : VK} (S1 : Sta K pn As H0 M1 H1 σ Γ O n1) (r1 : RpL K M1 vs (args a)) (hpre : pre a)
    (c : ∀ v M' H' d, Ex M1 M' → Sta K pn As H0 M' H' σ Γ O n1 → Rp K M' v d → res a d → Q v H') : spD K pre args res vs H1 Q E := by
  refine ⟨M1, a, hpre, S1.ex, r1, fun v M' H' d e2 eh ex th rv hd => ?_⟩
  refine c v M' H' d e2 ⟨⟨ex, fun b o g1 g2 => eh b o (S1.kp b o g1 g2), fun p hp => ?_⟩, fun j b fs g1 g2 => ?_, fun b hb => ?_, fun b hb => ?_, S1.nd, S1.len, S1.sl, fun i s g => (S1.ok i s g).mono e2⟩ rv hd
  · obtain ⟨g1, g2⟩ := S1.pen p hp
    have g3 : H1 p ≠ none := by
      obtain ⟨_, _, _, _, g3, _⟩ := g2
      rw [g3]; exact fun z => nomatch z
    refine ⟨th p g3 g1, g2.mono e2 ?_ (Nat.le_refl _)⟩
    obtain ⟨_, _, _, _, g4, _⟩ := g2
    rw [g4]; exact eh p _ g4
  · obtain ⟨g3, g4, g5, us, g6, g7⟩ := S1.own j b fs g1 g2
    exact ⟨th b (by rw [g6]; exact fun z => nomatch z) g3, g4, g5, us, eh b _ g6, g7.mono e2⟩
  · intro z
    cases g : H1 b with
    | none => exact S1.live b hb g
    | some o => rw [eh b o g] at z; cases z
  · obtain ⟨g1, g2, g3⟩ := S1.pr b hb
    refine ⟨th b g2 g1, fun z => ?_, g3⟩
    cases g : H1 b with
    | none => exact g2 g
    | some o => rw [eh b o g] at z; cases z
theorem w_call (h : WA K ta Γ O n fun ds n1 => ∃ a, ds = args a ∧ pre a ∧ ∀ d, res a d → k d n1) : W K (tCall (spD K pre args res) [] E ta) Γ O n k := fun pn As H0 M H σ S Q c =>
  h pn As H0 M H σ S _ fun vs M1 H1 ds n1 e1 S1 r1 ⟨a, ea, hpre, q⟩ => by
    subst ea
    rw [List.append_nil]
    exact runs_D S1 r1 hpre fun v M' H' d e2 S2 rv hd => c v M' H' d n1 (Evl.Ex.trans e1 e2) S2 rv (q d hd)
theorem w_callP {i : Nat} (hi : Γ[i]? = some .pen) (h : WA K tr Γ O n fun ds n1 => ∃ a, ds = args a ∧ pre a ∧ n1 + cost a ≤ 1000000 ∧ ∀ d, res a d → k d (n1 + cost a)) : W K (tCall (spP K pre args cost res) [] E (tCons (tVar i) tr)) Γ O n k := fun pn As H0 M H σ S Q c => by
  obtain ⟨p, h1, hpn⟩ := S.slotPen hi
  refine ⟨_, h1, h pn As H0 M H σ S _ fun vs M1 H1 ds n1 e1 S1 r1 ⟨a, ea, hpre, hn, q⟩ => ?_⟩
  subst ea
  obtain ⟨g1, g2⟩ := S1.pen p hpn
  refine ⟨p, vs, M1, n1, a, hpre, by rw [List.append_nil], S1.ex, g1, g2, hn, r1, fun v M' H' d e2 eh ex th pen rv hd => ?_⟩
  have off : ∀ b, some b ≠ pn → b ≠ p := fun b hb z => hb (by rw [z, hpn])
  have pl : H1 p ≠ none := by
    obtain ⟨_, _, _, _, g3, _⟩ := g2
    rw [g3]; exact fun z => nomatch z
  have live : ∀ b, H1 b ≠ none → H' b ≠ none := fun b hb z => by
    by_cases hbp : b = p
    · subst hbp
      obtain ⟨_, _, _, _, g3, _⟩ := pen
      rw [g3] at z; cases z
    · cases g : H1 b with
      | none => exact hb g
      | some o => rw [eh b o hbp g] at z; cases z
  refine c v M' H' d (n1 + cost a) (Evl.Ex.trans e1 e2) ⟨⟨ex, fun b o f1 f2 => eh b o (off b f1) (S1.kp b o f1 f2), fun p' hp' => ?_⟩, fun j b fs f1 f2 => ?_, fun b hb => live b (S1.live b hb), fun b hb => ?_, S1.nd, S1.len, S1.sl, fun i s g => (S1.ok i s g).mono e2⟩ rv (q d hd)
  · rw [hpn] at hp'; cases hp'
    exact ⟨th p pl g1, pen⟩
  · obtain ⟨f3, f4, f5, us, f6, f7⟩ := S1.own j b fs f1 f2
    exact ⟨th b (by rw [f6]; exact fun z => nomatch z) f3, f4, f5, us, eh b _ (off b f5) f6, f7.mono e2⟩
  · obtain ⟨f1, f2, f3⟩ := S1.pr b hb
    exact ⟨th b f2 f1, live b f2, f3⟩
/-- a call with keywords: gD puts the data in order as gV the values -/
theorem w_callK {nn mm : Nat} {gV : List V → List V → List V} (gD : List DV → List DV → List DV) (hg : ∀ M vs zs ds es, RpL K M vs ds → RpL K M zs es → ds.length = nn → es.length = mm → RpL K M (gV vs zs) (gD ds es))
    (h : WA K ta Γ O n fun ds n1 => WA K tk Γ O n1 fun es n2 => ds.length = nn ∧ es.length = mm ∧ ∃ a, gD ds es = args a ∧ pre a ∧ ∀ d, res a d → k d n2) : W K (tCallM nn mm (spD K pre args res) gV E ta tk) Γ O n k := by
  intro pn As H0 M H σ S Q c
  refine h pn As H0 M H σ S _ fun vs M1 H1 ds n1 e1 S1 r1 q1 => q1 pn As H0 M1 H1 σ S1 _ fun zs M2 H2 es n2 e2 S2 r2 ⟨l1, l2, a, ea, hpre, q⟩ => ⟨by rw [r1.length]; exact l1, by rw [r2.length]; exact l2, ?_⟩
  have r := hg M2 vs zs ds es (r1.mono e2) r2 l1 l2
  rw [ea] at r
  exact runs_D S2 r hpre fun v M' H' d e3 S3 rv hd => c v M' H' d n2 (Evl.Ex.trans (Evl.Ex.trans e1 e2) e3) S3 rv (q d hd)
end
end DL
namespace DL
open PySem PySem.Spec PyProof.Rows L2
/-! a def of the text: where it stands, and what it promises -/
structure At (K : Fg) (mg : Str → Option Value) (x : Str) (st : Stmt) (ps : List Str) : Prop where
  ex : ∃ f fd, Fun K x x st f fd ∧ mg x = some (.ref f) ∧ Binds K fd ps []
structure Has (P : Program) (w : World) (K : Fg) (mg : Str → Option Value) (base : Heap) (k : Nat) (x : Str) (st : Stmt) (ps : List Str) (sp : Sp) : Prop where
  ex : ∃ f fd, Fun K x x st f fd ∧ mg x = some (.ref f) ∧ Binds K fd ps [] ∧ FnG P w K mg base CX0 k f fd ps sp
section
variable {P : Program} {w : World} {K : Fg} {mg : Str → Option Value} {base : Heap} {x : Str} {st : Stmt} {ps N : List Str} {sp : Sp} {k : Nat}
theorem At.has (A : At K mg x st ps) (S : FnScope N ps (defScope st)) (len : ∀ vs H Q E, sp vs H Q E → vs.length = ps.length)
    (hb : ∀ (f : Addr) (cdv : Value) (A : Around) (outer : List Env) (s : Shared) (H : Hp) (vs : List V) (Q : VK) (E : XK), Room k (A.deeper (envOfC x (defScope st) s.heap.objs.size f cdv)) → A.guards = some [] → sp vs H Q E →
      ∃ t, PSs (cxOf CX0 P w K mg base N x (defScope st) f cdv A outer s H E).nox (defBody st) t ∧ t { nx := fun _ H' => Q .non H', rt := Q } (L2.start N vs) H) : Has P w K mg base (k + 1) x st ps sp := by
  obtain ⟨f, fd, F, hm, bi⟩ := A.ex
  refine ⟨f, fd, F, hm, bi, fnG_fun F S len fun cdv A outer s H vs Q E hr hG h => ?_⟩
  obtain ⟨t, h1, h2⟩ := hb f cdv A outer s H vs Q E hr hG h
  exact ⟨t, h1.nox, h2⟩
theorem Has.mono {j : Nat} (h : Has P w K mg base j x st ps sp) (hj : j ≤ k) : Has P w K mg base k x st ps sp := by
  obtain ⟨f, fd, F, hm, bi, G⟩ := h.ex
  exact ⟨f, fd, F, hm, bi, G.mono hj⟩
end
section
variable {X : Cx} {x : Str} {st : Stmt} {ps ks : List Str} {sp : Sp} {j k : Nat} {p pos : Pos} {e : Expr} {es : List Expr} {t tk : TA} {kws : List Keyword}
theorem pe_callH (h : Has X.prog X.w X.K X.mg X.base j x st ps sp) (hr : Room k X.A) (hj : j ≤ k) (hG : X.A.guards = some []) (ha : PA X (e :: es) t) (hg : Gl X x := by rfl)
    (hdb : (x == ("__debug__" : Str)) = false := by decide) (he : starEach (e :: es) X.env = (false, eval e X.env) :: starEach es X.env := by rfl) (hpl : (backTo pos (starEach es X.env)).any (·.1) = false := by rfl) :
    PE X (.Call (.Name x p) (e :: es) [] pos) (tCall sp [] E0 t) := by
  obtain ⟨f, fd, F, hm, bi, G⟩ := h.ex
  exact pe_callG G (hr.mono hj) hG hg hm F.kp bi .nil pass0 ha hdb he hpl
theorem pe_callH0 (h : Has X.prog X.w X.K X.mg X.base j x st ps sp) (hr : Room k X.A) (hj : j ≤ k) (hG : X.A.guards = some []) (hg : Gl X x := by rfl)
    (hdb : (x == ("__debug__" : Str)) = false := by decide) : PE X (.Call (.Name x p) [] [] pos) (tCall sp [] E0 tNil) := by
  obtain ⟨f, fd, F, hm, bi, G⟩ := h.ex
  exact pe_callG0 G (hr.mono hj) hG hg hm F.kp bi .nil pass0 hdb
/-- how keywords bind, for every function object of the text -/
def KwOk (x : Str) (st : Stmt) (ps : List Str) (nn : Nat) (ks : List Str) (g : List Value → List Value → List Value) : Prop :=
  ∀ (kV doc pm : Value) (an : Option Addr) (cdv ct : Value) (us ws : List Value), us.length = nn → ws.length = ks.length →
    bindArgs (PySem.W.fnOf x x (defArgs st) (defBody st) (defScope st) .none kV doc pm an cdv ct) ⟨us, ks.zip ws⟩ = pure (ps.zip (g us ws))
theorem KwOk.kbn {K : Fg} {f : Addr} {fd : FuncData} {nn : Nat} {g : List Value → List Value → List Value} {gV : List V → List V → List V} (F : Fun K x x st f fd) (h : KwOk x st ps nn ks g)
    (rel : ∀ {vs : List V} {us : List Value} {zs : List V} {ws : List Value}, Vals vs us → Vals zs ws → Vals (gV vs zs) (g us ws)) : KBn K fd ps nn ks g gV := by
  obtain ⟨oc, od, kV, doc, pm, an, cdv, ct, osl, rfl, lk, hcd⟩ := F.ex
  exact ⟨fun s us ws _ l1 l2 => .of_eq (h kV doc pm an cdv ct us ws l1 l2), rel⟩
theorem pe_callHK {nn : Nat} {g : List Value → List Value → List Value} {gV : List V → List V → List V} (h : Has X.prog X.w X.K X.mg X.base j x st ps sp) (kw : KwOk x st ps nn ks g)
    (rel : ∀ {vs : List V} {us : List Value} {zs : List V} {ws : List Value}, Vals vs us → Vals zs ws → Vals (gV vs zs) (g us ws)) (hr : Room k X.A) (hj : j ≤ k) (hG : X.A.guards = some []) (ha : PA X (e :: es) t) (hkw : PK X kws tk)
    (hg : Gl X x := by rfl) (hall : (backToKw pos (keywordEach kws X.env)).all (·.1.isSome) = true := by rfl) (hks : (backToKw pos (keywordEach kws X.env)).filterMap (·.1) = ks := by rfl)
    (hdb : (x == ("__debug__" : Str)) = false := by decide) (he : starEach (e :: es) X.env = (false, eval e X.env) :: starEach es X.env := by rfl)
    (hpl : ((backTo pos (starEach (e :: es) X.env)).any (·.1) || (backToKw pos (keywordEach kws X.env)).any (·.1.isNone)) = false := by rfl) :
    PE X (.Call (.Name x p) (e :: es) kws pos) (tCallM nn ks.length sp gV E0 t tk) := by
  obtain ⟨f, fd, F, hm, bi, G⟩ := h.ex
  exact pe_callGK G (hr.mono hj) hG hg hm F.kp (kw.kbn F rel) pass0 ha hkw hall hks hdb he hpl
theorem pe_callHK0 {g : List Value → List Value → List Value} {gV : List V → List V → List V} (h : Has X.prog X.w X.K X.mg X.base j x st ps sp) (kw : KwOk x st ps 0 ks g)
    (rel : ∀ {vs : List V} {us : List Value} {zs : List V} {ws : List Value}, Vals vs us → Vals zs ws → Vals (gV vs zs) (g us ws)) (hr : Room k X.A) (hj : j ≤ k) (hG : X.A.guards = some []) (hkw : PK X kws tk)
    (hg : Gl X x := by rfl) (hall : (backToKw pos (keywordEach kws X.env)).all (·.1.isSome) = true := by rfl) (hks : (backToKw pos (keywordEach kws X.env)).filterMap (·.1) = ks := by rfl)
    (hdb : (x == ("__debug__" : Str)) = false := by decide)
    (hpl : ((backTo pos (starEach [] X.env)).any (·.1) || (backToKw pos (keywordEach kws X.env)).any (·.1.isNone)) = false := by rfl) :
    PE X (.Call (.Name x p) [] kws pos) (tCallM 0 ks.length sp gV E0 tNil tk) := by
  obtain ⟨f, fd, F, hm, bi, G⟩ := h.ex
  exact pe_callGK0 G (hr.mono hj) hG hg hm F.kp (kw.kbn F rel) pass0 hkw hall hks hdb hpl
/-- permutations of what is handed in: places among us ++ ws -/
def perm {α : Type} (ix : List Nat) (us ws : List α) : List α := ix.filterMap fun i => (us ++ ws)[i]?
theorem perm_rel (ix : List Nat) {vs : List V} {us : List Value} {zs : List V} {ws : List Value} (h1 : Vals vs us) (h2 : Vals zs ws) : Vals (perm ix vs zs) (perm ix us ws) := by
  have h := h1.append h2
  unfold perm
  induction ix with
  | nil => exact .nil
  | cons i ix ih =>
    rw [List.filterMap_cons, List.filterMap_cons]
    cases e : (vs ++ zs)[i]? with
    | none =>
      rw [h.none_of e]
      exact ih
    | some v =>
      obtain ⟨u, hu, r⟩ := h.get e
      rw [hu]
      exact .cons r ih
theorem perm_rp {K : Fg} {M : Hp} (ix : List Nat) {vs zs : List V} {ds es : List DV} (h1 : RpL K M vs ds) (h2 : RpL K M zs es) : RpL K M (perm ix vs zs) (perm ix ds es) := by
  have h := h1.append h2
  unfold perm
  induction ix with
  | nil => exact .nil
  | cons i ix ih =>
    rw [List.filterMap_cons, List.filterMap_cons]
    cases e : (vs ++ zs)[i]? with
    | none =>
      have e2 : (ds ++ es)[i]? = none := by
        rw [List.getElem?_eq_none_iff] at e ⊢
        rw [← h.length]; exact e
      rw [e2]
      exact ih
    | some v =>
      obtain ⟨u, hu, r⟩ := h.get e
      rw [hu]
      exact .cons r ih
/-- a test by truth -/
theorem pt_tru {a : Expr} {ta : TE} (ha : PE X a ta) (he : ∀ whole, isTrue a X.env whole = (do let v ← whole; standAt a.pos; holding [v] (truthy v)) := by intro _; rfl) : PT X a (tTru X.K ta) := pt_truth ha he
end
end DL
namespace DL
open PySem PySem.Spec PyProof.Rows L2
section
variable {K : Fg} {pn : Option Addr} {As : List Addr} {H0 : Ent} {M M' H H' : Hp} {σ : L2.St} {Γ : List SA} {O : Own} {n m : Nat} {te ta tb : TE} {x y : DV} {E : KE}
theorem ow_isB {i j : Bool} {k : DV → Prop} (q : k (.bl (decide (i = j)))) : OW K rIsB (.bl i) (.bl j) k := fun pn As H0 M H σ Γ O n S v w rv rw Q c => by
  cases rv; cases rw
  exact ⟨i, j, rfl, rfl, c _ M H _ (Evl.Ex.refl M) S (.bl _) q⟩
theorem ow_notB {i j : Bool} {k : DV → Prop} (q : k (.bl (!decide (i = j)))) : OW K rNotB (.bl i) (.bl j) k := fun pn As H0 M H σ Γ O n S v w rv rw Q c => by
  cases rv; cases rw
  exact ⟨i, j, rfl, rfl, c _ M H _ (Evl.Ex.refl M) S (.bl _) q⟩
theorem RpL.reverse : ∀ {ds : List DV} {vs : List V}, RpL K M vs ds → RpL K M vs.reverse ds.reverse
  | [], _, h => by cases h; exact .nil
  | d :: ds, _, h => by
    cases h with
    | cons a b =>
      rw [List.reverse_cons, List.reverse_cons]
      exact (RpL.reverse b).append (.cons a .nil)
theorem wl_rev {k : List DV → Nat → Prop} (h : W K te Γ O n fun d n1 => ∃ ds, d = .lst ds ∧ k ds.reverse n1) : WL K (tRevL K te) Γ O n k := fun pn As H0 M H σ S Q c =>
  h pn As H0 M H σ S _ fun v M1 H1 d n1 e1 S1 r1 ⟨ds, e, q⟩ => by
    subst e
    obtain ⟨a, vs, rfl, g1, g2⟩ := r1.lst'
    exact ⟨a, vs, rfl, .inl (.inl (S1.ex _ _ g1)), fun p hp => wl_new S1 hp g2.reverse (fun p vs M4 H4 ds n4 e4 => c p vs M4 H4 ds n4 (Evl.Ex.trans e1 e4)) q⟩
theorem w_dnew {k : DV → Nat → Prop} (q : k (.dic [] []) n) : W K tDNewK Γ O n k := fun pn As H0 M H σ S Q c => fun p hp => by
  obtain ⟨ex, S2⟩ := S.alloc (o := .dK []) hp
  exact c _ _ _ _ n ex S2 (.dic upd_same rfl .nil) q
theorem wl_lst {ta : TA} {k : List DV → Nat → Prop} (h : WA K ta Γ O n fun xs n1 => xs.length ≤ 100000 ∧ k xs n1) : WL K (tLst ta) Γ O n k := fun pn As H0 M H σ S Q c =>
  h pn As H0 M H σ S _ fun vs M1 H1 xs n1 e1 S1 r1 ⟨hl, q1⟩ => ⟨Evl.sz_of (by rw [r1.length]; exact hl), fun p hp =>
    wl_new S1 hp r1 (fun p vs M4 H4 ds n4 e4 => c p vs M4 H4 ds n4 (Evl.Ex.trans e1 e4)) q1⟩
/-! lists and tuples put together -/
theorem owl_new {Q : VK} {k : List DV → Prop} {vs : List V} {ds : List DV} (S : Sta K pn As H0 M H σ Γ O n) {p : Addr} (hp : H p = none) (r : RpL K M vs ds)
    (c : ∀ p vs M' H' ds, Ex M M' → Sta K pn As H0 M' H' σ Γ O n → M' p = none → H0 p = none → some p ≠ pn → p ∉ As → ¬ H0.P p → H' p = some (.lst vs) → RpL K M' vs ds → k ds → Q (.ref p) H') (q : k ds) : Q (.ref p) (upd H p (.lst vs)) :=
  wl_new (k := fun ds n' => k ds ∧ n' = n) S hp r (fun p vs M4 H4 ds n4 e4 S4 h1 h2 h3 h4 hP h5 h6 ⟨h7, h8⟩ => by subst h8; exact c p vs M4 H4 ds e4 S4 h1 h2 h3 h4 hP h5 h6 h7) ⟨q, rfl⟩
theorem owl_cat {xs ys : List DV} {k : List DV → Prop} (hl : xs.length + ys.length ≤ 100000) (q : k (xs ++ ys)) : OWL K (rPlus K) (.lst xs) (.lst ys) k := fun pn As H0 M H σ Γ O n S v w rv rw Q c => by
  obtain ⟨a, vs, rfl, g1, g2⟩ := rv.lst'
  obtain ⟨b, ws, rfl, g3, g4⟩ := rw.lst'
  exact .inr (.inl ⟨a, b, vs, ws, rfl, rfl, S.ex _ _ g1, S.ex _ _ g3, Evl.sz_of (by rw [g2.length, g4.length]; exact hl), fun p hp => owl_new S hp (g2.append g4) c q⟩)
theorem ow_catT {xs ys : List DV} {k : DV → Prop} (hl : xs.length + ys.length ≤ 100000) (q : k (.tup (xs ++ ys))) : OW K (rPlus K) (.tup xs) (.tup ys) k := fun pn As H0 M H σ Γ O n S v w rv rw Q c => by
  obtain ⟨a, vs, rfl, g1, g2⟩ := id rv.tup'
  obtain ⟨b, ws, rfl, g3, g4⟩ := id rw.tup'
  refine .inr (.inr ⟨a, b, vs, ws, rfl, rfl, Evl.ex_t S.ex g1, Evl.ex_t S.ex g3, Evl.sz_of (by rw [g2.length, g4.length]; exact hl), fun e => ?_, fun _ e => ?_, fun _ _ p hp => ?_⟩)
  · subst e
    cases g2
    exact c _ M H _ (Evl.Ex.refl M) S rw q
  · subst e
    cases g4
    rw [List.append_nil] at q
    exact c _ M H _ (Evl.Ex.refl M) S rv q
  · obtain ⟨ex, S2⟩ := S.alloc (o := .tup (vs ++ ws)) hp
    exact c _ _ _ _ ex S2 (.tup (.inl (.inl upd_same)) ((g2.append g4).mono ex)) q
theorem RpL.flat {vs : List V} {ds : List DV} (r : RpL K M vs ds) : ∀ m : Nat, RpL K M (List.replicate m vs).flatten (List.replicate m ds).flatten
  | 0 => .nil
  | m + 1 => by
    rw [List.replicate_succ, List.replicate_succ, List.flatten_cons, List.flatten_cons]
    exact r.append (r.flat m)
theorem owl_rep {xs : List DV} {j : Int} {k : List DV → Prop} (h1 : -(2 ^ 63) ≤ j) (h2 : j < 2 ^ 63) (hl : xs.length * j.toNat ≤ 100000) (q : k (List.replicate j.toNat xs).flatten) : OWL K (rTimes K) (.lst xs) (.int j) k := fun pn As H0 M H σ Γ O n S v w rv rw Q c => by
  obtain ⟨a, vs, rfl, g1, g2⟩ := rv.lst'
  cases rw
  exact .inr (.inl ⟨a, j, vs, rfl, rfl, S.ex _ _ g1, h1, h2, Evl.sz_of (by rw [g2.length]; exact hl), fun p hp => owl_new S hp (g2.flat _) c q⟩)
theorem wl_w {k : List DV → Nat → Prop} {k' : DV → Nat → Prop} (h : WL K te Γ O n k) (hk : ∀ ds n', k ds n' → k' (.lst ds) n') : W K te Γ O n k' := w_of_wl fun pn As H0 M H σ S Q c => h pn As H0 M H σ S Q fun p vs M' H' ds n' e1 S1 h1 h2 h3 h4 h5 h6 h7 h8 => c p vs M' H' ds n' e1 S1 h1 h2 h3 h4 h5 h6 h7 (hk ds n' h8)
theorem Sta.keep (S1 : Sta K pn As H0 M H σ Γ O n) {p : Addr} {vs : List V} {ds : List DV} (h1 : M p = none) (h3 : some p ≠ pn) (h4 : p ∉ As) (hP : ¬ H0.P p) (h5 : H p = some (.lst vs)) (h6 : RpL K M vs ds) :
    Ex M (upd M p (.lst vs)) ∧ Sta K pn As H0 (upd M p (.lst vs)) H σ Γ O n ∧ Rp K (upd M p (.lst vs)) (.ref p) (.lst ds) := by
  have ex : Ex M (upd M p (.lst vs)) := Evl.Ex.new h1
  refine ⟨ex, ⟨⟨fun a u h => ?_, S1.kp, fun q hq => ?_⟩, fun j a es g1 g2 => ?_, S1.live, fun a h => ?_, S1.nd, S1.len, S1.sl, fun i t h => (S1.ok i t h).mono ex⟩, .lst upd_same (h6.mono ex)⟩
  · by_cases ha : a = p
    · subst ha; rw [upd_same] at h; rw [← h]; exact h5
    · rw [upd_ne ha] at h; exact S1.ex a u h
  · obtain ⟨g1, g2⟩ := S1.pen q hq
    exact ⟨by rw [upd_ne (fun z => h3 (by rw [← z, hq]))]; exact g1, g2.mono ex rfl (Nat.le_refl _)⟩
  · obtain ⟨g3, g4, g5, ws, g6, g7⟩ := S1.own j a es g1 g2
    exact ⟨by rw [upd_ne (fun z => h4 (by rw [← z]; exact List.mem_of_getElem? g1))]; exact g3, g4, g5, ws, g6, g7.mono ex⟩
  · exact ⟨by rw [upd_ne (show a ≠ p from fun z => hP (by rw [← z]; exact h))]; exact (S1.pr a h).1, (S1.pr a h).2⟩
theorem ows {r : R2} {k : DV → Prop} (h : OWL K r x y fun ds => k (.lst ds)) : OW K r x y k := fun pn As H0 M H σ Γ O n S v w rv rw Q c =>
  h pn As H0 M H σ Γ O n S v w rv rw Q fun p vs M1 H1 ds e1 S1 h1 h2 h3 h4 hP h5 h6 q => by
    obtain ⟨ex, S2, r2⟩ := S1.keep h1 h3 h4 hP h5 h6
    exact c (.ref p) _ H1 (.lst ds) (Evl.Ex.trans e1 ex) S2 r2 q
theorem cws {r : List V → Hp → VK → Prop} {xs : List DV} {k : DV → Prop} (h : CWL K r xs fun ds => k (.lst ds)) : CW K r xs k := fun pn As H0 M H σ Γ O n S us rv Q c =>
  h pn As H0 M H σ Γ O n S us rv Q fun p vs M1 H1 ds e1 S1 h1 h2 h3 h4 hP h5 h6 q => by
    obtain ⟨ex, S2, r2⟩ := S1.keep h1 h3 h4 hP h5 h6
    exact c (.ref p) _ H1 (.lst ds) (Evl.Ex.trans e1 ex) S2 r2 q
/-- three names at once -/
theorem ws_par3 {i j l : Nat} {ta : TA} (h : WA K ta Γ O n fun xs n1 => ∃ x y z, xs = [x, y, z] ∧ E.nx (((Γ.set i (.is x)).set j (.is y)).set l (.is z)) O n1) : WS K (tPar3 i j l ta) Γ O n E := fun pn As H0 M H σ D S s =>
  h pn As H0 M H σ S _ fun vs M1 H1 xs n1 e1 S1 r1 ⟨x, y, z, e, q⟩ => by
    subst e
    cases r1 with
    | cons a b =>
      obtain ⟨u, w, rfl, r, r'⟩ := b.two
      exact ⟨_, u, w, rfl, s.nx As M1 H1 _ _ O n1 (List.prefix_refl _) e1 (((S1.store a).store r).store r') q⟩
/-! isinstance -/
def rIsA (K : Fg) : List V → Hp → VK → Prop := fun xs H Q => rIsi K xs H Q ∨ rIsiT K xs H Q
theorem cr_isA {X : Cx} : CallR X (.builtin "isinstance") (rIsA X.K) := call_isi.or call_isiT
/-- the built-in type of data -/
def tyD : DV → Option String
  | .non => some "NoneType"
  | .bl _ => some "bool"
  | .int _ => some "int"
  | .str _ => some "str"
  | .tup _ => some "tuple"
  | .lst _ => some "list"
  | .dic _ _ => some "dict"
  | _ => none
theorem Rp.tyX {v : V} {t : String} (r : Rp K M v x) (e : Ex M H) (h : tyD x = some t) : TyX K H v (.type t) := by
  cases r with
  | non => cases h; exact .base .non
  | bl b => cases h; exact .base (.bl b)
  | int i => cases h; exact .base (.int i)
  | str i => cases h; exact .base (.str i)
  | ty i => cases h
  | adr i => cases h
  | tup a b =>
    cases h
    rcases a with (a | ⟨o, a⟩) | ⟨o, its, n', hk, hc, _⟩
    · exact .base (.tup (e _ _ a))
    · exact .fTuple (e _ _ a)
    · exact .kTuple hk hc
  | lst a b => cases h; exact .base (.lst (e _ _ a))
  | ins a b c => cases h
  | exc a b c f => cases h
  | dic a b c => cases h; exact .base (.dK (e _ _ a))
theorem cw_isTy {t c : String} {b : Bool} {k : DV → Prop} (ht : tyD x = some t) (hk : kitB t c = some b) (q : k (.bl b)) : CW K (rIsA K) [x, .ty c] k := fun pn As H0 M H σ Γ O n S vs r Q cc => by
  obtain ⟨u, w, rfl, h1, h2⟩ := r.two
  cases h2
  exact .inl ⟨u, .ty c, _, _, b, rfl, .ty c, h1.tyX S.ex ht, kit_ty hk, cc _ M H _ (Evl.Ex.refl M) S (.bl b) q⟩
def kitL (t : String) : List String → Option Bool
  | [] => some false
  | c :: cs => match kitB t c with
    | some true => some true
    | some false => kitL t cs
    | none => none
theorem kitL_any {t : String} : ∀ {cs : List String} {b : Bool}, kitL t cs = some b → PySem.W.kitAny K (.type t) (cs.map Value.type) = some b
  | [], b, h => by
    cases h
    exact kitAny_nil
  | c :: cs, b, h => by
    unfold kitL at h
    cases e : kitB t c with
    | none => rw [e] at h; cases h
    | some d =>
      rw [e] at h
      cases d with
      | true =>
        cases h
        exact kitAny_cons (kit_ty e) (fun z => nomatch z) fun _ => rfl
      | false => exact kitAny_cons (kit_ty e) (fun _ => kitL_any h) fun z => nomatch z
theorem clsL : ∀ {cs : List String} {vs : List V}, RpL K M vs (cs.map DV.ty) → Paired ClsV vs (cs.map Value.type)
  | [], _, h => by cases h; exact .nil
  | c :: cs, _, h => by
    cases h with
    | cons a b => cases a; exact .cons (.ty c) (clsL b)
theorem w_isT2 {c1 c2 : String} {k : DV → Nat → Prop} (h : W K te Γ O n fun d n1 => ∃ t b, tyD d = some t ∧ kitL t [c1, c2] = some b ∧ k (.bl b) n1) :
    W K (tCB (rIsA K) (tCons te (tCons (tTup (tCons (tC (.ty c1)) (tCons (tC (.ty c2)) tNil))) tNil))) Γ O n k := fun pn As H0 M H σ S Q c =>
  h pn As H0 M H σ S _ fun v M1 H1 d n1 e1 S1 r1 ⟨t, b, ht, hb, q⟩ => ⟨by show 2 ≤ sizeLine; decide, fun p hp => by
    obtain ⟨ex, S2⟩ := S1.alloc (o := .tup [.ty c1, .ty c2]) hp
    exact .inr ⟨v, p, _, _, _, b, rfl, upd_same, clsL (K := K) (M := M1) (cs := [c1, c2]) (.cons (.ty c1) (.cons (.ty c2) .nil)), (r1.mono ex).tyX S2.ex ht, kitL_any hb, c _ _ _ _ n1 (Evl.Ex.trans e1 ex) S2 (.bl b) q⟩⟩
end
section
variable {X : Cx} {e : Expr} {es : List Expr} {t : TA} {p pos : Pos}
theorem pe_sumA (hm : X.mg "sum" = none) (ha : PA X (e :: es) t) (hc : X.calm = true := by rfl) (hg : Gl X "sum" := by rfl) (he : starEach (e :: es) X.env = (false, eval e X.env) :: starEach es X.env := by rfl) (hpl : (backTo pos (starEach es X.env)).any (·.1) = false := by rfl) :
    PE X (.Call (.Name "sum" p) (e :: es) [] pos) (tCB (rSum X.K) t) := pe_callB (cr_sum hc) hg hm (by decide +kernel) ha (by decide) (by decide) he hpl
theorem pe_allA (hm : X.mg "all" = none) (ha : PA X (e :: es) t) (hc : X.calm = true := by rfl) (hg : Gl X "all" := by rfl) (he : starEach (e :: es) X.env = (false, eval e X.env) :: starEach es X.env := by rfl) (hpl : (backTo pos (starEach es X.env)).any (·.1) = false := by rfl) :
    PE X (.Call (.Name "all" p) (e :: es) [] pos) (tCB (rAll X.K) t) := pe_callB (cr_all hc) hg hm (by decide +kernel) ha (by decide) (by decide) he hpl
theorem pe_anyA (hm : X.mg "any" = none) (ha : PA X (e :: es) t) (hc : X.calm = true := by rfl) (hg : Gl X "any" := by rfl) (he : starEach (e :: es) X.env = (false, eval e X.env) :: starEach es X.env := by rfl) (hpl : (backTo pos (starEach es X.env)).any (·.1) = false := by rfl) :
    PE X (.Call (.Name "any" p) (e :: es) [] pos) (tCB (rAny X.K) t) := pe_callB (cr_any hc) hg hm (by decide +kernel) ha (by decide) (by decide) he hpl
end
end DL
namespace DL
open PySem PySem.Spec PyProof.Rows L2
/-! small words for walking -/
theorem br {p : Prop} [Decidable p] {A B : Prop} (h1 : p → A) (h2 : ¬ p → B) : (decide p = true → A) ∧ (decide p = false → B) := ⟨fun h => h1 (of_decide_eq_true h), fun h => h2 (of_decide_eq_false h)⟩
theorem brN {p : Prop} [Decidable p] {A B : Prop} (h1 : ¬ p → A) (h2 : p → B) : ((!decide p) = true → A) ∧ ((!decide p) = false → B) := ⟨fun h => h1 (of_decide_eq_false (by simpa using h)), fun h => h2 (of_decide_eq_true (by simpa using h))⟩
theorem brT {A B : Prop} (h1 : A) : (true = true → A) ∧ (true = false → B) := And.intro (fun _ => h1) (fun h => Bool.noConfusion h)
theorem brF {A B : Prop} (h1 : B) : (false = true → A) ∧ (false = false → B) := And.intro (fun h => Bool.noConfusion h) (fun _ => h1)
theorem mul_ok {i j : Int} {a b : Nat} (ha : i.natAbs < 2 ^ a) (hb : j.natAbs < 2 ^ b) (h0 : 0 < a) (h1 : 0 < b) (h : a + b ≤ 1000000) : IntMulOk i j := (wide_mul ha hb h0 h1 h).ok
theorem mul_okL {i j : Int} (h1 : -(2 ^ 64) < i) (h2 : i < 2 ^ 64) : IntMulOk i j := .of_left (intBits_le_64 h1 h2)
theorem mul_okR {i j : Int} (h1 : -(2 ^ 64) < j) (h2 : j < 2 ^ 64) : IntMulOk i j := .of_right (intBits_le_64 h1 h2)
/-- what stands between two statements, said -/
theorem ws_cut {K : Fg} {Γ : List SA} {O : Own} {n : Nat} {E : KE} {t u : TS} (P : List SA → Own → Nat → Prop) (h : WS K t Γ O n { E with nx := P }) (k : ∀ Γ' O' n', P Γ' O' n' → WS K u Γ' O' n' E) : WS K (tSeq t u) Γ O n E := fun pn As H0 M H σ D S s =>
  h pn As H0 M H σ { D with nx := u D } S ⟨fun As1 M1 H1 σ1 Γ1 O1 n1 p1 e1 S1 q => k _ _ _ q pn As1 H0 M1 H1 σ1 D S1 (s.at p1 e1), s.rt, s.bk, s.ct⟩
theorem ws_mono {K : Fg} {Γ : List SA} {O : Own} {n : Nat} {E E' : KE} {t : TS} (h : WS K t Γ O n E') (h1 : ∀ Γ O n, E'.nx Γ O n → E.nx Γ O n) (h2 : ∀ d O n, E'.rt d O n → E.rt d O n) (h3 : ∀ Γ O n, E'.bk Γ O n → E.bk Γ O n) (h4 : ∀ Γ O n, E'.ct Γ O n → E.ct Γ O n) : WS K t Γ O n E := fun pn As H0 M H σ D S s =>
  h pn As H0 M H σ D S ⟨fun As1 M1 H1 σ1 Γ1 O1 n1 p1 e1 S1 q => s.nx As1 M1 H1 σ1 Γ1 O1 n1 p1 e1 S1 (h1 _ _ _ q), fun As1 v M1 H1 σ1 Γ1 O1 d n1 p1 e1 S1 r q => s.rt As1 v M1 H1 σ1 Γ1 O1 d n1 p1 e1 S1 r (h2 _ _ _ q),
    fun As1 M1 H1 σ1 Γ1 O1 n1 p1 e1 S1 q => s.bk As1 M1 H1 σ1 Γ1 O1 n1 p1 e1 S1 (h3 _ _ _ q), fun As1 M1 H1 σ1 Γ1 O1 n1 p1 e1 S1 q => s.ct As1 M1 H1 σ1 Γ1 O1 n1 p1 e1 S1 (h4 _ _ _ q)⟩
end DL
/-- one step of an expression, of a test, of arguments -/
local macro_rules | `(tactic| walk_at "dl1") => `(tactic| first
  | with_reducible refine DL.w_int ?_
  | with_reducible refine DL.wa_nil ?_
  | with_reducible refine DL.wa_cons ?_
  | ((with_reducible refine' DL.w_ixOwn ?h ?h2 ?_); (case h => rfl); (case h2 => rfl))
  | ((with_reducible refine' DL.w_lenOwn ?h ?h2 ?_); (case h => rfl); (case h2 => rfl))
  | with_reducible refine DL.w_op ?_
  | ((with_reducible refine' DL.w_var ?h ?_); (case h => rfl))
  | with_reducible refine DL.ow_plusI ?_
  | with_reducible refine DL.ow_minus ?_
  | with_reducible refine DL.ow_gt (Exists.intro _ (And.intro rfl ?_))
  | with_reducible refine DL.ow_lt (Exists.intro _ (And.intro rfl ?_))
  | with_reducible refine DL.ow_ge (Exists.intro _ (And.intro rfl ?_))
  | with_reducible refine DL.ow_le (Exists.intro _ (And.intro rfl ?_))
  | with_reducible refine DL.ow_eqI (Exists.intro _ (And.intro rfl ?_))
  | with_reducible refine DL.ow_neI (Exists.intro _ (And.intro rfl ?_))
  | with_reducible refine DL.ow_gt ?_
  | with_reducible refine DL.ow_lt ?_
  | with_reducible refine DL.ow_ge ?_
  | with_reducible refine DL.ow_le ?_
  | with_reducible refine DL.ow_eqI ?_
  | with_reducible refine DL.ow_neI ?_
  | with_reducible refine DL.w_cb ?_
  | with_reducible refine DL.w_un ?_
  | with_reducible refine DL.uw_neg ?_
  | with_reducible refine DL.cw_gcd ?_
  | with_reducible refine DL.cw_abs ?_
  | with_reducible refine DL.cw_intI ?_
  | with_reducible refine DL.cw_intB ?_
  | with_reducible refine DL.cw_lenL ?_
  | with_reducible refine DL.cw_lenT ?_
  | with_reducible refine DL.wt_test ?_
  | with_reducible refine DL.wt_and ?_
  | with_reducible refine DL.wt_or ?_
  | with_reducible refine DL.wt_not ?_
  | with_reducible refine DL.wt_tru ?_
  | with_reducible refine DL.w_if ?_
  | with_reducible refine DL.w_and ?_
  | with_reducible refine DL.w_or ?_
  | with_reducible refine DL.w_not ?_
  | with_reducible refine DL.w_bl ?_
  | with_reducible refine DL.w_non ?_
  | with_reducible refine DL.w_str ?_
  | with_reducible refine DL.w_ty ?_
  | (with_reducible refine DL.w_tup ?_)
  | ((with_reducible refine' DL.ow_ixT ?h ?_); (case h => rfl))
  | with_reducible refine DL.w_call ?_
  | with_reducible refine DL.w_dnew ?_
  | with_reducible refine DL.ow_isN ?_
  | with_reducible refine DL.ow_notN ?_)
local macro_rules | `(tactic| walk_at "ix") => `(tactic| refine Exists.intro _ (Exists.intro _ (And.intro rfl (And.intro rfl ?_))))
local macro_rules | `(tactic| walk_at "dl") => `(tactic| repeat' walk_at "dl1")
local macro_rules | `(tactic| walk_at "len") => `(tactic| refine And.intro (by simp) ?_)
namespace DL
open PySem PySem.Spec PyProof.Rows L2
/-! ### plain data: equality, shape -/
theorem pyL_map {α : Type} (f : α → DV) : ∀ l : List α, pyL (l.map f) = l.map fun x => py (f x)
  | [] => rfl
  | x :: l => by simp only [List.map_cons, pyL, pyL_map f l]
theorem isPyL_map {α : Type} (f : α → DV) : ∀ l : List α, (∀ x ∈ l, isPy (f x) = true) → isPyL (l.map f) = true
  | [], _ => rfl
  | x :: l, h => by simp only [List.map_cons, isPyL, Bool.and_eq_true]; exact ⟨h x (by simp), isPyL_map f l fun y hy => h y (by simp [hy])⟩
theorem canLayAll_map {α : Type} (f : α → PyData) : ∀ l : List α, (∀ x ∈ l, (f x).canLay0 = true) → PyData.canLayAll0 (l.map f) = true
  | [], _ => rfl
  | x :: l, h => by simp only [List.map_cons, PyData.canLayAll0, Bool.and_eq_true]; exact ⟨h x (by simp), canLayAll_map f l fun y hy => h y (by simp [hy])⟩
theorem depthAll_map {α : Type} (f : α → PyData) (m : Nat) : ∀ l : List α, (∀ x ∈ l, (f x).depth ≤ m) → PyData.depthAll (l.map f) ≤ m
  | [], _ => Nat.zero_le _
  | x :: l, h => by
    simp only [List.map_cons, PyData.depthAll]
    exact Nat.max_le.mpr ⟨h x (by simp), depthAll_map f m l fun y hy => h y (by simp [hy])⟩
/-- the same depth at most m, plain through and through -/
structure Pl (m : Nat) (d : DV) : Prop where
  py : isPy d = true
  lay : (DL.py d).canLay0 = true
  dep : (DL.py d).depth ≤ m
theorem Pl.shp {m : Nat} {d : DV} (h : Pl m d) (hm : m ≤ 64 := by decide) : shp d = true := by
  unfold DL.shp SeqAt.shaped
  rw [h.py, h.lay, Bool.true_and, Bool.true_and]
  exact decide_eq_true (Nat.le_trans h.dep hm)
theorem pl_int {m : Nat} (i : Int) : Pl m (.int i) := ⟨rfl, by simp [DL.py, PyData.canLay0], by simp [DL.py, PyData.depth]⟩
theorem pl_bl {m : Nat} (i : Bool) : Pl m (.bl i) := ⟨rfl, by simp [DL.py, PyData.canLay0], by simp [DL.py, PyData.depth]⟩
theorem pl_non {m : Nat} : Pl m .non := ⟨rfl, by simp [DL.py, PyData.canLay0], by simp [DL.py, PyData.depth]⟩
theorem isPyL_all : ∀ ds : List DV, (∀ d ∈ ds, isPy d = true) → isPyL ds = true
  | [], _ => rfl
  | d :: ds, h => by simp only [isPyL, Bool.and_eq_true]; exact ⟨h d (by simp), isPyL_all ds fun y hy => h y (by simp [hy])⟩
theorem canLay_all : ∀ ds : List DV, (∀ d ∈ ds, (DL.py d).canLay0 = true) → PyData.canLayAll0 (pyL ds) = true
  | [], _ => rfl
  | d :: ds, h => by simp only [pyL, PyData.canLayAll0, Bool.and_eq_true]; exact ⟨h d (by simp), canLay_all ds fun y hy => h y (by simp [hy])⟩
theorem depth_all {m : Nat} : ∀ ds : List DV, (∀ d ∈ ds, (DL.py d).depth ≤ m) → PyData.depthAll (pyL ds) ≤ m
  | [], _ => Nat.zero_le _
  | d :: ds, h => by simp only [pyL, PyData.depthAll]; exact Nat.max_le.mpr ⟨h d (by simp), depth_all ds fun y hy => h y (by simp [hy])⟩
theorem pl_lst {m : Nat} {ds : List DV} (h : ∀ d ∈ ds, Pl m d) : Pl (m + 1) (.lst ds) :=
  ⟨by simp only [isPy]; exact isPyL_all ds fun d hd => (h d hd).py, by simp only [DL.py, PyData.canLay0]; exact canLay_all ds fun d hd => (h d hd).lay, by simp only [DL.py, PyData.depth]; exact Nat.succ_le_succ (depth_all ds fun d hd => (h d hd).dep)⟩
theorem pl_tup {m : Nat} {ds : List DV} (h : ∀ d ∈ ds, Pl m d) : Pl (m + 1) (.tup ds) :=
  ⟨by simp only [isPy]; exact isPyL_all ds fun d hd => (h d hd).py, by simp only [DL.py, PyData.canLay0]; exact canLay_all ds fun d hd => (h d hd).lay, by simp only [DL.py, PyData.depth]; exact Nat.succ_le_succ (depth_all ds fun d hd => (h d hd).dep)⟩
theorem pl_ints {m : Nat} (ns : List Int) : Pl (m + 1) (.lst (ns.map DV.int)) := pl_lst fun d hd => by
  obtain ⟨i, _, rfl⟩ := List.mem_map.mp hd
  exact pl_int i
theorem pl_intsT {m : Nat} (ns : List Int) : Pl (m + 1) (.tup (ns.map DV.int)) := pl_tup fun d hd => by
  obtain ⟨i, _, rfl⟩ := List.mem_map.mp hd
  exact pl_int i
/-- data that == tells apart: an encoding -/
theorem eqvAll_map {α : Type} (f : α → DV) (he : ∀ x y, PyData.eqv (DL.py (f x)) (DL.py (f y)) = true ↔ x = y) : ∀ l k : List α, PyData.eqvAll (pyL (l.map f)) (pyL (k.map f)) = true ↔ l = k
  | [], [] => by simp [pyL, PyData.eqvAll]
  | [], y :: k => by simp [pyL, PyData.eqvAll]
  | x :: l, [] => by simp [pyL, PyData.eqvAll]
  | x :: l, y :: k => by
    simp only [List.map_cons, pyL, PyData.eqvAll, Bool.and_eq_true, he, eqvAll_map f he l k, List.cons.injEq]
theorem eqv_int (i j : Int) : PyData.eqv (DL.py (.int i)) (DL.py (.int j)) = true ↔ i = j := by simp [DL.py, PyData.eqv]
theorem eqv_lst {α : Type} (f : α → DV) (he : ∀ x y, PyData.eqv (DL.py (f x)) (DL.py (f y)) = true ↔ x = y) (l k : List α) : PyData.eqv (DL.py (.lst (l.map f))) (DL.py (.lst (k.map f))) = true ↔ l = k := by
  simp only [DL.py, PyData.eqv]; exact eqvAll_map f he l k
theorem eqv_tup {α : Type} (f : α → DV) (he : ∀ x y, PyData.eqv (DL.py (f x)) (DL.py (f y)) = true ↔ x = y) (l k : List α) : PyData.eqv (DL.py (.tup (l.map f))) (DL.py (.tup (k.map f))) = true ↔ l = k := by
  simp only [DL.py, PyData.eqv]; exact eqvAll_map f he l k
theorem eqv_ints (l k : List Int) : PyData.eqv (DL.py (.lst (l.map DV.int))) (DL.py (.lst (k.map DV.int))) = true ↔ l = k := eqv_lst _ eqv_int l k
/-! ### the pen -/
section
variable {K : Fg} {N : List Str} {vs : List V} {H : Hp} {Q : VK} {E : XK} {t : TS}
theorem body_own {α : Type} {pre : α → Prop} {args : α → List DV} {cost : α → Nat} {res : α → DV → Prop} (h : spP K pre args cost res vs H Q E)
    (hw : ∀ (a : α) (n : Nat) (cells : List Int) (at_ left : Int), pre a → n + cost a ≤ 1000000 → cells.length ≤ 63 → 0 ≤ at_ → at_ ≤ (n : Int) → 0 ≤ left →
      WS K t (.own 0 :: (args a).map .is ++ List.replicate (N.length - (args a).length - 1) .no) [some [.lst (cells.map DV.int), .int at_, .int left]] 0
        { nx := fun _ _ _ => False, rt := fun d O _ => (∃ a' l', O = [some [.lst (cells.map DV.int), .int a', .int l']] ∧ 0 ≤ a' ∧ a' ≤ (n : Int) + (cost a : Int) ∧ 0 ≤ l') ∧ res a d }) :
    t { nx := fun _ H' => Q .non H', rt := Q } (L2.start N vs) H := by
  obtain ⟨p, us, M, n, a, hpre, rfl, e, hp, ⟨ws, cells, at_, left, g1, g2, g3, g4, g5, g6⟩, hn, r, c⟩ := h
  let H0 : Ent := ⟨fun b => if b = p then none else H b, fun b => b ≠ p ∧ H b ≠ none ∧ M b = none⟩
  have at_p : H0 p = none := if_pos rfl
  have off : ∀ b, b ≠ p → H0 b = H b := fun b hb => if_neg hb
  have st : Sta K none [p] H0 M H (L2.start N (.ref p :: us)) (.own 0 :: (args a).map .is ++ List.replicate (N.length - (args a).length - 1) .no) [some [.lst (cells.map DV.int), .int at_, .int left]] 0 := by
    refine ⟨⟨e, fun b o _ h => ?_, fun q hq => nomatch hq⟩, fun j b ds h1 h2 => ?_, fun b hb => ?_, fun b hb => ⟨hb.2.2, hb.2.1, by rw [off b hb.1]; exact hb.2.1⟩, by simp, rfl, ?_, fun i s h => ?_⟩
    · by_cases hb : b = p
      · subst hb; rw [at_p] at h; cases h
      · rw [off b hb] at h; exact h
    · cases j with
      | zero =>
        simp at h1 h2
        subst h1 h2
        exact ⟨hp, at_p, (fun z => nomatch z), ws, g1, g2⟩
      | succ j => simp at h1
    · simp at hb; subst hb; rw [g1]; exact fun z => nomatch z
    · unfold L2.start
      simp [r.length]
      omega
    · unfold L2.start
      cases i with
      | zero =>
        simp at h
        subst h
        exact ⟨p, rfl, rfl⟩
      | succ i =>
        have h' : ((args a).map SA.is ++ List.replicate (N.length - (args a).length - 1) SA.no)[i]? = some s := h
        have q := slots_ok (pn := none) (As := [p]) r (N.length - (args a).length - 1) i s h'
        have e0 : N.length - (V.ref p :: us).length = N.length - (args a).length - 1 := by simp [r.length]; omega
        rw [e0]
        exact q
  refine hw a n cells at_ left hpre hn g3 g4 g5 g6 none [p] H0 M H _ _ st ⟨fun _ _ _ _ _ _ _ _ _ _ q => q.elim, ?_, fun _ _ _ _ _ _ _ _ _ _ q => q, fun _ _ _ _ _ _ _ _ _ _ q => q⟩
  intro As v M' H' σ Γ O d m pA e1 S r1 ⟨⟨a', l', eO, k1, k2, k3⟩, q⟩
  subst eO
  obtain ⟨Bs, rfl⟩ := pA
  obtain ⟨f1, f2, f3, ws', f4, f5⟩ := S.own 0 p _ rfl rfl
  refine c v M' H' d e1 (fun b o hb h => S.kp b o (fun z => nomatch z) (by rw [off b hb]; exact h)) S.ex (fun b h1 h2 => ?_) ⟨ws', cells, a', l', f4, f5, g3, k1, by omega, k3⟩ r1 q
  by_cases hb : b = p
  · subst hb; exact f1
  · exact (S.pr b ⟨hb, h1, h2⟩).1
/-- the law's own pen: draw -/
abbrev sp_draw (K : Fg) : Sp := spP K (fun m : Int => 1 ≤ m ∧ m.natAbs < 2 ^ 9000) (fun m => [.int m]) (fun _ => 1) fun m d => ∃ r, d = .int r ∧ 0 ≤ r ∧ r < m
def t_draw (K : Fg) (c1 c2 c3 c4 : Int) : TS :=
    (tSeq (tIfS (tTest (tOp rGt (tOp (rIx K) (tVar 0) (tC (.int 2))) (tC (.int 0)))) (tSeq (tAsg (tOp rFmod (tCB rInt1 (tCons (tOp (rIx K) (tVar 0) (tC (.int 2))) tNil)) (tVar 1)) (gName 2))
    (tSeq (tAsg (tOp rFdiv (tCB rInt1 (tCons (tOp (rIx K) (tVar 0) (tC (.int 2))) tNil)) (tVar 1)) (gSub (tVar 0) (tC (.int 2)) rSetL))
    (tRet (tVar 2)))) tNext)
    (tSeq (tAsg (tOp (rIx K) (tVar 0) (tC (.int 1))) (gName 3))
    (tSeq (tAsg (tOp (rPlus K) (tVar 3) (tC (.int 1))) (gSub (tVar 0) (tC (.int 1)) rSetL))
    (tSeq (tAsg (tOp (rPlus K) (tOp (rTimes K) (tC (.int c1)) (tVar 3)) (tC (.int c2))) (gName 4))
    (tSeq (tIfS (tTest (tOp (rNeA K) (tOp (rIx K) (tVar 0) (tC (.int 0))) (tLst tNil))) (tAsg (tOp (rIx K) (tOp (rIx K) (tVar 0) (tC (.int 0))) (tOp rFmod (tCB rInt1 (tCons (tVar 3) tNil)) (tCB (rLenA K) (tCons (tOp (rIx K) (tVar 0) (tC (.int 0))) tNil)))) (gName 4)) tNext)
    (tSeq (tIfS (tAnd (tTest (tOp rLt (tVar 3) (tCB (rLenA K) (tCons (tOp (rIx K) (tVar 0) (tC (.int 0))) tNil)))) (tTest (tOp rGe (tCB rAbs (tCons (tVar 4) tNil)) (tOp rPow (tC (.int 10)) (tC (.int 18)))))) (tSeq (tAsg (tOp (rPlus K) (tOp (rTimes K) (tC (.int 2)) (tOp rMinus (tCB rAbs (tCons (tVar 4) tNil)) (tOp rPow (tC (.int 10)) (tC (.int 18))))) (tCB rInt1 (tCons (tOp rLt (tVar 4) (tC (.int 0))) tNil))) (gName 5))
    (tSeq (tAsg (tOp rFdiv (tCB rInt1 (tCons (tVar 5) tNil)) (tVar 1)) (gSub (tVar 0) (tC (.int 2)) rSetL))
    (tRet (tOp rFmod (tCB rInt1 (tCons (tVar 5) tNil)) (tVar 1))))) tNext)
    (tSeq (tAsg (tOp rFmod (tCB rInt1 (tCons (tOp rPow (tOp (rPlus K) (tOp (rPlus K) (tOp rFmod (tCB rInt1 (tCons (tVar 4) tNil)) (tC (.int 2147483549))) (tOp (rTimes K) (tC (.int c1)) (tVar 3))) (tC (.int c2))) (tC (.int 5))) tNil)) (tC (.int 2147483629))) (gName 6))
    (tSeq (tAsg (tOp rFmod (tCB rInt1 (tCons (tOp rPow (tOp (rPlus K) (tOp (rPlus K) (tOp (rTimes K) (tVar 6) (tOp (rPlus K) (tOp (rTimes K) (tC (.int 2)) (tVar 3)) (tC (.int c3)))) (tOp (rTimes K) (tOp (rTimes K) (tC (.int c4)) (tVar 3)) (tVar 3))) (tC (.int c2))) (tC (.int 3))) tNil)) (tC (.int 2147483587))) (gName 6))
    (tRet (tOp rFmod (tCB rInt1 (tCons (tOp rFdiv (tVar 6) (tC (.int 64))) tNil)) (tVar 1)))))))))))
theorem fmod_range {x m : Int} (h : 0 < m) : 0 ≤ x.fmod m ∧ x.fmod m < m := by
  rw [Int.fmod_eq_emod_of_nonneg x (by omega)]
  exact ⟨Int.emod_nonneg x (by omega), Int.emod_lt_of_pos x h⟩
theorem fdiv_nn {x m : Int} (h : 0 < m) (hx : 0 ≤ x) : 0 ≤ x.fdiv m := by
  rw [Int.fdiv_eq_ediv_of_nonneg x (by omega)]
  exact Int.ediv_nonneg hx (by omega)
theorem rd_draw {K : Fg} {c1 c2 c3 c4 : Int} (hc1 : 0 ≤ c1 ∧ c1 ≤ 1000000) (hc2 : 0 ≤ c2 ∧ c2 ≤ 1000000) (hc3 : 0 ≤ c3 ∧ c3 ≤ 1000000) (hc4 : 0 ≤ c4 ∧ c4 ≤ 1000000) (m : Int) (n : Nat) (cells : List Int) (at_ left : Int)
    (hm : 1 ≤ m) (hm2 : m.natAbs < 2 ^ 9000) (hn : n + 1 ≤ 1000000) (hl : cells.length ≤ 63) (h0 : 0 ≤ at_) (h1 : at_ ≤ (n : Int)) (h2 : 0 ≤ left) :
    WS K (t_draw K c1 c2 c3 c4) [.own 0, .is (.int m), .no, .no, .no, .no, .no] [some [.lst (cells.map DV.int), .int at_, .int left]] 0
      { nx := fun _ _ _ => False, rt := fun d O _ => (∃ a' l', O = [some [.lst (cells.map DV.int), .int a', .int l']] ∧ 0 ≤ a' ∧ a' ≤ (n : Int) + ((1 : Nat) : Int) ∧ 0 ≤ l') ∧ ∃ r, d = .int r ∧ 0 ≤ r ∧ r < m } := by
  have mne : m ≠ 0 := by omega
  unfold t_draw
  refine ws_seq (ws_if ?_)
  walk_at "dl"
  walk_at "ix"
  walk_at "dl"
  refine br (fun hlt => ?_) (fun hlt => ?_)
  · refine ws_seq (ws_asg ?_)
    walk_at "dl"
    walk_at "ix"
    walk_at "dl"
    refine ow_fmod mne ?_
    refine ws_seq (ws_asgG ?_)
    walk_at "dl"
    walk_at "ix"
    walk_at "dl"
    refine ow_fdiv mne hm2 ?_
    refine xg_set rfl rfl ?_
    walk_at "dl"
    refine ⟨2, 2, rfl, rfl, ?_⟩
    refine ws_ret ?_
    walk_at "dl"
    exact ⟨⟨at_, _, rfl, h0, by omega, fdiv_nn (by omega) h2⟩, _, rfl, fmod_range (by omega)⟩
  · refine ws_next ?_
    refine ws_seq (ws_asg ?_)
    walk_at "dl"
    walk_at "ix"
    refine ws_seq (ws_asgG ?_)
    walk_at "dl"
    refine xg_set rfl rfl ?_
    walk_at "dl"
    refine ⟨1, 1, rfl, rfl, ?_⟩
    refine ws_seq (ws_asg ?_)
    walk_at "dl"
    refine ow_timesI (mul_okL (by omega) (by omega)) ?_
    walk_at "dl"
    refine ws_cut (fun Γ' O' n' => ∃ y : Int, Γ' = [.own 0, .is (.int m), .no, .is (.int at_), .is (.int y), .no, .no] ∧ O' = [some [.lst (cells.map DV.int), .int (at_ + 1), .int left]] ∧ n' = 0) (ws_if ?_) ?_
    · walk_at "dl"
      walk_at "ix"
      refine w_of_wl (wl_lst ?_)
      walk_at "dl"
      walk_at "len"
      refine ow_neD (pl_ints (m := 0) cells).shp (pl_ints (m := 0) []).shp ?_
      refine ⟨_, rfl, fun h => ?_, fun h => ?_⟩
      · have hne : cells ≠ [] := fun z => by
          have e0 : PyData.eqv (DL.py (.lst (cells.map DV.int))) (DL.py (.lst [])) = true := (eqv_ints cells []).mpr z
          rw [e0] at h; cases h
        have hpos : 0 < cells.length := List.length_pos_iff.mpr hne
        refine ws_asg ?_
        walk_at "dl"
        walk_at "ix"
        walk_at "dl"
        walk_at "ix"
        walk_at "dl"
        rw [List.length_map]
        refine ow_fmod (by omega) ?_
        have hr := fmod_range (x := at_) (m := (cells.length : Int)) (by omega)
        obtain ⟨j, hj⟩ : ∃ j : Nat, at_.fmod (cells.length : Int) = (j : Int) := ⟨(at_.fmod (cells.length : Int)).toNat, by omega⟩
        rw [hj]
        have hjl : j < cells.length := by omega
        refine ow_ixL (d := .int cells[j]) ?_ ?_
        · unfold atI
          rw [List.length_map, Evl.ixN_nat hjl]
          simp [hjl]
        · exact ⟨_, rfl, rfl, rfl⟩
      · exact ws_next ⟨_, rfl, rfl, rfl⟩
    rintro _ _ _ ⟨y, rfl, rfl, rfl⟩
    have p18 : (10 : Int) ^ (18 : Int).toNat = 1000000000000000000 := by decide
    have cp : CPow 10 18 := ⟨by decide, by decide, by decide⟩
    have hca : 0 ≤ c1 * at_ ∧ c1 * at_ ≤ 1000000 * 1000000 := ⟨Int.mul_nonneg hc1.1 h0, Int.mul_le_mul hc1.2 (by omega) h0 (by omega)⟩
    have hcb : 0 ≤ c4 * at_ ∧ c4 * at_ ≤ 1000000 * 1000000 := ⟨Int.mul_nonneg hc4.1 h0, Int.mul_le_mul hc4.2 (by omega) h0 (by omega)⟩
    have hcc : 0 ≤ c4 * at_ * at_ ∧ c4 * at_ * at_ ≤ 1000000 * 1000000 * 1000000 := ⟨Int.mul_nonneg hcb.1 h0, Int.mul_le_mul hcb.2 (by omega) h0 (by omega)⟩
    refine ws_cut (fun Γ' O' n' => Γ' = [.own 0, .is (.int m), .no, .is (.int at_), .is (.int y), .no, .no] ∧ O' = [some [.lst (cells.map DV.int), .int (at_ + 1), .int left]] ∧ n' = 0) (ws_if ?_) ?_
    · walk_at "dl"
      walk_at "ix"
      walk_at "dl"
      refine br (fun hat => ?_) (fun hat => brF (ws_next ⟨rfl, rfl, rfl⟩))
      walk_at "dl"
      refine ow_pow cp ?_
      rw [p18]
      walk_at "dl"
      refine br (fun hge => ?_) (fun hge => ws_next ⟨rfl, rfl, rfl⟩)
      refine ws_seq (ws_asg ?_)
      walk_at "dl"
      refine ow_pow cp ?_
      rw [p18]
      walk_at "dl"
      refine ow_timesI (mul_okL (by decide) (by decide)) ?_
      walk_at "dl"
      refine ws_seq (ws_asgG ?_)
      walk_at "dl"
      refine ow_fdiv mne hm2 ?_
      refine xg_set rfl rfl ?_
      walk_at "dl"
      refine ⟨2, 2, rfl, rfl, ?_⟩
      refine ws_ret ?_
      walk_at "dl"
      refine ow_fmod mne ?_
      refine ⟨⟨at_ + 1, _, rfl, by omega, by omega, fdiv_nn (by omega) ?_⟩, _, rfl, fmod_range (by omega)⟩
      split <;> omega
    rintro _ _ _ ⟨rfl, rfl, rfl⟩
    refine ws_seq (ws_asg ?_)
    walk_at "dl"
    refine ow_fmod (by decide) ?_
    walk_at "dl"
    refine ow_timesI (mul_okL (by omega) (by omega)) ?_
    walk_at "dl"
    have hy := fmod_range (x := y) (m := 2147483549) (by decide)
    refine ow_pow ⟨by decide, by decide, by omega⟩ ?_
    walk_at "dl"
    refine ow_fmod (by decide) ?_
    generalize hb : Int.fmod ((Int.fmod y 2147483549 + c1 * at_ + c2) ^ (5 : Int).toNat) 2147483629 = b
    have hb2 : 0 ≤ b ∧ b < 2147483629 := by rw [← hb]; exact fmod_range (by decide)
    have hbm : 0 ≤ b * (2 * at_ + c3) ∧ b * (2 * at_ + c3) ≤ 2147483629 * 3000000 := ⟨Int.mul_nonneg hb2.1 (by omega), Int.mul_le_mul (by omega) (by omega) (by omega) (by omega)⟩
    refine ws_seq (ws_asg ?_)
    walk_at "dl"
    refine ow_timesI (mul_okL (by decide) (by decide)) ?_
    walk_at "dl"
    refine ow_timesI (mul_okL (by omega) (by omega)) ?_
    walk_at "dl"
    refine ow_timesI (mul_okL (by omega) (by omega)) ?_
    walk_at "dl"
    refine ow_timesI (mul_okL (by omega) (by omega)) ?_
    walk_at "dl"
    refine ow_pow ⟨by decide, by decide, by omega⟩ ?_
    walk_at "dl"
    refine ow_fmod (by decide) ?_
    refine ws_ret ?_
    walk_at "dl"
    refine ow_fdiv (by decide) (Nat.lt_of_lt_of_le (by decide : (64 : Int).natAbs < 2 ^ 7) (Nat.pow_le_pow_right (by decide) (by decide))) ?_
    walk_at "dl"
    refine ow_fmod mne ?_
    exact ⟨⟨at_ + 1, _, rfl, by omega, by omega, h2⟩, _, rfl, fmod_range (by omega)⟩
end
end DL
namespace DL
open PySem PySem.Spec PyProof.Rows L2
/-! helpers for the walks -/
abbrev ED (res : DV → Prop) : KE := { nx := fun _ _ _ => res .non, rt := fun d _ _ => res d }
abbrev EP (m : Nat) (res : DV → Prop) : KE := { nx := fun _ _ n => n ≤ m ∧ res .non, rt := fun d _ n => n ≤ m ∧ res d }
theorem nmul {x y : Int} {a b : Nat} (hx : x.natAbs < 2 ^ a) (hy : y.natAbs < 2 ^ b) : (x * y).natAbs < 2 ^ (a + b) := by
  rw [Int.natAbs_mul, Nat.pow_add]
  exact Nat.mul_lt_mul'' hx hy
theorem nadd {x y : Int} {a : Nat} (hx : x.natAbs < 2 ^ a) (hy : y.natAbs < 2 ^ a) : (x + y).natAbs < 2 ^ (a + 1) := by
  rw [Nat.pow_succ]; omega
theorem nsub {x y : Int} {a : Nat} (hx : x.natAbs < 2 ^ a) (hy : y.natAbs < 2 ^ a) : (x - y).natAbs < 2 ^ (a + 1) := by
  rw [Nat.pow_succ]; omega
theorem nle {x : Int} {a b : Nat} (hx : x.natAbs < 2 ^ a) (h : a ≤ b) : x.natAbs < 2 ^ b := Nat.lt_of_lt_of_le hx (Nat.pow_le_pow_right (by decide) h)
section
variable {K : Fg} {Γ : List SA} {O : Own} {n : Nat} {te : TE}
/-- [f(a) for a in xs] -/
theorem wl_lcF {α : Type} {wi : TI} {g : TG} {vs : List Nat} {k : List DV → Nat → Prop}
    (h : SW K wi Γ O n fun xs n1 => ∃ (as : List α) (e f : α → DV), xs = as.map e ∧ as.length ≤ 100000 ∧ (∀ a ∈ as, GW K g vs (e a) (wipeG Γ vs) fun Γ2 => W K te Γ2 O n1 fun y n' => y = f a ∧ n' = n1) ∧ k (as.map f) n1) :
    WL K (tLc wi g tYes te vs) Γ O n k := by
  refine wl_lc fun pn As H0 M H σ S R c => h pn As H0 M H σ S R fun J M' H' xs n' e1 S1 it ⟨as, e, f, ex, hl, hs, hk⟩ => c J M' H' xs n' e1 S1 it ?_
  subst ex
  refine ⟨by simpa using hl, fun i acc n2 => acc = (as.take i).map f ∧ n2 = n', ⟨rfl, rfl⟩, fun i x acc n2 hx ⟨ha, hn⟩ => ?_, fun acc n2 ⟨ha, hn⟩ => ?_⟩
  · subst ha hn
    rw [List.getElem?_map] at hx
    cases hi : as[i]? with
    | none => rw [hi] at hx; cases hx
    | some a =>
      rw [hi] at hx
      cases hx
      have hm : a ∈ as := List.mem_of_getElem? hi
      intro pn As H0 M H σ O n S v r Q c
      refine hs a hm pn As H0 M H σ O n S v r Q fun σ' Γ' S' w q => c σ' Γ' S' w (wt_yes ⟨fun _ => ?_, fun z => nomatch z⟩)
      intro pn As H0 M H σ S Q c
      refine q pn As H0 M H σ S Q fun v M' H' d n3 e1 S1 r1 ⟨ey, en⟩ => c v M' H' d n3 e1 S1 r1 ⟨?_, en⟩
      subst ey
      rw [List.take_add_one, hi]
      simp
  · subst ha hn
    simpa using hk
theorem zipD_map {α β : Type} (e : α → DV) (f : β → DV) : ∀ (as : List α) (bs : List β), zipD (as.map e) (bs.map f) = (as.zip bs).map fun z => .tup [e z.1, f z.2]
  | [], _ => by simp [zipD]
  | _ :: _, [] => by simp [zipD]
  | a :: as, b :: bs => by simp [zipD, zipD_map e f as bs]
/-- lists of numbers, walked -/
theorem SW.mono {wi : TI} {k k' : List DV → Nat → Prop} (h : SW K wi Γ O n k) (hk : ∀ xs n, k xs n → k' xs n) : SW K wi Γ O n k' := fun pn As H0 M H σ S R c => h pn As H0 M H σ S R fun J M' H' xs n' e1 S1 it q => c J M' H' xs n' e1 S1 it (hk xs n' q)
theorem W.mono {k k' : DV → Nat → Prop} (h : W K te Γ O n k) (hk : ∀ d n, k d n → k' d n) : W K te Γ O n k' := fun pn As H0 M H σ S Q c => h pn As H0 M H σ S Q fun v M' H' d n' e1 S1 r q => c v M' H' d n' e1 S1 r (hk d n' q)
theorem WL.mono {k k' : List DV → Nat → Prop} (h : WL K te Γ O n k) (hk : ∀ d n, k d n → k' d n) : WL K te Γ O n k' := fun pn As H0 M H σ S Q c => h pn As H0 M H σ S Q fun p vs M' H' d n' e1 S1 a1 a2 a3 a4 a5 a6 a7 q => c p vs M' H' d n' e1 S1 a1 a2 a3 a4 a5 a6 a7 (hk d n' q)
/-- items at natural places -/
theorem atI_nat {α : Type} {ds : List α} {i : Nat} {d : α} (h : ds[i]? = some d) : atI ds (i : Int) = some d := by
  have hi : i < ds.length := (List.getElem?_eq_some_iff.mp h).1
  unfold atI
  rw [Evl.ixN_nat hi]
  exact h
theorem ow_ixN {ds : List DV} {i : Nat} {d : DV} {k : DV → Prop} (h : ds[i]? = some d) (q : k d) : OW K (rIx K) (.lst ds) (.int (i : Int)) k := ow_ixL (atI_nat h) q
theorem ow_ixNT {ds : List DV} {i : Nat} {d : DV} {k : DV → Prop} (h : ds[i]? = some d) (q : k d) : OW K (rIx K) (.tup ds) (.int (i : Int)) k := ow_ixT (atI_nat h) q
end
end DL
namespace DL
open PySem PySem.Spec PyProof.Rows L2
/-! what repr can show -/
structure Sh (w : Nat) (d : DV) : Prop where
  sh : (DL.py d).showable = true
  nd : (DL.py d).hasDict = false
  lv : (DL.py d).leavesShort 300 = true
  wt : (DL.py d).weight ≤ w
theorem sh_int {i : Int} (h : i.natAbs < 2 ^ 250) : Sh 251 (.int i) := by
  have hl : i.natAbs.log2 < 250 := by
    by_cases h0 : i.natAbs = 0
    · rw [h0]; decide
    · exact (Nat.log2_lt h0).mpr h
  refine ⟨?_, rfl, ?_, ?_⟩
  · simp only [DL.py, PyData.showable]; exact decide_eq_true (by omega)
  · simp only [DL.py, PyData.leavesShort]
    refine decide_eq_true ?_
    show (Str.ofString (toString i)).length ≤ 300
    rw [PySem.ofString_length]
    have := int_text_length_le (by decide) hl
    omega
  · simp only [DL.py, PyData.weight]
    split <;> omega
theorem shs {w : Nat} : ∀ (ds : List DV), (∀ d ∈ ds, Sh w d) → PyData.showableAll (pyL ds) = true ∧ PyData.hasDictAll (pyL ds) = false ∧ PyData.leavesShortAll 300 (pyL ds) = true ∧ PyData.weightAll (pyL ds) ≤ ds.length * (w + 1)
  | [], _ => ⟨rfl, rfl, rfl, Nat.zero_le _⟩
  | d :: ds, h => by
    obtain ⟨a, b, c, e⟩ := h d (by simp)
    obtain ⟨a', b', c', e'⟩ := shs ds fun x hx => h x (by simp [hx])
    refine ⟨?_, ?_, ?_, ?_⟩
    · simp only [pyL, PyData.showableAll, a, a', Bool.and_self]
    · simp only [pyL, PyData.hasDictAll, b, b', Bool.or_self]
    · simp only [pyL, PyData.leavesShortAll, c, c', Bool.and_self]
    · simp only [pyL, PyData.weightAll, List.length_cons]
      rw [Nat.add_mul]
      omega
theorem sh_lst {w : Nat} {ds : List DV} (h : ∀ d ∈ ds, Sh w d) : Sh (ds.length * (w + 1)) (.lst ds) := by
  obtain ⟨a, b, c, e⟩ := shs ds h
  exact ⟨by simp only [DL.py, PyData.showable]; exact a, by simp only [DL.py, PyData.hasDict]; exact b, by simp only [DL.py, PyData.leavesShort]; exact c, by simp only [DL.py, PyData.weight]; exact e⟩
theorem sh_tup {w : Nat} {ds : List DV} (h : ∀ d ∈ ds, Sh w d) : Sh (ds.length * (w + 1)) (.tup ds) := by
  obtain ⟨a, b, c, e⟩ := shs ds h
  exact ⟨by simp only [DL.py, PyData.showable]; exact a, by simp only [DL.py, PyData.hasDict]; exact b, by simp only [DL.py, PyData.leavesShort]; exact c, by simp only [DL.py, PyData.weight]; exact e⟩
theorem Sh.le {w w' : Nat} {d : DV} (h : Sh w d) (hw : w ≤ w') : Sh w' d := ⟨h.sh, h.nd, h.lv, Nat.le_trans h.wt hw⟩
theorem showOk_of {m w : Nat} {d : DV} (p : Pl m d) (h : Sh w d) (hm : m ≤ 60) (hw : w ≤ 50000) : showOk (DL.py d) := by
  refine ⟨h.sh, h.nd, Nat.le_trans p.dep hm, ?_⟩
  have h1 := PyData.shown_le 300 (by decide) _ h.lv
  have h2 := h.wt
  have e : (300 + 2) * (DL.py d).weight ≤ 302 * 50000 := Nat.mul_le_mul (Nat.le_refl _) (by omega)
  rw [sizeLine_eq]
  omega
section
variable {K : Fg} {Γ : List SA} {O : Own} {n : Nat} {te : TE}
/-- a call by keywords alone -/
theorem w_kw {α : Type} {pre : α → Prop} {args : α → List DV} {res : α → DV → Prop} {E : XK} {tk : TA} {mm : Nat} {ix : List Nat} {k : DV → Nat → Prop} (h : WA K tk Γ O n fun es n2 => es.length = mm ∧ ∃ a, perm ix [] es = args a ∧ pre a ∧ ∀ d, res a d → k d n2) :
    W K (tCallM 0 mm (spD K pre args res) (perm ix) E tNil tk) Γ O n k :=
  w_callK (perm ix) (fun M vs zs ds es h1 h2 _ _ => perm_rp ix h1 h2) (wa_nil fun pn As H0 M H σ S Q c => h pn As H0 M H σ S Q fun vs M' H' ds n' e1 S1 r1 ⟨hl, q⟩ => c vs M' H' ds n' e1 S1 r1 ⟨rfl, hl, q⟩)
end
end DL
local macro_rules | `(tactic| walk_at "dl2") => `(tactic| first | walk_at "dl1" | with_reducible refine DL.w_of_wl (DL.wl_lst ?_) | with_reducible refine DL.w_kw ?_)
local macro_rules | `(tactic| walk_at "dlx") => `(tactic| repeat' walk_at "dl2")
namespace DL
open PySem PySem.Spec PyProof.Rows L2
/-! zip of a tuple and a list -/
theorem endT {P : Program} {w : World} {A : Around} (hh : A.handled = none) {it t : Addr} {i : Nat} {xs : Array Value} {h : Heap} (h1 : h.IsTupleIter it t i) (h2 : h.IsTuple t xs) (hne : t ≠ it) :
    ∃ n Pv St, Draws P w A it [it, t] n Pv St ∧ St i h ∧ i ≤ n ∧ (xs.size ≤ i → i = n) := by
  by_cases hi : xs.size ≤ i
  · refine ⟨i, fun _ _ => True, fun j g => j = i ∧ g.IsTupleIter it t i ∧ g.IsTuple t xs, ⟨fun j g e => ?_, fun j g g' e k => ?_, fun j z Q E hj e => ?_, fun z Q E e => ?_⟩, ⟨rfl, h1, h2⟩, Nat.le_refl _, fun _ => rfl⟩
    · obtain ⟨_, ⟨o, ho, _⟩, _⟩ := e
      exact ⟨o, ho⟩
    · exact ⟨e.1, e.2.1.at fun o q => k it (by simp) o q, e.2.2.at fun o q => k t (by simp) o q⟩
    · exact absurd e.1 (by omega)
    · exact wpAny_nextOf_tuple_end hh e.2.1 e.2.2 (by simp; exact hi)
  · exact ⟨_, _, _, Draws.tuple hh it t hne xs, ⟨h1, h2⟩, by omega, fun z => absurd z hi⟩
theorem endL {P : Program} {w : World} {A : Around} (hh : A.handled = none) {it t : Addr} {i : Nat} {xs : Array Value} {h : Heap} (h1 : h.IsListIter it t i) (h2 : h.IsList t xs) (hne : t ≠ it) :
    ∃ n Pv St, Draws P w A it [it, t] n Pv St ∧ St i h ∧ i ≤ n ∧ (xs.size ≤ i → i = n) := by
  by_cases hi : xs.size ≤ i
  · refine ⟨i, fun _ _ => True, fun j g => j = i ∧ g.IsListIter it t i ∧ g.IsList t xs, ⟨fun j g e => ?_, fun j g g' e k => ?_, fun j z Q E hj e => ?_, fun z Q E e => ?_⟩, ⟨rfl, h1, h2⟩, Nat.le_refl _, fun _ => rfl⟩
    · obtain ⟨_, ⟨o, ho, _⟩, _⟩ := e
      exact ⟨o, ho⟩
    · exact ⟨e.1, e.2.1.at fun o q => k it (by simp) o q, e.2.2.at fun o q => k t (by simp) o q⟩
    · exact absurd e.1 (by omega)
    · exact wpAny_nextOf_list_end hh e.2.1 e.2.2 (by simp; exact hi)
  · exact ⟨_, _, _, Draws.list hh it t hne xs, ⟨h1, h2⟩, by omega, fun z => absurd z hi⟩
/-- the tuple at a and the list at b, in new pairs -/
def ItzTL (K : Fg) (a b : Addr) : It where
  go := fun i H => ∃ (us vs : List V) (x y : V), SqT K H a us ∧ SqL K H b vs ∧ us[i]? = some x ∧ vs[i]? = some y
  yld := fun i H v H' => ∃ T x y, v = .ref T ∧ H T = none ∧ H' = upd H T (.tup [x, y]) ∧ (∀ us, SqT K H a us → us[i]? = some x) ∧ ∀ vs, SqL K H b vs → vs[i]? = some y
  stop := fun i H => ∃ us vs : List V, SqT K H a us ∧ SqL K H b vs ∧ (us.length ≤ i ∨ vs.length ≤ i)
theorem turn_zipTL {P : Program} {w : World} {K : Fg} {elts : List Expr} {kk : Nat} {tpos : Pos} {a b z TI TO i1 i2 : Addr} (D : ZipSep2 z TI TO i1 i2 [i1, a] [i2, b]) :
    Turn P w K (.Tuple elts kk tpos) (ItzTL K a b) [z, TI, TO, i1, i2] z (fun i h => IsZip h z TI TO .none ∧ IsTupOf2 h TI (.ref i1) (.ref i2) ∧ (∃ x y, IsTupOf2 h TO x y) ∧ h.IsTupleIter i1 a i ∧ h.IsListIter i2 b i) where
  mem := by simp
  obj := fun i h st c hc => by
    obtain ⟨q1, q2, ⟨x, y, q3⟩, ⟨o1, e1, _, d1⟩, ⟨o2, e2, _, d2⟩⟩ := st
    simp only [List.mem_cons, List.not_mem_nil, or_false] at hc
    rcases hc with rfl | rfl | rfl | rfl | rfl
    · exact ⟨_, q1, fun v q => nomatch q⟩
    · exact ⟨_, q2, fun v q => nomatch q⟩
    · exact ⟨_, q3, fun v q => nomatch q⟩
    · exact ⟨o1, e1, fun v q => by rw [d1] at q; cases q⟩
    · exact ⟨o2, e2, fun v q => by rw [d2] at q; cases q⟩
  keep := fun i h h' st k => by
    obtain ⟨q1, q2, ⟨x, y, q3⟩, q4, q5⟩ := st
    exact ⟨k z (by simp) _ q1, k TI (by simp) _ q2, ⟨x, y, k TO (by simp) _ q3⟩, q4.at fun o q => k i1 (by simp) o q, q5.at fun o q => k i2 (by simp) o q⟩
  item := by
    intro X eP ew eK calm i pins s σ H E I hf st hg
    subst eP ew eK
    obtain ⟨q1, q2, ⟨x0, y0, q3⟩, q4, q5⟩ := st
    obtain ⟨us, vs, x, y, hu, hv, hx, hy⟩ := hg
    obtain ⟨its, rv, p, _⟩ := I.tuple hu
    obtain ⟨its2, rv2, p2, _⟩ := I.list hv
    have hd : X.A.in1.handled = none := I.ok.hd calm
    obtain ⟨u, eu, ru⟩ := rv.get hx
    obtain ⟨u2, eu2, ru2⟩ := rv2.get hy
    have hzl : z < s.heap.objs.size := Heap.lt_size q1
    have n1 : a ≠ i1 := fun e => by
      obtain ⟨o, ho, hc, hd1⟩ := q4
      obtain ⟨o', ho', _, nl, hd2⟩ := p
      rw [e] at ho'; rw [ho] at ho'; cases ho'; rw [hd1] at hd2; cases hd2
    have n2 : b ≠ i2 := fun e => by
      obtain ⟨o, ho, hc, hd1⟩ := q5
      obtain ⟨o', ho', _, nl, hd2⟩ := p2.isList
      rw [e] at ho'; rw [ho] at ho'; cases ho'; rw [hd1] at hd2; cases hd2
    have lt1 : i < its.toArray.size := by
      have := (List.getElem?_eq_some_iff.mp eu).1
      simpa using this
    have lt2 : i < its2.toArray.size := by
      have := (List.getElem?_eq_some_iff.mp eu2).1
      simpa using this
    refine wpAny_pyNext_zipD2_item D (Draws.tuple hd i1 a n1 its.toArray) (Draws.list hd i2 b n2 its2.toArray) q1 q2 q3 ⟨q4, p⟩ ⟨q5, p2.isList⟩ lt1 lt2 fun v1 v2 h' tk k1 k2 z' TO' s1' s2' hT hsz hk => ?_
    have ev1 : v1 = u := by
      have k1' : its.toArray[i]? = some v1 := k1
      rw [List.getElem?_toArray, eu] at k1'; cases k1'; rfl
    have ev2 : v2 = u2 := by
      have k2' : its2.toArray[i]? = some v2 := k2
      rw [List.getElem?_toArray, eu2] at k2'; cases k2'; rfl
    subst ev1 ev2
    refine ⟨_, rfl, wpAny_letOwnedTupleGo_zip (s := { s with heap := h', toks := tk }) z' fun h'' z'' sb => ?_⟩
    have hT2 : h''.get? s.heap.objs.size = some { cls := .type "tuple", data := .seq #[v1, v2] } := (sb.2 _ (Nat.ne_of_gt hzl)).trans hT
    have mk : ObjOk X.prog X.w (upd H s.heap.objs.size (.tup [x, y])) h'' s.heap.objs.size (.tup [x, y]) :=
      ⟨by show 2 ≤ sizeLine; decide, [v1, v2], .cons ru (.cons ru2 .nil), ⟨_, hT2, rfl, _, rfl⟩⟩
    have off : ∀ c o, c ∉ [z, TI, TO, i1, i2] → s.heap.get? c = some o → h''.get? c = some o := fun c o hb q => by
      simp only [List.mem_cons, List.not_mem_nil, or_false, not_or] at hb
      obtain ⟨b1, b2, b3, b4, b5⟩ := hb
      exact (sb.2 c b1).trans (hk c o b1 b3 b4 b5 q)
    have I1 : Inv X pins σ (upd H s.heap.objs.size (.tup [x, y])) { s with heap := h'', toks := tk } := I.turnedNew (t' := tk) (ch := [z, TI, TO, i1, i2]) off hf (Nat.le_refl _) mk
    have nz1 : i1 ≠ z := fun e => D.zi1 e.symm
    have nz2 : i2 ≠ z := fun e => D.zi2 e.symm
    refine ⟨.ref s.heap.objs.size, _, I1, rfl, ⟨_, x, y, rfl, I.hok.fresh (Nat.le_refl _), rfl, fun l hl => by rw [I.tuple_inj hl hu]; exact hx, fun l hl => by rw [I.list_inj hl hv]; exact hy⟩, ⟨z'', ?_, ⟨v1, v2, ?_⟩, ?_, ?_⟩, fun c hcm => ?_⟩
    · exact (sb.2 _ D.TIz).trans (hk _ _ D.TIz D.TITO D.TIi1 D.TIi2 q2)
    · exact (sb.2 _ D.TOz).trans TO'
    · exact s1'.1.at fun o q => (sb.2 _ nz1).trans q
    · exact s2'.1.at fun o q => (sb.2 _ nz2).trans q
    · have hlt : c < s.heap.objs.size := by
        simp only [List.mem_cons, List.not_mem_nil, or_false] at hcm
        rcases hcm with q | q | q | q | q
        · rw [q]; exact hzl
        · rw [q]; exact Heap.lt_size q2
        · rw [q]; exact Heap.lt_size q3
        · rw [q]; obtain ⟨_, e1, _⟩ := q4; exact Heap.lt_size e1
        · rw [q]; obtain ⟨_, e2, _⟩ := q5; exact Heap.lt_size e2
      rw [upd_ne (Nat.ne_of_lt hlt)]
      exact (hf c hcm).1
  done := by
    intro X eP ew eK calm i pins s σ H E I hf st hg
    subst eP ew eK
    obtain ⟨q1, q2, ⟨x0, y0, q3⟩, q4, q5⟩ := st
    obtain ⟨us, vs, hu, hv, hend⟩ := hg
    obtain ⟨its, rv, p, _⟩ := I.tuple hu
    obtain ⟨its2, rv2, p2, _⟩ := I.list hv
    have hd : X.A.in1.handled = none := I.ok.hd calm
    have n1 : a ≠ i1 := fun e => by
      obtain ⟨o, ho, hc, hd1⟩ := q4
      obtain ⟨o', ho', _, nl, hd2⟩ := p
      rw [e] at ho'; rw [ho] at ho'; cases ho'; rw [hd1] at hd2; cases hd2
    have n2 : b ≠ i2 := fun e => by
      obtain ⟨o, ho, hc, hd1⟩ := q5
      obtain ⟨o', ho', _, nl, hd2⟩ := p2.isList
      rw [e] at ho'; rw [ho] at ho'; cases ho'; rw [hd1] at hd2; cases hd2
    obtain ⟨m1, P1, St1, D1, st1, le1, en1⟩ := endT (P := X.prog) (w := X.w) hd q4 (show s.heap.IsTuple a its.toArray from p) n1
    obtain ⟨m2, P2, St2, D2, st2, le2, en2⟩ := endL (P := X.prog) (w := X.w) hd q5 p2.isList n2
    have l1 := rv.length
    have l2 := rv2.length
    have he : i = m1 ∨ i = m2 := by
      rcases hend with q | q
      · exact .inl (en1 (by simp; omega))
      · exact .inr (en2 (by simp; omega))
    refine wpAny_pyNext_zipD2_end D D1 D2 q1 q2 q3 st1 st2 le1 le2 he fun h' tk hk => ⟨rfl, I.turnedL (t' := tk) (ch := [z, TI, TO, i1, i2]) (fun c o hb q => ?_) hf⟩
    simp only [List.mem_cons, List.not_mem_nil, or_false, not_or] at hb
    obtain ⟨b1, b2, b3, b4, b5⟩ := hb
    exact hk c o b1 b3 b4 b5 q
  self := fun A i s Q E st h => wpAny_pyIter_zip st.1 h
def iZipB (K : Fg) (ta : TA) : TI := fun σ H R => ta σ H fun vs H1 => ∃ a b us ws, vs = [.ref a, .ref b] ∧ ((SqL K H1 a us ∧ SqL K H1 b ws ∧ R (Itz K a b) H1) ∨ (SqT K H1 a us ∧ SqT K H1 b ws ∧ R (RZ.ItzT K a b) H1) ∨ (SqT K H1 a us ∧ SqL K H1 b ws ∧ R (ItzTL K a b) H1))
theorem pi_zipB {X : Cx} {e e2 : Expr} {ta : TA} {p pos tpos : Pos} {elts : List Expr} {kk : Nat} (hg : Gl X "zip") (hm : X.mg "zip" = none) (ha : PA X [e, e2] ta)
    (hs : starEach [e, e2] X.env = (false, eval e X.env) :: starEach [e2] X.env := by rfl) (hpl : (backTo pos (starEach [e2] X.env)).any (·.1) = false := by rfl) :
    PI X (.Tuple elts kk tpos) (.Call (.Name "zip" p) [e, e2] [] pos) (iZipB X.K ta) := by
  by_cases hx : True
  · have hA := RZ.pi_zipA (elts := elts) (kk := kk) (tpos := tpos) (p := p) (pos := pos) hg hm (ta := ta) ha hs hpl
    refine ⟨fun pins s σ H R I h => ?_⟩
    refine Call_ (ld_blt I hg hm PyProof.Rows.boot_zip (PyProof.Rows.callWith_type1 (thn (ha.run pos pins s σ H _ I h) fun us s1 ⟨vs, H1, I1, r1, q1⟩ => ?_) hs hpl))
    obtain ⟨a, b, xs, ys, ex, q1⟩ := q1
    subst ex
    have fresh : ∀ c, c ∈ [s1.heap.objs.size + 4, s1.heap.objs.size + 2, s1.heap.objs.size + 3, s1.heap.objs.size, s1.heap.objs.size + 1] → FpOk X pins H1 c := fun c hcm => by
      simp only [List.mem_cons, List.not_mem_nil, or_false] at hcm
      have hle : s1.heap.objs.size ≤ c := by
        have big : ∀ j : Nat, s1.heap.objs.size ≤ s1.heap.objs.size + j := fun j => Nat.le_add_right _ _
        rcases hcm with q | q | q | q | q
        · rw [q]; exact big 4
        · rw [q]; exact big 2
        · rw [q]; exact big 3
        · rw [q]; exact Nat.le_refl _
        · rw [q]; exact big 1
      exact I1.fpOk hle (I1.hok.fresh hle)
    cases r1 with
    | cons r rr =>
    cases rr with
    | cons r' rr =>
    cases rr
    cases r
    cases r'
    rcases q1 with ⟨hqx, hqy, q⟩ | ⟨hqx, hqy, q⟩ | ⟨hqx, hqy, q⟩
    · obtain ⟨its, rv, p1, _⟩ := I1.list hqx
      obtain ⟨its2, rv2, p2, _⟩ := I1.list hqy
      refine call_zip_2 p1.isList p2.isList fun h' hz hTI hTO h1 h2 hsz hk => wpAny_pyIter_zip hz ?_
      exact ⟨s1.heap.objs.size + 4, _, _, _, H1, rfl, I1.kept (t' := s1.toks) hk, turn_zip (PySem.W.ktu_apart s1.heap.objs.size a b p1.lt p2.lt), ⟨hz, hTI, ⟨_, _, hTO⟩, h1, h2⟩, fresh, q⟩
    · obtain ⟨its, rv, p1, _⟩ := I1.tuple hqx
      obtain ⟨its2, rv2, p2, _⟩ := I1.tuple hqy
      have w1 : s1.heap.IsTuple a its.toArray := p1
      have w2 : s1.heap.IsTuple b its2.toArray := p2
      obtain ⟨o1, ho1, _⟩ := id w1
      obtain ⟨o2, ho2, _⟩ := id w2
      refine RZ.call_zipT w1 w2 fun h' hz hTI hTO h1 h2 hsz hk => wpAny_pyIter_zip hz ?_
      exact ⟨s1.heap.objs.size + 4, _, _, _, H1, rfl, I1.kept (t' := s1.toks) hk, RZ.turn_zipT (PySem.W.ktu_apart s1.heap.objs.size a b (Heap.lt_size ho1) (Heap.lt_size ho2)), ⟨hz, hTI, ⟨_, _, hTO⟩, h1, h2⟩, fresh, q⟩
    · obtain ⟨its, rv, p1, _⟩ := I1.tuple hqx
      obtain ⟨its2, rv2, p2, _⟩ := I1.list hqy
      have w1 : s1.heap.IsTuple a its.toArray := p1
      obtain ⟨o1, ho1, _⟩ := id w1
      have la : ∀ c ∈ [a], c < s1.heap.objs.size := fun c hc => by
        have e : c = a := by simpa using hc
        rw [e]; exact Heap.lt_size ho1
      have lb : ∀ c ∈ [b], c < s1.heap.objs.size := fun c hc => by
        have e : c = b := by simpa using hc
        rw [e]; exact p2.lt
      refine zip_begins2 (begins_tuple a its.toArray) (begins_list b its2.toArray) w1 p2.isList fun h' hz hTI hTO h1 h2 hsz hk => wpAny_pyIter_zip hz ?_
      exact ⟨s1.heap.objs.size + 4, _, _, _, H1, rfl, I1.kept (t' := s1.toks) hk, turn_zipTL (zip_sep2 la lb), ⟨hz, hTI, ⟨_, _, hTO⟩, ⟨_, h1, rfl, rfl⟩, ⟨_, h2, rfl, rfl⟩⟩, fresh, q⟩
  · exact absurd trivial hx
section
variable {K : Fg} {M : Hp} {Γ : List SA} {O : Own} {n : Nat} {te t1 t2 t3 : TE} {E : KE}
theorem iter_zipTL {a b : Addr} {vs ws : List V} {ds es : List DV} (h : SqT K M a vs) (r : RpL K M vs ds) (h' : M b = some (.lst ws)) (r' : RpL K M ws es) : IterOk K (ItzTL K a b) (zipD ds es) M := fun pn As H0 M1 H1 σ Γ O n e S i => by
  have hq : SqT K H1 a vs := Evl.ex_t S.ex (Evl.ex_t e h)
  have hq' : SqL K H1 b ws := .inl (.inl (S.ex _ _ (e _ _ h')))
  refine ⟨fun d hd => ?_, fun hi => ⟨vs, ws, hq, hq', by rw [r.length, r'.length]; rw [zipD_length] at hi; omega⟩⟩
  obtain ⟨x, y, hx, hy, rfl⟩ := zipD_get hd
  obtain ⟨u, hu, ru⟩ := r.get' hx
  obtain ⟨w, hw, rw'⟩ := r'.get' hy
  refine ⟨⟨vs, ws, u, w, hq, hq', hu, hw⟩, fun z H' ⟨T, x', y', e1, hT, e2, f1, f2⟩ => ?_⟩
  subst e1 e2
  have g1 := f1 vs hq
  have g2 := f2 ws hq'
  rw [hu] at g1; rw [hw] at g2
  cases g1; cases g2
  obtain ⟨ex, S2⟩ := S.alloc (o := .tup [u, w]) hT
  exact ⟨_, ex, S2, .tup (.inl (.inl upd_same)) (.cons (ru.mono (Evl.Ex.trans e ex)) (.cons (rw'.mono (Evl.Ex.trans e ex)) .nil))⟩
theorem sw_zipB {ta : TA} {k : List DV → Nat → Prop} (h : WA K ta Γ O n fun xs n1 => ∃ ds es, (xs = [.lst ds, .lst es] ∨ xs = [.tup ds, .tup es] ∨ xs = [.tup ds, .lst es]) ∧ k (zipD ds es) n1) : SW K (iZipB K ta) Γ O n k := fun pn As H0 M H σ S R c =>
  h pn As H0 M H σ S _ fun v M1 H1 d n1 e1 S1 r1 ⟨ds, es, e, q⟩ => by
    rcases e with rfl | rfl | rfl
    · obtain ⟨u, w, rfl, r, r'⟩ := r1.two
      obtain ⟨a, vs, rfl, g1, g2⟩ := r.lst'
      obtain ⟨b, ws, rfl, g3, g4⟩ := r'.lst'
      exact ⟨a, b, vs, ws, rfl, .inl ⟨.inl (.inl (S1.ex _ _ g1)), .inl (.inl (S1.ex _ _ g3)), c _ M1 H1 _ n1 e1 S1 (iter_zipL g1 g2 g3 g4) q⟩⟩
    · obtain ⟨u, w, rfl, r, r'⟩ := r1.two
      obtain ⟨a, vs, rfl, g1, g2⟩ := r.tup'
      obtain ⟨b, ws, rfl, g3, g4⟩ := r'.tup'
      exact ⟨a, b, vs, ws, rfl, .inr (.inl ⟨Evl.ex_t S1.ex g1, Evl.ex_t S1.ex g3, c _ M1 H1 _ n1 e1 S1 (iter_zipT g1 g2 g3 g4) q⟩)⟩
    · obtain ⟨u, w, rfl, r, r'⟩ := r1.two
      obtain ⟨a, vs, rfl, g1, g2⟩ := r.tup'
      obtain ⟨b, ws, rfl, g3, g4⟩ := r'.lst'
      exact ⟨a, b, vs, ws, rfl, .inr (.inr ⟨Evl.ex_t S1.ex g1, .inl (.inl (S1.ex _ _ g3)), c _ M1 H1 _ n1 e1 S1 (iter_zipTL g1 g2 g3 g4) q⟩)⟩
/-! a, b = list, data and a, b, c = list, list, data: the lists stay one's own -/
theorem ws_asgT2 {i j : Nat} (h : WL K t1 Γ O n fun ds n1 => W K t2 Γ (O ++ [some ds]) n1 fun d n2 => E.nx ((Γ.set i (.own O.length)).set j (.is d)) (O ++ [some ds]) n2) :
    WS K (tAsg (tTup (tCons t1 (tCons t2 tNil))) (gTup K 2 (gCons (gName i) (gCons (gName j) gNil)))) Γ O n E := fun pn As H0 M H σ D S s =>
  h pn As H0 M H σ S _ fun p vs M1 H1 ds n1 e1 S1 h1 h2 h3 h4 hP h5 h6 q =>
    q pn (As ++ [p]) H0 M1 H1 σ (S1.addOwn h1 h2 h3 h4 h5 h6) _ fun v M2 H2 d n2 e2 S2 r2 q2 => ⟨by show 2 ≤ sizeLine; decide, fun T hT =>
      ⟨T, [.ref p, v], rfl, .inl (.inl upd_same), rfl, _, _, rfl, _, _, rfl, rfl, s.nx (As ++ [p]) M2 _ _ _ _ n2 (List.prefix_append _ _) (Evl.Ex.trans e1 e2) (((S2.lay hT).storeOwn (j := O.length) (by rw [← S1.len]; simp)).store r2) q2⟩⟩
theorem ws_asgT3 {i j l : Nat} (h : WL K t1 Γ O n fun ds n1 => WL K t2 Γ (O ++ [some ds]) n1 fun es n2 => W K t3 Γ ((O ++ [some ds]) ++ [some es]) n2 fun d n3 => E.nx (((Γ.set i (.own O.length)).set j (.own (O.length + 1))).set l (.is d)) ((O ++ [some ds]) ++ [some es]) n3) :
    WS K (tAsg (tTup (tCons t1 (tCons t2 (tCons t3 tNil)))) (gTup K 3 (gCons (gName i) (gCons (gName j) (gCons (gName l) gNil))))) Γ O n E := fun pn As H0 M H σ D S s =>
  h pn As H0 M H σ S _ fun p vs M1 H1 ds n1 e1 S1 h1 h2 h3 h4 hP h5 h6 q =>
    q pn (As ++ [p]) H0 M1 H1 σ (S1.addOwn h1 h2 h3 h4 h5 h6) _ fun p' vs' M2 H2 ds' n2 e2 S2 h1' h2' h3' h4' hP' h5' h6' q' =>
      q' pn ((As ++ [p]) ++ [p']) H0 M2 H2 σ (S2.addOwn h1' h2' h3' h4' h5' h6') _ fun v M3 H3 d n3 e3 S3 r3 q3 => ⟨by show 3 ≤ sizeLine; decide, fun T hT =>
        ⟨T, [.ref p, .ref p', v], rfl, .inl (.inl upd_same), rfl, _, _, rfl, _, _, rfl, _, _, rfl, rfl, s.nx ((As ++ [p]) ++ [p']) M3 _ _ _ _ n3 ((List.prefix_append _ _).trans (List.prefix_append _ _)) (Evl.Ex.trans (Evl.Ex.trans e1 e2) e3)
          ((((S3.lay hT).storeOwn (j := O.length) (by rw [← S1.len]; simp)).storeOwn (j := O.length + 1) (by rw [← S1.len]; simp)).store r3) q3⟩⟩
end
end DL
namespace DL
open PySem PySem.Spec PyProof.Rows L2
/-! own lists by place; lists of places -/
theorem own_app {O L : Own} {i : Nat} {x : Option (List DV)} (h : O[i]? = some x) : (O ++ L)[i]? = some x := by
  have hi := (List.getElem?_eq_some_iff.mp h).1
  rw [List.getElem?_append_left hi]; exact h
theorem own_last {O : Own} {x : Option (List DV)} : (O ++ [x])[O.length]? = some x := by simp
theorem own_set {O : Own} {i : Nat} {x y : Option (List DV)} (h : O[i]? = some x) : (O.set i y)[i]? = some y := List.getElem?_set_self (List.getElem?_eq_some_iff.mp h).1
theorem own_other {O : Own} {i j : Nat} {x y : Option (List DV)} (h : O[i]? = some x) (hij : j ≠ i) : (O.set j y)[i]? = some x := by rw [List.getElem?_set_ne hij]; exact h
theorem own_lt {O : Own} {i : Nat} {x : Option (List DV)} (h : O[i]? = some x) : i < O.length := (List.getElem?_eq_some_iff.mp h).1
def nN (x : Nat) : DV := .int (x : Int)
theorem eqv_nN (x y : Nat) : PyData.eqv (DL.py (nN x)) (DL.py (nN y)) = true ↔ x = y := by
  unfold nN
  rw [eqv_int]
  omega
theorem pl_nN {m : Nat} (x : Nat) : Pl m (nN x) := pl_int _
theorem pl_nNs {m : Nat} (l : List Nat) : Pl (m + 1) (.lst (l.map nN)) := pl_lst fun d hd => by
  obtain ⟨i, _, rfl⟩ := List.mem_map.mp hd
  exact pl_nN i
theorem eqv_nNs (l k : List Nat) : PyData.eqv (DL.py (.lst (l.map nN))) (DL.py (.lst (k.map nN))) = decide (l = k) :=
  Bool.eq_iff_iff.mpr ((eqv_lst nN eqv_nN l k).trans decide_eq_true_iff.symm)
section
variable {K : Fg}
theorem ne_nNs {x y : List Nat} {k : DV → Prop} (q : k (.bl (!decide (x = y)))) : OW K (rNeA K) (.lst (x.map nN)) (.lst (y.map nN)) k := ow_neD (pl_nNs (m := 0) _).shp (pl_nNs (m := 0) _).shp (by rw [eqv_nNs]; exact q)
theorem eq_nNs {x y : List Nat} {k : DV → Prop} (q : k (.bl (decide (x = y)))) : OW K (rEqA K) (.lst (x.map nN)) (.lst (y.map nN)) k := ow_eqD (pl_nNs (m := 0) _).shp (pl_nNs (m := 0) _).shp (by rw [eqv_nNs]; exact q)
end
end DL
namespace DL
open PySem PySem.Spec PyProof.Rows L2 NdefX
/-! an own __init__ that begins with super().__init__(text), over ValueError -/
abbrev mwV (x : Addr) : Obj := PySem.W.kxs_mw "ValueError.__init__" x
section
variable {prog : Program} {w : World} {A : Around} {E : Value → Shared → Prop} {h : Heap} {g : Array GenState} {d : Drawn} {t : Nat} {os : OsState}
variable {nm q : Str} {C N : Addr} {bs bm : List Value} {hdct : Bool} {sn : List Str} {sub : List Value} {ab : Bool} {col : Option Bool} {dd : Option Addr} {k0 k1 k2 k3 k5 : Option Value}
/-- the bound __init__ called: new args, nothing else -/
theorem call_mwV {u e t0 : Addr} {rest : List Value} {Q : Value → Shared → Prop}
    (hC : h.get? C = some (excClassObj nm q C N bs bm hdct sn sub ab col dd k0 k1 k2 k3 k5 "ValueError.__new__")) (hbm : PySem.HandSPX.refsVE bm = true) (he : h.get? e = some (HandSPX.excO C t0)) (hu : h.get? u = some (mwV e)) (hrest : rest.length ≤ sizeLine)
    (hq : ∀ h' t1, (∀ b o, b ≠ e → h.get? b = some o → h'.get? b = some o) → h'.get? e = some (HandSPX.excO C t1) → Q .none ⟨h', g, d, t, os⟩) :
    wpAny (model prog w) A (call (.ref u) rest) Q E ⟨h, g, d, t, os⟩ := by
  refine wpAny_call (codeAny_of_tree ?_)
  show wpAny _ A.in1 (callAny (.ref u) ⟨rest, []⟩) _ _ _
  simp only [callAny]
  refine wpAny_bind (wpAny_load hu ?_)
  have nb : (Value.type "method-wrapper" == Value.type "method" || Value.type "method-wrapper" == Value.type "builtin_function_or_method" || Value.type "method-wrapper" == Value.type "method-wrapper") = true := by decide
  simp only [mwV, PySem.W.kxs_mw, nb, if_true]
  refine W.KFB.if_so (by decide) ?_
  refine wpAny_bind (PySem.ESX.check_bound F.excBase_ValueError hC he rfl ?_)
  refine wpAny_bind (wpAny_pure (wpAny_pure ?_))
  refine ⟨Code.quiet_builtin _ (by decide +kernel), codeAny_builtin F.excBase_ValueError.initEntry ?_⟩
  rw [Around.under_plainId F.excBase_ValueError.init.plain _]
  wp_walk
  refine hq _ h.objs.size (fun b o hb ho => ?_) ?_
  · rw [Heap.get?_update_other _ _ (Ne.symm hb)]
    exact Heap.get?_push_of_some _ ho
  · rw [Heap.get?_update_self _ (Heap.get?_push_of_some _ he) rfl]
    rfl
end
section
variable {X : Cx} {pins : List (Addr × Obj)} {σ : L2.St} {H : Hp} {s : Shared}
/-- a new object that nobody tracks, held by a pin -/
theorem pin_new (I : Inv X pins σ H s) {u : Addr} {o : Obj} {h' : Heap} {t' : Nat} (hu : s.heap.objs.size ≤ u) (k : ∀ b o, s.heap.get? b = some o → h'.get? b = some o) (ho : h'.get? u = some o) (nc : ∀ v, o.data ≠ .cell v) :
    Inv X ((u, o) :: pins) σ H { s with heap := h', toks := t' } := by
  have J := I.kept (t' := t') k
  have f := I.fpOk hu (I.hok.fresh hu)
  refine J.pins_of fun p hp => ?_
  rcases List.mem_cons.mp hp with rfl | hp
  · exact ⟨ho, f.1, f.2.1, f.2.2.1, nc⟩
  · exact J.pin p (List.mem_append_right _ hp)
/-- super().__init__(text), where self is an exception in the making -/
theorem super_stmt {body : List Stmt} {f cda cc D a C : Addr} {of oc occ : Obj} {fd : FuncData} {ar : Arg} {vs : Array Value} {file : Str} {tf : Tok} {cdD : ClassData} {p0 p1 p2 p3 p4 : Pos} {e1 : Expr}
    (I : Inv X pins σ H s) (hfu : X.env.func = some f) (hco : X.env.code = .ref cda) (hcl : X.env.cells.lookup ("__class__" : Str) = some cc)
    (hf : X.K.lookup f = some of) (hfd : of.data = .func fd) (hp : (fd.params.posonlyargs ++ fd.params.args).head? = some ar)
    (hcc : X.K.lookup cda = some oc) (hoc : oc.data = .fields vs) (hvs : vs[2]? = some (.str file tf)) (hfile : ((X.prog.main.file : Str) == file) = true)
    (hce : X.K.lookup cc = some occ) (hcd : occ.data = .cell (some (.ref D))) (hD : PySem.W.clsIn X.K D = some cdD)
    (hks : X.env.kindOf "super" = some .globalImplicit) (hkc : X.env.kindOf "__class__" = some .free) (hka : X.env.kindOf ar.arg = some .local) (htop : (X.prog.main.scope.names.lookup ("super" : Str)).isSome = false) (hsup : X.mg "super" = none)
    (T : OexC X.K C) (ea : H a = some (exo a C none)) {i : Nat} (hN : X.N[i]? = some ar.arg) (hs : σ[i]? = some (some (.ref a)))
    (hsub : PySem.W.mroIn X.K C (.ref D) = some true) (hVE : PySem.W.subIn X.K (.ref C) (.type "ValueError") = some true) (ho : PySem.W.nsIn X.K cStatics "thirdparty.any" = some none) (hm : PySem.W.ks_superIn X.K C D "__init__" = some (some (.builtin "ValueError.__init__")))
    {txt : Str} (he1 : PE X e1 (tC (.str txt))) {pl : Sem Bool} {Q : Flow → Shared → Prop} {E : Value → Shared → Prop} (hE : X.xe = E) (q : ∀ s', Inv X pins σ H s' → Q .next s')
    (hin : interactive X.env = false := by rfl) (hst : starEach [e1] X.env = (false, eval e1 X.env) :: starEach [] X.env := by rfl) (hpl : (backTo p3 (starEach [] X.env)).any (·.1) = false := by rfl)
    (hev : eval (.Call (.Attribute (.Call (.Name "super" p0) [] [] p1) "__init__" p2) [e1] [] p3) X.env = (do
      let ov ← attributeBase (.Call (.Name "super" p0) [] [] p1) "__init__" X.env (eval (.Call (.Name "super" p0) [] [] p1) X.env)
      standAt p2.atName
      let (f, first) ← holding [ov] (getMethod ov "__init__" pl)
      callWith p3 f first (backTo p3 (starEach [e1] X.env)) []) := by rfl) :
    _root_.PySem.wpAt (model X.prog X.w) X.A (.func body X.env) (exec (.Expr (.Call (.Attribute (.Call (.Name "super" p0) [] [] p1) "__init__" p2) [e1] [] p3) p4) X.env) Q E s := by
  subst hE
  obtain ⟨mb, b1, b2⟩ := I.mod.blt
  obtain ⟨m, hns, hlk⟩ := I.loc
  obtain ⟨us, ru, lk⟩ := hlk i ar.arg (.ref a) hN hs (.inl hka)
  obtain rfl : us = Value.ref a := ru
  have hself : m ar.arg = some (.ref a) := by
    rcases lk with ⟨_, e⟩ | ⟨z, _⟩
    · exact e
    · rcases z with z | z
      · rw [hka] at z; cases z
      · rw [hka] at z; cases z
  obtain ⟨oD, hD1, hD2⟩ : ∃ oD, s.heap.get? D = some oD ∧ oD.data = .cls cdD := by
    unfold PySem.W.clsIn at hD
    split at hD
    · rename_i c dd cd' sl hoD
      cases hD
      exact ⟨_, I.kIn _ _ hoD, rfl⟩
    · cases hD
  obtain ⟨nm, qn, N, bs, bm, sn, sub, ab, col, dd, k0, k1, k2, k3, k5, hC, hbm⟩ := T.cls
  have hCls : PySem.W.clsIn X.K C = some { name := nm, bases := bs, mro := .ref C :: bm, ns := N, qualname := qn, hasDict := true, slotNames := sn, subclasses := sub, abstract := ab, collection := col, hasDel := false } := by unfold PySem.W.clsIn; rw [hC] <;> rfl
  obtain ⟨t1, hx⟩ := exo_at I.hok ea
  refine ks_wpAt_Expr_any (ks_wpAt_MethodCall (pl := pl) ?_ hev) (hi := hin)
  refine ks_wpAt_super_base (env := X.env) hks hkc rfl hfu (I.kIn _ _ hf) hfd hp hco (I.kIn _ _ hcc) hoc hvs hfile htop ?_
  refine PySem.W.ks_loadName_global I.ok.kind hks (Calls.loadGlobal_builtin (by rw [I.ok.glob]; exact I.mod.glob.keeps I.bk) hsup (by rw [I.ok.blt]; exact b1.keeps I.bk) ((b2 "super" (by decide +kernel)).trans (by first | rfl | kernel_rfl)) ⟨rfl, ?_⟩)
  refine wpAny_loadName_free I.ok.kind hkc hcl ⟨occ, I.kIn _ _ hce, hcd⟩ ?_
  refine wpAny_loadName_local I.ok.kind hka hns hself ?_
  obtain ⟨hp0, g, d, t, os⟩ := s
  refine ks_wpAny_isType_cls hD1 hD2 ⟨rfl, ?_⟩
  refine ks_wpAny_call_super hD1 hD2 hx rfl (fun c z => nomatch z) (PySem.W.looks_mroIn I.kIn hsub) (fun h1 hso k1' => ?_)
  have I1 := I.kept (t' := t) k1'
  have hx1 := k1' _ _ hx
  have xC : a ≠ C := fun z => by
    have e1 := I.kIn _ _ hC
    rw [z] at hx
    have e2 : some _ = some _ := hx.symm.trans e1
    simp [excClassObj] at e2
  have sz : hp0.objs.size < h1.objs.size := Heap.lt_size hso
  refine PySem.W.kxs_getMethod PySem.W.kxs_ValueError hso (PySem.W.looks_opaque I1.kIn ho) (l₀ := .ref C :: bm) (fun A Q E s k q => wpAny_bind ((PySem.W.looks_clsIn I1.kIn hCls) A _ E s k (wpAny_pure q))) rfl I1.kIn ?_ ?_ xC rfl ?_
  · unfold PySem.W.ks_superIn at hm
    rw [hCls] at hm
    exact hm
  · have J : PySem.W.InstAt h1 a _ C none := ⟨hx1, rfl, rfl, trivial⟩
    exact J.type.andThen (PySem.W.looks_subIn I1.kIn hVE)
  have I2 : Inv X ((h1.objs.size, mwV a) :: pins) σ H ⟨h1.push (mwV a), g, d, t + 1, os⟩ :=
    pin_new (s := ⟨h1, g, d, t, os⟩) (u := h1.objs.size) (o := mwV a) (t' := t + 1) I1 (Nat.le_refl _) (fun b o e => Heap.get?_push_of_some _ e) (Heap.get?_push_size _ rfl) (fun v z => nomatch z)
  rw [hst]
  refine PySem.W.kxs_callWith (i := "ValueError.__init__") (x := a) (by show (false || (backTo p3 (starEach [] X.env)).any (·.1)) = false; rw [hpl]; rfl) ?_
  refine Calls.evalArgs_plain ?_
  have run := (pa_cons he1 pa_nil hst).run p3 ((h1.objs.size, mwV a) :: pins) _ σ H (fun vs H1 => vs = [.str txt] ∧ H1 = H) I2 ⟨rfl, rfl⟩
  rw [hst] at run
  refine thn run fun vs s2 hv => ?_
  obtain ⟨ws, H1, I3, r3, ew, eH⟩ := hv
  subst ew eH
  have hu := (I3.pin (h1.objs.size, mwV a) (by simp)).1
  refine ⟨hu, ?_⟩
  obtain ⟨t2, hx2⟩ := exo_at I3.hok ea
  obtain ⟨h3, g3, d3, t3, os3⟩ := s2
  have hlen : vs.length ≤ sizeLine := by
    rw [← Paired.length r3, sizeLine_eq]
    show 1 ≤ 16777216
    decide
  refine call_mwV (I3.kIn _ _ hC) hbm hx2 hu hlen fun h' t4 k hx4 => ?_
  have J := I3.write (t' := t3) (x := a) (e := a) (o := exo a C none) (by rw [ea]; exact True.intro) (.inl rfl) k ⟨_, hx4⟩ (exo_ok hx4)
  have eu : upd H1 a (exo a C none) = H1 := by
    funext b
    by_cases hb : b = a
    · rw [hb, upd_same, ea]
    · rw [upd_ne hb]
  rw [eu] at J
  exact q _ (J.pins_of fun p hp => J.pin p (List.mem_append_right _ (List.mem_cons_of_mem _ hp)))
end
end DL
namespace DL
open PySem PySem.Spec PyProof.Rows L2 NdefX
section
variable {P : Program} {w : World} {K : PySem.W.Frag} {mg : Str → Option Value} {base : Heap} {N ps : List Str} {F : NF} {f cda cc D : Addr} {k : Nat} {sp : Sp}
/-- what the written part says of an own __init__ that says super() -/
structure SupF (P : Program) (K : PySem.W.Frag) (mg : Str → Option Value) (F : NF) (f D : Addr) : Prop where
  fobj : ∃ oc od doc pm ctv osl ar, K.lookup f = some ⟨oc, od, .func (F.fd doc pm ctv), osl⟩ ∧ (F.params.posonlyargs ++ F.params.args).head? = some ar ∧ ar.arg = ("self" : Str)
  code : PySem.W.codeIn K (.ref F.c) F.qual = true
  file : ∃ oc vs file tf, K.lookup F.c = some oc ∧ oc.data = .fields vs ∧ vs[2]? = some (.str file tf) ∧ ((P.main.file : Str) == file) = true
  cell : ∃ cc occ, F.cl = [(("__class__" : Str), cc)] ∧ K.lookup cc = some occ ∧ occ.data = .cell (some (.ref D))
  cls : ∃ cd, PySem.W.clsIn K D = some cd
  top : (P.main.scope.names.lookup ("super" : Str)).isSome = false
  sup : mg "super" = none
  stat : PySem.W.nsIn K cStatics "thirdparty.any" = some none
  kS : F.scope.names.lookup ("super" : Str) = some .globalImplicit
  kC : F.scope.names.lookup ("__class__" : Str) = some .free
/-- what it says of a class whose __init__ that is -/
structure SupC (K : PySem.W.Frag) (C D : Addr) : Prop where
  oex : OexC K C
  sub : PySem.W.mroIn K C (.ref D) = some true
  ve : PySem.W.subIn K (.ref C) (.type "ValueError") = some true
  ini : PySem.W.ks_superIn K C D "__init__" = some (some (.builtin "ValueError.__init__"))
theorem fn_sup {rest : List Stmt} {txt : Str} {jj : Nat} {p0 p1 p2 p3 p4 p5 : Pos} (U : SupF P K mg F f D) (S : NScope N ps ["__class__"] F.scope) (h0 : ps[0]? = some ("self" : Str))
    (hbody : F.body = .Expr (.Call (.Attribute (.Call (.Name "super" p0) [] [] p1) "__init__" p2) [.Constant (.str txt) jj p5] [] p3) p4 :: rest)
    (hev : ∀ env : Env, ∃ pl : Sem Bool, eval (.Call (.Attribute (.Call (.Name "super" p0) [] [] p1) "__init__" p2) [.Constant (.str txt) jj p5] [] p3) env = (do
      let ov ← attributeBase (.Call (.Name "super" p0) [] [] p1) "__init__" env (eval (.Call (.Name "super" p0) [] [] p1) env)
      standAt p2.atName
      let (f, first) ← holding [ov] (getMethod ov "__init__" pl)
      callWith p3 f first (backTo p3 (starEach [.Constant (.str txt) jj p5] env)) []))
    (len : ∀ vs H Q E, sp vs H Q E → vs.length = ps.length)
    (hb : ∀ (A : Around) (outer : List Env) (s : Shared) (H : Hp) (vs : List V) (Q : VK) (E : XK), Room k (A.deeper (envF F f s.heap.objs.size)) → sp vs H Q E →
      (∃ a us C, vs = .ref a :: us ∧ SupC K C D ∧ H a = some (exo a C none)) ∧
      ∃ t, PSs (ncx CX0 P w K mg base N F f A outer s H E) rest t ∧ t { nx := fun _ H' => Q .non H', rt := Q } (startF N vs [none]) H) :
    ∃ fd, (∃ oc od osl, K.lookup f = some ⟨oc, od, .func fd, osl⟩) ∧ FnOk P w K mg base CX0 (k + 1) f fd ps sp := by
  obtain ⟨oc, od, doc, pm, ctv, osl, ar, lk, har, hself⟩ := U.fobj
  refine ⟨_, ⟨oc, od, osl, lk⟩, len, fun A outer s H args us vs Q E hr e0 hbd r hsp => ?_⟩
  have hl := len _ _ _ _ hsp
  have KX : K.In s.heap := e0.mod.kin.keeps fun b o e => (e0.bs b o e).1
  have lim : s.heap.NoLimit := e0.mod.nolimit.keeps fun b o e => (e0.bs b o e).1
  obtain ⟨cc, occ, ecl, hcc, hcd⟩ := U.cell
  refine codeAny_call_function hr.depth (KX _ _ lk) rfl S.co S.gen rfl (PySem.W.codeRec_of KX U.code) (hbd _ _ _ _ ?_)
  refine wpAny_newFunctionEnv S.nocell (fun ⟨n, _⟩ hy => S.par n (List.of_mem_zip hy).1) (fun h₁ hns hsb => ⟨lim.fresh _ hsb, ?_⟩) S.kind
  show codeAny _ _ (.func F.body (envF F f s.heap.objs.size)) _ _
  refine ks_codeAny_funcAt ?_
  have kp : ∀ b o, s.heap.get? b = some o → h₁.get? b = some o := fun b o e => hsb.extBut b o (Nat.ne_of_lt (Heap.lt_size e)) (Heap.get?_push_of_some _ e)
  obtain ⟨⟨a, us', C, ev, hC, ea⟩, t, ht, hq⟩ := hb A outer s H vs Q E (hr.deeper _) hsp
  have cA : CellsAt F.cl ["__class__"] [none] s.heap H := by
    refine ⟨rfl, fun y c e => ?_, fun x y c e1 e2 => ?_, fun i y e => ?_⟩
    · rw [ecl] at e
      have eq : c = cc := by
        unfold List.lookup at e
        split at e
        · exact (Option.some.inj e).symm
        · cases e
      subst eq
      exact ⟨(e0.bs _ _ (e0.mod.kin _ _ hcc)).2, _, occ, KX _ _ hcc, hcd⟩
    · rw [ecl] at e1 e2
      have k1 : x = "__class__" := by
        unfold List.lookup at e1
        split at e1
        · rename_i h; exact eq_of_beq h
        · cases e1
      have k2 : y = "__class__" := by
        unfold List.lookup at e2
        split at e2
        · rename_i h; exact eq_of_beq h
        · cases e2
      rw [k1, k2]
    · match i, e with
      | 0, e => cases e; exact ⟨cc, by rw [ecl]; rfl, fun v z => nomatch z⟩
      | i + 1, e => simp at e
  have I : Inv (ncx CX0 P w K mg base N F f A outer s H E) [] (startF N vs [none]) H { s with heap := h₁, toks := s.toks + (ps.zip us).length } := inv_startN S hr.hd e0 hl r cA hns kp
  obtain ⟨occ2, vsc, file, tf, hcod, hdat, hvs, hfile⟩ := U.file
  obtain ⟨cdD, hD⟩ := U.cls
  have hN0 : N[0]? = some ("self" : Str) := by
    have e : (N.take (ps.length + 1))[0]? = some ("self" : Str) := by
      have := S.pre
      show (N.take (ps.length + (["__class__"] : List Str).length))[0]? = _
      rw [this]
      cases ps with
      | nil => cases h0
      | cons p ps => exact h0
    rw [List.getElem?_take] at e
    rw [if_pos (by omega)] at e
    exact e
  have hs0 : (startF N vs [none])[0]? = some (some (.ref a)) := by rw [ev]; rfl
  have fin : ∀ {σ' : L2.St} {H' : Hp} {v : V} {u : Value} {s' : Shared}, Inv (ncx CX0 P w K mg base N F f A outer s H E) [] σ' H' s' → L2.RelV v u → Q v H' → CE outer P w H s Q u s' :=
    fun {σ' H' v u s'} J rv q => ⟨v, H', J.os, J.bare, J.base, J.hok, rv, q⟩
  rw [hbody]
  obtain ⟨pl, hev⟩ := hev (ncx CX0 P w K mg base N F f A outer s H E).env
  refine ks_wpAt_execs_cons (super_stmt (pl := pl) (X := ncx CX0 P w K mg base N F f A outer s H E) I rfl rfl (cc := cc) (by show F.cl.lookup _ = _; rw [ecl]; rfl) lk rfl har hcod hdat hvs hfile hcc hcd hD U.kS U.kC ?_ U.top U.sup hC.oex ea (i := 0) ?_ hs0 hC.sub hC.ve U.stat hC.ini pe_str rfl (fun s' J => ?_) (hin := by show (F.scope.kind == _ && _) = false; rw [S.kind]; rfl) (hev := hev))
  · rw [hself]; exact S.par _ (List.mem_of_getElem? h0)
  · rw [hself]; exact hN0
  refine wpAt_of_wpAny (wpAny_mono (ht.run [] s' (startF N vs [none]) H _ J hq) (fun fl s' hs => ?_) fun e s' hs => hs)
  cases fl with
  | ret u =>
    obtain ⟨v, σ', H', J, rv, q⟩ := hs
    exact fin J rv q
  | next =>
    obtain ⟨σ', H', J, q⟩ := hs
    exact fin (v := V.non) (u := Value.none) J rfl q
  | brk =>
    obtain ⟨_, _, _, q⟩ := hs
    exact False.elim q
  | cont =>
    obtain ⟨_, _, _, q⟩ := hs
    exact False.elim q
end
end DL
namespace PySem
namespace DLx
open PySem.W PySem.Calls PyProof.Rows PySem.HandSPX
/-! errors as values: C(.., k = v), C over ValueError; e.f; isinstance(e, D) -/
section
variable {M : Model} {A : Around} {E : Value → Shared → Prop} {h : Heap} {g : Array GenState} {d : Drawn} {t : Nat} {os : OsState}
variable {nm q : Str} {C N : Addr} {bs bm bB : List Value} {hdct : Bool} {sn : List Str} {sub : List Value} {ab : Bool} {col : Option Bool} {dd : Option Addr} {k0 k1 k2 k3 k5 : Option Value} {B nI iI : String}
theorem chk_new (F : ExcBaseFacts B nI iI bB) (hT : ∀ X : String, bm.contains (.type X) = bB.contains (.type X)) {us : List Value} {kw : List (Str × Value)} {Q : Unit → Shared → Prop}
    (oC : h.get? C = some (excClassObj nm q C N bs bm hdct sn sub ab col dd k0 k1 k2 k3 k5 nI)) (fin : Q () ⟨h, g, d, t, os⟩) : wpAny M A (checkBuiltinCall nI ⟨.ref C :: us, kw⟩) Q E ⟨h, g, d, t, os⟩ := by
  have cB : (Value.ref C :: bm).contains (.type B) = true := by
    rw [List.contains_cons, hT, F.hasB, Bool.or_true]
  have st := F.noStar
  simp only [checkBuiltinCall, F.newKind, F.newSplit, F.newRow]
  repeat (first | refine wpAny_loadPart_at oC ?_ | (refine wpAny_isSubtype_exc oC ?_; rw [cB]) | refine wpAny_staticBase_exc oC ?_ | refine wpAny_madeBy_exc oC ?_ | simp only [bne_self_eq_false, Bool.false_eq_true, if_false] | wp_step)
  all_goals first | exact fin | skip
end
section
variable {prog : Program} {w : World} {A : Around} {E : Value → Shared → Prop} {R : Result → Shared → Prop} {h : Heap} {g : Array GenState} {d : Drawn} {t : Nat} {os : OsState}
variable {nm q : Str} {C N : Addr} {bs bm bB : List Value} {hdct : Bool} {sn : List Str} {sub : List Value} {ab : Bool} {col : Option Bool} {dd : Option Addr} {k0 k1 k2 k3 k5 : Option Value} {B nI iI : String}
theorem new_kw (F : ExcBaseFacts B nI iI bB) (hT : ∀ X : String, bm.contains (.type X) = bB.contains (.type X)) {us : List Value} {kw : List (Str × Value)}
    (oC : h.get? C = some (excClassObj nm q C N bs bm hdct sn sub ab col dd k0 k1 k2 k3 k5 nI))
    (fin : R (.ok (.ret (.ref (h.objs.size + 1)))) ⟨(h.push (PySem.W.kdv_tup us)).push (excO C h.objs.size), g, d, t, os⟩) (hz : us.length ≤ sizeLine) :
    codeAny (model prog w) A (.builtin nI ⟨.ref C :: us, kw⟩) R ⟨h, g, d, t, os⟩ := by
  have en := F.ends
  have cB : (Value.ref C :: bm).contains (.type B) = true := by
    rw [List.contains_cons, hT, F.hasB, Bool.or_true]
  have cA : (Value.ref C :: bm).contains (.type "AttributeError") = false := by
    rw [List.contains_cons, hT, F.noAttr]; rfl
  have cN : (Value.ref C :: bm).contains (.type "NameError") = false := by
    rw [List.contains_cons, hT, F.noName]; rfl
  refine codeAny_builtinAt F.entry ?_
  unfold Builtin.«BaseException.__new__»
  refine wpAt_bind ?_
  show wpAt _ _ _ (stack >>= _) _ _ _
  refine wpAt_bind (wpAt_stack fun p below => wpAt_of_wpAny ?_)
  wp_walk
  refine wpAt_of_wpAny ?_
  rw [F.owner]
  repeat (first | with_reducible refine wpAny_madeHere_exc F.canon oC ?_ | with_reducible refine wpAny_loadPart_at oC ?_ | (with_reducible refine wpAny_isSubtype_exc oC ?_; first | rw [cB] | rw [cA] | rw [cN]) | wp_step)
  show R _ _
  rw [Heap.size_push]
  exact fin
theorem typ_kw (F : ExcBaseFacts B nI iI bB) (hT : ∀ X : String, bm.contains (.type X) = bB.contains (.type X)) {us : List Value} {kw : List (Str × Value)} {fI : Addr} {Q : Fin → Shared → Prop}
    (oC : h.get? C = some (excClassObj nm q C N bs bm hdct sn sub ab col dd k0 k1 k2 k3 k5 nI))
    (li : W.Looks (model prog w) h (typeLookup (.ref C) "__init__") (some (.ref fI))) (lb : ∀ self, W.Looks (model prog w) h (bindSpecial (.ref fI) self) (.ref fI, [self])) (hz : us.length ≤ sizeLine)
    (go : codeAny (model prog w) A (.call (.ref fI) ⟨.ref (h.objs.size + 1) :: us, kw⟩)
      (fun r s' => match r with | .ok (.ret v) => v = .none ∧ Q (.done (.ret (.ref (h.objs.size + 1)))) s' | .ok _ => False | .error e => E e s') ⟨(h.push (W.kdv_tup us)).push (excO C h.objs.size), g, d, t, os⟩) :
    wpAny (model prog w) A (Builtin.«type.__call__» ⟨.ref C :: us, kw⟩) Q E ⟨h, g, d, t, os⟩ := by
  repeat (first | with_reducible refine wpAny_loadPart_at oC ?_ | with_reducible refine wpAny_madeBy_exc oC ?_ | wp_step)
  refine codeAny_call_builtin_code (Code.quiet_builtin _ F.quiet) (chk_new F hT oC ?_)
  refine new_kw F hT oC ?_ hz
  show wpAny _ _ _ _ _ _
  have kk : ∀ b o, h.get? b = some o → ((h.push (W.kdv_tup us)).push (excO C h.objs.size)).get? b = some o := by
    exact fun b o e => Heap.get?_push_of_some _ (Heap.get?_push_of_some _ e)
  have oC2 := kk _ _ oC
  have gt : ((h.push (W.kdv_tup us)).push (excO C h.objs.size)).get? (h.objs.size + 1) = some (excO C h.objs.size) := by
    heap_get
  have cC : (Value.ref C :: bm).contains (.ref C) = true := by simp
  have i1 := li.keeps kk
  have b1 := (lb (.ref (h.objs.size + 1))).keeps kk
  unfold isInstance
  repeat (first | with_reducible refine wpAny_loadPart_at gt ?_ | (with_reducible refine wpAny_isSubtype_exc oC2 ?_; rw [cC]) | wp_step)
  show wpAny _ _ (typeLookup (.ref C) _) _ _ _
  refine i1.at ?_
  refine wpAny_holding (wpAny_bind (b1.at ?_))
  refine wpAny_bind (wpAny_call (codeAny_mono go fun r s' z => ?_))
  rcases r with e | (v | _ | _ | _) <;> first | exact z | exact z.elim | skip
  obtain ⟨rfl, z⟩ := z
  first
    | exact wpAny_pure (wpAny_pure z)
    | (wp_walk; exact z)
theorem call_kw (F : ExcBaseFacts B nI iI bB) (hT : ∀ X : String, bm.contains (.type X) = bB.contains (.type X)) {us : List Value} {kw : List (Str × Value)} {fI : Addr}
    (oC : h.get? C = some (excClassObj nm q C N bs bm hdct sn sub ab col dd k0 k1 k2 k3 k5 nI))
    (li : W.Looks (model prog w) h (typeLookup (.ref C) "__init__") (some (.ref fI))) (lb : ∀ self, W.Looks (model prog w) h (bindSpecial (.ref fI) self) (.ref fI, [self])) (hz : us.length ≤ sizeLine)
    (go : codeAny (model prog w) (A.under (.builtin "type.__call__" ⟨.ref C :: us, kw⟩)) (.call (.ref fI) ⟨.ref (h.objs.size + 1) :: us, kw⟩) (W.InitBack (h.objs.size + 1) R) ⟨(h.push (W.kdv_tup us)).push (excO C h.objs.size), g, d, t, os⟩) :
    codeAny (model prog w) A (.call (.ref C) ⟨us, kw⟩) R ⟨h, g, d, t, os⟩ := by
  have f1 := tc_lookup
  have f2 := tc_bind (.ref C)
  have hTy : (⟨h, g, d, t, os⟩ : Shared).TypeIs (.ref C) "type" := ⟨_, oC, rfl⟩
  refine codeAny_of_tree ?_
  show wpAny _ _ (callAny (.ref C) _) _ _ _
  repeat (any_goals (first | assumption | with_reducible refine wpAny_loadPart_at oC ?_ | wp_step))
  refine ⟨rfl, ?_⟩
  refine codeAny_call_builtin_at (Code.quiet_builtin _ (by decide +kernel)) entry_typeCall (wpAny_check_type_call_sub oC (typ_kw F hT oC li lb hz ?_))
  refine codeAny_mono go fun r s' z => ?_
  rcases r with e | (v | _ | _ | _) <;> exact z
end
end DLx
end PySem
namespace DL
open PySem PySem.Spec PyProof.Rows L2 NdefX PySem.HandSPX PySem.DLx
/-- C(..): the values in order, C's own __init__ keeping sp; the error stands as a value -/
def tMkX (C : Addr) (nn mm : Nat) (sp : Sp) (gV : List V → List V → List V) (E : XK) (t tk : TA) : TE := fun σ H Q => t σ H fun vs H1 => tk σ H1 fun zs H2 => vs.length = nn ∧ zs.length = mm ∧
  ∀ a, H2 a = none → sp (gV (.ref a :: vs) zs) (upd H2 a (exo a C none)) (fun v H3 => v = .non ∧ Q (.ref a) H3) E
section
variable {X : Cx} {CX : CXT} {k nn : Nat} {f C : Addr} {fd : FuncData} {ps ks : List Str} {sp : Sp} {E : XK} {x : Str} {p pos : Pos} {e : Expr} {es : List Expr} {kws : List Keyword} {t tk : TA} {g : List Value → List Value → List Value} {gV : List V → List V → List V}
theorem run_mkX {pins : List (Addr × Obj)} {σ : L2.St} {H : Hp} {s : Shared} {Q : VK} {us ws : List Value} {vs zs : List V} (T : OexC X.K C) (iC : PySem.W.findIn X.K (.ref C) "__init__" = some (some (.ref f))) (tI : PySem.W.typeIn X.K (.ref f) = some (.type "function"))
    (F : FnOk X.prog X.w X.K X.mg X.base CX k f fd ps sp) (hr : Room (k + 1) X.A) (hb : KBn X.K fd ps (nn + 1) ks g gV) (hx : Passes CX X E) (I : Inv X pins σ H s) (r : Vals vs us) (rz : Vals zs ws) (l1 : vs.length = nn) (l2 : zs.length = ks.length) (hn : nn ≤ 1000)
    (h : ∀ a, H a = none → sp (gV (.ref a :: vs) zs) (upd H a (exo a C none)) (fun v H2 => v = .non ∧ Q (.ref a) H2) E) :
    wpAny (model X.prog X.w) X.A (call (.ref C) us (ks.zip ws)) (L2.EP X pins σ Q) X.xe s := by
  obtain ⟨nm, q, N, bs, bm, sn, sub, ab, col, dd, k0, k1, k2, k3, k5, hC, hbm⟩ := T.cls
  obtain ⟨hp, gg, dr, tk0, os⟩ := s
  have hsz : hp.objs.size ≤ hp.objs.size + 1 := Nat.le_succ _
  have hnn : H (hp.objs.size + 1) = none := I.hok.fresh hsz
  have hq := h (hp.objs.size + 1) hnn
  have kk : ∀ b o, hp.get? b = some o → ((hp.push (PySem.W.kdv_tup us)).push (excO C hp.objs.size)).get? b = some o := by
    exact fun b o e => Heap.get?_push_of_some _ (Heap.get?_push_of_some _ e)
  have gt : ((hp.push (PySem.W.kdv_tup us)).push (excO C hp.objs.size)).get? (hp.objs.size + 1) = some (excO C hp.objs.size) := by
    heap_get
  have I2 : Inv X pins σ (upd H (hp.objs.size + 1) (exo (hp.objs.size + 1) C none)) ⟨(hp.push (PySem.W.kdv_tup us)).push (excO C hp.objs.size), gg, dr, tk0, os⟩ := by
    exact I.laid (t' := tk0) (a := hp.objs.size + 1) (o := exo (hp.objs.size + 1) C none) (h' := (hp.push (PySem.W.kdv_tup us)).push (excO C hp.objs.size)) kk hsz (exo_ok gt)
  have r1 : Vals (V.ref (hp.objs.size + 1) :: vs) (Value.ref (hp.objs.size + 1) :: us) := .cons rfl r
  have r2 := hb.rel r1 rz
  have e1 : (Value.ref (hp.objs.size + 1) :: us).length = nn + 1 := r1.length.symm.trans (congrArg Nat.succ l1)
  have e2 : ws.length = ks.length := rz.length.symm.trans l2
  have hus : us.length ≤ sizeLine := by
    rw [← Paired.length r, l1, sizeLine_eq]
    omega
  refine wpAny_call (call_kw PySem.F.excBase_ValueError (fun Y => refsVE_contains Y bm hbm) (I.kIn _ _ hC) (PySem.W.looks_findIn I.kIn iC) (fun self => PySem.W.bind_fn I.kIn self tI) hus
    (codeAny_mono (F.run _ X.stack _ _ ⟨Value.ref (hp.objs.size + 1) :: us, ks.zip ws⟩ (g (Value.ref (hp.objs.size + 1) :: us) ws) _ _ E (hr.make C us (ks.zip ws)) (I2.env0.make C us (ks.zip ws)) (hb.to _ (Value.ref (hp.objs.size + 1) :: us) ws I2.kIn e1 e2) r2 hq) fun r s' hq' => ?_))
  cases r with
  | error er => exact hx pins σ _ _ er s' I2 hq'
  | ok fl =>
    cases fl with
    | ret u =>
      obtain ⟨v, H3, I3, rv, ev, q3⟩ := I2.after hq'
      subst ev
      exact ⟨rv, ⟨V.ref (hp.objs.size + 1), H3, I3, rfl, q3⟩⟩
    | next => exact hq'.elim
    | brk => exact hq'.elim
    | cont => exact hq'.elim
theorem pe_mkX (T : OexC X.K C) (iC : PySem.W.findIn X.K (.ref C) "__init__" = some (some (.ref f))) (tI : PySem.W.typeIn X.K (.ref f) = some (.type "function"))
    (F : FnOk X.prog X.w X.K X.mg X.base CX k f fd ps sp) (hr : Room (k + 1) X.A) (hg : Gl X x) (hm : X.mg x = some (.ref C)) (hb : KBn X.K fd ps (nn + 1) ks g gV) (hx : Passes CX X E) (hn : nn ≤ 1000) (ha : PA X (e :: es) t) (hkw : PK X kws tk)
    (hall : (backToKw pos (keywordEach kws X.env)).all (·.1.isSome) = true := by rfl) (hks : (backToKw pos (keywordEach kws X.env)).filterMap (·.1) = ks := by rfl)
    (hdb : (x == ("__debug__" : Str)) = false := by decide) (he : starEach (e :: es) X.env = (false, eval e X.env) :: starEach es X.env := by rfl)
    (hpl : ((backTo pos (starEach (e :: es) X.env)).any (·.1) || (backToKw pos (keywordEach kws X.env)).any (·.1.isNone)) = false := by rfl) :
    PE X (.Call (.Name x p) (e :: es) kws pos) (tMkX C nn ks.length sp gV E t tk) := by
  constructor
  intro pins s σ H Q I h
  apply wpAny_Call_Name_kw (ld_glob I hg hm ?_ hdb)
  apply PySem.W.callWith_KW (h₀ := X.base) I.ok.mod.kin T.kC hall ?_ hpl he
  apply thn (ha.run pos pins s σ H _ I h)
  rintro us s1 ⟨vs, H1, I1, r1, q1⟩
  apply thn (hkw.run pos pins s1 σ H1 _ I1 q1)
  rintro ws s2 ⟨zs, H2, I2, rz, l1, l2, q2⟩
  refine ⟨I2.kIn, ?_⟩
  rw [hks]
  exact run_mkX T iC tI F hr hb hx I2 r1 rz l1 l2 hn q2
theorem pe_mkX0 (T : OexC X.K C) (iC : PySem.W.findIn X.K (.ref C) "__init__" = some (some (.ref f))) (tI : PySem.W.typeIn X.K (.ref f) = some (.type "function"))
    (F : FnOk X.prog X.w X.K X.mg X.base CX k f fd ps sp) (hr : Room (k + 1) X.A) (hg : Gl X x) (hm : X.mg x = some (.ref C)) (hb : KBn X.K fd ps 1 ks g gV) (hx : Passes CX X E) (hkw : PK X kws tk)
    (hall : (backToKw pos (keywordEach kws X.env)).all (·.1.isSome) = true := by rfl) (hks : (backToKw pos (keywordEach kws X.env)).filterMap (·.1) = ks := by rfl)
    (hdb : (x == ("__debug__" : Str)) = false := by decide)
    (hpl : ((backTo pos (starEach [] X.env)).any (·.1) || (backToKw pos (keywordEach kws X.env)).any (·.1.isNone)) = false := by rfl) :
    PE X (.Call (.Name x p) [] kws pos) (tMkX C 0 ks.length sp gV E tNil tk) := by
  constructor
  intro pins s σ H Q I h
  apply wpAny_Call_Name_kw (ld_glob I hg hm ?_ hdb)
  apply PySem.W.callWith_KW0 (h₀ := X.base) I.ok.mod.kin T.kC hall ?_ hpl
  apply thn (hkw.run pos pins s σ H _ I h)
  rintro ws s2 ⟨zs, H2, I2, rz, l1, l2, q2⟩
  refine ⟨I2.kIn, ?_⟩
  rw [hks]
  exact run_mkX (us := []) T iC tI F hr hb hx I2 .nil rz rfl l2 (Nat.zero_le _) q2
/-! e.f, e an error that stands as a value -/
def tExF (K : Fg) (te : TE) (f : Str) : TE := fun σ H Q => te σ H fun x H1 => ∃ a C dx fs v, x = .ref a ∧ H1 a = some (exo a C (some dx)) ∧ H1 dx = some (exd dx fs) ∧ XfC K C ∧ PySem.W.findIn K (.ref C) f = some none ∧ fs.lookup f = some v ∧ Q v H1
theorem pe_exf {te : TE} {n : Str} (he : PE X e te) (hb : attributeBase e n X.env (eval e X.env) = eval e X.env := by rfl) : PE X (.Attribute e n pos) (tExF X.K te n) := by
  constructor
  intro pins s σ H Q I h
  refine attr_of hb (thn (he.run pins s σ H _ I h) fun u s1 ⟨y, H1, I1, rx, a, C, dx, fs, v, ey, ea, ed, T, hno, l, q⟩ => ?_)
  subst ey
  obtain rfl : u = Value.ref a := rx
  obtain ⟨t1, ho⟩ := exo_at I1.hok ea
  obtain ⟨mA, hns, hr⟩ := exd_at I1.hok ed
  obtain ⟨od, hod, hl⟩ := lookIn_ns hns
  obtain ⟨w, hw, rw'⟩ := RelO.some_of (v := v) (o := mA n) (by rw [← l]; exact hr n)
  have J : PySem.W.InstAt s1.heap a ({ cls := .ref C, dict := some dx, data := .fields #[.ref t1, .none, .none, .none, .bool false, .none] } : Obj) C (some od) := ⟨ho, rfl, rfl, hod⟩
  exact exc_get I1.kIn J T.ga T.gg T.exC (PySem.W.findObj_own T.hdC hno rfl (by rw [hl, hw])) (handed_of rw') ⟨v, H1, I1.tok _, rw', q⟩
end
/-! isinstance(e, D) -/
section
open PySem.W
variable {prog : Program} {w : World} {A : Around} {E : Value → Shared → Prop} {s : Shared} {K : PySem.W.Frag} {x D : Addr} {ox : Obj} {od : Option Obj}
theorem obj_dataG {C : Addr} {name : Str} {a g : Value} (hc : (clsIn K C).isSome = true) (ha : findIn K (.ref C) name = some (some a)) (hg : specialIn K a "__get__" = some (some g)) (ht : takesIn K a = some true) : findObj K C od name = some (.bind g a) := by
  obtain ⟨cd, e⟩ := Option.isSome_iff_exists.mp hc
  unfold findObj
  rw [e, Option.bind_some, ha, Option.bind_some]
  simp [hg, ht]
theorem kin_clsE {Q : Option Value → Shared → Prop} (c : ExcC K D) (X : K.In s.heap) (I : InstAt s.heap x ox D od) (h : Q (some (.ref D)) { s with toks := s.toks + 1 }) : wpAny (model prog w) A (getAttr? (.ref x) "__class__") Q E s := by
  have hf : findObj K D od "__class__" = some (.bind (.builtin "getset_descriptor.__get__") (.builtin "object.__class__")) := by
    exact obj_dataG (by obtain ⟨cd, e, _⟩ := any_some c.hd; rw [e]; rfl) c.ha c.hn c.ht
  obtain ⟨hp, g, d, t, os⟩ := s
  have l0 := I.type (M := model prog w)
  have l1 := looks_findIn (M := model prog w) X c.hg
  have l2 := looks_findIn (M := model prog w) X c.hk
  have l3 := looks_find (M := model prog w) X I hf
  have sub : Looks (model prog w) hp (isInstance (.ref x) (.type "BaseException")) true := by
    exact l0.andThen (looks_subIn X c.hs)
  have z0 : (false && onTheHeap (Value.builtin "BaseException.__getattribute__")) = false := by rfl
  have z2 : (Value.builtin "BaseException.__getattribute__" == Value.builtin "object.__getattribute__") = false := by decide +kernel
  have z1 : (onTheHeap (Value.ref D) && Value.builtin "BaseException.__getattribute__" == Value.builtin "object.__getattribute__") = false := by
    rw [z2]; rfl
  unfold getAttr? getAttrBy? getAttrBy
  refine wpAny_bind (wpAny_mkText (wpAny_bind (wpAny_attempt (wpAny_holding (wpAny_bind (l0.at (wpAny_bind (l1.at ?_))))))))
  show wpAny _ _ (if (onTheHeap (Value.ref D) && Value.builtin "BaseException.__getattribute__" == Value.builtin "object.__getattribute__") = true then _ else _) _ _ _
  rw [z1, if_neg Bool.false_ne_true]
  unfold getAttrByItsOwn hookBefore
  refine wpAny_bind ?_
  rw [if_pos (show onTheHeap (Value.ref D) = true from rfl)]
  refine l2.at ?_
  refine wpAny_bind (wpAny_attempt (wpAny_holding ?_))
  unfold callGetattribute
  rw [z0, if_neg Bool.false_ne_true]
  unfold boundAndCalled
  rw [PySem.F.excAttr_ValueError.ga.bind (.ref x)]
  refine wpAny_bind (wpAny_pure ?_)
  show wpAny _ _ (call (.builtin "BaseException.__getattribute__") [.ref x, .str "__class__" t]) _ _ _
  refine wpAny_call (codeAny_call_builtin PySem.F.excAttr_ValueError.ga.plain PySem.F.entry_bexc_ga ?_)
  refine @check_slot (model prog w) _ _ ⟨hp, g, d, t + 1, os⟩ "BaseException.__getattribute__" "BaseException" "__getattribute__" (.ref x) [.str "__class__" t] [] _ (by decide +kernel) (by decide +kernel) sub (PySem.F.args_bexc_ga (.ref x) (.str "__class__" t)) ?_
  unfold Builtin.«object.__getattribute__»
  refine wpAny_bind (wpAny_of_eq (a := ((Value.ref x : Value), [Value.str "__class__" t])) (by first | rfl | (simp only [slotArgs]; rfl)) ?_)
  refine wpAny_bind (wpAny_pure (wpAny_bind (l0.at (wpAny_bind (l3.at ?_)))))
  show wpAny _ _ (holding [Value.builtin "object.__class__"] (call (.builtin "getset_descriptor.__get__") [.builtin "object.__class__", .ref x, .ref D]) >>= ret) _ _ _
  refine wpAny_bind (wpAny_holding (wpAny_call (class_get (s := ⟨hp, g, d, t + 1, os⟩) (ox := ox) (od := od) X I c.hm ?_)))
  refine wpAny_pure ?_
  show wpAny _ _ (handedOut (.ref D)) _ _ _
  rw [handedOut_of (v := .ref D) rfl]
  first
    | exact wpAny_pure (wpAny_pure h)
    | exact wpAny_pure h
    | exact wpAny_pure (wpAny_bind (wpAny_pure (wpAny_pure h)))
theorem kitx_err (c : ExcC K D) : KitX K (.ref x) (.ref D) (fun h => ∃ ox od, InstAt h x ox D od) where
  ty := fun _ _ _ ⟨_, _, I⟩ => I.type
  it := fun _ _ X _ => by
    obtain ⟨cdD, e, _⟩ := any_some c.hd
    unfold clsIn at e
    split at e
    · rename_i c' d' cd' sl' ho
      intro A' Q' E' s' k q
      unfold isType loadHead
      exact wpAny_bind (wpAny_loadPart (k _ _ (X _ _ ho)) (wpAny_pure q))
    · cases e
  ne := fun h tp dd its n sl X htp => by
    obtain ⟨cdD, e, _⟩ := any_some c.hd
    refine Bool.eq_false_iff.mpr fun q => ?_
    have e2 : D = tp := Value.ref.inj (beq_iff_eq.mp q)
    subst e2
    unfold clsIn at e
    split at e
    · rename_i c' d' cd' sl' ho
      have z := (X _ _ ho).symm.trans htp
      cases z
    · cases e
  ca := fun X ⟨_, _, I⟩ k => kin_clsE c X I k
end
section
/-- isinstance(e, c), e an error that stands as a value -/
def rIsX (K : Fg) : List V → Hp → VK → Prop := fun xs H Q => ∃ (a C dx : Addr) (c : V) (u : Value) (b : Bool), xs = [.ref a, c] ∧ ClsV c u ∧ H a = some (exo a C (some dx)) ∧ (∃ fs, H dx = some (exd dx fs)) ∧ ExcC K C ∧ PySem.W.kitOne K (.ref C) u = some b ∧ Q (.bl b) H
theorem cr_isX {X : Cx} : CallR X (.builtin "isinstance") (rIsX X.K) := by
  intro pins s σ H xs us Q I r h
  obtain ⟨a, C, dx, c, u, b, rfl, k, ea, ⟨fs, ed⟩, T, e, q⟩ := h
  obtain ⟨u1, u2, rfl, r1, r2⟩ := vals2 r
  have e2 := k.eq r2
  subst e2
  obtain rfl : u1 = Value.ref a := r1
  obtain ⟨t1, ho⟩ := exo_at I.hok ea
  obtain ⟨mA, hns, hr⟩ := exd_at I.hok ed
  obtain ⟨od, hod, hl⟩ := lookIn_ns hns
  exact PySem.W.kia_one (kitx_err T) I.kIn ⟨_, some od, (⟨ho, rfl, rfl, hod⟩ : PySem.W.InstAt s.heap a _ C (some od))⟩ e (fun z => nomatch z) fun tk => ⟨.bl b, H, I.tok tk, rfl, q⟩
end
end DL
namespace DL
open PySem PySem.Spec PyProof.Rows L2 NdefX PySem.HandSPX
/-! errors over data -/
/-- an own __init__ that keeps its arguments under the names ns -/
def spErr (C : Addr) (ns : List Str) : Sp := fun vs H Q _ => ∃ a us, vs = .ref a :: us ∧ us.length = ns.length ∧ H a = some (exo a C none) ∧
  ∀ dx, H dx = none → dx ≠ a → Q .non (upd (upd H dx (exd dx (ns.zip us).reverse)) a (exo a C (some dx)))
/-- what the text has of an error class with its own __init__ at st -/
structure ErrT (P : Program) (K : Fg) (mg : Str → Option Value) (st : Stmt) (C : Addr) (ns : List Str) : Prop where
  xf : XfC K C
  exc : ExcC K C
  no : ∀ f ∈ ns, PySem.W.findIn K (.ref C) f = some none
  sup : SupC K C C
  ini : ∃ f F, PySem.W.findIn K (.ref C) "__init__" = some (some (.ref f)) ∧ PySem.W.typeIn K (.ref f) = some (.type "function") ∧ SupF P K mg F f C ∧ F.params = defArgs st ∧ F.body = defBody st ∧ F.scope = defScope st
structure HasE (P : Program) (w : World) (K : Fg) (mg : Str → Option Value) (base : Heap) (k : Nat) (st : Stmt) (C : Addr) (ns : List Str) : Prop where
  oex : OexC K C
  ex : ∃ f F doc pm ctv, PySem.W.findIn K (.ref C) "__init__" = some (some (.ref f)) ∧ PySem.W.typeIn K (.ref f) = some (.type "function") ∧ F.params = defArgs st ∧ FnOk P w K mg base CX0 k f (NF.fd F doc pm ctv) ("self" :: ns) (spErr C ns)
section
variable {P : Program} {w : World} {K : Fg} {mg : Str → Option Value} {base : Heap} {st : Stmt} {C : Addr} {ns : List Str}
theorem len_err (vs : List V) (H : Hp) (Q : VK) (E : XK) (h : spErr C ns vs H Q E) : vs.length = (("self" : Str) :: ns).length := by
  obtain ⟨a, us, rfl, hl, _⟩ := h
  simp [hl]
theorem fn_supF {F : NF} {f D : Addr} {N ps : List Str} {sp : Sp} {k : Nat} {rest : List Stmt} {txt : Str} {jj : Nat} {p0 p1 p2 p3 p4 p5 : Pos} (U : SupF P K mg F f D) (S : NScope N ps ["__class__"] F.scope) (h0 : ps[0]? = some ("self" : Str))
    (hbody : F.body = .Expr (.Call (.Attribute (.Call (.Name "super" p0) [] [] p1) "__init__" p2) [.Constant (.str txt) jj p5] [] p3) p4 :: rest)
    (hev : ∀ env : Env, ∃ pl : Sem Bool, eval (.Call (.Attribute (.Call (.Name "super" p0) [] [] p1) "__init__" p2) [.Constant (.str txt) jj p5] [] p3) env = (do
      let ov ← attributeBase (.Call (.Name "super" p0) [] [] p1) "__init__" env (eval (.Call (.Name "super" p0) [] [] p1) env)
      standAt p2.atName
      let (f, first) ← holding [ov] (getMethod ov "__init__" pl)
      callWith p3 f first (backTo p3 (starEach [.Constant (.str txt) jj p5] env)) []))
    (len : ∀ vs H Q E, sp vs H Q E → vs.length = ps.length)
    (hb : ∀ (A : Around) (outer : List Env) (s : Shared) (H : Hp) (vs : List V) (Q : VK) (E : XK), Room k (A.deeper (envF F f s.heap.objs.size)) → sp vs H Q E →
      (∃ a us C, vs = .ref a :: us ∧ SupC K C D ∧ H a = some (exo a C none)) ∧
      ∃ t, PSs (ncx CX0 P w K mg base N F f A outer s H E) rest t ∧ t { nx := fun _ H' => Q .non H', rt := Q } (startF N vs [none]) H) :
    ∃ doc pm ctv, FnOk P w K mg base CX0 (k + 1) f (F.fd doc pm ctv) ps sp := by
  obtain ⟨fd, ⟨oc, od, osl, lk⟩, h⟩ := fn_sup U S h0 hbody hev len hb
  obtain ⟨oc2, od2, doc, pm, ctv, osl2, ar, lk2, _⟩ := U.fobj
  rw [lk] at lk2
  cases lk2
  exact ⟨doc, pm, ctv, h⟩
variable {f1 f2 : Str} {txt : Str} {jj : Nat} {p0 p1 p2 p3 p4 p5 q1 q2 q3 q4 q5 q6 q7 q8 : Pos}
abbrev supE (txt : Str) (jj : Nat) (p0 p1 p2 p3 p5 : Pos) : Expr := .Call (.Attribute (.Call (.Name "super" p0) [] [] p1) "__init__" p2) [.Constant (.str txt) jj p5] [] p3
abbrev SupEv (txt : Str) (jj : Nat) (p0 p1 p2 p3 p5 : Pos) : Prop := ∀ env : Env, ∃ pl : Sem Bool, eval (supE txt jj p0 p1 p2 p3 p5) env = (do
      let ov ← attributeBase (.Call (.Name "super" p0) [] [] p1) "__init__" env (eval (.Call (.Name "super" p0) [] [] p1) env)
      standAt p2.atName
      let (f, first) ← holding [ov] (getMethod ov "__init__" pl)
      callWith p3 f first (backTo p3 (starEach [.Constant (.str txt) jj p5] env)) [])
abbrev selfAs (f : Str) (q1 q2 q3 q4 : Pos) : Stmt := .Assign [.Attribute (.Name "self" q1) f q2] (.Name f q3) q4
theorem err1 (U : ErrT P K mg st C [f1]) (S : NScope ["self", f1, "__class__"] ["self", f1] ["__class__"] (defScope st)) (hb : defBody st = [.Expr (supE txt jj p0 p1 p2 p3 p5) p4, selfAs f1 q1 q2 q3 q4]) (hev : SupEv txt jj p0 p1 p2 p3 p5)
    (h1 : (f1 == ("__debug__" : Str)) = false) (h2 : (f1 == ("__classdict__" : Str)) = false) : HasE P w K mg base 1 st C [f1] := by
  obtain ⟨f, F, i, tI, SU, e1, e2, e3⟩ := U.ini
  refine ⟨U.sup.oex, f, F, ?_⟩
  rw [← e3] at S
  obtain ⟨doc, pm, ctv, h⟩ := fn_supF (w := w) (base := base) (k := 0) (sp := spErr C [f1]) (txt := txt) SU S rfl (e2.trans hb) hev len_err fun A outer s H vs Q E hr h => by
    obtain ⟨a, us, rfl, hl, ea, q⟩ := h
    match us, hl with
    | [y], _ =>
      refine ⟨⟨a, [y], C, rfl, U.sup, ea⟩, _, pss_one (ps_ost (pe_var (i := 0) rfl (Or.inl (S.par "self" (by simp)))) (pe_var (i := 1) rfl (Or.inl (S.par f1 (by simp))) h1 h2)), ?_⟩
      refine ⟨y, rfl, .ref a, rfl, a, C, rfl, U.sup.oex, U.no f1 (by simp), .inl ⟨ea, fun dx hd hne => ?_⟩⟩
      exact q dx hd hne
  exact ⟨doc, pm, ctv, i, tI, e1, h⟩
theorem err2 (U : ErrT P K mg st C [f1, f2]) (S : NScope ["self", f1, f2, "__class__"] ["self", f1, f2] ["__class__"] (defScope st)) (hb : defBody st = [.Expr (supE txt jj p0 p1 p2 p3 p5) p4, selfAs f1 q1 q2 q3 q4, selfAs f2 q5 q6 q7 q8]) (hev : SupEv txt jj p0 p1 p2 p3 p5)
    (h1 : (f1 == ("__debug__" : Str)) = false) (h2 : (f1 == ("__classdict__" : Str)) = false) (h3 : (f2 == ("__debug__" : Str)) = false) (h4 : (f2 == ("__classdict__" : Str)) = false) : HasE P w K mg base 1 st C [f1, f2] := by
  obtain ⟨f, F, i, tI, SU, e1, e2, e3⟩ := U.ini
  refine ⟨U.sup.oex, f, F, ?_⟩
  rw [← e3] at S
  obtain ⟨doc, pm, ctv, h⟩ := fn_supF (w := w) (base := base) (k := 0) (sp := spErr C [f1, f2]) (txt := txt) SU S rfl (e2.trans hb) hev len_err fun A outer s H vs Q E hr h => by
    obtain ⟨a, us, rfl, hl, ea, q⟩ := h
    match us, hl with
    | [y, z], _ =>
      refine ⟨⟨a, [y, z], C, rfl, U.sup, ea⟩, _, pss_cons (ps_ost (pe_var (i := 0) rfl (Or.inl (S.par "self" (by simp)))) (pe_var (i := 1) rfl (Or.inl (S.par f1 (by simp))) h1 h2))
        (pss_one (ps_ost (pe_var (i := 0) rfl (Or.inl (S.par "self" (by simp)))) (pe_var (i := 2) rfl (Or.inl (S.par f2 (by simp))) h3 h4))), ?_⟩
      refine ⟨y, rfl, .ref a, rfl, a, C, rfl, U.sup.oex, U.no f1 (by simp), .inl ⟨ea, fun dx hd hne => ?_⟩⟩
      refine ⟨z, rfl, .ref a, rfl, a, C, rfl, U.sup.oex, U.no f2 (by simp), .inr ⟨dx, [(f1, y)], upd_same, by rw [upd_ne hne, upd_same], by simp, ?_⟩⟩
      have e : upd (upd (upd H dx (exd dx [(f1, y)])) a (exo a C (some dx))) dx (exd dx [(f2, z), (f1, y)]) = upd (upd H dx (exd dx [(f2, z), (f1, y)])) a (exo a C (some dx)) := by
        funext b
        by_cases hb : b = dx
        · subst hb; rw [upd_same, upd_ne hne, upd_same]
        · rw [upd_ne hb]
          by_cases ha : b = a
          · subst ha; rw [upd_same, upd_same]
          · rw [upd_ne ha, upd_ne ha, upd_ne hb, upd_ne hb]
      show Q .non (upd (upd (upd H dx (exd dx [(f1, y)])) a (exo a C (some dx))) dx (exd dx [(f2, z), (f1, y)]))
      rw [e]
      exact q dx hd hne
  exact ⟨doc, pm, ctv, i, tI, e1, h⟩
end
/-! C(..) -/
/-- how arguments bind, for every function object of the text -/
def KwOkN (st : Stmt) (ps : List Str) (nn : Nat) (ks : List Str) (g : List Value → List Value → List Value) : Prop :=
  ∀ (F : NF) (doc pm ctv : Value) (us ws : List Value), F.params = defArgs st → us.length = nn → ws.length = ks.length → bindArgs (F.fd doc pm ctv) ⟨us, ks.zip ws⟩ = pure (ps.zip (g us ws))
section
variable {X : Cx} {k j nn : Nat} {C : Addr} {st : Stmt} {ns ks : List Str} {x : Str} {p pos : Pos} {e : Expr} {es : List Expr} {kws : List Keyword} {t tk : TA} {ix : List Nat}
theorem pe_mkE (h : HasE X.prog X.w X.K X.mg X.base j st C ns) (kw : KwOkN st ("self" :: ns) (nn + 1) [] (perm (0 :: ix.map (· + 1)))) (hr : Room k X.A) (hj : j + 1 ≤ k) (hm : X.mg x = some (.ref C)) (hn : nn ≤ 1000) (ha : PA X (e :: es) t) (hg : Gl X x := by rfl)
    (hdb : (x == ("__debug__" : Str)) = false := by decide) (he : starEach (e :: es) X.env = (false, eval e X.env) :: starEach es X.env := by rfl)
    (hpl : ((backTo pos (starEach (e :: es) X.env)).any (·.1) || (backToKw pos (keywordEach [] X.env)).any (·.1.isNone)) = false := by rfl) :
    PE X (.Call (.Name x p) (e :: es) [] pos) (tMkX C nn 0 (spErr C ns) (perm (0 :: ix.map (· + 1))) E0 t tNil) := by
  obtain ⟨oex, f, F, doc, pm, ctv, i, tI, eF, Fn⟩ := h
  exact pe_mkX (ks := []) oex i tI Fn (hr.mono hj) hg hm ⟨fun s us ws _ l1 l2 => .of_eq (kw F doc pm ctv us ws eF l1 l2), perm_rel _⟩ pass0 hn ha pk_nil rfl rfl hdb he hpl
theorem pe_mkE0 (h : HasE X.prog X.w X.K X.mg X.base j st C ns) (kw : KwOkN st ("self" :: ns) 1 ks (perm (0 :: ix.map (· + 1)))) (hr : Room k X.A) (hj : j + 1 ≤ k) (hm : X.mg x = some (.ref C)) (hkw : PK X kws tk) (hg : Gl X x := by rfl)
    (hall : (backToKw pos (keywordEach kws X.env)).all (·.1.isSome) = true := by rfl) (hks : (backToKw pos (keywordEach kws X.env)).filterMap (·.1) = ks := by rfl)
    (hdb : (x == ("__debug__" : Str)) = false := by decide)
    (hpl : ((backTo pos (starEach [] X.env)).any (·.1) || (backToKw pos (keywordEach kws X.env)).any (·.1.isNone)) = false := by rfl) :
    PE X (.Call (.Name x p) [] kws pos) (tMkX C 0 ks.length (spErr C ns) (perm (0 :: ix.map (· + 1))) E0 tNil tk) := by
  obtain ⟨oex, f, F, doc, pm, ctv, i, tI, eF, Fn⟩ := h
  exact pe_mkX0 oex i tI Fn (hr.mono hj) hg hm ⟨fun s us ws _ l1 l2 => .of_eq (kw F doc pm ctv us ws eF l1 l2), perm_rel _⟩ pass0 hkw hall hks hdb hpl
end
theorem perm_self {α : Type} (ix : List Nat) (x : α) (us ws : List α) : perm (0 :: ix.map (· + 1)) (x :: us) ws = x :: perm ix us ws := by
  unfold perm
  simp [List.filterMap_map, Function.comp_def]
section
variable {K : Fg} {pn : Option Addr} {As : List Addr} {H0 : Ent} {M M' H H' : Hp} {σ : L2.St} {Γ : List SA} {O : Own} {n m : Nat} {te ta tk : TE} {t u : TA} {C : Addr} {ns : List Str} {nn mm : Nat} {ix : List Nat} {E : XK}
theorem zip_fst {α β : Type} : ∀ {xs : List α} {ys : List β}, ys.length = xs.length → (xs.zip ys).map (·.1) = xs
  | [], [], _ => rfl
  | x :: xs, y :: ys, h => by simp [zip_fst (xs := xs) (ys := ys) (by simpa using h)]
theorem zip_snd {α β : Type} : ∀ {xs : List α} {ys : List β}, ys.length = xs.length → (xs.zip ys).map (·.2) = ys
  | [], [], _ => rfl
  | x :: xs, y :: ys, h => by simp [zip_snd (xs := xs) (ys := ys) (by simpa using h)]
theorem w_mkX {k : DV → Nat → Prop} (h : WA K t Γ O n fun ds n1 => WA K u Γ O n1 fun es n2 => ds.length = nn ∧ es.length = mm ∧ (perm ix ds es).length = ns.length ∧ k (.exc C ns.reverse (perm ix ds es).reverse) n2) :
    W K (tMkX C nn mm (spErr C ns) (perm (0 :: ix.map (· + 1))) E t u) Γ O n k := by
  intro pn As H0 M H σ S Q c
  refine h pn As H0 M H σ S _ fun vs M1 H1 ds n1 e1 S1 r1 q1 => q1 pn As H0 M1 H1 σ S1 _ fun zs M2 H2 es n2 e2 S2 r2 ⟨l1, l2, l3, q⟩ => ⟨by rw [r1.length]; exact l1, by rw [r2.length]; exact l2, fun a ha => ?_⟩
  have r := perm_rp ix (r1.mono e2) r2
  rw [perm_self]
  refine ⟨a, _, rfl, by rw [r.length]; exact l3, upd_same, fun dx hd hne => ⟨rfl, ?_⟩⟩
  rw [upd_ne hne] at hd
  obtain ⟨x1, S3⟩ := S2.alloc (o := exd dx (ns.zip (perm ix vs zs)).reverse) hd
  have ha2 : upd H2 dx (exd dx (ns.zip (perm ix vs zs)).reverse) a = none := by rw [upd_ne (Ne.symm hne)]; exact ha
  obtain ⟨x2, S4⟩ := S3.alloc (o := exo a C (some dx)) ha2
  have eH : upd (upd (upd H2 a (exo a C none)) dx (exd dx (ns.zip (perm ix vs zs)).reverse)) a (exo a C (some dx)) = upd (upd H2 dx (exd dx (ns.zip (perm ix vs zs)).reverse)) a (exo a C (some dx)) := by
    funext b
    by_cases hb : b = a
    · subst hb; rw [upd_same, upd_same]
    · rw [upd_ne hb, upd_ne hb]
      by_cases hb2 : b = dx
      · subst hb2; rw [upd_same, upd_same]
      · rw [upd_ne hb2, upd_ne hb2, upd_ne hb]
  rw [eH]
  have lr : (perm ix vs zs).length = ns.length := by rw [r.length]; exact l3
  refine c (.ref a) _ _ _ n2 (Evl.Ex.trans (Evl.Ex.trans e1 e2) (Evl.Ex.trans x1 x2)) S4 (.exc (fs := (ns.zip (perm ix vs zs)).reverse) upd_same (by rw [upd_ne hne, upd_same]) ?_ ?_) q
  · rw [List.map_reverse, zip_fst lr]
  · rw [List.map_reverse, zip_snd lr]
    exact (r.reverse).mono (Evl.Ex.trans x1 x2)
theorem rp_lookup {f : Str} {d : DV} : ∀ {fs : List (Str × V)} {ds : List DV}, RpL K M (fs.map (·.2)) ds → ((fs.map (·.1)).zip ds).lookup f = some d → ∃ v, fs.lookup f = some v ∧ Rp K M v d
  | [], _, h, e => by cases h; simp at e
  | (g, y) :: fs, _, h, e => by
    cases h with
    | cons a b =>
      simp only [List.map_cons, List.zip_cons_cons, List.lookup_cons] at e ⊢
      by_cases hg : (f == g) = true
      · rw [hg] at e
        cases e
        exact ⟨y, by simp [hg], a⟩
      · have hg' : (f == g) = false := by simpa using hg
        rw [hg'] at e
        simp only [hg']
        exact rp_lookup b e
theorem w_exf {f : Str} {k : DV → Nat → Prop} (h : W K te Γ O n fun d n1 => ∃ C ns ds x, d = .exc C ns ds ∧ XfC K C ∧ PySem.W.findIn K (.ref C) f = some none ∧ (ns.zip ds).lookup f = some x ∧ k x n1) : W K (tExF K te f) Γ O n k := by
  intro pn As H0 M H σ S Q c
  refine h pn As H0 M H σ S _ fun v M1 H1 d n1 e1 S1 r1 ⟨C, ns, ds, x, ed, T, hno, l, q⟩ => ?_
  subst ed
  cases r1 with
  | @exc a C dx fs ns ds g1 g2 g3 g4 =>
    rw [← g3] at l
    obtain ⟨y, hy, ry⟩ := rp_lookup g4 l
    exact ⟨a, C, dx, fs, y, rfl, S1.ex _ _ g1, S1.ex _ _ g2, T, hno, hy, c y M1 H1 x n1 e1 S1 ry q⟩
/-- isinstance of data, instances, errors -/
def rIsB (K : Fg) : List V → Hp → VK → Prop := fun xs H Q => rIsA K xs H Q ∨ rIsX K xs H Q
theorem cr_isB {X : Cx} : CallR X (.builtin "isinstance") (rIsB X.K) := cr_isA.or cr_isX
theorem CW.l {r r' : List V → Hp → VK → Prop} {xs : List DV} {k : DV → Prop} (h : CW K r xs k) : CW K (fun xs H Q => r xs H Q ∨ r' xs H Q) xs k := fun pn As H0 M H σ Γ O n S vs rv Q c => .inl (h pn As H0 M H σ Γ O n S vs rv Q c)
theorem CW.r {r r' : List V → Hp → VK → Prop} {xs : List DV} {k : DV → Prop} (h : CW K r' xs k) : CW K (fun xs H Q => r xs H Q ∨ r' xs H Q) xs k := fun pn As H0 M H σ Γ O n S vs rv Q c => .inr (h pn As H0 M H σ Γ O n S vs rv Q c)
theorem cw_isTyB {x : DV} {t c : String} {b : Bool} {k : DV → Prop} (ht : tyD x = some t) (hk : kitB t c = some b) (q : k (.bl b)) : CW K (rIsB K) [x, .ty c] k := CW.l (cw_isTy ht hk q)
theorem cw_isDC {x : DV} {t : String} {D : Addr} {b : Bool} {k : DV → Prop} (ht : tyD x = some t) (hk : PySem.W.kitOne K (.type t) (.ref D) = some b) (q : k (.bl b)) : CW K (rIsB K) [x, .adr D] k := CW.l fun pn As H0 M H σ Γ O n S vs r Q cc => by
  obtain ⟨u, w, rfl, h1, h2⟩ := r.two
  cases h2
  exact .inl ⟨u, .ref D, _, _, b, rfl, .own D, h1.tyX S.ex ht, hk, cc _ M H _ (Evl.Ex.refl M) S (.bl b) q⟩
theorem cw_isXC {C D : Addr} {ns : List Str} {ds : List DV} {b : Bool} {k : DV → Prop} (T : ExcC K C) (hk : PySem.W.kitOne K (.ref C) (.ref D) = some b) (q : k (.bl b)) : CW K (rIsB K) [.exc C ns ds, .adr D] k := CW.r fun pn As H0 M H σ Γ O n S vs r Q cc => by
  obtain ⟨u, w, rfl, h1, h2⟩ := r.two
  cases h2
  cases h1 with
  | @exc a C dx fs ns ds g1 g2 g3 g4 => exact ⟨a, C, dx, .ref D, _, b, rfl, .own D, S.ex _ _ g1, ⟨fs, S.ex _ _ g2⟩, T, hk, cc _ M H _ (Evl.Ex.refl M) S (.bl b) q⟩
theorem cw_isXT {C : Addr} {c : String} {ns : List Str} {ds : List DV} {b : Bool} {k : DV → Prop} (T : ExcC K C) (hk : PySem.W.kitOne K (.ref C) (.type c) = some b) (q : k (.bl b)) : CW K (rIsB K) [.exc C ns ds, .ty c] k := CW.r fun pn As H0 M H σ Γ O n S vs r Q cc => by
  obtain ⟨u, w, rfl, h1, h2⟩ := r.two
  cases h2
  cases h1 with
  | @exc a C dx fs ns ds g1 g2 g3 g4 => exact ⟨a, C, dx, .ty c, _, b, rfl, .ty c, S.ex _ _ g1, ⟨fs, S.ex _ _ g2⟩, T, hk, cc _ M H _ (Evl.Ex.refl M) S (.bl b) q⟩
/-- what a class must say that isinstance asks its instances rightly -/
structure InsC (K : Fg) (C : Addr) : Prop where
  cl : Cls K C
  ha : PySem.W.findIn K (.ref C) "__class__" = some (some (.builtin "object.__class__"))
  hn : PySem.W.specialIn K (.builtin "object.__class__") "__get__" = some (some (.builtin "getset_descriptor.__get__"))
  ht : PySem.W.takesIn K (.builtin "object.__class__") = some true
  hm : PySem.W.mroIn K C (.type "object") = some true
theorem cw_isIC {C D : Addr} {ns : List Str} {ds : List DV} {b : Bool} {k : DV → Prop} (T : InsC K C) (hk : PySem.W.kitOne K (.ref C) (.ref D) = some b) (q : k (.bl b)) : CW K (rIsB K) [.ins C ns ds, .adr D] k := CW.l fun pn As H0 M H σ Γ O n S vs r Q cc => by
  obtain ⟨u, w, rfl, h1, h2⟩ := r.two
  cases h2
  cases h1 with
  | ins g1 g2 g3 => exact .inl ⟨_, .ref D, _, _, b, rfl, .own D, .base (.ins (S.ex _ _ g1) T.cl T.ha T.hn T.ht T.hm), hk, cc _ M H _ (Evl.Ex.refl M) S (.bl b) q⟩
theorem cw_isIT {C : Addr} {c : String} {ns : List Str} {ds : List DV} {b : Bool} {k : DV → Prop} (T : InsC K C) (hk : PySem.W.kitOne K (.ref C) (.type c) = some b) (q : k (.bl b)) : CW K (rIsB K) [.ins C ns ds, .ty c] k := CW.l fun pn As H0 M H σ Γ O n S vs r Q cc => by
  obtain ⟨u, w, rfl, h1, h2⟩ := r.two
  cases h2
  cases h1 with
  | ins g1 g2 g3 => exact .inl ⟨_, .ty c, _, _, b, rfl, .ty c, .base (.ins (S.ex _ _ g1) T.cl T.ha T.hn T.ht T.hm), hk, cc _ M H _ (Evl.Ex.refl M) S (.bl b) q⟩
/-- e.f of an instance -/
theorem w_fld {f : Str} {k : DV → Nat → Prop} (h : W K te Γ O n fun d n1 => ∃ C ns ds x, d = .ins C ns ds ∧ Cls K C ∧ NoAttr K C f ∧ (ns.zip ds).lookup f = some x ∧ k x n1) : W K (tFld K te f) Γ O n k := by
  intro pn As H0 M H σ S Q c
  refine h pn As H0 M H σ S _ fun v M1 H1 d n1 e1 S1 r1 ⟨C, ns, ds, x, ed, T, hno, l, q⟩ => ?_
  subst ed
  cases r1 with
  | @ins a C dx fs ns ds g1 g2 g3 =>
    rw [← g2] at l
    obtain ⟨y, hy, ry⟩ := rp_lookup g3 l
    exact ⟨a, C, dx, fs, y, rfl, S1.ex _ _ g1, T, hno, hy, c y M1 H1 x n1 e1 S1 ry q⟩
end
end DL
namespace PySem
namespace DLx
open PySem.W PySem.Calls PyProof.Rows Builtin Builtin.ObjectAttr Builtin.Getset_descriptor
section
variable {prog : Program} {w : World} {A : Around} {E : Value → Shared → Prop} {s : Shared} {K : Frag} {R : Result → Shared → Prop} {C x f : Addr} {ox : Obj} {od : Option Obj} {b tb : Value}
/-- C.__name__, C an own class -/
theorem cname_get {tp : Value} {dd : Option Addr} {cd : ClassData} {sl : Array (Option Value)} {nm : Str} {tk : Tok} (X : K.In s.heap) (lk : K.lookup C = some ⟨.type "type", dd, .cls cd, sl⟩) (h2 : sl[2]? = some (some (.str nm tk)))
    (h : R (.ok (.ret (.str nm tk))) s) : codeAny (model prog w) A (.call (.builtin "getset_descriptor.__get__") ⟨[.builtin "type.__name__", .ref C, tp], []⟩) R s := by
  obtain ⟨hh, g, dr, t, os⟩ := s
  have oC := X _ _ lk
  have tC : typeIn K (.ref C) = some (.type "type") := by
    show (K.lookup C).map (·.cls) = _
    rw [lk]; rfl
  have l0 : Looks (model prog w) hh (typeOf (.ref C)) (.type "type") := looks_typeIn X tC
  have l1 : Looks (model prog w) hh (isSubtype (.type "type") (.type "type")) true := Looks.of_pure (by rw [isSubtype_type]; kernel_rfl)
  refine codeAny_call_builtin KF.slot_gs.plain KF.entry_gs (KF.slot_gs.check _ _ _ _ _ _ _ _ ktyn_type (KF.args_gs _ _ _) ?_)
  unfold Builtin.«getset_descriptor.__get__» descrGet
  rw [dga_obj]
  refine wpAny_bind (wpAny_pure ?_)
  unfold descrGetter descrCheckInstance descrNameAndClass isInstance
  simp only [ktyn_owner]
  repeat lk
  refine ⟨Code.quiet_builtin _ (by decide +kernel), codeAny_builtin ktyn_entry ?_⟩
  unfold Builtin.«type.__name__»
  dsimp only
  unfold keptObject slotAt
  refine wpAny_bind (wpAny_bind (wpAny_loadPart oC (wpAny_pure ?_)))
  rw [h2]
  exact wpAny_pure h
/-- x == y where y's class lies below x's -/
theorem cmp_right {D y : Addr} {oy : Obj} {oe : Option Obj} {Q : Value → Shared → Prop} (hu : A.units < cLine) (X : K.In s.heap) (I : InstAt s.heap x ox C od) (J : InstAt s.heap y oy D oe) (ne : D ≠ C) (sub : subIn K (.ref D) (.ref C) = some true)
    (hs : findIn K (.ref D) "__eq__" = some (some (.ref f))) (hf : isFn K (.ref f) = true) (h : wpAny (model prog w) A (call (.ref f) [.ref y, .ref x]) (fun v s' => ∃ r, v = .bool r ∧ Q (.bool r) s') E s) : wpAny (model prog w) A (richCompare .Eq (.ref x) (.ref y)) Q E s := by
  have one : wpAny (model prog w) A (tryCompare (.ref y) "__eq__" (.ref x)) (fun r s' => ∃ v, r = some v ∧ Q v s') E s := by
    unfold tryCompare
    refine wpAny_bind (ifBound_K X J hs hf (wpAny_mono h (fun v s' z => ?_) fun _ _ e => e))
    obtain ⟨r, rfl, q⟩ := z
    exact wpAny_pure ⟨_, rfl, q⟩
  unfold richCompare
  simp only [oneThing_ref, cmpInfo_Eq]
  refine wpAny_holding (wpAny_bind (wpAny_cRoomFor hu ?_))
  refine wpAny_bind (I.type.here (wpAny_bind (J.type.here ?_)))
  rw [if_pos (by simpa using fun z => ne z.symm)]
  refine wpAny_bind ((looks_subIn X sub).here ?_)
  rw [if_pos rfl]
  refine wpAny_bind (wpAny_mono one (fun r s' z => ?_) fun _ _ e => e)
  obtain ⟨v, rfl, q⟩ := z
  exact wpAny_bind (wpAny_rule (wpAny_pure q))
theorem bound_ne {M : Model} {args : List Value} {Q : Option Value → Shared → Prop} (X : K.In s.heap) (I : InstAt s.heap x ox C od) (hs : findIn K (.ref C) "__ne__" = some (some (.builtin "object.__ne__")))
    (h : wpAny M A (call (.builtin "object.__ne__") (.ref x :: args)) (fun v => Q (some v)) E s) : wpAny M A (callSpecialIfBound? (.ref x) "__ne__" args) Q E s := by
  simp only [callSpecialIfBound?, bindSpecialIfBound?]
  refine wpAny_holding (wpAny_bind (wpAny_bind (wpAny_bind (I.type.here ((looks_findIn X hs).here ?_)))))
  refine wpAny_bind (wpAny_askSetting (wpAny_ite ?_))
  have fin : wpAny M A (call (.builtin "object.__ne__") ([.ref x] ++ args) >>= fun v => pure (some v)) Q E s := by
    exact wpAny_bind (wpAny_mono h (fun v s' h' => wpAny_pure h') fun _ _ h' => h')
  split
  · exact wpAny_bind (wpAny_of_eq (PySem.F.cmp_object.ne.bind _) (wpAny_pure (by exact fin)))
  · exact wpAny_tryCatch (wpAny_bind (wpAny_of_eq (PySem.F.cmp_object.ne.bind _) (wpAny_pure (by exact fin))))
/-- x != b by x's own == -/
theorem cmp_ne {Q : Value → Shared → Prop} (hu : A.units + 1 < cLine) (X : K.In s.heap) (I : InstAt s.heap x ox C od) (hb : Looks (model prog w) s.heap (typeOf b) tb) (hn : notFirst K C tb = true) (hm : mroIn K C (.type "object") = some true)
    (hne : findIn K (.ref C) "__ne__" = some (some (.builtin "object.__ne__"))) (hs : findIn K (.ref C) "__eq__" = some (some (.ref f))) (hf : isFn K (.ref f) = true)
    (h : wpAny (model prog w) A.in1 (call (.ref f) [.ref x, b]) (fun v s' => ∃ r, v = .bool r ∧ Q (.bool (!r)) s') E s) : wpAny (model prog w) A (richCompare .NotEq (.ref x) b) Q E s := by
  have one : wpAny (model prog w) A (tryCompare (.ref x) "__ne__" b) (fun r s' => ∃ v, r = some v ∧ Q v s') E s := by
    unfold tryCompare
    refine wpAny_bind (bound_ne X I hne (wpAny_call (codeAny_call_builtin PySem.F.cmp_object.ne.plain PySem.F.cmpEntry_ne (check_slot PySem.F.cmpKind_ne PySem.F.cmpSplit_ne (I.type.andThen (looks_mroIn X hm)) (PySem.F.cmpArgs_ne _ _) ?_))))
    unfold Builtin.«object.__ne__»
    refine wpAny_bind (wpAny_of_eq (a := ((Value.ref x : Value), [b])) (by first | rfl | (simp only [slotArgs]; rfl)) ?_)
    refine wpAny_bind (wpAny_cRoomFor (by first | exact hu | (show A.units + 1 < cLine; exact hu)) ?_)
    refine wpAny_bind (ifBound_K X I hs hf (wpAny_mono h (fun v s' z => ?_) fun _ _ e => e))
    obtain ⟨r, rfl, q⟩ := z
    refine wpAny_bind (wpAny_truthy_bool ?_)
    refine wpAny_pure ?_
    first | exact wpAny_pure ⟨_, rfl, q⟩ | exact ⟨_, rfl, wpAny_pure q⟩ | exact ⟨_, rfl, q⟩
  unfold richCompare
  simp only [oneThing_ref, cmpInfo_NotEq]
  refine wpAny_holding (wpAny_bind (wpAny_cRoomFor (Nat.lt_of_succ_lt hu) ?_))
  refine wpAny_bind (I.type.here (wpAny_bind (hb.here ?_)))
  split
  · rename_i q
    have e : subIn K tb (.ref C) = some false := by
      rcases Bool.or_eq_true_iff.mp hn with e | e
      · rw [beq_iff_eq.mp e] at q; simp at q
      · exact beq_iff_eq.mp e
    refine wpAny_bind ((looks_subIn X e).here ?_)
    simp only [Bool.false_eq_true, if_false]
    refine wpAny_bind (wpAny_mono one (fun r s' z => ?_) fun _ _ e => e)
    obtain ⟨v, rfl, q⟩ := z
    exact wpAny_pure q
  · refine wpAny_bind (wpAny_pure ?_)
    simp only [Bool.false_eq_true, if_false]
    refine wpAny_bind (wpAny_mono one (fun r s' z => ?_) fun _ _ e => e)
    obtain ⟨v, rfl, q⟩ := z
    exact wpAny_pure q
end
end DLx
end PySem
namespace DL
open PySem PySem.Spec PyProof.Rows L2 NdefX PySem.HandSPX PySem.DLx
/-! own ==, !=, truth; attributes of instances and errors; the class's name -/
/-- the function object at f keeps sp -/
structure HasM (P : Program) (w : World) (K : Fg) (mg : Str → Option Value) (base : Heap) (k : Nat) (f : Addr) (sp : Sp) : Prop where
  fn : PySem.W.isFn K (.ref f) = true
  ex : ∃ fd ps, Binds K fd ps [] ∧ FnG P w K mg base CX0 k f fd ps sp
def EqI (K : Fg) (fe : Addr) (spq : Sp) : R2 := fun x y H Q => ∃ a C dx fs t, x = .ref a ∧ H a = some (.ins C dx fs) ∧ PySem.W.findIn K (.ref C) "__eq__" = some (some (.ref fe)) ∧ TyX K H y t ∧ PySem.W.notFirst K C t = true ∧
  spq [x, y] H (fun v H' => ∃ b, v = .bl b ∧ Q (.bl b) H') E0
def EqR (K : Fg) (fe : Addr) (spq : Sp) : R2 := fun x y H Q => ∃ a C dx fs b D dy gs, x = .ref a ∧ y = .ref b ∧ H a = some (.ins C dx fs) ∧ H b = some (.ins D dy gs) ∧ D ≠ C ∧ PySem.W.subIn K (.ref D) (.ref C) = some true ∧ PySem.W.findIn K (.ref D) "__eq__" = some (some (.ref fe)) ∧
  spq [y, x] H (fun v H' => ∃ b, v = .bl b ∧ Q (.bl b) H') E0
def NeI (K : Fg) (fe : Addr) (spq : Sp) : R2 := fun x y H Q => ∃ a C dx fs t, x = .ref a ∧ H a = some (.ins C dx fs) ∧ PySem.W.findIn K (.ref C) "__eq__" = some (some (.ref fe)) ∧ PySem.W.findIn K (.ref C) "__ne__" = some (some (.builtin "object.__ne__")) ∧ PySem.W.mroIn K C (.type "object") = some true ∧ TyX K H y t ∧ PySem.W.notFirst K C t = true ∧
  spq [x, y] H (fun v H' => ∃ b, v = .bl b ∧ Q (.bl (!b)) H') E0
section
variable {X : Cx} {k j : Nat} {fe : Addr} {spq : Sp}
theorem op_eqI (M : HasM X.prog X.w X.K X.mg X.base j fe spq) (hr : Room k X.A) (hj : j ≤ k) (hG : X.A.guards = some []) : OpR X (compareOp .Eq) (EqI X.K fe spq) := by
  intro pins s σ H x y v u Q I rx ry h
  obtain ⟨a, C, dx, fs, t, rfl, ea, he, ty, nf, h⟩ := h
  obtain rfl : v = Value.ref a := rx
  obtain ⟨mA, O, _⟩ := ins_get I.hok ea
  obtain ⟨od, J, _⟩ := O.look
  obtain ⟨Pz, Z, pz, _⟩ := kit_of I ry ty
  obtain ⟨m, hF⟩ := I.fr
  obtain ⟨fd, ps, hb, F⟩ := M.ex
  show wpAny _ _ (richCompare .Eq (.ref a) u) _ _ _
  refine PySem.W.cmp_K (op := .Eq) (tb := t) (Nat.lt_of_le_of_lt (Nat.le_add_right _ 64) hr.units) hF I.ok.mod.kin J (Z.ty _ _ I.kIn pz) nf he M.fn ?_
  refine wpAny_mono (run_G (us := [.ref a, u]) (vs := [.ref a, y]) F (hr.mono hj) hG hb .nil pass0 I (.cons rfl (.cons ry .nil)) h) (fun r s' z => ?_) fun _ _ z => z
  obtain ⟨v', H', I', rv, b, ev, q⟩ := z
  subst ev
  obtain rfl : r = Value.bool b := rv
  exact ⟨.bl b, H', I', rfl, q⟩
theorem op_eqRv (M : HasM X.prog X.w X.K X.mg X.base j fe spq) (hr : Room k X.A) (hj : j ≤ k) (hG : X.A.guards = some []) : OpR X (compareOp .Eq) (EqR X.K fe spq) := by
  intro pins s σ H x y v u Q I rx ry h
  obtain ⟨a, C, dx, fs, b, D, dy, gs, rfl, rfl, ea, eb, ne, sub, he, h⟩ := h
  obtain rfl : v = Value.ref a := rx
  obtain rfl : u = Value.ref b := ry
  obtain ⟨mA, O, _⟩ := ins_get I.hok ea
  obtain ⟨od, J, _⟩ := O.look
  obtain ⟨mB, O2, _⟩ := ins_get I.hok eb
  obtain ⟨od2, J2, _⟩ := O2.look
  obtain ⟨fd, ps, hb, F⟩ := M.ex
  show wpAny _ _ (richCompare .Eq (.ref a) (.ref b)) _ _ _
  refine cmp_right (Nat.lt_of_le_of_lt (Nat.le_add_right _ 64) hr.units) I.kIn J J2 ne sub he M.fn ?_
  refine wpAny_mono (run_G (us := [.ref b, .ref a]) (vs := [.ref b, .ref a]) F (hr.mono hj) hG hb .nil pass0 I (.cons rfl (.cons rfl .nil)) h) (fun r s' z => ?_) fun _ _ z => z
  obtain ⟨v', H', I', rv, c, ev, q⟩ := z
  subst ev
  obtain rfl : r = Value.bool c := rv
  exact ⟨c, rfl, .bl c, H', I', rfl, q⟩
theorem op_neI (M : HasM X.prog X.w X.K X.mg X.base j fe spq) (hr : Room k X.A) (hj : j + 1 ≤ k) (hG : X.A.guards = some []) : OpR X (compareOp .NotEq) (NeI X.K fe spq) := by
  intro pins s σ H x y v u Q I rx ry h
  obtain ⟨a, C, dx, fs, t, rfl, ea, he, hne, hm, ty, nf, h⟩ := h
  obtain rfl : v = Value.ref a := rx
  obtain ⟨mA, O, _⟩ := ins_get I.hok ea
  obtain ⟨od, J, _⟩ := O.look
  obtain ⟨Pz, Z, pz, _⟩ := kit_of I ry ty
  obtain ⟨fd, ps, hb, F⟩ := M.ex
  show wpAny _ _ (richCompare .NotEq (.ref a) u) _ _ _
  refine cmp_ne (Nat.lt_of_le_of_lt (Nat.add_le_add_left (by decide : 1 ≤ 64) _) hr.units) I.kIn J (Z.ty _ _ I.kIn pz) nf hm hne he M.fn ?_
  have hr1 : Room j X.A.in1 := (hr.mono hj).in1
  have hl := F.len _ _ _ _ h
  have r2 : Vals [V.ref a, y] [Value.ref a, u] := .cons rfl (.cons ry .nil)
  apply wpAny_call
  refine codeAny_mono (F.go X.A.in1 X.stack s H ⟨[.ref a, u], []⟩ _ _ _ E0 hr1 hG I.env0.in1 (by have := hb s [.ref a, u] I.kIn (by simpa using hl); simpa using this) r2 h) ?_
  intro r s' h'
  have z := after_go I pass0 h'
  cases r with
  | error e => exact z
  | ok fl =>
    cases fl with
    | ret u' =>
      obtain ⟨v', H', I', rv, b, ev, q⟩ := z
      subst ev
      obtain rfl : u' = Value.bool b := rv
      exact ⟨b, rfl, .bl (!b), H', I', rfl, q⟩
    | next => exact z.elim
    | brk => exact z.elim
    | cont => exact z.elim
/-- == and != of data and of instances -/
def rEqO (K : Fg) (fe : Addr) (spq : Sp) : R2 := fun x y H Q => rEqA K x y H Q ∨ (EqI K fe spq x y H Q ∨ EqR K fe spq x y H Q)
def rNeO (K : Fg) (fe : Addr) (spq : Sp) : R2 := fun x y H Q => rNeA K x y H Q ∨ NeI K fe spq x y H Q
theorem op_eqO (M : HasM X.prog X.w X.K X.mg X.base j fe spq) (hr : Room k X.A) (hj : j ≤ k) (hG : X.A.guards = some []) : OpR X (compareOp .Eq) (rEqO X.K fe spq) := (op_eqA hr.units).or ((op_eqI M hr hj hG).or (op_eqRv M hr hj hG))
theorem op_neO (M : HasM X.prog X.w X.K X.mg X.base j fe spq) (hr : Room k X.A) (hj : j + 1 ≤ k) (hG : X.A.guards = some []) : OpR X (compareOp .NotEq) (rNeO X.K fe spq) := (op_neA hr.units).or (op_neI M hr hj hG)
/-- an own __bool__ that says b -/
def spTr (b : Bool) : Sp := fun vs H Q _ => ∃ v, vs = [v] ∧ Q (.bl b) H
def TrI (K : Fg) (B : Addr → Addr → Bool → Prop) : V → Hp → (Bool → Hp → Prop) → Prop := fun x H Q => ∃ a C dx fs f b, x = .ref a ∧ H a = some (.ins C dx fs) ∧ PySem.W.findIn K (.ref C) "__bool__" = some (some (.ref f)) ∧ B C f b ∧ Q b H
def tTruB (K : Fg) (B : Addr → Addr → Bool → Prop) (ta : TE) : TT := fun σ H Q => ta σ H fun x H1 => (∃ k, TruV K x H1 k ∧ Q k H1) ∨ TrI K B x H1 Q
theorem pt_truB {a : Expr} {ta : TE} {B : Addr → Addr → Bool → Prop} (M : ∀ C f b, B C f b → HasM X.prog X.w X.K X.mg X.base j f (spTr b)) (hr : Room k X.A) (hj : j ≤ k) (hG : X.A.guards = some []) (ha : PE X a ta)
    (he : ∀ whole, isTrue a X.env whole = (do let v ← whole; standAt a.pos; holding [v] (truthy v)) := by intro _; rfl) : PT X a (tTruB X.K B ta) := by
  refine ⟨fun pins s σ H Q I h => ?_⟩
  refine isTrue_plain (thn (ha.run pins s σ H _ I h) fun v s1 ⟨x, H1, I1, r1, q1⟩ => ?_) (he _)
  rcases q1 with q1 | ⟨a, C, dx, fs, f, b, rfl, ea, hf, hB, q⟩
  · exact tru_ok pins s1 σ H1 x v Q I1 r1 q1
  · obtain rfl : v = Value.ref a := r1
    obtain ⟨mA, O, _⟩ := ins_get I1.hok ea
    obtain ⟨od, J, _⟩ := O.look
    obtain ⟨m, hF⟩ := I1.fr
    obtain ⟨fd, ps, hb, F⟩ := (M C f b hB).ex
    refine PySem.W.truthy_K hF I1.ok.mod.kin J hf (M C f b hB).fn ?_
    refine wpAny_mono (run_G (us := [.ref a]) (vs := [.ref a]) (Q := fun v H' => v = .bl b ∧ Q b H') F (hr.mono hj) hG hb .nil pass0 I1 (.cons rfl .nil) ⟨_, rfl, rfl, q⟩) (fun r s' z => ?_) fun _ _ z => z
    obtain ⟨v', H', I', rv, ev, q⟩ := z
    subst ev
    obtain rfl : r = Value.bool b := rv
    exact ⟨H', I', q⟩
/-- e.f of an instance or of an error -/
def tAtt (K : Fg) (te : TE) (f : Str) : TE := fun σ H Q => te σ H fun x H1 =>
  (∃ a C dx fs v, x = .ref a ∧ H1 a = some (exo a C (some dx)) ∧ H1 dx = some (exd dx fs) ∧ XfC K C ∧ PySem.W.findIn K (.ref C) f = some none ∧ fs.lookup f = some v ∧ Q v H1) ∨
  ∃ a C dx fs v, x = .ref a ∧ H1 a = some (.ins C dx fs) ∧ Cls K C ∧ NoAttr K C f ∧ fs.lookup f = some v ∧ Q v H1
theorem pe_att {e : Expr} {te : TE} {n : Str} {pos : Pos} (he : PE X e te) (hb : attributeBase e n X.env (eval e X.env) = eval e X.env := by rfl) : PE X (.Attribute e n pos) (tAtt X.K te n) := by
  constructor
  intro pins s σ H Q I h
  refine attr_of hb (thn (he.run pins s σ H _ I h) fun u s1 ⟨y, H1, I1, rx, q⟩ => ?_)
  rcases q with ⟨a, C, dx, fs, v, ey, ea, ed, T, hno, l, q⟩ | ⟨a, C, dx, fs, v, ey, ea, c, nn, l, q⟩
  · subst ey
    obtain rfl : u = Value.ref a := rx
    obtain ⟨t1, ho⟩ := exo_at I1.hok ea
    obtain ⟨mA, hns, hr⟩ := exd_at I1.hok ed
    obtain ⟨od, hod, hl⟩ := lookIn_ns hns
    obtain ⟨w, hw, rw'⟩ := RelO.some_of (v := v) (o := mA n) (by rw [← l]; exact hr n)
    have J : PySem.W.InstAt s1.heap a ({ cls := .ref C, dict := some dx, data := .fields #[.ref t1, .none, .none, .none, .bool false, .none] } : Obj) C (some od) := ⟨ho, rfl, rfl, hod⟩
    exact exc_get I1.kIn J T.ga T.gg T.exC (PySem.W.findObj_own T.hdC hno rfl (by rw [hl, hw])) (handed_of rw') ⟨v, H1, I1.tok _, rw', q⟩
  · subst ey
    obtain rfl : u = Value.ref a := rx
    exact getattr_ok I1 ea c nn l fun u' s2 I2 ru => ⟨v, H1, I2, ru, q⟩
/-- e.__class__.__name__ -/
structure ClsN (K : Fg) (C : Addr) (nm : Str) : Prop where
  ic : InsC K C
  lk : ∃ dd cd sl tk, K.lookup C = some ⟨.type "type", dd, .cls cd, sl⟩ ∧ sl[2]? = some (some (.str nm tk))
  rd : PySem.W.readsIn K C (.type "type") = true
  fd : PySem.W.findCls K (.ref C) (.type "type") "__name__" = some (.get (.builtin "getset_descriptor.__get__") (.builtin "type.__name__") (.ref C) (.type "type"))
def tCN (K : Fg) (te : TE) : TE := fun σ H Q => te σ H fun x H1 => ∃ a C dx fs nm, x = .ref a ∧ H1 a = some (.ins C dx fs) ∧ ClsN K C nm ∧ Q (.str nm) H1
theorem pe_cn {e : Expr} {te : TE} {p1 p2 : Pos} (he : PE X e te) (hb : attributeBase e "__class__" X.env (eval e X.env) = eval e X.env := by rfl)
    (hb2 : attributeBase (.Attribute e "__class__" p1) "__name__" X.env (eval (.Attribute e "__class__" p1) X.env) = eval (.Attribute e "__class__" p1) X.env := by rfl) : PE X (.Attribute (.Attribute e "__class__" p1) "__name__" p2) (tCN X.K te) := by
  constructor
  intro pins s σ H Q I h
  refine attr_of hb2 (attr_of hb (thn (he.run pins s σ H _ I h) fun u s1 ⟨y, H1, I1, rx, a, C, dx, fs, nm, ey, ea, T, q⟩ => ?_))
  subst ey
  obtain rfl : u = Value.ref a := rx
  obtain ⟨mA, O, _⟩ := ins_get I1.hok ea
  obtain ⟨od, J, _⟩ := O.look
  have pg := PySem.W.plainGet_of (T.ic.cl.get "__class__")
  refine PySem.W.get_bind I1.kIn J pg.1 (PySem.W.findObj_data (by obtain ⟨cd, e, _⟩ := PySem.W.any_some T.ic.cl.hd; rw [e]; rfl) T.ic.ha T.ic.hn T.ic.ht) pg.2 (wpAny_call (PySem.W.class_get (s := { s1 with toks := s1.toks + 1 }) I1.kIn J T.ic.hm ?_))
  refine PySem.W.handed_on rfl ?_
  obtain ⟨dd, cd, sl, tk, lk, h2⟩ := T.lk
  refine PySem.W.cls_bind (s := { s1 with toks := s1.toks + 1 }) I1.kIn T.rd T.fd (wpAny_call (cname_get (s := { { s1 with toks := s1.toks + 1 } with toks := s1.toks + 1 + 1 }) I1.kIn lk h2 ?_))
  refine PySem.W.handed_on rfl ?_
  exact ⟨.str nm, H1, I1.tok _, ⟨tk, rfl⟩, q⟩
end
end DL
namespace DL
open PySem PySem.Spec PyProof.Rows L2 NdefX PySem.HandSPX PySem.DLx
/-! repr of data with dicts -/
def kPy : Key → PyData
  | .inl i => .int i
  | .inr x => .str x
mutual
def pyX : DV → PyData
  | .non => .none
  | .bl b => .bool b
  | .int i => .int i
  | .str x => .str x
  | .tup ds => .tuple (pyXL ds)
  | .lst ds => .list (pyXL ds)
  | .dic ks ds => .dict ((ks.map kPy).zip (pyXL ds))
  | .ty _ => .none
  | .adr _ => .none
  | .ins _ _ _ => .none
  | .exc _ _ _ => .none
def pyXL : List DV → List PyData
  | [] => []
  | d :: ds => pyX d :: pyXL ds
end
mutual
def isX : DV → Bool
  | .non => true
  | .bl _ => true
  | .int _ => true
  | .str _ => true
  | .tup ds => isXL ds
  | .lst ds => isXL ds
  | .dic _ ds => isXL ds
  | .ty _ => false
  | .adr _ => false
  | .ins _ _ _ => false
  | .exc _ _ _ => false
def isXL : List DV → Bool
  | [] => true
  | d :: ds => isX d && isXL ds
end
theorem pyXL_len : ∀ ds : List DV, (pyXL ds).length = ds.length
  | [] => rfl
  | d :: ds => by simp [pyXL, pyXL_len ds]
section
variable {X : Cx} {pins : List (Addr × Obj)} {σ : L2.St} {H M : Hp} {s : Shared}
theorem reads_keys {P : Program} {w : World} {h : Heap} : ∀ {es : List DictEntry} {vs : List (Key × Value)}, Pairs (mixKind P w) es vs → ReadsAll h (es.map (·.key)) ((vs.map (·.1)).map kPy) []
  | [], _, p => by cases p; exact .nil
  | e :: es, _, p => by
    cases p with
    | @cons e kv es kvs h1 h2 t =>
      have r := reads_keys (h := h) t
      rcases keyIs_shape (k := kv.1) (v := e.key) h1 with ⟨i, t0, e1, e2⟩ | ⟨x, t0, e1, e2⟩
      · show ReadsAll h (e.key :: es.map (·.key)) (kPy kv.1 :: (kvs.map (·.1)).map kPy) []
        rw [e1, e2]
        exact ReadsAll.cons (as := []) (bs := []) (.int i t0) r
      · show ReadsAll h (e.key :: es.map (·.key)) (kPy kv.1 :: (kvs.map (·.1)).map kPy) []
        rw [e1, e2]
        exact ReadsAll.cons (as := []) (bs := []) (.str x t0) r
theorem pairs_vals {P : Program} {w : World} : ∀ {es : List DictEntry} {vs : List (Key × Value)}, Pairs (mixKind P w) es vs → es.map (·.val) = vs.map (·.2)
  | [], _, p => by cases p; rfl
  | e :: es, _, p => by
    cases p with
    | @cons e kv es kvs h1 h2 t => simp [h2, pairs_vals t]
theorem kv_keys : ∀ {kvs : List (Key × V)} {vs : List (Key × Value)}, KV kvs vs → vs.map (·.1) = kvs.map (·.1)
  | [], _, h => by cases h; rfl
  | p :: kvs, _, h => by
    cases h with
    | cons a b => simp [a.1, kv_keys b]
theorem kv_vals : ∀ {kvs : List (Key × V)} {vs : List (Key × Value)}, KV kvs vs → Vals (kvs.map (·.2)) (vs.map (·.2))
  | [], _, h => by cases h; exact .nil
  | p :: kvs, _, h => by
    cases h with
    | cons a b => exact .cons a.2 (kv_vals b)
mutual
theorem Rp.rds (I : Inv X pins σ H s) (hsm : ∃ o, X.base.get? sysModules = some o) (e : Ex M H) : ∀ {d : DV} {v : V} {u : Value}, Rp X.K M v d → isX d = true → RelV v u → ∃ as, Reads s.heap u (pyX d) as ∧ sysModules ∉ as
  | .non, _, _, h, _, r => by
    cases h; cases r
    exact ⟨_, Reads.none, by simp⟩
  | .bl b, _, _, h, _, r => by
    cases h; cases r
    exact ⟨_, Reads.bool b, by simp⟩
  | .int i, _, _, h, _, r => by
    cases h
    obtain ⟨t, rfl⟩ := r
    exact ⟨_, Reads.int i t, by simp⟩
  | .str x, _, _, h, _, r => by
    cases h
    obtain ⟨t, rfl⟩ := r
    exact ⟨_, Reads.str x t, by simp⟩
  | .tup ds, _, _, h, p, r => by
    cases h with
    | tup a b =>
      cases r
      obtain ⟨its, rv, ⟨o, ho, hc, n, hd⟩, _⟩ := I.tuple (Evl.ex_t e a)
      obtain ⟨as, h1, h2⟩ := RpL.rds I hsm e b (by simpa [isX] using p) rv
      exact ⟨_, Reads.tuple ho hc hd h1, h2⟩
  | .lst ds, _, _, h, p, r => by
    cases h with
    | @lst a vs _ g1 b =>
      cases r
      have g2 := e _ _ g1
      obtain ⟨its, rv, ⟨o, n, ho, hc, _, hd⟩, _⟩ := I.list (.inl (.inl g2))
      obtain ⟨as, h1, h2⟩ := RpL.rds I hsm e b (by simpa [isX] using p) rv
      refine ⟨_, Reads.list ho hc hd h1, fun z => ?_⟩
      rcases List.mem_cons.mp z with z | z
      · obtain ⟨om, hm⟩ := hsm
        have := (I.bs _ _ hm).2
        rw [z, g2] at this
        cases this
      · exact h2 z
  | .dic ks ds, _, _, h, p, r => by
    cases h with
    | @dic a kvs _ _ g1 g2 b =>
      cases r
      obtain ⟨_, hne, vs, rk, o, es, ep, ho, hx, hd, _, pr, _⟩ := dk_of I.hok (e _ _ g1)
      have kk : ReadsAll s.heap (es.toList.map (·.key)) (((ks.map kPy).zip (pyXL ds)).map (·.1)) [] := by
        have z := reads_keys (h := s.heap) pr
        rw [kv_keys rk, g2] at z
        rw [zip_fst (by rw [pyXL_len, ← b.length, List.length_map, List.length_map, ← g2, List.length_map])]
        exact z
      obtain ⟨bs, h1, h2⟩ := RpL.rds I hsm e b (by simpa [isX] using p) (kv_vals rk)
      have vv : ReadsAll s.heap (es.toList.map (·.val)) (((ks.map kPy).zip (pyXL ds)).map (·.2)) bs := by
        rw [pairs_vals pr, zip_snd (by rw [pyXL_len, ← b.length, List.length_map, List.length_map, ← g2, List.length_map])]
        exact h1
      refine ⟨_, Reads.dict ho hx.1 hd kk vv, fun z => ?_⟩
      rcases List.mem_append.mp z with z | z
      · rcases List.mem_cons.mp z with z | z
        · rw [← z] at hne; simp at hne
        · simp at z
      · exact h2 z
  | .ty _, _, _, _, p, _ => by simp [isX] at p
  | .adr _, _, _, _, p, _ => by simp [isX] at p
  | .ins _ _ _, _, _, _, p, _ => by simp [isX] at p
  | .exc _ _ _, _, _, _, p, _ => by simp [isX] at p
theorem RpL.rds (I : Inv X pins σ H s) (hsm : ∃ o, X.base.get? sysModules = some o) (e : Ex M H) : ∀ {ds : List DV} {vs : List V} {us : List Value}, RpL X.K M vs ds → isXL ds = true → Vals vs us → ∃ as, ReadsAll s.heap us (pyXL ds) as ∧ sysModules ∉ as
  | [], _, _, h, _, r => by
    cases h; cases r
    exact ⟨_, ReadsAll.nil, by simp⟩
  | d :: ds, _, _, h, p, r => by
    have p' : isX d = true ∧ isXL ds = true := by simpa [isXL] using p
    cases h with
    | cons a b =>
      cases r with
      | cons r1 r2 =>
        obtain ⟨as, q1, n1⟩ := Rp.rds I hsm e a p'.1 r1
        obtain ⟨bs, q2, n2⟩ := RpL.rds I hsm e b p'.2 r2
        exact ⟨_, ReadsAll.cons q1 q2, fun z => (List.mem_append.mp z).elim n1 n2⟩
end
end
def rRepr2 (K : Fg) : List V → Hp → VK → Prop := fun xs H Q => ∃ a M d, xs = [.ref a] ∧ Ex M H ∧ Rp K M (.ref a) d ∧ isX d = true ∧ (pyX d).showable = true ∧ (pyX d).depth ≤ 60 ∧ (pyX d).shown.length ≤ sizeLine ∧ Q (.str (pyX d).shown) H
theorem cr_repr2 {X : Cx} (hsm : ∃ o, X.base.get? sysModules = some o) (hG : X.A.guards = some []) (hu : X.A.units + 64 < cLine) : CallR X (.builtin "repr") (rRepr2 X.K) := by
  intro pins s σ H xs us Q I r h
  obtain ⟨a, M, d, rfl, ex, rp, px, h1, h3, h4, q⟩ := h
  obtain ⟨u, rfl, ru⟩ := vals1 r
  obtain ⟨as, hr, hn⟩ := rp.rds I hsm ex px ru
  cases ru
  refine repr_of_reads' hr h1 (fun _ => hn) hG (by omega) (fun b o z => z) (fun h' t tk hk => ?_) h4
  exact ⟨.str (pyX d).shown, H, I.kept (t' := tk) hk, ⟨t, rfl⟩, q⟩
structure Shw (d : DV) : Prop where
  x : isX d = true
  sh : (pyX d).showable = true
  dp : (pyX d).depth ≤ 60
  ln : (pyX d).shown.length ≤ sizeLine
theorem cw_repr2 {K : Fg} {ds : List DV} {k : DV → Prop} (h : Shw (.lst ds)) (q : k (.str (pyX (.lst ds)).shown)) : CW K (rRepr2 K) [.lst ds] k := fun pn As H0 M H σ Γ O n S vs r Q c => by
  obtain ⟨u, rfl, h1⟩ := r.one
  obtain ⟨a, us, rfl, g1, g2⟩ := id h1.lst'
  exact ⟨a, M, _, rfl, S.ex, h1, h.x, h.sh, h.dp, h.ln, c _ M H _ (Evl.Ex.refl M) S (.str _) q⟩
end DL
namespace DL
open PySem PySem.Spec PyProof.Rows L2 NdefX PySem.HandSPX PySem.DLx StX
/-! wishes for own ==, !=, truth, attributes, names of classes; dicts; making by *args -/
section
variable {K : Fg} {pn : Option Addr} {As : List Addr} {H0 : Ent} {M M' H H' : Hp} {σ : L2.St} {Γ : List SA} {O : Own} {n m : Nat} {te : TE} {x y : DV} {fe : Addr}
variable {α : Type} {pre : α → Prop} {args : α → List DV} {res : α → DV → Prop} {C D : Addr} {ns ms : List Str} {ds es : List DV} {t : Value}
/-- what isinstance and == see of y -/
def TyD (K : Fg) (y : DV) (t : Value) : Prop := ∀ M H v, Ex M H → Rp K M v y → TyX K H v t
theorem tyD_ins (T : InsC K C) : TyD K (.ins C ns ds) (.ref C) := fun M H v e r => by
  cases r with
  | ins g1 g2 g3 => exact .base (.ins (e _ _ g1) T.cl T.ha T.hn T.ht T.hm)
theorem tyD_data {s : String} (h : tyD y = some s) : TyD K y (.type s) := fun M H v e r => r.tyX e h
theorem ow_insEq {k : DV → Prop} (a : α) (he : PySem.W.findIn K (.ref C) "__eq__" = some (some (.ref fe))) (ht : TyD K y t) (nf : PySem.W.notFirst K C t = true) (ea : args a = [.ins C ns ds, y]) (hp : pre a) (q : ∀ d, res a d → ∃ b, d = .bl b ∧ k (.bl b)) :
    OW K (rEqO K fe (spD K pre args res)) (.ins C ns ds) y k := fun pn As H0 M H σ Γ O n S v w rv rw Q c => by
  cases rv with
  | @ins a' _ dx fs _ _ g1 g2 g3 =>
    refine .inr (.inl ⟨a', C, dx, fs, t, rfl, S.ex _ _ g1, he, ht _ _ _ S.ex rw, nf, runs_D (a := a) S (by rw [ea]; exact .cons (.ins g1 g2 g3) (.cons rw .nil)) hp fun u M' H' d e S' ru hd => ?_⟩)
    obtain ⟨b, rfl, q'⟩ := q d hd
    exact ⟨b, ru.bl', c _ M' H' _ e S' (.bl b) q'⟩
theorem ow_insEqR {k : DV → Prop} (a : α) (ne : D ≠ C) (sub : PySem.W.subIn K (.ref D) (.ref C) = some true) (he : PySem.W.findIn K (.ref D) "__eq__" = some (some (.ref fe))) (ea : args a = [.ins D ms es, .ins C ns ds]) (hp : pre a) (q : ∀ d, res a d → ∃ b, d = .bl b ∧ k (.bl b)) :
    OW K (rEqO K fe (spD K pre args res)) (.ins C ns ds) (.ins D ms es) k := fun pn As H0 M H σ Γ O n S v w rv rw Q c => by
  cases rv with
  | @ins a' _ dx fs _ _ g1 g2 g3 =>
    cases rw with
    | @ins b' _ dy gs _ _ f1 f2 f3 =>
      refine .inr (.inr ⟨a', C, dx, fs, b', D, dy, gs, rfl, rfl, S.ex _ _ g1, S.ex _ _ f1, ne, sub, he, runs_D (a := a) S (by rw [ea]; exact .cons (.ins f1 f2 f3) (.cons (.ins g1 g2 g3) .nil)) hp fun u M' H' d e S' ru hd => ?_⟩)
      obtain ⟨b, rfl, q'⟩ := q d hd
      exact ⟨b, ru.bl', c _ M' H' _ e S' (.bl b) q'⟩
theorem ow_insNe {k : DV → Prop} (a : α) (he : PySem.W.findIn K (.ref C) "__eq__" = some (some (.ref fe))) (hne : PySem.W.findIn K (.ref C) "__ne__" = some (some (.builtin "object.__ne__"))) (hm : PySem.W.mroIn K C (.type "object") = some true)
    (ht : TyD K y t) (nf : PySem.W.notFirst K C t = true) (ea : args a = [.ins C ns ds, y]) (hp : pre a) (q : ∀ d, res a d → ∃ b, d = .bl b ∧ k (.bl (!b))) : OW K (rNeO K fe (spD K pre args res)) (.ins C ns ds) y k := fun pn As H0 M H σ Γ O n S v w rv rw Q c => by
  cases rv with
  | @ins a' _ dx fs _ _ g1 g2 g3 =>
    refine .inr ⟨a', C, dx, fs, t, rfl, S.ex _ _ g1, he, hne, hm, ht _ _ _ S.ex rw, nf, runs_D (a := a) S (by rw [ea]; exact .cons (.ins g1 g2 g3) (.cons rw .nil)) hp fun u M' H' d e S' ru hd => ?_⟩
    obtain ⟨b, rfl, q'⟩ := q d hd
    exact ⟨b, ru.bl', c _ M' H' _ e S' (.bl _) q'⟩
theorem ow_eqOd {spq : Sp} {k : DV → Prop} (h : OW K (rEqA K) x y k) : OW K (rEqO K fe spq) x y k := OW.l h
theorem ow_neOd {spq : Sp} {k : DV → Prop} (h : OW K (rNeA K) x y k) : OW K (rNeO K fe spq) x y k := OW.l h
theorem wt_truB {B : Addr → Addr → Bool → Prop} {k : Bool → Nat → Prop} (h : W K te Γ O n fun d n1 => (∃ b, d = .bl b ∧ k b n1) ∨ ∃ C ns ds f b, d = .ins C ns ds ∧ PySem.W.findIn K (.ref C) "__bool__" = some (some (.ref f)) ∧ B C f b ∧ k b n1) : WT K (tTruB K B te) Γ O n k := fun pn As H0 M H σ S Q c =>
  h pn As H0 M H σ S _ fun v M1 H1 d n1 e1 S1 r1 q => by
    rcases q with ⟨b, rfl, q⟩ | ⟨C, ns, ds, f, b, rfl, hf, hB, q⟩
    · cases r1; exact .inl ⟨b, rfl, c _ M1 H1 n1 e1 S1 q⟩
    · cases r1 with
      | @ins a' _ dx fs _ _ g1 g2 g3 => exact .inr ⟨a', C, dx, fs, f, b, rfl, S1.ex _ _ g1, hf, hB, c _ M1 H1 n1 e1 S1 q⟩
theorem w_attI {f : Str} {k : DV → Nat → Prop} (h : W K te Γ O n fun d n1 => ∃ C ns ds x, d = .ins C ns ds ∧ Cls K C ∧ NoAttr K C f ∧ (ns.zip ds).lookup f = some x ∧ k x n1) : W K (tAtt K te f) Γ O n k := by
  intro pn As H0 M H σ S Q c
  refine h pn As H0 M H σ S _ fun v M1 H1 d n1 e1 S1 r1 ⟨C, ns, ds, x, ed, T, hno, l, q⟩ => ?_
  subst ed
  cases r1 with
  | @ins a C dx fs ns ds g1 g2 g3 =>
    rw [← g2] at l
    obtain ⟨y, hy, ry⟩ := rp_lookup g3 l
    exact .inr ⟨a, C, dx, fs, y, rfl, S1.ex _ _ g1, T, hno, hy, c y M1 H1 x n1 e1 S1 ry q⟩
theorem w_attE {f : Str} {k : DV → Nat → Prop} (h : W K te Γ O n fun d n1 => ∃ C ns ds x, d = .exc C ns ds ∧ XfC K C ∧ PySem.W.findIn K (.ref C) f = some none ∧ (ns.zip ds).lookup f = some x ∧ k x n1) : W K (tAtt K te f) Γ O n k := by
  intro pn As H0 M H σ S Q c
  refine h pn As H0 M H σ S _ fun v M1 H1 d n1 e1 S1 r1 ⟨C, ns, ds, x, ed, T, hno, l, q⟩ => ?_
  subst ed
  cases r1 with
  | @exc a C dx fs ns ds g1 g2 g3 g4 =>
    rw [← g3] at l
    obtain ⟨y, hy, ry⟩ := rp_lookup g4 l
    exact .inl ⟨a, C, dx, fs, y, rfl, S1.ex _ _ g1, S1.ex _ _ g2, T, hno, hy, c y M1 H1 x n1 e1 S1 ry q⟩
theorem w_cn {k : DV → Nat → Prop} (h : W K te Γ O n fun d n1 => ∃ C ns ds nm, d = .ins C ns ds ∧ ClsN K C nm ∧ k (.str nm) n1) : W K (tCN K te) Γ O n k := by
  intro pn As H0 M H σ S Q c
  refine h pn As H0 M H σ S _ fun v M1 H1 d n1 e1 S1 r1 ⟨C, ns, ds, nm, ed, T, q⟩ => ?_
  subst ed
  cases r1 with
  | @ins a C dx fs ns ds g1 g2 g3 => exact ⟨a, C, dx, fs, nm, rfl, S1.ex _ _ g1, T, c _ M1 H1 _ n1 e1 S1 (.str nm) q⟩
/-! dicts -/
theorem w_disp1 {ky : Str} {i : Int} {k : DV → Nat → Prop} (q : k (.dic [.inr ky] [.lst [.int i]]) n) : W K (tDisp [(tC (.str ky), tLst (tCons (tC (.int i)) tNil))]) Γ O n k := fun pn As H0 M H σ S Q c => fun p hp => ⟨by show 1 ≤ sizeLine; decide, fun b hb => by
  have hbp : b ≠ p := fun z => by rw [z, upd_same] at hb; cases hb
  have hb2 : H b = none := by rw [upd_ne hbp] at hb; exact hb
  obtain ⟨e1, S1⟩ := S.alloc (o := .lst [.int i]) hb2
  have hp2 : upd H b (.lst [.int i]) p = none := by rw [upd_ne (Ne.symm hbp)]; exact hp
  obtain ⟨e2, S2⟩ := S1.alloc (o := .dK [(.inr ky, .ref b)]) hp2
  refine ⟨by rw [upd_ne (Ne.symm hbp), upd_same], [(.inr ky, .ref b)], rfl, by show 1 ≤ 15; decide, ?_⟩
  have eH : upd (upd (upd H p (.dK [])) b (.lst [.int i])) p (.dK (mergeK [] [(.inr ky, .ref b)])) = upd (upd H b (.lst [.int i])) p (.dK [(.inr ky, .ref b)]) := by
    funext z
    by_cases hz : z = p
    · subst hz; rw [upd_same, upd_same]; rfl
    · rw [upd_ne hz, upd_ne hz]
      by_cases hz2 : z = b
      · subst hz2; rw [upd_same, upd_same]
      · rw [upd_ne hz2, upd_ne hz2, upd_ne hz]
  rw [eH]
  exact c _ _ _ _ n (Evl.Ex.trans e1 e2) S2 (.dic (kvs := [(.inr ky, .ref b)]) upd_same rfl (.cons (.lst (by rw [upd_ne hbp, upd_same]) (.cons (.int i) .nil)) .nil)) q⟩
def rEqB (K : Fg) : R2 := fun x y H Q => rEqA K x y H Q ∨ rEqV K x y H Q
theorem op_eqB {X : Cx} (hu : X.A.units + 64 < cLine) : OpR X (compareOp .Eq) (rEqB X.K) := (op_eqA hu).or (op_eqV hu)
theorem ow_eqBd {k : DV → Prop} (h : OW K (rEqA K) x y k) : OW K (rEqB K) x y k := OW.l h
theorem ow_eqDic {ky : Key} {i : Int} {k : DV → Prop} (q : k (.bl true)) : OW K (rEqB K) (.dic [ky] [.lst [.int i]]) (.dic [ky] [.lst [.int i]]) k := OW.r fun pn As H0 M H σ Γ O n S v w rv rw Q c => by
  have get : ∀ {v : V}, Rp K M v (.dic [ky] [.lst [.int i]]) → ∃ a b, v = .ref a ∧ H a = some (.dK [(ky, .ref b)]) ∧ H b = some (.lst [.int i]) := fun r => by
    cases r with
    | @dic a kvs _ _ g1 g2 g3 =>
      match kvs, g2, g3 with
      | [(k0, v0)], g2, g3 =>
        cases g2
        cases g3 with
        | cons r1 r2 =>
          obtain ⟨b, vs, ev, h1, h2⟩ := r1.lst'
          have ev' : v0 = .ref b := ev
          subst ev'
          cases h2 with
          | cons a1 a2 =>
            cases a1; cases a2
            exact ⟨a, b, rfl, S.ex _ _ g1, S.ex _ _ h1⟩
  obtain ⟨a, b, rfl, h1, h2⟩ := get rv
  obtain ⟨a', b', rfl, h3, h4⟩ := get rw
  refine ⟨2, by decide, .inr ⟨a, a', _, _, rfl, rfl, h1, h3, rfl, fun p hp => ?_⟩, c _ M H _ (Evl.Ex.refl M) S (.bl true) q⟩
  simp only [List.mem_cons, List.not_mem_nil, or_false] at hp
  subst hp
  refine ⟨.ref b', by simp [valV], ?_⟩
  exact .inr (.inr (.inl ⟨b, b', _, _, rfl, rfl, .inl (.inl h2), .inl (.inl h4), .cons (.inl ⟨rfl, rfl⟩) .nil⟩))
end
end DL
namespace DL
open PySem PySem.Spec PyProof.Rows L2 NdefX PySem.HandSPX PySem.DLx StX
/-! defs with *args, with what is known of the guards; making an instance by one -/
def FnS (P : Program) (w : World) (K : Fg) (mg : Str → Option Value) (base : Heap) (k : Nat) (f : Addr) (sp : Sp) : Prop :=
  ∀ (A : Around) (outer : List Env) (s : Shared) (H : Hp) (us : List Value) (vs : List V) (Q : VK) (E : XK), Room k A → A.guards = some [] → Env0 P w K mg base A outer s H → Vals vs us → sp vs H Q E →
    codeAny (model P w) A (.call (.ref f) ⟨us, []⟩) (CR CX0 outer P w H s Q E) s
/-- what *args hand over: the tuple of the rest is laid -/
def spStar (nn : Nat) (sp : Sp) : Sp := fun vs H Q E => ∃ ws rest, vs = ws ++ rest ∧ ws.length = nn ∧ rest.length ≤ sizeLine ∧ ∀ p, H p = Option.none → sp (ws ++ [V.ref p]) (upd H p (.tup rest)) Q E
section
variable {P : Program} {w : World} {K : Fg} {mg : Str → Option Value} {base : Heap} {k : Nat} {f : Addr} {name qual : Str} {params : Arguments} {body : List Stmt} {scope : Scope} {dV kV doc pm cdv ct oc : Value} {an od : Option Addr} {osl : Array (Option Value)} {N ps : List Str} {sp : Sp}
theorem fnS_star {pv : Str} (lk : K.lookup f = some ⟨oc, od, .func (PySem.W.fnOf name qual params body scope dV kV doc pm an cdv ct), osl⟩) (hcd : PySem.W.codeIn K cdv qual = true) (S : FnScope N (ps ++ [pv]) scope)
    (hb : ∀ us rest : List Value, us.length = ps.length → bindArgs (PySem.W.fnOf name qual params body scope dV kV doc pm an cdv ct) ⟨us ++ rest, []⟩ = (newTuple rest >>= fun t => pure (ps.zip us ++ [(pv, t)])))
    (hbody : ∀ (A : Around) (outer : List Env) (s : Shared) (H : Hp) (vs : List V) (Q : VK) (E : XK), Room k (A.deeper (envOfC qual scope s.heap.objs.size f cdv)) → A.guards = some [] → sp vs H Q E →
      ∃ t, PSs (cxOf CX0 P w K mg base N qual scope f cdv A outer s H E) body t ∧ t { nx := fun _ H' => Q .non H', rt := Q } (start N vs) H) : FnS P w K mg base (k + 1) f (spStar ps.length sp) := by
  intro A outer s H us vs Q E hr hG e0 r hsp
  obtain ⟨ws, rest, rfl, hl, hz, hq⟩ := hsp
  obtain ⟨u1, u2, rfl, r1, r2⟩ := vals_split r
  have hn : H s.heap.objs.size = Option.none := e0.hok.fresh (Nat.le_refl _)
  have l1 : u1.length = ps.length := r1.length.symm.trans hl
  have l2 : u2.length ≤ sizeLine := by
    rw [← r2.length]; exact hz
  refine run_bnd lk hcd S hr e0 (G := fun xs H2 => ∃ p, H p = Option.none ∧ xs = ws ++ [V.ref p] ∧ H2 = upd H p (.tup rest)) (fun A' Ex Q' h => ?_) fun s2 H2 xs ⟨p, hp, ex, eH⟩ hr' => ?_
  · rw [hb u1 u2 l1]
    refine wpAny_bind (wpAny_newTuple (wpAny_pure ?_) l2)
    have ob : ObjOk P w (upd H s.heap.objs.size (.tup rest)) (s.heap.push ({ cls := .type "tuple", data := .seq u2.toArray } : Obj)) s.heap.objs.size (.tup rest) := by
      exact ⟨hz, u2, r2, ⟨_, Heap.get?_push_size _ rfl, rfl, _, rfl⟩⟩
    have un := un_laid (fs := frs outer) (s := s) (o := ({ cls := .type "tuple", data := .seq u2.toArray } : Obj)) (u := .tup rest) hn
    have z := h _ _ (ws ++ [V.ref s.heap.objs.size]) (u1 ++ [Value.ref s.heap.objs.size]) (env0_laid e0 ob) un rfl (fun e s' z => z) (r1.append (.cons rfl .nil)) (by rw [List.length_append, List.length_append, hl] <;> rfl) ⟨_, hn, rfl, rfl⟩
    rw [List.zip_append l1.symm] at z
    exact z
  · subst ex eH
    exact hbody A outer s2 _ _ Q E hr' hG (hq p hp)
end
theorem guards_make {A : Around} {C : Addr} {us : List Value} {kw : List (Str × Value)} : (A.under (.builtin "type.__call__" ⟨.ref C :: us, kw⟩)).guards = A.guards := by
  first | rfl | simp [Around.under, Code.isGuard, guardIds]
/-- C(e, ..) by a promise of its __init__ -/
def tMakeS (C : Addr) (sp : Sp) (t : TA) : TE := fun σ H Q => t σ H fun vs H1 => ∀ x dx, H1 x = Option.none → H1 dx = Option.none → dx ≠ x →
  sp (V.ref x :: vs) (upd (upd H1 dx (.own x)) x (.ins C dx [])) (fun v H2 => v = .non ∧ Q (.ref x) H2) E0
structure HasS (P : Program) (w : World) (K : Fg) (mg : Str → Option Value) (base : Heap) (k : Nat) (C : Addr) (sp : Sp) : Prop where
  ex : ∃ f, Mk K C f ∧ FnS P w K mg base k f sp
section
variable {X : Cx} {k j : Nat} {C : Addr} {sp : Sp} {x : Str} {e : Expr} {es : List Expr} {t : TA} {p pos : Pos}
theorem run_mkS {pins : List (Addr × Obj)} {σ : L2.St} {H : Hp} {s : Shared} {Q : VK} {us : List Value} {vs : List V} {f : Addr} (M : Mk X.K C f) (F : FnS X.prog X.w X.K X.mg X.base k f sp) (hr : Room (k + 1) X.A) (hG : X.A.guards = some []) (I : Inv X pins σ H s) (r : Vals vs us)
    (h : ∀ x dx, H x = Option.none → H dx = Option.none → dx ≠ x → sp (V.ref x :: vs) (upd (upd H dx (.own x)) x (.ins C dx [])) (fun v H2 => v = .non ∧ Q (.ref x) H2) E0) :
    wpAny (model X.prog X.w) X.A (call (.ref C) us) (L2.EP X pins σ Q) X.xe s := by
  have q0 := h (s.heap.objs.size + 1) s.heap.objs.size (I.hok.fresh (Nat.le_succ _)) (I.hok.fresh (Nat.le_refl _)) (Nat.ne_of_lt (Nat.lt_succ_self _))
  have I2 := Inv.made (C := C) I
  have r2 : Vals (V.ref (s.heap.objs.size + 1) :: vs) (Value.ref (s.heap.objs.size + 1) :: us) := .cons rfl r
  refine wpAny_call (make_map (f := f) I.kIn M.makes M.init (beq_iff_eq.mp M.fn) (codeAny_mono (F _ X.stack _ _ (Value.ref (s.heap.objs.size + 1) :: us) _ _ E0 (hr.make C us []) (guards_make.trans hG) (I2.env0.make C us []) r2 q0) fun r s' h' => ?_))
  cases r with
  | error e => exact pass0 pins σ _ _ e s' I2 h'
  | ok fl =>
    cases fl with
    | ret u =>
      obtain ⟨v, H', I3, rv, ev, q3⟩ := I2.after h'
      subst ev
      exact ⟨rv, ⟨V.ref (s.heap.objs.size + 1), H', I3, rfl, q3⟩⟩
    | next => exact h'.elim
    | brk => exact h'.elim
    | cont => exact h'.elim
theorem pe_mkS (h : HasS X.prog X.w X.K X.mg X.base j C sp) (hr : Room k X.A) (hj : j + 1 ≤ k) (hG : X.A.guards = some []) (hm : X.mg x = some (.ref C)) (ha : PA X (e :: es) t) (hg : Gl X x := by rfl) (hdb : (x == ("__debug__" : Str)) = false := by decide)
    (he : starEach (e :: es) X.env = (false, eval e X.env) :: starEach es X.env := by rfl) (hpl : (backTo pos (starEach es X.env)).any (·.1) = false := by rfl) : PE X (.Call (.Name x p) (e :: es) [] pos) (tMakeS C sp t) := by
  obtain ⟨f, M, F⟩ := h
  constructor
  intro pins s σ H Q I q
  apply wpAny_Call_Name_kw (ld_glob I hg hm ?_ hdb)
  apply PySem.W.callWith_K (h₀ := X.base) I.ok.mod.kin M.kp ?_ he hpl
  apply thn (ha.run pos pins s σ H _ I q)
  rintro us s1 ⟨vs, H1, I1, r, q1⟩
  exact ⟨I1.kIn, run_mkS M F (hr.mono hj) hG I1 r q1⟩
end
section
variable {K : Fg} {Γ : List SA} {O : Own} {n : Nat} {t : TA} {C : Addr} {ns : List Str}
/-- an __init__(self, a, .., *rest): nn + 1 values ahead of the rest; the fields are what fl makes of the data -/
def spIni (K : Fg) (C : Addr) (nn : Nat) (ns : List Str) (pre : List DV → Prop) (fl : List DV → List DV) : Sp := fun vs H Q _ => ∃ a dx us M ds, vs = .ref a :: us ∧ us.length = nn + 1 ∧ H a = some (.ins C dx []) ∧ H dx = some (.own a) ∧ M a = none ∧ M dx = none ∧ Ex M H ∧ RpL K M us ds ∧ pre ds ∧
  ∀ M' H' fs, Ex M M' → (∀ b o, b ≠ a → H b = some o → H' b = some o) → Ex M' H' → Thaw M H M' → H' a = some (.ins C dx fs) → fs.map (·.1) = ns → RpL K M' (fs.map (·.2)) (fl ds) → Q .non H'
theorem w_mkS {nn : Nat} {pre : List DV → Prop} {fl : List DV → List DV} {k : DV → Nat → Prop} (h : WA K t Γ O n fun ds n1 => ∃ ws rest, ds = ws ++ rest ∧ ws.length = nn ∧ rest.length ≤ 100000 ∧ pre (ws ++ [.tup rest]) ∧ k (.ins C ns (fl (ws ++ [.tup rest]))) n1) :
    W K (tMakeS C (spStar (nn + 1) (spIni K C nn ns pre fl)) t) Γ O n k := by
  intro pn As H0 M H σ S Q c
  refine h pn As H0 M H σ S _ fun vs M1 H1 ds n1 e1 S1 r1 ⟨ws, rest, ed, hl, hz, hp, q⟩ => fun x dx hx hdx hne => ?_
  subst ed
  subst hl
  have lv : vs.length = (ws ++ rest).length := r1.length
  have rt : RpL K M1 (vs.take ws.length) ws := by
    have z := r1.take ws.length
    rwa [List.take_left] at z
  have rd : RpL K M1 (vs.drop ws.length) rest := by
    have z := r1.drop ws.length
    rwa [List.drop_left] at z
  refine ⟨.ref x :: vs.take ws.length, vs.drop ws.length, by rw [List.cons_append, List.take_append_drop], by rw [List.length_cons, rt.length], Evl.sz_of (by rw [rd.length]; exact hz), fun p hp' => ?_⟩
  have px : p ≠ x := fun z => by rw [z, upd_same] at hp'; cases hp'
  have pd : p ≠ dx := fun z => by rw [z, upd_ne hne, upd_same] at hp'; cases hp'
  have hp1 : H1 p = none := by rw [upd_ne px, upd_ne pd] at hp'; exact hp'
  have mx : M1 x = none := Evl.fresh_back S1.ex hx
  have md : M1 dx = none := Evl.fresh_back S1.ex hdx
  have mp : M1 p = none := Evl.fresh_back S1.ex hp1
  have eM : Ex M1 (upd M1 p (.tup (vs.drop ws.length))) := Evl.Ex.new mp
  refine ⟨x, dx, vs.take ws.length ++ [.ref p], upd M1 p (.tup (vs.drop ws.length)), ws ++ [.tup rest], rfl, by rw [List.length_append, rt.length]; rfl, by rw [upd_ne (Ne.symm px), upd_same], by rw [upd_ne (Ne.symm pd), upd_ne hne, upd_same], by rw [upd_ne (Ne.symm px)]; exact mx, by rw [upd_ne (Ne.symm pd)]; exact md, ?_, ?_, hp, ?_⟩
  · intro a o ha
    by_cases h1 : a = p
    · subst h1; rw [upd_same] at ha ⊢; exact ha
    · rw [upd_ne h1] at ha ⊢
      have h2 := S1.ex _ _ ha
      rw [upd_ne (ne_of_none h2 hx), upd_ne (ne_of_none h2 hdx)]; exact h2
  · exact (rt.mono eM).append (.cons (.tup (.inl (.inl upd_same)) (rd.mono eM)) .nil)
  · intro M' H' fs e2 kp ex th ha hf rf
    refine ⟨rfl, ?_⟩
    have there : ∀ b o, H1 b = some o → H' b = some o := fun b o hb => kp b o (ne_of_none hb hx) (by rw [upd_ne (ne_of_none hb hp1), upd_ne (ne_of_none hb hx), upd_ne (ne_of_none hb hdx)]; exact hb)
    have th1 : ∀ b, H1 b ≠ none → M1 b = none → M' b = none := fun b hb hm => by
      cases e : H1 b with
      | none => exact absurd e hb
      | some o =>
        refine th b ?_ (by rw [upd_ne (ne_of_none e hp1)]; exact hm)
        rw [upd_ne (ne_of_none e hp1), upd_ne (ne_of_none e hx), upd_ne (ne_of_none e hdx), e]
        exact fun z => nomatch z
    have mx' : M' x = none := th x (by rw [upd_ne (Ne.symm px), upd_same]; exact fun z => nomatch z) (by rw [upd_ne (Ne.symm px)]; exact mx)
    have e3 : Ex M' (upd M' x (.ins C dx fs)) := Evl.Ex.new mx'
    have e13 : Ex M1 (upd M' x (.ins C dx fs)) := Evl.Ex.trans (Evl.Ex.trans eM e2) e3
    have nx : ∀ b, H1 b ≠ none → b ≠ x := fun b hb z => hb (by rw [z]; exact hx)
    refine c (.ref x) _ H' _ n1 (Evl.Ex.trans e1 e13) ⟨⟨fun a o hao => ?_, fun a o h1 h2 => there a o (S1.kp a o h1 h2), fun q hq => ?_⟩, fun i b es g1 g2 => ?_, fun b hb => ?_, fun b hb => ?_, S1.nd, S1.len, S1.sl, fun i t' g => (S1.ok i t' g).mono e13⟩ (.ins upd_same hf (rf.mono e3)) q
    · by_cases h1 : a = x
      · subst h1; rw [upd_same] at hao; rw [← hao]; exact ha
      · rw [upd_ne h1] at hao; exact ex a o hao
    · obtain ⟨g1, g2⟩ := S1.pen q hq
      obtain ⟨_, _, _, _, g3, _⟩ := id g2
      have live : H1 q ≠ none := by rw [g3]; exact fun z => nomatch z
      exact ⟨by rw [upd_ne (nx q live)]; exact th1 q live g1, g2.mono e13 (by rw [g3]; exact there q _ g3) (Nat.le_refl _)⟩
    · obtain ⟨g3, g4, g5, us, g6, g7⟩ := S1.own i b es g1 g2
      have live : H1 b ≠ none := by rw [g6]; exact fun z => nomatch z
      exact ⟨by rw [upd_ne (nx b live)]; exact th1 b live g3, g4, g5, us, there b _ g6, g7.mono e13⟩
    · have live := S1.live b hb
      cases e : H1 b with
      | none => exact absurd e live
      | some o => rw [there b o e]; exact fun z => nomatch z
    · obtain ⟨g1, g2, g3⟩ := S1.pr b hb
      refine ⟨by rw [upd_ne (nx b g2)]; exact th1 b g2 g1, ?_, g3⟩
      cases e : H1 b with
      | none => exact absurd e g2
      | some o => rw [there b o e]; exact fun z => nomatch z
end
end DL
namespace DL
open PySem PySem.Spec PyProof.Rows L2 NdefX
/-! bool(x); nested targets of two drawn pairs; promises that none can ask for -/
def rBool : List V → Hp → VK → Prop := fun xs H Q => (∃ i, xs = [.int i] ∧ Q (.bl (i != 0)) H) ∨ ∃ k, xs = [.bl k] ∧ Q (.bl k) H
theorem cr_bool {X : Cx} : CallR X (.type "bool") rBool := call_bool1
section
variable {K : Fg} {P : Program} {w : World} {mg : Str → Option Value} {base : Heap} {x : Str} {st : Stmt} {ps : List Str} {sp : Sp} {k : Nat}
theorem cw_boolB {b : Bool} {k : DV → Prop} (q : k (.bl b)) : CW K rBool [.bl b] k := fun pn As H0 M H σ Γ O n S vs r Q c => by
  obtain ⟨u, rfl, h1⟩ := r.one
  cases h1
  exact .inr ⟨b, rfl, c _ M H _ (Evl.Ex.refl M) S (.bl b) q⟩
/-- nobody can ask for it -/
theorem has_none (A : At K mg x st ps) (no : ∀ vs H Q E, ¬ sp vs H Q E) : Has P w K mg base k x st ps sp := by
  obtain ⟨f, fd, F, hm, bi⟩ := A.ex
  exact ⟨f, fd, F, hm, bi, ⟨fun vs H Q E h => (no vs H Q E h).elim, fun A outer s H args us vs Q E _ _ _ _ _ h => (no vs H Q E h).elim⟩⟩
/-- a method of the text, at f -/
theorem hasM_of {f : Addr} {qual nm : Str} {N : List Str} {fd : FuncData} (F : Fun K nm qual st f fd) (fn : PySem.W.isFn K (.ref f) = true) (bi : Binds K fd ps []) (S : FnScope N ps (defScope st)) (len : ∀ vs H Q E, sp vs H Q E → vs.length = ps.length)
    (hb : ∀ (cdv : Value) (A : Around) (outer : List Env) (s : Shared) (H : Hp) (vs : List V) (Q : VK) (E : XK), Room k (A.deeper (envOfC qual (defScope st) s.heap.objs.size f cdv)) → A.guards = some [] → sp vs H Q E →
      ∃ t, PSs (cxOf CX0 P w K mg base N qual (defScope st) f cdv A outer s H E) (defBody st) t ∧ t { nx := fun _ H' => Q .non H', rt := Q } (start N vs) H) : HasM P w K mg base (k + 1) f sp :=
  ⟨fn, fd, ps, bi, fnG_fun F S len fun cdv A outer s H vs Q E hr hG h => hb cdv A outer s H vs Q E hr hG h⟩
end
end DL
namespace DL
open PySem PySem.Spec PyProof.Rows L2 NdefX
section
variable {K : Fg}
/-! the script's first cells -/
def scr (K : Fg) (a : Addr) (xs : List V) : TE := fun σ H Q => SqL K H a xs → tSl (rCut K) (tVar 0) tNoPart (tPart (tC (.int 63))) σ H Q
theorem wl_scr {a : Addr} {ns : List Int} {Γ : List SA} {O : Own} {n : Nat} {k : List DV → Nat → Prop} (h0 : Γ[0]? = some (.is (.adr a))) (q : k ((ns.take 63).map DV.int) n) : WL K (scr K a (ns.map V.int)) Γ O n k := fun pn As H0 M H σ S Q c => fun hq => by
  obtain ⟨v, h1, h2⟩ := S.slot h0
  cases h2
  refine ⟨_, h1, 63, rfl, .inl ⟨a, ns.map V.int, rfl, hq, fun p hp => ?_⟩⟩
  have e : cutV (ns.map V.int) none (some (63 : Int)) = (ns.take 63).map V.int := by
    unfold cutV
    have e63 : HT.sIx (ns.map V.int).length (ns.map V.int).length (some (63 : Int)) = min 63 (ns.map V.int).length := HT.sIx_nat _ _ 63
    rw [e63, HT.sIx_none, List.drop_zero, Nat.sub_zero, List.map_take]
    by_cases h : 63 ≤ (ns.map V.int).length
    · rw [Nat.min_eq_left h]
    · rw [Nat.min_eq_right (by omega), List.take_of_length_le (Nat.le_refl _), List.take_of_length_le (by omega)]
  rw [e]
  exact wl_new S hp (RpL.of_ints _) c q
end
/-! the law's own call, where sys.modules is known to stand -/
theorem lawS {P : Program} {w : World} {K : Fg} {mg mb : Str → Option Value} {CX : CXT} {k : Nat} {fa a : Addr} {fd : FuncData} {x : Str} {sp : Sp} {z : Shared} {us : List Value} {ns : List Int}
    (KX : K.In z.heap) (hns : z.heap.Ns mainGlobals mg) (hb : z.heap.Ns builtinsNs mb) (hbb : ∀ x : Str, x ≠ "__name__" → mb x = bootBuiltins x) (hlim : z.heap.NoLimit) (hsm : ∃ mm, z.heap.Ns sysModules mm) (hgen : z.gens = #[])
    (ha : z.heap.get? a = some { cls := .type "list", data := .seq us.toArray }) (hi : IntsAre us ns) (hl : ns.length ≤ sizeLine) (hr : Room k callerA)
    (F : ∀ base : Heap, K.In base → base.Ns mainGlobals mg → (∃ o, base.get? sysModules = some o) → FnG P w K mg base CX k fa fd [x] sp) (hbind : ∀ (s : Shared) (u : Value), BindsTo s fd ⟨[u], []⟩ [(x, u)])
    (hsp : ∀ H : Hp, Only H → SqL K H a (ns.map V.int) → sp [.ref a] H (fun v _ => v = .bl true) fun _ _ _ => False)
    (hCX : ∀ H e s', CX [] H z (fun _ _ _ => False) e s' → False) :
    codeAny (model P w) callerA (.call (.ref fa) ⟨[.ref a], []⟩) (fun r s' => r = .ok (.ret (.bool true)) ∧ OldK z.heap s'.heap ∧ s'.os = z.os ∧ AllBare s'.gens) z := by
  have lenV := hi.length
  have main : ∀ H : Hp, Only H → SqL K H a (ns.map V.int) → HOk P w H z.heap → (∀ b, H b ≠ none → b = a) → (H a ≠ none → K.lookup a = none) →
      codeAny (model P w) callerA (.call (.ref fa) ⟨[.ref a], []⟩) (fun r s' => r = .ok (.ret (.bool true)) ∧ OldK z.heap s'.heap ∧ s'.os = z.os ∧ AllBare s'.gens) z := by
    intro H hO hS hok hA hK
    have noD : ∀ {b : Addr} {o : Obj} {es : Array DictEntry} {ep : Nat}, z.heap.get? b = some o → o.data = .dict es ep → H b = none := by
      intro b o es ep e d
      cases q : H b with
      | none => rfl
      | some u =>
        exfalso
        have eb := hA b (by rw [q]; exact fun y => nomatch y)
        rw [eb, ha] at e
        cases e
        cases d
    have nsK : ∀ {b : Addr} {m : Str → Option Value}, z.heap.Ns b m → (hidT z.heap H).Ns b m := by
      rintro b m ⟨o, es, ep, e, d, r⟩
      exact ⟨o, es, ep, hidT_get e (noD e d), d, r⟩
    have hKb : K.In (hidT z.heap H) := by
      intro b o e
      refine hidT_get (KX b o e) ?_
      cases q : H b with
      | none => rfl
      | some u =>
        exfalso
        have eb := hA b (by rw [q]; exact fun y => nomatch y)
        rw [eb] at q e
        rw [hK (by rw [q]; exact fun y => nomatch y)] at e
        cases e
    obtain ⟨mc, l1, l2⟩ := hlim
    obtain ⟨mm, hmm⟩ := hsm
    have hB : ∃ o, (hidT z.heap H).get? sysModules = some o := by
      obtain ⟨o, es, ep, e, _⟩ := nsK hmm
      exact ⟨o, e⟩
    have hM : Mod K mg (hidT z.heap H) := ⟨hKb, nsK hns, ⟨mb, nsK hb, hbb⟩, mc, nsK l1, l2⟩
    have e0 : Env0 P w K mg (hidT z.heap H) callerA [] z H := by
      refine ⟨rfl, hM, fun b o e => of_hidT e, Nat.le_of_eq (hidT_size _ _), trivial, ?_, hok, .of_eq hgen⟩
      intro b hb'
      cases hb'
    apply codeAny_mono ((F _ hKb (nsK hns) hB).go callerA [] z H ⟨[.ref a], []⟩ [.ref a] [.ref a] _ _ hr rfl e0 (hbind z (.ref a)) (.cons rfl .nil) (hsp H hO hS))
    intro r s' h
    cases r with
    | error e => exact (hCX H e s' h).elim
    | ok fl =>
      cases fl with
      | next => exact h.elim
      | brk => exact h.elim
      | cont => exact h.elim
      | ret u =>
        obtain ⟨v, H', os, bare, un, hok', r', q⟩ := h
        have q' : v = .bl true := q
        subst q'
        have hu : u = Value.bool true := r'
        subst hu
        refine ⟨rfl, OldK.of_keep ?_, os, bare⟩
        intro b o e
        cases q : H b with
        | none =>
          refine un.keep b o e q ?_ ?_
          · intro y; cases y
          · intro y; cases y
        | some u =>
          rcases hO b with y | ⟨ob, xs, y⟩
          · rw [q] at y; cases y
          · have t1 := (hok b _ y).1
            have t2 := (hok' b _ (un.frzs b ob _ y)).1
            rw [e] at t1
            cases t1
            exact t2
  by_cases hk : ∃ o, K.lookup a = some o
  · obtain ⟨o, hk⟩ := hk
    have e := KX a o hk
    rw [ha] at e
    cases e
    apply main (fun _ => none)
    · exact fun _ => .inl rfl
    · exact .inr ⟨_, us.toArray, _, hk, rfl, rfl, rfl, by rw [List.size_toArray, lenV]; exact hl, by simpa using vals_ints hi⟩
    · intro b u y; cases y
    · intro b y; exact absurd rfl y
    · intro y; exact absurd rfl y
  · have hk' : K.lookup a = none := by
      cases e : K.lookup a with
      | none => rfl
      | some o => exact absurd ⟨o, e⟩ hk
    let Hs : Hp := fun b => if b = a then some (.frz { cls := .type "list", data := .seq us.toArray } (.lst (ns.map V.int))) else none
    have at_a : Hs a = some (.frz { cls := .type "list", data := .seq us.toArray } (.lst (ns.map V.int))) := if_pos rfl
    have off : ∀ b, b ≠ a → Hs b = none := fun b hb => if_neg hb
    apply main Hs
    · intro b
      by_cases hb : b = a
      · subst hb; exact .inr ⟨_, _, at_a⟩
      · exact .inl (off b hb)
    · exact .inl (.inr ⟨_, at_a⟩)
    · intro b u y
      by_cases hb : b = a
      · subst hb
        rw [at_a] at y
        cases y
        exact ⟨ha, by rw [List.length_map]; exact hl, us, _, vals_ints hi, ha⟩
      · rw [off b hb] at y; cases y
    · intro b y
      by_cases hb : b = a
      · exact hb
      · exact absurd (off b hb) y
    · exact fun _ => hk'
theorem walkS {l : PySem.W.OpenLaw} {n k : Nat} {q : Program} {loose : List Str} {XP : (Str → Option Value) → Heap → Prop} {YP : World → Heap → Prop} {d : DefRec} {K : Params → Fg} {CX : CXT} {sp : Fg → Sp} {x : Str}
    (him : PyProof.Rows.importsNone q = true) (hn : l.most = some n) (hn2 : n ≤ sizeLine) (hdf : d.params.defaults = []) (hr : Room k callerA) (hY : ∀ (w : World) (h : Heap), YP w h → (K w.params).In h)
    (F : ∀ (w : World) (mg : Str → Option Value) (fa : Addr) (h : Heap), (K w.params).In h → h.Ns mainGlobals mg → (∃ o, h.get? sysModules = some o) → mg d.name = some (.ref fa) →
      ∃ fd : FuncData, (∀ (s : Shared) (u : Value), BindsTo s fd ⟨[u], []⟩ [(x, u)]) ∧ ∀ base : Heap, (K w.params).In base → base.Ns mainGlobals mg → (∃ o, base.get? sysModules = some o) → FnG l.prog w (K w.params) mg base CX k fa fd [x] (sp (K w.params)))
    (hsp : ∀ (K : Fg) (H : Hp) (a : Addr) (ns : List Int), ns.length ≤ n → Only H → SqL K H a (ns.map V.int) → sp K [.ref a] H (fun v _ => v = .bl true) fun _ _ _ => False)
    (hCX : ∀ (H : Hp) (s : Shared) (e : Value) (s' : Shared), CX [] H s (fun _ _ _ => False) e s' → False) :
    PySem.W.WalkO q loose XP YP l.row.toRowW d [] (fun f vs => PySem.call f vs) := by
  apply Att.attach_call hn hdf
  intro w s₀ s₁ mg mb fa o pm cd doc a vs ns G Y ho hd hcd hmg hobj hints hlen hg
  have KX := hY w _ Y
  obtain ⟨mm, hmm, _⟩ := (G.T.seer him).mods
  obtain ⟨fd, hb, hF⟩ := F w mg fa _ KX G.T.g (by obtain ⟨o, es, ep, e, _⟩ := hmm; exact ⟨o, e⟩) hmg
  exact lawS KX G.T.g G.T.b G.T.builtins G.T.nolimit ⟨mm, hmm⟩ hg hobj hints (Nat.le_trans hlen hn2) hr hF hb (fun H hO hS => hsp _ H a ns hlen hO hS) fun H e s' => hCX H s₁ e s'
end DL
namespace K00
open PySem PySem.Spec PyProof.Rows L2 NdefX DL
abbrev top (i : Nat) : Stmt := PySem.Challenge.pw_slidercuts_k00_errors_and_papers.main.body.getD i (.Pass ⟨0, 0, 0, 0⟩)
def cbody (s : Stmt) (j : Nat) : Stmt := match s with
  | .ClassDef _ _ _ b _ _ _ _ _ _ _ => b.getD j (.Pass ⟨0, 0, 0, 0⟩)
  | _ => .Pass ⟨0, 0, 0, 0⟩
abbrev s_fixed : Stmt := top 1
abbrev N_fixed : List Str := ["value", "part"]
abbrev P_fixed : List Str := ["value"]
theorem sc_fixed : FnScope N_fixed P_fixed (defScope s_fixed) := ⟨rfl, rfl, rfl, by decide +kernel, rfl, by decide +kernel, by decide +kernel⟩
abbrev s_are_like : Stmt := top 2
abbrev N_are_like : List Str := ["one", "other", "here", "there"]
abbrev P_are_like : List Str := ["one", "other"]
theorem sc_are_like : FnScope N_are_like P_are_like (defScope s_are_like) := ⟨rfl, rfl, rfl, by decide +kernel, rfl, by decide +kernel, by decide +kernel⟩
abbrev s_law_pen : Stmt := top 18
abbrev N_law_pen : List Str := ["script", "cell"]
abbrev P_law_pen : List Str := ["script"]
theorem sc_law_pen : FnScope N_law_pen P_law_pen (defScope s_law_pen) := ⟨rfl, rfl, rfl, by decide +kernel, rfl, by decide +kernel, by decide +kernel⟩
abbrev s_law_draw : Stmt := top 19
abbrev N_law_draw : List Str := ["pen", "many", "digit", "at", "cell", "great", "blend"]
abbrev P_law_draw : List Str := ["pen", "many"]
theorem sc_law_draw : FnScope N_law_draw P_law_draw (defScope s_law_draw) := ⟨rfl, rfl, rfl, by decide +kernel, rfl, by decide +kernel, by decide +kernel⟩
abbrev s_law_pick : Stmt := top 20
abbrev N_law_pick : List Str := ["pen", "some"]
abbrev P_law_pick : List Str := ["pen", "some"]
theorem sc_law_pick : FnScope N_law_pick P_law_pick (defScope s_law_pick) := ⟨rfl, rfl, rfl, by decide +kernel, rfl, by decide +kernel, by decide +kernel⟩
abbrev s_law_value : Stmt := top 21
abbrev N_law_value : List Str := ["pen", "rows"]
abbrev P_law_value : List Str := ["pen"]
theorem sc_law_value : FnScope N_law_value P_law_value (defScope s_law_value) := ⟨rfl, rfl, rfl, by decide +kernel, rfl, by decide +kernel, by decide +kernel⟩
abbrev s_law_below : Stmt := top 22
abbrev N_law_below : List Str := ["error", "kind", "kinds", "at"]
abbrev P_law_below : List Str := ["error", "kind"]
theorem sc_law_below : FnScope N_law_below P_law_below (defScope s_law_below) := ⟨rfl, rfl, rfl, by decide +kernel, rfl, by decide +kernel, by decide +kernel⟩
abbrev s_law_errors_right : Stmt := top 23
abbrev N_law_errors_right : List Str := ["pen", "one", "other", "some", "told", "at", "error"]
abbrev P_law_errors_right : List Str := ["pen"]
theorem sc_law_errors_right : FnScope N_law_errors_right P_law_errors_right (defScope s_law_errors_right) := ⟨rfl, rfl, rfl, by decide +kernel, rfl, by decide +kernel, by decide +kernel⟩
abbrev s_law : Stmt := top 24
abbrev N_law : List Str := ["script", "pen", "turn", "one", "due", "other", "its", "paper", "denial", "passed", "held"]
abbrev P_law : List Str := ["script"]
theorem sc_law : FnScope N_law P_law (defScope s_law) := ⟨rfl, rfl, rfl, by decide +kernel, rfl, by decide +kernel, by decide +kernel⟩
abbrev s_Paper_init : Stmt := cbody (top 3) 0
abbrev N_Paper_init : List Str := ["self", "word", "parts"]
abbrev P_Paper_init : List Str := ["self", "word", "parts"]
theorem sc_Paper_init : FnScope N_Paper_init P_Paper_init (defScope s_Paper_init) := ⟨rfl, rfl, rfl, by decide +kernel, rfl, by decide +kernel, by decide +kernel⟩
abbrev s_Paper_bool : Stmt := cbody (top 3) 1
abbrev N_Paper_bool : List Str := ["self"]
abbrev P_Paper_bool : List Str := ["self"]
theorem sc_Paper_bool : FnScope N_Paper_bool P_Paper_bool (defScope s_Paper_bool) := ⟨rfl, rfl, rfl, by decide +kernel, rfl, by decide +kernel, by decide +kernel⟩
abbrev s_Paper_eq : Stmt := cbody (top 3) 2
abbrev N_Paper_eq : List Str := ["self", "other"]
abbrev P_Paper_eq : List Str := ["self", "other"]
theorem sc_Paper_eq : FnScope N_Paper_eq P_Paper_eq (defScope s_Paper_eq) := ⟨rfl, rfl, rfl, by decide +kernel, rfl, by decide +kernel, by decide +kernel⟩
abbrev s_Denial_bool : Stmt := cbody (top 4) 0
abbrev N_Denial_bool : List Str := ["self"]
abbrev P_Denial_bool : List Str := ["self"]
theorem sc_Denial_bool : FnScope N_Denial_bool P_Denial_bool (defScope s_Denial_bool) := ⟨rfl, rfl, rfl, by decide +kernel, rfl, by decide +kernel, by decide +kernel⟩
abbrev s_BadNumber_init : Stmt := cbody (top 9) 0
theorem sc_BadNumber_init : NScope ["self", "part", "__class__"] ["self", "part"] ["__class__"] (defScope s_BadNumber_init) := nscope_by (by decide +kernel)
abbrev s_BadShape_init : Stmt := cbody (top 10) 0
theorem sc_BadShape_init : NScope ["self", "part", "__class__"] ["self", "part"] ["__class__"] (defScope s_BadShape_init) := nscope_by (by decide +kernel)
abbrev s_BadValue_init : Stmt := cbody (top 11) 0
theorem sc_BadValue_init : NScope ["self", "part", "__class__"] ["self", "part"] ["__class__"] (defScope s_BadValue_init) := nscope_by (by decide +kernel)
abbrev s_BadText_init : Stmt := cbody (top 12) 0
theorem sc_BadText_init : NScope ["self", "line", "word", "__class__"] ["self", "line", "word"] ["__class__"] (defScope s_BadText_init) := nscope_by (by decide +kernel)
abbrev s_BadLine_init : Stmt := cbody (top 13) 0
theorem sc_BadLine_init : NScope ["self", "word", "__class__"] ["self", "word"] ["__class__"] (defScope s_BadLine_init) := nscope_by (by decide +kernel)
abbrev s_Misfit_init : Stmt := cbody (top 14) 0
theorem sc_Misfit_init : NScope ["self", "part", "__class__"] ["self", "part"] ["__class__"] (defScope s_Misfit_init) := nscope_by (by decide +kernel)
abbrev s_Nothing_init : Stmt := cbody (top 15) 0
theorem sc_Nothing_init : NScope ["self", "part", "__class__"] ["self", "part"] ["__class__"] (defScope s_Nothing_init) := nscope_by (by decide +kernel)
abbrev s_TooMany_init : Stmt := cbody (top 16) 0
theorem sc_TooMany_init : NScope ["self", "what", "most", "__class__"] ["self", "what", "most"] ["__class__"] (defScope s_TooMany_init) := nscope_by (by decide +kernel)
theorem kw_fixed_0_value : KwOk "fixed" s_fixed P_fixed 0 ["value"] (perm [0]) := fun _ _ _ _ _ _ us ws h1 h2 => match us, ws, h1, h2 with | [], [_], _, _ => rfl
theorem kwc_TooMany_0_most_what : KwOkN s_TooMany_init ["self", "what", "most"] 1 ["most", "what"] (perm (0 :: List.map (· + 1) [1, 0])) := fun F doc pm ctv us ws e h1 h2 => by
  obtain ⟨nm, q, pa, b, sc, cl, c⟩ := F
  cases (show pa = defArgs s_TooMany_init from e)
  match us, ws, h1, h2 with | [_], [_, _], _, _ => rfl
theorem kwc_Nothing_1_ : KwOkN s_Nothing_init ["self", "part"] 2 [] (perm (0 :: List.map (· + 1) [0])) := fun F doc pm ctv us ws e h1 h2 => by
  obtain ⟨nm, q, pa, b, sc, cl, c⟩ := F
  cases (show pa = defArgs s_Nothing_init from e)
  match us, ws, h1, h2 with | [_, _], [], _, _ => rfl
theorem kwc_Misfit_0_part : KwOkN s_Misfit_init ["self", "part"] 1 ["part"] (perm (0 :: List.map (· + 1) [0])) := fun F doc pm ctv us ws e h1 h2 => by
  obtain ⟨nm, q, pa, b, sc, cl, c⟩ := F
  cases (show pa = defArgs s_Misfit_init from e)
  match us, ws, h1, h2 with | [_], [_], _, _ => rfl
theorem kwc_BadLine_0_word : KwOkN s_BadLine_init ["self", "word"] 1 ["word"] (perm (0 :: List.map (· + 1) [0])) := fun F doc pm ctv us ws e h1 h2 => by
  obtain ⟨nm, q, pa, b, sc, cl, c⟩ := F
  cases (show pa = defArgs s_BadLine_init from e)
  match us, ws, h1, h2 with | [_], [_], _, _ => rfl
theorem kwc_BadText_0_word_line : KwOkN s_BadText_init ["self", "line", "word"] 1 ["word", "line"] (perm (0 :: List.map (· + 1) [1, 0])) := fun F doc pm ctv us ws e h1 h2 => by
  obtain ⟨nm, q, pa, b, sc, cl, c⟩ := F
  cases (show pa = defArgs s_BadText_init from e)
  match us, ws, h1, h2 with | [_], [_, _], _, _ => rfl
theorem kwc_BadValue_1_ : KwOkN s_BadValue_init ["self", "part"] 2 [] (perm (0 :: List.map (· + 1) [0])) := fun F doc pm ctv us ws e h1 h2 => by
  obtain ⟨nm, q, pa, b, sc, cl, c⟩ := F
  cases (show pa = defArgs s_BadValue_init from e)
  match us, ws, h1, h2 with | [_, _], [], _, _ => rfl
theorem kwc_BadShape_0_part : KwOkN s_BadShape_init ["self", "part"] 1 ["part"] (perm (0 :: List.map (· + 1) [0])) := fun F doc pm ctv us ws e h1 h2 => by
  obtain ⟨nm, q, pa, b, sc, cl, c⟩ := F
  cases (show pa = defArgs s_BadShape_init from e)
  match us, ws, h1, h2 with | [_], [_], _, _ => rfl
theorem kwc_BadNumber_0_part : KwOkN s_BadNumber_init ["self", "part"] 1 ["part"] (perm (0 :: List.map (· + 1) [0])) := fun F doc pm ctv us ws e h1 h2 => by
  obtain ⟨nm, q, pa, b, sc, cl, c⟩ := F
  cases (show pa = defArgs s_BadNumber_init from e)
  match us, ws, h1, h2 with | [_], [_], _, _ => rfl
structure Cs where
  (c_Paper c_Denial c_CutError c_BadInput c_Refused c_BadNumber c_BadShape c_BadValue c_BadText c_BadLine c_Misfit c_Nothing c_TooMany f_init f_eq f_bP f_bD : Addr)
def errC (cs : Cs) : Fin 8 → Addr
  | 0 => cs.c_BadNumber
  | 1 => cs.c_BadShape
  | 2 => cs.c_BadValue
  | 3 => cs.c_BadText
  | 4 => cs.c_BadLine
  | 5 => cs.c_Misfit
  | 6 => cs.c_Nothing
  | 7 => cs.c_TooMany
/-- whose __bool__ says what -/
def TB (cs : Cs) (C f : Addr) (b : Bool) : Prop := (C = cs.c_Paper ∧ f = cs.f_bP ∧ b = true) ∨ (C = cs.c_Denial ∧ f = cs.f_bD ∧ b = false)
/-- what the top has left -/
structure Txt (P : Program) (K : Fg) (mg : Str → Option Value) (base : Heap) (cs : Cs) : Prop where
  a_fixed : At K mg "fixed" s_fixed P_fixed
  a_are_like : At K mg "are_like" s_are_like P_are_like
  a_law_pen : At K mg "_law_pen" s_law_pen P_law_pen
  a_law_draw : At K mg "_law_draw" s_law_draw P_law_draw
  a_law_pick : At K mg "_law_pick" s_law_pick P_law_pick
  a_law_value : At K mg "_law_value" s_law_value P_law_value
  a_law_below : At K mg "_law_below" s_law_below P_law_below
  a_law_errors_right : At K mg "_law_errors_right" s_law_errors_right P_law_errors_right
  a_law : At K mg "law" s_law P_law
  n_ValueError : mg "ValueError" = none
  n_abs : mg "abs" = none
  n_all : mg "all" = none
  n_bool : mg "bool" = none
  n_enumerate : mg "enumerate" = none
  n_int : mg "int" = none
  n_isinstance : mg "isinstance" = none
  n_len : mg "len" = none
  n_list : mg "list" = none
  n_range : mg "range" = none
  n_repr : mg "repr" = none
  n_tuple : mg "tuple" = none
  n_zip : mg "zip" = none
  m_Paper : mg "Paper" = some (.ref cs.c_Paper)
  m_Denial : mg "Denial" = some (.ref cs.c_Denial)
  m_CutError : mg "CutError" = some (.ref cs.c_CutError)
  m_BadInput : mg "BadInput" = some (.ref cs.c_BadInput)
  m_Refused : mg "Refused" = some (.ref cs.c_Refused)
  m_BadNumber : mg "BadNumber" = some (.ref cs.c_BadNumber)
  m_BadShape : mg "BadShape" = some (.ref cs.c_BadShape)
  m_BadValue : mg "BadValue" = some (.ref cs.c_BadValue)
  m_BadText : mg "BadText" = some (.ref cs.c_BadText)
  m_BadLine : mg "BadLine" = some (.ref cs.c_BadLine)
  m_Misfit : mg "Misfit" = some (.ref cs.c_Misfit)
  m_Nothing : mg "Nothing" = some (.ref cs.c_Nothing)
  m_TooMany : mg "TooMany" = some (.ref cs.c_TooMany)
  e_BadNumber : ErrT P K mg s_BadNumber_init cs.c_BadNumber ["part"]
  e_BadShape : ErrT P K mg s_BadShape_init cs.c_BadShape ["part"]
  e_BadValue : ErrT P K mg s_BadValue_init cs.c_BadValue ["part"]
  e_BadText : ErrT P K mg s_BadText_init cs.c_BadText ["line", "word"]
  e_BadLine : ErrT P K mg s_BadLine_init cs.c_BadLine ["word"]
  e_Misfit : ErrT P K mg s_Misfit_init cs.c_Misfit ["part"]
  e_Nothing : ErrT P K mg s_Nothing_init cs.c_Nothing ["part"]
  e_TooMany : ErrT P K mg s_TooMany_init cs.c_TooMany ["what", "most"]
  sysm : ∃ o, base.get? sysModules = some o
  kitE : ∀ i j : Fin 8, PySem.W.kitOne K (.ref (errC cs i)) (.ref (errC cs j)) = some (decide (i = j))
  kitC : ∀ i : Fin 8, PySem.W.kitOne K (.ref (errC cs i)) (.ref cs.c_CutError) = some true
  kitV : ∀ i : Fin 8, PySem.W.kitOne K (.ref (errC cs i)) (.type "ValueError") = some true
  kitB : ∀ i : Fin 8, PySem.W.kitOne K (.ref (errC cs i)) (.ref cs.c_BadInput) = some (decide (i.val < 5))
  kitR : ∀ i : Fin 8, PySem.W.kitOne K (.ref (errC cs i)) (.ref cs.c_Refused) = some (decide (4 < i.val))
  nP : ClsN K cs.c_Paper "Paper"
  nD : ClsN K cs.c_Denial "Denial"
  wP : NoAttr K cs.c_Paper "word"
  pP : NoAttr K cs.c_Paper "parts"
  wD : NoAttr K cs.c_Denial "word"
  pD : NoAttr K cs.c_Denial "parts"
  mkP : Mk K cs.c_Paper cs.f_init
  mkD : Mk K cs.c_Denial cs.f_init
  fI : ∃ fd, Fun K "__init__" "Paper.__init__" s_Paper_init cs.f_init fd
  fE : ∃ fd, Fun K "__eq__" "Paper.__eq__" s_Paper_eq cs.f_eq fd
  fP : ∃ fd, Fun K "__bool__" "Paper.__bool__" s_Paper_bool cs.f_bP fd
  fD : ∃ fd, Fun K "__bool__" "Denial.__bool__" s_Denial_bool cs.f_bD fd
  gE : PySem.W.isFn K (.ref cs.f_eq) = true
  gP : PySem.W.isFn K (.ref cs.f_bP) = true
  gD : PySem.W.isFn K (.ref cs.f_bD) = true
  eP : PySem.W.findIn K (.ref cs.c_Paper) "__eq__" = some (some (.ref cs.f_eq))
  eD : PySem.W.findIn K (.ref cs.c_Denial) "__eq__" = some (some (.ref cs.f_eq))
  xP : PySem.W.findIn K (.ref cs.c_Paper) "__ne__" = some (some (.builtin "object.__ne__"))
  xD : PySem.W.findIn K (.ref cs.c_Denial) "__ne__" = some (some (.builtin "object.__ne__"))
  bP : PySem.W.findIn K (.ref cs.c_Paper) "__bool__" = some (some (.ref cs.f_bP))
  bD : PySem.W.findIn K (.ref cs.c_Denial) "__bool__" = some (some (.ref cs.f_bD))
  sDP : PySem.W.subIn K (.ref cs.c_Denial) (.ref cs.c_Paper) = some true
  nDP : cs.c_Denial ≠ cs.c_Paper
  kPP : PySem.W.kitOne K (.ref cs.c_Paper) (.ref cs.c_Paper) = some true
  kDP : PySem.W.kitOne K (.ref cs.c_Denial) (.ref cs.c_Paper) = some true
  kPD : PySem.W.kitOne K (.ref cs.c_Paper) (.ref cs.c_Denial) = some false
  kTP : PySem.W.kitOne K (.type "tuple") (.ref cs.c_Paper) = some false
end K00
namespace K00
open PySem PySem.Spec PyProof.Rows L2 NdefX DL
/-! the values that are drawn; what fixed and are_like make of data -/
def val : Fin 8 → DV
  | 0 => .int 5
  | 1 => .non
  | 2 => .str "half"
  | 3 => .bl true
  | 4 => .lst [.int 1, .lst [.int 2, .tup []]]
  | 5 => .tup [.int 1, .lst [.int 3]]
  | 6 => .lst []
  | 7 => .lst [.lst [.str "x"], .dic [.inr "a"] [.lst [.int 1]]]
def due : Fin 8 → DV
  | 0 => .int 5
  | 1 => .non
  | 2 => .str "half"
  | 3 => .bl true
  | 4 => .tup [.int 1, .tup [.int 2, .tup []]]
  | 5 => .tup [.int 1, .tup [.int 3]]
  | 6 => .tup []
  | 7 => .tup [.tup [.str "x"], .dic [.inr "a"] [.lst [.int 1]]]
def rowsD : List DV := [.tup [val 0, due 0], .tup [val 1, due 1], .tup [val 2, due 2], .tup [val 3, due 3], .tup [val 4, due 4], .tup [val 5, due 5], .tup [val 6, due 6], .tup [val 7, due 7]]
theorem rows_at {d : DV} (h : d ∈ rowsD) : ∃ i : Fin 8, d = .tup [val i, due i] := by
  unfold rowsD at h
  simp only [List.mem_cons, List.not_mem_nil, or_false] at h
  rcases h with rfl | rfl | rfl | rfl | rfl | rfl | rfl | rfl
  · exact ⟨0, rfl⟩
  · exact ⟨1, rfl⟩
  · exact ⟨2, rfl⟩
  · exact ⟨3, rfl⟩
  · exact ⟨4, rfl⟩
  · exact ⟨5, rfl⟩
  · exact ⟨6, rfl⟩
  · exact ⟨7, rfl⟩
mutual
def fixD : DV → DV
  | .lst ds => .tup (fixL ds)
  | .tup ds => .tup (fixL ds)
  | .non => .non
  | .bl b => .bl b
  | .int i => .int i
  | .str x => .str x
  | .ty x => .ty x
  | .adr a => .adr a
  | .ins C ns vs => .ins C ns vs
  | .dic ks vs => .dic ks vs
  | .exc C ns vs => .exc C ns vs
def fixL : List DV → List DV
  | [] => []
  | d :: ds => fixD d :: fixL ds
end
mutual
def dep : DV → Nat
  | .lst ds => depL ds + 1
  | .tup ds => depL ds + 1
  | .non => 0
  | .bl _ => 0
  | .int _ => 0
  | .str _ => 0
  | .ty _ => 0
  | .adr _ => 0
  | .ins _ _ _ => 0
  | .dic _ _ => 0
  | .exc _ _ _ => 0
def depL : List DV → Nat
  | [] => 0
  | d :: ds => max (dep d) (depL ds)
end
theorem fixL_map : ∀ ds : List DV, fixL ds = ds.map fixD
  | [] => rfl
  | d :: ds => by simp [fixL, fixL_map ds]
theorem dep_mem : ∀ {ds : List DV} {d : DV}, d ∈ ds → dep d ≤ depL ds
  | d :: ds, e, h => by
    rcases List.mem_cons.mp h with rfl | h
    · exact Nat.le_max_left _ _
    · exact Nat.le_trans (dep_mem h) (Nat.le_max_right _ _)
/-! data of no great width -/
mutual
def isY : DV → Bool
  | .non => true
  | .bl _ => true
  | .int _ => true
  | .str _ => true
  | .tup ds => decide (ds.length ≤ 1000) && isYL ds
  | .lst ds => decide (ds.length ≤ 1000) && isYL ds
  | .dic _ _ => true
  | .ty _ => false
  | .adr _ => false
  | .ins _ _ _ => false
  | .exc _ _ _ => false
def isYL : List DV → Bool
  | [] => true
  | d :: ds => isY d && isYL ds
end
theorem isY_mem : ∀ {ds : List DV} {d : DV}, isYL ds = true → d ∈ ds → isY d = true
  | d :: ds, e, h, hm => by
    have h' : isY d = true ∧ isYL ds = true := by simpa [isYL] using h
    rcases List.mem_cons.mp hm with rfl | hm
    · exact h'.1
    · exact isY_mem h'.2 hm
/-- two leaves that == can tell of -/
def okLeaf : DV → DV → Bool
  | .int _, .int _ => true
  | .str _, .str _ => true
  | .bl _, .bl _ => true
  | .non, .non => true
  | .int _, .bl _ => true
  | .bl _, .int _ => true
  | .dic [k] [.lst [.int i]], .dic [k'] [.lst [.int j]] => decide (k = k') && decide (i = j)
  | _, _ => false
def eqLeaf : DV → DV → Bool
  | .int i, .int j => decide (i = j)
  | .str i, .str j => decide (i = j)
  | .bl i, .bl j => decide (i = j)
  | .non, .non => true
  | .dic _ _, .dic _ _ => true
  | _, _ => false
mutual
def okP : DV → DV → Bool
  | .tup xs, y => match y with
    | .tup ys => decide (xs.length ≤ 1000) && okPL xs ys
    | _ => false
  | .int i, y => okLeaf (.int i) y
  | .str i, y => okLeaf (.str i) y
  | .bl i, y => okLeaf (.bl i) y
  | .non, y => okLeaf .non y
  | .dic k v, y => okLeaf (.dic k v) y
  | .lst _, _ => false
  | .ty _, _ => false
  | .adr _, _ => false
  | .ins _ _ _, _ => false
  | .exc _ _ _, _ => false
def okPL : List DV → List DV → Bool
  | [], _ => true
  | x :: xs, ys => match ys with
    | [] => true
    | y :: ys => okP x y && okPL xs ys
end
mutual
def alike : DV → DV → Bool
  | .tup xs, y => match y with
    | .tup ys => decide (xs.length = ys.length) && alikeL xs ys
    | _ => false
  | .int i, y => eqLeaf (.int i) y
  | .str i, y => eqLeaf (.str i) y
  | .bl i, y => eqLeaf (.bl i) y
  | .non, y => eqLeaf .non y
  | .dic k v, y => eqLeaf (.dic k v) y
  | .lst _, _ => false
  | .ty _, _ => false
  | .adr _, _ => false
  | .ins _ _ _, _ => false
  | .exc _ _ _, _ => false
def alikeL : List DV → List DV → Bool
  | [], _ => true
  | x :: xs, ys => match ys with
    | [] => true
    | y :: ys => alike x y && alikeL xs ys
end
theorem alikeL_zip : ∀ (xs ys : List DV), alikeL xs ys = (xs.zip ys).all fun p => alike p.1 p.2
  | [], _ => by simp [alikeL]
  | x :: xs, [] => by simp [alikeL]
  | x :: xs, y :: ys => by simp [alikeL, alikeL_zip xs ys]
theorem okPL_mem : ∀ {xs ys : List DV} {p : DV × DV}, okPL xs ys = true → p ∈ xs.zip ys → okP p.1 p.2 = true
  | x :: xs, y :: ys, p, h, hm => by
    have h' : okP x y = true ∧ okPL xs ys = true := by simpa [okPL] using h
    rcases List.mem_cons.mp (by simpa using hm) with rfl | hm
    · exact h'.1
    · exact okPL_mem h'.2 hm
  | [], _, _, _, hm => by simp at hm
  | _ :: _, [], _, _, hm => by simp at hm
theorem fix_val : ∀ i, fixD (val i) = due i
  | 0 => rfl | 1 => rfl | 2 => rfl | 3 => rfl | 4 => rfl | 5 => rfl | 6 => rfl | 7 => rfl
theorem fix_due : ∀ i, fixD (due i) = due i
  | 0 => rfl | 1 => rfl | 2 => rfl | 3 => rfl | 4 => rfl | 5 => rfl | 6 => rfl | 7 => rfl
theorem x_val : ∀ i, isY (val i) = true := by decide
theorem x_due : ∀ i, isY (due i) = true := by decide
theorem d_val : ∀ i, dep (val i) < 4 := by decide
theorem d_due : ∀ i, dep (due i) < 4 := by decide
/-! promises -/
abbrev sp_law_draw (K : Fg) (cs : Cs) : Sp := sp_draw K
abbrev sp_law_pick (K : Fg) (cs : Cs) : Sp := spP K (fun (ds : List DV) => 1 ≤ ds.length ∧ ds.length ≤ 1000) (fun ds => [.lst ds]) (fun _ => 1) fun ds d => d ∈ ds
abbrev sp_law_value (K : Fg) (cs : Cs) : Sp := spP K (fun (_ : Unit) => True) (fun _ => []) (fun _ => 1) fun _ d => ∃ i : Fin 8, d = .tup [val i, due i]
abbrev sp_law_below (K : Fg) (cs : Cs) : Sp := spD K (fun (_ : Fin 8 × List Str × List DV) => True) (fun p => [.exc (errC cs p.1) p.2.1 p.2.2, .int (p.1.val : Int)]) fun _ d => d = .bl true
abbrev sp_law_errors_right (K : Fg) (cs : Cs) : Sp := spP K (fun (_ : Unit) => True) (fun _ => []) (fun _ => 2) fun _ d => d = .bl true
abbrev spR_fixed (K : Fg) (cs : Cs) (n : Nat) : Sp := spD K (fun (d : DV) => isY d = true ∧ dep d < n) (fun d => [d]) fun d r => r = fixD d
abbrev sp_fixed (K : Fg) (cs : Cs) : Sp := spR_fixed K cs 9
abbrev spR_are_like (K : Fg) (cs : Cs) (n : Nat) : Sp := spD K (fun (p : DV × DV) => okP p.1 p.2 = true ∧ dep p.1 < n) (fun p => [p.1, p.2]) fun p r => r = .bl (alike p.1 p.2)
abbrev sp_are_like (K : Fg) (cs : Cs) : Sp := spR_are_like K cs 9
abbrev iniP (l : List DV) : Prop := ∃ w rest, l = [w, .tup rest] ∧ isY (.tup rest) = true ∧ dep (.tup rest) < 9
def iniF : List DV → List DV
  | [w, p] => [w, fixD p]
  | _ => []
abbrev nms : List Str := ["word", "parts"]
abbrev sp_ini (K : Fg) (C : Addr) : Sp := spIni K C 1 nms iniP iniF
abbrev sp_Paper (K : Fg) (cs : Cs) : Sp := spStar 2 (sp_ini K cs.c_Paper)
abbrev sp_Denial (K : Fg) (cs : Cs) : Sp := spStar 2 (sp_ini K cs.c_Denial)
def cl (cs : Cs) : Bool → Addr
  | false => cs.c_Paper
  | true => cs.c_Denial
/-- a paper (or a denial), and another one or a tuple -/
abbrev Two : Type := (Bool × DV × DV) × Option (Bool × DV × DV) × List DV
def twoA (cs : Cs) : Two → List DV
  | ((b, w, p), some (b2, w2, p2), _) => [.ins (cl cs b) nms [w, p], .ins (cl cs b2) nms [w2, p2]]
  | ((b, w, p), none, l) => [.ins (cl cs b) nms [w, p], .tup l]
def twoP : Two → Prop
  | ((b, w, p), some (b2, w2, p2), _) => okP (.tup [w, p]) (.tup [w2, p2]) = true ∧ dep (.tup [w, p]) < 9
  | (_, none, _) => True
def twoR : Two → DV → Prop
  | ((b, w, p), some (b2, w2, p2), _), d => d = .bl (decide (b = b2) && alike (.tup [w, p]) (.tup [w2, p2]))
  | (_, none, _), d => d = .bl false
abbrev sp_eq (K : Fg) (cs : Cs) : Sp := spD K twoP (twoA cs) twoR
def sp_law_pen (K : Fg) (cs : Cs) : Sp := fun vs H Q _ => ∃ (M : Hp) (a : Addr) (ns : List Int), vs = [.ref a] ∧ SqL K H a (ns.map V.int) ∧ ns.length ≤ 100000 ∧ Ex M H ∧
  ∀ p M' H', Ex M M' → Ex H H' → Ex M' H' → M' p = none → H p = none → PenAt K M' H' p 0 → Q (.ref p) H'
def sp_law (K : Fg) (cs : Cs) : Sp := fun vs H Q _ => ∃ (a : Addr) (ns : List Int), vs = [.ref a] ∧ SqL K H a (ns.map V.int) ∧ ns.length ≤ 100000 ∧ ∀ H', Q (.bl true) H'
end K00
namespace K00
open PySem PySem.Spec PyProof.Rows L2 NdefX DL
def t_law_pen (K : Fg) (cs : Cs) : TS :=
    (tRet (tLst (tCons (tLc (iSeq K (tSl (rCut K) (tVar 0) tNoPart (tPart (tC (.int 63))))) (gName 1) tYes (tCB rInt1 (tCons (tVar 1) tNil)) [1]) (tCons (tC (.int 0)) (tCons (tC (.int 0)) tNil)))))
def t_law_draw (K : Fg) (cs : Cs) : TS :=
    (tSeq (tIfS (tTest (tOp rGt (tOp (rIx K) (tVar 0) (tC (.int 2))) (tC (.int 0)))) (tSeq (tAsg (tOp rFmod (tCB rInt1 (tCons (tOp (rIx K) (tVar 0) (tC (.int 2))) tNil)) (tVar 1)) (gName 2))
    (tSeq (tAsg (tOp rFdiv (tCB rInt1 (tCons (tOp (rIx K) (tVar 0) (tC (.int 2))) tNil)) (tVar 1)) (gSub (tVar 0) (tC (.int 2)) rSetL))
    (tRet (tVar 2)))) tNext)
    (tSeq (tAsg (tOp (rIx K) (tVar 0) (tC (.int 1))) (gName 3))
    (tSeq (tAsg (tOp (rPlus K) (tVar 3) (tC (.int 1))) (gSub (tVar 0) (tC (.int 1)) rSetL))
    (tSeq (tAsg (tOp (rPlus K) (tOp (rTimes K) (tC (.int 143001)) (tVar 3)) (tC (.int 15101))) (gName 4))
    (tSeq (tIfS (tTest (tOp (rNeA K) (tOp (rIx K) (tVar 0) (tC (.int 0))) (tLst tNil))) (tAsg (tOp (rIx K) (tOp (rIx K) (tVar 0) (tC (.int 0))) (tOp rFmod (tCB rInt1 (tCons (tVar 3) tNil)) (tCB (rLenA K) (tCons (tOp (rIx K) (tVar 0) (tC (.int 0))) tNil)))) (gName 4)) tNext)
    (tSeq (tIfS (tAnd (tTest (tOp rLt (tVar 3) (tCB (rLenA K) (tCons (tOp (rIx K) (tVar 0) (tC (.int 0))) tNil)))) (tTest (tOp rGe (tCB rAbs (tCons (tVar 4) tNil)) (tOp rPow (tC (.int 10)) (tC (.int 18)))))) (tSeq (tAsg (tOp (rPlus K) (tOp (rTimes K) (tC (.int 2)) (tOp rMinus (tCB rAbs (tCons (tVar 4) tNil)) (tOp rPow (tC (.int 10)) (tC (.int 18))))) (tCB rInt1 (tCons (tOp rLt (tVar 4) (tC (.int 0))) tNil))) (gName 5))
    (tSeq (tAsg (tOp rFdiv (tCB rInt1 (tCons (tVar 5) tNil)) (tVar 1)) (gSub (tVar 0) (tC (.int 2)) rSetL))
    (tRet (tOp rFmod (tCB rInt1 (tCons (tVar 5) tNil)) (tVar 1))))) tNext)
    (tSeq (tAsg (tOp rFmod (tCB rInt1 (tCons (tOp rPow (tOp (rPlus K) (tOp (rPlus K) (tOp rFmod (tCB rInt1 (tCons (tVar 4) tNil)) (tC (.int 2147483549))) (tOp (rTimes K) (tC (.int 143001)) (tVar 3))) (tC (.int 15101))) (tC (.int 5))) tNil)) (tC (.int 2147483629))) (gName 6))
    (tSeq (tAsg (tOp rFmod (tCB rInt1 (tCons (tOp rPow (tOp (rPlus K) (tOp (rPlus K) (tOp (rTimes K) (tVar 6) (tOp (rPlus K) (tOp (rTimes K) (tC (.int 2)) (tVar 3)) (tC (.int 4201)))) (tOp (rTimes K) (tOp (rTimes K) (tC (.int 91003)) (tVar 3)) (tVar 3))) (tC (.int 15101))) (tC (.int 3))) tNil)) (tC (.int 2147483587))) (gName 6))
    (tRet (tOp rFmod (tCB rInt1 (tCons (tOp rFdiv (tVar 6) (tC (.int 64))) tNil)) (tVar 1)))))))))))
def t_law_below (K : Fg) (cs : Cs) : TS :=
    (tSeq (tAsg (tLst (tCons (tCB (rIsB K) (tCons (tVar 0) (tCons (tC (.ref cs.c_BadNumber)) tNil))) (tCons (tCB (rIsB K) (tCons (tVar 0) (tCons (tC (.ref cs.c_BadShape)) tNil))) (tCons (tCB (rIsB K) (tCons (tVar 0) (tCons (tC (.ref cs.c_BadValue)) tNil))) (tCons (tCB (rIsB K) (tCons (tVar 0) (tCons (tC (.ref cs.c_BadText)) tNil))) (tCons (tCB (rIsB K) (tCons (tVar 0) (tCons (tC (.ref cs.c_BadLine)) tNil))) tNil)))))) (gName 2))
    (tSeq (tAsg (tOp (rPlus K) (tVar 2) (tLst (tCons (tCB (rIsB K) (tCons (tVar 0) (tCons (tC (.ref cs.c_Misfit)) tNil))) (tCons (tCB (rIsB K) (tCons (tVar 0) (tCons (tC (.ref cs.c_Nothing)) tNil))) (tCons (tCB (rIsB K) (tCons (tVar 0) (tCons (tC (.ref cs.c_TooMany)) tNil))) tNil))))) (gName 2))
    (tRet (tAndV (tOp (rEqA K) (tVar 2) (tLc (iRng1 (tCons (tC (.int 8)) tNil)) (gName 3) tYes (tOp (rEqA K) (tVar 3) (tVar 1)) [3])) (tAndV (tCB (rIsB K) (tCons (tVar 0) (tCons (tC (.ref cs.c_CutError)) tNil))) (tAndV (tCB (rIsB K) (tCons (tVar 0) (tCons (tC (.ty "ValueError")) tNil))) (tOp (rEqA K) (tLst (tCons (tCB (rIsB K) (tCons (tVar 0) (tCons (tC (.ref cs.c_BadInput)) tNil))) (tCons (tCB (rIsB K) (tCons (tVar 0) (tCons (tC (.ref cs.c_Refused)) tNil))) tNil))) (tLst (tCons (tOp rLt (tVar 1) (tC (.int 5))) (tCons (tOp rGt (tVar 1) (tC (.int 4))) tNil))))))))))
def t_Paper_bool (K : Fg) (cs : Cs) : TS :=
    (tRet (tC (.bl true)))
def t_Denial_bool (K : Fg) (cs : Cs) : TS :=
    (tRet (tC (.bl false)))
def t_law_pick (K : Fg) (cs : Cs) : TS :=
    (tRet (tOp (rIx K) (tVar 1) (tCall (sp_law_draw K cs) [] E0 (tCons (tVar 0) (tCons (tCB (rLenA K) (tCons (tVar 1) tNil)) tNil)))))
def t_law_value (K : Fg) (cs : Cs) : TS :=
    (tSeq (tAsg (tLst (tCons (tTup (tCons (tC (.int 5)) (tCons (tC (.int 5)) tNil))) (tCons (tTup (tCons (tC .non) (tCons (tC .non) tNil))) (tCons (tTup (tCons (tC (.str "half")) (tCons (tC (.str "half")) tNil))) (tCons (tTup (tCons (tC (.bl true)) (tCons (tC (.bl true)) tNil))) (tCons (tTup (tCons (tLst (tCons (tC (.int 1)) (tCons (tLst (tCons (tC (.int 2)) (tCons (tTup tNil) tNil))) tNil))) (tCons (tTup (tCons (tC (.int 1)) (tCons (tTup (tCons (tC (.int 2)) (tCons (tTup tNil) tNil))) tNil))) tNil))) (tCons (tTup (tCons (tTup (tCons (tC (.int 1)) (tCons (tLst (tCons (tC (.int 3)) tNil)) tNil))) (tCons (tTup (tCons (tC (.int 1)) (tCons (tTup (tCons (tC (.int 3)) tNil)) tNil))) tNil))) (tCons (tTup (tCons (tLst tNil) (tCons (tTup tNil) tNil))) (tCons (tTup (tCons (tLst (tCons (tLst (tCons (tC (.str "x")) tNil)) (tCons (tDisp [((tC (.str "a")), (tLst (tCons (tC (.int 1)) tNil)))]) tNil))) (tCons (tTup (tCons (tTup (tCons (tC (.str "x")) tNil)) (tCons (tDisp [((tC (.str "a")), (tLst (tCons (tC (.int 1)) tNil)))]) tNil))) tNil))) tNil))))))))) (gName 1))
    (tRet (tCall (sp_law_pick K cs) [] E0 (tCons (tVar 0) (tCons (tVar 1) tNil)))))
def t_law_errors_right (K : Fg) (cs : Cs) : TS :=
    (tSeq (tPar 1 2 (tCons (tOp (rIx K) (tCall (sp_law_value K cs) [] E0 (tCons (tVar 0) tNil)) (tC (.int 0))) (tCons (tOp (rIx K) (tCall (sp_law_value K cs) [] E0 (tCons (tVar 0) tNil)) (tC (.int 0))) tNil)))
    (tSeq (tAsg (tLst (tCons (tMkX cs.c_BadNumber 0 1 (spErr cs.c_BadNumber ["part"]) (perm (0 :: List.map (· + 1) [0])) E0 tNil (tCons (tVar 1) tNil)) (tCons (tMkX cs.c_BadShape 0 1 (spErr cs.c_BadShape ["part"]) (perm (0 :: List.map (· + 1) [0])) E0 tNil (tCons (tVar 1) tNil)) (tCons (tMkX cs.c_BadValue 1 0 (spErr cs.c_BadValue ["part"]) (perm (0 :: List.map (· + 1) [0])) E0 (tCons (tVar 1) tNil) tNil) (tCons (tMkX cs.c_BadText 0 2 (spErr cs.c_BadText ["line", "word"]) (perm (0 :: List.map (· + 1) [1, 0])) E0 tNil (tCons (tVar 2) (tCons (tVar 1) tNil))) (tCons (tMkX cs.c_BadLine 0 1 (spErr cs.c_BadLine ["word"]) (perm (0 :: List.map (· + 1) [0])) E0 tNil (tCons (tVar 1) tNil)) (tCons (tMkX cs.c_Misfit 0 1 (spErr cs.c_Misfit ["part"]) (perm (0 :: List.map (· + 1) [0])) E0 tNil (tCons (tVar 1) tNil)) (tCons (tMkX cs.c_Nothing 1 0 (spErr cs.c_Nothing ["part"]) (perm (0 :: List.map (· + 1) [0])) E0 (tCons (tVar 1) tNil) tNil) (tCons (tMkX cs.c_TooMany 0 2 (spErr cs.c_TooMany ["what", "most"]) (perm (0 :: List.map (· + 1) [1, 0])) E0 tNil (tCons (tVar 2) (tCons (tVar 1) tNil))) tNil))))))))) (gName 3))
    (tSeq (tAsg (tLst (tCons (tAtt K (tOp (rIx K) (tVar 3) (tC (.int 0))) "part") (tCons (tAtt K (tOp (rIx K) (tVar 3) (tC (.int 1))) "part") (tCons (tAtt K (tOp (rIx K) (tVar 3) (tC (.int 2))) "part") (tCons (tAtt K (tOp (rIx K) (tVar 3) (tC (.int 3))) "line") (tCons (tAtt K (tOp (rIx K) (tVar 3) (tC (.int 4))) "word") (tCons (tAtt K (tOp (rIx K) (tVar 3) (tC (.int 5))) "part") (tCons (tAtt K (tOp (rIx K) (tVar 3) (tC (.int 6))) "part") (tCons (tAtt K (tOp (rIx K) (tVar 3) (tC (.int 7))) "what") tNil))))))))) (gName 4))
    (tSeq (tIfS (tOr (tTest (tOp (rNeA K) (tCB (rRepr2 K) (tCons (tVar 4) tNil)) (tCB (rRepr2 K) (tCons (tOp (rTimes K) (tLst (tCons (tVar 1) tNil)) (tC (.int 8))) tNil)))) (tTest (tOp (rNeA K) (tCB (rRepr2 K) (tCons (tLst (tCons (tAtt K (tOp (rIx K) (tVar 3) (tC (.int 3))) "word") (tCons (tAtt K (tOp (rIx K) (tVar 3) (tC (.int 7))) "most") tNil))) tNil)) (tCB (rRepr2 K) (tCons (tLst (tCons (tVar 2) (tCons (tVar 2) tNil))) tNil))))) (tRet (tC (.bl false))) tNext)
    (tRet (tOp (rEqA K) (tLc (iEnum K (tCons (tVar 3) tNil)) (gTup K 2 (gCons (gName 5) (gCons (gName 6) gNil))) (tNot (tTru K (tCall (sp_law_below K cs) [] E0 (tCons (tVar 6) (tCons (tVar 5) tNil))))) (tVar 5) [5, 6]) (tLst tNil)))))))
def t_fixed (K : Fg) (cs : Cs) (n : Nat) : TS :=
    (tSeq (tIfS (tTru K (tCB (rIsA K) (tCons (tVar 0) (tCons (tTup (tCons (tC (.ty "list")) (tCons (tC (.ty "tuple")) tNil))) tNil)))) (tRet (tCB (rTupOf K) (tCons (tLc (iSeq K (tVar 0)) (gName 1) tYes (tCall (spR_fixed K cs n) [] E0 (tCons (tVar 1) tNil)) [1]) tNil))) tNext)
    (tRet (tVar 0)))
def t_are_like (K : Fg) (cs : Cs) (n : Nat) : TS :=
    (tSeq (tIfS (tAnd (tTru K (tCB (rIsA K) (tCons (tVar 0) (tCons (tC (.ty "tuple")) tNil)))) (tTru K (tCB (rIsA K) (tCons (tVar 1) (tCons (tC (.ty "tuple")) tNil))))) (tRet (tAndV (tOp (rEqB K) (tCB (rLenA K) (tCons (tVar 0) tNil)) (tCB (rLenA K) (tCons (tVar 1) tNil))) (tCB (rAll K) (tCons (tLc (iZipB K (tCons (tVar 0) (tCons (tVar 1) tNil))) (gTup K 2 (gCons (gName 2) (gCons (gName 3) gNil))) tYes (tCall (spR_are_like K cs n) [] E0 (tCons (tVar 2) (tCons (tVar 3) tNil))) [2, 3]) tNil)))) tNext)
    (tSeq (tIfS (tTest (tOp (rNeA K) (tCB (rIsA K) (tCons (tVar 0) (tCons (tC (.ty "bool")) tNil))) (tCB (rIsA K) (tCons (tVar 1) (tCons (tC (.ty "bool")) tNil))))) (tRet (tC (.bl false))) tNext)
    (tRet (tCB rBool (tCons (tOp (rEqB K) (tVar 0) (tVar 1)) tNil)))))
def t_Paper_init (K : Fg) (cs : Cs) : TS :=
    (tSeq (sFld K (tVar 0) (tVar 1) "word")
    (sFld K (tVar 0) (tCall (sp_fixed K cs) [] E0 (tCons (tVar 2) tNil)) "parts"))
def t_Paper_eq (K : Fg) (cs : Cs) : TS :=
    (tSeq (tIfS (tOr (tNot (tTru K (tCB (rIsB K) (tCons (tVar 1) (tCons (tC (.ref cs.c_Paper)) tNil))))) (tTest (tOp (rNeA K) (tCN K (tVar 0)) (tCN K (tVar 1))))) (tRet (tC (.bl false))) tNext)
    (tRet (tCall (sp_are_like K cs) [] E0 (tCons (tTup (tCons (tAtt K (tVar 0) "word") (tCons (tAtt K (tVar 0) "parts") tNil))) (tCons (tTup (tCons (tAtt K (tVar 1) "word") (tCons (tAtt K (tVar 1) "parts") tNil))) tNil)))))
def t_law (K : Fg) (cs : Cs) : TS :=
    (tSeq (tAsg (tCall (sp_law_pen K cs) [] E0 (tCons (tVar 0) tNil)) (gName 1))
    (tSeq (tFor (iRng1 (tCons (tC (.int 6)) tNil)) (gName 2) (tSeq (tIfS (tNot (tTru K (tCall (sp_law_errors_right K cs) [] E0 (tCons (tVar 1) tNil)))) (tRet (tC (.bl false))) tNext)
    (tSeq (tAsg (tTup (tCons (tCall (sp_law_value K cs) [] E0 (tCons (tVar 1) tNil)) (tCons (tCall (sp_law_value K cs) [] E0 (tCons (tVar 1) tNil)) tNil))) (gTup K 2 (gCons (gTup K 2 (gCons (gName 3) (gCons (gName 4) gNil))) (gCons (gTup K 2 (gCons (gName 5) (gCons (gName 6) gNil))) gNil))))
    (tSeq (tPar 7 8 (tCons (tMakeS cs.c_Paper (sp_Paper K cs) (tCons (tC (.str "met")) (tCons (tVar 3) (tCons (tVar 5) tNil)))) (tCons (tMakeS cs.c_Denial (sp_Denial K cs) (tCons (tC (.str "met")) (tCons (tVar 3) (tCons (tVar 5) tNil)))) tNil)))
    (tSeq (tIfS (tTest (tOp (rNeO K cs.f_eq (sp_eq K cs)) (tCB (rRepr2 K) (tCons (tLst (tCons (tCall (sp_fixed K cs) [] E0 (tCons (tVar 3) tNil)) (tCons (tCallM 0 1 (sp_fixed K cs) (perm [0]) E0 tNil (tCons (tVar 5) tNil)) (tCons (tAtt K (tVar 7) "word") (tCons (tAtt K (tVar 7) "parts") (tCons (tAtt K (tVar 8) "parts") tNil)))))) tNil)) (tCB (rRepr2 K) (tCons (tLst (tCons (tVar 4) (tCons (tVar 6) (tCons (tC (.str "met")) (tCons (tTup (tCons (tVar 4) (tCons (tVar 6) tNil))) (tCons (tTup (tCons (tVar 4) (tCons (tVar 6) tNil))) tNil)))))) tNil)))) (tRet (tC (.bl false))) tNext)
    (tSeq (tIfS (tOr (tTest (tOp (rNeO K cs.f_eq (sp_eq K cs)) (tVar 7) (tMakeS cs.c_Paper (sp_Paper K cs) (tCons (tC (.str "met")) (tCons (tVar 4) (tCons (tVar 6) tNil)))))) (tOr (tNot (tTest (tOp (rEqO K cs.f_eq (sp_eq K cs)) (tVar 7) (tMakeS cs.c_Paper (sp_Paper K cs) (tCons (tC (.str "met")) (tCons (tVar 4) (tCons (tVar 6) tNil))))))) (tOr (tTest (tOp (rEqO K cs.f_eq (sp_eq K cs)) (tVar 7) (tVar 8))) (tOr (tTest (tOp (rEqO K cs.f_eq (sp_eq K cs)) (tVar 7) (tMakeS cs.c_Paper (sp_Paper K cs) (tCons (tC (.str "chart")) (tCons (tVar 4) (tCons (tVar 6) tNil)))))) (tOr (tTest (tOp (rEqO K cs.f_eq (sp_eq K cs)) (tVar 7) (tTup (tCons (tVar 4) (tCons (tVar 6) tNil))))) (tOr (tNot (tTruB K (TB cs) (tVar 7))) (tTruB K (TB cs) (tVar 8)))))))) (tRet (tC (.bl false))) tNext)
    (tSeq (tIfS (tOr (tNot (tTru K (tCB (rIsB K) (tCons (tVar 8) (tCons (tC (.ref cs.c_Paper)) tNil))))) (tOr (tTru K (tCB (rIsB K) (tCons (tVar 7) (tCons (tC (.ref cs.c_Denial)) tNil)))) (tOr (tTest (tOp (rEqO K cs.f_eq (sp_eq K cs)) (tMakeS cs.c_Paper (sp_Paper K cs) (tCons (tC (.str "met")) (tCons (tC (.int 1)) tNil))) (tMakeS cs.c_Paper (sp_Paper K cs) (tCons (tC (.str "met")) (tCons (tC (.bl true)) tNil))))) (tOr (tTest (tOp (rEqO K cs.f_eq (sp_eq K cs)) (tMakeS cs.c_Paper (sp_Paper K cs) (tCons (tC (.str "met")) (tCons (tTup (tCons (tC (.int 0)) (tCons (tLst (tCons (tC (.int 1)) tNil)) tNil))) tNil))) (tMakeS cs.c_Paper (sp_Paper K cs) (tCons (tC (.str "met")) (tCons (tLst (tCons (tC (.int 0)) (tCons (tTup (tCons (tC (.bl true)) tNil)) tNil))) tNil))))) (tTest (tOp (rNeO K cs.f_eq (sp_eq K cs)) (tMakeS cs.c_Paper (sp_Paper K cs) (tCons (tC (.str "met")) (tCons (tLst (tCons (tC (.int 0)) (tCons (tC (.int 1)) tNil))) tNil))) (tMakeS cs.c_Paper (sp_Paper K cs) (tCons (tC (.str "met")) (tCons (tTup (tCons (tC (.int 0)) (tCons (tC (.int 1)) tNil))) tNil))))))))) (tRet (tC (.bl false))) tNext)
    (tIfS (tOr (tTest (tOp (rNeO K cs.f_eq (sp_eq K cs)) (tMakeS cs.c_Denial (sp_Denial K cs) (tCons (tC (.str "met")) (tCons (tVar 3) tNil))) (tMakeS cs.c_Denial (sp_Denial K cs) (tCons (tC (.str "met")) (tCons (tVar 4) tNil))))) (tOr (tTest (tOp (rEqO K cs.f_eq (sp_eq K cs)) (tMakeS cs.c_Paper (sp_Paper K cs) (tCons (tC (.str "met")) (tCons (tVar 3) (tCons (tC (.int 3)) tNil)))) (tMakeS cs.c_Paper (sp_Paper K cs) (tCons (tC (.str "met")) (tCons (tVar 3) (tCons (tC (.int 4)) tNil)))))) (tTest (tOp (rEqO K cs.f_eq (sp_eq K cs)) (tMakeS cs.c_Paper (sp_Paper K cs) (tCons (tC (.str "met")) (tCons (tVar 3) tNil))) (tMakeS cs.c_Paper (sp_Paper K cs) (tCons (tC (.str "met")) (tCons (tVar 3) (tCons (tVar 3) tNil)))))))) (tRet (tC (.bl false))) tNext))))))))
    (tSeq (tAsg (tLst (tCons (tC (.int 1)) (tCons (tLst (tCons (tC (.int 2)) tNil)) tNil))) (gName 9))
    (tSeq (tAsg (tMakeS cs.c_Paper (sp_Paper K cs) (tCons (tC (.str "met")) (tCons (tVar 9) tNil))) (gName 10))
    (tSeq (tDrop (tBM K "list" rAppend (tOp (rIx K) (tVar 9) (tC (.int 1))) (tCons (tC (.int 3)) tNil)))
    (tRet (tOp (rEqO K cs.f_eq (sp_eq K cs)) (tAtt K (tVar 10) "parts") (tTup (tCons (tTup (tCons (tC (.int 1)) (tCons (tTup (tCons (tC (.int 2)) tNil)) tNil))) tNil)))))))))
theorem d_law_pen {P : Program} {w : World} {K : Fg} {mg : Str → Option Value} {base : Heap} {cs : Cs} (T : Txt P K mg base cs)  {f : Addr} {cdv : Value} {A : Around} {outer : List Env} {s : Shared} {H : Hp} {E : XK} (hr : Room 0 (A.deeper (envOfC "_law_pen" (defScope s_law_pen) s.heap.objs.size f cdv))) (hG : A.guards = some []) :
    PSs (cxOf CX0 P w K mg base N_law_pen "_law_pen" (defScope s_law_pen) f cdv A outer s H E).nox (defBody s_law_pen) (t_law_pen K cs) := by
  have nd : N_law_pen.Nodup := sc_law_pen.nd
  exact (pss_one (ps_ret (pe_lst (pa_cons (pe_lc (own := [("cell", 1)]) rfl nd (pi_seq (pe_slice sl_cut (pv 0) po_none (po_some pe_int))) (blkOk_by (own := [("cell", 1)]) (N := N_law_pen) (sc := defScope s_law_pen) (by decide +kernel)) (fun _ _ _ _ _ => (pg_name (i := 1) nd rfl (Or.inl rfl))) (fun _ _ _ _ _ => pts_nil) (fun _ _ _ _ _ => (pe_callTy cr_int1 (by rfl) T.n_int (by decide +kernel) (pa_cons (pv 1) pa_nil)))) (pa_cons pe_int (pa_cons pe_int pa_nil))))))
theorem d_law_draw {P : Program} {w : World} {K : Fg} {mg : Str → Option Value} {base : Heap} {cs : Cs} (T : Txt P K mg base cs)  {f : Addr} {cdv : Value} {A : Around} {outer : List Env} {s : Shared} {H : Hp} {E : XK} (hr : Room 0 (A.deeper (envOfC "_law_draw" (defScope s_law_draw) s.heap.objs.size f cdv))) (hG : A.guards = some []) :
    PSs (cxOf CX0 P w K mg base N_law_draw "_law_draw" (defScope s_law_draw) f cdv A outer s H E).nox (defBody s_law_draw) (t_law_draw K cs) := by
  have nd : N_law_draw.Nodup := sc_law_draw.nd
  exact (pss_cons (ps_if (pt_cmpR op_gtA (pe_ix ix_seq (pv 0) pe_int (fun _ _ => rfl)) pe_int (nomark _)) (pss_cons (ps_set (i := 2) nd rfl (Or.inl rfl) (pe_op op_fmodA (pe_callTy cr_int1 (by rfl) T.n_int (by decide +kernel) (pa_cons (pe_ix ix_seq (pv 0) pe_int (fun _ _ => rfl)) pa_nil)) (pv 1)))
      (pss_cons (ps_asg (pe_op op_fdivA (pe_callTy cr_int1 (by rfl) T.n_int (by decide +kernel) (pa_cons (pe_ix ix_seq (pv 0) pe_int (fun _ _ => rfl)) pa_nil)) (pv 1)) (pg_sub (pv 0) pe_int set_list))
      (pss_one (ps_ret (pv 2))))) pss_nil)
      (pss_cons (ps_set (i := 3) nd rfl (Or.inl rfl) (pe_ix ix_seq (pv 0) pe_int (fun _ _ => rfl)))
      (pss_cons (ps_asg (pe_op op_plus (pv 3) pe_int) (pg_sub (pv 0) pe_int set_list))
      (pss_cons (ps_set (i := 4) nd rfl (Or.inl rfl) (pe_op op_plus (pe_op op_times pe_int (pv 3)) pe_int))
      (pss_cons (ps_if (pt_cmpR (op_neA hr.units) (pe_ix ix_seq (pv 0) pe_int (fun _ _ => rfl)) (pe_lst pa_nil) (nomark _)) (pss_one (ps_set (i := 4) nd rfl (Or.inl rfl) (pe_ix ix_seq (pe_ix ix_seq (pv 0) pe_int (fun _ _ => rfl)) (pe_op op_fmodA (pe_callTy cr_int1 (by rfl) T.n_int (by decide +kernel) (pa_cons (pv 3) pa_nil)) (pe_callB cr_len (by rfl) T.n_len (by decide +kernel) (pa_cons (pe_ix ix_seq (pv 0) pe_int (fun _ _ => rfl)) pa_nil))) (fun _ _ => rfl)))) pss_nil)
      (pss_cons (ps_if (PW.pt (pw_and (pt_cmpR op_ltA (pv 3) (pe_callB cr_len (by rfl) T.n_len (by decide +kernel) (pa_cons (pe_ix ix_seq (pv 0) pe_int (fun _ _ => rfl)) pa_nil)) (nomark _)) (pw_and1 (pt_cmpR op_geA (pe_callB cr_abs (by rfl) T.n_abs (by decide +kernel) (pa_cons (pv 4) pa_nil)) (pe_op op_powA pe_int pe_int) (nomark _))))) (pss_cons (ps_set (i := 5) nd rfl (Or.inl rfl) (pe_op op_plus (pe_op op_times pe_int (pe_op op_minus (pe_callB cr_abs (by rfl) T.n_abs (by decide +kernel) (pa_cons (pv 4) pa_nil)) (pe_op op_powA pe_int pe_int))) (pe_callTy cr_int1 (by rfl) T.n_int (by decide +kernel) (pa_cons (pe_cmpR op_ltA (pv 4) pe_int (nomark _)) pa_nil))))
      (pss_cons (ps_asg (pe_op op_fdivA (pe_callTy cr_int1 (by rfl) T.n_int (by decide +kernel) (pa_cons (pv 5) pa_nil)) (pv 1)) (pg_sub (pv 0) pe_int set_list))
      (pss_one (ps_ret (pe_op op_fmodA (pe_callTy cr_int1 (by rfl) T.n_int (by decide +kernel) (pa_cons (pv 5) pa_nil)) (pv 1)))))) pss_nil)
      (pss_cons (ps_set (i := 6) nd rfl (Or.inl rfl) (pe_op op_fmodA (pe_callTy cr_int1 (by rfl) T.n_int (by decide +kernel) (pa_cons (pe_op op_powA (pe_op op_plus (pe_op op_plus (pe_op op_fmodA (pe_callTy cr_int1 (by rfl) T.n_int (by decide +kernel) (pa_cons (pv 4) pa_nil)) pe_int) (pe_op op_times pe_int (pv 3))) pe_int) pe_int) pa_nil)) pe_int))
      (pss_cons (ps_set (i := 6) nd rfl (Or.inl rfl) (pe_op op_fmodA (pe_callTy cr_int1 (by rfl) T.n_int (by decide +kernel) (pa_cons (pe_op op_powA (pe_op op_plus (pe_op op_plus (pe_op op_times (pv 6) (pe_op op_plus (pe_op op_times pe_int (pv 3)) pe_int)) (pe_op op_times (pe_op op_times pe_int (pv 3)) (pv 3))) pe_int) pe_int) pa_nil)) pe_int))
      (pss_one (ps_ret (pe_op op_fmodA (pe_callTy cr_int1 (by rfl) T.n_int (by decide +kernel) (pa_cons (pe_op op_fdivA (pv 6) pe_int) pa_nil)) (pv 1))))))))))))
theorem d_law_below {P : Program} {w : World} {K : Fg} {mg : Str → Option Value} {base : Heap} {cs : Cs} (T : Txt P K mg base cs)  {f : Addr} {cdv : Value} {A : Around} {outer : List Env} {s : Shared} {H : Hp} {E : XK} (hr : Room 0 (A.deeper (envOfC "_law_below" (defScope s_law_below) s.heap.objs.size f cdv))) (hG : A.guards = some []) :
    PSs (cxOf CX0 P w K mg base N_law_below "_law_below" (defScope s_law_below) f cdv A outer s H E).nox (defBody s_law_below) (t_law_below K cs) := by
  have nd : N_law_below.Nodup := sc_law_below.nd
  exact (pss_cons (ps_set (i := 2) nd rfl (Or.inl rfl) (pe_lst (pa_cons (pe_callB cr_isB (by rfl) T.n_isinstance (by decide +kernel) (pa_cons (pv 0) (pa_cons (pe_glob (v := .ref _) (by rfl) T.m_BadNumber rfl) pa_nil))) (pa_cons (pe_callB cr_isB (by rfl) T.n_isinstance (by decide +kernel) (pa_cons (pv 0) (pa_cons (pe_glob (v := .ref _) (by rfl) T.m_BadShape rfl) pa_nil))) (pa_cons (pe_callB cr_isB (by rfl) T.n_isinstance (by decide +kernel) (pa_cons (pv 0) (pa_cons (pe_glob (v := .ref _) (by rfl) T.m_BadValue rfl) pa_nil))) (pa_cons (pe_callB cr_isB (by rfl) T.n_isinstance (by decide +kernel) (pa_cons (pv 0) (pa_cons (pe_glob (v := .ref _) (by rfl) T.m_BadText rfl) pa_nil))) (pa_cons (pe_callB cr_isB (by rfl) T.n_isinstance (by decide +kernel) (pa_cons (pv 0) (pa_cons (pe_glob (v := .ref _) (by rfl) T.m_BadLine rfl) pa_nil))) pa_nil)))))))
      (pss_cons (ps_set (i := 2) nd rfl (Or.inl rfl) (pe_op op_plus (pv 2) (pe_lst (pa_cons (pe_callB cr_isB (by rfl) T.n_isinstance (by decide +kernel) (pa_cons (pv 0) (pa_cons (pe_glob (v := .ref _) (by rfl) T.m_Misfit rfl) pa_nil))) (pa_cons (pe_callB cr_isB (by rfl) T.n_isinstance (by decide +kernel) (pa_cons (pv 0) (pa_cons (pe_glob (v := .ref _) (by rfl) T.m_Nothing rfl) pa_nil))) (pa_cons (pe_callB cr_isB (by rfl) T.n_isinstance (by decide +kernel) (pa_cons (pv 0) (pa_cons (pe_glob (v := .ref _) (by rfl) T.m_TooMany rfl) pa_nil))) pa_nil))))))
      (pss_one (ps_ret (pe_and (pe_cmpR (op_eqA hr.units) (pv 2) (pe_lc (own := [("at", 3)]) rfl nd (pi_range1 rfl T.n_range (pa_cons pe_int pa_nil)) (blkOk_by (own := [("at", 3)]) (N := N_law_below) (sc := defScope s_law_below) (by decide +kernel)) (fun _ _ _ _ _ => (pg_name (i := 3) nd rfl (Or.inl rfl))) (fun _ _ _ _ _ => pts_nil) (fun _ _ _ _ _ => (pe_cmpR (op_eqA hr.units) (pv 3) (pv 1) (nomark _)))) (nomark _)) (pe_and (pe_callB cr_isB (by rfl) T.n_isinstance (by decide +kernel) (pa_cons (pv 0) (pa_cons (pe_glob (v := .ref _) (by rfl) T.m_CutError rfl) pa_nil))) (pe_and (pe_callB cr_isB (by rfl) T.n_isinstance (by decide +kernel) (pa_cons (pv 0) (pa_cons (pe_bltn (v := .ty "ValueError") (by rfl) T.n_ValueError (by decide +kernel) rfl) pa_nil))) (pe_one (pe_cmpR (op_eqA hr.units) (pe_lst (pa_cons (pe_callB cr_isB (by rfl) T.n_isinstance (by decide +kernel) (pa_cons (pv 0) (pa_cons (pe_glob (v := .ref _) (by rfl) T.m_BadInput rfl) pa_nil))) (pa_cons (pe_callB cr_isB (by rfl) T.n_isinstance (by decide +kernel) (pa_cons (pv 0) (pa_cons (pe_glob (v := .ref _) (by rfl) T.m_Refused rfl) pa_nil))) pa_nil))) (pe_lst (pa_cons (pe_cmpR op_ltA (pv 1) pe_int (nomark _)) (pa_cons (pe_cmpR op_gtA (pv 1) pe_int (nomark _)) pa_nil))) (nomark _))))))))))
theorem d_Paper_bool {P : Program} {w : World} {K : Fg} {mg : Str → Option Value} {base : Heap} {cs : Cs} (T : Txt P K mg base cs)  {f : Addr} {cdv : Value} {A : Around} {outer : List Env} {s : Shared} {H : Hp} {E : XK} (hr : Room 0 (A.deeper (envOfC "Paper.__bool__" (defScope s_Paper_bool) s.heap.objs.size f cdv))) (hG : A.guards = some []) :
    PSs (cxOf CX0 P w K mg base N_Paper_bool "Paper.__bool__" (defScope s_Paper_bool) f cdv A outer s H E).nox (defBody s_Paper_bool) (t_Paper_bool K cs) := by
  have nd : N_Paper_bool.Nodup := sc_Paper_bool.nd
  exact (pss_one (ps_ret pe_bl))
theorem d_Denial_bool {P : Program} {w : World} {K : Fg} {mg : Str → Option Value} {base : Heap} {cs : Cs} (T : Txt P K mg base cs)  {f : Addr} {cdv : Value} {A : Around} {outer : List Env} {s : Shared} {H : Hp} {E : XK} (hr : Room 0 (A.deeper (envOfC "Denial.__bool__" (defScope s_Denial_bool) s.heap.objs.size f cdv))) (hG : A.guards = some []) :
    PSs (cxOf CX0 P w K mg base N_Denial_bool "Denial.__bool__" (defScope s_Denial_bool) f cdv A outer s H E).nox (defBody s_Denial_bool) (t_Denial_bool K cs) := by
  have nd : N_Denial_bool.Nodup := sc_Denial_bool.nd
  exact (pss_one (ps_ret pe_bl))
theorem d_law_pick {P : Program} {w : World} {K : Fg} {mg : Str → Option Value} {base : Heap} {cs : Cs} (T : Txt P K mg base cs) (h_law_draw : Has P w K mg base 1 "_law_draw" s_law_draw P_law_draw (sp_law_draw K cs)) {f : Addr} {cdv : Value} {A : Around} {outer : List Env} {s : Shared} {H : Hp} {E : XK} (hr : Room 1 (A.deeper (envOfC "_law_pick" (defScope s_law_pick) s.heap.objs.size f cdv))) (hG : A.guards = some []) :
    PSs (cxOf CX0 P w K mg base N_law_pick "_law_pick" (defScope s_law_pick) f cdv A outer s H E).nox (defBody s_law_pick) (t_law_pick K cs) := by
  have nd : N_law_pick.Nodup := sc_law_pick.nd
  exact (pss_one (ps_ret (pe_ix ix_seq (pv 1) (pe_callH h_law_draw hr (by decide) hG (pa_cons (pv 0) (pa_cons (pe_callB cr_len (by rfl) T.n_len (by decide +kernel) (pa_cons (pv 1) pa_nil)) pa_nil))) (fun _ _ => rfl))))
theorem d_law_value {P : Program} {w : World} {K : Fg} {mg : Str → Option Value} {base : Heap} {cs : Cs} (T : Txt P K mg base cs) (h_law_pick : Has P w K mg base 2 "_law_pick" s_law_pick P_law_pick (sp_law_pick K cs)) {f : Addr} {cdv : Value} {A : Around} {outer : List Env} {s : Shared} {H : Hp} {E : XK} (hr : Room 2 (A.deeper (envOfC "_law_value" (defScope s_law_value) s.heap.objs.size f cdv))) (hG : A.guards = some []) :
    PSs (cxOf CX0 P w K mg base N_law_value "_law_value" (defScope s_law_value) f cdv A outer s H E).nox (defBody s_law_value) (t_law_value K cs) := by
  have nd : N_law_value.Nodup := sc_law_value.nd
  exact (pss_cons (ps_set (i := 1) nd rfl (Or.inl rfl) (pe_lst (pa_cons (pe_tup (pa_cons pe_int (pa_cons pe_int pa_nil))) (pa_cons (pe_tup (pa_cons pe_non (pa_cons pe_non pa_nil))) (pa_cons (pe_tup (pa_cons pe_str (pa_cons pe_str pa_nil))) (pa_cons (pe_tup (pa_cons pe_bl (pa_cons pe_bl pa_nil))) (pa_cons (pe_tup (pa_cons (pe_lst (pa_cons pe_int (pa_cons (pe_lst (pa_cons pe_int (pa_cons (pe_tup pa_nil) pa_nil))) pa_nil))) (pa_cons (pe_tup (pa_cons pe_int (pa_cons (pe_tup (pa_cons pe_int (pa_cons (pe_tup pa_nil) pa_nil))) pa_nil))) pa_nil))) (pa_cons (pe_tup (pa_cons (pe_tup (pa_cons pe_int (pa_cons (pe_lst (pa_cons pe_int pa_nil)) pa_nil))) (pa_cons (pe_tup (pa_cons pe_int (pa_cons (pe_tup (pa_cons pe_int pa_nil)) pa_nil))) pa_nil))) (pa_cons (pe_tup (pa_cons (pe_lst pa_nil) (pa_cons (pe_tup pa_nil) pa_nil))) (pa_cons (pe_tup (pa_cons (pe_lst (pa_cons (pe_lst (pa_cons pe_str pa_nil)) (pa_cons (pe_disp (pps_cons pe_str (pe_lst (pa_cons pe_int pa_nil)) pps_nil) rfl rfl (by intro z; cases z) (by decide)) pa_nil))) (pa_cons (pe_tup (pa_cons (pe_tup (pa_cons pe_str pa_nil)) (pa_cons (pe_disp (pps_cons pe_str (pe_lst (pa_cons pe_int pa_nil)) pps_nil) rfl rfl (by intro z; cases z) (by decide)) pa_nil))) pa_nil))) pa_nil))))))))))
      (pss_one (ps_ret (pe_callH h_law_pick hr (by decide) hG (pa_cons (pv 0) (pa_cons (pv 1) pa_nil))))))
theorem d_law_errors_right {P : Program} {w : World} {K : Fg} {mg : Str → Option Value} {base : Heap} {cs : Cs} (T : Txt P K mg base cs) (h_law_value : Has P w K mg base 3 "_law_value" s_law_value P_law_value (sp_law_value K cs)) (h_law_below : Has P w K mg base 1 "_law_below" s_law_below P_law_below (sp_law_below K cs)) (h_BadLine : HasE P w K mg base 1 s_BadLine_init cs.c_BadLine ["word"]) (h_BadNumber : HasE P w K mg base 1 s_BadNumber_init cs.c_BadNumber ["part"]) (h_BadShape : HasE P w K mg base 1 s_BadShape_init cs.c_BadShape ["part"]) (h_BadText : HasE P w K mg base 1 s_BadText_init cs.c_BadText ["line", "word"]) (h_BadValue : HasE P w K mg base 1 s_BadValue_init cs.c_BadValue ["part"]) (h_Misfit : HasE P w K mg base 1 s_Misfit_init cs.c_Misfit ["part"]) (h_Nothing : HasE P w K mg base 1 s_Nothing_init cs.c_Nothing ["part"]) (h_TooMany : HasE P w K mg base 1 s_TooMany_init cs.c_TooMany ["what", "most"]) {f : Addr} {cdv : Value} {A : Around} {outer : List Env} {s : Shared} {H : Hp} {E : XK} (hr : Room 3 (A.deeper (envOfC "_law_errors_right" (defScope s_law_errors_right) s.heap.objs.size f cdv))) (hG : A.guards = some []) :
    PSs (cxOf CX0 P w K mg base N_law_errors_right "_law_errors_right" (defScope s_law_errors_right) f cdv A outer s H E).nox (defBody s_law_errors_right) (t_law_errors_right K cs) := by
  have nd : N_law_errors_right.Nodup := sc_law_errors_right.nd
  exact (pss_cons (ps_par (i := 1) (j := 2) rfl nd rfl rfl (by decide) rfl rfl (pa_cons (pe_ix ix_seq (pe_callH h_law_value hr (by decide) hG (pa_cons (pv 0) pa_nil)) pe_int (fun _ _ => rfl)) (pa_cons (pe_ix ix_seq (pe_callH h_law_value hr (by decide) hG (pa_cons (pv 0) pa_nil)) pe_int (fun _ _ => rfl)) pa_nil)) (by rfl))
      (pss_cons (ps_set (i := 3) nd rfl (Or.inl rfl) (pe_lst (pa_cons (pe_mkE0 (ix := [0]) (ks := ["part"]) h_BadNumber kwc_BadNumber_0_part hr (by decide) T.m_BadNumber (pk_cons (pv 1) pk_nil)) (pa_cons (pe_mkE0 (ix := [0]) (ks := ["part"]) h_BadShape kwc_BadShape_0_part hr (by decide) T.m_BadShape (pk_cons (pv 1) pk_nil)) (pa_cons (pe_mkE (ix := [0]) (nn := 1) h_BadValue kwc_BadValue_1_ hr (by decide) T.m_BadValue (by decide) (pa_cons (pv 1) pa_nil)) (pa_cons (pe_mkE0 (ix := [1, 0]) (ks := ["word", "line"]) h_BadText kwc_BadText_0_word_line hr (by decide) T.m_BadText (pk_cons (pv 2) (pk_cons (pv 1) pk_nil))) (pa_cons (pe_mkE0 (ix := [0]) (ks := ["word"]) h_BadLine kwc_BadLine_0_word hr (by decide) T.m_BadLine (pk_cons (pv 1) pk_nil)) (pa_cons (pe_mkE0 (ix := [0]) (ks := ["part"]) h_Misfit kwc_Misfit_0_part hr (by decide) T.m_Misfit (pk_cons (pv 1) pk_nil)) (pa_cons (pe_mkE (ix := [0]) (nn := 1) h_Nothing kwc_Nothing_1_ hr (by decide) T.m_Nothing (by decide) (pa_cons (pv 1) pa_nil)) (pa_cons (pe_mkE0 (ix := [1, 0]) (ks := ["most", "what"]) h_TooMany kwc_TooMany_0_most_what hr (by decide) T.m_TooMany (pk_cons (pv 2) (pk_cons (pv 1) pk_nil))) pa_nil))))))))))
      (pss_cons (ps_set (i := 4) nd rfl (Or.inl rfl) (pe_lst (pa_cons (pe_att (pe_ix ix_seq (pv 3) pe_int (fun _ _ => rfl))) (pa_cons (pe_att (pe_ix ix_seq (pv 3) pe_int (fun _ _ => rfl))) (pa_cons (pe_att (pe_ix ix_seq (pv 3) pe_int (fun _ _ => rfl))) (pa_cons (pe_att (pe_ix ix_seq (pv 3) pe_int (fun _ _ => rfl))) (pa_cons (pe_att (pe_ix ix_seq (pv 3) pe_int (fun _ _ => rfl))) (pa_cons (pe_att (pe_ix ix_seq (pv 3) pe_int (fun _ _ => rfl))) (pa_cons (pe_att (pe_ix ix_seq (pv 3) pe_int (fun _ _ => rfl))) (pa_cons (pe_att (pe_ix ix_seq (pv 3) pe_int (fun _ _ => rfl))) pa_nil))))))))))
      (pss_cons (ps_if (PW.pt (pw_or (pt_cmpR (op_neA hr.units) (pe_callB (cr_repr2 T.sysm hG hr.units) (by rfl) T.n_repr (by decide +kernel) (pa_cons (pv 4) pa_nil)) (pe_callB (cr_repr2 T.sysm hG hr.units) (by rfl) T.n_repr (by decide +kernel) (pa_cons (pe_op op_times (pe_lst (pa_cons (pv 1) pa_nil)) pe_int) pa_nil)) (nomark _)) (pw_or1 (pt_cmpR (op_neA hr.units) (pe_callB (cr_repr2 T.sysm hG hr.units) (by rfl) T.n_repr (by decide +kernel) (pa_cons (pe_lst (pa_cons (pe_att (pe_ix ix_seq (pv 3) pe_int (fun _ _ => rfl))) (pa_cons (pe_att (pe_ix ix_seq (pv 3) pe_int (fun _ _ => rfl))) pa_nil))) pa_nil)) (pe_callB (cr_repr2 T.sysm hG hr.units) (by rfl) T.n_repr (by decide +kernel) (pa_cons (pe_lst (pa_cons (pv 2) (pa_cons (pv 2) pa_nil))) pa_nil)) (nomark _))))) (pss_one (ps_ret pe_bl)) pss_nil)
      (pss_one (ps_ret (pe_cmpR (op_eqA hr.units) (pe_lc (own := [("at", 5), ("error", 6)]) rfl nd (pi_enum rfl T.n_enumerate (pa_cons (pv 3) pa_nil)) (blkOk_by (own := [("at", 5), ("error", 6)]) (N := N_law_errors_right) (sc := defScope s_law_errors_right) (by decide +kernel)) (fun _ _ _ _ _ => (pg_tup rfl (pgs_cons (pg_name (i := 5) nd rfl (Or.inl rfl)) (pgs_cons (pg_name (i := 6) nd rfl (Or.inl rfl)) pgs_nil)))) (fun _ _ _ _ _ => (pts_one (pt_not (pt_tru (pe_callH h_law_below hr (by decide) hG (pa_cons (pv 6) (pa_cons (pv 5) pa_nil))))))) (fun _ _ _ _ _ => (pv 5))) (pe_lst pa_nil) (nomark _))))))))
theorem d_fixed {P : Program} {w : World} {K : Fg} {mg : Str → Option Value} {base : Heap} {cs : Cs} (T : Txt P K mg base cs) (n : Nat) (h_fixed : Has P w K mg base n "fixed" s_fixed P_fixed (spR_fixed K cs n)) {f : Addr} {cdv : Value} {A : Around} {outer : List Env} {s : Shared} {H : Hp} {E : XK} (hr : Room n (A.deeper (envOfC "fixed" (defScope s_fixed) s.heap.objs.size f cdv))) (hG : A.guards = some []) :
    PSs (cxOf CX0 P w K mg base N_fixed "fixed" (defScope s_fixed) f cdv A outer s H E).nox (defBody s_fixed) (t_fixed K cs n) := by
  have nd : N_fixed.Nodup := sc_fixed.nd
  exact (pss_cons (ps_if (pt_tru (pe_callB cr_isA (by rfl) T.n_isinstance (by decide +kernel) (pa_cons (pv 0) (pa_cons (pe_tup (pa_cons (pe_bltn (v := .ty "list") (by rfl) T.n_list (by decide +kernel) rfl) (pa_cons (pe_bltn (v := .ty "tuple") (by rfl) T.n_tuple (by decide +kernel) rfl) pa_nil))) pa_nil)))) (pss_one (ps_ret (pe_callTy cr_tupOf (by rfl) T.n_tuple (by decide +kernel) (pa_cons (pe_lc (own := [("part", 1)]) rfl nd (pi_seq (pv 0)) (blkOk_by (own := [("part", 1)]) (N := N_fixed) (sc := defScope s_fixed) (by decide +kernel)) (fun _ _ _ _ _ => (pg_name (i := 1) nd rfl (Or.inl rfl))) (fun _ _ _ _ _ => pts_nil) (fun _ _ _ _ _ => (pe_callH h_fixed hr (Nat.le_refl _) hG (pa_cons (pv 1) pa_nil)))) pa_nil)))) pss_nil)
      (pss_one (ps_ret (pv 0))))
theorem d_are_like {P : Program} {w : World} {K : Fg} {mg : Str → Option Value} {base : Heap} {cs : Cs} (T : Txt P K mg base cs) (n : Nat) (h_are_like : Has P w K mg base n "are_like" s_are_like P_are_like (spR_are_like K cs n)) {f : Addr} {cdv : Value} {A : Around} {outer : List Env} {s : Shared} {H : Hp} {E : XK} (hr : Room n (A.deeper (envOfC "are_like" (defScope s_are_like) s.heap.objs.size f cdv))) (hG : A.guards = some []) :
    PSs (cxOf CX0 P w K mg base N_are_like "are_like" (defScope s_are_like) f cdv A outer s H E).nox (defBody s_are_like) (t_are_like K cs n) := by
  have nd : N_are_like.Nodup := sc_are_like.nd
  exact (pss_cons (ps_if (PW.pt (pw_and (pt_tru (pe_callB cr_isA (by rfl) T.n_isinstance (by decide +kernel) (pa_cons (pv 0) (pa_cons (pe_bltn (v := .ty "tuple") (by rfl) T.n_tuple (by decide +kernel) rfl) pa_nil)))) (pw_and1 (pt_tru (pe_callB cr_isA (by rfl) T.n_isinstance (by decide +kernel) (pa_cons (pv 1) (pa_cons (pe_bltn (v := .ty "tuple") (by rfl) T.n_tuple (by decide +kernel) rfl) pa_nil))))))) (pss_one (ps_ret (pe_and (pe_cmpR (op_eqB hr.units) (pe_callB cr_len (by rfl) T.n_len (by decide +kernel) (pa_cons (pv 0) pa_nil)) (pe_callB cr_len (by rfl) T.n_len (by decide +kernel) (pa_cons (pv 1) pa_nil)) (nomark _)) (pe_one (pe_allA T.n_all (pa_cons (pe_lc (own := [("here", 2), ("there", 3)]) rfl nd (pi_zipB rfl T.n_zip (pa_cons (pv 0) (pa_cons (pv 1) pa_nil))) (blkOk_by (own := [("here", 2), ("there", 3)]) (N := N_are_like) (sc := defScope s_are_like) (by decide +kernel)) (fun _ _ _ _ _ => (pg_tup rfl (pgs_cons (pg_name (i := 2) nd rfl (Or.inl rfl)) (pgs_cons (pg_name (i := 3) nd rfl (Or.inl rfl)) pgs_nil)))) (fun _ _ _ _ _ => pts_nil) (fun _ _ _ _ _ => (pe_callH h_are_like hr (Nat.le_refl _) hG (pa_cons (pv 2) (pa_cons (pv 3) pa_nil))))) pa_nil)))))) pss_nil)
      (pss_cons (ps_if (pt_cmpR (op_neA hr.units) (pe_callB cr_isA (by rfl) T.n_isinstance (by decide +kernel) (pa_cons (pv 0) (pa_cons (pe_bltn (v := .ty "bool") (by rfl) T.n_bool (by decide +kernel) rfl) pa_nil))) (pe_callB cr_isA (by rfl) T.n_isinstance (by decide +kernel) (pa_cons (pv 1) (pa_cons (pe_bltn (v := .ty "bool") (by rfl) T.n_bool (by decide +kernel) rfl) pa_nil))) (nomark _)) (pss_one (ps_ret pe_bl)) pss_nil)
      (pss_one (ps_ret (pe_callTy cr_bool (by rfl) T.n_bool (by decide +kernel) (pa_cons (pe_cmpR (op_eqB hr.units) (pv 0) (pv 1) (nomark _)) pa_nil))))))
theorem d_Paper_init {P : Program} {w : World} {K : Fg} {mg : Str → Option Value} {base : Heap} {cs : Cs} (T : Txt P K mg base cs) (h_fixed : Has P w K mg base 9 "fixed" s_fixed P_fixed (sp_fixed K cs)) {f : Addr} {cdv : Value} {A : Around} {outer : List Env} {s : Shared} {H : Hp} {E : XK} (hr : Room 9 (A.deeper (envOfC "Paper.__init__" (defScope s_Paper_init) s.heap.objs.size f cdv))) (hG : A.guards = some []) :
    PSs (cxOf CX0 P w K mg base N_Paper_init "Paper.__init__" (defScope s_Paper_init) f cdv A outer s H E).nox (defBody s_Paper_init) (t_Paper_init K cs) := by
  have nd : N_Paper_init.Nodup := sc_Paper_init.nd
  exact (pss_cons (ps_fld (pv 0) (pv 1) (by rfl))
      (pss_one (ps_fld (pv 0) (pe_callH h_fixed hr (by decide) hG (pa_cons (pv 2) pa_nil)) (by rfl))))
theorem d_Paper_eq {P : Program} {w : World} {K : Fg} {mg : Str → Option Value} {base : Heap} {cs : Cs} (T : Txt P K mg base cs) (h_are_like : Has P w K mg base 9 "are_like" s_are_like P_are_like (sp_are_like K cs)) {f : Addr} {cdv : Value} {A : Around} {outer : List Env} {s : Shared} {H : Hp} {E : XK} (hr : Room 9 (A.deeper (envOfC "Paper.__eq__" (defScope s_Paper_eq) s.heap.objs.size f cdv))) (hG : A.guards = some []) :
    PSs (cxOf CX0 P w K mg base N_Paper_eq "Paper.__eq__" (defScope s_Paper_eq) f cdv A outer s H E).nox (defBody s_Paper_eq) (t_Paper_eq K cs) := by
  have nd : N_Paper_eq.Nodup := sc_Paper_eq.nd
  exact (pss_cons (ps_if (PW.pt (pw_or (pt_not (pt_tru (pe_callB cr_isB (by rfl) T.n_isinstance (by decide +kernel) (pa_cons (pv 1) (pa_cons (pe_glob (v := .ref _) (by rfl) T.m_Paper rfl) pa_nil))))) (pw_or1 (pt_cmpR (op_neA hr.units) (pe_cn (pv 0)) (pe_cn (pv 1)) (nomark _))))) (pss_one (ps_ret pe_bl)) pss_nil)
      (pss_one (ps_ret (pe_callH h_are_like hr (by decide) hG (pa_cons (pe_tup (pa_cons (pe_att (pv 0)) (pa_cons (pe_att (pv 0)) pa_nil))) (pa_cons (pe_tup (pa_cons (pe_att (pv 1)) (pa_cons (pe_att (pv 1)) pa_nil))) pa_nil))))))
theorem d_law {P : Program} {w : World} {K : Fg} {mg : Str → Option Value} {base : Heap} {cs : Cs} (T : Txt P K mg base cs) (h_fixed : Has P w K mg base 9 "fixed" s_fixed P_fixed (sp_fixed K cs)) (h_law_pen : Has P w K mg base 1 "_law_pen" s_law_pen P_law_pen (sp_law_pen K cs)) (h_law_value : Has P w K mg base 3 "_law_value" s_law_value P_law_value (sp_law_value K cs)) (h_law_errors_right : Has P w K mg base 4 "_law_errors_right" s_law_errors_right P_law_errors_right (sp_law_errors_right K cs)) (h_Denial : HasS P w K mg base 10 cs.c_Denial (sp_Denial K cs)) (h_Paper : HasS P w K mg base 10 cs.c_Paper (sp_Paper K cs)) (h_bool : ∀ C f b, TB cs C f b → HasM P w K mg base 1 f (spTr b)) (h_eq : HasM P w K mg base 10 cs.f_eq (sp_eq K cs)) {f : Addr} {cdv : Value} {A : Around} {outer : List Env} {s : Shared} {H : Hp} {E : XK} (hr : Room 11 (A.deeper (envOfC "law" (defScope s_law) s.heap.objs.size f cdv))) (hG : A.guards = some []) :
    PSs (cxOf CX0 P w K mg base N_law "law" (defScope s_law) f cdv A outer s H E).nox (defBody s_law) (t_law K cs) := by
  have nd : N_law.Nodup := sc_law.nd
  exact (pss_cons (ps_set (i := 1) nd rfl (Or.inl rfl) (pe_callH h_law_pen hr (by decide) hG (pa_cons (pv 0) pa_nil)))
      (pss_cons (ps_for PassesOwn.never rfl (pi_range1 rfl T.n_range (pa_cons pe_int pa_nil)) (pg_name (i := 2) nd rfl (Or.inl rfl)) (pss_cons (ps_if (pt_not (pt_tru (pe_callH h_law_errors_right hr (by decide) hG (pa_cons (pv 1) pa_nil)))) (pss_one (ps_ret pe_bl)) pss_nil)
      (pss_cons (ps_asg (pe_tup (pa_cons (pe_callH h_law_value hr (by decide) hG (pa_cons (pv 1) pa_nil)) (pa_cons (pe_callH h_law_value hr (by decide) hG (pa_cons (pv 1) pa_nil)) pa_nil))) (pg_tup rfl (pgs_cons (pg_tup rfl (pgs_cons (pg_name (i := 3) nd rfl (Or.inl rfl)) (pgs_cons (pg_name (i := 4) nd rfl (Or.inl rfl)) pgs_nil))) (pgs_cons (pg_tup rfl (pgs_cons (pg_name (i := 5) nd rfl (Or.inl rfl)) (pgs_cons (pg_name (i := 6) nd rfl (Or.inl rfl)) pgs_nil))) pgs_nil))))
      (pss_cons (ps_par (i := 7) (j := 8) rfl nd rfl rfl (by decide) rfl rfl (pa_cons (pe_mkS h_Paper hr (by decide) hG T.m_Paper (pa_cons pe_str (pa_cons (pv 3) (pa_cons (pv 5) pa_nil)))) (pa_cons (pe_mkS h_Denial hr (by decide) hG T.m_Denial (pa_cons pe_str (pa_cons (pv 3) (pa_cons (pv 5) pa_nil)))) pa_nil)) (by rfl))
      (pss_cons (ps_if (pt_cmpR (op_neO h_eq hr (by decide) hG) (pe_callB (cr_repr2 T.sysm hG hr.units) (by rfl) T.n_repr (by decide +kernel) (pa_cons (pe_lst (pa_cons (pe_callH h_fixed hr (by decide) hG (pa_cons (pv 3) pa_nil)) (pa_cons (pe_callHK0 (ks := ["value"]) h_fixed kw_fixed_0_value (perm_rel [0]) hr (by decide) hG (pk_cons (pv 5) pk_nil)) (pa_cons (pe_att (pv 7)) (pa_cons (pe_att (pv 7)) (pa_cons (pe_att (pv 8)) pa_nil)))))) pa_nil)) (pe_callB (cr_repr2 T.sysm hG hr.units) (by rfl) T.n_repr (by decide +kernel) (pa_cons (pe_lst (pa_cons (pv 4) (pa_cons (pv 6) (pa_cons pe_str (pa_cons (pe_tup (pa_cons (pv 4) (pa_cons (pv 6) pa_nil))) (pa_cons (pe_tup (pa_cons (pv 4) (pa_cons (pv 6) pa_nil))) pa_nil)))))) pa_nil)) (nomark _)) (pss_one (ps_ret pe_bl)) pss_nil)
      (pss_cons (ps_if (PW.pt (pw_or (pt_cmpR (op_neO h_eq hr (by decide) hG) (pv 7) (pe_mkS h_Paper hr (by decide) hG T.m_Paper (pa_cons pe_str (pa_cons (pv 4) (pa_cons (pv 6) pa_nil)))) (nomark _)) (pw_or (pt_not (pt_cmpR (op_eqO h_eq hr (by decide) hG) (pv 7) (pe_mkS h_Paper hr (by decide) hG T.m_Paper (pa_cons pe_str (pa_cons (pv 4) (pa_cons (pv 6) pa_nil)))) (nomark _))) (pw_or (pt_cmpR (op_eqO h_eq hr (by decide) hG) (pv 7) (pv 8) (nomark _)) (pw_or (pt_cmpR (op_eqO h_eq hr (by decide) hG) (pv 7) (pe_mkS h_Paper hr (by decide) hG T.m_Paper (pa_cons pe_str (pa_cons (pv 4) (pa_cons (pv 6) pa_nil)))) (nomark _)) (pw_or (pt_cmpR (op_eqO h_eq hr (by decide) hG) (pv 7) (pe_tup (pa_cons (pv 4) (pa_cons (pv 6) pa_nil))) (nomark _)) (pw_or (pt_not (pt_truB (B := TB cs) h_bool hr (by decide) hG (pv 7))) (pw_or1 (pt_truB (B := TB cs) h_bool hr (by decide) hG (pv 8)))))))))) (pss_one (ps_ret pe_bl)) pss_nil)
      (pss_cons (ps_if (PW.pt (pw_or (pt_not (pt_tru (pe_callB cr_isB (by rfl) T.n_isinstance (by decide +kernel) (pa_cons (pv 8) (pa_cons (pe_glob (v := .ref _) (by rfl) T.m_Paper rfl) pa_nil))))) (pw_or (pt_tru (pe_callB cr_isB (by rfl) T.n_isinstance (by decide +kernel) (pa_cons (pv 7) (pa_cons (pe_glob (v := .ref _) (by rfl) T.m_Denial rfl) pa_nil)))) (pw_or (pt_cmpR (op_eqO h_eq hr (by decide) hG) (pe_mkS h_Paper hr (by decide) hG T.m_Paper (pa_cons pe_str (pa_cons pe_int pa_nil))) (pe_mkS h_Paper hr (by decide) hG T.m_Paper (pa_cons pe_str (pa_cons pe_bl pa_nil))) (nomark _)) (pw_or (pt_cmpR (op_eqO h_eq hr (by decide) hG) (pe_mkS h_Paper hr (by decide) hG T.m_Paper (pa_cons pe_str (pa_cons (pe_tup (pa_cons pe_int (pa_cons (pe_lst (pa_cons pe_int pa_nil)) pa_nil))) pa_nil))) (pe_mkS h_Paper hr (by decide) hG T.m_Paper (pa_cons pe_str (pa_cons (pe_lst (pa_cons pe_int (pa_cons (pe_tup (pa_cons pe_bl pa_nil)) pa_nil))) pa_nil))) (nomark _)) (pw_or1 (pt_cmpR (op_neO h_eq hr (by decide) hG) (pe_mkS h_Paper hr (by decide) hG T.m_Paper (pa_cons pe_str (pa_cons (pe_lst (pa_cons pe_int (pa_cons pe_int pa_nil))) pa_nil))) (pe_mkS h_Paper hr (by decide) hG T.m_Paper (pa_cons pe_str (pa_cons (pe_tup (pa_cons pe_int (pa_cons pe_int pa_nil))) pa_nil))) (nomark _)))))))) (pss_one (ps_ret pe_bl)) pss_nil)
      (pss_one (ps_if (PW.pt (pw_or (pt_cmpR (op_neO h_eq hr (by decide) hG) (pe_mkS h_Denial hr (by decide) hG T.m_Denial (pa_cons pe_str (pa_cons (pv 3) pa_nil))) (pe_mkS h_Denial hr (by decide) hG T.m_Denial (pa_cons pe_str (pa_cons (pv 4) pa_nil))) (nomark _)) (pw_or (pt_cmpR (op_eqO h_eq hr (by decide) hG) (pe_mkS h_Paper hr (by decide) hG T.m_Paper (pa_cons pe_str (pa_cons (pv 3) (pa_cons pe_int pa_nil)))) (pe_mkS h_Paper hr (by decide) hG T.m_Paper (pa_cons pe_str (pa_cons (pv 3) (pa_cons pe_int pa_nil)))) (nomark _)) (pw_or1 (pt_cmpR (op_eqO h_eq hr (by decide) hG) (pe_mkS h_Paper hr (by decide) hG T.m_Paper (pa_cons pe_str (pa_cons (pv 3) pa_nil))) (pe_mkS h_Paper hr (by decide) hG T.m_Paper (pa_cons pe_str (pa_cons (pv 3) (pa_cons (pv 3) pa_nil)))) (nomark _)))))) (pss_one (ps_ret pe_bl)) pss_nil)))))))))
      (pss_cons (ps_set (i := 9) nd rfl (Or.inl rfl) (pe_lst (pa_cons pe_int (pa_cons (pe_lst (pa_cons pe_int pa_nil)) pa_nil))))
      (pss_cons (ps_set (i := 10) nd rfl (Or.inl rfl) (pe_mkS h_Paper hr (by decide) hG T.m_Paper (pa_cons pe_str (pa_cons (pv 9) pa_nil))))
      (pss_cons (ps_expr (pe_bm PySem.F.plainAttrs_list PySem.F.slot_list_append PySem.F.type_list_append mt_append (pe_ix ix_seq (pv 9) pe_int (fun _ _ => rfl)) (pa_cons pe_int pa_nil)))
      (pss_one (ps_ret (pe_cmpR (op_eqO h_eq hr (by decide) hG) (pe_att (pv 10)) (pe_tup (pa_cons (pe_tup (pa_cons pe_int (pa_cons (pe_tup (pa_cons pe_int pa_nil)) pa_nil))) pa_nil)) (nomark _)))))))))
end K00
namespace K00
open PySem PySem.Spec PyProof.Rows L2 NdefX DL
section
variable {K : Fg} {cs : Cs}
/-! walks: fixed, are_like, the pick, the values -/
theorem rd_fixed (n : Nat) (d : DV) (hp : isY d = true ∧ dep d < n + 1) : WS K (t_fixed K cs n) (slotsD N_fixed [d]) [] 0 (ED fun r => r = fixD d) := by
  show WS K (t_fixed K cs n) [.is d, .no] [] 0 _
  unfold t_fixed
  have leaf : ∀ t : String, tyD d = some t → kitL t ["list", "tuple"] = some false → fixD d = d → WS K (tSeq (tIfS (tTru K (tCB (rIsA K) (tCons (tVar 0) (tCons (tTup (tCons (tC (.ty "list")) (tCons (tC (.ty "tuple")) tNil))) tNil)))) (tRet (tCB (rTupOf K) (tCons (tLc (iSeq K (tVar 0)) (gName 1) tYes (tCall (spR_fixed K cs n) [] E0 (tCons (tVar 1) tNil)) [1]) tNil))) tNext)
    (tRet (tVar 0))) [.is d, .no] [] 0 (ED fun r => r = fixD d) := fun t h1 h2 h3 => by
    refine ws_seq (ws_if (wt_tru (w_isT2 (w_var rfl ⟨t, false, h1, h2, .inr (.inl ⟨false, rfl, brF (ws_next (ws_ret (w_var rfl h3.symm)))⟩)⟩))))
  have seq : ∀ (ds : List DV), (d = .lst ds ∨ d = .tup ds) → fixD d = .tup (ds.map fixD) → ds.length ≤ 1000 → (∀ x ∈ ds, isY x = true ∧ dep x < n) → WS K (tSeq (tIfS (tTru K (tCB (rIsA K) (tCons (tVar 0) (tCons (tTup (tCons (tC (.ty "list")) (tCons (tC (.ty "tuple")) tNil))) tNil)))) (tRet (tCB (rTupOf K) (tCons (tLc (iSeq K (tVar 0)) (gName 1) tYes (tCall (spR_fixed K cs n) [] E0 (tCons (tVar 1) tNil)) [1]) tNil))) tNext)
    (tRet (tVar 0))) [.is d, .no] [] 0 (ED fun r => r = fixD d) := fun ds hd hf hl hm => by
    have ty : ∃ t, tyD d = some t ∧ kitL t ["list", "tuple"] = some true := by
      rcases hd with rfl | rfl
      · exact ⟨"list", rfl, by decide +kernel⟩
      · exact ⟨"tuple", rfl, by decide +kernel⟩
    obtain ⟨t, h1, h2⟩ := ty
    refine ws_seq (ws_if (wt_tru (w_isT2 (w_var rfl ⟨t, true, h1, h2, .inr (.inl ⟨true, rfl, brT (ws_ret ?_)⟩)⟩))))
    refine w_cb (wa_cons (w_of_wl (wl_lcF (α := DV) (sw_seq (w_var rfl ⟨ds, hd, ds, id, fixD, by simp, by omega, fun x hx => ?_, wa_nil (cw_tupL hf.symm)⟩)))))
    refine gw_name (by simp) (w_call (wa_cons (w_var rfl (wa_nil ⟨x, rfl, hm x hx, ?_⟩))))
    rintro _ rfl
    exact ⟨rfl, rfl⟩
  cases d with
  | non => exact leaf "NoneType" rfl (by decide +kernel) rfl
  | bl b => exact leaf "bool" rfl (by decide +kernel) rfl
  | int i => exact leaf "int" rfl (by decide +kernel) rfl
  | str x => exact leaf "str" rfl (by decide +kernel) rfl
  | dic k v => exact leaf "dict" rfl (by decide +kernel) rfl
  | tup ds =>
    have h := hp.1
    simp only [isY, Bool.and_eq_true, decide_eq_true_eq] at h
    have h2 := hp.2
    simp only [dep] at h2
    exact seq ds (.inr rfl) (by simp [fixD, fixL_map]) h.1 fun x hx => ⟨isY_mem h.2 hx, by have := dep_mem hx; omega⟩
  | lst ds =>
    have h := hp.1
    simp only [isY, Bool.and_eq_true, decide_eq_true_eq] at h
    have h2 := hp.2
    simp only [dep] at h2
    exact seq ds (.inl rfl) (by simp [fixD, fixL_map]) h.1 fun x hx => ⟨isY_mem h.2 hx, by have := dep_mem hx; omega⟩
  | ty x => simp [isY] at hp
  | adr x => simp [isY] at hp
  | ins a b c => simp [isY] at hp
  | exc a b c => simp [isY] at hp
theorem rd_Paper_bool (d : DV) : WS K (t_Paper_bool K cs) (slotsD N_Paper_bool [d]) [] 0 (ED fun r => r = .bl true) := ws_ret (w_bl rfl)
theorem rd_law_pick (a : List DV) (n : Nat) (hp : 1 ≤ a.length ∧ a.length ≤ 1000) (hn : n + 1 ≤ 1000000) : WS K (t_law_pick K cs) (slotsP N_law_pick [.lst a]) [] n (EP (n + 1) fun d => d ∈ a) := by
  show WS K (t_law_pick K cs) [.pen, .is (.lst a)] [] n _
  unfold t_law_pick
  refine ws_ret (w_op (w_var rfl (w_callP rfl (wa_cons (w_cb (wa_cons (w_var rfl (wa_nil (cw_lenL (wa_nil ⟨(a.length : Int), rfl, ⟨by omega, ?_⟩, hn, ?_⟩))))))))))
  · exact nle (b := 9000) (show ((a.length : Nat) : Int).natAbs < 2 ^ 10 by omega) (by decide)
  · rintro _ ⟨r, rfl, h1, h2⟩
    obtain ⟨j, rfl⟩ : ∃ j : Nat, r = (j : Int) := ⟨r.toNat, by omega⟩
    have hj : j < a.length := by omega
    exact ow_ixN (List.getElem?_eq_getElem hj) ⟨Nat.le_refl _, List.getElem_mem hj⟩
theorem rd_law_value (a : Unit) (n : Nat) (hp : True) (hn : n + 1 ≤ 1000000) : WS K (t_law_value K cs) (slotsP N_law_value []) [] n (EP (n + 1) fun d => ∃ i : Fin 8, d = .tup [val i, due i]) := by
  show WS K (t_law_value K cs) [.pen, .no] [] n _
  unfold t_law_value
  refine ws_seq (ws_asg (w_of_wl (wl_lst ?_)))
  repeat' first
    | walk_at "dl2"
    | with_reducible refine w_disp1 ?_
    | walk_at "len"
  exact ws_ret (w_callP rfl (wa_cons (w_var rfl (wa_nil ⟨rowsD, rfl, ⟨by decide, by decide⟩, hn, fun d hd => ⟨Nat.le_refl _, rows_at hd⟩⟩))))
theorem w_is1 {Γ : List SA} {O : Own} {n i : Nat} {x : DV} {c t : String} {b : Bool} {k : DV → Nat → Prop} (h : Γ[i]? = some (.is x)) (ht : tyD x = some t) (hk : kitB t c = some b) (q : k (.bl b) n) : W K (tCB (rIsA K) (tCons (tVar i) (tCons (tC (.ty c)) tNil))) Γ O n k := by
  refine w_cb (wa_cons (w_var h ?_))
  refine wa_cons (w_ty (wa_nil ?_))
  exact cw_isTy ht hk q
theorem wt_is1 {Γ : List SA} {O : Own} {n i : Nat} {x : DV} {c t : String} {b : Bool} {k : Bool → Nat → Prop} (h : Γ[i]? = some (.is x)) (ht : tyD x = some t) (hk : kitB t c = some b) (q : k b n) : WT K (tTru K (tCB (rIsA K) (tCons (tVar i) (tCons (tC (.ty c)) tNil)))) Γ O n k :=
  wt_tru (w_is1 h ht hk (.inr (.inl ⟨b, rfl, q⟩)))
theorem w_len1 {Γ : List SA} {O : Own} {n i : Nat} {xs : List DV} {k : DV → Nat → Prop} (h : Γ[i]? = some (.is (.tup xs))) (q : k (.int (xs.length : Int)) n) : W K (tCB (rLenA K) (tCons (tVar i) tNil)) Γ O n k := by
  refine w_cb (wa_cons (w_var h (wa_nil ?_)))
  exact cw_lenT q
theorem like_leaf {n : Nat} {x y : DV} {t1 t2 : String} {b1 b2 : Bool} (h1 : tyD x = some t1) (h2 : tyD y = some t2) (k1 : kitB t1 "tuple" = some false) (l1 : kitB t1 "bool" = some b1) (l2 : kitB t2 "bool" = some b2)
    (ne : b1 ≠ b2 → alike x y = false) (eq : b1 = b2 → OW K (rEqB K) x y fun z => z = .bl (alike x y)) : WS K (t_are_like K cs n) [.is x, .is y, .no, .no] [] 0 (ED fun r => r = .bl (alike x y)) := by
  unfold t_are_like
  refine ws_seq (ws_if (wt_and (wt_is1 rfl h1 k1 (brF (brF (ws_next ?_))))))
  refine ws_seq (ws_if (wt_test (w_op (w_is1 rfl h1 l1 (w_is1 rfl h2 l2 (ow_neB ⟨_, rfl, brN (fun h => ?_) (fun h => ?_)⟩))))))
  · exact ws_ret (w_bl (by rw [ne h]))
  · refine ws_next (ws_ret ?_)
    refine w_cb (wa_cons (w_op (w_var rfl (w_var rfl ?_))))
    intro pn As H0 M H σ Γ O n S v w rv rw Q c
    refine eq h pn As H0 M H σ Γ O n S v w rv rw Q fun u M' H' d e S' r hd => c u M' H' d e S' r ?_
    subst hd
    exact wa_nil (cw_boolB rfl)
theorem rd_are_like (n : Nat) (p : DV × DV) (hp : okP p.1 p.2 = true ∧ dep p.1 < n + 1) : WS K (t_are_like K cs n) (slotsD N_are_like [p.1, p.2]) [] 0 (ED fun r => r = .bl (alike p.1 p.2)) := by
  obtain ⟨x, y⟩ := p
  show WS K (t_are_like K cs n) [.is x, .is y, .no, .no] [] 0 _
  obtain ⟨ho, hd⟩ := hp
  dsimp only at ho hd
  cases x with
  | tup xs =>
    cases y with
    | tup ys =>
      simp only [okP, Bool.and_eq_true, decide_eq_true_eq] at ho
      simp only [dep] at hd
      have tt : kitB "tuple" "tuple" = some true := by decide +kernel
      unfold t_are_like
      refine ws_seq (ws_if (wt_and (wt_is1 rfl rfl tt (brT ?_))))
      refine wt_is1 rfl rfl tt (brT ?_)
      refine ws_ret (w_and (w_op (w_len1 rfl (w_len1 rfl ?_))))
      refine ow_eqBd (ow_eqI ⟨_, rfl, br (fun hl => ?_) (fun hl => ?_)⟩)
      · refine w_cb (wa_cons (w_of_wl ?_))
        refine wl_lcF (α := DV × DV) (sw_zipB ?_)
        refine wa_cons (w_var rfl (wa_cons (w_var rfl (wa_nil ?_))))
        refine ⟨xs, ys, .inr (.inl rfl), xs.zip ys, fun z => .tup [z.1, z.2], fun z => .bl (alike z.1 z.2), by simpa using zipD_map id id xs ys, by rw [List.length_zip]; omega, fun z hz => ?_, ?_⟩
        · refine gw_tup rfl (gws_cons (gw_name (by simp) (gws_cons (gw_name (by simp) (gws_nil ?_)))))
          refine w_call (wa_cons (w_var rfl (wa_cons (w_var rfl (wa_nil ⟨z, rfl, ⟨okPL_mem ho.2 hz, ?_⟩, ?_⟩)))))
          · have := dep_mem (List.of_mem_zip hz).1
            omega
          · rintro _ rfl
            exact ⟨rfl, rfl⟩
        · have e : ((xs.zip ys).map fun z => DV.bl (alike z.1 z.2)) = (((xs.zip ys).map fun z => alike z.1 z.2).map DV.bl) := by simp [List.map_map, Function.comp_def]
          rw [e]
          refine wa_nil (cw_all ?_)
          have hl' : xs.length = ys.length := by omega
          simp [alike, alikeL_zip, hl', List.all_map, Function.comp_def]
      · have hl' : xs.length ≠ ys.length := by omega
        simp [alike, hl']
    | _ => simp [okP] at ho
  | int i =>
    cases y with
    | int j => exact like_leaf (t1 := "int") (t2 := "int") (b1 := false) (b2 := false) rfl rfl (by decide +kernel) (by decide +kernel) (by decide +kernel) (fun h => absurd rfl h) fun _ => ow_eqBd (ow_eqI (by simp [alike, eqLeaf]))
    | bl j => exact like_leaf (t1 := "int") (t2 := "bool") (b1 := false) (b2 := true) rfl rfl (by decide +kernel) (by decide +kernel) (by decide +kernel) (fun h => rfl) fun h => Bool.noConfusion h
    | _ => simp [okP, okLeaf] at ho
  | bl i =>
    cases y with
    | bl j => exact like_leaf (t1 := "bool") (t2 := "bool") (b1 := true) (b2 := true) rfl rfl (by decide +kernel) (by decide +kernel) (by decide +kernel) (fun h => absurd rfl h) fun _ => ow_eqBd (ow_eqB (by simp [alike, eqLeaf]))
    | int j => exact like_leaf (t1 := "bool") (t2 := "int") (b1 := true) (b2 := false) rfl rfl (by decide +kernel) (by decide +kernel) (by decide +kernel) (fun h => rfl) fun h => Bool.noConfusion h
    | _ => simp [okP, okLeaf] at ho
  | str i =>
    cases y with
    | str j => exact like_leaf (t1 := "str") (t2 := "str") (b1 := false) (b2 := false) rfl rfl (by decide +kernel) (by decide +kernel) (by decide +kernel) (fun h => absurd rfl h) fun _ => ow_eqBd (ow_eqS (by simp [alike, eqLeaf]))
    | _ => simp [okP, okLeaf] at ho
  | non =>
    cases y with
    | non => exact like_leaf (t1 := "NoneType") (t2 := "NoneType") (b1 := false) (b2 := false) rfl rfl (by decide +kernel) (by decide +kernel) (by decide +kernel) (fun h => absurd rfl h) fun _ => ow_eqBd (ow_eqD rfl rfl (by rfl))
    | _ => simp [okP, okLeaf] at ho
  | dic k v =>
    simp only [okP] at ho
    unfold okLeaf at ho
    split at ho <;> first | contradiction | (simp_all; done) | skip
    rename_i a0 b0 k0 i0 k1 j0 e
    cases e
    simp only [Bool.and_eq_true, decide_eq_true_eq] at ho
    obtain ⟨rfl, rfl⟩ := ho
    exact like_leaf (t1 := "dict") (t2 := "dict") (b1 := false) (b2 := false) rfl rfl (by decide +kernel) (by decide +kernel) (by decide +kernel) (fun h => absurd rfl h) fun _ => ow_eqDic (by simp [alike, eqLeaf])
  | _ => simp [okP] at ho
end
end K00
namespace K00
open PySem PySem.Spec PyProof.Rows L2 NdefX DL
section
variable {P : Program} {K : Fg} {mg : Str → Option Value} {base : Heap} {cs : Cs}
theorem exc_at (T : Txt P K mg base cs) : ∀ i : Fin 8, ExcC K (errC cs i) ∧ XfC K (errC cs i)
  | 0 => ⟨T.e_BadNumber.exc, T.e_BadNumber.xf⟩
  | 1 => ⟨T.e_BadShape.exc, T.e_BadShape.xf⟩
  | 2 => ⟨T.e_BadValue.exc, T.e_BadValue.xf⟩
  | 3 => ⟨T.e_BadText.exc, T.e_BadText.xf⟩
  | 4 => ⟨T.e_BadLine.exc, T.e_BadLine.xf⟩
  | 5 => ⟨T.e_Misfit.exc, T.e_Misfit.xf⟩
  | 6 => ⟨T.e_Nothing.exc, T.e_Nothing.xf⟩
  | 7 => ⟨T.e_TooMany.exc, T.e_TooMany.xf⟩
theorem w_isE {Γ : List SA} {O : Own} {n i : Nat} {C D : Addr} {ns : List Str} {ds : List DV} {b : Bool} {k : DV → Nat → Prop} (h : Γ[i]? = some (.is (.exc C ns ds))) (T : ExcC K C) (hk : PySem.W.kitOne K (.ref C) (.ref D) = some b) (q : k (.bl b) n) : W K (tCB (rIsB K) (tCons (tVar i) (tCons (tC (.ref D)) tNil))) Γ O n k := by
  refine w_cb (wa_cons (w_var h ?_))
  refine wa_cons (w_adr (wa_nil ?_))
  exact cw_isXC T hk q
theorem w_isV {Γ : List SA} {O : Own} {n i : Nat} {C : Addr} {c : String} {ns : List Str} {ds : List DV} {b : Bool} {k : DV → Nat → Prop} (h : Γ[i]? = some (.is (.exc C ns ds))) (T : ExcC K C) (hk : PySem.W.kitOne K (.ref C) (.type c) = some b) (q : k (.bl b) n) : W K (tCB (rIsB K) (tCons (tVar i) (tCons (tC (.ty c)) tNil))) Γ O n k := by
  refine w_cb (wa_cons (w_var h ?_))
  refine wa_cons (w_ty (wa_nil ?_))
  exact cw_isXT T hk q
theorem below1 : ∀ i : Fin 8, PyData.eqv (py (.lst ([DV.bl (decide (i = 0)), DV.bl (decide (i = 1)), DV.bl (decide (i = 2)), DV.bl (decide (i = 3)), DV.bl (decide (i = 4))] ++ [DV.bl (decide (i = 5)), DV.bl (decide (i = 6)), DV.bl (decide (i = 7))])))
    (py (.lst ((List.range 8).map fun a : Nat => DV.bl (decide ((a : Int) = (i.val : Int)))))) = true := by decide
theorem below2 : ∀ i : Fin 8, PyData.eqv (py (.lst [DV.bl (decide (i.val < 5)), DV.bl (decide (4 < i.val))])) (py (.lst [DV.bl (decide ((i.val : Int) < 5)), DV.bl (decide ((4 : Int) < (i.val : Int)))])) = true := by decide
theorem rd_law_below (T : Txt P K mg base cs) (p : Fin 8 × List Str × List DV) : WS K (t_law_below K cs) (slotsD N_law_below [.exc (errC cs p.1) p.2.1 p.2.2, .int (p.1.val : Int)]) [] 0 (ED fun d => d = .bl true) := by
  obtain ⟨i, ns, ds⟩ := p
  show WS K (t_law_below K cs) [.is (.exc (errC cs i) ns ds), .is (.int (i.val : Int)), .no, .no] [] 0 _
  have E := (exc_at T i).1
  unfold t_law_below
  refine ws_seq (ws_asg (w_of_wl (wl_lst ?_)))
  refine wa_cons (w_isE rfl E (T.kitE i 0) ?_)
  refine wa_cons (w_isE rfl E (T.kitE i 1) ?_)
  refine wa_cons (w_isE rfl E (T.kitE i 2) ?_)
  refine wa_cons (w_isE rfl E (T.kitE i 3) ?_)
  refine wa_cons (w_isE rfl E (T.kitE i 4) (wa_nil ⟨by simp, ?_⟩))
  refine ws_seq (ws_asg (w_op (w_var rfl (w_of_wl (wl_lst ?_)))))
  refine wa_cons (w_isE rfl E (T.kitE i 5) ?_)
  refine wa_cons (w_isE rfl E (T.kitE i 6) ?_)
  refine wa_cons (w_isE rfl E (T.kitE i 7) (wa_nil ⟨by simp, ows (owl_cat (by simp) ?_)⟩))
  refine ws_ret (w_and (w_op (w_var rfl (w_of_wl ?_))))
  refine wl_lcF (α := Nat) (sw_rng1 ?_)
  refine wa_cons (w_int (wa_nil ⟨8, rfl, by omega, by omega, List.range 8, fun a => .int (a : Int), fun a => .bl (decide ((a : Int) = (i.val : Int))), rfl, by simp, fun a ha => ?_, ?_⟩))
  · exact gw_name (by simp) (w_op (w_var rfl (w_var rfl (ow_eqI ⟨rfl, rfl⟩))))
  · refine ow_eqD rfl rfl ⟨true, ?_, brT ?_⟩
    · exact congrArg DV.bl (below1 i)
    · refine w_and (w_isE rfl E (T.kitC i) ⟨true, rfl, brT ?_⟩)
      refine w_and (w_isV rfl E (T.kitV i) ⟨true, rfl, brT ?_⟩)
      refine w_op (w_of_wl (wl_lst ?_))
      refine wa_cons (w_isE rfl E (T.kitB i) ?_)
      refine wa_cons (w_isE rfl E (T.kitR i) (wa_nil ⟨by simp, w_of_wl (wl_lst ?_)⟩))
      refine wa_cons (w_op (w_var rfl (w_int (ow_lt ?_))))
      refine wa_cons (w_op (w_var rfl (w_int (ow_gt (wa_nil ⟨by simp, ow_eqD rfl rfl ?_⟩)))))
      exact congrArg DV.bl (below2 i)
end
end K00
namespace K00
open PySem PySem.Spec PyProof.Rows L2 NdefX DL
/-! what is shown -/
abbrev eight (d : DV) : DV := .lst [d, d, d, d, d, d, d, d]
abbrev two (d : DV) : DV := .lst [d, d]
abbrev five (a b : DV) : DV := .lst [a, b, .str "met", .tup [a, b], .tup [a, b]]
theorem le_line {m : Nat} (h : m ≤ 1000) : m ≤ sizeLine := by
  rw [sizeLine_eq]; omega
theorem sh8 : ∀ i : Fin 8, isX (eight (val i)) = true ∧ (pyX (eight (val i))).showable = true ∧ (pyX (eight (val i))).depth ≤ 60 ∧ (pyX (eight (val i))).shown.length ≤ 1000 := by decide +kernel
theorem sh2 : ∀ i : Fin 8, isX (two (val i)) = true ∧ (pyX (two (val i))).showable = true ∧ (pyX (two (val i))).depth ≤ 60 ∧ (pyX (two (val i))).shown.length ≤ 1000 := by decide +kernel
theorem sh5 : ∀ i j : Fin 8, isX (five (due i) (due j)) = true ∧ (pyX (five (due i) (due j))).showable = true ∧ (pyX (five (due i) (due j))).depth ≤ 60 ∧ (pyX (five (due i) (due j))).shown.length ≤ 1000 := by decide +kernel
theorem shw8 (i : Fin 8) : Shw (eight (val i)) := ⟨(sh8 i).1, (sh8 i).2.1, (sh8 i).2.2.1, le_line (sh8 i).2.2.2⟩
theorem shw2 (i : Fin 8) : Shw (two (val i)) := ⟨(sh2 i).1, (sh2 i).2.1, (sh2 i).2.2.1, le_line (sh2 i).2.2.2⟩
theorem shw5 (i j : Fin 8) : Shw (five (due i) (due j)) := ⟨(sh5 i j).1, (sh5 i j).2.1, (sh5 i j).2.2.1, le_line (sh5 i j).2.2.2⟩
section
variable {P : Program} {K : Fg} {mg : Str → Option Value} {base : Heap} {cs : Cs}
abbrev errs (cs : Cs) (x y : DV) : List DV := [.exc cs.c_BadNumber ["part"] [x], .exc cs.c_BadShape ["part"] [x], .exc cs.c_BadValue ["part"] [x], .exc cs.c_BadText ["word", "line"] [y, x], .exc cs.c_BadLine ["word"] [x],
  .exc cs.c_Misfit ["part"] [x], .exc cs.c_Nothing ["part"] [x], .exc cs.c_TooMany ["most", "what"] [y, x]]
theorem errs_at {x y d : DV} {i : Nat} (h : (enumD 0 (errs cs x y))[i]? = some d) : ∃ (m : Fin 8) (ns : List Str) (ds : List DV), d = .tup [.int (m.val : Int), .exc (errC cs m) ns ds] := by
  match i, h with
  | 0, h => exact ⟨0, _, _, (Option.some.inj h).symm⟩
  | 1, h => exact ⟨1, _, _, (Option.some.inj h).symm⟩
  | 2, h => exact ⟨2, _, _, (Option.some.inj h).symm⟩
  | 3, h => exact ⟨3, _, _, (Option.some.inj h).symm⟩
  | 4, h => exact ⟨4, _, _, (Option.some.inj h).symm⟩
  | 5, h => exact ⟨5, _, _, (Option.some.inj h).symm⟩
  | 6, h => exact ⟨6, _, _, (Option.some.inj h).symm⟩
  | 7, h => exact ⟨7, _, _, (Option.some.inj h).symm⟩
  | i + 8, h => simp [enumD] at h
theorem w_part {Γ : List SA} {O : Own} {n : Nat} {l : List DV} {j : Int} {f : Str} {C : Addr} {ns : List Str} {ds : List DV} {x : DV} {i : Nat} {k : DV → Nat → Prop} (h : Γ[i]? = some (.is (.lst l))) (ha : atI l j = some (.exc C ns ds)) (T : XfC K C) (no : PySem.W.findIn K (.ref C) f = some none) (lk : (ns.zip ds).lookup f = some x) (q : k x n) :
    W K (tAtt K (tOp (rIx K) (tVar i) (tC (.int j))) f) Γ O n k := by
  refine w_attE (w_op (w_var h (w_int (ow_ixL ha ?_))))
  exact ⟨C, ns, ds, x, rfl, T, no, lk, q⟩
theorem rd_law_errors_right (T : Txt P K mg base cs) (a : Unit) (n : Nat) (hp : True) (hn : n + 2 ≤ 1000000) : WS K (t_law_errors_right K cs) (slotsP N_law_errors_right []) [] n (EP (n + 2) fun d => d = .bl true) := by
  show WS K (t_law_errors_right K cs) [.pen, .no, .no, .no, .no, .no, .no] [] n _
  unfold t_law_errors_right
  refine ws_seq (ws_par ?_)
  refine wa_cons (w_op (w_callP rfl (wa_nil ⟨(), rfl, trivial, by omega, ?_⟩)))
  rintro _ ⟨i, rfl⟩
  refine w_int (ow_ixT rfl ?_)
  refine wa_cons (w_op (w_callP rfl (wa_nil ⟨(), rfl, trivial, by omega, ?_⟩)))
  rintro _ ⟨j, rfl⟩
  refine w_int (ow_ixT rfl (wa_nil ⟨_, _, rfl, ?_⟩))
  show WS K _ [.pen, .is (val i), .is (val j), .no, .no, .no, .no] [] (n + 1 + 1) _
  refine ws_seq (ws_asg (w_of_wl (wl_lst ?_)))
  refine wa_cons (w_mkX (wa_nil (wa_cons (w_var rfl (wa_nil ⟨rfl, rfl, rfl, ?_⟩)))))
  refine wa_cons (w_mkX (wa_nil (wa_cons (w_var rfl (wa_nil ⟨rfl, rfl, rfl, ?_⟩)))))
  refine wa_cons (w_mkX (wa_cons (w_var rfl (wa_nil (wa_nil ⟨rfl, rfl, rfl, ?_⟩)))))
  refine wa_cons (w_mkX (wa_nil (wa_cons (w_var rfl (wa_cons (w_var rfl (wa_nil ⟨rfl, rfl, rfl, ?_⟩)))))))
  refine wa_cons (w_mkX (wa_nil (wa_cons (w_var rfl (wa_nil ⟨rfl, rfl, rfl, ?_⟩)))))
  refine wa_cons (w_mkX (wa_nil (wa_cons (w_var rfl (wa_nil ⟨rfl, rfl, rfl, ?_⟩)))))
  refine wa_cons (w_mkX (wa_cons (w_var rfl (wa_nil (wa_nil ⟨rfl, rfl, rfl, ?_⟩)))))
  refine wa_cons (w_mkX (wa_nil (wa_cons (w_var rfl (wa_cons (w_var rfl (wa_nil ⟨rfl, rfl, rfl, ?_⟩)))))))
  refine wa_nil ⟨by simp, ?_⟩
  show WS K _ [.pen, .is (val i), .is (val j), .is (.lst (errs cs (val i) (val j))), .no, .no, .no] [] (n + 1 + 1) _
  refine ws_seq (ws_asg (w_of_wl (wl_lst ?_)))
  refine wa_cons (w_part rfl rfl T.e_BadNumber.xf (T.e_BadNumber.no "part" (by simp)) rfl ?_)
  refine wa_cons (w_part rfl rfl T.e_BadShape.xf (T.e_BadShape.no "part" (by simp)) rfl ?_)
  refine wa_cons (w_part rfl rfl T.e_BadValue.xf (T.e_BadValue.no "part" (by simp)) rfl ?_)
  refine wa_cons (w_part rfl rfl T.e_BadText.xf (T.e_BadText.no "line" (by simp)) rfl ?_)
  refine wa_cons (w_part rfl rfl T.e_BadLine.xf (T.e_BadLine.no "word" (by simp)) rfl ?_)
  refine wa_cons (w_part rfl rfl T.e_Misfit.xf (T.e_Misfit.no "part" (by simp)) rfl ?_)
  refine wa_cons (w_part rfl rfl T.e_Nothing.xf (T.e_Nothing.no "part" (by simp)) rfl ?_)
  refine wa_cons (w_part rfl rfl T.e_TooMany.xf (T.e_TooMany.no "what" (by simp)) rfl ?_)
  refine wa_nil ⟨by simp, ?_⟩
  show WS K _ [.pen, .is (val i), .is (val j), .is (.lst (errs cs (val i) (val j))), .is (eight (val i)), .no, .no] [] (n + 1 + 1) _
  refine ws_seq (ws_if (wt_or (wt_test (w_op (w_cb (wa_cons (w_var rfl (wa_nil (cw_repr2 (shw8 i) ?_)))))))))
  refine w_cb (wa_cons (w_op (w_of_wl (wl_lst (wa_cons (w_var rfl (wa_nil ⟨by simp, ?_⟩)))))))
  refine w_int (ows (owl_rep (by decide) (by decide) (by show 1 * 8 ≤ 100000; decide) ?_))
  refine wa_nil (cw_repr2 (ds := [val i, val i, val i, val i, val i, val i, val i, val i]) (shw8 i) (ow_neS ⟨_, rfl, brN (fun h => absurd rfl h) fun _ => ?_⟩))
  refine wt_test (w_op (w_cb (wa_cons (w_of_wl (wl_lst ?_)))))
  refine wa_cons (w_part rfl rfl T.e_BadText.xf (T.e_BadText.no "word" (by simp)) rfl ?_)
  refine wa_cons (w_part rfl rfl T.e_TooMany.xf (T.e_TooMany.no "most" (by simp)) rfl ?_)
  refine wa_nil ⟨by simp, wa_nil (cw_repr2 (shw2 j) ?_)⟩
  refine w_cb (wa_cons (w_of_wl (wl_lst (wa_cons (w_var rfl (wa_cons (w_var rfl (wa_nil ⟨by simp, ?_⟩))))))))
  refine wa_nil (cw_repr2 (shw2 j) (ow_neS ⟨_, rfl, brN (fun h => absurd rfl h) fun _ => ?_⟩))
  refine ws_next (ws_ret (w_op (w_of_wl (wl_lc (sw_enum (wa_cons (w_var rfl (wa_nil ⟨errs cs (val i) (val j), rfl, ?_⟩))))))))
  refine ⟨by simp [enumD], fun _ acc n2 => acc = [] ∧ n2 = n + 1 + 1, ⟨rfl, rfl⟩, ?_, ?_⟩
  · rintro l x acc n2 hx ⟨rfl, rfl⟩
    obtain ⟨m, ns, ds, rfl⟩ := errs_at hx
    refine gw_tup rfl (gws_cons (gw_name (by simp) (gws_cons (gw_name (by simp) (gws_nil ?_)))))
    refine wt_not (wt_tru (w_call (wa_cons (w_var rfl (wa_cons (w_var rfl (wa_nil ⟨(m, ns, ds), rfl, trivial, ?_⟩)))))))
    rintro _ rfl
    exact .inr (.inl ⟨true, rfl, fun h => Bool.noConfusion h, fun _ => ⟨rfl, rfl⟩⟩)
  · rintro acc n2 ⟨rfl, rfl⟩
    exact w_of_wl (wl_lst (wa_nil ⟨by simp, ow_eqD rfl rfl ⟨by omega, rfl⟩⟩))
end
end K00
namespace K00
open PySem PySem.Spec PyProof.Rows L2 NdefX DL StX
section
variable {P : Program} {K : Fg} {mg : Str → Option Value} {base : Heap} {cs : Cs}
theorem ins_at (T : Txt P K mg base cs) : ∀ b, InsC K (cl cs b)
  | false => T.nP.ic
  | true => T.nD.ic
def nmB : Bool → Str
  | false => "Paper"
  | true => "Denial"
theorem cn_at (T : Txt P K mg base cs) : ∀ b, ClsN K (cl cs b) (nmB b)
  | false => T.nP
  | true => T.nD
theorem kit_at (T : Txt P K mg base cs) : ∀ b, PySem.W.kitOne K (.ref (cl cs b)) (.ref cs.c_Paper) = some true
  | false => T.kPP
  | true => T.kDP
theorem word_at (T : Txt P K mg base cs) : ∀ b, NoAttr K (cl cs b) "word"
  | false => T.wP
  | true => T.wD
theorem parts_at (T : Txt P K mg base cs) : ∀ b, NoAttr K (cl cs b) "parts"
  | false => T.pP
  | true => T.pD
/-! the __init__ of papers -/
theorem body_ini (T : Txt P K mg base cs) (b : Bool) {vs : List V} {H : Hp} {Q : VK} {E : XK} (h : sp_ini K (cl cs b) vs H Q E) : t_Paper_init K cs { nx := fun _ H' => Q .non H', rt := Q } (L2.start N_Paper_init vs) H := by
  obtain ⟨a, dx, us, M, ds, rfl, hl, ha, hdx, ma, md, ex, r, ⟨w, rest, rfl, hy, hd⟩, c⟩ := h
  obtain ⟨u1, u2, rfl, r1, r2⟩ := r.two
  have cls := (ins_at T b).cl
  have eM1 : Ex M (upd H a (.ins (cl cs b) dx (putF "word" u1 []))) := fun z o hz => by
    rw [upd_ne (ne_of_none hz ma)]; exact ex z o hz
  refine ⟨u1, rfl, .ref a, rfl, a, cl cs b, dx, [], rfl, ha, cls, word_at T b, by decide, ?_⟩
  refine ⟨u2, rfl, M, .tup rest, ⟨hy, hd⟩, eM1, .cons r2 .nil, fun v M' H' d e1 eh ex' th rv hv => ?_⟩
  subst hv
  refine ⟨.ref a, rfl, a, cl cs b, dx, putF "word" u1 [], rfl, eh a _ upd_same, cls, parts_at T b, by show 1 < 1000; decide, ?_⟩
  have ma' : M' a = none := th a (by rw [upd_same]; exact fun z => nomatch z) ma
  refine c M' _ (putF "parts" v (putF "word" u1 [])) e1 (fun z o hz ho => ?_) (fun z o hz => ?_) (fun z hz hm => ?_) upd_same rfl (.cons (r1.mono e1) (.cons rv .nil))
  · rw [upd_ne hz]
    exact eh z o (by rw [upd_ne hz]; exact ho)
  · rw [upd_ne (ne_of_none hz ma')]
    exact ex' z o hz
  · refine th z ?_ hm
    by_cases hza : z = a
    · rw [hza, upd_same]; exact fun y => nomatch y
    · rw [upd_ne hza]; exact hz
/-! the own == -/
theorem rd_Paper_eq (T : Txt P K mg base cs) (p : Two) (hp : twoP p) : WS K (t_Paper_eq K cs) (slotsD N_Paper_eq (twoA cs p)) [] 0 (ED fun d => twoR p d) := by
  obtain ⟨⟨b, w, q⟩, o, l⟩ := p
  cases o with
  | none =>
    show WS K (t_Paper_eq K cs) [.is (.ins (cl cs b) nms [w, q]), .is (.tup l)] [] 0 _
    unfold t_Paper_eq
    refine ws_seq (ws_if (wt_or (wt_not (wt_tru (w_cb (wa_cons (w_var rfl (wa_cons (w_adr (wa_nil ?_)))))))))) 
    exact cw_isDC rfl T.kTP (.inr (.inl ⟨false, rfl, fun _ => ⟨fun _ => ws_ret (w_bl rfl), fun h => Bool.noConfusion h⟩, fun h => Bool.noConfusion h⟩))
  | some z =>
    obtain ⟨b2, w2, q2⟩ := z
    show WS K (t_Paper_eq K cs) [.is (.ins (cl cs b) nms [w, q]), .is (.ins (cl cs b2) nms [w2, q2])] [] 0 (ED fun d => d = .bl (decide (b = b2) && alike (.tup [w, q]) (.tup [w2, q2])))
    unfold t_Paper_eq
    refine ws_seq (ws_if (wt_or (wt_not (wt_tru (w_cb (wa_cons (w_var rfl (wa_cons (w_adr (wa_nil ?_)))))))))) 
    refine cw_isIC (ins_at T b2) (kit_at T b2) (.inr (.inl ⟨true, rfl, fun h => Bool.noConfusion h, fun _ => ?_⟩))
    refine wt_test (w_op (w_cn (w_var rfl ⟨_, _, _, _, rfl, cn_at T b, ?_⟩)))
    refine w_cn (w_var rfl ⟨_, _, _, _, rfl, cn_at T b2, ow_neS ⟨_, rfl, brN (fun h => ?_) (fun h => ?_)⟩⟩)
    · refine ws_ret (w_bl ?_)
      have hb : b ≠ b2 := fun e => h (by rw [e])
      simp [hb]
    · have hb : b = b2 := by
        cases b <;> cases b2 <;> first | rfl | exact absurd h (by decide)
      subst hb
      refine ws_next (ws_ret (w_call (wa_cons (w_tup ?_))))
      refine wa_cons (w_attI (w_var rfl ⟨_, _, _, _, rfl, (ins_at T b).cl, word_at T b, rfl, ?_⟩))
      refine wa_cons (w_attI (w_var rfl ⟨_, _, _, _, rfl, (ins_at T b).cl, parts_at T b, rfl, wa_nil ⟨by simp, ?_⟩⟩))
      refine wa_cons (w_tup ?_)
      refine wa_cons (w_attI (w_var rfl ⟨_, _, _, _, rfl, (ins_at T b).cl, word_at T b, rfl, ?_⟩))
      refine wa_cons (w_attI (w_var rfl ⟨_, _, _, _, rfl, (ins_at T b).cl, parts_at T b, rfl, wa_nil ⟨by simp, wa_nil ⟨(.tup [w, q], .tup [w2, q2]), rfl, hp, ?_⟩⟩⟩))
      rintro _ rfl
      show _ = _
      simp
end
end K00
namespace K00
open PySem PySem.Spec PyProof.Rows L2 NdefX DL StX
def t_loop (K : Fg) (cs : Cs) : TS :=
    (tFor (iRng1 (tCons (tC (.int 6)) tNil)) (gName 2) (tSeq (tIfS (tNot (tTru K (tCall (sp_law_errors_right K cs) [] E0 (tCons (tVar 1) tNil)))) (tRet (tC (.bl false))) tNext)
    (tSeq (tAsg (tTup (tCons (tCall (sp_law_value K cs) [] E0 (tCons (tVar 1) tNil)) (tCons (tCall (sp_law_value K cs) [] E0 (tCons (tVar 1) tNil)) tNil))) (gTup K 2 (gCons (gTup K 2 (gCons (gName 3) (gCons (gName 4) gNil))) (gCons (gTup K 2 (gCons (gName 5) (gCons (gName 6) gNil))) gNil))))
    (tSeq (tPar 7 8 (tCons (tMakeS cs.c_Paper (sp_Paper K cs) (tCons (tC (.str "met")) (tCons (tVar 3) (tCons (tVar 5) tNil)))) (tCons (tMakeS cs.c_Denial (sp_Denial K cs) (tCons (tC (.str "met")) (tCons (tVar 3) (tCons (tVar 5) tNil)))) tNil)))
    (tSeq (tIfS (tTest (tOp (rNeO K cs.f_eq (sp_eq K cs)) (tCB (rRepr2 K) (tCons (tLst (tCons (tCall (sp_fixed K cs) [] E0 (tCons (tVar 3) tNil)) (tCons (tCallM 0 1 (sp_fixed K cs) (perm [0]) E0 tNil (tCons (tVar 5) tNil)) (tCons (tAtt K (tVar 7) "word") (tCons (tAtt K (tVar 7) "parts") (tCons (tAtt K (tVar 8) "parts") tNil)))))) tNil)) (tCB (rRepr2 K) (tCons (tLst (tCons (tVar 4) (tCons (tVar 6) (tCons (tC (.str "met")) (tCons (tTup (tCons (tVar 4) (tCons (tVar 6) tNil))) (tCons (tTup (tCons (tVar 4) (tCons (tVar 6) tNil))) tNil)))))) tNil)))) (tRet (tC (.bl false))) tNext)
    (tSeq (tIfS (tOr (tTest (tOp (rNeO K cs.f_eq (sp_eq K cs)) (tVar 7) (tMakeS cs.c_Paper (sp_Paper K cs) (tCons (tC (.str "met")) (tCons (tVar 4) (tCons (tVar 6) tNil)))))) (tOr (tNot (tTest (tOp (rEqO K cs.f_eq (sp_eq K cs)) (tVar 7) (tMakeS cs.c_Paper (sp_Paper K cs) (tCons (tC (.str "met")) (tCons (tVar 4) (tCons (tVar 6) tNil))))))) (tOr (tTest (tOp (rEqO K cs.f_eq (sp_eq K cs)) (tVar 7) (tVar 8))) (tOr (tTest (tOp (rEqO K cs.f_eq (sp_eq K cs)) (tVar 7) (tMakeS cs.c_Paper (sp_Paper K cs) (tCons (tC (.str "chart")) (tCons (tVar 4) (tCons (tVar 6) tNil)))))) (tOr (tTest (tOp (rEqO K cs.f_eq (sp_eq K cs)) (tVar 7) (tTup (tCons (tVar 4) (tCons (tVar 6) tNil))))) (tOr (tNot (tTruB K (TB cs) (tVar 7))) (tTruB K (TB cs) (tVar 8)))))))) (tRet (tC (.bl false))) tNext)
    (tSeq (tIfS (tOr (tNot (tTru K (tCB (rIsB K) (tCons (tVar 8) (tCons (tC (.ref cs.c_Paper)) tNil))))) (tOr (tTru K (tCB (rIsB K) (tCons (tVar 7) (tCons (tC (.ref cs.c_Denial)) tNil)))) (tOr (tTest (tOp (rEqO K cs.f_eq (sp_eq K cs)) (tMakeS cs.c_Paper (sp_Paper K cs) (tCons (tC (.str "met")) (tCons (tC (.int 1)) tNil))) (tMakeS cs.c_Paper (sp_Paper K cs) (tCons (tC (.str "met")) (tCons (tC (.bl true)) tNil))))) (tOr (tTest (tOp (rEqO K cs.f_eq (sp_eq K cs)) (tMakeS cs.c_Paper (sp_Paper K cs) (tCons (tC (.str "met")) (tCons (tTup (tCons (tC (.int 0)) (tCons (tLst (tCons (tC (.int 1)) tNil)) tNil))) tNil))) (tMakeS cs.c_Paper (sp_Paper K cs) (tCons (tC (.str "met")) (tCons (tLst (tCons (tC (.int 0)) (tCons (tTup (tCons (tC (.bl true)) tNil)) tNil))) tNil))))) (tTest (tOp (rNeO K cs.f_eq (sp_eq K cs)) (tMakeS cs.c_Paper (sp_Paper K cs) (tCons (tC (.str "met")) (tCons (tLst (tCons (tC (.int 0)) (tCons (tC (.int 1)) tNil))) tNil))) (tMakeS cs.c_Paper (sp_Paper K cs) (tCons (tC (.str "met")) (tCons (tTup (tCons (tC (.int 0)) (tCons (tC (.int 1)) tNil))) tNil))))))))) (tRet (tC (.bl false))) tNext)
    (tIfS (tOr (tTest (tOp (rNeO K cs.f_eq (sp_eq K cs)) (tMakeS cs.c_Denial (sp_Denial K cs) (tCons (tC (.str "met")) (tCons (tVar 3) tNil))) (tMakeS cs.c_Denial (sp_Denial K cs) (tCons (tC (.str "met")) (tCons (tVar 4) tNil))))) (tOr (tTest (tOp (rEqO K cs.f_eq (sp_eq K cs)) (tMakeS cs.c_Paper (sp_Paper K cs) (tCons (tC (.str "met")) (tCons (tVar 3) (tCons (tC (.int 3)) tNil)))) (tMakeS cs.c_Paper (sp_Paper K cs) (tCons (tC (.str "met")) (tCons (tVar 3) (tCons (tC (.int 4)) tNil)))))) (tTest (tOp (rEqO K cs.f_eq (sp_eq K cs)) (tMakeS cs.c_Paper (sp_Paper K cs) (tCons (tC (.str "met")) (tCons (tVar 3) tNil))) (tMakeS cs.c_Paper (sp_Paper K cs) (tCons (tC (.str "met")) (tCons (tVar 3) (tCons (tVar 3) tNil)))))))) (tRet (tC (.bl false))) tNext))))))))
def t_end (K : Fg) (cs : Cs) : TS :=
    (tSeq (tAsg (tLst (tCons (tC (.int 1)) (tCons (tLst (tCons (tC (.int 2)) tNil)) tNil))) (gName 9))
    (tSeq (tAsg (tMakeS cs.c_Paper (sp_Paper K cs) (tCons (tC (.str "met")) (tCons (tVar 9) tNil))) (gName 10))
    (tSeq (tDrop (tBM K "list" rAppend (tOp (rIx K) (tVar 9) (tC (.int 1))) (tCons (tC (.int 3)) tNil)))
    (tRet (tOp (rEqO K cs.f_eq (sp_eq K cs)) (tAtt K (tVar 10) "parts") (tTup (tCons (tTup (tCons (tC (.int 1)) (tCons (tTup (tCons (tC (.int 2)) tNil)) tNil))) tNil)))))))
theorem t_law_is (K : Fg) (cs : Cs) : t_law K cs = tSeq (tAsg (tCall (sp_law_pen K cs) [] E0 (tCons (tVar 0) tNil)) (gName 1)) (tSeq (t_loop K cs) (t_end K cs)) := rfl
/-! what == tells of the papers that the law makes -/
abbrev pap (w : Str) (l : List DV) : DV := .tup [.str w, .tup l]
theorem f1 : ∀ i j : Fin 8, okP (pap "met" [due i, due j]) (pap "met" [due i, due j]) = true ∧ alike (pap "met" [due i, due j]) (pap "met" [due i, due j]) = true := by decide +kernel
theorem f2 : ∀ i j : Fin 8, okP (pap "met" [due i, due j]) (pap "chart" [due i, due j]) = true ∧ alike (pap "met" [due i, due j]) (pap "chart" [due i, due j]) = false := by decide +kernel
theorem f3 : okP (pap "met" [.int 1]) (pap "met" [.bl true]) = true ∧ alike (pap "met" [.int 1]) (pap "met" [.bl true]) = false := by decide +kernel
theorem f4 : okP (pap "met" [.tup [.int 0, .tup [.int 1]]]) (pap "met" [.tup [.int 0, .tup [.bl true]]]) = true ∧ alike (pap "met" [.tup [.int 0, .tup [.int 1]]]) (pap "met" [.tup [.int 0, .tup [.bl true]]]) = false := by decide +kernel
theorem f5 : okP (pap "met" [.tup [.int 0, .int 1]]) (pap "met" [.tup [.int 0, .int 1]]) = true ∧ alike (pap "met" [.tup [.int 0, .int 1]]) (pap "met" [.tup [.int 0, .int 1]]) = true := by decide +kernel
theorem f6 : ∀ i : Fin 8, okP (pap "met" [due i]) (pap "met" [due i]) = true ∧ alike (pap "met" [due i]) (pap "met" [due i]) = true := by decide +kernel
theorem f7 : ∀ i : Fin 8, okP (pap "met" [due i, .int 3]) (pap "met" [due i, .int 4]) = true ∧ alike (pap "met" [due i, .int 3]) (pap "met" [due i, .int 4]) = false := by decide +kernel
theorem f8 : ∀ i : Fin 8, okP (pap "met" [due i]) (pap "met" [due i, due i]) = true ∧ alike (pap "met" [due i]) (pap "met" [due i, due i]) = false := by decide +kernel
theorem g1 : ∀ i j : Fin 8, dep (pap "met" [due i, due j]) < 9 := by decide +kernel
theorem g6 : ∀ i : Fin 8, dep (pap "met" [due i]) < 9 := by decide +kernel
theorem g7 : ∀ i : Fin 8, dep (pap "met" [due i, .int 3]) < 9 := by decide +kernel
theorem y2 : ∀ i j : Fin 8, isY (.tup [val i, val j]) = true ∧ dep (.tup [val i, val j]) < 9 := by decide +kernel
theorem y2d : ∀ i j : Fin 8, isY (.tup [due i, due j]) = true ∧ dep (.tup [due i, due j]) < 9 := by decide +kernel
theorem y1 : ∀ i : Fin 8, isY (.tup [val i]) = true ∧ dep (.tup [val i]) < 9 := by decide +kernel
theorem y1d : ∀ i : Fin 8, isY (.tup [due i]) = true ∧ dep (.tup [due i]) < 9 := by decide +kernel
theorem y13 : ∀ i : Fin 8, isY (.tup [val i, .int 3]) = true ∧ dep (.tup [val i, .int 3]) < 9 := by decide +kernel
theorem y14 : ∀ i : Fin 8, isY (.tup [val i, .int 4]) = true ∧ dep (.tup [val i, .int 4]) < 9 := by decide +kernel
theorem fx2 (i j : Fin 8) : fixD (.tup [val i, val j]) = .tup [due i, due j] := by simp [fixD, fixL, fix_val]
theorem fx2d (i j : Fin 8) : fixD (.tup [due i, due j]) = .tup [due i, due j] := by simp [fixD, fixL, fix_due]
theorem fx1 (i : Fin 8) : fixD (.tup [val i]) = .tup [due i] := by simp [fixD, fixL, fix_val]
theorem fx1d (i : Fin 8) : fixD (.tup [due i]) = .tup [due i] := by simp [fixD, fixL, fix_due]
theorem fx13 (i : Fin 8) (m : Int) : fixD (.tup [val i, .int m]) = .tup [due i, .int m] := by simp [fixD, fixL, fix_val]
section
variable {P : Program} {K : Fg} {mg : Str → Option Value} {base : Heap} {cs : Cs} {Γ : List SA} {O : Own} {n : Nat}
/-- C(word, ..), what its parts become said -/
theorem w_mk {b : Bool} {t : TA} {k : DV → Nat → Prop} (h : WA K t Γ O n fun ds n1 => ∃ w rest q, ds = w :: rest ∧ (isY (.tup rest) = true ∧ dep (.tup rest) < 9) ∧ fixD (.tup rest) = q ∧ k (.ins (cl cs b) nms [w, q]) n1) : W K (tMakeS (cl cs b) (spStar 2 (sp_ini K (cl cs b))) t) Γ O n k := by
  refine w_mkS fun pn As H0 M H σ S Q c => h pn As H0 M H σ S Q fun vs M' H' ds n1 e1 S1 r1 ⟨w, rest, q, ed, hy, hf, hk⟩ => c vs M' H' ds n1 e1 S1 r1 ?_
  subst ed hf
  have hl : rest.length ≤ 1000 := by
    have := hy.1
    simp only [isY, Bool.and_eq_true, decide_eq_true_eq] at this
    exact this.1
  exact ⟨[w], rest, rfl, rfl, by omega, ⟨w, rest, rfl, hy⟩, hk⟩
theorem tyP (T : Txt P K mg base cs) (b : Bool) {ns : List Str} {ds : List DV} : TyD K (.ins (cl cs b) ns ds) (.ref (cl cs b)) := tyD_ins (ins_at T b)
theorem notF {C : Addr} : PySem.W.notFirst K C (.ref C) = true := by simp [PySem.W.notFirst]
theorem eq_at (T : Txt P K mg base cs) : ∀ b, PySem.W.findIn K (.ref (cl cs b)) "__eq__" = some (some (.ref cs.f_eq))
  | false => T.eP
  | true => T.eD
theorem ne_at (T : Txt P K mg base cs) : ∀ b, PySem.W.findIn K (.ref (cl cs b)) "__ne__" = some (some (.builtin "object.__ne__"))
  | false => T.xP
  | true => T.xD
theorem ow_pp (T : Txt P K mg base cs) (b : Bool) {w q w2 q2 : DV} {k : DV → Prop} (hp : okP (.tup [w, q]) (.tup [w2, q2]) = true) (hd : dep (.tup [w, q]) < 9) (c : k (.bl (alike (.tup [w, q]) (.tup [w2, q2])))) : OW K (rEqO K cs.f_eq (sp_eq K cs)) (.ins (cl cs b) nms [w, q]) (.ins (cl cs b) nms [w2, q2]) k :=
  ow_insEq ((b, w, q), some (b, w2, q2), []) (eq_at T b) (tyP T b) notF rfl ⟨hp, hd⟩ fun d hd => ⟨_, hd, by simpa using c⟩
theorem ow_ppN (T : Txt P K mg base cs) (b : Bool) {w q w2 q2 : DV} {k : DV → Prop} (hp : okP (.tup [w, q]) (.tup [w2, q2]) = true) (hd : dep (.tup [w, q]) < 9) (c : k (.bl (!alike (.tup [w, q]) (.tup [w2, q2])))) : OW K (rNeO K cs.f_eq (sp_eq K cs)) (.ins (cl cs b) nms [w, q]) (.ins (cl cs b) nms [w2, q2]) k :=
  ow_insNe ((b, w, q), some (b, w2, q2), []) (eq_at T b) (ne_at T b) (ins_at T b).hm (tyP T b) notF rfl ⟨hp, hd⟩ fun d hd => ⟨_, hd, by simpa using c⟩
theorem ow_pd (T : Txt P K mg base cs) {w q w2 q2 : DV} {k : DV → Prop} (hp : okP (.tup [w2, q2]) (.tup [w, q]) = true) (hd : dep (.tup [w2, q2]) < 9) (c : k (.bl false)) : OW K (rEqO K cs.f_eq (sp_eq K cs)) (.ins (cl cs false) nms [w, q]) (.ins (cl cs true) nms [w2, q2]) k :=
  ow_insEqR ((true, w2, q2), some (false, w, q), []) T.nDP T.sDP T.eD rfl ⟨hp, hd⟩ fun d hd => ⟨_, hd, by simpa using c⟩
theorem subT {C : Addr} : PySem.W.notFirst K C (.type "tuple") = true := by
  have e : fastBuiltinMro "tuple" = some [.type "tuple", .type "object"] := by decide +kernel
  have z : PySem.W.subIn K (.type "tuple") (.ref C) = some false := by
    show (fastBuiltinMro "tuple").map (·.contains (.ref C)) = some false
    rw [e]
    first | rfl | simp
  unfold PySem.W.notFirst
  rw [z]
  simp
theorem ow_pt (T : Txt P K mg base cs) (b : Bool) {w q : DV} {l : List DV} {k : DV → Prop} (c : k (.bl false)) : OW K (rEqO K cs.f_eq (sp_eq K cs)) (.ins (cl cs b) nms [w, q]) (.tup l) k :=
  ow_insEq ((b, w, q), none, l) (eq_at T b) (tyD_data rfl) subT rfl trivial fun d hd => ⟨_, hd, c⟩
end
end K00
namespace K00
open PySem PySem.Spec PyProof.Rows L2 NdefX DL StX
section
variable {P : Program} {K : Fg} {mg : Str → Option Value} {base : Heap} {cs : Cs}
theorem w_mkV2 {Γ : List SA} {O : Own} {n : Nat} (b : Bool) {w : Str} {i j : Nat} {x y q : DV} {k : DV → Nat → Prop} (hi : Γ[i]? = some (.is x)) (hj : Γ[j]? = some (.is y)) (hy : isY (.tup [x, y]) = true ∧ dep (.tup [x, y]) < 9) (hf : fixD (.tup [x, y]) = q) (c : k (.ins (cl cs b) nms [.str w, q]) n) :
    W K (tMakeS (cl cs b) (spStar 2 (sp_ini K (cl cs b))) (tCons (tC (.str w)) (tCons (tVar i) (tCons (tVar j) tNil)))) Γ O n k := by
  refine w_mk (wa_cons (w_str (wa_cons (w_var hi (wa_cons (w_var hj ?_))))))
  exact wa_nil ⟨_, _, _, rfl, hy, hf, c⟩
theorem w_mkV1 {Γ : List SA} {O : Own} {n : Nat} (b : Bool) {w : Str} {i : Nat} {x q : DV} {k : DV → Nat → Prop} (hi : Γ[i]? = some (.is x)) (hy : isY (.tup [x]) = true ∧ dep (.tup [x]) < 9) (hf : fixD (.tup [x]) = q) (c : k (.ins (cl cs b) nms [.str w, q]) n) :
    W K (tMakeS (cl cs b) (spStar 2 (sp_ini K (cl cs b))) (tCons (tC (.str w)) (tCons (tVar i) tNil))) Γ O n k := by
  refine w_mk (wa_cons (w_str (wa_cons (w_var hi ?_))))
  exact wa_nil ⟨_, _, _, rfl, hy, hf, c⟩
theorem w_mkVI {Γ : List SA} {O : Own} {n : Nat} (b : Bool) {w : Str} {i : Nat} {m : Int} {x q : DV} {k : DV → Nat → Prop} (hi : Γ[i]? = some (.is x)) (hy : isY (.tup [x, .int m]) = true ∧ dep (.tup [x, .int m]) < 9) (hf : fixD (.tup [x, .int m]) = q) (c : k (.ins (cl cs b) nms [.str w, q]) n) :
    W K (tMakeS (cl cs b) (spStar 2 (sp_ini K (cl cs b))) (tCons (tC (.str w)) (tCons (tVar i) (tCons (tC (.int m)) tNil)))) Γ O n k := by
  refine w_mk (wa_cons (w_str (wa_cons (w_var hi (wa_cons (w_int ?_))))))
  exact wa_nil ⟨_, _, _, rfl, hy, hf, c⟩
theorem w_mkT {Γ : List SA} {O : Own} {n : Nat} (b : Bool) {w : Str} {te : TE} {k : DV → Nat → Prop} (h : W K te Γ O n fun x n1 => ∃ q, (isY (.tup [x]) = true ∧ dep (.tup [x]) < 9) ∧ fixD (.tup [x]) = q ∧ k (.ins (cl cs b) nms [.str w, q]) n1) :
    W K (tMakeS (cl cs b) (spStar 2 (sp_ini K (cl cs b))) (tCons (tC (.str w)) (tCons te tNil))) Γ O n k := by
  refine w_mk (wa_cons (w_str (wa_cons ?_)))
  intro pn As H0 M H σ S Q c
  refine h pn As H0 M H σ S Q fun v M' H' d n' e1 S1 r ⟨q, hy, hf, hk⟩ => c v M' H' d n' e1 S1 r ?_
  exact wa_nil ⟨_, _, _, rfl, hy, hf, hk⟩
abbrev EL : KE := { nx := fun Γ O _ => Γ.length = 11 ∧ O = [], rt := fun _ _ _ => False }
/-- one turn -/
theorem rd_loop (T : Txt P K mg base cs) (a : Addr) : WS K (t_loop K cs) [.is (.adr a), .pen, .no, .no, .no, .no, .no, .no, .no, .no, .no] [] 0 EL := by
  unfold t_loop
  refine ws_for (vs := [2]) (sw_rng1 (wa_cons (w_int (wa_nil ⟨6, rfl, by omega, by omega, fun i Γ O n => ∃ x1 x2 x3 x4 x5 x6 x7, Γ = [.is (.adr a), .pen, x1, x2, x3, x4, x5, x6, x7, .no, .no] ∧ O = [] ∧ n ≤ 10 * i, ⟨_, _, _, _, _, _, _, rfl, rfl, by omega⟩, ?_, ?_⟩))))
  · rintro i x _ _ n hx ⟨z1, z2, z3, z4, z5, z6, z7, rfl, rfl, hn⟩
    have hi := (rngD_get hx).1
    have hi6 : i < 6 := hi
    refine gw_name (by simp) (ws_seq (ws_if (wt_not (wt_tru (w_callP rfl (wa_nil ⟨(), rfl, trivial, by omega, ?_⟩))))))
    rintro _ rfl
    refine .inr (.inl ⟨true, rfl, brF (ws_next ?_)⟩)
    refine ws_seq (ws_asgG (w_tup ?_))
    refine wa_cons (w_callP rfl (wa_nil ⟨(), rfl, trivial, by omega, ?_⟩))
    rintro _ ⟨u, rfl⟩
    refine wa_cons (w_callP rfl (wa_nil ⟨(), rfl, trivial, by omega, ?_⟩))
    rintro _ ⟨v, rfl⟩
    refine wa_nil ⟨by simp, xg_tup rfl ?_⟩
    refine xgs_cons (xg_tup rfl (xgs_cons (xg_name (xgs_cons (xg_name (xgs_nil ?_))))))
    refine xgs_cons (xg_tup rfl (xgs_cons (xg_name (xgs_cons (xg_name (xgs_nil ?_))))))
    refine xgs_nil ?_
    show WS K _ [.is (.adr a), .pen, .is x, .is (val u), .is (due u), .is (val v), .is (due v), z6, z7, .no, .no] [] _ _
    refine ws_seq (ws_par ?_)
    refine wa_cons (w_mkV2 false rfl rfl (y2 u v) (fx2 u v) ?_)
    refine wa_cons (w_mkV2 true rfl rfl (y2 u v) (fx2 u v) ?_)
    refine wa_nil ⟨_, _, rfl, ?_⟩
    show WS K _ [.is (.adr a), .pen, .is x, .is (val u), .is (due u), .is (val v), .is (due v), .is (.ins (cl cs false) nms [.str "met", .tup [due u, due v]]), .is (.ins (cl cs true) nms [.str "met", .tup [due u, due v]]), .no, .no] [] _ _
    refine ws_seq (ws_if (wt_test (w_op (w_cb (wa_cons (w_of_wl (wl_lst ?_)))))))
    refine wa_cons (w_call (wa_cons (w_var rfl (wa_nil ⟨val u, rfl, ⟨x_val u, Nat.lt_of_lt_of_le (d_val u) (by decide)⟩, ?_⟩))))
    intro d hd
    obtain rfl := hd.trans (fix_val u)
    refine wa_cons (w_kw (wa_cons (w_var rfl (wa_nil ⟨rfl, val v, rfl, ⟨x_val v, Nat.lt_of_lt_of_le (d_val v) (by decide)⟩, ?_⟩))))
    intro d hd
    obtain rfl := hd.trans (fix_val v)
    refine wa_cons (w_attI (w_var rfl ⟨_, _, _, _, rfl, (ins_at T false).cl, word_at T false, rfl, ?_⟩))
    refine wa_cons (w_attI (w_var rfl ⟨_, _, _, _, rfl, (ins_at T false).cl, parts_at T false, rfl, ?_⟩))
    refine wa_cons (w_attI (w_var rfl ⟨_, _, _, _, rfl, (ins_at T true).cl, parts_at T true, rfl, wa_nil ⟨by simp, ?_⟩⟩))
    refine wa_nil (cw_repr2 (shw5 u v) (w_cb (wa_cons (w_of_wl (wl_lst ?_)))))
    refine wa_cons (w_var rfl (wa_cons (w_var rfl (wa_cons (w_str ?_)))))
    refine wa_cons (w_tup (wa_cons (w_var rfl (wa_cons (w_var rfl (wa_nil ⟨by simp, ?_⟩))))))
    refine wa_cons (w_tup (wa_cons (w_var rfl (wa_cons (w_var rfl (wa_nil ⟨by simp, wa_nil ⟨by simp, ?_⟩⟩))))))
    refine wa_nil (cw_repr2 (shw5 u v) (ow_neOd (ow_neS ⟨_, rfl, brN (fun h => absurd rfl h) fun _ => ws_next ?_⟩)))
    -- the papers against one another
    refine ws_seq (ws_if ?_)
    refine wt_or (wt_test (w_op (w_var rfl (w_mkV2 false rfl rfl (y2d u v) (fx2d u v) ?_))))
    refine ow_ppN T false (f1 u v).1 (g1 u v) ⟨_, rfl, ?_⟩
    rw [(f1 u v).2]
    refine brF (wt_or (wt_not (wt_test (w_op (w_var rfl (w_mkV2 false rfl rfl (y2d u v) (fx2d u v) ?_))))))
    refine ow_pp T false (f1 u v).1 (g1 u v) ⟨_, rfl, ?_⟩
    rw [(f1 u v).2]
    refine brF (wt_or (wt_test (w_op (w_var rfl (w_var rfl ?_)))))
    refine ow_pd T (f1 u v).1 (g1 u v) ⟨_, rfl, brF ?_⟩
    refine wt_or (wt_test (w_op (w_var rfl (w_mkV2 false rfl rfl (y2d u v) (fx2d u v) ?_))))
    refine ow_pp T false (f2 u v).1 (g1 u v) ⟨_, rfl, ?_⟩
    rw [(f2 u v).2]
    refine brF (wt_or (wt_test (w_op (w_var rfl (w_tup ?_)))))
    refine wa_cons (w_var rfl (wa_cons (w_var rfl (wa_nil ⟨by simp, ?_⟩))))
    refine ow_pt T false ⟨_, rfl, brF ?_⟩
    refine wt_or (wt_not (wt_truB (w_var rfl (.inr ⟨_, _, _, cs.f_bP, true, rfl, T.bP, .inl ⟨rfl, rfl, rfl⟩, brF ?_⟩))))
    refine wt_truB (w_var rfl (.inr ⟨_, _, _, cs.f_bD, false, rfl, T.bD, .inr ⟨rfl, rfl, rfl⟩, brF (ws_next ?_)⟩))
    -- classes, kinds
    refine ws_seq (ws_if ?_)
    refine wt_or (wt_not (wt_tru (w_cb (wa_cons (w_var rfl (wa_cons (w_adr (wa_nil ?_))))))))
    refine cw_isIC (ins_at T true) T.kDP (.inr (.inl ⟨true, rfl, brF ?_⟩))
    refine wt_or (wt_tru (w_cb (wa_cons (w_var rfl (wa_cons (w_adr (wa_nil ?_)))))))
    refine cw_isIC (ins_at T false) T.kPD (.inr (.inl ⟨false, rfl, brF ?_⟩))
    refine wt_or (wt_test (w_op (w_mkT false (w_int ⟨.tup [.int 1], by decide, rfl, ?_⟩))))
    refine w_mkT false (w_bl ⟨.tup [.bl true], by decide, rfl, ?_⟩)
    refine ow_pp T false f3.1 (by decide) ⟨_, rfl, ?_⟩
    rw [f3.2]
    refine brF (wt_or (wt_test (w_op (w_mkT false (w_tup ?_)))))
    refine wa_cons (w_int (wa_cons (w_of_wl (wl_lst (wa_cons (w_int (wa_nil ⟨by simp, ?_⟩)))))))
    refine wa_nil ⟨by simp, .tup [.tup [.int 0, .tup [.int 1]]], by decide, rfl, ?_⟩
    refine w_mkT false (w_of_wl (wl_lst ?_))
    refine wa_cons (w_int (wa_cons (w_tup (wa_cons (w_bl (wa_nil ⟨by simp, ?_⟩))))))
    refine wa_nil ⟨by simp, .tup [.tup [.int 0, .tup [.bl true]]], by decide, rfl, ?_⟩
    refine ow_pp T false f4.1 (by decide) ⟨_, rfl, ?_⟩
    rw [f4.2]
    refine brF (wt_test (w_op (w_mkT false (w_of_wl (wl_lst ?_)))))
    refine wa_cons (w_int (wa_cons (w_int (wa_nil ⟨by simp, .tup [.tup [.int 0, .int 1]], by decide, rfl, ?_⟩))))
    refine w_mkT false (w_tup ?_)
    refine wa_cons (w_int (wa_cons (w_int (wa_nil ⟨by simp, .tup [.tup [.int 0, .int 1]], by decide, rfl, ?_⟩))))
    refine ow_ppN T false f5.1 (by decide) ⟨_, rfl, ?_⟩
    rw [f5.2]
    refine brF (ws_next (ws_if ?_))
    refine wt_or (wt_test (w_op (w_mkV1 true rfl (y1 u) (fx1 u) (w_mkV1 true rfl (y1d u) (fx1d u) ?_))))
    refine ow_ppN T true (f6 u).1 (g6 u) ⟨_, rfl, ?_⟩
    rw [(f6 u).2]
    refine brF (wt_or (wt_test (w_op (w_mkVI false rfl (y13 u) (fx13 u 3) (w_mkVI false rfl (y14 u) (fx13 u 4) ?_)))))
    refine ow_pp T false (f7 u).1 (g7 u) ⟨_, rfl, ?_⟩
    rw [(f7 u).2]
    refine brF (wt_test (w_op (w_mkV1 false rfl (y1 u) (fx1 u) (w_mkV2 false rfl rfl (y2 u u) (fx2 u u) ?_))))
    refine ow_pp T false (f8 u).1 (g6 u) ⟨_, rfl, ?_⟩
    rw [(f8 u).2]
    refine brF (ws_next ?_)
    exact ⟨_, _, _, _, _, _, _, rfl, rfl, by omega⟩
  · rintro _ _ n ⟨z1, z2, z3, z4, z5, z6, z7, rfl, rfl, hn⟩
    exact ⟨rfl, rfl⟩
end
end K00
namespace K00
open PySem PySem.Spec PyProof.Rows L2 NdefX DL StX
/-! data without lists is not touched by a change of a list -/
mutual
def noLst : DV → Bool
  | .lst _ => false
  | .tup ds => noLstL ds
  | .ins _ _ ds => noLstL ds
  | .dic _ ds => noLstL ds
  | .exc _ _ _ => false
  | .non => true
  | .bl _ => true
  | .int _ => true
  | .str _ => true
  | .ty _ => true
  | .adr _ => true
def noLstL : List DV → Bool
  | [] => true
  | d :: ds => noLst d && noLstL ds
end
section
variable {K : Fg} {M : Hp} {b : Addr} {ws us : List V}
theorem sqT_upd {a : Addr} {xs : List V} (hb : M b = some (.lst ws)) (h : SqT K M a xs) : SqT K (upd M b (.lst us)) a xs := by
  rcases h with (h | ⟨o, h⟩) | h
  · exact .inl (.inl (by rw [upd_ne (fun z => by rw [z, hb] at h; cases h)]; exact h))
  · exact .inl (.inr ⟨o, by rw [upd_ne (fun z => by rw [z, hb] at h; cases h)]; exact h⟩)
  · exact .inr h
mutual
theorem Rp_upd (hb : M b = some (.lst ws)) : ∀ {d : DV} {v : V}, Rp K M v d → noLst d = true → Rp K (upd M b (.lst us)) v d
  | .non, _, h, _ => by cases h; exact .non
  | .bl _, _, h, _ => by cases h; exact .bl _
  | .int _, _, h, _ => by cases h; exact .int _
  | .str _, _, h, _ => by cases h; exact .str _
  | .ty _, _, h, _ => by cases h; exact .ty _
  | .adr _, _, h, _ => by cases h; exact .adr _
  | .tup ds, _, h, p => by
    cases h with
    | tup a r => exact .tup (sqT_upd hb a) (RpL_upd hb r (by simpa [noLst] using p))
  | .lst ds, _, h, p => by simp [noLst] at p
  | .ins C ns ds, _, h, p => by
    cases h with
    | ins a e r => exact .ins (by rw [upd_ne (fun z => by rw [z, hb] at a; cases a)]; exact a) e (RpL_upd hb r (by simpa [noLst] using p))
  | .dic ks ds, _, h, p => by
    cases h with
    | dic a e r => exact .dic (by rw [upd_ne (fun z => by rw [z, hb] at a; cases a)]; exact a) e (RpL_upd hb r (by simpa [noLst] using p))
  | .exc C ns ds, _, h, p => by simp [noLst] at p
theorem RpL_upd (hb : M b = some (.lst ws)) : ∀ {ds : List DV} {vs : List V}, RpL K M vs ds → noLstL ds = true → RpL K (upd M b (.lst us)) vs ds
  | [], _, h, _ => by cases h; exact .nil
  | d :: ds, _, h, p => by
    have p' : noLst d = true ∧ noLstL ds = true := by simpa [noLstL] using p
    cases h with
    | cons a r => exact .cons (Rp_upd hb a p'.1) (RpL_upd hb r p'.2)
end
end
section
variable {P : Program} {K : Fg} {mg : Str → Option Value} {base : Heap} {cs : Cs}
abbrev noE : Ent := ⟨fun _ => none, fun _ => False⟩
abbrev hd10 (cs : Cs) : DV := .ins (cl cs false) nms [.str "met", .tup [.tup [.int 1, .tup [.int 2]]]]
/-- the last four statements: from any heap -/
theorem law_end (T : Txt P K mg base cs) {σ : L2.St} {H : Hp} {D : Ends} (hσ : σ.length = 11) (hD : ∀ H', D.rt (.bl true) H') : t_end K cs D σ H := by
  have S0 : Sta K none [] noE (fun _ => none) H σ (List.replicate 11 .no) [] 0 := by
    refine ⟨⟨fun a o h => (nomatch h), fun a o _ h => (nomatch h), fun p hp => (nomatch hp)⟩, fun j a ds h => (by simp at h), fun a h => (by simp at h), fun a h => h.elim, List.nodup_nil, rfl, by simpa using hσ, fun i t h => ?_⟩
    rw [List.getElem?_replicate] at h
    split at h
    · cases h; exact True.intro
    · cases h
  have A : WS K (tAsg (tLst (tCons (tC (.int 1)) (tCons (tLst (tCons (tC (.int 2)) tNil)) tNil))) (gName 9)) (List.replicate 11 .no) [] 0 { nx := fun Γ O n => Γ = (List.replicate 11 SA.no).set 9 (.is (.lst [.int 1, .lst [.int 2]])) ∧ O = [], rt := fun _ _ _ => False } := by
    refine ws_asg (w_of_wl (wl_lst ?_))
    refine wa_cons (w_int (wa_cons (w_of_wl (wl_lst ?_))))
    exact wa_cons (w_int (wa_nil ⟨by simp, wa_nil ⟨by simp, rfl, rfl⟩⟩))
  have B : WS K (tAsg (tMakeS cs.c_Paper (sp_Paper K cs) (tCons (tC (.str "met")) (tCons (tVar 9) tNil))) (gName 10)) ((List.replicate 11 SA.no).set 9 (.is (.lst [.int 1, .lst [.int 2]]))) [] 0
      { nx := fun Γ O n => Γ = ((List.replicate 11 SA.no).set 9 (.is (.lst [.int 1, .lst [.int 2]]))).set 10 (.is (hd10 cs)) ∧ O = [], rt := fun _ _ _ => False } := by
    exact ws_asg (w_mkV1 false rfl (by decide) rfl ⟨rfl, rfl⟩)
  refine A none [] noE _ H σ { D with nx := _ } S0 ⟨?_, fun _ _ _ _ _ _ _ _ _ _ _ _ _ q => q.elim, fun _ _ _ _ _ _ _ _ _ _ q => q.elim, fun _ _ _ _ _ _ _ _ _ _ q => q.elim⟩
  rintro As1 M1 H1 σ1 _ _ n1 _ _ S1 ⟨rfl, rfl⟩
  have S1' : Sta K none As1 noE M1 H1 σ1 ((List.replicate 11 SA.no).set 9 (.is (.lst [.int 1, .lst [.int 2]]))) [] 0 := ⟨⟨S1.ex, S1.kp, fun p hp => (nomatch hp)⟩, S1.own, S1.live, S1.pr, S1.nd, S1.len, S1.sl, S1.ok⟩
  refine B none As1 noE M1 H1 σ1 { D with nx := _ } S1' ⟨?_, fun _ _ _ _ _ _ _ _ _ _ _ _ _ q => q.elim, fun _ _ _ _ _ _ _ _ _ _ q => q.elim, fun _ _ _ _ _ _ _ _ _ _ q => q.elim⟩
  rintro As2 M2 H2 σ2 _ _ n2 _ _ S2 ⟨rfl, rfl⟩
  have C : W K (tOp (rIx K) (tVar 9) (tC (.int 1))) (((List.replicate 11 SA.no).set 9 (.is (.lst [.int 1, .lst [.int 2]]))).set 10 (.is (hd10 cs))) [] n2 fun d _ => d = .lst [.int 2] := w_op (w_var rfl (w_int (ow_ixL rfl rfl)))
  refine C none As2 noE M2 H2 σ2 S2 _ fun v M3 H3 d n3 _ S3 r3 e3 => ?_
  subst e3
  obtain ⟨a, vs, rfl, ha, rv⟩ := r3.lst'
  have hH : H3 a = some (.lst vs) := S3.ex _ _ ha
  have ev : vs = [.int 2] := RpL.ints (ns := [2]) rv
  subst ev
  refine ⟨.inl ⟨rfl, _, .inl (.inl hH)⟩, a, [.int 2], .int 3, rfl, rfl, hH, by rw [sizeLine_eq]; decide, ?_⟩
  have S4 : Sta K none [] noE (upd M3 a (.lst [.int 2, .int 3])) (upd H3 a (.lst [.int 2, .int 3])) σ2 ((List.replicate 11 SA.no).set 10 (.is (hd10 cs))) [] 0 := by
    refine ⟨⟨fun b o h => ?_, fun b o _ h => (nomatch h), fun p hp => (nomatch hp)⟩, fun j b ds h => (by simp at h), fun b h => (by simp at h), fun b h => h.elim, List.nodup_nil, rfl, by simpa using S3.sl, fun i t h => ?_⟩
    · by_cases hb : b = a
      · subst hb; rw [upd_same] at h ⊢; exact h
      · rw [upd_ne hb] at h ⊢; exact S3.ex b o h
    · by_cases hi : i = 10
      · subst hi
        have h' : t = .is (hd10 cs) := (Option.some.inj h).symm
        subst h'
        obtain ⟨w, h1, h2⟩ := S3.ok 10 (.is (hd10 cs)) rfl
        exact ⟨w, h1, Rp_upd ha h2 rfl⟩
      · rw [List.getElem?_set_ne (Ne.symm hi), List.getElem?_replicate] at h
        split at h
        · cases h; exact True.intro
        · cases h
  have R : WS K (tRet (tOp (rEqO K cs.f_eq (sp_eq K cs)) (tAtt K (tVar 10) "parts") (tTup (tCons (tTup (tCons (tC (.int 1)) (tCons (tTup (tCons (tC (.int 2)) tNil)) tNil))) tNil)))) ((List.replicate 11 SA.no).set 10 (.is (hd10 cs))) [] 0 (ED fun d => d = .bl true) := by
    refine ws_ret (w_op (w_attI (w_var rfl ⟨_, _, _, _, rfl, (ins_at T false).cl, parts_at T false, rfl, w_tup ?_⟩)))
    refine wa_cons (w_tup (wa_cons (w_int (wa_cons (w_tup ?_)))))
    refine wa_cons (w_int (wa_nil ⟨by simp, wa_nil ⟨by simp, wa_nil ⟨by simp, ?_⟩⟩⟩))
    exact ow_eqOd (ow_eqD rfl rfl rfl)
  refine R none [] noE _ _ σ2 D S4 ⟨fun _ _ _ _ _ _ _ _ _ _ q => (nomatch q), fun _ v5 M5 H5 _ _ _ d5 _ _ _ _ r5 q5 => ?_, fun _ _ _ _ _ _ _ _ _ _ q => q.elim, fun _ _ _ _ _ _ _ _ _ _ q => q.elim⟩
  have q' : d5 = .bl true := q5
  subst q'
  rw [r5.bl']
  exact hD H5
end
end K00
namespace K00
open PySem PySem.Spec PyProof.Rows L2 NdefX DL StX
section
variable {P : Program} {w : World} {K : Fg} {mg : Str → Option Value} {base : Heap} {cs : Cs}
theorem body_pen {vs : List V} {H : Hp} {Q : VK} {E : XK} (h : sp_law_pen K cs vs H Q E) : t_law_pen K cs { nx := fun _ H' => Q .non H', rt := Q } (L2.start N_law_pen vs) H := by
  obtain ⟨M, a, ns, rfl, hq, hl, ex, c⟩ := h
  have S := enter (K := K) (N := N_law_pen) (M := M) (H := H) (vs := [.ref a]) (ds := [.adr a]) ex (.cons (.adr a) .nil)
  have w : WL K (tLst (tCons (tLc (iSeq K (scr K a (ns.map V.int))) (gName 1) tYes (tCB rInt1 (tCons (tVar 1) tNil)) [1]) (tCons (tC (.int 0)) (tCons (tC (.int 0)) tNil)))) (slotsD N_law_pen [.adr a]) [] 0 fun ds _ => ds = [.lst ((ns.take 63).map DV.int), .int 0, .int 0] := by
    refine wl_lst (wa_cons (w_of_wl (wl_lcF (α := Int) (sw_seq (w_of_wl (wl_scr rfl ⟨_, .inl rfl, ns.take 63, DV.int, DV.int, rfl, ?_, fun x _ => ?_, ?_⟩))))))
    · rw [List.length_take]; omega
    · exact gw_name (by simp) (w_cb (wa_cons (w_var rfl (wa_nil (cw_intI ⟨rfl, rfl⟩)))))
    · exact wa_cons (w_int (wa_cons (w_int (wa_nil ⟨by simp, rfl⟩))))
  have fin := w none [] _ M H _ S Q fun p us M' H' ds n' e1 S1 h1 h2 _ _ _ h5 h6 hd => by
    subst hd
    refine c p M' H' e1 (fun b o g => S1.kp b o (fun z => nomatch z) g) S1.ex h1 h2 ⟨us, ns.take 63, 0, 0, h5, h6, ?_, by decide, by decide, by decide⟩
    rw [List.length_take]; omega
  exact fin hq
theorem body_draw {vs : List V} {H : Hp} {Q : VK} {E : XK} (h : sp_law_draw K cs vs H Q E) : t_law_draw K cs { nx := fun _ H' => Q .non H', rt := Q } (L2.start N_law_draw vs) H :=
  body_own h fun m n cells at_ left hp hn hl h0 h1 h2 => rd_draw (c1 := 143001) (c2 := 15101) (c3 := 4201) (c4 := 91003) (by decide) (by decide) (by decide) (by decide) m n cells at_ left hp.1 hp.2 hn hl h0 h1 h2
theorem body_law (T : Txt P K mg base cs) {vs : List V} {H : Hp} {Q : VK} {E : XK} (h : sp_law K cs vs H Q E) : t_law K cs { nx := fun _ H' => Q .non H', rt := Q } (L2.start N_law vs) H := by
  obtain ⟨a, ns, rfl, hq, hl, c⟩ := h
  rw [t_law_is]
  refine ⟨.ref a, rfl, H, a, ns, rfl, hq, hl, Evl.Ex.refl H, fun p M' H' e1 eh ex hp hpH pen => ?_⟩
  have S2 : Sta K (some p) [] ⟨H', fun _ => False⟩ M' H' ((L2.start N_law [.ref a]).set 1 (some (.ref p))) [.is (.adr a), .pen, .no, .no, .no, .no, .no, .no, .no, .no, .no] [] 0 := by
    refine ⟨⟨ex, fun b o _ g => g, fun q hq => by cases hq; exact ⟨hp, pen⟩⟩, fun j b ds h => by simp at h, fun b hb => by simp at hb, fun b hb => hb.elim, List.nodup_nil, rfl, rfl, fun i s hi => ?_⟩
    match i, hi with
    | 0, hi => cases hi; exact ⟨.ref a, rfl, .adr a⟩
    | 1, hi => cases hi; exact ⟨p, rfl, rfl⟩
    | 2, hi => cases hi; exact True.intro
    | 3, hi => cases hi; exact True.intro
    | 4, hi => cases hi; exact True.intro
    | 5, hi => cases hi; exact True.intro
    | 6, hi => cases hi; exact True.intro
    | 7, hi => cases hi; exact True.intro
    | 8, hi => cases hi; exact True.intro
    | 9, hi => cases hi; exact True.intro
    | 10, hi => cases hi; exact True.intro
    | i + 11, hi => simp at hi
  refine rd_loop T a (some p) [] ⟨H', fun _ => False⟩ M' H' _ { nx := _, rt := Q } S2 ⟨?_, fun _ _ _ _ _ _ _ _ _ _ _ _ _ q => q.elim, fun _ _ _ _ _ _ _ _ _ _ q => q.elim, fun _ _ _ _ _ _ _ _ _ _ q => q.elim⟩
  rintro As3 M3 H3 σ3 Γ3 O3 n3 _ _ S3 ⟨hΓ, _⟩
  exact law_end T (by rw [S3.sl]; exact hΓ) c
/-! every def keeps its promise -/
theorem len_D {α : Type} {pre : α → Prop} {args : α → List DV} {res : α → DV → Prop} {m : Nat} (hm : ∀ a, (args a).length = m) (vs : List V) (H : Hp) (Q : VK) (E : XK) (h : spD K pre args res vs H Q E) : vs.length = m := by
  obtain ⟨M, a, _, _, r, _⟩ := h
  exact r.length.trans (hm a)
theorem len_P {α : Type} {pre : α → Prop} {args : α → List DV} {cost : α → Nat} {res : α → DV → Prop} {m : Nat} (hm : ∀ a, (args a).length + 1 = m) (vs : List V) (H : Hp) (Q : VK) (E : XK) (h : spP K pre args cost res vs H Q E) : vs.length = m := by
  obtain ⟨p, us, M, n, a, _, rfl, _, _, _, _, r, _⟩ := h
  exact (congrArg (· + 1) r.length).trans (hm a)
theorem ok_law_pen (T : Txt P K mg base cs) : Has P w K mg base 1 "_law_pen" s_law_pen P_law_pen (sp_law_pen K cs) :=
  T.a_law_pen.has sc_law_pen (fun vs H Q E h => by obtain ⟨M, a, ns, rfl, _⟩ := h; rfl) fun f cdv A outer s H vs Q E hr hG h => ⟨t_law_pen K cs, d_law_pen T hr hG, body_pen h⟩
theorem ok_law_draw (T : Txt P K mg base cs) : Has P w K mg base 1 "_law_draw" s_law_draw P_law_draw (sp_law_draw K cs) :=
  T.a_law_draw.has sc_law_draw (len_P fun _ => rfl) fun f cdv A outer s H vs Q E hr hG h => ⟨t_law_draw K cs, d_law_draw T hr hG, body_draw h⟩
theorem ok_law_pick (T : Txt P K mg base cs) : Has P w K mg base 2 "_law_pick" s_law_pick P_law_pick (sp_law_pick K cs) :=
  T.a_law_pick.has sc_law_pick (len_P fun _ => rfl) fun f cdv A outer s H vs Q E hr hG h => ⟨t_law_pick K cs, d_law_pick T (ok_law_draw T) hr hG, body_P h (fun a n hp hn => rd_law_pick a n hp hn)⟩
theorem ok_law_value (T : Txt P K mg base cs) : Has P w K mg base 3 "_law_value" s_law_value P_law_value (sp_law_value K cs) :=
  T.a_law_value.has sc_law_value (len_P fun _ => rfl) fun f cdv A outer s H vs Q E hr hG h => ⟨t_law_value K cs, d_law_value T (ok_law_pick T) hr hG, body_P h (fun a n hp hn => rd_law_value a n hp hn)⟩
theorem ok_law_below (T : Txt P K mg base cs) : Has P w K mg base 1 "_law_below" s_law_below P_law_below (sp_law_below K cs) :=
  T.a_law_below.has sc_law_below (len_D fun _ => rfl) fun f cdv A outer s H vs Q E hr hG h => ⟨t_law_below K cs, d_law_below T hr hG, body_D h (fun a hp => rd_law_below T a)⟩
theorem ok_fixedR (T : Txt P K mg base cs) : ∀ n, Has P w K mg base n "fixed" s_fixed P_fixed (spR_fixed K cs n)
  | 0 => has_none T.a_fixed fun vs H Q E h => by
    obtain ⟨M, a, hp, _⟩ := h
    exact absurd hp.2 (Nat.not_lt_zero _)
  | n + 1 => T.a_fixed.has sc_fixed (len_D fun _ => rfl) fun f cdv A outer s H vs Q E hr hG h => ⟨t_fixed K cs n, d_fixed T n (ok_fixedR T n) hr hG, body_D h (fun a hp => rd_fixed n a hp)⟩
theorem ok_fixed (T : Txt P K mg base cs) : Has P w K mg base 9 "fixed" s_fixed P_fixed (sp_fixed K cs) := ok_fixedR T 9
theorem ok_are_likeR (T : Txt P K mg base cs) : ∀ n, Has P w K mg base n "are_like" s_are_like P_are_like (spR_are_like K cs n)
  | 0 => has_none T.a_are_like fun vs H Q E h => by
    obtain ⟨M, a, hp, _⟩ := h
    exact absurd hp.2 (Nat.not_lt_zero _)
  | n + 1 => T.a_are_like.has sc_are_like (len_D fun _ => rfl) fun f cdv A outer s H vs Q E hr hG h => ⟨t_are_like K cs n, d_are_like T n (ok_are_likeR T n) hr hG, body_D h (fun a hp => rd_are_like n a hp)⟩
theorem ok_are_like (T : Txt P K mg base cs) : Has P w K mg base 9 "are_like" s_are_like P_are_like (sp_are_like K cs) := ok_are_likeR T 9
theorem two_len : ∀ p : Two, (twoA cs p).length = 2
  | ((_, _, _), some (_, _, _), _) => rfl
  | ((_, _, _), none, _) => rfl
theorem ok_eq (T : Txt P K mg base cs) : HasM P w K mg base 10 cs.f_eq (sp_eq K cs) := by
  obtain ⟨fd, F⟩ := T.fE
  refine hasM_of (ps := P_Paper_eq) (N := N_Paper_eq) F T.gE (F.binds fun _ _ _ _ _ _ us hl => match us, hl with | [_, _], _ => rfl) sc_Paper_eq (len_D two_len) fun cdv A outer s H vs Q E hr hG h => ⟨t_Paper_eq K cs, (d_Paper_eq T (ok_are_like T) hr hG).nox, body_D h (fun a hp => rd_Paper_eq T a hp)⟩
theorem ok_bool (T : Txt P K mg base cs) : ∀ C f b, TB cs C f b → HasM P w K mg base 1 f (spTr b) := by
  rintro C f b (⟨rfl, rfl, rfl⟩ | ⟨rfl, rfl, rfl⟩)
  · obtain ⟨fd, F⟩ := T.fP
    refine hasM_of (ps := P_Paper_bool) (N := N_Paper_bool) F T.gP (F.binds fun _ _ _ _ _ _ us hl => match us, hl with | [_], _ => rfl) sc_Paper_bool (fun vs H Q E h => by obtain ⟨v, rfl, _⟩ := h; rfl) fun cdv A outer s H vs Q E hr hG h => ⟨t_Paper_bool K cs, (d_Paper_bool T hr hG).nox, ?_⟩
    obtain ⟨v, rfl, q⟩ := h
    exact q
  · obtain ⟨fd, F⟩ := T.fD
    refine hasM_of (ps := P_Denial_bool) (N := N_Denial_bool) F T.gD (F.binds fun _ _ _ _ _ _ us hl => match us, hl with | [_], _ => rfl) sc_Denial_bool (fun vs H Q E h => by obtain ⟨v, rfl, _⟩ := h; rfl) fun cdv A outer s H vs Q E hr hG h => ⟨t_Denial_bool K cs, (d_Denial_bool T hr hG).nox, ?_⟩
    obtain ⟨v, rfl, q⟩ := h
    exact q
theorem fnI (T : Txt P K mg base cs) (b : Bool) : FnS P w K mg base 10 cs.f_init (spStar 2 (sp_ini K (cl cs b))) := by
  obtain ⟨fd, F⟩ := T.fI
  obtain ⟨oc, od, kV, doc, pm, an, cdv, ct, osl, rfl, lk, hcd⟩ := F.ex
  exact fnS_star (ps := ["self", "word"]) (pv := "parts") lk hcd sc_Paper_init (bind_star2 (p1 := "self") (p2 := "word") (pv := "parts") (B := fun l => bindArgs (PySem.W.fnOf "__init__" "Paper.__init__" (defArgs s_Paper_init) (defBody s_Paper_init) (defScope s_Paper_init) .none kV doc pm an cdv ct) ⟨l, []⟩) (fun _ _ => rfl) fun _ _ _ _ => rfl) fun A outer s H vs Q E hr hG h => ⟨t_Paper_init K cs, (d_Paper_init T (ok_fixed T) hr hG).nox, body_ini T b h⟩
theorem ok_Paper (T : Txt P K mg base cs) : HasS P w K mg base 10 cs.c_Paper (sp_Paper K cs) := ⟨cs.f_init, T.mkP, fnI T false⟩
theorem ok_Denial (T : Txt P K mg base cs) : HasS P w K mg base 10 cs.c_Denial (sp_Denial K cs) := ⟨cs.f_init, T.mkD, fnI T true⟩
theorem ok_BadNumber (T : Txt P K mg base cs) : HasE P w K mg base 1 s_BadNumber_init cs.c_BadNumber ["part"] := err1 T.e_BadNumber sc_BadNumber_init rfl (fun env => ⟨_, rfl⟩) (by decide) (by decide)
theorem ok_BadShape (T : Txt P K mg base cs) : HasE P w K mg base 1 s_BadShape_init cs.c_BadShape ["part"] := err1 T.e_BadShape sc_BadShape_init rfl (fun env => ⟨_, rfl⟩) (by decide) (by decide)
theorem ok_BadValue (T : Txt P K mg base cs) : HasE P w K mg base 1 s_BadValue_init cs.c_BadValue ["part"] := err1 T.e_BadValue sc_BadValue_init rfl (fun env => ⟨_, rfl⟩) (by decide) (by decide)
theorem ok_BadText (T : Txt P K mg base cs) : HasE P w K mg base 1 s_BadText_init cs.c_BadText ["line", "word"] := err2 T.e_BadText sc_BadText_init rfl (fun env => ⟨_, rfl⟩) (by decide) (by decide) (by decide) (by decide)
theorem ok_BadLine (T : Txt P K mg base cs) : HasE P w K mg base 1 s_BadLine_init cs.c_BadLine ["word"] := err1 T.e_BadLine sc_BadLine_init rfl (fun env => ⟨_, rfl⟩) (by decide) (by decide)
theorem ok_Misfit (T : Txt P K mg base cs) : HasE P w K mg base 1 s_Misfit_init cs.c_Misfit ["part"] := err1 T.e_Misfit sc_Misfit_init rfl (fun env => ⟨_, rfl⟩) (by decide) (by decide)
theorem ok_Nothing (T : Txt P K mg base cs) : HasE P w K mg base 1 s_Nothing_init cs.c_Nothing ["part"] := err1 T.e_Nothing sc_Nothing_init rfl (fun env => ⟨_, rfl⟩) (by decide) (by decide)
theorem ok_TooMany (T : Txt P K mg base cs) : HasE P w K mg base 1 s_TooMany_init cs.c_TooMany ["what", "most"] := err2 T.e_TooMany sc_TooMany_init rfl (fun env => ⟨_, rfl⟩) (by decide) (by decide) (by decide) (by decide)
end
end K00
namespace K00
open PySem PySem.Spec PyProof.Rows L2 NdefX DL StX
section
variable {P : Program} {w : World} {K : Fg} {mg : Str → Option Value} {cs : Cs}
theorem ok_law_errors_right {base : Heap} (T : Txt P K mg base cs) : Has P w K mg base 4 "_law_errors_right" s_law_errors_right P_law_errors_right (sp_law_errors_right K cs) :=
  T.a_law_errors_right.has sc_law_errors_right (len_P fun _ => rfl) fun f cdv A outer s H vs Q E hr hG h => ⟨t_law_errors_right K cs, d_law_errors_right T (ok_law_value T) (ok_law_below T) (ok_BadLine T) (ok_BadNumber T) (ok_BadShape T) (ok_BadText T) (ok_BadValue T) (ok_Misfit T) (ok_Nothing T) (ok_TooMany T) hr hG, body_P h (fun a n hp hn => rd_law_errors_right T a n hp hn)⟩
theorem law_F (hT : ∀ base : Heap, (∃ o, base.get? sysModules = some o) → Txt P K mg base cs) {h : Heap} (hh : ∃ o, h.get? sysModules = some o) {fa : Addr} (hmg : mg "law" = some (.ref fa)) :
    ∃ fd : FuncData, (∀ (s : Shared) (u : Value), BindsTo s fd ⟨[u], []⟩ [("script", u)]) ∧ ∀ base : Heap, K.In base → base.Ns mainGlobals mg → (∃ o, base.get? sysModules = some o) → FnG P w K mg base CX0 12 fa fd ["script"] (sp_law K ⟨0, 0, 0, 0, 0, 0, 0, 0, 0, 0, 0, 0, 0, 0, 0, 0, 0⟩) := by
  obtain ⟨f, fd, F, hm, bi⟩ := (hT h hh).a_law.ex
  rw [hm] at hmg
  cases hmg
  have hF : ∀ base : Heap, (∃ o, base.get? sysModules = some o) → FnG P w K mg base CX0 12 fa fd ["script"] (sp_law K cs) := fun base hB => have T := hT base hB; fnG_fun F sc_law (fun vs H Q E h => by obtain ⟨a, ns, rfl, _⟩ := h; rfl) fun cdv A outer s H vs Q E hr hG h =>
    ⟨t_law K cs, (d_law (base := base) T (ok_fixed T) (ok_law_pen T) (ok_law_value T) (ok_law_errors_right T) (ok_Denial T) (ok_Paper T) (ok_bool T) (ok_eq T) hr hG).nox, body_law T h⟩
  obtain ⟨oc, od, kV, doc, pm, an, cdv, ct, osl, rfl, lk, hcd⟩ := F.ex
  exact ⟨_, fun s u => .of_eq rfl, fun base _ _ hB => hF base hB⟩
theorem at_mk {h : Heap} {x : Str} {st : Stmt} {ps : List Str} {f : Addr} {oc : Value} {od an : Option Addr} {osl : Array (Option Value)} {kV doc pm cdv ct : Value} (X : K.In h) (G : h.Ns mainGlobals mg)
    (a : PySem.W.nsIn K mainGlobals x = some (some (.ref f))) (l : K.lookup f = some ⟨oc, od, .func (PySem.W.fnOf x x (defArgs st) (defBody st) (defScope st) .none kV doc pm an cdv ct), osl⟩) (c : PySem.W.codeIn K cdv x = true) (k : PySem.W.keepIn K (.ref f) = true)
    (hb : ∀ (kV doc pm : Value) (an : Option Addr) (cdv ct : Value) (us : List Value), us.length = ps.length → bindArgs (PySem.W.fnOf x x (defArgs st) (defBody st) (defScope st) .none kV doc pm an cdv ct) ⟨us, []⟩ = pure (ps.zip us)) : At K mg x st ps :=
  ⟨f, _, fun_mk l c k, PySem.W.mg_of X G a, (fun_mk l c k).binds hb⟩
theorem meth_mk {x qual : Str} {st : Stmt} {f : Addr} {oc : Value} {od an : Option Addr} {osl : Array (Option Value)} {kV doc pm cdv ct : Value}
    (l : K.lookup f = some ⟨oc, od, .func (PySem.W.fnOf x qual (defArgs st) (defBody st) (defScope st) .none kV doc pm an cdv ct), osl⟩) (c : PySem.W.codeIn K cdv qual = true) (k : PySem.W.keepIn K (.ref f) = true) : ∃ fd, Fun K x qual st f fd := ⟨_, fun_mk l c k⟩
/-- an error class of the text, from what its written part says -/
theorem err_mk {st : Stmt} {nm q qual : Str} {C N f c cc : Addr} {ns : List Str} {bs bm : List Value} {sn : List Str} {sub : List Value} {ab : Bool} {col : Option Bool} {dd od cd2 dd3 : Option Addr} {k0 k1 k2 k3 k5 : Option Value} {oc doc pm ctv cls2 cls3 : Value} {osl sl2 sl3 : Array (Option Value)} {vs : Array Value} {file : Str} {tf : Tok} {ar : Arg}
    (lC : K.lookup C = some (excClassObj nm q C N bs bm true sn sub ab col dd k0 k1 k2 k3 k5 "ValueError.__new__")) (hbm : PySem.HandSPX.refsVE bm = true)
    (sa : PySem.W.findIn K (.ref C) "__setattr__" = some (some (.builtin "object.__setattr__"))) (exC : PySem.W.subIn K (.ref C) (.type "BaseException") = some true) (tyC : PySem.W.typeIn K (.ref C) = some (.type "type")) (kC : PySem.W.keepIn K (.ref C) = true)
    (ga : PySem.W.findIn K (.ref C) "__getattribute__" = some (some (.builtin "BaseException.__getattribute__"))) (gg : PySem.W.findIn K (.ref C) "__getattr__" = some none) (hd : PySem.W.hasDictIn K C = true)
    (ha : PySem.W.findIn K (.ref C) "__class__" = some (some (.builtin "object.__class__"))) (hn : PySem.W.specialIn K (.builtin "object.__class__") "__get__" = some (some (.builtin "getset_descriptor.__get__"))) (ht : PySem.W.takesIn K (.builtin "object.__class__") = some true) (hm : PySem.W.mroIn K C (.type "object") = some true)
    (no : ∀ f ∈ ns, PySem.W.findIn K (.ref C) f = some none) (mr : PySem.W.mroIn K C (.ref C) = some true) (ve : PySem.W.subIn K (.ref C) (.type "ValueError") = some true) (ini : PySem.W.ks_superIn K C C "__init__" = some (some (.builtin "ValueError.__init__")))
    (i : PySem.W.findIn K (.ref C) "__init__" = some (some (.ref f))) (tI : PySem.W.typeIn K (.ref f) = some (.type "function"))
    (lf : K.lookup f = some ⟨oc, od, .func (PySem.W.fnX "__init__" qual (defArgs st) (defBody st) (defScope st) [(("__class__" : Str), cc)] .none .none doc pm none (.ref c) ctv), osl⟩)
    (cd : PySem.W.codeIn K (.ref c) qual = true) (lc : K.lookup c = some ⟨cls2, cd2, .fields vs, sl2⟩) (hv : vs[2]? = some (.str file tf)) (hf : ((P.main.file : Str) == file) = true)
    (lcc : K.lookup cc = some ⟨cls3, dd3, .cell (some (.ref C)), sl3⟩) (top : (P.main.scope.names.lookup ("super" : Str)).isSome = false) (sup : mg "super" = none) (stat : PySem.W.nsIn K cStatics "thirdparty.any" = some none)
    (kS : (defScope st).names.lookup ("super" : Str) = some .globalImplicit) (kF : (defScope st).names.lookup ("__class__" : Str) = some .free) (hh : ((defArgs st).posonlyargs ++ (defArgs st).args).head? = some ar) (hs : ar.arg = ("self" : Str)) : ErrT P K mg st C ns where
  xf := ⟨ga, gg, exC, hd⟩
  exc := ⟨ga, gg, exC, hd, ha, hn, ht, hm⟩
  no := no
  sup := ⟨⟨⟨nm, q, N, bs, bm, sn, sub, ab, col, dd, k0, k1, k2, k3, k5, lC, hbm⟩, sa, exC, tyC, kC⟩, mr, ve, ini⟩
  ini := ⟨f, ⟨"__init__", qual, defArgs st, defBody st, defScope st, [(("__class__" : Str), cc)], c⟩, i, tI, {
    fobj := ⟨oc, od, doc, pm, ctv, osl, ar, lf, hh, hs⟩
    code := cd
    file := ⟨_, vs, file, tf, lc, rfl, hv, hf⟩
    cell := ⟨cc, _, rfl, lcc, rfl⟩
    cls := ⟨{ name := nm, bases := bs, mro := .ref C :: bm, ns := N, qualname := q, hasDict := true, slotNames := sn, subclasses := sub, abstract := ab, collection := col, hasDel := false }, by unfold PySem.W.clsIn; rw [lC] <;> rfl⟩
    top := top
    sup := sup
    stat := stat
    kS := kS
    kC := kF }, rfl, rfl, rfl⟩
theorem ins_mk {C : Addr} {nm : Str} {dd : Option Addr} {cd : ClassData} {sl : Array (Option Value)} {tk : Tok} (pg : PySem.W.plainGet K C Str.empty = true) (hd : PySem.W.hasDictIn K C = true) (po : PySem.W.plainOver K C = true) (sa : PySem.W.findIn K (.ref C) "__setattr__" = some (some (.builtin "object.__setattr__")))
    (ha : PySem.W.findIn K (.ref C) "__class__" = some (some (.builtin "object.__class__"))) (hn : PySem.W.specialIn K (.builtin "object.__class__") "__get__" = some (some (.builtin "getset_descriptor.__get__"))) (ht : PySem.W.takesIn K (.builtin "object.__class__") = some true) (hm : PySem.W.mroIn K C (.type "object") = some true)
    (lk : K.lookup C = some ⟨.type "type", dd, .cls cd, sl⟩) (h2 : sl[2]? = some (some (.str nm tk))) (rd : PySem.W.readsIn K C (.type "type") = true) (fd : PySem.W.findCls K (.ref C) (.type "type") "__name__" = some (.get (.builtin "getset_descriptor.__get__") (.builtin "type.__name__") (.ref C) (.type "type"))) : ClsN K C nm :=
  ⟨⟨⟨pg, hd, po, sa⟩, ha, hn, ht, hm⟩, ⟨dd, cd, sl, tk, lk, h2⟩, rd, fd⟩
theorem kit_same {v : Value} : PySem.W.kitOne K v v = some true := by
  unfold PySem.W.kitOne
  rw [if_pos (by simp)]
theorem kit_sub {t : Value} {D : Addr} {b : Bool} (ne : t ≠ .ref D) (c : PySem.W.isClsIn K D = true) (ty : PySem.W.typeIn K (.ref D) = some (.type "type")) (s : PySem.W.subIn K t (.ref D) = some b) : PySem.W.kitOne K t (.ref D) = some b := by
  unfold PySem.W.kitOne
  rw [if_neg (by simpa using ne)]
  have c' : (PySem.W.clsIn K D).isSome = true := c
  show (if ((PySem.W.clsIn K D).isSome && PySem.W.typeIn K (.ref D) == some (.type "type")) = true then PySem.W.subIn K t (.ref D) else none) = some b
  rw [if_pos (by rw [c', ty]; rfl)]
  exact s
theorem ref_ne {a b : Addr} (h : a ≠ b) : Value.ref a ≠ Value.ref b := fun z => h (Value.ref.inj z)
theorem kit_ty {C : Addr} {T : String} {b : Bool} (m : PySem.W.kitMeta T = true) (s : PySem.W.subIn K (.ref C) (.type T) = some b) : PySem.W.kitOne K (.ref C) (.type T) = some b := by
  unfold PySem.W.kitOne
  rw [if_neg (by simp)]
  show (if PySem.W.kitMeta T = true then PySem.W.subIn K (.ref C) (.type T) else none) = some b
  rw [if_pos m]
  exact s
theorem nd_ne {l : List Addr} (h : l.Nodup) {i j : Nat} {a b : Addr} (hi : l[i]? = some a) (hj : l[j]? = some b) (ne : i ≠ j) : a ≠ b := fun z => by
  subst z
  exact ne ((List.getElem?_inj (List.getElem?_eq_some_iff.mp hi).1 h).mp (hi.trans hj.symm))
theorem txt_mk {c_Paper c_Denial c_CutError c_BadInput c_Refused c_BadNumber c_BadShape c_BadValue c_BadText c_BadLine c_Misfit c_Nothing c_TooMany f_init f_eq f_bP f_bD : Addr} (a_fixed : At K mg "fixed" s_fixed P_fixed)
    (a_are_like : At K mg "are_like" s_are_like P_are_like)
    (a_law_pen : At K mg "_law_pen" s_law_pen P_law_pen)
    (a_law_draw : At K mg "_law_draw" s_law_draw P_law_draw)
    (a_law_pick : At K mg "_law_pick" s_law_pick P_law_pick)
    (a_law_value : At K mg "_law_value" s_law_value P_law_value)
    (a_law_below : At K mg "_law_below" s_law_below P_law_below)
    (a_law_errors_right : At K mg "_law_errors_right" s_law_errors_right P_law_errors_right)
    (a_law : At K mg "law" s_law P_law)
    (n_ValueError : mg "ValueError" = none)
    (n_abs : mg "abs" = none)
    (n_all : mg "all" = none)
    (n_bool : mg "bool" = none)
    (n_enumerate : mg "enumerate" = none)
    (n_int : mg "int" = none)
    (n_isinstance : mg "isinstance" = none)
    (n_len : mg "len" = none)
    (n_list : mg "list" = none)
    (n_range : mg "range" = none)
    (n_repr : mg "repr" = none)
    (n_tuple : mg "tuple" = none)
    (n_zip : mg "zip" = none)
    (m_Paper : mg "Paper" = some (.ref c_Paper))
    (m_Denial : mg "Denial" = some (.ref c_Denial))
    (m_CutError : mg "CutError" = some (.ref c_CutError))
    (m_BadInput : mg "BadInput" = some (.ref c_BadInput))
    (m_Refused : mg "Refused" = some (.ref c_Refused))
    (m_BadNumber : mg "BadNumber" = some (.ref c_BadNumber))
    (m_BadShape : mg "BadShape" = some (.ref c_BadShape))
    (m_BadValue : mg "BadValue" = some (.ref c_BadValue))
    (m_BadText : mg "BadText" = some (.ref c_BadText))
    (m_BadLine : mg "BadLine" = some (.ref c_BadLine))
    (m_Misfit : mg "Misfit" = some (.ref c_Misfit))
    (m_Nothing : mg "Nothing" = some (.ref c_Nothing))
    (m_TooMany : mg "TooMany" = some (.ref c_TooMany))
    (e_BadNumber : ErrT P K mg s_BadNumber_init c_BadNumber ["part"])
    (e_BadShape : ErrT P K mg s_BadShape_init c_BadShape ["part"])
    (e_BadValue : ErrT P K mg s_BadValue_init c_BadValue ["part"])
    (e_BadText : ErrT P K mg s_BadText_init c_BadText ["line", "word"])
    (e_BadLine : ErrT P K mg s_BadLine_init c_BadLine ["word"])
    (e_Misfit : ErrT P K mg s_Misfit_init c_Misfit ["part"])
    (e_Nothing : ErrT P K mg s_Nothing_init c_Nothing ["part"])
    (e_TooMany : ErrT P K mg s_TooMany_init c_TooMany ["what", "most"])
    (nP : ClsN K c_Paper "Paper")
    (nD : ClsN K c_Denial "Denial")
    (wP : NoAttr K c_Paper "word")
    (pP : NoAttr K c_Paper "parts")
    (wD : NoAttr K c_Denial "word")
    (pD : NoAttr K c_Denial "parts")
    (mkP : Mk K c_Paper f_init)
    (mkD : Mk K c_Denial f_init)
    (fI : ∃ fd, Fun K "__init__" "Paper.__init__" s_Paper_init f_init fd)
    (fE : ∃ fd, Fun K "__eq__" "Paper.__eq__" s_Paper_eq f_eq fd)
    (fP : ∃ fd, Fun K "__bool__" "Paper.__bool__" s_Paper_bool f_bP fd)
    (fD : ∃ fd, Fun K "__bool__" "Denial.__bool__" s_Denial_bool f_bD fd)
    (gE : PySem.W.isFn K (.ref f_eq) = true)
    (gP : PySem.W.isFn K (.ref f_bP) = true)
    (gD : PySem.W.isFn K (.ref f_bD) = true)
    (eP : PySem.W.findIn K (.ref c_Paper) "__eq__" = some (some (.ref f_eq)))
    (eD : PySem.W.findIn K (.ref c_Denial) "__eq__" = some (some (.ref f_eq)))
    (xP : PySem.W.findIn K (.ref c_Paper) "__ne__" = some (some (.builtin "object.__ne__")))
    (xD : PySem.W.findIn K (.ref c_Denial) "__ne__" = some (some (.builtin "object.__ne__")))
    (bP : PySem.W.findIn K (.ref c_Paper) "__bool__" = some (some (.ref f_bP)))
    (bD : PySem.W.findIn K (.ref c_Denial) "__bool__" = some (some (.ref f_bD)))
    (sDP : PySem.W.subIn K (.ref c_Denial) (.ref c_Paper) = some true)
    (ic_BadNumber : PySem.W.isClsIn K c_BadNumber = true) (ty_BadNumber : PySem.W.typeIn K (.ref c_BadNumber) = some (.type "type"))
    (ic_BadShape : PySem.W.isClsIn K c_BadShape = true) (ty_BadShape : PySem.W.typeIn K (.ref c_BadShape) = some (.type "type"))
    (ic_BadValue : PySem.W.isClsIn K c_BadValue = true) (ty_BadValue : PySem.W.typeIn K (.ref c_BadValue) = some (.type "type"))
    (ic_BadText : PySem.W.isClsIn K c_BadText = true) (ty_BadText : PySem.W.typeIn K (.ref c_BadText) = some (.type "type"))
    (ic_BadLine : PySem.W.isClsIn K c_BadLine = true) (ty_BadLine : PySem.W.typeIn K (.ref c_BadLine) = some (.type "type"))
    (ic_Misfit : PySem.W.isClsIn K c_Misfit = true) (ty_Misfit : PySem.W.typeIn K (.ref c_Misfit) = some (.type "type"))
    (ic_Nothing : PySem.W.isClsIn K c_Nothing = true) (ty_Nothing : PySem.W.typeIn K (.ref c_Nothing) = some (.type "type"))
    (ic_TooMany : PySem.W.isClsIn K c_TooMany = true) (ty_TooMany : PySem.W.typeIn K (.ref c_TooMany) = some (.type "type"))
    (ic_CutError : PySem.W.isClsIn K c_CutError = true) (ty_CutError : PySem.W.typeIn K (.ref c_CutError) = some (.type "type"))
    (ic_BadInput : PySem.W.isClsIn K c_BadInput = true) (ty_BadInput : PySem.W.typeIn K (.ref c_BadInput) = some (.type "type"))
    (ic_Refused : PySem.W.isClsIn K c_Refused = true) (ty_Refused : PySem.W.typeIn K (.ref c_Refused) = some (.type "type"))
    (ic_Paper : PySem.W.isClsIn K c_Paper = true) (ty_Paper : PySem.W.typeIn K (.ref c_Paper) = some (.type "type"))
    (ic_Denial : PySem.W.isClsIn K c_Denial = true) (ty_Denial : PySem.W.typeIn K (.ref c_Denial) = some (.type "type"))
    (s_BadNumber_BadShape : PySem.W.subIn K (.ref c_BadNumber) (.ref c_BadShape) = some false)
    (s_BadNumber_BadValue : PySem.W.subIn K (.ref c_BadNumber) (.ref c_BadValue) = some false)
    (s_BadNumber_BadText : PySem.W.subIn K (.ref c_BadNumber) (.ref c_BadText) = some false)
    (s_BadNumber_BadLine : PySem.W.subIn K (.ref c_BadNumber) (.ref c_BadLine) = some false)
    (s_BadNumber_Misfit : PySem.W.subIn K (.ref c_BadNumber) (.ref c_Misfit) = some false)
    (s_BadNumber_Nothing : PySem.W.subIn K (.ref c_BadNumber) (.ref c_Nothing) = some false)
    (s_BadNumber_TooMany : PySem.W.subIn K (.ref c_BadNumber) (.ref c_TooMany) = some false)
    (s_BadNumber_CutError : PySem.W.subIn K (.ref c_BadNumber) (.ref c_CutError) = some true)
    (s_BadNumber_BadInput : PySem.W.subIn K (.ref c_BadNumber) (.ref c_BadInput) = some true)
    (s_BadNumber_Refused : PySem.W.subIn K (.ref c_BadNumber) (.ref c_Refused) = some false)
    (v_BadNumber : PySem.W.subIn K (.ref c_BadNumber) (.type "ValueError") = some true)
    (s_BadShape_BadNumber : PySem.W.subIn K (.ref c_BadShape) (.ref c_BadNumber) = some false)
    (s_BadShape_BadValue : PySem.W.subIn K (.ref c_BadShape) (.ref c_BadValue) = some false)
    (s_BadShape_BadText : PySem.W.subIn K (.ref c_BadShape) (.ref c_BadText) = some false)
    (s_BadShape_BadLine : PySem.W.subIn K (.ref c_BadShape) (.ref c_BadLine) = some false)
    (s_BadShape_Misfit : PySem.W.subIn K (.ref c_BadShape) (.ref c_Misfit) = some false)
    (s_BadShape_Nothing : PySem.W.subIn K (.ref c_BadShape) (.ref c_Nothing) = some false)
    (s_BadShape_TooMany : PySem.W.subIn K (.ref c_BadShape) (.ref c_TooMany) = some false)
    (s_BadShape_CutError : PySem.W.subIn K (.ref c_BadShape) (.ref c_CutError) = some true)
    (s_BadShape_BadInput : PySem.W.subIn K (.ref c_BadShape) (.ref c_BadInput) = some true)
    (s_BadShape_Refused : PySem.W.subIn K (.ref c_BadShape) (.ref c_Refused) = some false)
    (v_BadShape : PySem.W.subIn K (.ref c_BadShape) (.type "ValueError") = some true)
    (s_BadValue_BadNumber : PySem.W.subIn K (.ref c_BadValue) (.ref c_BadNumber) = some false)
    (s_BadValue_BadShape : PySem.W.subIn K (.ref c_BadValue) (.ref c_BadShape) = some false)
    (s_BadValue_BadText : PySem.W.subIn K (.ref c_BadValue) (.ref c_BadText) = some false)
    (s_BadValue_BadLine : PySem.W.subIn K (.ref c_BadValue) (.ref c_BadLine) = some false)
    (s_BadValue_Misfit : PySem.W.subIn K (.ref c_BadValue) (.ref c_Misfit) = some false)
    (s_BadValue_Nothing : PySem.W.subIn K (.ref c_BadValue) (.ref c_Nothing) = some false)
    (s_BadValue_TooMany : PySem.W.subIn K (.ref c_BadValue) (.ref c_TooMany) = some false)
    (s_BadValue_CutError : PySem.W.subIn K (.ref c_BadValue) (.ref c_CutError) = some true)
    (s_BadValue_BadInput : PySem.W.subIn K (.ref c_BadValue) (.ref c_BadInput) = some true)
    (s_BadValue_Refused : PySem.W.subIn K (.ref c_BadValue) (.ref c_Refused) = some false)
    (v_BadValue : PySem.W.subIn K (.ref c_BadValue) (.type "ValueError") = some true)
    (s_BadText_BadNumber : PySem.W.subIn K (.ref c_BadText) (.ref c_BadNumber) = some false)
    (s_BadText_BadShape : PySem.W.subIn K (.ref c_BadText) (.ref c_BadShape) = some false)
    (s_BadText_BadValue : PySem.W.subIn K (.ref c_BadText) (.ref c_BadValue) = some false)
    (s_BadText_BadLine : PySem.W.subIn K (.ref c_BadText) (.ref c_BadLine) = some false)
    (s_BadText_Misfit : PySem.W.subIn K (.ref c_BadText) (.ref c_Misfit) = some false)
    (s_BadText_Nothing : PySem.W.subIn K (.ref c_BadText) (.ref c_Nothing) = some false)
    (s_BadText_TooMany : PySem.W.subIn K (.ref c_BadText) (.ref c_TooMany) = some false)
    (s_BadText_CutError : PySem.W.subIn K (.ref c_BadText) (.ref c_CutError) = some true)
    (s_BadText_BadInput : PySem.W.subIn K (.ref c_BadText) (.ref c_BadInput) = some true)
    (s_BadText_Refused : PySem.W.subIn K (.ref c_BadText) (.ref c_Refused) = some false)
    (v_BadText : PySem.W.subIn K (.ref c_BadText) (.type "ValueError") = some true)
    (s_BadLine_BadNumber : PySem.W.subIn K (.ref c_BadLine) (.ref c_BadNumber) = some false)
    (s_BadLine_BadShape : PySem.W.subIn K (.ref c_BadLine) (.ref c_BadShape) = some false)
    (s_BadLine_BadValue : PySem.W.subIn K (.ref c_BadLine) (.ref c_BadValue) = some false)
    (s_BadLine_BadText : PySem.W.subIn K (.ref c_BadLine) (.ref c_BadText) = some false)
    (s_BadLine_Misfit : PySem.W.subIn K (.ref c_BadLine) (.ref c_Misfit) = some false)
    (s_BadLine_Nothing : PySem.W.subIn K (.ref c_BadLine) (.ref c_Nothing) = some false)
    (s_BadLine_TooMany : PySem.W.subIn K (.ref c_BadLine) (.ref c_TooMany) = some false)
    (s_BadLine_CutError : PySem.W.subIn K (.ref c_BadLine) (.ref c_CutError) = some true)
    (s_BadLine_BadInput : PySem.W.subIn K (.ref c_BadLine) (.ref c_BadInput) = some true)
    (s_BadLine_Refused : PySem.W.subIn K (.ref c_BadLine) (.ref c_Refused) = some false)
    (v_BadLine : PySem.W.subIn K (.ref c_BadLine) (.type "ValueError") = some true)
    (s_Misfit_BadNumber : PySem.W.subIn K (.ref c_Misfit) (.ref c_BadNumber) = some false)
    (s_Misfit_BadShape : PySem.W.subIn K (.ref c_Misfit) (.ref c_BadShape) = some false)
    (s_Misfit_BadValue : PySem.W.subIn K (.ref c_Misfit) (.ref c_BadValue) = some false)
    (s_Misfit_BadText : PySem.W.subIn K (.ref c_Misfit) (.ref c_BadText) = some false)
    (s_Misfit_BadLine : PySem.W.subIn K (.ref c_Misfit) (.ref c_BadLine) = some false)
    (s_Misfit_Nothing : PySem.W.subIn K (.ref c_Misfit) (.ref c_Nothing) = some false)
    (s_Misfit_TooMany : PySem.W.subIn K (.ref c_Misfit) (.ref c_TooMany) = some false)
    (s_Misfit_CutError : PySem.W.subIn K (.ref c_Misfit) (.ref c_CutError) = some true)
    (s_Misfit_BadInput : PySem.W.subIn K (.ref c_Misfit) (.ref c_BadInput) = some false)
    (s_Misfit_Refused : PySem.W.subIn K (.ref c_Misfit) (.ref c_Refused) = some true)
    (v_Misfit : PySem.W.subIn K (.ref c_Misfit) (.type "ValueError") = some true)
    (s_Nothing_BadNumber : PySem.W.subIn K (.ref c_Nothing) (.ref c_BadNumber) = some false)
    (s_Nothing_BadShape : PySem.W.subIn K (.ref c_Nothing) (.ref c_BadShape) = some false)
    (s_Nothing_BadValue : PySem.W.subIn K (.ref c_Nothing) (.ref c_BadValue) = some false)
    (s_Nothing_BadText : PySem.W.subIn K (.ref c_Nothing) (.ref c_BadText) = some false)
    (s_Nothing_BadLine : PySem.W.subIn K (.ref c_Nothing) (.ref c_BadLine) = some false)
    (s_Nothing_Misfit : PySem.W.subIn K (.ref c_Nothing) (.ref c_Misfit) = some false)
    (s_Nothing_TooMany : PySem.W.subIn K (.ref c_Nothing) (.ref c_TooMany) = some false)
    (s_Nothing_CutError : PySem.W.subIn K (.ref c_Nothing) (.ref c_CutError) = some true)
    (s_Nothing_BadInput : PySem.W.subIn K (.ref c_Nothing) (.ref c_BadInput) = some false)
    (s_Nothing_Refused : PySem.W.subIn K (.ref c_Nothing) (.ref c_Refused) = some true)
    (v_Nothing : PySem.W.subIn K (.ref c_Nothing) (.type "ValueError") = some true)
    (s_TooMany_BadNumber : PySem.W.subIn K (.ref c_TooMany) (.ref c_BadNumber) = some false)
    (s_TooMany_BadShape : PySem.W.subIn K (.ref c_TooMany) (.ref c_BadShape) = some false)
    (s_TooMany_BadValue : PySem.W.subIn K (.ref c_TooMany) (.ref c_BadValue) = some false)
    (s_TooMany_BadText : PySem.W.subIn K (.ref c_TooMany) (.ref c_BadText) = some false)
    (s_TooMany_BadLine : PySem.W.subIn K (.ref c_TooMany) (.ref c_BadLine) = some false)
    (s_TooMany_Misfit : PySem.W.subIn K (.ref c_TooMany) (.ref c_Misfit) = some false)
    (s_TooMany_Nothing : PySem.W.subIn K (.ref c_TooMany) (.ref c_Nothing) = some false)
    (s_TooMany_CutError : PySem.W.subIn K (.ref c_TooMany) (.ref c_CutError) = some true)
    (s_TooMany_BadInput : PySem.W.subIn K (.ref c_TooMany) (.ref c_BadInput) = some false)
    (s_TooMany_Refused : PySem.W.subIn K (.ref c_TooMany) (.ref c_Refused) = some true)
    (v_TooMany : PySem.W.subIn K (.ref c_TooMany) (.type "ValueError") = some true)
    (sPD : PySem.W.subIn K (.ref c_Paper) (.ref c_Denial) = some false)
    (nd : ([c_BadNumber, c_BadShape, c_BadValue, c_BadText, c_BadLine, c_Misfit, c_Nothing, c_TooMany, c_CutError, c_BadInput, c_Refused, c_Paper, c_Denial] : List Addr).Nodup) : ∃ cs, ∀ base : Heap, (∃ o, base.get? sysModules = some o) → Txt P K mg base cs := by
  let cs : Cs := ⟨c_Paper, c_Denial, c_CutError, c_BadInput, c_Refused, c_BadNumber, c_BadShape, c_BadValue, c_BadText, c_BadLine, c_Misfit, c_Nothing, c_TooMany, f_init, f_eq, f_bP, f_bD⟩
  have kitEX : ∀ i j : Fin 8, PySem.W.kitOne K (.ref (errC cs i)) (.ref (errC cs j)) = some (decide (i = j)) := fun i j => match i, j with
    | 0, 0 => kit_same
    | 0, 1 => kit_sub (ref_ne (nd_ne nd (i := 0) (j := 1) rfl rfl (by decide))) ic_BadShape ty_BadShape s_BadNumber_BadShape
    | 0, 2 => kit_sub (ref_ne (nd_ne nd (i := 0) (j := 2) rfl rfl (by decide))) ic_BadValue ty_BadValue s_BadNumber_BadValue
    | 0, 3 => kit_sub (ref_ne (nd_ne nd (i := 0) (j := 3) rfl rfl (by decide))) ic_BadText ty_BadText s_BadNumber_BadText
    | 0, 4 => kit_sub (ref_ne (nd_ne nd (i := 0) (j := 4) rfl rfl (by decide))) ic_BadLine ty_BadLine s_BadNumber_BadLine
    | 0, 5 => kit_sub (ref_ne (nd_ne nd (i := 0) (j := 5) rfl rfl (by decide))) ic_Misfit ty_Misfit s_BadNumber_Misfit
    | 0, 6 => kit_sub (ref_ne (nd_ne nd (i := 0) (j := 6) rfl rfl (by decide))) ic_Nothing ty_Nothing s_BadNumber_Nothing
    | 0, 7 => kit_sub (ref_ne (nd_ne nd (i := 0) (j := 7) rfl rfl (by decide))) ic_TooMany ty_TooMany s_BadNumber_TooMany
    | 1, 0 => kit_sub (ref_ne (nd_ne nd (i := 1) (j := 0) rfl rfl (by decide))) ic_BadNumber ty_BadNumber s_BadShape_BadNumber
    | 1, 1 => kit_same
    | 1, 2 => kit_sub (ref_ne (nd_ne nd (i := 1) (j := 2) rfl rfl (by decide))) ic_BadValue ty_BadValue s_BadShape_BadValue
    | 1, 3 => kit_sub (ref_ne (nd_ne nd (i := 1) (j := 3) rfl rfl (by decide))) ic_BadText ty_BadText s_BadShape_BadText
    | 1, 4 => kit_sub (ref_ne (nd_ne nd (i := 1) (j := 4) rfl rfl (by decide))) ic_BadLine ty_BadLine s_BadShape_BadLine
    | 1, 5 => kit_sub (ref_ne (nd_ne nd (i := 1) (j := 5) rfl rfl (by decide))) ic_Misfit ty_Misfit s_BadShape_Misfit
    | 1, 6 => kit_sub (ref_ne (nd_ne nd (i := 1) (j := 6) rfl rfl (by decide))) ic_Nothing ty_Nothing s_BadShape_Nothing
    | 1, 7 => kit_sub (ref_ne (nd_ne nd (i := 1) (j := 7) rfl rfl (by decide))) ic_TooMany ty_TooMany s_BadShape_TooMany
    | 2, 0 => kit_sub (ref_ne (nd_ne nd (i := 2) (j := 0) rfl rfl (by decide))) ic_BadNumber ty_BadNumber s_BadValue_BadNumber
    | 2, 1 => kit_sub (ref_ne (nd_ne nd (i := 2) (j := 1) rfl rfl (by decide))) ic_BadShape ty_BadShape s_BadValue_BadShape
    | 2, 2 => kit_same
    | 2, 3 => kit_sub (ref_ne (nd_ne nd (i := 2) (j := 3) rfl rfl (by decide))) ic_BadText ty_BadText s_BadValue_BadText
    | 2, 4 => kit_sub (ref_ne (nd_ne nd (i := 2) (j := 4) rfl rfl (by decide))) ic_BadLine ty_BadLine s_BadValue_BadLine
    | 2, 5 => kit_sub (ref_ne (nd_ne nd (i := 2) (j := 5) rfl rfl (by decide))) ic_Misfit ty_Misfit s_BadValue_Misfit
    | 2, 6 => kit_sub (ref_ne (nd_ne nd (i := 2) (j := 6) rfl rfl (by decide))) ic_Nothing ty_Nothing s_BadValue_Nothing
    | 2, 7 => kit_sub (ref_ne (nd_ne nd (i := 2) (j := 7) rfl rfl (by decide))) ic_TooMany ty_TooMany s_BadValue_TooMany
    | 3, 0 => kit_sub (ref_ne (nd_ne nd (i := 3) (j := 0) rfl rfl (by decide))) ic_BadNumber ty_BadNumber s_BadText_BadNumber
    | 3, 1 => kit_sub (ref_ne (nd_ne nd (i := 3) (j := 1) rfl rfl (by decide))) ic_BadShape ty_BadShape s_BadText_BadShape
    | 3, 2 => kit_sub (ref_ne (nd_ne nd (i := 3) (j := 2) rfl rfl (by decide))) ic_BadValue ty_BadValue s_BadText_BadValue
    | 3, 3 => kit_same
    | 3, 4 => kit_sub (ref_ne (nd_ne nd (i := 3) (j := 4) rfl rfl (by decide))) ic_BadLine ty_BadLine s_BadText_BadLine
    | 3, 5 => kit_sub (ref_ne (nd_ne nd (i := 3) (j := 5) rfl rfl (by decide))) ic_Misfit ty_Misfit s_BadText_Misfit
    | 3, 6 => kit_sub (ref_ne (nd_ne nd (i := 3) (j := 6) rfl rfl (by decide))) ic_Nothing ty_Nothing s_BadText_Nothing
    | 3, 7 => kit_sub (ref_ne (nd_ne nd (i := 3) (j := 7) rfl rfl (by decide))) ic_TooMany ty_TooMany s_BadText_TooMany
    | 4, 0 => kit_sub (ref_ne (nd_ne nd (i := 4) (j := 0) rfl rfl (by decide))) ic_BadNumber ty_BadNumber s_BadLine_BadNumber
    | 4, 1 => kit_sub (ref_ne (nd_ne nd (i := 4) (j := 1) rfl rfl (by decide))) ic_BadShape ty_BadShape s_BadLine_BadShape
    | 4, 2 => kit_sub (ref_ne (nd_ne nd (i := 4) (j := 2) rfl rfl (by decide))) ic_BadValue ty_BadValue s_BadLine_BadValue
    | 4, 3 => kit_sub (ref_ne (nd_ne nd (i := 4) (j := 3) rfl rfl (by decide))) ic_BadText ty_BadText s_BadLine_BadText
    | 4, 4 => kit_same
    | 4, 5 => kit_sub (ref_ne (nd_ne nd (i := 4) (j := 5) rfl rfl (by decide))) ic_Misfit ty_Misfit s_BadLine_Misfit
    | 4, 6 => kit_sub (ref_ne (nd_ne nd (i := 4) (j := 6) rfl rfl (by decide))) ic_Nothing ty_Nothing s_BadLine_Nothing
    | 4, 7 => kit_sub (ref_ne (nd_ne nd (i := 4) (j := 7) rfl rfl (by decide))) ic_TooMany ty_TooMany s_BadLine_TooMany
    | 5, 0 => kit_sub (ref_ne (nd_ne nd (i := 5) (j := 0) rfl rfl (by decide))) ic_BadNumber ty_BadNumber s_Misfit_BadNumber
    | 5, 1 => kit_sub (ref_ne (nd_ne nd (i := 5) (j := 1) rfl rfl (by decide))) ic_BadShape ty_BadShape s_Misfit_BadShape
    | 5, 2 => kit_sub (ref_ne (nd_ne nd (i := 5) (j := 2) rfl rfl (by decide))) ic_BadValue ty_BadValue s_Misfit_BadValue
    | 5, 3 => kit_sub (ref_ne (nd_ne nd (i := 5) (j := 3) rfl rfl (by decide))) ic_BadText ty_BadText s_Misfit_BadText
    | 5, 4 => kit_sub (ref_ne (nd_ne nd (i := 5) (j := 4) rfl rfl (by decide))) ic_BadLine ty_BadLine s_Misfit_BadLine
    | 5, 5 => kit_same
    | 5, 6 => kit_sub (ref_ne (nd_ne nd (i := 5) (j := 6) rfl rfl (by decide))) ic_Nothing ty_Nothing s_Misfit_Nothing
    | 5, 7 => kit_sub (ref_ne (nd_ne nd (i := 5) (j := 7) rfl rfl (by decide))) ic_TooMany ty_TooMany s_Misfit_TooMany
    | 6, 0 => kit_sub (ref_ne (nd_ne nd (i := 6) (j := 0) rfl rfl (by decide))) ic_BadNumber ty_BadNumber s_Nothing_BadNumber
    | 6, 1 => kit_sub (ref_ne (nd_ne nd (i := 6) (j := 1) rfl rfl (by decide))) ic_BadShape ty_BadShape s_Nothing_BadShape
    | 6, 2 => kit_sub (ref_ne (nd_ne nd (i := 6) (j := 2) rfl rfl (by decide))) ic_BadValue ty_BadValue s_Nothing_BadValue
    | 6, 3 => kit_sub (ref_ne (nd_ne nd (i := 6) (j := 3) rfl rfl (by decide))) ic_BadText ty_BadText s_Nothing_BadText
    | 6, 4 => kit_sub (ref_ne (nd_ne nd (i := 6) (j := 4) rfl rfl (by decide))) ic_BadLine ty_BadLine s_Nothing_BadLine
    | 6, 5 => kit_sub (ref_ne (nd_ne nd (i := 6) (j := 5) rfl rfl (by decide))) ic_Misfit ty_Misfit s_Nothing_Misfit
    | 6, 6 => kit_same
    | 6, 7 => kit_sub (ref_ne (nd_ne nd (i := 6) (j := 7) rfl rfl (by decide))) ic_TooMany ty_TooMany s_Nothing_TooMany
    | 7, 0 => kit_sub (ref_ne (nd_ne nd (i := 7) (j := 0) rfl rfl (by decide))) ic_BadNumber ty_BadNumber s_TooMany_BadNumber
    | 7, 1 => kit_sub (ref_ne (nd_ne nd (i := 7) (j := 1) rfl rfl (by decide))) ic_BadShape ty_BadShape s_TooMany_BadShape
    | 7, 2 => kit_sub (ref_ne (nd_ne nd (i := 7) (j := 2) rfl rfl (by decide))) ic_BadValue ty_BadValue s_TooMany_BadValue
    | 7, 3 => kit_sub (ref_ne (nd_ne nd (i := 7) (j := 3) rfl rfl (by decide))) ic_BadText ty_BadText s_TooMany_BadText
    | 7, 4 => kit_sub (ref_ne (nd_ne nd (i := 7) (j := 4) rfl rfl (by decide))) ic_BadLine ty_BadLine s_TooMany_BadLine
    | 7, 5 => kit_sub (ref_ne (nd_ne nd (i := 7) (j := 5) rfl rfl (by decide))) ic_Misfit ty_Misfit s_TooMany_Misfit
    | 7, 6 => kit_sub (ref_ne (nd_ne nd (i := 7) (j := 6) rfl rfl (by decide))) ic_Nothing ty_Nothing s_TooMany_Nothing
    | 7, 7 => kit_same
  have kitCX : ∀ i : Fin 8, PySem.W.kitOne K (.ref (errC cs i)) (.ref c_CutError) = some true := fun i => match i with
    | 0 => kit_sub (ref_ne (nd_ne nd (i := 0) (j := 8) rfl rfl (by decide))) ic_CutError ty_CutError s_BadNumber_CutError
    | 1 => kit_sub (ref_ne (nd_ne nd (i := 1) (j := 8) rfl rfl (by decide))) ic_CutError ty_CutError s_BadShape_CutError
    | 2 => kit_sub (ref_ne (nd_ne nd (i := 2) (j := 8) rfl rfl (by decide))) ic_CutError ty_CutError s_BadValue_CutError
    | 3 => kit_sub (ref_ne (nd_ne nd (i := 3) (j := 8) rfl rfl (by decide))) ic_CutError ty_CutError s_BadText_CutError
    | 4 => kit_sub (ref_ne (nd_ne nd (i := 4) (j := 8) rfl rfl (by decide))) ic_CutError ty_CutError s_BadLine_CutError
    | 5 => kit_sub (ref_ne (nd_ne nd (i := 5) (j := 8) rfl rfl (by decide))) ic_CutError ty_CutError s_Misfit_CutError
    | 6 => kit_sub (ref_ne (nd_ne nd (i := 6) (j := 8) rfl rfl (by decide))) ic_CutError ty_CutError s_Nothing_CutError
    | 7 => kit_sub (ref_ne (nd_ne nd (i := 7) (j := 8) rfl rfl (by decide))) ic_CutError ty_CutError s_TooMany_CutError
  have kitBX : ∀ i : Fin 8, PySem.W.kitOne K (.ref (errC cs i)) (.ref c_BadInput) = some (decide (i.val < 5)) := fun i => match i with
    | 0 => kit_sub (ref_ne (nd_ne nd (i := 0) (j := 9) rfl rfl (by decide))) ic_BadInput ty_BadInput s_BadNumber_BadInput
    | 1 => kit_sub (ref_ne (nd_ne nd (i := 1) (j := 9) rfl rfl (by decide))) ic_BadInput ty_BadInput s_BadShape_BadInput
    | 2 => kit_sub (ref_ne (nd_ne nd (i := 2) (j := 9) rfl rfl (by decide))) ic_BadInput ty_BadInput s_BadValue_BadInput
    | 3 => kit_sub (ref_ne (nd_ne nd (i := 3) (j := 9) rfl rfl (by decide))) ic_BadInput ty_BadInput s_BadText_BadInput
    | 4 => kit_sub (ref_ne (nd_ne nd (i := 4) (j := 9) rfl rfl (by decide))) ic_BadInput ty_BadInput s_BadLine_BadInput
    | 5 => kit_sub (ref_ne (nd_ne nd (i := 5) (j := 9) rfl rfl (by decide))) ic_BadInput ty_BadInput s_Misfit_BadInput
    | 6 => kit_sub (ref_ne (nd_ne nd (i := 6) (j := 9) rfl rfl (by decide))) ic_BadInput ty_BadInput s_Nothing_BadInput
    | 7 => kit_sub (ref_ne (nd_ne nd (i := 7) (j := 9) rfl rfl (by decide))) ic_BadInput ty_BadInput s_TooMany_BadInput
  have kitRX : ∀ i : Fin 8, PySem.W.kitOne K (.ref (errC cs i)) (.ref c_Refused) = some (decide (4 < i.val)) := fun i => match i with
    | 0 => kit_sub (ref_ne (nd_ne nd (i := 0) (j := 10) rfl rfl (by decide))) ic_Refused ty_Refused s_BadNumber_Refused
    | 1 => kit_sub (ref_ne (nd_ne nd (i := 1) (j := 10) rfl rfl (by decide))) ic_Refused ty_Refused s_BadShape_Refused
    | 2 => kit_sub (ref_ne (nd_ne nd (i := 2) (j := 10) rfl rfl (by decide))) ic_Refused ty_Refused s_BadValue_Refused
    | 3 => kit_sub (ref_ne (nd_ne nd (i := 3) (j := 10) rfl rfl (by decide))) ic_Refused ty_Refused s_BadText_Refused
    | 4 => kit_sub (ref_ne (nd_ne nd (i := 4) (j := 10) rfl rfl (by decide))) ic_Refused ty_Refused s_BadLine_Refused
    | 5 => kit_sub (ref_ne (nd_ne nd (i := 5) (j := 10) rfl rfl (by decide))) ic_Refused ty_Refused s_Misfit_Refused
    | 6 => kit_sub (ref_ne (nd_ne nd (i := 6) (j := 10) rfl rfl (by decide))) ic_Refused ty_Refused s_Nothing_Refused
    | 7 => kit_sub (ref_ne (nd_ne nd (i := 7) (j := 10) rfl rfl (by decide))) ic_Refused ty_Refused s_TooMany_Refused
  have kitVX : ∀ i : Fin 8, PySem.W.kitOne K (.ref (errC cs i)) (.type "ValueError") = some true := fun i => match i with
    | 0 => kit_ty (by decide +kernel) v_BadNumber
    | 1 => kit_ty (by decide +kernel) v_BadShape
    | 2 => kit_ty (by decide +kernel) v_BadValue
    | 3 => kit_ty (by decide +kernel) v_BadText
    | 4 => kit_ty (by decide +kernel) v_BadLine
    | 5 => kit_ty (by decide +kernel) v_Misfit
    | 6 => kit_ty (by decide +kernel) v_Nothing
    | 7 => kit_ty (by decide +kernel) v_TooMany
  have nDP : c_Denial ≠ c_Paper := nd_ne nd (i := 12) (j := 11) rfl rfl (by decide)
  have kPP : PySem.W.kitOne K (.ref c_Paper) (.ref c_Paper) = some true := kit_same
  have kDP : PySem.W.kitOne K (.ref c_Denial) (.ref c_Paper) = some true := kit_sub (ref_ne (nd_ne nd (i := 12) (j := 11) rfl rfl (by decide))) ic_Paper ty_Paper sDP
  have kPD : PySem.W.kitOne K (.ref c_Paper) (.ref c_Denial) = some false := kit_sub (ref_ne (nd_ne nd (i := 11) (j := 12) rfl rfl (by decide))) ic_Denial ty_Denial sPD
  have kTP : PySem.W.kitOne K (.type "tuple") (.ref c_Paper) = some false := by
    refine kit_sub (fun z => nomatch z) ic_Paper ty_Paper ?_
    have e : fastBuiltinMro "tuple" = some [.type "tuple", .type "object"] := by decide +kernel
    show (fastBuiltinMro "tuple").map (·.contains (.ref c_Paper)) = some false
    rw [e]
    first | rfl | simp
  exact ⟨cs, fun base sysm => ⟨a_fixed, a_are_like, a_law_pen, a_law_draw, a_law_pick, a_law_value, a_law_below, a_law_errors_right, a_law, n_ValueError, n_abs, n_all, n_bool, n_enumerate, n_int, n_isinstance, n_len, n_list, n_range, n_repr, n_tuple, n_zip, m_Paper, m_Denial, m_CutError, m_BadInput, m_Refused, m_BadNumber, m_BadShape, m_BadValue, m_BadText, m_BadLine, m_Misfit, m_Nothing, m_TooMany, e_BadNumber, e_BadShape, e_BadValue, e_BadText, e_BadLine, e_Misfit, e_Nothing, e_TooMany, sysm, kitEX, kitCX, kitVX, kitBX, kitRX, nP, nD, wP, pP, wD, pD, mkP, mkD, fI, fE, fP, fD, gE, gP, gD, eP, eD, xP, xD, bP, bD, sDP, nDP, kPP, kDP, kPD, kTP⟩⟩
theorem law_walk {l : PySem.W.OpenLaw} {q : Program} {loose : List Str} {XP : (Str → Option Value) → Heap → Prop} {YP : World → Heap → Prop} {d : DefRec} {K : Params → Fg} (hn : l.most = some 63) (hdf : d.params.defaults = []) (hY : ∀ (w : World) (h : Heap), YP w h → (K w.params).In h) (hd : d.name = "law")
    (him : PyProof.Rows.importsNone q = true) (T : ∀ (w : World) (mg : Str → Option Value) (h : Heap), (K w.params).In h → h.Ns mainGlobals mg → ∃ cs, ∀ base : Heap, (∃ o, base.get? sysModules = some o) → Txt l.prog (K w.params) mg base cs) :
    PySem.W.WalkO q loose XP YP l.row.toRowW d [] (fun f vs => PySem.call f vs) :=
  walkS (n := 63) (k := 12) (x := "script") (CX := CX0) (sp := fun K => sp_law K ⟨0, 0, 0, 0, 0, 0, 0, 0, 0, 0, 0, 0, 0, 0, 0, 0, 0⟩) him hn (by decide) hdf ⟨rfl, by decide, by decide⟩ hY (fun w mg fa h KX G hh hmg => by obtain ⟨cs, T⟩ := T w mg h KX G; exact law_F T hh (by rw [← hd]; exact hmg))
    (fun K H a ns hl _ hS => ⟨a, ns, rfl, hS, by omega, fun _ => rfl⟩) fun _ _ _ _ z => z
end
end K00
open PySem PySem.W PyProof.Rows in
set_option maxRecDepth 100000 in
set_option maxHeartbeats 0 in
theorem PySem.Challenge.cw_slidercuts_k00_errors_and_papers_holds : PySem.Challenge.rw_slidercuts_k00_errors_and_papers.Holds := by
  w_on; o_law; k_head; (case hw => w_witness2)
  k_fill
  refine K00.law_walk (l := PySem.Challenge.rw_slidercuts_k00_errors_and_papers) rfl rfl (fun w h Y => PySem.W.kIn_of Y) rfl (by kernel_rfl) ?T
  case T =>
    intro w mg h KX G
    refine' K00.txt_mk ?a_fixed ?a_are_like ?a_law_pen ?a_law_draw ?a_law_pick ?a_law_value ?a_law_below ?a_law_errors_right ?a_law ?n_ValueError ?n_abs ?n_all ?n_bool ?n_enumerate ?n_int ?n_isinstance ?n_len ?n_list ?n_range ?n_repr ?n_tuple ?n_zip ?m_Paper ?m_Denial ?m_CutError ?m_BadInput ?m_Refused ?m_BadNumber ?m_BadShape ?m_BadValue ?m_BadText ?m_BadLine ?m_Misfit ?m_Nothing ?m_TooMany ?e_BadNumber ?e_BadShape ?e_BadValue ?e_BadText ?e_BadLine ?e_Misfit ?e_Nothing ?e_TooMany ?nP ?nD ?wP ?pP ?wD ?pD ?mkP ?mkD ?fI ?fE ?fP ?fD ?gE ?gP ?gD ?eP ?eD ?xP ?xD ?bP ?bD ?sDP ?ic_BadNumber ?ty_BadNumber ?ic_BadShape ?ty_BadShape ?ic_BadValue ?ty_BadValue ?ic_BadText ?ty_BadText ?ic_BadLine ?ty_BadLine ?ic_Misfit ?ty_Misfit ?ic_Nothing ?ty_Nothing ?ic_TooMany ?ty_TooMany ?ic_CutError ?ty_CutError ?ic_BadInput ?ty_BadInput ?ic_Refused ?ty_Refused ?ic_Paper ?ty_Paper ?ic_Denial ?ty_Denial ?s_BadNumber_BadShape ?s_BadNumber_BadValue ?s_BadNumber_BadText ?s_BadNumber_BadLine ?s_BadNumber_Misfit ?s_BadNumber_Nothing ?s_BadNumber_TooMany ?s_BadNumber_CutError ?s_BadNumber_BadInput ?s_BadNumber_Refused ?v_BadNumber ?s_BadShape_BadNumber ?s_BadShape_BadValue ?s_BadShape_BadText ?s_BadShape_BadLine ?s_BadShape_Misfit ?s_BadShape_Nothing ?s_BadShape_TooMany ?s_BadShape_CutError ?s_BadShape_BadInput ?s_BadShape_Refused ?v_BadShape ?s_BadValue_BadNumber ?s_BadValue_BadShape ?s_BadValue_BadText ?s_BadValue_BadLine ?s_BadValue_Misfit ?s_BadValue_Nothing ?s_BadValue_TooMany ?s_BadValue_CutError ?s_BadValue_BadInput ?s_BadValue_Refused ?v_BadValue ?s_BadText_BadNumber ?s_BadText_BadShape ?s_BadText_BadValue ?s_BadText_BadLine ?s_BadText_Misfit ?s_BadText_Nothing ?s_BadText_TooMany ?s_BadText_CutError ?s_BadText_BadInput ?s_BadText_Refused ?v_BadText ?s_BadLine_BadNumber ?s_BadLine_BadShape ?s_BadLine_BadValue ?s_BadLine_BadText ?s_BadLine_Misfit ?s_BadLine_Nothing ?s_BadLine_TooMany ?s_BadLine_CutError ?s_BadLine_BadInput ?s_BadLine_Refused ?v_BadLine ?s_Misfit_BadNumber ?s_Misfit_BadShape ?s_Misfit_BadValue ?s_Misfit_BadText ?s_Misfit_BadLine ?s_Misfit_Nothing ?s_Misfit_TooMany ?s_Misfit_CutError ?s_Misfit_BadInput ?s_Misfit_Refused ?v_Misfit ?s_Nothing_BadNumber ?s_Nothing_BadShape ?s_Nothing_BadValue ?s_Nothing_BadText ?s_Nothing_BadLine ?s_Nothing_Misfit ?s_Nothing_TooMany ?s_Nothing_CutError ?s_Nothing_BadInput ?s_Nothing_Refused ?v_Nothing ?s_TooMany_BadNumber ?s_TooMany_BadShape ?s_TooMany_BadValue ?s_TooMany_BadText ?s_TooMany_BadLine ?s_TooMany_Misfit ?s_TooMany_Nothing ?s_TooMany_CutError ?s_TooMany_BadInput ?s_TooMany_Refused ?v_TooMany ?sPD ?nd
    (case m_Paper => refine' PySem.W.mg_of KX G ?a; (case a => k_is))
    (case m_Denial => refine' PySem.W.mg_of KX G ?a; (case a => k_is))
    (case m_CutError => refine' PySem.W.mg_of KX G ?a; (case a => k_is))
    (case m_BadInput => refine' PySem.W.mg_of KX G ?a; (case a => k_is))
    (case m_Refused => refine' PySem.W.mg_of KX G ?a; (case a => k_is))
    (case m_BadNumber => refine' PySem.W.mg_of KX G ?a; (case a => k_is))
    (case m_BadShape => refine' PySem.W.mg_of KX G ?a; (case a => k_is))
    (case m_BadValue => refine' PySem.W.mg_of KX G ?a; (case a => k_is))
    (case m_BadText => refine' PySem.W.mg_of KX G ?a; (case a => k_is))
    (case m_BadLine => refine' PySem.W.mg_of KX G ?a; (case a => k_is))
    (case m_Misfit => refine' PySem.W.mg_of KX G ?a; (case a => k_is))
    (case m_Nothing => refine' PySem.W.mg_of KX G ?a; (case a => k_is))
    (case m_TooMany => refine' PySem.W.mg_of KX G ?a; (case a => k_is))
    (case eP => k_is)
    (case bP => k_is)
    (case bD => k_is)
    (case mkP => refine' L2.Mk.mk ?a ?b ?c ?d; (case b => k_is); (case a => k_is); (case c => k_is); (case d => k_is))
    (case mkD => refine' L2.Mk.mk ?a ?b ?c ?d; (case b => k_is); (case a => k_is); (case c => k_is); (case d => k_is))
    (case a_fixed => refine' K00.at_mk KX G ?a ?l ?c ?k (fun _ _ _ _ _ _ us hl => match us, hl with | [_], _ => rfl); (case a => k_is); (case l => k_is); (case c => k_is); (case k => k_is))
    (case a_are_like => refine' K00.at_mk KX G ?a ?l ?c ?k (fun _ _ _ _ _ _ us hl => match us, hl with | [_, _], _ => rfl); (case a => k_is); (case l => k_is); (case c => k_is); (case k => k_is))
    (case a_law_pen => refine' K00.at_mk KX G ?a ?l ?c ?k (fun _ _ _ _ _ _ us hl => match us, hl with | [_], _ => rfl); (case a => k_is); (case l => k_is); (case c => k_is); (case k => k_is))
    (case a_law_draw => refine' K00.at_mk KX G ?a ?l ?c ?k (fun _ _ _ _ _ _ us hl => match us, hl with | [_, _], _ => rfl); (case a => k_is); (case l => k_is); (case c => k_is); (case k => k_is))
    (case a_law_pick => refine' K00.at_mk KX G ?a ?l ?c ?k (fun _ _ _ _ _ _ us hl => match us, hl with | [_, _], _ => rfl); (case a => k_is); (case l => k_is); (case c => k_is); (case k => k_is))
    (case a_law_value => refine' K00.at_mk KX G ?a ?l ?c ?k (fun _ _ _ _ _ _ us hl => match us, hl with | [_], _ => rfl); (case a => k_is); (case l => k_is); (case c => k_is); (case k => k_is))
    (case a_law_below => refine' K00.at_mk KX G ?a ?l ?c ?k (fun _ _ _ _ _ _ us hl => match us, hl with | [_, _], _ => rfl); (case a => k_is); (case l => k_is); (case c => k_is); (case k => k_is))
    (case a_law_errors_right => refine' K00.at_mk KX G ?a ?l ?c ?k (fun _ _ _ _ _ _ us hl => match us, hl with | [_], _ => rfl); (case a => k_is); (case l => k_is); (case c => k_is); (case k => k_is))
    (case a_law => refine' K00.at_mk KX G ?a ?l ?c ?k (fun _ _ _ _ _ _ us hl => match us, hl with | [_], _ => rfl); (case a => k_is); (case l => k_is); (case c => k_is); (case k => k_is))
    (case n_ValueError => refine' PySem.W.mg_none_of KX G ?a; (case a => k_is))
    (case n_abs => refine' PySem.W.mg_none_of KX G ?a; (case a => k_is))
    (case n_all => refine' PySem.W.mg_none_of KX G ?a; (case a => k_is))
    (case n_bool => refine' PySem.W.mg_none_of KX G ?a; (case a => k_is))
    (case n_enumerate => refine' PySem.W.mg_none_of KX G ?a; (case a => k_is))
    (case n_int => refine' PySem.W.mg_none_of KX G ?a; (case a => k_is))
    (case n_isinstance => refine' PySem.W.mg_none_of KX G ?a; (case a => k_is))
    (case n_len => refine' PySem.W.mg_none_of KX G ?a; (case a => k_is))
    (case n_list => refine' PySem.W.mg_none_of KX G ?a; (case a => k_is))
    (case n_range => refine' PySem.W.mg_none_of KX G ?a; (case a => k_is))
    (case n_repr => refine' PySem.W.mg_none_of KX G ?a; (case a => k_is))
    (case n_tuple => refine' PySem.W.mg_none_of KX G ?a; (case a => k_is))
    (case n_zip => refine' PySem.W.mg_none_of KX G ?a; (case a => k_is))
    (case e_BadNumber =>
      refine' K00.err_mk ?lC ?hbm ?sa ?exC ?tyC ?kC ?ga ?gg ?hd ?ha ?hn ?ht ?hm ?no ?mr ?ve ?ini ?i ?tI ?lf ?cd ?lc ?hv ?hf ?lcc ?top ?sup ?stat rfl rfl rfl rfl
      (case lC => k_is); (case hbm => rfl); (case sa => k_is); (case exC => k_is); (case tyC => k_is); (case kC => k_is); (case ga => k_is); (case gg => k_is); (case hd => k_is); (case ha => k_is); (case hn => k_is); (case ht => k_is); (case hm => k_is); (case mr => k_is); (case ve => k_is)
      (case no => refine' List.forall_mem_cons.mpr ⟨?_, fun _ z => nomatch z⟩; k_is)
      (case ini => kernel_rfl); (case i => k_is); (case tI => k_is); (case lf => k_is); (case cd => k_is); (case lc => k_is); (case hv => rfl); (case hf => kernel_rfl); (case lcc => k_is); (case top => kernel_rfl)
      (case sup => refine' PySem.W.mg_none_of KX G ?a; (case a => k_is)); (case stat => k_is))
    (case e_BadShape =>
      refine' K00.err_mk ?lC ?hbm ?sa ?exC ?tyC ?kC ?ga ?gg ?hd ?ha ?hn ?ht ?hm ?no ?mr ?ve ?ini ?i ?tI ?lf ?cd ?lc ?hv ?hf ?lcc ?top ?sup ?stat rfl rfl rfl rfl
      (case lC => k_is); (case hbm => rfl); (case sa => k_is); (case exC => k_is); (case tyC => k_is); (case kC => k_is); (case ga => k_is); (case gg => k_is); (case hd => k_is); (case ha => k_is); (case hn => k_is); (case ht => k_is); (case hm => k_is); (case mr => k_is); (case ve => k_is)
      (case no => refine' List.forall_mem_cons.mpr ⟨?_, fun _ z => nomatch z⟩; k_is)
      (case ini => kernel_rfl); (case i => k_is); (case tI => k_is); (case lf => k_is); (case cd => k_is); (case lc => k_is); (case hv => rfl); (case hf => kernel_rfl); (case lcc => k_is); (case top => kernel_rfl)
      (case sup => refine' PySem.W.mg_none_of KX G ?a; (case a => k_is)); (case stat => k_is))
    (case e_BadValue =>
      refine' K00.err_mk ?lC ?hbm ?sa ?exC ?tyC ?kC ?ga ?gg ?hd ?ha ?hn ?ht ?hm ?no ?mr ?ve ?ini ?i ?tI ?lf ?cd ?lc ?hv ?hf ?lcc ?top ?sup ?stat rfl rfl rfl rfl
      (case lC => k_is); (case hbm => rfl); (case sa => k_is); (case exC => k_is); (case tyC => k_is); (case kC => k_is); (case ga => k_is); (case gg => k_is); (case hd => k_is); (case ha => k_is); (case hn => k_is); (case ht => k_is); (case hm => k_is); (case mr => k_is); (case ve => k_is)
      (case no => refine' List.forall_mem_cons.mpr ⟨?_, fun _ z => nomatch z⟩; k_is)
      (case ini => kernel_rfl); (case i => k_is); (case tI => k_is); (case lf => k_is); (case cd => k_is); (case lc => k_is); (case hv => rfl); (case hf => kernel_rfl); (case lcc => k_is); (case top => kernel_rfl)
      (case sup => refine' PySem.W.mg_none_of KX G ?a; (case a => k_is)); (case stat => k_is))
    (case e_BadText =>
      refine' K00.err_mk ?lC ?hbm ?sa ?exC ?tyC ?kC ?ga ?gg ?hd ?ha ?hn ?ht ?hm ?no ?mr ?ve ?ini ?i ?tI ?lf ?cd ?lc ?hv ?hf ?lcc ?top ?sup ?stat rfl rfl rfl rfl
      (case lC => k_is); (case hbm => rfl); (case sa => k_is); (case exC => k_is); (case tyC => k_is); (case kC => k_is); (case ga => k_is); (case gg => k_is); (case hd => k_is); (case ha => k_is); (case hn => k_is); (case ht => k_is); (case hm => k_is); (case mr => k_is); (case ve => k_is)
      (case no => refine' List.forall_mem_cons.mpr ⟨?_, List.forall_mem_cons.mpr ⟨?_, fun _ z => nomatch z⟩⟩; k_is; k_is)
      (case ini => kernel_rfl); (case i => k_is); (case tI => k_is); (case lf => k_is); (case cd => k_is); (case lc => k_is); (case hv => rfl); (case hf => kernel_rfl); (case lcc => k_is); (case top => kernel_rfl)
      (case sup => refine' PySem.W.mg_none_of KX G ?a; (case a => k_is)); (case stat => k_is))
    (case e_BadLine =>
      refine' K00.err_mk ?lC ?hbm ?sa ?exC ?tyC ?kC ?ga ?gg ?hd ?ha ?hn ?ht ?hm ?no ?mr ?ve ?ini ?i ?tI ?lf ?cd ?lc ?hv ?hf ?lcc ?top ?sup ?stat rfl rfl rfl rfl
      (case lC => k_is); (case hbm => rfl); (case sa => k_is); (case exC => k_is); (case tyC => k_is); (case kC => k_is); (case ga => k_is); (case gg => k_is); (case hd => k_is); (case ha => k_is); (case hn => k_is); (case ht => k_is); (case hm => k_is); (case mr => k_is); (case ve => k_is)
      (case no => refine' List.forall_mem_cons.mpr ⟨?_, fun _ z => nomatch z⟩; k_is)
      (case ini => kernel_rfl); (case i => k_is); (case tI => k_is); (case lf => k_is); (case cd => k_is); (case lc => k_is); (case hv => rfl); (case hf => kernel_rfl); (case lcc => k_is); (case top => kernel_rfl)
      (case sup => refine' PySem.W.mg_none_of KX G ?a; (case a => k_is)); (case stat => k_is))
    (case e_Misfit =>
      refine' K00.err_mk ?lC ?hbm ?sa ?exC ?tyC ?kC ?ga ?gg ?hd ?ha ?hn ?ht ?hm ?no ?mr ?ve ?ini ?i ?tI ?lf ?cd ?lc ?hv ?hf ?lcc ?top ?sup ?stat rfl rfl rfl rfl
      (case lC => k_is); (case hbm => rfl); (case sa => k_is); (case exC => k_is); (case tyC => k_is); (case kC => k_is); (case ga => k_is); (case gg => k_is); (case hd => k_is); (case ha => k_is); (case hn => k_is); (case ht => k_is); (case hm => k_is); (case mr => k_is); (case ve => k_is)
      (case no => refine' List.forall_mem_cons.mpr ⟨?_, fun _ z => nomatch z⟩; k_is)
      (case ini => kernel_rfl); (case i => k_is); (case tI => k_is); (case lf => k_is); (case cd => k_is); (case lc => k_is); (case hv => rfl); (case hf => kernel_rfl); (case lcc => k_is); (case top => kernel_rfl)
      (case sup => refine' PySem.W.mg_none_of KX G ?a; (case a => k_is)); (case stat => k_is))
    (case e_Nothing =>
      refine' K00.err_mk ?lC ?hbm ?sa ?exC ?tyC ?kC ?ga ?gg ?hd ?ha ?hn ?ht ?hm ?no ?mr ?ve ?ini ?i ?tI ?lf ?cd ?lc ?hv ?hf ?lcc ?top ?sup ?stat rfl rfl rfl rfl
      (case lC => k_is); (case hbm => rfl); (case sa => k_is); (case exC => k_is); (case tyC => k_is); (case kC => k_is); (case ga => k_is); (case gg => k_is); (case hd => k_is); (case ha => k_is); (case hn => k_is); (case ht => k_is); (case hm => k_is); (case mr => k_is); (case ve => k_is)
      (case no => refine' List.forall_mem_cons.mpr ⟨?_, fun _ z => nomatch z⟩; k_is)
      (case ini => kernel_rfl); (case i => k_is); (case tI => k_is); (case lf => k_is); (case cd => k_is); (case lc => k_is); (case hv => rfl); (case hf => kernel_rfl); (case lcc => k_is); (case top => kernel_rfl)
      (case sup => refine' PySem.W.mg_none_of KX G ?a; (case a => k_is)); (case stat => k_is))
    (case e_TooMany =>
      refine' K00.err_mk ?lC ?hbm ?sa ?exC ?tyC ?kC ?ga ?gg ?hd ?ha ?hn ?ht ?hm ?no ?mr ?ve ?ini ?i ?tI ?lf ?cd ?lc ?hv ?hf ?lcc ?top ?sup ?stat rfl rfl rfl rfl
      (case lC => k_is); (case hbm => rfl); (case sa => k_is); (case exC => k_is); (case tyC => k_is); (case kC => k_is); (case ga => k_is); (case gg => k_is); (case hd => k_is); (case ha => k_is); (case hn => k_is); (case ht => k_is); (case hm => k_is); (case mr => k_is); (case ve => k_is)
      (case no => refine' List.forall_mem_cons.mpr ⟨?_, List.forall_mem_cons.mpr ⟨?_, fun _ z => nomatch z⟩⟩; k_is; k_is)
      (case ini => kernel_rfl); (case i => k_is); (case tI => k_is); (case lf => k_is); (case cd => k_is); (case lc => k_is); (case hv => rfl); (case hf => kernel_rfl); (case lcc => k_is); (case top => kernel_rfl)
      (case sup => refine' PySem.W.mg_none_of KX G ?a; (case a => k_is)); (case stat => k_is))
    (case nP => refine' K00.ins_mk ?pg ?hd ?po ?sa ?ha ?hn ?ht ?hm ?lk ?h2 ?rd ?fd; (case pg => k_is); (case hd => k_is); (case po => k_is); (case sa => k_is); (case ha => k_is); (case hn => k_is); (case ht => k_is); (case hm => k_is); (case lk => k_is); (case h2 => rfl); (case rd => k_is); (case fd => k_is))
    (case nD => refine' K00.ins_mk ?pg ?hd ?po ?sa ?ha ?hn ?ht ?hm ?lk ?h2 ?rd ?fd; (case pg => k_is); (case hd => k_is); (case po => k_is); (case sa => k_is); (case ha => k_is); (case hn => k_is); (case ht => k_is); (case hm => k_is); (case lk => k_is); (case h2 => rfl); (case rd => k_is); (case fd => k_is))
    (case wP => show PySem.W.findIn _ _ _ = _; k_is)
    (case pP => show PySem.W.findIn _ _ _ = _; k_is)
    (case wD => show PySem.W.findIn _ _ _ = _; k_is)
    (case pD => show PySem.W.findIn _ _ _ = _; k_is)
    (case fI => refine' K00.meth_mk ?l ?c ?k; (case l => k_is); (case c => k_is); (case k => k_is))
    (case fE => refine' K00.meth_mk ?l ?c ?k; (case l => k_is); (case c => k_is); (case k => k_is))
    (case fP => refine' K00.meth_mk ?l ?c ?k; (case l => k_is); (case c => k_is); (case k => k_is))
    (case fD => refine' K00.meth_mk ?l ?c ?k; (case l => k_is); (case c => k_is); (case k => k_is))
    (case gE => k_is)
    (case gP => k_is)
    (case gD => k_is)
    (case eD => k_is)
    (case xP => k_is)
    (case xD => k_is)
    (case sDP => k_is)
    (case ic_BadNumber => k_is)
    (case ty_BadNumber => k_is)
    (case ic_BadShape => k_is)
    (case ty_BadShape => k_is)
    (case ic_BadValue => k_is)
    (case ty_BadValue => k_is)
    (case ic_BadText => k_is)
    (case ty_BadText => k_is)
    (case ic_BadLine => k_is)
    (case ty_BadLine => k_is)
    (case ic_Misfit => k_is)
    (case ty_Misfit => k_is)
    (case ic_Nothing => k_is)
    (case ty_Nothing => k_is)
    (case ic_TooMany => k_is)
    (case ty_TooMany => k_is)
    (case ic_CutError => k_is)
    (case ty_CutError => k_is)
    (case ic_BadInput => k_is)
    (case ty_BadInput => k_is)
    (case ic_Refused => k_is)
    (case ty_Refused => k_is)
    (case ic_Paper => k_is)
    (case ty_Paper => k_is)
    (case ic_Denial => k_is)
    (case ty_Denial => k_is)
    (case s_BadNumber_BadShape => k_is)
    (case s_BadNumber_BadValue => k_is)
    (case s_BadNumber_BadText => k_is)
    (case s_BadNumber_BadLine => k_is)
    (case s_BadNumber_Misfit => k_is)
    (case s_BadNumber_Nothing => k_is)
    (case s_BadNumber_TooMany => k_is)
    (case s_BadNumber_CutError => k_is)
    (case s_BadNumber_BadInput => k_is)
    (case s_BadNumber_Refused => k_is)
    (case v_BadNumber => k_is)
    (case s_BadShape_BadNumber => k_is)
    (case s_BadShape_BadValue => k_is)
    (case s_BadShape_BadText => k_is)
    (case s_BadShape_BadLine => k_is)
    (case s_BadShape_Misfit => k_is)
    (case s_BadShape_Nothing => k_is)
    (case s_BadShape_TooMany => k_is)
    (case s_BadShape_CutError => k_is)
    (case s_BadShape_BadInput => k_is)
    (case s_BadShape_Refused => k_is)
    (case v_BadShape => k_is)
    (case s_BadValue_BadNumber => k_is)
    (case s_BadValue_BadShape => k_is)
    (case s_BadValue_BadText => k_is)
    (case s_BadValue_BadLine => k_is)
    (case s_BadValue_Misfit => k_is)
    (case s_BadValue_Nothing => k_is)
    (case s_BadValue_TooMany => k_is)
    (case s_BadValue_CutError => k_is)
    (case s_BadValue_BadInput => k_is)
    (case s_BadValue_Refused => k_is)
    (case v_BadValue => k_is)
    (case s_BadText_BadNumber => k_is)
    (case s_BadText_BadShape => k_is)
    (case s_BadText_BadValue => k_is)
    (case s_BadText_BadLine => k_is)
    (case s_BadText_Misfit => k_is)
    (case s_BadText_Nothing => k_is)
    (case s_BadText_TooMany => k_is)
    (case s_BadText_CutError => k_is)
    (case s_BadText_BadInput => k_is)
    (case s_BadText_Refused => k_is)
    (case v_BadText => k_is)
    (case s_BadLine_BadNumber => k_is)
    (case s_BadLine_BadShape => k_is)
    (case s_BadLine_BadValue => k_is)
    (case s_BadLine_BadText => k_is)
    (case s_BadLine_Misfit => k_is)
    (case s_BadLine_Nothing => k_is)
    (case s_BadLine_TooMany => k_is)
    (case s_BadLine_CutError => k_is)
    (case s_BadLine_BadInput => k_is)
    (case s_BadLine_Refused => k_is)
    (case v_BadLine => k_is)
    (case s_Misfit_BadNumber => k_is)
    (case s_Misfit_BadShape => k_is)
    (case s_Misfit_BadValue => k_is)
    (case s_Misfit_BadText => k_is)
    (case s_Misfit_BadLine => k_is)
    (case s_Misfit_Nothing => k_is)
    (case s_Misfit_TooMany => k_is)
    (case s_Misfit_CutError => k_is)
    (case s_Misfit_BadInput => k_is)
    (case s_Misfit_Refused => k_is)
    (case v_Misfit => k_is)
    (case s_Nothing_BadNumber => k_is)
    (case s_Nothing_BadShape => k_is)
    (case s_Nothing_BadValue => k_is)
    (case s_Nothing_BadText => k_is)
    (case s_Nothing_BadLine => k_is)
    (case s_Nothing_Misfit => k_is)
    (case s_Nothing_TooMany => k_is)
    (case s_Nothing_CutError => k_is)
    (case s_Nothing_BadInput => k_is)
    (case s_Nothing_Refused => k_is)
    (case v_Nothing => k_is)
    (case s_TooMany_BadNumber => k_is)
    (case s_TooMany_BadShape => k_is)
    (case s_TooMany_BadValue => k_is)
    (case s_TooMany_BadText => k_is)
    (case s_TooMany_BadLine => k_is)
    (case s_TooMany_Misfit => k_is)
    (case s_TooMany_Nothing => k_is)
    (case s_TooMany_CutError => k_is)
    (case s_TooMany_BadInput => k_is)
    (case s_TooMany_Refused => k_is)
    (case v_TooMany => k_is)
    (case sPD => k_is)
    (case nd => decide)
