import PyProof.Rows.All
import Wide.All
import OpenK.AllK
import Wide.FinOn
import HandS.ForMost
import HandS.Evl
import HandS.Wide
import HandS.Gcd
import HandS.ExcInit
import HandS.Lambda
import HandS.IsInst
import HandS.TupMul
import HandS.TupAny
import HandS.Zip
import HandS.More
import HandS.Ends
import PyProof.ReprRoads
import HandS.Defaults
import HandS.Style
import HandS.Dict
import KE.GoesZip
import KE.GoesMore
import KE.GoesEnum
import HandS.Nested
import HandS.ExcSuper
import KE.KExcSuper
import KE.KSuper
import HandS.MakeKw
import HandS.ExcIs
import HandS.ExcField
import KE.KTypeName
import HandS.DeepEq
import HandS.Star
import HandS.ExcValue
import KE.KDflt
import PyProof.TupleKey
import PyProof.DictKinds
import PyProof.DictFindH
import HandS.DictComp
import HandS.Conv
import KE.SortData
import KE.KNestM
import HandS.EndBits
import HandS.EndTab
import HandS.TupSets
import HandS.Small
import PySem.Challenge.RW_slidercuts_k04_whole_planes_of_halves
set_option Elab.async false
set_option linter.all false
set_option maxRecDepth 100000
set_option maxHeartbeats 4100000
/-! DL: data as it is seen by a proof; slots, own lists and the pen as ghosts; wishes over them -/
namespace DL
open PySem PySem.Spec PyProof.Rows L2
abbrev Fg := PySem.W.Frag
abbrev Ex := Evl.Ex
/-- data -/
inductive DV where
  | non | bl (b : Bool) | int (i : Int) | str (x : Str) | ty (n : String) | adr (a : Addr)
  | tup (xs : List DV) | lst (xs : List DV)
  | ins (C : Addr) (ns : List Str) (vs : List DV)
  | dic (ks : List Key) (vs : List DV)
  | exc (C : Addr) (ns : List Str) (vs : List DV)
/-- at a: an own exception that was caught, its dict at d -/
def xob (a C d : Addr) : HO := .ext fun h => ∃ (oe : Obj) (vs : Array Value), h.get? a = some oe ∧ oe.cls = .ref C ∧ oe.dict = some d ∧ oe.data = .fields vs
mutual
inductive Rp (K : Fg) (M : Hp) : V → DV → Prop
  | non : Rp K M .non .non
  | bl (b : Bool) : Rp K M (.bl b) (.bl b)
  | int (i : Int) : Rp K M (.int i) (.int i)
  | str (x : Str) : Rp K M (.str x) (.str x)
  | ty (x : String) : Rp K M (.ty x) (.ty x)
  | adr (a : Addr) : Rp K M (.ref a) (.adr a)
  | tup {a : Addr} {vs : List V} {ds : List DV} : SqT K M a vs → RpL K M vs ds → Rp K M (.ref a) (.tup ds)
  | lst {a : Addr} {vs : List V} {ds : List DV} : M a = some (.lst vs) → RpL K M vs ds → Rp K M (.ref a) (.lst ds)
  | ins {a C dx : Addr} {fs : List (Str × V)} {ns : List Str} {ds : List DV} : M a = some (.ins C dx fs) → fs.map (·.1) = ns → RpL K M (fs.map (·.2)) ds → Rp K M (.ref a) (.ins C ns ds)
  | dic {a : Addr} {kvs : List (Key × V)} {ks : List Key} {ds : List DV} : M a = some (.dK kvs) → kvs.map (·.1) = ks → RpL K M (kvs.map (·.2)) ds → Rp K M (.ref a) (.dic ks ds)
  | exc {a C dx : Addr} {fs : List (Str × V)} {ns : List Str} {ds : List DV} : M a = some (exo a C (some dx)) → M dx = some (exd dx fs) → fs.map (·.1) = ns → RpL K M (fs.map (·.2)) ds → Rp K M (.ref a) (.exc C ns ds)
  | exc2 {a C dx : Addr} {fs : List (Str × V)} {ns : List Str} {ds : List DV} : M a = some (xob a C dx) → M dx = some (.xd fs) → fs.map (·.1) = ns → RpL K M (fs.map (·.2)) ds → Rp K M (.ref a) (.exc C ns ds)
inductive RpL (K : Fg) (M : Hp) : List V → List DV → Prop
  | nil : RpL K M [] []
  | cons {v : V} {vs : List V} {d : DV} {ds : List DV} : Rp K M v d → RpL K M vs ds → RpL K M (v :: vs) (d :: ds)
end
section
variable {K : Fg} {Z : Xt} {M M' : Hp}
mutual
theorem Rp.mono (e : Ex M M') : ∀ {d : DV} {v : V}, Rp K M v d → Rp K M' v d
  | .non, _, h => by cases h; exact .non
  | .bl b, _, h => by cases h; exact .bl b
  | .int i, _, h => by cases h; exact .int i
  | .str i, _, h => by cases h; exact .str i
  | .ty i, _, h => by cases h; exact .ty i
  | .adr i, _, h => by cases h; exact .adr i
  | .tup ds, _, h => by
    cases h with
    | tup a b => exact .tup (Evl.ex_t e a) (RpL.mono e b)
  | .lst ds, _, h => by
    cases h with
    | lst a b => exact .lst (e _ _ a) (RpL.mono e b)
  | .ins C ns ds, _, h => by
    cases h with
    | ins a b c => exact .ins (e _ _ a) b (RpL.mono e c)
  | .dic ks ds, _, h => by
    cases h with
    | dic a b c => exact .dic (e _ _ a) b (RpL.mono e c)
  | .exc C ns ds, _, h => by
    cases h with
    | exc a b c f => exact .exc (e _ _ a) (e _ _ b) c (RpL.mono e f)
    | exc2 a b c f => exact .exc2 (e _ _ a) (e _ _ b) c (RpL.mono e f)
theorem RpL.mono (e : Ex M M') : ∀ {ds : List DV} {vs : List V}, RpL K M vs ds → RpL K M' vs ds
  | [], _, h => by cases h; exact .nil
  | d :: ds, _, h => by
    cases h with
    | cons a b => exact .cons (Rp.mono e a) (RpL.mono e b)
end
theorem RpL.length : ∀ {ds : List DV} {vs : List V}, RpL K M vs ds → vs.length = ds.length
  | [], _, h => by cases h; rfl
  | d :: ds, _, h => by
    cases h with
    | cons a b => simp [RpL.length b]
theorem RpL.get : ∀ {ds : List DV} {vs : List V} {i : Nat} {v : V}, RpL K M vs ds → vs[i]? = some v → ∃ d, ds[i]? = some d ∧ Rp K M v d
  | [], _, _, _, h, e => by cases h; simp at e
  | d :: ds, _, 0, v, h, e => by
    cases h with
    | cons a b => simp at e; subst e; exact ⟨d, rfl, a⟩
  | d :: ds, _, i + 1, v, h, e => by
    cases h with
    | cons a b => simpa using RpL.get b (by simpa using e)
theorem RpL.get' : ∀ {ds : List DV} {vs : List V} {i : Nat} {d : DV}, RpL K M vs ds → ds[i]? = some d → ∃ v, vs[i]? = some v ∧ Rp K M v d
  | [], _, _, _, h, e => by simp at e
  | d :: ds, _, 0, _, h, e => by
    cases h with
    | cons a b => simp at e; subst e; exact ⟨_, rfl, a⟩
  | d :: ds, _, i + 1, v, h, e => by
    cases h with
    | cons a b => simpa using RpL.get' b (by simpa using e)
theorem RpL.append : ∀ {ds es : List DV} {vs ws : List V}, RpL K M vs ds → RpL K M ws es → RpL K M (vs ++ ws) (ds ++ es)
  | [], _, _, _, h, h2 => by cases h; exact h2
  | d :: ds, _, _, _, h, h2 => by
    cases h with
    | cons a b => exact .cons a (RpL.append b h2)
theorem RpL.set {d : DV} {v : V} (r : Rp K M v d) : ∀ {ds : List DV} {vs : List V} (i : Nat), RpL K M vs ds → RpL K M (vs.set i v) (ds.set i d)
  | [], _, _, h => by cases h; exact .nil
  | _ :: _, _, 0, h => by
    cases h with
    | cons a b => exact .cons r b
  | _ :: _, _, i + 1, h => by
    cases h with
    | cons a b => exact .cons a (RpL.set r i b)
theorem RpL.drop : ∀ {ds : List DV} {vs : List V} (i : Nat), RpL K M vs ds → RpL K M (vs.drop i) (ds.drop i)
  | _, _, 0, h => h
  | [], _, _ + 1, h => by cases h; exact .nil
  | _ :: _, _, i + 1, h => by
    cases h with
    | cons a b => exact RpL.drop i b
theorem RpL.take : ∀ {ds : List DV} {vs : List V} (i : Nat), RpL K M vs ds → RpL K M (vs.take i) (ds.take i)
  | _, _, 0, h => by simpa using RpL.nil
  | [], _, _ + 1, h => by cases h; exact .nil
  | _ :: _, _, i + 1, h => by
    cases h with
    | cons a b => exact .cons a (RpL.take i b)
theorem RpL.ints : ∀ {ns : List Int} {vs : List V}, RpL K M vs (ns.map DV.int) → vs = ns.map V.int
  | [], _, h => by cases h; rfl
  | n :: ns, _, h => by
    cases h with
    | cons a b => cases a; rw [RpL.ints b]; rfl
theorem RpL.bools : ∀ {ns : List Bool} {vs : List V}, RpL K M vs (ns.map DV.bl) → vs = ns.map V.bl
  | [], _, h => by cases h; rfl
  | n :: ns, _, h => by
    cases h with
    | cons a b => cases a; rw [RpL.bools b]; rfl
theorem RpL.of_ints : ∀ (ns : List Int), RpL K M (ns.map V.int) (ns.map DV.int)
  | [] => .nil
  | n :: ns => .cons (.int n) (RpL.of_ints ns)
theorem Rp.lst' {v : V} {ds : List DV} (h : Rp K M v (.lst ds)) : ∃ a vs, v = .ref a ∧ M a = some (.lst vs) ∧ RpL K M vs ds := by
  cases h with
  | lst a b => exact ⟨_, _, rfl, a, b⟩
theorem Rp.tup' {v : V} {ds : List DV} (h : Rp K M v (.tup ds)) : ∃ a vs, v = .ref a ∧ SqT K M a vs ∧ RpL K M vs ds := by
  cases h with
  | tup a b => exact ⟨_, _, rfl, a, b⟩
theorem Rp.int' {v : V} {i : Int} (h : Rp K M v (.int i)) : v = .int i := by cases h; rfl
theorem Rp.bl' {v : V} {i : Bool} (h : Rp K M v (.bl i)) : v = .bl i := by cases h; rfl
theorem Rp.str' {v : V} {i : Str} (h : Rp K M v (.str i)) : v = .str i := by cases h; rfl
end
/-- what a slot is known to hold: nothing, data, the j-th own list, the pen -/
inductive SA where
  | no | is (d : DV) | own (j : Nat) | pen
def SlotOk (K : Fg) (pn : Option Addr) (As : List Addr) (M : Hp) : SA → Option V → Prop
  | .no, _ => True
  | .is d, o => ∃ v, o = some v ∧ Rp K M v d
  | .own j, o => ∃ a, As[j]? = some a ∧ o = some (.ref a)
  | .pen, o => ∃ p, pn = some p ∧ o = some (.ref p)
/-- the pen: the cells, the next index (at most n), what is left -/
def PenAt (K : Fg) (M H : Hp) (p : Addr) (n : Nat) : Prop := ∃ (vs : List V) (cells : List Int) (at_ left : Int), H p = some (.lst vs) ∧ RpL K M vs [.lst (cells.map DV.int), .int at_, .int left] ∧ cells.length ≤ 63 ∧ 0 ≤ at_ ∧ at_ ≤ n ∧ 0 ≤ left
theorem PenAt.mono {K : Fg} {M M' H H' : Hp} {p : Addr} {n m : Nat} (h : PenAt K M H p n) (e : Ex M M') (hp : H' p = H p) (hn : n ≤ m) : PenAt K M' H' p m := by
  obtain ⟨vs, cells, a, l, h1, h2, h3, h4, h5, h6⟩ := h
  exact ⟨vs, cells, a, l, hp.trans h1, h2.mono e, h3, h4, by omega, h6⟩
/-- no table of code objects -/
def NT (o : HO) : Prop := ∀ ps, o ≠ .tbl ps
/-- the tables of code objects that the lambdas of the text want, and the names of their codes -/
class Tn where
  T : List (Addr × Str)
  u : ∀ p ∈ T, ∀ q ∈ T, p.1 = q.1 → p.2 = q.2
variable [Tn]
/-- they stand, unfrozen -/
def Tb (M H : Hp) : Prop := LamX.Tabs Tn.T H ∧ ∀ p ∈ Tn.T, M p.1 = none
theorem Tb.tbl {M H : Hp} (t : Tb M H) {p : Addr × Str} (hp : p ∈ Tn.T) : ∃ ps, H p.1 = some (.tbl ps) := by
  obtain ⟨ps, h, _⟩ := t.1 p hp
  exact ⟨ps, h⟩
theorem Tb.ext {M H H' : Hp} (t : Tb M H) (e : Evl.Ex H H') : Tb M H' := ⟨t.1.ext e, t.2⟩
/-- what is no table is frozen -/
theorem Tb.frz {M H : Hp} (t : Tb M H) {a : Addr} {o u : HO} (ha : H a = some u) (hn : NT u) : Tb (upd M a o) H := ⟨t.1, fun p hp => by
  obtain ⟨ps, h⟩ := t.tbl hp
  rw [upd_ne (fun z => by rw [z, ha] at h; exact hn ps (Option.some.inj h))]
  exact t.2 p hp⟩
/-- a new object, frozen or not -/
theorem Tb.new {M H : Hp} (t : Tb M H) {a : Addr} {o : HO} (ha : H a = none) : Tb M (upd H a o) := t.ext (Evl.Ex.new ha)
theorem Tb.both {M H : Hp} (t : Tb M H) {a : Addr} {o u : HO} (ha : H a = none) : Tb (upd M a u) (upd H a o) := ⟨(t.new ha).1, fun p hp => by
  obtain ⟨ps, h⟩ := t.tbl hp
  rw [upd_ne (fun z => by rw [z, ha] at h; cases h)]
  exact t.2 p hp⟩
theorem nt_lst {xs : List V} : NT (.lst xs) := fun ps z => nomatch z
/-- a list changed -/
theorem tabS_list {H : Hp} {a p : Addr} {q : Str} {xs ys : List V} (ha : H a = some (.lst xs)) (t : LamX.TabS H p q) : LamX.TabS (upd H a (.lst ys)) p q := by
  obtain ⟨ps, h1, h2, h3⟩ := t
  refine ⟨ps, by rw [upd_ne (fun z => by rw [z, ha] at h1; cases h1)]; exact h1, h2, fun pos cv hc => ?_⟩
  obtain ⟨c, e, h4⟩ := h3 pos cv hc
  refine ⟨c, e, ?_⟩
  rw [upd_ne (fun z => by rw [z, ha] at h4; exact absurd (Option.some.inj h4) (fun y => by have y' : HO.lst xs = HO.ext _ := y; cases y'))]
  exact h4
theorem Tb.list {M H : Hp} (t : Tb M H) {a : Addr} {xs ys : List V} (ha : H a = some (.lst xs)) : Tb M (upd H a (.lst ys)) := ⟨fun p hp => tabS_list ha (t.1 p hp), t.2⟩
/-- what stood stands, but for x and for tables, which grow -/
structure Gr (x : Option Addr) (H H' : Hp) : Prop where
  ext : ∀ b o, some b ≠ x → H b = some o → NT o → H' b = some o
  live : ∀ b, H b ≠ none → H' b ≠ none
theorem Gr.refl {x : Option Addr} {H : Hp} : Gr x H H := ⟨fun _ _ _ h _ => h, fun _ h => h⟩
theorem Gr.trans {x : Option Addr} {H H1 H2 : Hp} (a : Gr x H H1) (b : Gr x H1 H2) : Gr x H H2 := ⟨fun c o h1 h2 n => b.ext c o h1 (a.ext c o h1 h2 n) n, fun c h => b.live c (a.live c h)⟩
theorem Gr.of {x : Option Addr} {H H' : Hp} (e : Evl.Ex H H') : Gr x H H' := ⟨fun b o _ h _ => e b o h, fun b h => by
  cases z : H b with
  | none => exact absurd z h
  | some o => rw [e b o z]; exact fun y => nomatch y⟩
theorem Gr.weak {x : Option Addr} {H H' : Hp} (a : Gr none H H') : Gr x H H' := ⟨fun b o _ h n => a.ext b o (fun z => nomatch z) h n, a.live⟩
theorem Gr.back {x : Option Addr} {H H' : Hp} (g : Gr x H H') {p : Addr} (h : H' p = none) : H p = none := by
  cases z : H p with
  | none => rfl
  | some o => exact absurd h (g.live p (by rw [z]; exact fun y => nomatch y))
theorem Gr.list {x : Option Addr} {H0 H : Hp} {a : Addr} {xs ys : List V} (g : Gr x H0 H) (ha : H a = some (.lst xs)) (h0 : some a = x ∨ H0 a = none) : Gr x H0 (upd H a (.lst ys)) := by
  refine ⟨fun b o h1 h2 n => ?_, fun b h => ?_⟩
  · rw [upd_ne (fun z => by
      rcases h0 with h0 | h0
      · exact h1 (by rw [z]; exact h0)
      · rw [z, h0] at h2; cases h2)]
    exact g.ext b o h1 h2 n
  · by_cases hb : b = a
    · rw [hb, upd_same]; exact fun z => nomatch z
    · rw [upd_ne hb]; exact g.live b h
theorem Gr.new {x : Option Addr} {H0 H : Hp} {a : Addr} {o : HO} (g : Gr x H0 H) (ha : H a = none) : Gr x H0 (upd H a o) := g.trans (Gr.of (Evl.Ex.new ha))
theorem Gr.apart {x : Option Addr} {H0 H : Hp} {a : Addr} {xs : List V} (g : Gr x H0 H) (hw : H a = some (.lst xs)) : Gr x (upd H0 a (.lst xs)) H := by
  refine ⟨fun b o h1 h2 n => ?_, fun b h => ?_⟩
  · by_cases hb : b = a
    · rw [hb, upd_same] at h2; rw [hb, hw]; exact h2
    · rw [upd_ne hb] at h2; exact g.ext b o h1 h2 n
  · by_cases hb : b = a
    · rw [hb, hw]; exact fun z => nomatch z
    · rw [upd_ne hb] at h; exact g.live b h
theorem Gr.unlist {Hm H H' : Hp} {p : Addr} (g : Gr none Hm H') (hm : ∀ b, b ≠ p → Hm b = H b) (hl : H' p ≠ none) : Gr (some p) H H' := by
  refine ⟨fun b o h1 h2 n => g.ext b o (fun z => nomatch z) (by rw [hm b (fun z => h1 (by rw [z]))]; exact h2) n, fun b h => ?_⟩
  by_cases hb : b = p
  · rw [hb]; exact hl
  · exact g.live b (by rw [hm b hb]; exact h)
/-- where errors go: what is wished of them, which may be -/
structure Xt where
  E : XK
  k : Addr → List Str → List DV → Nat → Prop
/-- what stood at the entry; what is not to be frozen; what was frozen then -/
structure Ent where
  h : Hp
  P : Addr → Prop
  m : Hp
instance : CoeFun Ent (fun _ => Hp) := ⟨Ent.h⟩
/-- what a def owes its caller -/
structure Fin (K : Fg) (pn : Option Addr) (H0 : Ent) (M H : Hp) (n : Nat) : Prop where
  ex : Ex M H
  gr : Gr pn H0.h H
  tb : Tb M H
  pen : ∀ p, pn = some p → M p = none ∧ PenAt K M H p n
/-- errors are told to the caller -/
def XOk (K : Fg) (Z : Xt) (pn : Option Addr) (H0 : Ent) : Prop := ∀ (M' H' : Hp) (n' : Nat) (C : Addr) (ns : List Str) (ds : List DV) (d : Addr) (fs : List (Str × V)), Ex H0.m M' → Fin K pn H0 M' H' n' → (∀ a, H0.P a → M' a = none) →
  H0.h d = none → H' d = some (.xd fs) → fs.map (·.1) = ns → RpL K M' (fs.map (·.2)) ds → Z.k C ns ds n' → Z.E (.ref C) (some d) H'
theorem XOk.sub {K : Fg} {Z : Xt} {pn : Option Addr} {H0 H1 : Ent} (x : XOk K Z pn H0) (e : Gr pn H0.h H1.h) (hm : Ex H0.m H1.m) (hP : ∀ a, H0.P a → H1.P a) : XOk K Z pn H1 :=
  fun M' H' n' C ns ds d fs em f ht h0 h1 h2 h3 h4 => x M' H' n' C ns ds d fs (Evl.Ex.trans hm em) ⟨f.ex, e.trans f.gr, f.tb, f.pen⟩ (fun a h => ht a (hP a h)) (e.back h0) h1 h2 h3 h4
/-- what is one's own, and may change: a list, an instance that is being made, a dict -/
inductive OV where
  | l (ds : List DV) | i (C : Addr) (ns : List Str) (ds : List DV) | d (ks : List Key) (ds : List DV)
def OwnAt (K : Fg) (M H : Hp) (a : Addr) : OV → Prop
  | .l ds => ∃ vs, H a = some (.lst vs) ∧ RpL K M vs ds
  | .i C ns ds => ∃ dx fs, H a = some (.ins C dx fs) ∧ fs.map (·.1) = ns ∧ RpL K M (fs.map (·.2)) ds
  | .d ks ds => ∃ kvs, H a = some (.dK kvs) ∧ kvs.map (·.1) = ks ∧ RpL K M (kvs.map (·.2)) ds
theorem OwnAt.obj {K : Fg} {M H : Hp} {a : Addr} : ∀ {o : OV}, OwnAt K M H a o → ∃ u, H a = some u ∧ NT u
  | .l _, ⟨_, h, _⟩ => ⟨_, h, fun _ z => nomatch z⟩
  | .i _ _ _, ⟨_, _, h, _⟩ => ⟨_, h, fun _ z => nomatch z⟩
  | .d _ _, ⟨_, h, _⟩ => ⟨_, h, fun _ z => nomatch z⟩
theorem OwnAt.live {K : Fg} {M H : Hp} {a : Addr} {o : OV} (h : OwnAt K M H a o) : H a ≠ none := by
  obtain ⟨u, e, _⟩ := h.obj
  rw [e]; exact fun z => nomatch z
theorem OwnAt.mono {K : Fg} {M M' H H' : Hp} {a : Addr} (e : Ex M M') (hp : H' a = H a) : ∀ {o : OV}, OwnAt K M H a o → OwnAt K M' H' a o
  | .l _, ⟨vs, h, r⟩ => ⟨vs, hp.trans h, r.mono e⟩
  | .i _ _ _, ⟨dx, fs, h, n, r⟩ => ⟨dx, fs, hp.trans h, n, r.mono e⟩
  | .d _ _, ⟨kvs, h, n, r⟩ => ⟨kvs, hp.trans h, n, r.mono e⟩
abbrev Own := List (Option OV)
structure Sta (K : Fg) (Z : Xt) (pn : Option Addr) (As : List Addr) (H0 : Ent) (M H : Hp) (σ : L2.St) (Γ : List SA) (O : Own) (n : Nat) : Prop extends Fin K pn H0 M H n where
  own : ∀ (j : Nat) (a : Addr) (o : OV), As[j]? = some a → O[j]? = some (some o) → M a = none ∧ H0 a = none ∧ some a ≠ pn ∧ OwnAt K M H a o
  live : ∀ a, a ∈ As → H a ≠ none
  pr : ∀ a, H0.P a → M a = none ∧ H a ≠ none ∧ H0 a ≠ none
  nd : As.Nodup
  len : As.length = O.length
  sl : σ.length = Γ.length
  ok : ∀ (i : Nat) (t : SA), Γ[i]? = some t → SlotOk K pn As M t (σ[i]?.join)
  em : Ex H0.m M
  xo : XOk K Z pn H0
section
variable {K : Fg} {Z : Xt} {pn : Option Addr} {As : List Addr} {H0 : Ent} {M M' H H' : Hp} {σ : L2.St} {Γ : List SA} {O : Own} {n m : Nat}
theorem SlotOk.mono {t : SA} {o : Option V} (e : Ex M M') (h : SlotOk K pn As M t o) : SlotOk K pn As M' t o := by
  cases t with
  | no => exact True.intro
  | is d => obtain ⟨v, h1, h2⟩ := h; exact ⟨v, h1, h2.mono e⟩
  | own j => exact h
  | pen => exact h
theorem upd_live {a p : Addr} {o : HO} (h : H a ≠ none) : upd H p o a ≠ none := by
  by_cases e : a = p
  · subst e; rw [upd_same]; exact fun z => by cases z
  · rw [upd_ne e]; exact h
theorem upd_live' {p : Addr} {o : HO} : upd H p o p ≠ none := by rw [upd_same]; exact fun z => by cases z
/-- a new object, frozen at once -/
theorem Sta.alloc (S : Sta K Z pn As H0 M H σ Γ O n) {p : Addr} {o : HO} (hp : H p = none) : Ex M (upd M p o) ∧ Sta K Z pn As H0 (upd M p o) (upd H p o) σ Γ O n := by
  have hM : M p = none := Evl.fresh_back S.ex hp
  have e : Ex M (upd M p o) := Evl.Ex.new hM
  refine ⟨e, ⟨⟨fun a u h => ?_, S.gr.new hp, S.tb.both hp, fun q hq => ?_⟩, fun j a ds h1 h2 => ?_, fun a h => ?_, fun a h => ?_, S.nd, S.len, S.sl, fun i t h => (S.ok i t h).mono e, Evl.Ex.trans S.em e, S.xo⟩⟩
  · by_cases h1 : a = p
    · subst h1; rw [upd_same] at h ⊢; exact h
    · rw [upd_ne h1] at h ⊢; exact S.ex a u h
  · obtain ⟨h1, h2⟩ := S.pen q hq
    have hne : q ≠ p := by
      obtain ⟨_, _, _, _, h3, _⟩ := h2
      exact ne_of_none h3 hp
    exact ⟨by rw [upd_ne hne]; exact h1, h2.mono e (by rw [upd_ne hne]) (Nat.le_refl _)⟩
  · obtain ⟨h3, h4, h5, h6⟩ := S.own j a ds h1 h2
    have hne : a ≠ p := fun z => h6.live (z ▸ hp)
    exact ⟨by rw [upd_ne hne]; exact h3, h4, h5, h6.mono e (upd_ne hne)⟩
  · exact upd_live (S.live a h)
  · obtain ⟨h1, h2, h3⟩ := S.pr a h
    exact ⟨by rw [upd_ne (show a ≠ p from fun z => h2 (by rw [z]; exact hp))]; exact h1, upd_live h2, h3⟩
/-- a new object, not frozen -/
theorem Sta.lay (S : Sta K Z pn As H0 M H σ Γ O n) {p : Addr} {o : HO} (hp : H p = none) : Sta K Z pn As H0 M (upd H p o) σ Γ O n := by
  refine ⟨⟨fun a u h => ?_, S.gr.new hp, S.tb.new hp, fun q hq => ?_⟩, fun j a ds h1 h2 => ?_, fun a h => upd_live (S.live a h), fun a h => ⟨(S.pr a h).1, upd_live (S.pr a h).2.1, (S.pr a h).2.2⟩, S.nd, S.len, S.sl, S.ok, S.em, S.xo⟩
  · have h3 := S.ex a u h
    rw [upd_ne (ne_of_none h3 hp)]; exact h3
  · obtain ⟨h1, h2⟩ := S.pen q hq
    have hne : q ≠ p := by
      obtain ⟨_, _, _, _, h3, _⟩ := h2
      exact ne_of_none h3 hp
    exact ⟨h1, h2.mono (Evl.Ex.refl _) (by rw [upd_ne hne]) (Nat.le_refl _)⟩
  · obtain ⟨h3, h4, h5, h6⟩ := S.own j a ds h1 h2
    have hne : a ≠ p := fun z => h6.live (z ▸ hp)
    exact ⟨h3, h4, h5, h6.mono (Evl.Ex.refl _) (upd_ne hne)⟩
end
end DL
namespace DL
open PySem PySem.Spec PyProof.Rows L2
variable [Tn]
/-! wishes over data -/
section defs
variable (K : Fg) (Z : Xt)
def W (te : TE) (Γ : List SA) (O : Own) (n : Nat) (k : DV → Nat → Prop) : Prop :=
  ∀ (pn : Option Addr) (As : List Addr) (H0 : Ent) (M H : Hp) (σ : L2.St), Sta K Z pn As H0 M H σ Γ O n → ∀ Q : VK,
    (∀ v M' H' d n', Ex M M' → Sta K Z pn As H0 M' H' σ Γ O n' → Rp K M' v d → k d n' → Q v H') → te σ H Q
/-- a new list, nobody else's -/
def WL (te : TE) (Γ : List SA) (O : Own) (n : Nat) (k : List DV → Nat → Prop) : Prop :=
  ∀ (pn : Option Addr) (As : List Addr) (H0 : Ent) (M H : Hp) (σ : L2.St), Sta K Z pn As H0 M H σ Γ O n → ∀ Q : VK,
    (∀ p vs M' H' ds n', Ex M M' → Sta K Z pn As H0 M' H' σ Γ O n' → M' p = none → H0 p = none → some p ≠ pn → p ∉ As → ¬ H0.P p → H' p = some (.lst vs) → RpL K M' vs ds → k ds n' → Q (.ref p) H') → te σ H Q
def WT (tt : TT) (Γ : List SA) (O : Own) (n : Nat) (k : Bool → Nat → Prop) : Prop :=
  ∀ (pn : Option Addr) (As : List Addr) (H0 : Ent) (M H : Hp) (σ : L2.St), Sta K Z pn As H0 M H σ Γ O n → ∀ Q : Bool → Hp → Prop,
    (∀ b M' H' n', Ex M M' → Sta K Z pn As H0 M' H' σ Γ O n' → k b n' → Q b H') → tt σ H Q
def WA (ta : TA) (Γ : List SA) (O : Own) (n : Nat) (k : List DV → Nat → Prop) : Prop :=
  ∀ (pn : Option Addr) (As : List Addr) (H0 : Ent) (M H : Hp) (σ : L2.St), Sta K Z pn As H0 M H σ Γ O n → ∀ Q : List V → Hp → Prop,
    (∀ vs M' H' ds n', Ex M M' → Sta K Z pn As H0 M' H' σ Γ O n' → RpL K M' vs ds → k ds n' → Q vs H') → ta σ H Q
def WO (to : TO) (Γ : List SA) (O : Own) (n : Nat) (k : Option Int → Nat → Prop) : Prop :=
  ∀ (pn : Option Addr) (As : List Addr) (H0 : Ent) (M H : Hp) (σ : L2.St), Sta K Z pn As H0 M H σ Γ O n → ∀ Q : Option Int → Hp → Prop,
    (∀ o M' H' n', Ex M M' → Sta K Z pn As H0 M' H' σ Γ O n' → k o n' → Q o H') → to σ H Q
/-- an operation on two data -/
def OW (r : R2) (x y : DV) (k : DV → Prop) : Prop :=
  ∀ (Z : Xt) (pn : Option Addr) (As : List Addr) (H0 : Ent) (M H : Hp) (σ : L2.St) (Γ : List SA) (O : Own) (n : Nat), Sta K Z pn As H0 M H σ Γ O n → ∀ v w, Rp K M v x → Rp K M w y → ∀ Q : VK,
    (∀ u M' H' d, Ex M M' → Sta K Z pn As H0 M' H' σ Γ O n → Rp K M' u d → k d → Q u H') → r v w H Q
def OWL (r : R2) (x y : DV) (k : List DV → Prop) : Prop :=
  ∀ (Z : Xt) (pn : Option Addr) (As : List Addr) (H0 : Ent) (M H : Hp) (σ : L2.St) (Γ : List SA) (O : Own) (n : Nat), Sta K Z pn As H0 M H σ Γ O n → ∀ v w, Rp K M v x → Rp K M w y → ∀ Q : VK,
    (∀ p vs M' H' ds, Ex M M' → Sta K Z pn As H0 M' H' σ Γ O n → M' p = none → H0 p = none → some p ≠ pn → p ∉ As → ¬ H0.P p → H' p = some (.lst vs) → RpL K M' vs ds → k ds → Q (.ref p) H') → r v w H Q
def UW (r : V → Hp → VK → Prop) (x : DV) (k : DV → Prop) : Prop :=
  ∀ (M H : Hp) v, Ex M H → Rp K M v x → ∀ Q : VK, (∀ u d, Rp K M u d → k d → Q u H) → r v H Q
def CW (r : List V → Hp → VK → Prop) (xs : List DV) (k : DV → Prop) : Prop :=
  ∀ (Z : Xt) (pn : Option Addr) (As : List Addr) (H0 : Ent) (M H : Hp) (σ : L2.St) (Γ : List SA) (O : Own) (n : Nat), Sta K Z pn As H0 M H σ Γ O n → ∀ vs, RpL K M vs xs → ∀ Q : VK,
    (∀ u M' H' d, Ex M M' → Sta K Z pn As H0 M' H' σ Γ O n → Rp K M' u d → k d → Q u H') → r vs H Q
def CWL (r : List V → Hp → VK → Prop) (xs : List DV) (k : List DV → Prop) : Prop :=
  ∀ (Z : Xt) (pn : Option Addr) (As : List Addr) (H0 : Ent) (M H : Hp) (σ : L2.St) (Γ : List SA) (O : Own) (n : Nat), Sta K Z pn As H0 M H σ Γ O n → ∀ us, RpL K M us xs → ∀ Q : VK,
    (∀ p vs M' H' ds, Ex M M' → Sta K Z pn As H0 M' H' σ Γ O n → M' p = none → H0 p = none → some p ≠ pn → p ∉ As → ¬ H0.P p → H' p = some (.lst vs) → RpL K M' vs ds → k ds → Q (.ref p) H') → r us H Q
/-- a slice -/
def LW (r : V → Option Int → Option Int → Hp → VK → Prop) (x : DV) (lo hi : Option Int) (k : DV → Prop) : Prop :=
  ∀ (Z : Xt) (pn : Option Addr) (As : List Addr) (H0 : Ent) (M H : Hp) (σ : L2.St) (Γ : List SA) (O : Own) (n : Nat), Sta K Z pn As H0 M H σ Γ O n → ∀ v, Rp K M v x → ∀ Q : VK,
    (∀ u M' H' d, Ex M M' → Sta K Z pn As H0 M' H' σ Γ O n → Rp K M' u d → k d → Q u H') → r v lo hi H Q
/-- what is walked -/
def IterOk (J : It) (xs : List DV) (M0 : Hp) : Prop :=
  ∀ (Z : Xt) (pn : Option Addr) (As : List Addr) (H0 : Ent) (M H : Hp) (σ : L2.St) (Γ : List SA) (O : Own) (n : Nat), Ex M0 M → Sta K Z pn As H0 M H σ Γ O n → ∀ i : Nat,
    (∀ d, xs[i]? = some d → J.go i H ∧ ∀ x H', J.yld i H x H' → ∃ M', Ex M M' ∧ Sta K Z pn As H0 M' H' σ Γ O n ∧ Rp K M' x d) ∧ (xs.length ≤ i → J.stop i H)
def SW (wi : TI) (Γ : List SA) (O : Own) (n : Nat) (k : List DV → Nat → Prop) : Prop :=
  ∀ (pn : Option Addr) (As : List Addr) (H0 : Ent) (M H : Hp) (σ : L2.St), Sta K Z pn As H0 M H σ Γ O n → ∀ R : It → Hp → Prop,
    (∀ J M' H' xs n', Ex M M' → Sta K Z pn As H0 M' H' σ Γ O n' → IterOk K J xs M' → k xs n' → R J H') → wi σ H R
/-- a target; it stores slots of vs alone -/
def GW (g : TG) (vs : List Nat) (x : DV) (Γ : List SA) (k : List SA → Prop) : Prop :=
  ∀ (Z : Xt) (pn : Option Addr) (As : List Addr) (H0 : Ent) (M H : Hp) (σ : L2.St) (O : Own) (n : Nat), Sta K Z pn As H0 M H σ Γ O n → ∀ v, Rp K M v x → ∀ Q : L2.St → Hp → Prop,
    (∀ σ' Γ', Sta K Z pn As H0 M H σ' Γ' O n → wipe σ' vs = wipe σ vs → k Γ' → Q σ' H) → g v σ H Q
structure KE where
  nx : List SA → Own → Nat → Prop
  rt : DV → Own → Nat → Prop
  bk : List SA → Own → Nat → Prop := fun _ _ _ => False
  ct : List SA → Own → Nat → Prop := fun _ _ _ => False
/-- how a body's ends serve -/
structure Serves (pn : Option Addr) (As : List Addr) (H0 : Ent) (M : Hp) (E : KE) (D : Ends) : Prop where
  nx : ∀ As' M' H' σ Γ O n, As <+: As' → Ex M M' → Sta K Z pn As' H0 M' H' σ Γ O n → E.nx Γ O n → D.nx σ H'
  rt : ∀ As' v M' H' σ Γ O d n, As <+: As' → Ex M M' → Sta K Z pn As' H0 M' H' σ Γ O n → Rp K M' v d → E.rt d O n → D.rt v H'
  bk : ∀ As' M' H' σ Γ O n, As <+: As' → Ex M M' → Sta K Z pn As' H0 M' H' σ Γ O n → E.bk Γ O n → D.bk σ H'
  ct : ∀ As' M' H' σ Γ O n, As <+: As' → Ex M M' → Sta K Z pn As' H0 M' H' σ Γ O n → E.ct Γ O n → D.ct σ H'
def WS (ts : TS) (Γ : List SA) (O : Own) (n : Nat) (E : KE) : Prop :=
  ∀ (pn : Option Addr) (As : List Addr) (H0 : Ent) (M H : Hp) (σ : L2.St) (D : Ends), Sta K Z pn As H0 M H σ Γ O n → Serves K Z pn As H0 M E D → ts D σ H
end defs
section
variable {K : Fg} {Z : Xt} {pn : Option Addr} {As : List Addr} {H0 : Ent} {M M' H H' : Hp} {σ : L2.St} {Γ : List SA} {O : Own} {n m : Nat} {te ta tb : TE} {x y : DV}
theorem Serves.at {As' : List Addr} {E : KE} {D : Ends} (s : Serves K Z pn As H0 M E D) (p : As <+: As') (e : Ex M M') : Serves K Z pn As' H0 M' E D :=
  ⟨fun A2 M2 H' σ Γ O n q h => s.nx A2 M2 H' σ Γ O n (p.trans q) (Evl.Ex.trans e h), fun A2 v M2 H' σ Γ O d n q h => s.rt A2 v M2 H' σ Γ O d n (p.trans q) (Evl.Ex.trans e h), fun A2 M2 H' σ Γ O n q h => s.bk A2 M2 H' σ Γ O n (p.trans q) (Evl.Ex.trans e h), fun A2 M2 H' σ Γ O n q h => s.ct A2 M2 H' σ Γ O n (p.trans q) (Evl.Ex.trans e h)⟩
theorem Serves.on {E : KE} {D : Ends} (s : Serves K Z pn As H0 M E D) (e : Ex M M') : Serves K Z pn As H0 M' E D := s.at (List.prefix_refl _) e
theorem Sta.slot (S : Sta K Z pn As H0 M H σ Γ O n) {i : Nat} {d : DV} (h : Γ[i]? = some (.is d)) : ∃ v, σ[i]? = some (some v) ∧ Rp K M v d := by
  obtain ⟨v, h1, h2⟩ := S.ok i _ h
  refine ⟨v, ?_, h2⟩
  cases e : σ[i]? with
  | none => rw [e] at h1; cases h1
  | some o => rw [e] at h1; exact congrArg some h1
theorem Sta.slotOwn (S : Sta K Z pn As H0 M H σ Γ O n) {i j : Nat} {ds : List DV} (h : Γ[i]? = some (.own j)) (ho : O[j]? = some (some (.l ds))) :
    ∃ a vs, σ[i]? = some (some (.ref a)) ∧ As[j]? = some a ∧ H a = some (.lst vs) ∧ RpL K M vs ds ∧ M a = none ∧ H0 a = none ∧ some a ≠ pn := by
  obtain ⟨a, h1, h2⟩ := S.ok i _ h
  obtain ⟨h3, h4, h5, vs, h6, h7⟩ := S.own j a _ h1 ho
  refine ⟨a, vs, ?_, h1, h6, h7, h3, h4, h5⟩
  cases e : σ[i]? with
  | none => rw [e] at h2; cases h2
  | some o => rw [e] at h2; exact congrArg some h2
theorem Sta.slotPen (S : Sta K Z pn As H0 M H σ Γ O n) {i : Nat} (h : Γ[i]? = some .pen) : ∃ p, σ[i]? = some (some (.ref p)) ∧ pn = some p := by
  obtain ⟨p, h1, h2⟩ := S.ok i _ h
  refine ⟨p, ?_, h1⟩
  cases e : σ[i]? with
  | none => rw [e] at h2; cases h2
  | some o => rw [e] at h2; exact congrArg some h2
/-- a slot is stored -/
theorem Sta.store (S : Sta K Z pn As H0 M H σ Γ O n) {i : Nat} {v : V} {d : DV} (r : Rp K M v d) : Sta K Z pn As H0 M H (σ.set i (some v)) (Γ.set i (.is d)) O n := by
  refine ⟨S.toFin, S.own, S.live, S.pr, S.nd, S.len, by simpa using S.sl, fun j t h => ?_, S.em, S.xo⟩
  by_cases hj : i = j
  · subst hj
    have hi : i < Γ.length := by
      have := (List.getElem?_eq_some_iff.mp h).1
      simpa using this
    rw [List.getElem?_set_self hi] at h
    cases h
    rw [List.getElem?_set_self (by rw [S.sl]; exact hi)]
    exact ⟨v, rfl, r⟩
  · rw [List.getElem?_set_ne hj] at h ⊢
    exact S.ok j t h
/-! ### expressions -/
theorem w_var {i : Nat} {d : DV} {k : DV → Nat → Prop} (h : Γ[i]? = some (.is d)) (q : k d n) : W K Z (tVar i) Γ O n k := fun pn As H0 M H σ S Q c => by
  obtain ⟨v, h1, h2⟩ := S.slot h
  exact ⟨v, h1, c v M H d n (Evl.Ex.refl M) S h2 q⟩
theorem w_cv {v : V} {d : DV} {k : DV → Nat → Prop} (h : ∀ M, Rp K M v d) (q : k d n) : W K Z (tC v) Γ O n k := fun pn As H0 M H σ S Q c => c v M H d n (Evl.Ex.refl M) S (h M) q
theorem w_int {i : Int} {k : DV → Nat → Prop} (q : k (.int i) n) : W K Z (tC (.int i)) Γ O n k := w_cv (fun _ => .int i) q
theorem w_bl {i : Bool} {k : DV → Nat → Prop} (q : k (.bl i) n) : W K Z (tC (.bl i)) Γ O n k := w_cv (fun _ => .bl i) q
theorem w_str {i : Str} {k : DV → Nat → Prop} (q : k (.str i) n) : W K Z (tC (.str i)) Γ O n k := w_cv (fun _ => .str i) q
theorem w_non {k : DV → Nat → Prop} (q : k .non n) : W K Z (tC .non) Γ O n k := w_cv (fun _ => .non) q
theorem w_ty {i : String} {k : DV → Nat → Prop} (q : k (.ty i) n) : W K Z (tC (.ty i)) Γ O n k := w_cv (fun _ => .ty i) q
theorem w_adr {i : Addr} {k : DV → Nat → Prop} (q : k (.adr i) n) : W K Z (tC (.ref i)) Γ O n k := w_cv (fun _ => .adr i) q
theorem w_op {r : R2} {k : DV → Nat → Prop} (h : W K Z ta Γ O n fun x n1 => W K Z tb Γ O n1 fun y n2 => OW K r x y fun z => k z n2) : W K Z (tOp r ta tb) Γ O n k := fun pn As H0 M H σ S Q c =>
  h pn As H0 M H σ S _ fun v M1 H1 x n1 e1 S1 r1 q1 => q1 pn As H0 M1 H1 σ S1 _ fun w M2 H2 y n2 e2 S2 r2 q2 => q2 Z pn As H0 M2 H2 σ Γ O n2 S2 v w (r1.mono e2) r2 Q fun u M3 H3 d e3 S3 r3 q3 =>
    c u M3 H3 d n2 (Evl.Ex.trans (Evl.Ex.trans e1 e2) e3) S3 r3 q3
theorem wl_op {r : R2} {k : List DV → Nat → Prop} (h : W K Z ta Γ O n fun x n1 => W K Z tb Γ O n1 fun y n2 => OWL K r x y fun z => k z n2) : WL K Z (tOp r ta tb) Γ O n k := fun pn As H0 M H σ S Q c =>
  h pn As H0 M H σ S _ fun v M1 H1 x n1 e1 S1 r1 q1 => q1 pn As H0 M1 H1 σ S1 _ fun w M2 H2 y n2 e2 S2 r2 q2 => q2 Z pn As H0 M2 H2 σ Γ O n2 S2 v w (r1.mono e2) r2 Q fun p vs M3 H3 ds e3 S3 =>
    c p vs M3 H3 ds n2 (Evl.Ex.trans (Evl.Ex.trans e1 e2) e3) S3
theorem w_un {r : V → Hp → VK → Prop} {k : DV → Nat → Prop} (h : W K Z ta Γ O n fun x n1 => UW K r x fun z => k z n1) : W K Z (tUn r ta) Γ O n k := fun pn As H0 M H σ S Q c =>
  h pn As H0 M H σ S _ fun v M1 H1 x n1 e1 S1 r1 q1 => q1 M1 H1 v S1.ex r1 Q fun u d r2 q2 => c u M1 H1 d n1 e1 S1 r2 q2
/-- a new list is kept for good -/
theorem w_of_wl {k : DV → Nat → Prop} (h : WL K Z te Γ O n fun ds n1 => k (.lst ds) n1) : W K Z te Γ O n k := fun pn As H0 M H σ S Q c =>
  h pn As H0 M H σ S Q fun p vs M1 H1 ds n1 e1 S1 h1 h2 h3 h4 hP h5 h6 h7 => by
    have ex : Ex M1 (upd M1 p (.lst vs)) := Evl.Ex.new h1
    refine c (.ref p) (upd M1 p (.lst vs)) H1 (.lst ds) n1 (Evl.Ex.trans e1 ex) ⟨⟨fun a u h => ?_, S1.gr, S1.tb.frz h5 nt_lst, fun q hq => ?_⟩, fun j a es g1 g2 => ?_, S1.live, fun a h => ?_, S1.nd, S1.len, S1.sl, fun i t h => (S1.ok i t h).mono ex, Evl.Ex.trans S1.em ex, S1.xo⟩ (.lst upd_same (h6.mono ex)) h7
    · by_cases ha : a = p
      · subst ha; rw [upd_same] at h; rw [← h]; exact h5
      · rw [upd_ne ha] at h; exact S1.ex a u h
    · obtain ⟨g1, g2⟩ := S1.pen q hq
      exact ⟨by rw [upd_ne (fun z => h3 (by rw [← z, hq]))]; exact g1, g2.mono ex rfl (Nat.le_refl _)⟩
    · obtain ⟨g3, g4, g5, g6⟩ := S1.own j a es g1 g2
      exact ⟨by rw [upd_ne (fun z => h4 (by rw [← z]; exact List.mem_of_getElem? g1))]; exact g3, g4, g5, g6.mono ex rfl⟩
    · exact ⟨by rw [upd_ne (show a ≠ p from fun z => hP (by rw [← z]; exact h))]; exact (S1.pr a h).1, (S1.pr a h).2⟩
theorem wa_nil {k : List DV → Nat → Prop} (q : k [] n) : WA K Z tNil Γ O n k := fun pn As H0 M H σ S Q c => c [] M H [] n (Evl.Ex.refl M) S .nil q
theorem wa_cons {tr : TA} {k : List DV → Nat → Prop} (h : W K Z te Γ O n fun x n1 => WA K Z tr Γ O n1 fun xs n2 => k (x :: xs) n2) : WA K Z (tCons te tr) Γ O n k := fun pn As H0 M H σ S Q c =>
  h pn As H0 M H σ S _ fun v M1 H1 x n1 e1 S1 r1 q1 => q1 pn As H0 M1 H1 σ S1 _ fun vs M2 H2 xs n2 e2 S2 r2 q2 => c (v :: vs) M2 H2 (x :: xs) n2 (Evl.Ex.trans e1 e2) S2 (.cons (r1.mono e2) r2) q2
theorem w_tup {ta : TA} {k : DV → Nat → Prop} (h : WA K Z ta Γ O n fun xs n1 => xs.length ≤ 100000 ∧ k (.tup xs) n1) : W K Z (tTup ta) Γ O n k := fun pn As H0 M H σ S Q c =>
  h pn As H0 M H σ S _ fun vs M1 H1 xs n1 e1 S1 r1 ⟨hl, q1⟩ => ⟨Evl.sz_of (by rw [r1.length]; exact hl), fun p hp => by
    obtain ⟨ex, S2⟩ := S1.alloc (o := .tup vs) hp
    exact c (.ref p) _ _ (.tup xs) n1 (Evl.Ex.trans e1 ex) S2 (.tup (.inl (.inl upd_same)) (r1.mono ex)) q1⟩
theorem wl_new {Q : VK} {k : List DV → Nat → Prop} {vs : List V} {ds : List DV} (S : Sta K Z pn As H0 M H σ Γ O n) {p : Addr} (hp : H p = none) (r : RpL K M vs ds)
    (c : ∀ p vs M' H' ds n', Ex M M' → Sta K Z pn As H0 M' H' σ Γ O n' → M' p = none → H0 p = none → some p ≠ pn → p ∉ As → ¬ H0.P p → H' p = some (.lst vs) → RpL K M' vs ds → k ds n' → Q (.ref p) H') (q : k ds n) : Q (.ref p) (upd H p (.lst vs)) := by
  refine c p vs M _ ds n (Evl.Ex.refl M) (S.lay hp) (Evl.fresh_back S.ex hp) ?_ (fun z => ?_) (fun z => ?_) (fun z => (S.pr p z).2.1 hp) upd_same r q
  · exact S.gr.back hp
  · obtain ⟨_, _, _, _, _, h3, _⟩ := S.pen p z.symm
    rw [hp] at h3; cases h3
  · exact S.live p z hp
end
end DL
namespace PySem.DLx
open PySem PySem.Spec PyProof.Rows L2
/-! t * 1, t an exact tuple: the tuple itself -/
theorem tuple_mul1 (l : Addr) (items : Array Value) (n : Nat) (dd : Option Addr) (sl : Array (Option Value)) (u : Tok) :
    Meets (Builtin.«tuple.__mul__» ⟨[.ref l, .int 1 u], []⟩) (fun _ R s => s.heap.get? l = some { cls := .type "tuple", dict := dd, data := .seq items n, slots := sl } ∧ R (.ok (.ret (Value.ref l))) s) :=
  .of_wp fun prog w A R s h => by
    obtain ⟨hp, g, d, tk, os⟩ := s
    obtain ⟨at_, h⟩ := h
    have f1 := AutoSeq1.idx_int
    have c1 : (items.isEmpty || (1 : Int) == 1) = true := by simp
    wp_walk using wpAny_loadPart' at_
    repeat (first
      | (refine wpAny_ite_false (decide_eq_false (by simp)) ?_; wp_walk using wpAny_loadPart' at_)
      | (refine wpAny_ite_true (by simp) ?_; wp_walk using wpAny_loadPart' at_)
      | (rw [if_pos c1]; wp_walk using wpAny_loadPart' at_))
    all_goals exact ⟨_, rfl, h⟩
def rRep1T (K : PySem.W.Frag) : R2 := fun x y H Q => ∃ l xs, x = .ref l ∧ y = .int 1 ∧ SqT K H l xs ∧ Q (.ref l) H
theorem op_rep1T {X : Cx} : OpR X (binaryOp .Mult) (rRep1T X.K) := by
  intro pins s σ H x y v u Q I rx ry h
  obtain ⟨l, xs, rfl, rfl, hT, q⟩ := h
  cases rx
  obtain ⟨t, rfl⟩ := ry
  obtain ⟨its, r, ⟨⟨cls, dd, data, sl⟩, ho, hc, n, hd⟩, hs⟩ := I.tuple hT
  simp only at hc hd
  subst hc hd
  refine wpAny_binaryOp_repeat_ref (T := "tuple") (U := "int") (by decide) ⟨_, ho, rfl⟩ (fun z => typeIs_int z 1 t) noFill_tuple_mul F.fills_int_mul F.slot_int_rmul repeat_tuple F.slot_int_index.lookup ?_
  exact call_meets F.slot_int_rmul (typeIs_int s 1 t) F.entry_int_rmul (F.args_int_rmul_2 _ _) (int_rmul_tuple 1 t l its.toArray n dd sl)
    ⟨ho, rfl, ⟨_, ho, rfl⟩, call_meets F.slot_tuple_mul ⟨_, ho, rfl⟩ F.entry_tuple_mul (F.args_tuple_mul_2 _ _) (tuple_mul1 l its.toArray n dd sl t) ⟨ho, .ref l, H, I, rfl, q⟩⟩
end PySem.DLx
namespace DL
open PySem PySem.Spec PyProof.Rows L2
variable [Tn]
section
variable {K : Fg} {Z : Xt} {pn : Option Addr} {As : List Addr} {H0 : Ent} {M M' H H' : Hp} {σ : L2.St} {Γ : List SA} {O : Own} {n m : Nat} {te ta tb : TE} {x y : DV}
/-! ### tests -/
def tTru (K : Fg) (ta : TE) : TT := fun σ H Q => ta σ H fun x H1 => ∃ k, TruV K x H1 k ∧ Q k H1
theorem wt_test {te : TE} {k : Bool → Nat → Prop} (h : W K Z te Γ O n fun d n1 => ∃ b, d = .bl b ∧ k b n1) : WT K Z (tTest te) Γ O n k := fun pn As H0 M H σ S Q c =>
  h pn As H0 M H σ S _ fun v M1 H1 d n1 e1 S1 r1 ⟨b, e, q⟩ => by
    subst e
    exact ⟨b, r1.bl', c b M1 H1 n1 e1 S1 q⟩
theorem wt_B {te : TE} {k : Bool → Nat → Prop} (h : W K Z te Γ O n fun d n1 => ∃ b, d = .bl b ∧ k b n1) : WT K Z (tB te) Γ O n k := fun pn As H0 M H σ S Q c =>
  h pn As H0 M H σ S _ fun v M1 H1 d n1 e1 S1 r1 ⟨b, e, q⟩ => by
    subst e
    exact ⟨b, r1.bl', c b M1 H1 n1 e1 S1 q⟩
theorem wt_and {t u : TT} {k : Bool → Nat → Prop} (h : WT K Z t Γ O n fun b n1 => (b = true → WT K Z u Γ O n1 k) ∧ (b = false → k false n1)) : WT K Z (tAnd t u) Γ O n k := fun pn As H0 M H σ S Q c =>
  h pn As H0 M H σ S _ fun b M1 H1 n1 e1 S1 q => by
    cases b with
    | true => exact q.1 rfl pn As H0 M1 H1 σ S1 Q fun b2 M2 H2 n2 e2 => c b2 M2 H2 n2 (Evl.Ex.trans e1 e2)
    | false => exact c false M1 H1 n1 e1 S1 (q.2 rfl)
theorem wt_or {t u : TT} {k : Bool → Nat → Prop} (h : WT K Z t Γ O n fun b n1 => (b = true → k true n1) ∧ (b = false → WT K Z u Γ O n1 k)) : WT K Z (tOr t u) Γ O n k := fun pn As H0 M H σ S Q c =>
  h pn As H0 M H σ S _ fun b M1 H1 n1 e1 S1 q => by
    cases b with
    | false => exact q.2 rfl pn As H0 M1 H1 σ S1 Q fun b2 M2 H2 n2 e2 => c b2 M2 H2 n2 (Evl.Ex.trans e1 e2)
    | true => exact c true M1 H1 n1 e1 S1 (q.1 rfl)
theorem wt_not {t : TT} {k : Bool → Nat → Prop} (h : WT K Z t Γ O n fun b n1 => k (!b) n1) : WT K Z (tNot t) Γ O n k := fun pn As H0 M H σ S Q c =>
  h pn As H0 M H σ S _ fun b M1 H1 n1 e1 S1 q => c (!b) M1 H1 n1 e1 S1 q
theorem wt_yes {k : Bool → Nat → Prop} (h : k true n) : WT K Z tYes Γ O n k := fun pn As H0 M H σ S Q c => c true M H n (Evl.Ex.refl M) S h
theorem wt_tru {te : TE} {k : Bool → Nat → Prop} (h : W K Z te Γ O n fun d n1 => (d = .non ∧ k false n1) ∨ (∃ b, d = .bl b ∧ k b n1) ∨ (∃ i, d = .int i ∧ k (i != 0) n1) ∨ (∃ xs, d = .lst xs ∧ k (!xs.isEmpty) n1) ∨ ∃ xs, d = .tup xs ∧ k (!xs.isEmpty) n1) : WT K Z (tTru K te) Γ O n k := fun pn As H0 M H σ S Q c =>
  h pn As H0 M H σ S _ fun v M1 H1 d n1 e1 S1 r1 q => by
    have em : ∀ {vs : List V} {ds : List DV}, RpL K M1 vs ds → vs.isEmpty = ds.isEmpty := fun h => by cases h <;> rfl
    rcases q with ⟨rfl, q⟩ | ⟨b, rfl, q⟩ | ⟨i, rfl, q⟩ | ⟨xs, rfl, q⟩ | ⟨xs, rfl, q⟩
    · cases r1; exact ⟨false, rfl, c _ M1 H1 n1 e1 S1 q⟩
    · cases r1; exact ⟨b, rfl, c _ M1 H1 n1 e1 S1 q⟩
    · cases r1; exact ⟨_, rfl, c _ M1 H1 n1 e1 S1 q⟩
    · obtain ⟨a, vs, rfl, h1, h2⟩ := r1.lst'
      exact ⟨_, Or.inl ⟨vs, .inl (.inl (S1.ex _ _ h1)), by rw [em h2]⟩, c _ M1 H1 n1 e1 S1 q⟩
    · obtain ⟨a, vs, rfl, h1, h2⟩ := r1.tup'
      exact ⟨_, Or.inr (.inl ⟨vs, Evl.ex_t S1.ex h1, by rw [em h2]⟩), c _ M1 H1 n1 e1 S1 q⟩
/-! ### and, or, not, if as values -/
theorem w_and {k : DV → Nat → Prop} (h : W K Z ta Γ O n fun d n1 => ∃ b, d = .bl b ∧ (b = true → W K Z tb Γ O n1 k) ∧ (b = false → k (.bl false) n1)) : W K Z (tAndV ta tb) Γ O n k := fun pn As H0 M H σ S Q c =>
  h pn As H0 M H σ S _ fun v M1 H1 d n1 e1 S1 r1 ⟨b, e, q⟩ => by
    subst e
    refine ⟨b, r1.bl', ?_⟩
    cases b with
    | true => exact q.1 rfl pn As H0 M1 H1 σ S1 Q fun v2 M2 H2 d2 n2 e2 => c v2 M2 H2 d2 n2 (Evl.Ex.trans e1 e2)
    | false => exact c _ M1 H1 _ n1 e1 S1 (.bl false) (q.2 rfl)
theorem w_or {k : DV → Nat → Prop} (h : W K Z ta Γ O n fun d n1 => ∃ b, d = .bl b ∧ (b = true → k (.bl true) n1) ∧ (b = false → W K Z tb Γ O n1 k)) : W K Z (tOrV ta tb) Γ O n k := fun pn As H0 M H σ S Q c =>
  h pn As H0 M H σ S _ fun v M1 H1 d n1 e1 S1 r1 ⟨b, e, q⟩ => by
    subst e
    refine ⟨b, r1.bl', ?_⟩
    cases b with
    | false => exact q.2 rfl pn As H0 M1 H1 σ S1 Q fun v2 M2 H2 d2 n2 e2 => c v2 M2 H2 d2 n2 (Evl.Ex.trans e1 e2)
    | true => exact c _ M1 H1 _ n1 e1 S1 (.bl true) (q.1 rfl)
theorem w_not {k : DV → Nat → Prop} (h : W K Z ta Γ O n fun d n1 => ∃ b, d = .bl b ∧ k (.bl (!b)) n1) : W K Z (tNotV ta) Γ O n k := fun pn As H0 M H σ S Q c =>
  h pn As H0 M H σ S _ fun v M1 H1 d n1 e1 S1 r1 ⟨b, e, q⟩ => by
    subst e
    exact ⟨b, r1.bl', c _ M1 H1 _ n1 e1 S1 (.bl _) q⟩
theorem w_if {t : TT} {k : DV → Nat → Prop} (h : WT K Z t Γ O n fun b n1 => (b = true → W K Z ta Γ O n1 k) ∧ (b = false → W K Z tb Γ O n1 k)) : W K Z (tIf t ta tb) Γ O n k := fun pn As H0 M H σ S Q c =>
  h pn As H0 M H σ S _ fun b M1 H1 n1 e1 S1 q => by
    cases b with
    | true => exact q.1 rfl pn As H0 M1 H1 σ S1 Q fun v2 M2 H2 d2 n2 e2 => c v2 M2 H2 d2 n2 (Evl.Ex.trans e1 e2)
    | false => exact q.2 rfl pn As H0 M1 H1 σ S1 Q fun v2 M2 H2 d2 n2 e2 => c v2 M2 H2 d2 n2 (Evl.Ex.trans e1 e2)
theorem wl_if {t : TT} {k : List DV → Nat → Prop} (h : WT K Z t Γ O n fun b n1 => (b = true → WL K Z ta Γ O n1 k) ∧ (b = false → WL K Z tb Γ O n1 k)) : WL K Z (tIf t ta tb) Γ O n k := fun pn As H0 M H σ S Q c =>
  h pn As H0 M H σ S _ fun b M1 H1 n1 e1 S1 q => by
    cases b with
    | true => exact q.1 rfl pn As H0 M1 H1 σ S1 Q fun p vs M2 H2 d2 n2 e2 => c p vs M2 H2 d2 n2 (Evl.Ex.trans e1 e2)
    | false => exact q.2 rfl pn As H0 M1 H1 σ S1 Q fun p vs M2 H2 d2 n2 e2 => c p vs M2 H2 d2 n2 (Evl.Ex.trans e1 e2)
/-! ### operations on ints -/
theorem ow_I0 {g : Int → Int → V} {gd : Int → Int → DV} {i j : Int} {k : DV → Prop} (hg : ∀ M, Rp K M (g i j) (gd i j)) (q : k (gd i j)) : OW K (rI0 g) (.int i) (.int j) k := fun Z pn As H0 M H σ Γ O n S v w rv rw Q c =>
  ⟨i, j, rv.int', rw.int', c _ M H _ (Evl.Ex.refl M) S (hg M) q⟩
theorem ow_I {C : Int → Int → Prop} {g : Int → Int → V} {gd : Int → Int → DV} {i j : Int} {k : DV → Prop} (hg : ∀ M, Rp K M (g i j) (gd i j)) (hc : C i j) (q : k (gd i j)) : OW K (rI C g) (.int i) (.int j) k := fun Z pn As H0 M H σ Γ O n S v w rv rw Q c =>
  ⟨i, j, rv.int', rw.int', hc, c _ M H _ (Evl.Ex.refl M) S (hg M) q⟩
theorem OW.l {r r' : R2} {k : DV → Prop} (h : OW K r x y k) : OW K (fun x y H Q => r x y H Q ∨ r' x y H Q) x y k := fun Z pn As H0 M H σ Γ O n S v w rv rw Q c => .inl (h Z pn As H0 M H σ Γ O n S v w rv rw Q c)
theorem OW.r {r r' : R2} {k : DV → Prop} (h : OW K r' x y k) : OW K (fun x y H Q => r x y H Q ∨ r' x y H Q) x y k := fun Z pn As H0 M H σ Γ O n S v w rv rw Q c => .inr (h Z pn As H0 M H σ Γ O n S v w rv rw Q c)
/-- a + b of any kinds that come here -/
def rPlus (K : Fg) : R2 := fun x y H Q => rI0 (fun i j => .int (i + j)) x y H Q ∨ rCat x y H Q ∨ rCatA K x y H Q
theorem op_plus {X : Cx} : OpR X (binaryOp .Add) (rPlus X.K) := op_add.or (op_cat.or op_catA)
def rMinus : R2 := rI0 (fun i j => .int (i - j))
theorem op_minus {X : Cx} : OpR X (binaryOp .Sub) rMinus := op_sub
def rMulI : R2 := rI IntMulOk fun i j => .int (i * j)
theorem op_mulI {X : Cx} : OpR X (binaryOp .Mult) rMulI := opI fun _ _ _ _ _ _ _ hc q => mul_int q hc
def rTimes (K : Fg) : R2 := fun x y H Q => rMulI x y H Q ∨ rRep x y H Q ∨ rRepT K x y H Q ∨ PySem.DLx.rRep1T K x y H Q
theorem op_times {X : Cx} : OpR X (binaryOp .Mult) (rTimes X.K) := op_mulI.or (op_rep.or (op_repT.or PySem.DLx.op_rep1T))
def CDivA (_ j : Int) : Prop := j ≠ 0 ∧ j.natAbs < 2 ^ 9000
def rFdiv : R2 := rI CDivA fun i j => .int (i.fdiv j)
theorem op_fdivA {X : Cx} : OpR X (binaryOp .FloorDiv) rFdiv := opI fun i j _ _ _ _ _ hc q =>
  floordiv_int hc.1 q (.inl (PyProof.noPylong_of_log2 (PySem.Flt.log2_lt_of (by decide) hc.2)))
def rFmod : R2 := rI (fun _ j => j ≠ 0) fun i j => .int (i.fmod j)
theorem op_fmodA {X : Cx} : OpR X (binaryOp .Mod) rFmod := op_modN
def rPow : R2 := rI CPow fun i j => .int (i ^ j.toNat)
theorem op_powA {X : Cx} : OpR X (binaryOp .Pow) rPow := op_pow
theorem ow_plusI {i j : Int} {k : DV → Prop} (q : k (.int (i + j))) : OW K (rPlus K) (.int i) (.int j) k := OW.l (ow_I0 (gd := fun i j => .int (i + j)) (fun _ => .int _) q)
theorem ow_minus {i j : Int} {k : DV → Prop} (q : k (.int (i - j))) : OW K rMinus (.int i) (.int j) k := ow_I0 (gd := fun i j => .int (i - j)) (fun _ => .int _) q
theorem ow_timesI {i j : Int} {k : DV → Prop} (h : IntMulOk i j) (q : k (.int (i * j))) : OW K (rTimes K) (.int i) (.int j) k := OW.l (ow_I (gd := fun i j => .int (i * j)) (fun _ => .int _) h q)
theorem ow_fdiv {i j : Int} {k : DV → Prop} (h : j ≠ 0) (h2 : j.natAbs < 2 ^ 9000) (q : k (.int (i.fdiv j))) : OW K rFdiv (.int i) (.int j) k := ow_I (gd := fun i j => .int (i.fdiv j)) (fun _ => .int _) ⟨h, h2⟩ q
theorem ow_fmod {i j : Int} {k : DV → Prop} (h : j ≠ 0) (q : k (.int (i.fmod j))) : OW K rFmod (.int i) (.int j) k := ow_I (gd := fun i j => .int (i.fmod j)) (fun _ => .int _) h q
theorem ow_pow {i j : Int} {k : DV → Prop} (h : CPow i j) (q : k (.int (i ^ j.toNat))) : OW K rPow (.int i) (.int j) k := ow_I (gd := fun i j => .int (i ^ j.toNat)) (fun _ => .int _) h q
theorem uw_neg {i : Int} {k : DV → Prop} (q : k (.int (-i))) : UW K (rU fun i => .int (-i)) (.int i) k := fun M H v e r Q c => ⟨i, r.int', c _ _ (.int _) q⟩
/-! comparisons of ints -/
def rLt : R2 := rI0 fun i j => .bl (decide (i < j))
def rLe : R2 := rI0 fun i j => .bl (decide (i ≤ j))
def rGt : R2 := rI0 fun i j => .bl (decide (j < i))
def rGe : R2 := rI0 fun i j => .bl (decide (j ≤ i))
theorem op_ltA {X : Cx} : OpR X (compareOp .Lt) rLt := op_lt
theorem op_leA {X : Cx} : OpR X (compareOp .LtE) rLe := op_le
theorem op_gtA {X : Cx} : OpR X (compareOp .Gt) rGt := op_gt
theorem op_geA {X : Cx} : OpR X (compareOp .GtE) rGe := op_ge
theorem ow_lt {i j : Int} {k : DV → Prop} (q : k (.bl (decide (i < j)))) : OW K rLt (.int i) (.int j) k := ow_I0 (gd := fun i j => .bl (decide (i < j))) (fun _ => .bl _) q
theorem ow_le {i j : Int} {k : DV → Prop} (q : k (.bl (decide (i ≤ j)))) : OW K rLe (.int i) (.int j) k := ow_I0 (gd := fun i j => .bl (decide (i ≤ j))) (fun _ => .bl _) q
theorem ow_gt {i j : Int} {k : DV → Prop} (q : k (.bl (decide (j < i)))) : OW K rGt (.int i) (.int j) k := ow_I0 (gd := fun i j => .bl (decide (j < i))) (fun _ => .bl _) q
theorem ow_ge {i j : Int} {k : DV → Prop} (q : k (.bl (decide (j ≤ i)))) : OW K rGe (.int i) (.int j) k := ow_I0 (gd := fun i j => .bl (decide (j ≤ i))) (fun _ => .bl _) q
end
/-! ### plain data -/
mutual
def py : DV → PyData
  | .non => .none
  | .bl b => .bool b
  | .int i => .int i
  | .str x => .str x
  | .tup ds => .tuple (pyL ds)
  | .lst ds => .list (pyL ds)
  | .ty _ => .none
  | .adr _ => .none
  | .ins _ _ _ => .none
  | .dic _ _ => .none
  | .exc _ _ _ => .none
def pyL : List DV → List PyData
  | [] => []
  | d :: ds => py d :: pyL ds
end
mutual
def isPy : DV → Bool
  | .non => true
  | .bl _ => true
  | .int _ => true
  | .str _ => true
  | .tup ds => isPyL ds
  | .lst ds => isPyL ds
  | .ty _ => false
  | .adr _ => false
  | .ins _ _ _ => false
  | .dic _ _ => false
  | .exc _ _ _ => false
def isPyL : List DV → Bool
  | [] => true
  | d :: ds => isPy d && isPyL ds
end
section
variable {K : Fg} {Z : Xt} {M H : Hp}
mutual
theorem Rp.dp (e : Ex M H) : ∀ {d : DV} {v : V}, Rp K M v d → isPy d = true → Dp K H v (py d)
  | .non, _, h, _ => by cases h; exact .non
  | .bl b, _, h, _ => by cases h; exact .bl b
  | .int i, _, h, _ => by cases h; exact .int i
  | .str i, _, h, _ => by cases h; exact .str i
  | .tup ds, _, h, p => by
    cases h with
    | tup a b => exact .tup (Evl.ex_t e a) (RpL.dp e b (by simpa [isPy] using p))
  | .lst ds, _, h, p => by
    cases h with
    | lst a b => exact .lst (.inl (.inl (e _ _ a))) (RpL.dp e b (by simpa [isPy] using p))
  | .ty _, _, _, p => by simp [isPy] at p
  | .adr _, _, _, p => by simp [isPy] at p
  | .ins _ _ _, _, _, p => by simp [isPy] at p
  | .dic _ _, _, _, p => by simp [isPy] at p
  | .exc _ _ _, _, _, p => by simp [isPy] at p
theorem RpL.dp (e : Ex M H) : ∀ {ds : List DV} {vs : List V}, RpL K M vs ds → isPyL ds = true → DpAll K H vs (pyL ds)
  | [], _, h, _ => by cases h; exact .nil
  | d :: ds, _, h, p => by
    have p' : isPy d = true ∧ isPyL ds = true := by simpa [isPyL] using p
    cases h with
    | cons a b => exact .cons (Rp.dp e a p'.1) (RpL.dp e b p'.2)
end
end
section
variable {K : Fg} {Z : Xt} {pn : Option Addr} {As : List Addr} {H0 : Ent} {M M' H H' : Hp} {σ : L2.St} {Γ : List SA} {O : Own} {n m : Nat} {te ta tb : TE} {x y : DV}
def rEqA (K : Fg) : R2 := fun x y H Q => rEq x y H Q ∨ rEqD K x y H Q
def rNeA (K : Fg) : R2 := fun x y H Q => rNe x y H Q ∨ rNeD K x y H Q
theorem op_eqA {X : Cx} (hu : X.A.units + 64 < cLine) : OpR X (compareOp .Eq) (rEqA X.K) := op_eq.or (op_eqD hu)
theorem op_neA {X : Cx} (hu : X.A.units + 64 < cLine) : OpR X (compareOp .NotEq) (rNeA X.K) := op_ne.or (op_neD hu)
theorem ow_eqI {i j : Int} {k : DV → Prop} (q : k (.bl (decide (i = j)))) : OW K (rEqA K) (.int i) (.int j) k := fun Z pn As H0 M H σ Γ O n S v w rv rw Q c => by
  cases rv; cases rw
  refine .inl ⟨rfl, c _ M H _ (Evl.Ex.refl M) S ?_ q⟩
  have e : decide (V.int i = V.int j) = decide (i = j) := by simp
  rw [e]; exact .bl _
theorem ow_neI {i j : Int} {k : DV → Prop} (q : k (.bl (!decide (i = j)))) : OW K (rNeA K) (.int i) (.int j) k := fun Z pn As H0 M H σ Γ O n S v w rv rw Q c => by
  cases rv; cases rw
  refine .inl ⟨rfl, c _ M H _ (Evl.Ex.refl M) S ?_ q⟩
  have e : decide (V.int i = V.int j) = decide (i = j) := by simp
  rw [e]; exact .bl _
theorem ow_eqB {i j : Bool} {k : DV → Prop} (q : k (.bl (decide (i = j)))) : OW K (rEqA K) (.bl i) (.bl j) k := fun Z pn As H0 M H σ Γ O n S v w rv rw Q c => by
  cases rv; cases rw
  refine .inl ⟨rfl, c _ M H _ (Evl.Ex.refl M) S ?_ q⟩
  have e : decide (V.bl i = V.bl j) = decide (i = j) := by simp
  rw [e]; exact .bl _
theorem ow_neB {i j : Bool} {k : DV → Prop} (q : k (.bl (!decide (i = j)))) : OW K (rNeA K) (.bl i) (.bl j) k := fun Z pn As H0 M H σ Γ O n S v w rv rw Q c => by
  cases rv; cases rw
  refine .inl ⟨rfl, c _ M H _ (Evl.Ex.refl M) S ?_ q⟩
  have e : decide (V.bl i = V.bl j) = decide (i = j) := by simp
  rw [e]; exact .bl _
theorem ow_eqS {i j : Str} {k : DV → Prop} (q : k (.bl (decide (i = j)))) : OW K (rEqA K) (.str i) (.str j) k := fun Z pn As H0 M H σ Γ O n S v w rv rw Q c => by
  cases rv; cases rw
  refine .inl ⟨rfl, c _ M H _ (Evl.Ex.refl M) S ?_ q⟩
  have e : decide (V.str i = V.str j) = decide (i = j) := by simp
  rw [e]; exact .bl _
theorem ow_neS {i j : Str} {k : DV → Prop} (q : k (.bl (!decide (i = j)))) : OW K (rNeA K) (.str i) (.str j) k := fun Z pn As H0 M H σ Γ O n S v w rv rw Q c => by
  cases rv; cases rw
  refine .inl ⟨rfl, c _ M H _ (Evl.Ex.refl M) S ?_ q⟩
  have e : decide (V.str i = V.str j) = decide (i = j) := by simp
  rw [e]; exact .bl _
def shp (x : DV) : Bool := isPy x && SeqAt.shaped (py x)
theorem ow_eqD {k : DV → Prop} (h1 : shp x = true) (h2 : shp y = true) (q : k (.bl (PyData.eqv (py x) (py y)))) : OW K (rEqA K) x y k := fun Z pn As H0 M H σ Γ O n S v w rv rw Q c => by
  have a := (Bool.and_eq_true_iff.mp h1)
  have b := (Bool.and_eq_true_iff.mp h2)
  exact .inr ⟨_, _, rv.dp S.ex a.1, rw.dp S.ex b.1, a.2, b.2, c _ M H _ (Evl.Ex.refl M) S (.bl _) q⟩
theorem ow_neD {k : DV → Prop} (h1 : shp x = true) (h2 : shp y = true) (q : k (.bl (!PyData.eqv (py x) (py y)))) : OW K (rNeA K) x y k := fun Z pn As H0 M H σ Γ O n S v w rv rw Q c => by
  have a := (Bool.and_eq_true_iff.mp h1)
  have b := (Bool.and_eq_true_iff.mp h2)
  exact .inr ⟨_, _, rv.dp S.ex a.1, rw.dp S.ex b.1, a.2, b.2, c _ M H _ (Evl.Ex.refl M) S (.bl _) q⟩
/-- is None -/
def rIsN : R2 := fun x y H Q => y = .non ∧ Q (.bl (decide (x = .non))) H
def rNotN : R2 := fun x y H Q => y = .non ∧ Q (.bl (!decide (x = .non))) H
theorem op_isNA {X : Cx} : OpR X (compareOp .Is) rIsN := op_isN
theorem op_notNA {X : Cx} : OpR X (compareOp .IsNot) rNotN := op_notN
def isNon : DV → Bool
  | .non => true
  | _ => false
theorem Rp.isNon {v : V} (r : Rp K M v x) : decide (v = .non) = isNon x := by cases r <;> simp [DL.isNon]
theorem ow_isN {k : DV → Prop} (q : k (.bl (isNon x))) : OW K rIsN x .non k := fun Z pn As H0 M H σ Γ O n S v w rv rw Q c => by
  cases rw
  refine ⟨rfl, c _ M H _ (Evl.Ex.refl M) S ?_ q⟩
  rw [rv.isNon]; exact .bl _
theorem ow_notN {k : DV → Prop} (q : k (.bl (!isNon x))) : OW K rNotN x .non k := fun Z pn As H0 M H σ Γ O n S v w rv rw Q c => by
  cases rw
  refine ⟨rfl, c _ M H _ (Evl.Ex.refl M) S ?_ q⟩
  rw [rv.isNon]; exact .bl _
/-! ### items, slices -/
theorem atI_of {vs : List V} {ds : List DV} {i : Int} {d : DV} (r : RpL K M vs ds) (h : atI ds i = some d) : ∃ v, atI vs i = some v ∧ Rp K M v d := by
  unfold atI at h ⊢
  rw [r.length]
  cases e : ixN ds.length i with
  | none => rw [e] at h; cases h
  | some j => rw [e] at h; exact r.get' h
theorem ow_ixL {ds : List DV} {i : Int} {d : DV} {k : DV → Prop} (h : atI ds i = some d) (q : k d) : OW K (rIx K) (.lst ds) (.int i) k := fun Z pn As H0 M H σ Γ O n S v w rv rw Q c => by
  obtain ⟨a, vs, rfl, h1, h2⟩ := rv.lst'
  obtain ⟨u, h3, h4⟩ := atI_of h2 h
  exact .inl ⟨a, vs, i, u, rfl, rw.int', .inl (.inl (S.ex _ _ h1)), h3, c u M H d (Evl.Ex.refl M) S h4 q⟩
theorem ow_ixT {ds : List DV} {i : Int} {d : DV} {k : DV → Prop} (h : atI ds i = some d) (q : k d) : OW K (rIx K) (.tup ds) (.int i) k := fun Z pn As H0 M H σ Γ O n S v w rv rw Q c => by
  obtain ⟨a, vs, rfl, h1, h2⟩ := rv.tup'
  obtain ⟨u, h3, h4⟩ := atI_of h2 h
  exact .inr (.inl ⟨a, vs, i, u, rfl, rw.int', Evl.ex_t S.ex h1, h3, c u M H d (Evl.Ex.refl M) S h4 q⟩)
/-- an own list's item -/
theorem w_ixOwn {i j : Nat} {ds : List DV} {k : DV → Nat → Prop} (hi : Γ[i]? = some (.own j)) (ho : O[j]? = some (some (.l ds))) (h : W K Z tb Γ O n fun z n1 => ∃ (a : Int) (d : DV), z = .int a ∧ atI ds a = some d ∧ k d n1) : W K Z (tOp (rIx K) (tVar i) tb) Γ O n k := fun pn As H0 M H σ S Q c => by
  obtain ⟨a, vs, h1, _⟩ := S.slotOwn hi ho
  refine ⟨_, h1, h pn As H0 M H σ S _ fun v M1 H1 d n1 e1 S1 r1 ⟨z, y, ez, ha, q⟩ => ?_⟩
  subst ez
  obtain ⟨a', vs', g1, _, g3, g4, _⟩ := S1.slotOwn hi ho
  rw [h1] at g1; cases g1
  obtain ⟨u, h3, h4⟩ := atI_of g4 ha
  exact .inl ⟨_, _, z, u, rfl, r1.int', .inl (.inl g3), h3, c u M1 H1 y n1 e1 S1 h4 q⟩
theorem cutV_of {vs : List V} {ds : List DV} (lo hi : Option Int) (r : RpL K M vs ds) : RpL K M (cutV vs lo hi) ((ds.drop (HT.sIx ds.length 0 lo)).take (HT.sIx ds.length ds.length hi - HT.sIx ds.length 0 lo)) := by
  unfold cutV
  rw [r.length]
  exact (r.drop _).take _
def cutD (ds : List DV) (lo hi : Option Int) : List DV := (ds.drop (HT.sIx ds.length 0 lo)).take (HT.sIx ds.length ds.length hi - HT.sIx ds.length 0 lo)
theorem wo_none {k : Option Int → Nat → Prop} (q : k none n) : WO K Z tNoPart Γ O n k := fun pn As H0 M H σ S Q c => c none M H n (Evl.Ex.refl M) S q
theorem wo_some {k : Option Int → Nat → Prop} (h : W K Z te Γ O n fun d n1 => ∃ i, d = .int i ∧ k (some i) n1) : WO K Z (tPart te) Γ O n k := fun pn As H0 M H σ S Q c =>
  h pn As H0 M H σ S _ fun v M1 H1 d n1 e1 S1 r1 ⟨i, e, q⟩ => by subst e; exact ⟨i, r1.int', c (some i) M1 H1 n1 e1 S1 q⟩
def rCut (K : Fg) : V → Option Int → Option Int → Hp → VK → Prop := fun x lo hi H Q => rSlL K x lo hi H Q ∨ rSlA K x lo hi H Q
theorem sl_cut {X : Cx} : SlR X (rCut X.K) := sl_list.or sl_tupA
theorem wl_slL {tl th : TO} {k : List DV → Nat → Prop} (h : W K Z te Γ O n fun d n1 => ∃ ds, d = .lst ds ∧ WO K Z tl Γ O n1 fun lo n2 => WO K Z th Γ O n2 fun hi n3 => k (cutD ds lo hi) n3) : WL K Z (tSl (rCut K) te tl th) Γ O n k := fun pn As H0 M H σ S Q c =>
  h pn As H0 M H σ S _ fun v M1 H1 d n1 e1 S1 r1 ⟨ds, e, h2⟩ => h2 pn As H0 M1 H1 σ S1 _ fun lo M2 H2 n2 e2 S2 h3 => h3 pn As H0 M2 H2 σ S2 _ fun hi M3 H3 n3 e3 S3 q => by
    subst e
    obtain ⟨a, vs, rfl, g1, g2⟩ := (r1.mono (Evl.Ex.trans e2 e3)).lst'
    exact .inl ⟨a, vs, rfl, .inl (.inl (S3.ex _ _ g1)), fun p hp => wl_new S3 hp (cutV_of lo hi g2) (fun p vs M4 H4 ds n4 e4 => c p vs M4 H4 ds n4 (Evl.Ex.trans (Evl.Ex.trans (Evl.Ex.trans e1 e2) e3) e4)) q⟩
/-! ### calls of built-ins by name -/
theorem w_cb {r : List V → Hp → VK → Prop} {ta : TA} {k : DV → Nat → Prop} (h : WA K Z ta Γ O n fun xs n1 => CW K r xs fun d => k d n1) : W K Z (tCB r ta) Γ O n k := fun pn As H0 M H σ S Q c =>
  h pn As H0 M H σ S _ fun vs M1 H1 xs n1 e1 S1 r1 q => q Z pn As H0 M1 H1 σ Γ O n1 S1 vs r1 Q fun u M2 H2 d e2 S2 r2 q2 => c u M2 H2 d n1 (Evl.Ex.trans e1 e2) S2 r2 q2
theorem wl_cb {r : List V → Hp → VK → Prop} {ta : TA} {k : List DV → Nat → Prop} (h : WA K Z ta Γ O n fun xs n1 => CWL K r xs fun d => k d n1) : WL K Z (tCB r ta) Γ O n k := fun pn As H0 M H σ S Q c =>
  h pn As H0 M H σ S _ fun vs M1 H1 xs n1 e1 S1 r1 q => q Z pn As H0 M1 H1 σ Γ O n1 S1 vs r1 Q fun p us M2 H2 ds e2 S2 => c p us M2 H2 ds n1 (Evl.Ex.trans e1 e2) S2
theorem RpL.one {v : List V} (r : RpL K M v [x]) : ∃ u, v = [u] ∧ Rp K M u x := by
  cases r with
  | cons a b => cases b; exact ⟨_, rfl, a⟩
theorem RpL.two {v : List V} (r : RpL K M v [x, y]) : ∃ u w, v = [u, w] ∧ Rp K M u x ∧ Rp K M w y := by
  cases r with
  | cons a b =>
    obtain ⟨w, rfl, h⟩ := b.one
    exact ⟨_, _, rfl, a, h⟩
theorem cw_gcd {i j : Int} {k : DV → Prop} (q : k (.int ((Nat.gcd i.natAbs j.natAbs : Nat) : Int))) : CW K rGcd [.int i, .int j] k := fun Z pn As H0 M H σ Γ O n S vs r Q c => by
  obtain ⟨u, w, rfl, h1, h2⟩ := r.two
  cases h1; cases h2
  exact ⟨i, j, rfl, c _ M H _ (Evl.Ex.refl M) S (.int _) q⟩
def rAbs : List V → Hp → VK → Prop := fun xs H Q => ∃ i, xs = [.int i] ∧ Q (.int (if i < 0 then -i else i)) H
theorem cr_abs {X : Cx} : CallR X (.builtin "abs") rAbs := call_abs
theorem cw_abs {i : Int} {k : DV → Prop} (q : k (.int (if i < 0 then -i else i))) : CW K rAbs [.int i] k := fun Z pn As H0 M H σ Γ O n S vs r Q c => by
  obtain ⟨u, rfl, h1⟩ := r.one
  cases h1
  exact ⟨i, rfl, c _ M H _ (Evl.Ex.refl M) S (.int _) q⟩
def rInt1 : List V → Hp → VK → Prop := fun xs H Q => (∃ i, xs = [.int i] ∧ Q (.int i) H) ∨ ∃ k, xs = [.bl k] ∧ Q (.int (if k then 1 else 0)) H
theorem cr_int1 {X : Cx} : CallR X (.type "int") rInt1 := call_int1
theorem cw_intI {i : Int} {k : DV → Prop} (q : k (.int i)) : CW K rInt1 [.int i] k := fun Z pn As H0 M H σ Γ O n S vs r Q c => by
  obtain ⟨u, rfl, h1⟩ := r.one
  cases h1
  exact .inl ⟨i, rfl, c _ M H _ (Evl.Ex.refl M) S (.int _) q⟩
theorem cw_intB {b : Bool} {k : DV → Prop} (q : k (.int (if b then 1 else 0))) : CW K rInt1 [.bl b] k := fun Z pn As H0 M H σ Γ O n S vs r Q c => by
  obtain ⟨u, rfl, h1⟩ := r.one
  cases h1
  exact .inr ⟨b, rfl, c _ M H _ (Evl.Ex.refl M) S (.int _) q⟩
def rLenA (K : Fg) : List V → Hp → VK → Prop := fun xs H Q => (∃ p ys, xs = [.ref p] ∧ (SqL K H p ys ∨ SqT K H p ys) ∧ Q (.int ys.length) H) ∨ ∃ x m, xs = [x] ∧ LenV K x H m ∧ Q (.int m) H
theorem cr_len {X : Cx} : CallR X (.builtin "len") (rLenA X.K) := call_len_seq.or call_len
theorem cw_lenL {ds : List DV} {k : DV → Prop} (q : k (.int (ds.length : Int))) : CW K (rLenA K) [.lst ds] k := fun Z pn As H0 M H σ Γ O n S vs r Q c => by
  obtain ⟨u, rfl, h1⟩ := r.one
  obtain ⟨a, vs, rfl, g1, g2⟩ := h1.lst'
  refine .inl ⟨a, vs, rfl, .inl (.inl (.inl (S.ex _ _ g1))), c _ M H _ (Evl.Ex.refl M) S ?_ q⟩
  rw [g2.length]; exact .int _
theorem cw_lenT {ds : List DV} {k : DV → Prop} (q : k (.int (ds.length : Int))) : CW K (rLenA K) [.tup ds] k := fun Z pn As H0 M H σ Γ O n S vs r Q c => by
  obtain ⟨u, rfl, h1⟩ := r.one
  obtain ⟨a, vs, rfl, g1, g2⟩ := h1.tup'
  refine .inl ⟨a, vs, rfl, .inr (Evl.ex_t S.ex g1), c _ M H _ (Evl.Ex.refl M) S ?_ q⟩
  rw [g2.length]; exact .int _
theorem w_lenOwn {i j : Nat} {ds : List DV} {k : DV → Nat → Prop} (hi : Γ[i]? = some (.own j)) (ho : O[j]? = some (some (.l ds))) (q : k (.int (ds.length : Int)) n) : W K Z (tCB (rLenA K) (tCons (tVar i) tNil)) Γ O n k := fun pn As H0 M H σ S Q c => by
  obtain ⟨a, vs, h1, _, h3, h4, _⟩ := S.slotOwn hi ho
  refine ⟨_, h1, .inl ⟨a, vs, rfl, .inl (.inl (.inl h3)), c _ M H _ n (Evl.Ex.refl M) S ?_ q⟩⟩
  rw [h4.length]; exact .int _
def rListOf (K : Fg) : List V → Hp → VK → Prop := fun xs H Q => ∃ p ys, xs = [.ref p] ∧ (SqL K H p ys ∨ SqT K H p ys) ∧ ∀ l, H l = none → Q (.ref l) (upd H l (.lst ys))
theorem cr_listOf {X : Cx} : CallR X (.type "list") (rListOf X.K) := call_list_of
theorem cwl_listL {ds : List DV} {k : List DV → Prop} (q : k ds) : CWL K (rListOf K) [.lst ds] k := fun Z pn As H0 M H σ Γ O n S vs r Q c => by
  obtain ⟨u, rfl, h1⟩ := r.one
  obtain ⟨a, vs, rfl, g1, g2⟩ := h1.lst'
  exact ⟨a, vs, rfl, .inl (.inl (.inl (S.ex _ _ g1))), fun l hl => wl_new S hl g2 (k := fun ds n' => k ds ∧ n' = n) (fun p vs M4 H4 ds n4 e4 S4 h1 h2 h3 h4 hP h5 h6 ⟨h7, h8⟩ => by subst h8; exact c p vs M4 H4 ds e4 S4 h1 h2 h3 h4 hP h5 h6 h7) ⟨q, rfl⟩⟩
theorem cwl_listT {ds : List DV} {k : List DV → Prop} (q : k ds) : CWL K (rListOf K) [.tup ds] k := fun Z pn As H0 M H σ Γ O n S vs r Q c => by
  obtain ⟨u, rfl, h1⟩ := r.one
  obtain ⟨a, vs, rfl, g1, g2⟩ := h1.tup'
  exact ⟨a, vs, rfl, .inr (Evl.ex_t S.ex g1), fun l hl => wl_new S hl g2 (k := fun ds n' => k ds ∧ n' = n) (fun p vs M4 H4 ds n4 e4 S4 h1 h2 h3 h4 hP h5 h6 ⟨h7, h8⟩ => by subst h8; exact c p vs M4 H4 ds e4 S4 h1 h2 h3 h4 hP h5 h6 h7) ⟨q, rfl⟩⟩
def rTupOf (K : Fg) : List V → Hp → VK → Prop := fun xs H Q => ∃ p ys, xs = [.ref p] ∧ ((SqL K H p ys ∧ ∀ l, H l = none → Q (.ref l) (upd H l (.tup ys))) ∨ (SqT K H p ys ∧ Q (.ref p) H))
theorem cr_tupOf {X : Cx} : CallR X (.type "tuple") (rTupOf X.K) := call_tuple_of
theorem cw_tupL {ds : List DV} {k : DV → Prop} (q : k (.tup ds)) : CW K (rTupOf K) [.lst ds] k := fun Z pn As H0 M H σ Γ O n S vs r Q c => by
  obtain ⟨u, rfl, h1⟩ := r.one
  obtain ⟨a, vs, rfl, g1, g2⟩ := h1.lst'
  exact ⟨a, vs, rfl, .inl ⟨.inl (.inl (S.ex _ _ g1)), fun l hl => by
    obtain ⟨ex, S2⟩ := S.alloc (o := .tup vs) hl
    exact c _ _ _ _ ex S2 (.tup (.inl (.inl upd_same)) (g2.mono ex)) q⟩⟩
theorem cw_tupT {ds : List DV} {k : DV → Prop} (q : k (.tup ds)) : CW K (rTupOf K) [.tup ds] k := fun Z pn As H0 M H σ Γ O n S vs r Q c => by
  obtain ⟨u, rfl, h1⟩ := r.one
  obtain ⟨a, vs, rfl, g1, g2⟩ := id h1.tup'
  exact ⟨a, vs, rfl, .inr ⟨Evl.ex_t S.ex g1, c _ M H _ (Evl.Ex.refl M) S h1 q⟩⟩
theorem cw_sum {ns : List Int} {k : DV → Prop} (q : k (.int ns.sum)) : CW K (rSum K) [.lst (ns.map DV.int)] k := fun Z pn As H0 M H σ Γ O n S vs r Q c => by
  obtain ⟨u, rfl, h1⟩ := r.one
  obtain ⟨a, vs, rfl, g1, g2⟩ := h1.lst'
  have e := g2.ints
  subst e
  exact ⟨a, ns, rfl, .inl (.inl (S.ex _ _ g1)), c _ M H _ (Evl.Ex.refl M) S (.int _) q⟩
theorem cw_all {bs : List Bool} {k : DV → Prop} (q : k (.bl (bs.all id))) : CW K (rAll K) [.lst (bs.map DV.bl)] k := fun Z pn As H0 M H σ Γ O n S vs r Q c => by
  obtain ⟨u, rfl, h1⟩ := r.one
  obtain ⟨a, vs, rfl, g1, g2⟩ := h1.lst'
  have e := g2.bools
  subst e
  exact ⟨a, bs, rfl, .inl (.inl (S.ex _ _ g1)), c _ M H _ (Evl.Ex.refl M) S (.bl _) q⟩
theorem cw_any {bs : List Bool} {k : DV → Prop} (q : k (.bl (bs.any id))) : CW K (rAny K) [.lst (bs.map DV.bl)] k := fun Z pn As H0 M H σ Γ O n S vs r Q c => by
  obtain ⟨u, rfl, h1⟩ := r.one
  obtain ⟨a, vs, rfl, g1, g2⟩ := h1.lst'
  have e := g2.bools
  subst e
  exact ⟨a, bs, rfl, .inl (.inl (S.ex _ _ g1)), c _ M H _ (Evl.Ex.refl M) S (.bl _) q⟩
end
end DL
namespace DL
open PySem PySem.Spec PyProof.Rows L2
variable [Tn]
section
variable {X : Cx} {pins : List (Addr × Obj)} {σ : L2.St} {H : Hp} {s : Shared} {R : It → Hp → Prop} {tg : Expr}
theorem goes_list {a : Addr} {xs : List V} (I : Inv X pins σ H s) (h : SqL X.K H a xs) (q : R (Itl X.K a) H) :
    wpAny (model X.prog X.w) X.A (pyIter (.ref a)) (PIE X pins σ tg R) X.xe s := by
  obtain ⟨us, _, is, _⟩ := I.list h
  refine wpAny_pyIter_list is.isList ⟨_, [s.heap.objs.size], _, _, H, rfl, ?_, turn_list a s.heap.objs.size, ?_, ?_, q⟩
  · exact I.kept (t' := s.toks) fun c u z => Heap.get?_push_of_some _ z
  · exact ⟨_, Heap.get?_push_size _ rfl, rfl, rfl⟩
  · intro c hc
    rw [List.mem_singleton] at hc
    subst hc
    exact I.fpOk (Nat.le_refl _) (I.hok.fresh (Nat.le_refl _))
theorem goes_tuple {a : Addr} {xs : List V} (I : Inv X pins σ H s) (h : SqT X.K H a xs) (q : R (Itt X.K a) H) :
    wpAny (model X.prog X.w) X.A (pyIter (.ref a)) (PIE X pins σ tg R) X.xe s := by
  obtain ⟨us, _, is, _⟩ := I.tuple h
  refine wpAny_pyIter_tuple (items := us.toArray) is ⟨_, [s.heap.objs.size], _, _, H, rfl, ?_, turn_tuple a s.heap.objs.size, ?_, ?_, q⟩
  · exact I.kept (t' := s.toks) fun c u z => Heap.get?_push_of_some _ z
  · exact ⟨_, Heap.get?_push_size _ rfl, rfl, rfl⟩
  · intro c hc
    rw [List.mem_singleton] at hc
    subst hc
    exact I.fpOk (Nat.le_refl _) (I.hok.fresh (Nat.le_refl _))
/-- over a list or a tuple -/
def iSeq (K : Fg) (tl : TE) : TI := fun σ H R => tl σ H fun x H1 => ∃ a, x = .ref a ∧ (((∃ xs, SqL K H1 a xs) ∧ R (Itl K a) H1) ∨ ((∃ xs, SqT K H1 a xs) ∧ R (Itt K a) H1))
theorem pi_seq {l : Expr} {tl : TE} (hl : PE X l tl) : PI X tg l (iSeq X.K tl) := by
  constructor
  intro pins s σ H R I h
  apply thn (hl.run pins s σ H _ I h)
  rintro v s1 ⟨x, H1, I1, r1, a, e, q⟩
  subst e
  cases r1
  rcases q with ⟨⟨xs, hq⟩, q⟩ | ⟨⟨xs, hq⟩, q⟩
  · exact goes_list I1 hq q
  · exact goes_tuple I1 hq q
end
section
variable {K : Fg} {Z : Xt} {pn : Option Addr} {As : List Addr} {H0 : Ent} {M M' H H' : Hp} {σ : L2.St} {Γ : List SA} {O : Own} {n m : Nat} {te ta tb : TE} {x y : DV}
theorem iter_list {a : Addr} {vs : List V} {ds : List DV} (h : M a = some (.lst vs)) (r : RpL K M vs ds) : IterOk K (Itl K a) ds M := fun Z pn As H0 M1 H1 σ Γ O n e S i => by
  have hq : SqL K H1 a vs := .inl (.inl (S.ex _ _ (e _ _ h)))
  refine ⟨fun d hd => ?_, fun hi => ⟨vs, hq, by rw [r.length]; exact hi⟩⟩
  obtain ⟨v, hv, rv⟩ := r.get' hd
  exact ⟨⟨vs, v, hq, hv⟩, fun z H' ⟨e1, e2⟩ => by
    have := e2 vs hq
    rw [hv] at this; cases this
    subst e1
    exact ⟨M1, Evl.Ex.refl M1, S, rv.mono e⟩⟩
theorem iter_tup {a : Addr} {vs : List V} {ds : List DV} (h : SqT K M a vs) (r : RpL K M vs ds) : IterOk K (Itt K a) ds M := fun Z pn As H0 M1 H1 σ Γ O n e S i => by
  have hq : SqT K H1 a vs := Evl.ex_t S.ex (Evl.ex_t e h)
  refine ⟨fun d hd => ?_, fun hi => ⟨vs, hq, by rw [r.length]; exact hi⟩⟩
  obtain ⟨v, hv, rv⟩ := r.get' hd
  exact ⟨⟨vs, v, hq, hv⟩, fun z H' ⟨e1, e2⟩ => by
    have := e2 vs hq
    rw [hv] at this; cases this
    subst e1
    exact ⟨M1, Evl.Ex.refl M1, S, rv.mono e⟩⟩
def rngD (lo : Int) (m : Nat) : List DV := (List.range m).map fun (i : Nat) => DV.int (lo + (i : Int))
theorem rngD_get {lo : Int} {m i : Nat} {d : DV} (h : (rngD lo m)[i]? = some d) : i < m ∧ d = .int (lo + (i : Int)) := by
  unfold rngD at h
  rw [List.getElem?_map] at h
  by_cases hi : i < m
  · rw [List.getElem?_range hi] at h
    exact ⟨hi, (Option.some.inj h).symm⟩
  · rw [List.getElem?_eq_none (by simpa using hi)] at h
    cases h
theorem rngD_length (lo : Int) (m : Nat) : (rngD lo m).length = m := by simp [rngD]
theorem iter_rng {lo : Int} {m : Nat} : IterOk K (Itr lo m) (rngD lo m) M := fun Z pn As H0 M1 H1 σ Γ O n e S i => by
  refine ⟨fun d hd => ?_, fun hi => by rw [rngD_length] at hi; exact hi⟩
  obtain ⟨h1, rfl⟩ := rngD_get hd
  refine ⟨h1, fun z H' ⟨e1, e2⟩ => ?_⟩
  subst e1 e2
  exact ⟨M1, Evl.Ex.refl M1, S, .int _⟩
def enumD (k : Nat) : List DV → List DV
  | [] => []
  | d :: ds => .tup [.int (k : Int), d] :: enumD (k + 1) ds
theorem enumD_get : ∀ {ds : List DV} {k i : Nat}, (enumD k ds)[i]? = (ds[i]?).map fun d => DV.tup [.int ((k + i : Nat) : Int), d]
  | [], k, i => by simp [enumD]
  | d :: ds, k, 0 => by simp [enumD]
  | d :: ds, k, i + 1 => by
    simp only [enumD, List.getElem?_cons_succ]
    rw [enumD_get]
    have : k + 1 + i = k + (i + 1) := by omega
    rw [this]
theorem enumD_length : ∀ {ds : List DV} {k : Nat}, (enumD k ds).length = ds.length
  | [], _ => rfl
  | d :: ds, k => by simp [enumD, enumD_length]
theorem iter_enum {a : Addr} {vs : List V} {ds : List DV} (h : M a = some (.lst vs)) (r : RpL K M vs ds) : IterOk K (Ite K a) (enumD 0 ds) M := fun Z pn As H0 M1 H1 σ Γ O n e S i => by
  have hq : SqL K H1 a vs := .inl (.inl (S.ex _ _ (e _ _ h)))
  refine ⟨fun d hd => ?_, fun hi => ⟨vs, hq, by rw [r.length]; rw [enumD_length] at hi; exact hi⟩⟩
  rw [enumD_get] at hd
  cases hi : ds[i]? with
  | none => rw [hi] at hd; cases hd
  | some d0 =>
    rw [hi] at hd
    cases hd
    obtain ⟨v, hv, rv⟩ := r.get' hi
    refine ⟨⟨vs, v, hq, hv⟩, fun z H' ⟨T, u, e1, e2, e3, e4⟩ => ?_⟩
    have := e4 vs hq
    rw [hv] at this; cases this
    subst e1 e3
    obtain ⟨ex, S2⟩ := S.alloc (o := .tup [.int (i : Int), v]) e2
    refine ⟨_, ex, S2, .tup (.inl (.inl upd_same)) ?_⟩
    have e0 : ((0 + i : Nat) : Int) = (i : Int) := by simp
    rw [e0]
    exact .cons (.int _) (.cons ((rv.mono e).mono ex) .nil)
def zipD : List DV → List DV → List DV
  | x :: xs, y :: ys => .tup [x, y] :: zipD xs ys
  | _, _ => []
theorem zipD_get : ∀ {xs ys : List DV} {i : Nat} {d : DV}, (zipD xs ys)[i]? = some d → ∃ x y, xs[i]? = some x ∧ ys[i]? = some y ∧ d = .tup [x, y]
  | [], _, _, _, h => by simp [zipD] at h
  | x :: xs, [], _, _, h => by simp [zipD] at h
  | x :: xs, y :: ys, 0, d, h => by
    simp [zipD] at h
    exact ⟨x, y, rfl, rfl, h.symm⟩
  | x :: xs, y :: ys, i + 1, d, h => by
    simp only [zipD, List.getElem?_cons_succ] at h
    simpa using zipD_get h
theorem zipD_length : ∀ {xs ys : List DV}, (zipD xs ys).length = min xs.length ys.length
  | [], ys => by simp [zipD]
  | x :: xs, [] => by simp [zipD]
  | x :: xs, y :: ys => by simp [zipD, zipD_length]
theorem iter_zipL {a b : Addr} {vs ws : List V} {ds es : List DV} (h : M a = some (.lst vs)) (r : RpL K M vs ds) (h' : M b = some (.lst ws)) (r' : RpL K M ws es) : IterOk K (Itz K a b) (zipD ds es) M := fun Z pn As H0 M1 H1 σ Γ O n e S i => by
  have hq : SqL K H1 a vs := .inl (.inl (S.ex _ _ (e _ _ h)))
  have hq' : SqL K H1 b ws := .inl (.inl (S.ex _ _ (e _ _ h')))
  refine ⟨fun d hd => ?_, fun hi => ⟨vs, ws, hq, hq', by rw [r.length, r'.length]; rw [zipD_length] at hi; omega⟩⟩
  obtain ⟨x, y, g1, g2, rfl⟩ := zipD_get hd
  obtain ⟨v, hv, rv⟩ := r.get' g1
  obtain ⟨w, hw, rw'⟩ := r'.get' g2
  refine ⟨⟨vs, ws, v, w, hq, hq', hv, hw⟩, fun z H' ⟨T, u1, u2, e1, e2, e3, e4, e5⟩ => ?_⟩
  have := e4 vs hq
  rw [hv] at this; cases this
  have := e5 ws hq'
  rw [hw] at this; cases this
  subst e1 e3
  obtain ⟨ex, S2⟩ := S.alloc (o := .tup [v, w]) e2
  exact ⟨_, ex, S2, .tup (.inl (.inl upd_same)) (.cons ((rv.mono e).mono ex) (.cons ((rw'.mono e).mono ex) .nil))⟩
theorem iter_zipT {a b : Addr} {vs ws : List V} {ds es : List DV} (h : SqT K M a vs) (r : RpL K M vs ds) (h' : SqT K M b ws) (r' : RpL K M ws es) : IterOk K (RZ.ItzT K a b) (zipD ds es) M := fun Z pn As H0 M1 H1 σ Γ O n e S i => by
  have hq : SqT K H1 a vs := Evl.ex_t S.ex (Evl.ex_t e h)
  have hq' : SqT K H1 b ws := Evl.ex_t S.ex (Evl.ex_t e h')
  refine ⟨fun d hd => ?_, fun hi => ⟨vs, ws, hq, hq', by rw [r.length, r'.length]; rw [zipD_length] at hi; omega⟩⟩
  obtain ⟨x, y, g1, g2, rfl⟩ := zipD_get hd
  obtain ⟨v, hv, rv⟩ := r.get' g1
  obtain ⟨w, hw, rw'⟩ := r'.get' g2
  refine ⟨⟨vs, ws, v, w, hq, hq', hv, hw⟩, fun z H' ⟨T, u1, u2, e1, e2, e3, e4, e5⟩ => ?_⟩
  have := e4 vs hq
  rw [hv] at this; cases this
  have := e5 ws hq'
  rw [hw] at this; cases this
  subst e1 e3
  obtain ⟨ex, S2⟩ := S.alloc (o := .tup [v, w]) e2
  exact ⟨_, ex, S2, .tup (.inl (.inl upd_same)) (.cons ((rv.mono e).mono ex) (.cons ((rw'.mono e).mono ex) .nil))⟩
/-! ### sources -/
theorem sw_seq {k : List DV → Nat → Prop} (h : W K Z te Γ O n fun d n1 => ∃ ds, (d = .lst ds ∨ d = .tup ds) ∧ k ds n1) : SW K Z (iSeq K te) Γ O n k := fun pn As H0 M H σ S R c =>
  h pn As H0 M H σ S _ fun v M1 H1 d n1 e1 S1 r1 ⟨ds, e, q⟩ => by
    rcases e with rfl | rfl
    · obtain ⟨a, vs, rfl, g1, g2⟩ := r1.lst'
      exact ⟨a, rfl, .inl ⟨⟨vs, .inl (.inl (S1.ex _ _ g1))⟩, c _ M1 H1 ds n1 e1 S1 (iter_list g1 g2) q⟩⟩
    · obtain ⟨a, vs, rfl, g1, g2⟩ := r1.tup'
      exact ⟨a, rfl, .inr ⟨⟨vs, Evl.ex_t S1.ex g1⟩, c _ M1 H1 ds n1 e1 S1 (iter_tup g1 g2) q⟩⟩
theorem sw_rng1 {ta : TA} {k : List DV → Nat → Prop} (h : WA K Z ta Γ O n fun xs n1 => ∃ j : Int, xs = [.int j] ∧ -(2 ^ 62) ≤ j ∧ j < 2 ^ 62 ∧ k (rngD 0 j.toNat) n1) : SW K Z (iRng1 ta) Γ O n k := fun pn As H0 M H σ S R c =>
  h pn As H0 M H σ S _ fun v M1 H1 d n1 e1 S1 r1 ⟨j, e, q1, q2, q⟩ => by
    subst e
    obtain ⟨u, rfl, r⟩ := r1.one
    cases r
    exact ⟨j, rfl, q1, q2, c _ M1 H1 _ n1 e1 S1 iter_rng q⟩
theorem sw_rng2 {ta : TA} {k : List DV → Nat → Prop} (h : WA K Z ta Γ O n fun xs n1 => ∃ i j : Int, xs = [.int i, .int j] ∧ (-(2 ^ 62) ≤ i ∧ i < 2 ^ 62 ∧ -(2 ^ 62) ≤ j ∧ j < 2 ^ 62) ∧ k (rngD i (j - i).toNat) n1) : SW K Z (iRng2 ta) Γ O n k := fun pn As H0 M H σ S R c =>
  h pn As H0 M H σ S _ fun v M1 H1 d n1 e1 S1 r1 ⟨i, j, e, q1, q⟩ => by
    subst e
    obtain ⟨u, w, rfl, r, r'⟩ := r1.two
    cases r; cases r'
    exact ⟨i, j, rfl, q1, c _ M1 H1 _ n1 e1 S1 iter_rng q⟩
theorem sw_enum {ta : TA} {k : List DV → Nat → Prop} (h : WA K Z ta Γ O n fun xs n1 => ∃ ds, xs = [.lst ds] ∧ k (enumD 0 ds) n1) : SW K Z (iEnum K ta) Γ O n k := fun pn As H0 M H σ S R c =>
  h pn As H0 M H σ S _ fun v M1 H1 d n1 e1 S1 r1 ⟨ds, e, q⟩ => by
    subst e
    obtain ⟨u, rfl, r⟩ := r1.one
    obtain ⟨a, vs, rfl, g1, g2⟩ := r.lst'
    exact ⟨a, vs, rfl, .inl (.inl (S1.ex _ _ g1)), c _ M1 H1 _ n1 e1 S1 (iter_enum g1 g2) q⟩
theorem sw_zipA {ta : TA} {k : List DV → Nat → Prop} (h : WA K Z ta Γ O n fun xs n1 => ∃ ds es, (xs = [.lst ds, .lst es] ∨ xs = [.tup ds, .tup es]) ∧ k (zipD ds es) n1) : SW K Z (RZ.iZipA K ta) Γ O n k := fun pn As H0 M H σ S R c =>
  h pn As H0 M H σ S _ fun v M1 H1 d n1 e1 S1 r1 ⟨ds, es, e, q⟩ => by
    rcases e with rfl | rfl
    · obtain ⟨u, w, rfl, r, r'⟩ := r1.two
      obtain ⟨a, vs, rfl, g1, g2⟩ := r.lst'
      obtain ⟨b, ws, rfl, g3, g4⟩ := r'.lst'
      exact ⟨a, b, vs, ws, rfl, .inl ⟨.inl (.inl (S1.ex _ _ g1)), .inl (.inl (S1.ex _ _ g3)), c _ M1 H1 _ n1 e1 S1 (iter_zipL g1 g2 g3 g4) q⟩⟩
    · obtain ⟨u, w, rfl, r, r'⟩ := r1.two
      obtain ⟨a, vs, rfl, g1, g2⟩ := r.tup'
      obtain ⟨b, ws, rfl, g3, g4⟩ := r'.tup'
      exact ⟨a, b, vs, ws, rfl, .inr ⟨Evl.ex_t S1.ex g1, Evl.ex_t S1.ex g3, c _ M1 H1 _ n1 e1 S1 (iter_zipT g1 g2 g3 g4) q⟩⟩
/-! ### targets -/
theorem wipe_set {σ : L2.St} {i : Nat} {o : Option V} : ∀ {vs : List Nat}, i ∈ vs → wipe (σ.set i o) vs = wipe σ vs
  | v :: vs, h => by
    unfold wipe
    by_cases hi : i ∈ vs
    · rw [wipe_set hi]
    · have e : i = v := by
        rcases List.mem_cons.mp h with h | h
        · exact h
        · exact absurd h hi
      subst e
      have : ∀ {ws : List Nat}, i ∉ ws → wipe (σ.set i o) ws = (wipe σ ws).set i o := by
        intro ws
        induction ws with
        | nil => intro _; rfl
        | cons w ws ih =>
          intro hw
          unfold wipe
          rw [ih (fun z => hw (List.mem_cons_of_mem _ z)), List.set_comm _ _ (fun z => hw (by rw [z]; exact List.mem_cons_self))]
      rw [this hi, List.set_set]
theorem wipe_wipe {σ : L2.St} (vs : List Nat) : wipe (wipe σ vs) vs = wipe σ vs := by
  have key : ∀ (ws us : List Nat) (τ : L2.St), (∀ u ∈ us, u ∈ ws) → wipe (wipe τ us) ws = wipe τ ws := by
    intro ws us
    induction us with
    | nil => intro τ _; rfl
    | cons u us ih =>
      intro τ h
      show wipe ((wipe τ us).set u none) ws = wipe τ ws
      rw [wipe_set (h u List.mem_cons_self), ih τ fun z hz => h z (List.mem_cons_of_mem _ hz)]
  exact key vs vs σ fun _ h => h
theorem gw_name {i : Nat} {vs : List Nat} {k : List SA → Prop} (hi : i ∈ vs) (q : k (Γ.set i (.is x))) : GW K (gName i) vs x Γ k := fun Z pn As H0 M H σ O n S v r Q c =>
  c _ _ (S.store r) (wipe_set hi) q
def GWs (K : Fg) (g : TGs) (vs : List Nat) (ds : List DV) (Γ : List SA) (k : List SA → Prop) : Prop :=
  ∀ (Z : Xt) (pn : Option Addr) (As : List Addr) (H0 : Ent) (M H : Hp) (σ : L2.St) (O : Own) (n : Nat), Sta K Z pn As H0 M H σ Γ O n → ∀ us, RpL K M us ds → ∀ Q : L2.St → Hp → Prop,
    (∀ σ' Γ', Sta K Z pn As H0 M H σ' Γ' O n → wipe σ' vs = wipe σ vs → k Γ' → Q σ' H) → g us σ H Q
theorem gws_nil {vs : List Nat} {k : List SA → Prop} (q : k Γ) : GWs K gNil vs [] Γ k := fun Z pn As H0 M H σ O n S us r Q c => by
  cases r
  exact ⟨rfl, c σ Γ S rfl q⟩
theorem gws_cons {g : TG} {gs : TGs} {vs : List Nat} {d : DV} {ds : List DV} {k : List SA → Prop} (h : GW K g vs d Γ fun Γ1 => GWs K gs vs ds Γ1 k) : GWs K (gCons g gs) vs (d :: ds) Γ k := fun Z pn As H0 M H σ O n S us r Q c => by
  cases r with
  | cons a b => exact ⟨_, _, rfl, h Z pn As H0 M H σ O n S _ a _ fun σ1 Γ1 S1 w1 q1 => q1 Z pn As H0 M H σ1 O n S1 _ b Q fun σ2 Γ2 S2 w2 => c σ2 Γ2 S2 (w2.trans w1)⟩
theorem gw_tup {nn : Nat} {gs : TGs} {vs : List Nat} {ds : List DV} {k : List SA → Prop} (hl : ds.length = nn) (h : GWs K gs vs ds Γ k) : GW K (gTup K nn gs) vs (.tup ds) Γ k := fun Z pn As H0 M H σ O n S v r Q c => by
  obtain ⟨a, us, rfl, g1, g2⟩ := r.tup'
  exact ⟨a, us, rfl, Evl.ex_t S.ex g1, by rw [g2.length]; exact hl, h Z pn As H0 M H σ O n S us g2 Q c⟩
/-! ### list comprehensions -/
def wipeG (Γ : List SA) : List Nat → List SA
  | [] => Γ
  | v :: vs => (wipeG Γ vs).set v .no
theorem Sta.noslot (S : Sta K Z pn As H0 M H σ Γ O n) (v : Nat) : Sta K Z pn As H0 M H (σ.set v none) (Γ.set v .no) O n := by
  refine ⟨S.toFin, S.own, S.live, S.pr, S.nd, S.len, by simpa using S.sl, fun j t h => ?_, S.em, S.xo⟩
  by_cases hj : v = j
  · subst hj
    have hv : v < Γ.length := by
      have := (List.getElem?_eq_some_iff.mp h).1
      simpa using this
    rw [List.getElem?_set_self hv] at h
    cases h
    exact True.intro
  · rw [List.getElem?_set_ne hj] at h ⊢
    exact S.ok j t h
theorem Sta.wiped (S : Sta K Z pn As H0 M H σ Γ O n) : ∀ vs : List Nat, Sta K Z pn As H0 M H (wipe σ vs) (wipeG Γ vs) O n
  | [] => S
  | v :: vs => (S.wiped vs).noslot v
/-- slots of elsewhere over the same heap -/
theorem Sta.swap {σ2 : L2.St} {Γ2 : List SA} {H2 M2 : Hp} {n2 : Nat} (S2 : Sta K Z pn As H0 M2 H2 σ2 Γ2 O n2) (S : Sta K Z pn As H0 M H σ Γ O n) (e : Ex M M2) : Sta K Z pn As H0 M2 H2 σ Γ O n2 :=
  ⟨S2.toFin, S2.own, S2.live, S2.pr, S2.nd, S2.len, S.sl, fun i t h => (S.ok i t h).mono e, S2.em, S2.xo⟩
theorem Sta.lay' (S : Sta K Z pn As H0 M H σ Γ O n) {p : Addr} {ys xs : List V} (hM : M p = none) (h0 : H0 p = none) (hpn : some p ≠ pn) (hAs : p ∉ As) (hP : ¬ H0.P p) (hw : H p = some (.lst xs)) : Sta K Z pn As H0 M (upd H p (.lst ys)) σ Γ O n := by
  refine ⟨⟨fun a u h => ?_, S.gr.list hw (.inr h0), S.tb.list hw, fun q hq => ?_⟩, fun j a ds h1 h2 => ?_, fun a h => upd_live (S.live a h), fun a h => ⟨(S.pr a h).1, upd_live (S.pr a h).2.1, (S.pr a h).2.2⟩, S.nd, S.len, S.sl, S.ok, S.em, S.xo⟩
  · rw [upd_ne (ne_of_none h hM)]; exact S.ex a u h
  · obtain ⟨h1, h2⟩ := S.pen q hq
    exact ⟨h1, h2.mono (Evl.Ex.refl _) (by rw [upd_ne (fun z => hpn (by rw [← z, hq]))]) (Nat.le_refl _)⟩
  · obtain ⟨h3, h4, h5, h6⟩ := S.own j a ds h1 h2
    exact ⟨h3, h4, h5, h6.mono (Evl.Ex.refl _) (upd_ne (fun z => hAs (by rw [← z]; exact List.mem_of_getElem? h1)))⟩
/-- the general form: P by the turn, what is made so far, the pen's bound -/
theorem wl_lc {wi : TI} {g : TG} {tt : TT} {vs : List Nat} {k : List DV → Nat → Prop}
    (h : SW K Z wi Γ O n fun xs n1 => xs.length ≤ 100000 ∧ ∃ P : Nat → List DV → Nat → Prop, P 0 [] n1 ∧
      (∀ (i : Nat) (x : DV) (acc : List DV) (n2 : Nat), xs[i]? = some x → P i acc n2 → GW K g vs x (wipeG Γ vs) fun Γ2 => WT K Z tt Γ2 O n2 fun b n3 =>
        (b = true → W K Z te Γ2 O n3 fun y n4 => P (i + 1) (acc ++ [y]) n4) ∧ (b = false → P (i + 1) acc n3)) ∧ ∀ acc n2, P xs.length acc n2 → k acc n2) :
    WL K Z (tLc wi g tt te vs) Γ O n k := fun pn As H0 M H σ S Q c =>
  h pn As H0 M H σ S _ fun J M1 H1 xs n1 e1 S1 it ⟨hz, P, p0, step, fin⟩ => fun D hD => by
    have hDM : M1 D = none := Evl.fresh_back S1.ex hD
    have h0D : H0 D = none := S1.gr.back hD
    have hpn : some D ≠ pn := fun z => by
      obtain ⟨_, _, _, _, _, h3, _⟩ := S1.pen D z.symm
      rw [hD] at h3; cases h3
    have hAs : D ∉ As := fun z => S1.live D z hD
    have hP : ¬ H0.P D := fun z => (S1.pr D z).2.1 hD
    -- D kept apart: it stands, unfrozen
    have apart : ∀ {M' H' : Hp} {τ : L2.St} {Δ : List SA} {n2 : Nat} {ws : List V}, Sta K Z pn As H0 M' H' τ Δ O n2 → M' D = none → H' D = some (.lst ws) →
        Sta K Z pn As ⟨upd H0.h D (.lst ws), fun a => H0.P a ∨ a = D, H0.m⟩ M' H' τ Δ O n2 := fun {M' H' τ Δ n2 ws} T h1 h2 => by
      refine ⟨⟨T.ex, T.gr.apart h2, T.tb, T.pen⟩, fun j a ds g1 g2 => ?_, T.live, fun a g => ?_, T.nd, T.len, T.sl, T.ok, T.em, T.xo.sub (H1 := ⟨_, _, _⟩) (Gr.of (Evl.Ex.new h0D)) (Evl.Ex.refl _) (fun _ h => .inl h)⟩
      · obtain ⟨g3, g4, g5⟩ := T.own j a ds g1 g2
        have ha : a ≠ D := fun z => hAs (z ▸ List.mem_of_getElem? g1)
        exact ⟨g3, (upd_ne ha).trans g4, g5⟩
      · rcases g with g | g
        · exact ⟨(T.pr a g).1, (T.pr a g).2.1, upd_live (T.pr a g).2.2⟩
        · subst g; exact ⟨h1, (by rw [h2]; exact fun z => nomatch z), upd_live'⟩
    have back : ∀ {M' H' : Hp} {τ : L2.St} {Δ : List SA} {n2 : Nat} {ws : List V}, Sta K Z pn As ⟨upd H0.h D (.lst ws), fun a => H0.P a ∨ a = D, H0.m⟩ M' H' τ Δ O n2 →
        Sta K Z pn As H0 M' H' τ Δ O n2 ∧ M' D = none ∧ H' D = some (.lst ws) := fun {M' H' τ Δ n2 ws} T => by
      refine ⟨⟨⟨T.ex, (Gr.of (Evl.Ex.new h0D)).trans T.gr, T.tb, T.pen⟩, fun j a ds g1 g2 => ?_, T.live, fun a g => ⟨(T.pr a (.inl g)).1, (T.pr a (.inl g)).2.1, fun z => (T.pr a (.inl g)).2.2 ((upd_ne (show a ≠ D from fun y => hP (y ▸ g))).trans z)⟩, T.nd, T.len, T.sl, T.ok, T.em, S1.xo⟩, (T.pr D (.inr rfl)).1, T.gr.ext D _ hpn upd_same nt_lst⟩
      · obtain ⟨g3, g4, g5⟩ := T.own j a ds g1 g2
        have ha : a ≠ D := fun z => hAs (z ▸ List.mem_of_getElem? g1)
        exact ⟨g3, (upd_ne (H := H0.h) (o := .lst ws) ha).symm.trans g4, g5⟩
    refine ⟨fun i m H' => m = xs.length - i ∧ i ≤ xs.length ∧ ∃ M' ws acc n2, Ex M1 M' ∧ Sta K Z pn As H0 M' H' σ Γ O n2 ∧ M' D = none ∧ H' D = some (.lst ws) ∧ RpL K M' ws acc ∧ acc.length ≤ i ∧ P i acc n2,
      ⟨xs.length, by simp, Nat.zero_le _, M1, [], [], n1, Evl.Ex.refl M1, S1.lay hD, hDM, upd_same, .nil, Nat.le_refl _, p0⟩, ?_⟩
    rintro i m H' ⟨rfl, hi, M', ws, acc, n2, e2, S2, hD2, hw, rw2, hl2, p2⟩
    by_cases hlt : i < xs.length
    · have S2' := apart S2 hD2 hw
      obtain ⟨gd, sd⟩ := it Z pn As _ M' H' σ Γ O n2 e2 S2' i
      have hx : xs[i]? = some xs[i] := by simp [hlt]
      obtain ⟨g1, g2⟩ := gd _ hx
      refine .inr ⟨g1, fun H'' => i + 1 ≤ xs.length ∧ ∃ M' ws acc n2, Ex M1 M' ∧ Sta K Z pn As H0 M' H'' σ Γ O n2 ∧ M' D = none ∧ H'' D = some (.lst ws) ∧ RpL K M' ws acc ∧ acc.length ≤ i + 1 ∧ P (i + 1) acc n2,
        fun H'' q => ⟨xs.length - (i + 1), by omega, rfl, q⟩, fun z H3 hy => ?_⟩
      obtain ⟨M3, e3, S3, r3⟩ := g2 z H3 hy
      refine step i _ acc n2 hx p2 Z pn As _ M3 H3 (wipe σ vs) O n2 (S3.wiped vs) z r3 _ fun σ4 Γ4 S4 w4 q4 => ⟨w4.trans (wipe_wipe vs), ?_⟩
      refine q4 pn As _ M3 H3 σ4 S4 _ fun b M5 H5 n5 e5 S5 q5 => ?_
      cases b with
      | false =>
        rw [if_neg Bool.false_ne_true]
        obtain ⟨S6, d6, h6⟩ := back (S5.swap S3 e5)
        exact ⟨hlt, M5, ws, acc, n5, Evl.Ex.trans e2 (Evl.Ex.trans e3 e5), S6, d6, h6, rw2.mono (Evl.Ex.trans e3 e5), Nat.le_succ_of_le hl2, q5.2 rfl⟩
      | true =>
        rw [if_pos rfl]
        refine q5.1 rfl pn As _ M5 H5 σ4 S5 _ fun u M7 H7 y n7 e7 S7 r7 q7 => ?_
        obtain ⟨S8, d8, h8⟩ := back (S7.swap S3 (Evl.Ex.trans e5 e7))
        have hlw : ws.length = acc.length := rw2.length
        refine ⟨ws, h8, Evl.sz_lt (by omega), hlt, M7, ws ++ [u], acc ++ [y], n7, Evl.Ex.trans e2 (Evl.Ex.trans e3 (Evl.Ex.trans e5 e7)), S8.lay' d8 h0D hpn hAs hP h8, d8, upd_same, (rw2.mono (Evl.Ex.trans e3 (Evl.Ex.trans e5 e7))).append (.cons r7 .nil), by simp; omega, q7⟩
    · have e : i = xs.length := by omega
      subst e
      obtain ⟨_, sd⟩ := it Z pn As H0 M' H' σ Γ O n2 e2 S2 xs.length
      exact .inl ⟨sd (Nat.le_refl _), c D ws M' H' acc n2 (Evl.Ex.trans e1 e2) S2 hD2 h0D hpn hAs hP hw rw2 (fin acc n2 p2)⟩
end
end DL
namespace DL
open PySem PySem.Spec PyProof.Rows L2
variable [Tn]
section
variable {K : Fg} {Z : Xt} {pn : Option Addr} {As : List Addr} {H0 : Ent} {M M' H H' : Hp} {σ : L2.St} {Γ : List SA} {O : Own} {n m : Nat} {te ta tb : TE} {x y : DV} {E : KE}
/-! ### statements -/
theorem ws_next (q : E.nx Γ O n) : WS K Z tNext Γ O n E := fun pn As H0 M H σ D S s => s.nx As M H σ Γ O n (List.prefix_refl _) (Evl.Ex.refl M) S q
theorem ws_seq {t u : TS} (h : WS K Z t Γ O n { E with nx := fun Γ1 O1 n1 => WS K Z u Γ1 O1 n1 E }) : WS K Z (tSeq t u) Γ O n E := fun pn As H0 M H σ D S s =>
  h pn As H0 M H σ { D with nx := u D } S ⟨fun As1 M1 H1 σ1 Γ1 O1 n1 p1 e1 S1 q => q pn As1 H0 M1 H1 σ1 D S1 (s.at p1 e1), s.rt, s.bk, s.ct⟩
theorem ws_break (q : E.bk Γ O n) : WS K Z tBreak Γ O n E := fun pn As H0 M H σ D S s => s.bk As M H σ Γ O n (List.prefix_refl _) (Evl.Ex.refl M) S q
theorem ws_cont (q : E.ct Γ O n) : WS K Z tCont Γ O n E := fun pn As H0 M H σ D S s => s.ct As M H σ Γ O n (List.prefix_refl _) (Evl.Ex.refl M) S q
theorem ws_asg {i : Nat} (h : W K Z te Γ O n fun d n1 => E.nx (Γ.set i (.is d)) O n1) : WS K Z (tAsg te (gName i)) Γ O n E := fun pn As H0 M H σ D S s =>
  h pn As H0 M H σ S _ fun v M1 H1 d n1 e1 S1 r1 q1 => s.nx As M1 H1 _ _ O n1 (List.prefix_refl _) e1 (S1.store r1) q1
theorem Sta.addOwnG (S : Sta K Z pn As H0 M H σ Γ O n) {p : Addr} {ov : OV} (h1 : M p = none) (h2 : H0 p = none) (h3 : some p ≠ pn) (h4 : p ∉ As) (h5 : OwnAt K M H p ov) :
    Sta K Z pn (As ++ [p]) H0 M H σ Γ (O ++ [some ov]) n := by
  refine ⟨S.toFin, fun j a es g1 g2 => ?_, fun a h => ?_, S.pr, ?_, by simp [S.len], S.sl, fun j t h => ?_, S.em, S.xo⟩
  · by_cases hj : j < As.length
    · rw [List.getElem?_append_left hj] at g1
      rw [List.getElem?_append_left (by rw [← S.len]; exact hj)] at g2
      exact S.own j a es g1 g2
    · have hj2 : j = As.length := by
        have := (List.getElem?_eq_some_iff.mp g1).1
        simp at this; omega
      subst hj2
      rw [List.getElem?_append_right (Nat.le_refl _)] at g1
      rw [List.getElem?_append_right (by rw [← S.len]; exact Nat.le_refl _)] at g2
      simp at g1; simp [S.len] at g2
      subst g1 g2
      exact ⟨h1, h2, h3, h5⟩
  · rcases List.mem_append.mp h with h | h
    · exact S.live a h
    · simp at h; subst h; exact h5.live
  · rw [List.nodup_append]
    exact ⟨S.nd, by simp, fun a ha b hb => by simp at hb; subst hb; exact fun z => h4 (z ▸ ha)⟩
  · have q := S.ok j t h
    cases t with
    | no => exact True.intro
    | is d => exact q
    | own l =>
      obtain ⟨a, q1, q2⟩ := q
      exact ⟨a, by rw [List.getElem?_append_left (List.getElem?_eq_some_iff.mp q1).1]; exact q1, q2⟩
    | pen => exact q
theorem Sta.addOwn (S : Sta K Z pn As H0 M H σ Γ O n) {p : Addr} {vs : List V} {ds : List DV} (h1 : M p = none) (h2 : H0 p = none) (h3 : some p ≠ pn) (h4 : p ∉ As) (h5 : H p = some (.lst vs)) (h6 : RpL K M vs ds) :
    Sta K Z pn (As ++ [p]) H0 M H σ Γ (O ++ [some (.l ds)]) n := S.addOwnG (ov := .l ds) h1 h2 h3 h4 ⟨vs, h5, h6⟩
theorem Sta.storeOwn (S : Sta K Z pn As H0 M H σ Γ O n) {i j : Nat} {a : Addr} (h : As[j]? = some a) : Sta K Z pn As H0 M H (σ.set i (some (.ref a))) (Γ.set i (.own j)) O n := by
  refine ⟨S.toFin, S.own, S.live, S.pr, S.nd, S.len, by simpa using S.sl, fun l t g => ?_, S.em, S.xo⟩
  by_cases hj : i = l
  · subst hj
    have hi : i < Γ.length := by
      have := (List.getElem?_eq_some_iff.mp g).1
      simpa using this
    rw [List.getElem?_set_self hi] at g
    cases g
    rw [List.getElem?_set_self (by rw [S.sl]; exact hi)]
    exact ⟨a, h, rfl⟩
  · rw [List.getElem?_set_ne hj] at g ⊢
    exact S.ok l t g
/-- a new list that is to be changed -/
theorem ws_asgOwn {i : Nat} (h : WL K Z te Γ O n fun ds n1 => E.nx (Γ.set i (.own O.length)) (O ++ [some (.l ds)]) n1) : WS K Z (tAsg te (gName i)) Γ O n E := fun pn As H0 M H σ D S s =>
  h pn As H0 M H σ S _ fun p vs M1 H1 ds n1 e1 S1 h1 h2 h3 h4 hP h5 h6 h7 =>
    s.nx (As ++ [p]) M1 H1 _ _ _ n1 (List.prefix_append _ _) e1 ((S1.addOwn h1 h2 h3 h4 h5 h6).storeOwn (j := O.length) (by rw [← S1.len]; simp)) h7
/-- what is own changes -/
theorem Sta.setOwnG (S : Sta K Z pn As H0 M H σ Γ O n) {j : Nat} {a : Addr} {ov ow : OV} {u : HO} (ha : As[j]? = some a) (ho : O[j]? = some (some ov)) (hu : Tb M (upd H a u)) (r : OwnAt K M (upd H a u) a ow) :
    Sta K Z pn As H0 M (upd H a u) σ Γ (O.set j (some ow)) n := by
  obtain ⟨g1, g2, g3, g4⟩ := S.own j a ov ha ho
  refine ⟨⟨fun b u h => ?_, ⟨fun b o h1 h2 h3 => ?_, fun b h => ?_⟩, hu, fun q hq => ?_⟩, fun l b fs h1 h2 => ?_, fun b h => upd_live (S.live b h), fun b h => ⟨(S.pr b h).1, upd_live (S.pr b h).2.1, (S.pr b h).2.2⟩, S.nd, by simp [S.len], S.sl, S.ok, S.em, S.xo⟩
  · rw [upd_ne (ne_of_none h g1)]; exact S.ex b u h
  · rw [upd_ne (ne_of_none h2 g2)]; exact S.gr.ext b o h1 h2 h3
  · exact upd_live (S.gr.live b h)
  · obtain ⟨h1, h2⟩ := S.pen q hq
    exact ⟨h1, h2.mono (Evl.Ex.refl _) (by rw [upd_ne (fun z => g3 (by rw [← z, hq]))]) (Nat.le_refl _)⟩
  · by_cases hl : j = l
    · subst hl
      rw [ha] at h1; cases h1
      have hj : j < O.length := (List.getElem?_eq_some_iff.mp ho).1
      rw [List.getElem?_set_self hj] at h2
      cases h2
      exact ⟨g1, g2, g3, r⟩
    · rw [List.getElem?_set_ne hl] at h2
      obtain ⟨f1, f2, f3, f4⟩ := S.own l b fs h1 h2
      refine ⟨f1, f2, f3, f4.mono (Evl.Ex.refl _) (upd_ne fun z => ?_)⟩
      subst z
      exact hl ((List.getElem?_inj (List.getElem?_eq_some_iff.mp ha).1 S.nd).mp (ha.trans h1.symm))
/-- an own list changes -/
theorem Sta.setOwn (S : Sta K Z pn As H0 M H σ Γ O n) {j : Nat} {a : Addr} {ds es : List DV} {ws : List V} (ha : As[j]? = some a) (ho : O[j]? = some (some (.l ds))) (r : RpL K M ws es) :
    Sta K Z pn As H0 M (upd H a (.lst ws)) σ Γ (O.set j (some (.l es))) n := by
  obtain ⟨g1, g2, g3, us, g4, g5⟩ := S.own j a _ ha ho
  exact S.setOwnG ha ho (S.tb.list g4) ⟨ws, upd_same, r⟩
/-- an own list is kept for good -/
theorem Sta.freeze (S : Sta K Z pn As H0 M H σ Γ O n) {i j : Nat} {ds : List DV} (hi : Γ[i]? = some (.own j)) (ho : O[j]? = some (some (.l ds))) :
    ∃ M', Ex M M' ∧ Sta K Z pn As H0 M' H σ (Γ.set i (.is (.lst ds))) (O.set j none) n := by
  obtain ⟨a, vs, h1, h2, h3, h4, h5, h6, h7⟩ := S.slotOwn hi ho
  have ex : Ex M (upd M a (.lst vs)) := Evl.Ex.new h5
  refine ⟨_, ex, ⟨⟨fun b u h => ?_, S.gr, S.tb.frz h3 nt_lst, fun q hq => ?_⟩, fun l b fs g1 g2 => ?_, S.live, fun b h => ?_, S.nd, by simp [S.len], by simpa using S.sl, fun l t g => ?_, Evl.Ex.trans S.em ex, S.xo⟩⟩
  · by_cases hb : b = a
    · subst hb; rw [upd_same] at h; rw [← h]; exact h3
    · rw [upd_ne hb] at h; exact S.ex b u h
  · obtain ⟨g1, g2⟩ := S.pen q hq
    exact ⟨by rw [upd_ne (fun z => h7 (by rw [← z, hq]))]; exact g1, g2.mono ex rfl (Nat.le_refl _)⟩
  · by_cases hl : j = l
    · subst hl
      have hj : j < O.length := (List.getElem?_eq_some_iff.mp ho).1
      rw [List.getElem?_set_self hj] at g2
      cases g2
    · rw [List.getElem?_set_ne hl] at g2
      obtain ⟨f1, f2, f3, f4⟩ := S.own l b fs g1 g2
      refine ⟨?_, f2, f3, f4.mono ex rfl⟩
      rw [upd_ne]
      · exact f1
      · intro z
        subst z
        exact hl ((List.getElem?_inj (List.getElem?_eq_some_iff.mp h2).1 S.nd).mp (h2.trans g1.symm))
  · exact ⟨by rw [upd_ne (show b ≠ a from fun z => (S.pr b h).2.2 (by rw [z]; exact h6))]; exact (S.pr b h).1, (S.pr b h).2⟩
  · by_cases hj : i = l
    · subst hj
      have hi' : i < Γ.length := by
        have := (List.getElem?_eq_some_iff.mp g).1
        simpa using this
      rw [List.getElem?_set_self hi'] at g
      cases g
      exact ⟨.ref a, by rw [h1]; rfl, .lst upd_same (h4.mono ex)⟩
    · rw [List.getElem?_set_ne hj] at g
      exact (S.ok l t g).mono ex
/-- an own list that is not to be changed any more -/
theorem ws_freeze {ts : TS} {i j : Nat} {ds : List DV} (hi : Γ[i]? = some (.own j)) (ho : O[j]? = some (some (.l ds))) (h : WS K Z ts (Γ.set i (.is (.lst ds))) (O.set j none) n E) : WS K Z ts Γ O n E := fun pn As H0 M H σ D S s => by
  obtain ⟨M', e, S'⟩ := S.freeze hi ho
  exact h pn As H0 M' H σ D S' (s.on e)
theorem Sta.fin (S : Sta K Z pn As H0 M H σ Γ O n) : Fin K pn H0 M H n := S.toFin
theorem ws_ret (h : W K Z te Γ O n fun d n1 => E.rt d O n1) : WS K Z (tRet te) Γ O n E := fun pn As H0 M H σ D S s =>
  h pn As H0 M H σ S _ fun v M1 H1 d n1 e1 S1 r1 q1 => s.rt As v M1 H1 σ Γ O d n1 (List.prefix_refl _) e1 S1 r1 q1
theorem ws_retN (q : E.rt .non O n) : WS K Z tRetN Γ O n E := fun pn As H0 M H σ D S s => s.rt As .non M H σ Γ O .non n (List.prefix_refl _) (Evl.Ex.refl M) S .non q
/-- return of an own list -/
theorem ws_retOwn {i j : Nat} {ds : List DV} (hi : Γ[i]? = some (.own j)) (ho : O[j]? = some (some (.l ds))) (q : E.rt (.lst ds) (O.set j none) n) : WS K Z (tRet (tVar i)) Γ O n E :=
  ws_freeze hi ho (ws_ret (w_var (by rw [List.getElem?_set_self (List.getElem?_eq_some_iff.mp hi).1]) q))
theorem ws_drop (h : W K Z te Γ O n fun _ n1 => E.nx Γ O n1) : WS K Z (tDrop te) Γ O n E := fun pn As H0 M H σ D S s =>
  h pn As H0 M H σ S _ fun v M1 H1 d n1 e1 S1 r1 q1 => s.nx As M1 H1 σ Γ O n1 (List.prefix_refl _) e1 S1 q1
theorem ws_if {t : TT} {u w : TS} (h : WT K Z t Γ O n fun b n1 => (b = true → WS K Z u Γ O n1 E) ∧ (b = false → WS K Z w Γ O n1 E)) : WS K Z (tIfS t u w) Γ O n E := fun pn As H0 M H σ D S s =>
  h pn As H0 M H σ S _ fun b M1 H1 n1 e1 S1 q => by
    cases b with
    | true => exact q.1 rfl pn As H0 M1 H1 σ D S1 (s.on e1)
    | false => exact q.2 rfl pn As H0 M1 H1 σ D S1 (s.on e1)
theorem ws_par {i j : Nat} {ta : TA} (h : WA K Z ta Γ O n fun xs n1 => ∃ x y, xs = [x, y] ∧ E.nx ((Γ.set i (.is x)).set j (.is y)) O n1) : WS K Z (tPar i j ta) Γ O n E := fun pn As H0 M H σ D S s =>
  h pn As H0 M H σ S _ fun vs M1 H1 xs n1 e1 S1 r1 ⟨x, y, e, q⟩ => by
    subst e
    obtain ⟨u, w, rfl, r, r'⟩ := r1.two
    exact ⟨u, w, rfl, s.nx As M1 H1 _ _ O n1 (List.prefix_refl _) e1 ((S1.store r).store r') q⟩
theorem ws_aug {i : Nat} {f : Int → Int → Int} {a : Int} (hi : Γ[i]? = some (.is (.int a))) (h : W K Z te Γ O n fun d n1 => ∃ b, d = .int b ∧ E.nx (Γ.set i (.is (.int (f a b)))) O n1) : WS K Z (tAug i te (ipI f)) Γ O n E := fun pn As H0 M H σ D S s => by
  obtain ⟨v, h1, h2⟩ := S.slot hi
  cases h2
  refine ⟨_, h1, h pn As H0 M H σ S _ fun w M1 H1 d n1 e1 S1 r1 ⟨b, e, q⟩ => ?_⟩
  subst e
  exact ⟨a, b, rfl, r1.int', s.nx As M1 H1 _ _ O n1 (List.prefix_refl _) e1 (S1.store (.int _)) q⟩
/-- targets of all kinds -/
def XG (K : Fg) (Z : Xt) (g : TG) (x : DV) (Γ : List SA) (O : Own) (n : Nat) (k : List SA → Own → Nat → Prop) : Prop :=
  ∀ (pn : Option Addr) (As : List Addr) (H0 : Ent) (M H : Hp) (σ : L2.St), Sta K Z pn As H0 M H σ Γ O n → ∀ v, Rp K M v x → ∀ Q : L2.St → Hp → Prop,
    (∀ As' M' H' σ' Γ' O' n', As <+: As' → Ex M M' → Sta K Z pn As' H0 M' H' σ' Γ' O' n' → k Γ' O' n' → Q σ' H') → g v σ H Q
def XGs (K : Fg) (Z : Xt) (g : TGs) (ds : List DV) (Γ : List SA) (O : Own) (n : Nat) (k : List SA → Own → Nat → Prop) : Prop :=
  ∀ (pn : Option Addr) (As : List Addr) (H0 : Ent) (M H : Hp) (σ : L2.St), Sta K Z pn As H0 M H σ Γ O n → ∀ vs, RpL K M vs ds → ∀ Q : L2.St → Hp → Prop,
    (∀ As' M' H' σ' Γ' O' n', As <+: As' → Ex M M' → Sta K Z pn As' H0 M' H' σ' Γ' O' n' → k Γ' O' n' → Q σ' H') → g vs σ H Q
theorem xg_name {i : Nat} {k : List SA → Own → Nat → Prop} (q : k (Γ.set i (.is x)) O n) : XG K Z (gName i) x Γ O n k := fun pn As H0 M H σ S v r Q c => c As M H _ _ O n (List.prefix_refl _) (Evl.Ex.refl M) (S.store r) q
theorem xgs_nil {k : List SA → Own → Nat → Prop} (q : k Γ O n) : XGs K Z gNil [] Γ O n k := fun pn As H0 M H σ S vs r Q c => by
  cases r
  exact ⟨rfl, c As M H σ Γ O n (List.prefix_refl _) (Evl.Ex.refl M) S q⟩
theorem xgs_cons {g : TG} {gs : TGs} {d : DV} {ds : List DV} {k : List SA → Own → Nat → Prop} (h : XG K Z g d Γ O n fun Γ1 O1 n1 => XGs K Z gs ds Γ1 O1 n1 k) : XGs K Z (gCons g gs) (d :: ds) Γ O n k := fun pn As H0 M H σ S vs r Q c => by
  cases r with
  | cons a b => exact ⟨_, _, rfl, h pn As H0 M H σ S _ a _ fun As1 M1 H1 σ1 Γ1 O1 n1 p1 e1 S1 q1 => q1 pn As1 H0 M1 H1 σ1 S1 _ (b.mono e1) Q fun As2 M2 H2 σ2 Γ2 O2 n2 p2 e2 => c As2 M2 H2 σ2 Γ2 O2 n2 (p1.trans p2) (Evl.Ex.trans e1 e2)⟩
theorem xg_tup {nn : Nat} {gs : TGs} {ds : List DV} {k : List SA → Own → Nat → Prop} (hl : ds.length = nn) (h : XGs K Z gs ds Γ O n k) : XG K Z (gTup K nn gs) (.tup ds) Γ O n k := fun pn As H0 M H σ S v r Q c => by
  obtain ⟨a, us, rfl, g1, g2⟩ := r.tup'
  exact ⟨a, us, rfl, Evl.ex_t S.ex g1, by rw [g2.length]; exact hl, h pn As H0 M H σ S us g2 Q c⟩
/-- xs[e] = .., xs an own list -/
theorem xg_set {i j : Nat} {ds : List DV} {ti : TE} {k : List SA → Own → Nat → Prop} (hi : Γ[i]? = some (.own j)) (ho : O[j]? = some (some (.l ds)))
    (h : W K Z ti Γ O n fun d n1 => ∃ (a : Int) (l : Nat), d = .int a ∧ ixN ds.length a = some l ∧ k Γ (O.set j (some (.l (ds.set l x)))) n1) : XG K Z (gSub (tVar i) ti rSetL) x Γ O n k := fun pn As H0 M H σ S v r Q c => by
  obtain ⟨a, vs, h1, h2, _⟩ := S.slotOwn hi ho
  refine ⟨_, h1, h pn As H0 M H σ S _ fun w M1 H1 d n1 e1 S1 r1 ⟨z, l, ez, hz, q⟩ => ?_⟩
  subst ez
  obtain ⟨a', vs', g1, g2, g3, g4, _⟩ := S1.slotOwn hi ho
  rw [h1] at g1; cases g1
  exact ⟨a, vs', z, l, rfl, r1.int', g3, by rw [g4.length]; exact hz, c As M1 _ σ Γ _ n1 (List.prefix_refl _) e1 (S1.setOwn g2 ho (RpL.set (r.mono e1) l g4)) q⟩
theorem ws_asgG {g : TG} (h : W K Z te Γ O n fun d n1 => XG K Z g d Γ O n1 E.nx) : WS K Z (tAsg te g) Γ O n E := fun pn As H0 M H σ D S s =>
  h pn As H0 M H σ S _ fun v M1 H1 d n1 e1 S1 r1 q1 => q1 pn As H0 M1 H1 σ S1 v r1 _ fun As2 M2 H2 σ2 Γ2 O2 n2 p2 e2 S2 q2 => s.nx As2 M2 H2 σ2 Γ2 O2 n2 p2 (Evl.Ex.trans e1 e2) S2 q2
/-- xs.append(e), xs an own list -/
theorem ws_append {i j : Nat} {ds : List DV} (hi : Γ[i]? = some (.own j)) (ho : O[j]? = some (some (.l ds))) (hz : ds.length < 100000) (h : W K Z te Γ O n fun d n1 => E.nx Γ (O.set j (some (.l (ds ++ [d])))) n1) :
    WS K Z (tDrop (tBM K "list" rAppend (tVar i) (tCons te tNil))) Γ O n E := fun pn As H0 M H σ D S s => by
  obtain ⟨a, vs, h1, h2, h3, _⟩ := S.slotOwn hi ho
  refine ⟨_, h1, .inl ⟨rfl, _, .inl (.inl h3)⟩, h pn As H0 M H σ S _ fun w M1 H1 d n1 e1 S1 r1 q => ?_⟩
  obtain ⟨a', vs', g1, g2, g3, g4, _⟩ := S1.slotOwn hi ho
  rw [h1] at g1; cases g1
  exact ⟨a, vs', w, rfl, rfl, g3, Evl.sz_lt (by rw [g4.length]; exact hz), s.nx As M1 _ σ Γ _ n1 (List.prefix_refl _) e1 (S1.setOwn g2 ho (g4.append (.cons r1 .nil))) q⟩
def rInsert : V → List V → Hp → VK → Prop := fun x vs H Q => ∃ (l : Addr) (xs : List V) (i : Int) (y : V), x = .ref l ∧ vs = [.int i, y] ∧ H l = some (.lst xs) ∧ xs.length < sizeLine ∧ 0 ≤ i ∧ i < 2 ^ 63 ∧
    Q .non (upd H l (.lst (xs.take i.toNat ++ [y] ++ xs.drop i.toNat)))
theorem ws_insert {i j : Nat} {ds : List DV} {ta : TA} (hi : Γ[i]? = some (.own j)) (ho : O[j]? = some (some (.l ds))) (hz : ds.length < 100000) (h : WA K Z ta Γ O n fun xs n1 => ∃ (l : Nat) (d : DV), xs = [.int (l : Int), d] ∧ l ≤ ds.length ∧ E.nx Γ (O.set j (some (.l (ds.take l ++ [d] ++ ds.drop l)))) n1) :
    WS K Z (tDrop (tBM K "list" rInsert (tVar i) ta)) Γ O n E := fun pn As H0 M H σ D S s => by
  obtain ⟨a, vs, h1, h2, h3, _⟩ := S.slotOwn hi ho
  refine ⟨_, h1, .inl ⟨rfl, _, .inl (.inl h3)⟩, h pn As H0 M H σ S _ fun ws M1 H1 xs n1 e1 S1 r1 ⟨l, d, e, hl, q⟩ => ?_⟩
  subst e
  obtain ⟨u, w, rfl, r, r'⟩ := r1.two
  cases r
  obtain ⟨a', vs', g1, g2, g3, g4, _⟩ := S1.slotOwn hi ho
  rw [h1] at g1; cases g1
  refine ⟨a, vs', (l : Int), w, rfl, rfl, g3, Evl.sz_lt (by rw [g4.length]; exact hz), by omega, by omega, ?_⟩
  rw [Int.toNat_natCast]
  exact s.nx As M1 _ σ Γ _ n1 (List.prefix_refl _) e1 (S1.setOwn g2 ho (((g4.take l).append (.cons r' .nil)).append (g4.drop l))) q
/-! ### loops -/
theorem ws_for {wi : TI} {g : TG} {tb : TS} {vs : List Nat}
    (h : SW K Z wi Γ O n fun xs n1 => ∃ I : Nat → List SA → Own → Nat → Prop, I 0 Γ O n1 ∧
      (∀ (i : Nat) (x : DV) (Γ' : List SA) (O' : Own) (n' : Nat), xs[i]? = some x → I i Γ' O' n' → GW K g vs x Γ' fun Γ2 => WS K Z tb Γ2 O' n' { nx := I (i + 1), ct := I (i + 1), bk := E.nx, rt := E.rt }) ∧
      ∀ Γ' O' n', I xs.length Γ' O' n' → E.nx Γ' O' n') : WS K Z (tFor wi g tb) Γ O n E := fun pn As H0 M H σ D S s =>
  h pn As H0 M H σ S _ fun J M1 H1 xs n1 e1 S1 it ⟨I, i0, step, fin⟩ => by
    refine ⟨fun i m σ' H' => m = xs.length - i ∧ i ≤ xs.length ∧ ∃ As' M' Γ' O' n', As <+: As' ∧ Ex M1 M' ∧ Sta K Z pn As' H0 M' H' σ' Γ' O' n' ∧ I i Γ' O' n', ⟨xs.length, by simp, Nat.zero_le _, As, M1, Γ, O, n1, List.prefix_refl _, Evl.Ex.refl M1, S1, i0⟩, ?_⟩
    rintro i m σ' H' ⟨rfl, hi, As', M', Γ', O', n', pA, e2, S2, p2⟩
    obtain ⟨gd, sd⟩ := it Z pn As' H0 M' H' σ' Γ' O' n' e2 S2 i
    by_cases hlt : i < xs.length
    · have hx : xs[i]? = some xs[i] := by simp [hlt]
      obtain ⟨g1, g2⟩ := gd _ hx
      refine .inr ⟨g1, fun σ'' H'' => i + 1 ≤ xs.length ∧ ∃ As' M' Γ' O' n', As <+: As' ∧ Ex M1 M' ∧ Sta K Z pn As' H0 M' H'' σ'' Γ' O' n' ∧ I (i + 1) Γ' O' n', fun σ'' H'' q => ⟨xs.length - (i + 1), by omega, rfl, q⟩, fun z H3 hy => ?_⟩
      obtain ⟨M3, e3, S3, r3⟩ := g2 z H3 hy
      have e13 : Ex M1 M3 := Evl.Ex.trans e2 e3
      refine step i _ Γ' O' n' hx p2 Z pn As' H0 M3 H3 σ' O' n' S3 z r3 _ fun σ4 Γ4 S4 w4 q4 => ?_
      refine q4 pn As' H0 M3 H3 σ4 _ S4 ⟨fun A5 M5 H5 σ5 Γ5 O5 n5 p5 e5 S5 q5 => ⟨hlt, A5, M5, Γ5, O5, n5, pA.trans p5, Evl.Ex.trans e13 e5, S5, q5⟩, fun A5 v M5 H5 σ5 Γ5 O5 d n5 p5 e5 => s.rt A5 v M5 H5 σ5 Γ5 O5 d n5 (pA.trans p5) (Evl.Ex.trans e1 (Evl.Ex.trans e13 e5)),
        fun A5 M5 H5 σ5 Γ5 O5 n5 p5 e5 => s.nx A5 M5 H5 σ5 Γ5 O5 n5 (pA.trans p5) (Evl.Ex.trans e1 (Evl.Ex.trans e13 e5)), fun A5 M5 H5 σ5 Γ5 O5 n5 p5 e5 S5 q5 => ⟨hlt, A5, M5, Γ5, O5, n5, pA.trans p5, Evl.Ex.trans e13 e5, S5, q5⟩⟩
    · have e : i = xs.length := by omega
      subst e
      exact .inl ⟨sd (Nat.le_refl _), s.nx As' M' H' σ' Γ' O' n' pA (Evl.Ex.trans e1 e2) S2 (fin Γ' O' n' p2)⟩
theorem ws_while {c : TT} {tb : TS}
    (h : ∃ I : Nat → List SA → Own → Nat → Prop, (∃ m, I m Γ O n) ∧ ∀ m Γ' O' n', I m Γ' O' n' → WT K Z c Γ' O' n' fun b n2 =>
      (b = true → WS K Z tb Γ' O' n2 { nx := fun Γ3 O3 n3 => ∃ m', m' < m ∧ I m' Γ3 O3 n3, ct := fun Γ3 O3 n3 => ∃ m', m' < m ∧ I m' Γ3 O3 n3, bk := E.nx, rt := E.rt }) ∧ (b = false → E.nx Γ' O' n2)) : WS K Z (tWhile c tb) Γ O n E := fun pn As H0 M H σ D S s => by
  obtain ⟨I, ⟨m0, i0⟩, step⟩ := h
  refine ⟨fun m σ' H' => ∃ As' M' Γ' O' n', As <+: As' ∧ Ex M M' ∧ Sta K Z pn As' H0 M' H' σ' Γ' O' n' ∧ I m Γ' O' n', ⟨m0, As, M, Γ, O, n, List.prefix_refl _, Evl.Ex.refl M, S, i0⟩, ?_⟩
  rintro m σ' H' ⟨As', M', Γ', O', n', pA, e2, S2, p2⟩
  refine step m Γ' O' n' p2 pn As' H0 M' H' σ' S2 _ fun b M3 H3 n3 e3 S3 q3 => ?_
  cases b with
  | false =>
    rw [if_neg Bool.false_ne_true]
    exact s.nx As' M3 H3 σ' Γ' O' n3 pA (Evl.Ex.trans e2 e3) S3 (q3.2 rfl)
  | true =>
    rw [if_pos rfl]
    refine ⟨fun σ'' H'' => ∃ m', m' < m ∧ ∃ As' M' Γ' O' n', As <+: As' ∧ Ex M M' ∧ Sta K Z pn As' H0 M' H'' σ'' Γ' O' n' ∧ I m' Γ' O' n', fun σ'' H'' q => q, ?_⟩
    have e23 := Evl.Ex.trans e2 e3
    have again : ∀ A5 M5 H5 σ5 Γ5 O5 n5, As' <+: A5 → Ex M3 M5 → Sta K Z pn A5 H0 M5 H5 σ5 Γ5 O5 n5 → (∃ m', m' < m ∧ I m' Γ5 O5 n5) → ∃ m', m' < m ∧ ∃ As' M' Γ' O' n', As <+: As' ∧ Ex M M' ∧ Sta K Z pn As' H0 M' H5 σ5 Γ' O' n' ∧ I m' Γ' O' n' :=
      fun A5 M5 H5 σ5 Γ5 O5 n5 p5 e5 S5 ⟨m', hm, q5⟩ => ⟨m', hm, A5, M5, Γ5, O5, n5, pA.trans p5, Evl.Ex.trans e23 e5, S5, q5⟩
    exact q3.1 rfl pn As' H0 M3 H3 σ' _ S3 ⟨again, fun A5 v M5 H5 σ5 Γ5 O5 d n5 p5 e5 => s.rt A5 v M5 H5 σ5 Γ5 O5 d n5 (pA.trans p5) (Evl.Ex.trans e23 e5), fun A5 M5 H5 σ5 Γ5 O5 n5 p5 e5 => s.nx A5 M5 H5 σ5 Γ5 O5 n5 (pA.trans p5) (Evl.Ex.trans e23 e5), again⟩
end
end DL
namespace DL
open PySem PySem.Spec PyProof.Rows L2
variable [Tn]
/-! calls, with what is known of the repr-guards around -/
section
variable {P : Program} {w : World} {K : Fg} {mg : Str → Option Value} {base : Heap}
structure FnG (P : Program) (w : World) (K : Fg) (mg : Str → Option Value) (base : Heap) (CX : CXT) (k : Nat) (f : Addr) (fd : FuncData) (ps : List Str) (sp : Sp) : Prop where
  len : ∀ vs H Q E, sp vs H Q E → vs.length = ps.length
  go : ∀ (A : Around) (outer : List Env) (s : Shared) (H : Hp) (args : Args) (us : List Value) (vs : List V) (Q : VK) (E : XK), Room k A → A.guards = some [] → Env0 P w K mg base A outer s H →
    BindsTo s fd args (ps.zip us) → Vals vs us → sp vs H Q E → codeAny (model P w) A (.call (.ref f) args) (CR CX outer P w H s Q E) s
theorem FnG.mono {CX : CXT} {j k : Nat} {f : Addr} {fd : FuncData} {ps : List Str} {sp : Sp} (F : FnG P w K mg base CX j f fd ps sp) (h : j ≤ k) : FnG P w K mg base CX k f fd ps sp :=
  ⟨F.len, fun A outer s H args us vs Q E r => F.go A outer s H args us vs Q E (r.mono h)⟩
theorem fnG_fun {CX : CXT} {x qual : Str} {st : Stmt} {f : Addr} {fd : FuncData} {N ps : List Str} {k : Nat} {sp : Sp} (F : Fun K x qual st f fd) (S : FnScope N ps (defScope st))
    (len : ∀ vs H Q E, sp vs H Q E → vs.length = ps.length)
    (hb : ∀ (cdv : Value) (A : Around) (outer : List Env) (s : Shared) (H : Hp) (vs : List V) (Q : VK) (E : XK), Room k (A.deeper (envOfC qual (defScope st) s.heap.objs.size f cdv)) → A.guards = some [] → sp vs H Q E →
      ∃ t, PSs (cxOf CX P w K mg base N qual (defScope st) f cdv A outer s H E) (defBody st) t ∧ t { nx := fun _ H' => Q .non H', rt := Q } (start N vs) H) : FnG P w K mg base CX (k + 1) f fd ps sp := by
  obtain ⟨oc, od, kV, doc, pm, an, cdv, ct, osl, rfl, lk, hcd⟩ := F.ex
  constructor
  · exact len
  intro A outer s H args us vs Q E hr hG e0 hbi rv hsp
  have KX : K.In s.heap := e0.mod.kin.keeps fun b o z => (e0.bs b o z).1
  have lim : s.heap.NoLimit := e0.mod.nolimit.keeps fun b o z => (e0.bs b o z).1
  apply codeAny_call_function hr.depth (KX _ _ lk) rfl S.co S.gen rfl (PySem.W.codeRec_of KX hcd)
  apply hbi
  apply wpAny_newFunctionEnv_cells S.kind
  · rintro ⟨y, u⟩ hy
    rcases S.par y (List.of_mem_zip hy).1 with q | q
    · exact Or.inl q
    · exact Or.inr ⟨q, PySem.W.cellsFrom_some _ _ _ (Or.inl q)⟩
  intro env he s1 hx
  subst he
  refine ⟨lim.keeps hx.toInCall.keep, codeAny_func ?_⟩
  obtain ⟨t, ht, hq⟩ := hb cdv A outer s H vs Q E (hr.deeper _) hG hsp
  have I0 := inv_start (E := E) (CX := CX) S hr.hd e0 (len _ _ _ _ hsp) rv hx
  apply wpAny_mono (ht.run [] s1 _ H _ I0 hq)
  · intro fl s2 h2
    cases fl with
    | ret u =>
      obtain ⟨z, τ, H2, J, r2, q2⟩ := h2
      exact ⟨z, H2, J.os, J.bare, J.base, J.hok, r2, q2⟩
    | next =>
      obtain ⟨τ, H2, J, q2⟩ := h2
      exact ⟨V.non, H2, J.os, J.bare, J.base, J.hok, rfl, q2⟩
    | brk =>
      obtain ⟨_, _, _, q2⟩ := h2
      exact q2.elim
    | cont =>
      obtain ⟨_, _, _, q2⟩ := h2
      exact q2.elim
  · exact fun e s2 h2 => h2
end
section
variable {X : Cx} {CX : CXT} {k : Nat} {f C : Addr} {fd : FuncData} {ps ks : List Str} {sp : Sp} {dvs : List V} {ds : List Value} {E : XK} {x m : Str} {p pos apos kpos : Pos} {e o : Expr} {es : List Expr} {ta te : TE} {t tk : TA} {kws : List Keyword}
  {pins : List (Addr × Obj)} {σ : L2.St} {H : Hp} {s : Shared} {Q : VK} {us ws : List Value} {vs zs : List V}
theorem after_go (I : Inv X pins σ H s) (hx : Passes CX X E) {r : Result} {s' : Shared} (h : CR CX X.stack X.prog X.w H s Q E r s') :
    (match r with | .ok (.ret u) => EP X pins σ Q u s' | .ok _ => False | .error e => X.xe e s') := by
  cases r with
  | error e => exact hx pins σ H s e s' I h
  | ok fl =>
    cases fl with
    | ret u => exact I.after h
    | next => exact h
    | brk => exact h
    | cont => exact h
theorem run_G (F : FnG X.prog X.w X.K X.mg X.base CX k f fd ps sp) (hr : Room k X.A) (hG : X.A.guards = some []) (hb : Binds X.K fd ps ds) (hd : Vals dvs ds) (hx : Passes CX X E)
    (I : Inv X pins σ H s) (r : Vals vs us) (h : sp (vs ++ dvs) H Q E) : wpAny (model X.prog X.w) X.A (call (.ref f) us) (EP X pins σ Q) X.xe s := by
  have r2 := r.append hd
  have hl := F.len _ _ _ _ h
  rw [r2.length] at hl
  apply wpAny_call
  refine codeAny_mono (F.go X.A X.stack s H ⟨us, []⟩ _ _ Q E hr hG I.env0 (hb s us I.kIn hl) r2 h) ?_
  intro r s' h'
  have z := after_go I hx h'
  cases r with
  | error e => exact z
  | ok fl =>
    cases fl with
    | ret u => exact z
    | next => exact z.elim
    | brk => exact z.elim
    | cont => exact z.elim
theorem pe_callG (F : FnG X.prog X.w X.K X.mg X.base CX k f fd ps sp) (hr : Room k X.A) (hG : X.A.guards = some []) (hg : Gl X x) (hm : X.mg x = some (.ref f)) (hk : PySem.W.keepIn X.K (.ref f) = true) (hb : Binds X.K fd ps ds) (hd : Vals dvs ds) (hx : Passes CX X E)
    (ha : PA X (e :: es) t) (hdb : (x == ("__debug__" : Str)) = false := by decide) (he : starEach (e :: es) X.env = (false, eval e X.env) :: starEach es X.env := by rfl) (hpl : (backTo pos (starEach es X.env)).any (·.1) = false := by rfl) :
    PE X (.Call (.Name x p) (e :: es) [] pos) (tCall sp dvs E t) := by
  constructor
  intro pins s σ H Q I h
  apply wpAny_Call_Name_kw (ld_glob I hg hm ?_ hdb)
  apply PySem.W.callWith_K (h₀ := X.base) I.ok.mod.kin hk ?_ he hpl
  apply thn (ha.run pos pins s σ H _ I h)
  rintro us s1 ⟨vs, H1, I1, r1, q1⟩
  exact ⟨I1.kIn, run_G F hr hG hb hd hx I1 r1 q1⟩
theorem pe_callG0 (F : FnG X.prog X.w X.K X.mg X.base CX k f fd ps sp) (hr : Room k X.A) (hG : X.A.guards = some []) (hg : Gl X x) (hm : X.mg x = some (.ref f)) (hk : PySem.W.keepIn X.K (.ref f) = true) (hb : Binds X.K fd ps ds) (hd : Vals dvs ds) (hx : Passes CX X E)
    (hdb : (x == ("__debug__" : Str)) = false := by decide) : PE X (.Call (.Name x p) [] [] pos) (tCall sp dvs E tNil) := by
  constructor
  intro pins s σ H Q I h
  apply wpAny_Call_Name_kw (ld_glob I hg hm ?_ hdb)
  exact PySem.W.callWith_K0 I.kIn hk (run_G (us := []) F hr hG hb hd hx I .nil h)
variable {g : List Value → List Value → List Value} {gV : List V → List V → List V} {nn : Nat}
theorem run_GK (F : FnG X.prog X.w X.K X.mg X.base CX k f fd ps sp) (hr : Room k X.A) (hG : X.A.guards = some []) (hb : KBn X.K fd ps nn ks g gV) (hx : Passes CX X E)
    (I : Inv X pins σ H s) (r : Vals vs us) (rz : Vals zs ws) (l1 : vs.length = nn) (l2 : zs.length = ks.length) (h : sp (gV vs zs) H Q E) : wpAny (model X.prog X.w) X.A (call (.ref f) us (ks.zip ws)) (EP X pins σ Q) X.xe s := by
  have r2 := hb.rel r rz
  apply wpAny_call
  refine codeAny_mono (F.go X.A X.stack s H ⟨us, ks.zip ws⟩ _ _ Q E hr hG I.env0 (hb.to s us ws I.kIn (by rw [← r.length]; exact l1) (by rw [← rz.length]; exact l2)) r2 h) ?_
  intro r s' h'
  have z := after_go I hx h'
  cases r with
  | error e => exact z
  | ok fl =>
    cases fl with
    | ret u => exact z
    | next => exact z.elim
    | brk => exact z.elim
    | cont => exact z.elim
/-- f(e, .., k = v, ..): nn by place, mm by keyword -/
def tCallM (nn mm : Nat) (sp : Sp) (gV : List V → List V → List V) (E : XK) (t tk : TA) : TE := fun σ H Q => t σ H fun vs H1 => tk σ H1 fun zs H2 => vs.length = nn ∧ zs.length = mm ∧ sp (gV vs zs) H2 Q E
theorem pe_callGK (F : FnG X.prog X.w X.K X.mg X.base CX k f fd ps sp) (hr : Room k X.A) (hG : X.A.guards = some []) (hg : Gl X x) (hm : X.mg x = some (.ref f)) (hk : PySem.W.keepIn X.K (.ref f) = true) (hb : KBn X.K fd ps nn ks g gV) (hx : Passes CX X E)
    (ha : PA X (e :: es) t) (hkw : PK X kws tk) (hall : (backToKw pos (keywordEach kws X.env)).all (·.1.isSome) = true := by rfl) (hks : (backToKw pos (keywordEach kws X.env)).filterMap (·.1) = ks := by rfl)
    (hdb : (x == ("__debug__" : Str)) = false := by decide) (he : starEach (e :: es) X.env = (false, eval e X.env) :: starEach es X.env := by rfl)
    (hpl : ((backTo pos (starEach (e :: es) X.env)).any (·.1) || (backToKw pos (keywordEach kws X.env)).any (·.1.isNone)) = false := by rfl) :
    PE X (.Call (.Name x p) (e :: es) kws pos) (tCallM nn ks.length sp gV E t tk) := by
  constructor
  intro pins s σ H Q I h
  apply wpAny_Call_Name_kw (ld_glob I hg hm ?_ hdb)
  apply PySem.W.callWith_KW (h₀ := X.base) I.ok.mod.kin hk hall ?_ hpl he
  apply thn (ha.run pos pins s σ H _ I h)
  rintro us s1 ⟨vs, H1, I1, r1, q1⟩
  apply thn (hkw.run pos pins s1 σ H1 _ I1 q1)
  rintro ws s2 ⟨zs, H2, I2, rz, l1, l2, q2⟩
  refine ⟨I2.kIn, ?_⟩
  rw [hks]
  exact run_GK F hr hG hb hx I2 r1 rz l1 l2 q2
theorem pe_callGK0 (F : FnG X.prog X.w X.K X.mg X.base CX k f fd ps sp) (hr : Room k X.A) (hG : X.A.guards = some []) (hg : Gl X x) (hm : X.mg x = some (.ref f)) (hk : PySem.W.keepIn X.K (.ref f) = true) (hb : KBn X.K fd ps 0 ks g gV) (hx : Passes CX X E)
    (hkw : PK X kws tk) (hall : (backToKw pos (keywordEach kws X.env)).all (·.1.isSome) = true := by rfl) (hks : (backToKw pos (keywordEach kws X.env)).filterMap (·.1) = ks := by rfl)
    (hdb : (x == ("__debug__" : Str)) = false := by decide)
    (hpl : ((backTo pos (starEach [] X.env)).any (·.1) || (backToKw pos (keywordEach kws X.env)).any (·.1.isNone)) = false := by rfl) :
    PE X (.Call (.Name x p) [] kws pos) (tCallM 0 ks.length sp gV E tNil tk) := by
  constructor
  intro pins s σ H Q I h
  apply wpAny_Call_Name_kw (ld_glob I hg hm ?_ hdb)
  apply PySem.W.callWith_KW0 (h₀ := X.base) I.ok.mod.kin hk hall ?_ hpl
  apply thn (hkw.run pos pins s σ H _ I h)
  rintro ws s2 ⟨zs, H2, I2, rz, l1, l2, q2⟩
  refine ⟨I2.kIn, ?_⟩
  rw [hks]
  exact run_GK (us := []) F hr hG hb hx I2 .nil rz l1 l2 q2
end
/-! ### repr of data -/
def rRepr (K : Fg) : List V → Hp → VK → Prop := fun xs H Q => ∃ a d, xs = [.ref a] ∧ Dp K H (.ref a) d ∧ d.showable = true ∧ d.hasDict = false ∧ d.depth ≤ 60 ∧ d.shown.length ≤ sizeLine ∧ Q (.str d.shown) H
theorem cr_repr {X : Cx} (hG : X.A.guards = some []) (hu : X.A.units + 64 < cLine) : CallR X (.builtin "repr") (rRepr X.K) := by
  intro pins s σ H xs us Q I r h
  obtain ⟨a, d, rfl, hd, h1, h2, h3, h4, q⟩ := h
  obtain ⟨u, rfl, ru⟩ := vals1 r
  obtain ⟨as, hr⟩ := hd.reads I d _ u ru
  cases ru
  refine repr_of_reads' hr h1 (fun z => by rw [h2] at z; cases z) hG (by omega) (fun b o z => z) (fun h' t tk hk => ?_) h4
  exact ⟨.str d.shown, H, I.kept (t' := tk) hk, ⟨t, rfl⟩, q⟩
def showOk (d : PyData) : Prop := d.showable = true ∧ d.hasDict = false ∧ d.depth ≤ 60 ∧ d.shown.length ≤ sizeLine
theorem cw_reprL {K : Fg} {ds : List DV} {k : DV → Prop} (hp : isPy (.lst ds) = true) (hs : showOk (py (.lst ds))) (q : k (.str (py (.lst ds)).shown)) : CW K (rRepr K) [.lst ds] k := fun Z pn As H0 M H σ Γ O n S vs r Q c => by
  obtain ⟨u, rfl, h1⟩ := r.one
  obtain ⟨a, us, rfl, g1, g2⟩ := id h1.lst'
  exact ⟨a, _, rfl, h1.dp S.ex hp, hs.1, hs.2.1, hs.2.2.1, hs.2.2.2, c _ M H _ (Evl.Ex.refl M) S (.str _) q⟩
theorem cw_reprT {K : Fg} {ds : List DV} {k : DV → Prop} (hp : isPy (.tup ds) = true) (hs : showOk (py (.tup ds))) (q : k (.str (py (.tup ds)).shown)) : CW K (rRepr K) [.tup ds] k := fun Z pn As H0 M H σ Γ O n S vs r Q c => by
  obtain ⟨u, rfl, h1⟩ := r.one
  obtain ⟨a, us, rfl, g1, g2⟩ := id h1.tup'
  exact ⟨a, _, rfl, h1.dp S.ex hp, hs.1, hs.2.1, hs.2.2.1, hs.2.2.2, c _ M H _ (Evl.Ex.refl M) S (.str _) q⟩
/-! ### the law's own call -/
theorem lawG {P : Program} {w : World} {K : Fg} {mg mb : Str → Option Value} {CX : CXT} {k : Nat} {fa a : Addr} {fd : FuncData} {x : Str} {sp : Sp} {z : Shared} {us : List Value} {ns : List Int}
    (KX : K.In z.heap) (hns : z.heap.Ns mainGlobals mg) (hb : z.heap.Ns builtinsNs mb) (hbb : ∀ x : Str, x ≠ "__name__" → mb x = bootBuiltins x) (hlim : z.heap.NoLimit) (hgen : z.gens = #[])
    (ha : z.heap.get? a = some { cls := .type "list", data := .seq us.toArray }) (hi : IntsAre us ns) (hl : ns.length ≤ sizeLine) (hr : Room k callerA)
    (F : ∀ base : Heap, K.In base → base.Ns mainGlobals mg → FnG P w K mg base CX k fa fd [x] sp) (hbind : ∀ (s : Shared) (u : Value), BindsTo s fd ⟨[u], []⟩ [(x, u)])
    (hsp : ∀ H : Hp, Only H → SqL K H a (ns.map V.int) → sp [.ref a] H (fun v _ => v = .bl true) fun _ _ _ => False)
    (hCX : ∀ H e s', CX [] H z (fun _ _ _ => False) e s' → False) :
    codeAny (model P w) callerA (.call (.ref fa) ⟨[.ref a], []⟩) (fun r s' => r = .ok (.ret (.bool true)) ∧ OldK z.heap s'.heap ∧ s'.os = z.os ∧ AllBare s'.gens) z := by
  have lenV := hi.length
  have main : ∀ H : Hp, Only H → SqL K H a (ns.map V.int) → HOk P w H z.heap → (∀ b, H b ≠ none → b = a) → (H a ≠ none → K.lookup a = none) →
      codeAny (model P w) callerA (.call (.ref fa) ⟨[.ref a], []⟩) (fun r s' => r = .ok (.ret (.bool true)) ∧ OldK z.heap s'.heap ∧ s'.os = z.os ∧ AllBare s'.gens) z := by
    intro H hO hS hok hA hK
    have noD : ∀ {b : Addr} {o : Obj} {es : Array DictEntry} {ep : Nat}, z.heap.get? b = some o → o.data = .dict es ep → H b = none := by
      intro b o es ep e d
      cases q : H b with
      | none => rfl
      | some u =>
        exfalso
        have eb := hA b (by rw [q]; exact fun y => nomatch y)
        rw [eb, ha] at e
        cases e
        cases d
    have nsK : ∀ {b : Addr} {m : Str → Option Value}, z.heap.Ns b m → (hidT z.heap H).Ns b m := by
      rintro b m ⟨o, es, ep, e, d, r⟩
      exact ⟨o, es, ep, hidT_get e (noD e d), d, r⟩
    have hKb : K.In (hidT z.heap H) := by
      intro b o e
      refine hidT_get (KX b o e) ?_
      cases q : H b with
      | none => rfl
      | some u =>
        exfalso
        have eb := hA b (by rw [q]; exact fun y => nomatch y)
        rw [eb] at q e
        rw [hK (by rw [q]; exact fun y => nomatch y)] at e
        cases e
    obtain ⟨mc, l1, l2⟩ := hlim
    have hM : Mod K mg (hidT z.heap H) := ⟨hKb, nsK hns, ⟨mb, nsK hb, hbb⟩, mc, nsK l1, l2⟩
    have e0 : Env0 P w K mg (hidT z.heap H) callerA [] z H := by
      refine ⟨rfl, hM, fun b o e => of_hidT e, Nat.le_of_eq (hidT_size _ _), trivial, ?_, hok, .of_eq hgen⟩
      intro b hb'
      cases hb'
    apply codeAny_mono ((F _ hKb (nsK hns)).go callerA [] z H ⟨[.ref a], []⟩ [.ref a] [.ref a] _ _ hr rfl e0 (hbind z (.ref a)) (.cons rfl .nil) (hsp H hO hS))
    intro r s' h
    cases r with
    | error e => exact (hCX H e s' h).elim
    | ok fl =>
      cases fl with
      | next => exact h.elim
      | brk => exact h.elim
      | cont => exact h.elim
      | ret u =>
        obtain ⟨v, H', os, bare, un, hok', r', q⟩ := h
        have q' : v = .bl true := q
        subst q'
        have hu : u = Value.bool true := r'
        subst hu
        refine ⟨rfl, OldK.of_keep ?_, os, bare⟩
        intro b o e
        cases q : H b with
        | none =>
          refine un.keep b o e q ?_ ?_
          · intro y; cases y
          · intro y; cases y
        | some u =>
          rcases hO b with y | ⟨ob, xs, y⟩
          · rw [q] at y; cases y
          · have t1 := (hok b _ y).1
            have t2 := (hok' b _ (un.frzs b ob _ y)).1
            rw [e] at t1
            cases t1
            exact t2
  by_cases hk : ∃ o, K.lookup a = some o
  · obtain ⟨o, hk⟩ := hk
    have e := KX a o hk
    rw [ha] at e
    cases e
    apply main (fun _ => none)
    · exact fun _ => .inl rfl
    · exact .inr ⟨_, us.toArray, _, hk, rfl, rfl, rfl, by rw [List.size_toArray, lenV]; exact hl, by simpa using vals_ints hi⟩
    · intro b u y; cases y
    · intro b y; exact absurd rfl y
    · intro y; exact absurd rfl y
  · have hk' : K.lookup a = none := by
      cases e : K.lookup a with
      | none => rfl
      | some o => exact absurd ⟨o, e⟩ hk
    let Hs : Hp := fun b => if b = a then some (.frz { cls := .type "list", data := .seq us.toArray } (.lst (ns.map V.int))) else none
    have at_a : Hs a = some (.frz { cls := .type "list", data := .seq us.toArray } (.lst (ns.map V.int))) := if_pos rfl
    have off : ∀ b, b ≠ a → Hs b = none := fun b hb => if_neg hb
    apply main Hs
    · intro b
      by_cases hb : b = a
      · subst hb; exact .inr ⟨_, _, at_a⟩
      · exact .inl (off b hb)
    · exact .inl (.inr ⟨_, at_a⟩)
    · intro b u y
      by_cases hb : b = a
      · subst hb
        rw [at_a] at y
        cases y
        exact ⟨ha, by rw [List.length_map]; exact hl, us, _, vals_ints hi, ha⟩
      · rw [off b hb] at y; cases y
    · intro b y
      by_cases hb : b = a
      · exact hb
      · exact absurd (off b hb) y
    · exact fun _ => hk'
theorem walkG {l : PySem.W.OpenLaw} {n k : Nat} {q : Program} {loose : List Str} {XP : (Str → Option Value) → Heap → Prop} {YP : World → Heap → Prop} {d : DefRec} {K : Params → Fg} {CX : CXT} {sp : Fg → Sp} {x : Str}
    (hn : l.most = some n) (hn2 : n ≤ sizeLine) (hdf : d.params.defaults = []) (hr : Room k callerA) (hY : ∀ (w : World) (h : Heap), YP w h → (K w.params).In h)
    (F : ∀ (w : World) (mg : Str → Option Value) (fa : Addr) (h : Heap), (K w.params).In h → h.Ns mainGlobals mg → mg d.name = some (.ref fa) →
      ∃ fd : FuncData, (∀ (s : Shared) (u : Value), BindsTo s fd ⟨[u], []⟩ [(x, u)]) ∧ ∀ base : Heap, (K w.params).In base → base.Ns mainGlobals mg → FnG l.prog w (K w.params) mg base CX k fa fd [x] (sp (K w.params)))
    (hsp : ∀ (K : Fg) (H : Hp) (a : Addr) (ns : List Int), ns.length ≤ n → Only H → SqL K H a (ns.map V.int) → sp K [.ref a] H (fun v _ => v = .bl true) fun _ _ _ => False)
    (hCX : ∀ (H : Hp) (s : Shared) (e : Value) (s' : Shared), CX [] H s (fun _ _ _ => False) e s' → False) :
    PySem.W.WalkO q loose XP YP l.row.toRowW d [] (fun f vs => PySem.call f vs) := by
  apply Att.attach_call hn hdf
  intro w s₀ s₁ mg mb fa o pm cd doc a vs ns G Y ho hd hcd hmg hobj hints hlen hg
  have KX := hY w _ Y
  obtain ⟨fd, hb, hF⟩ := F w mg fa _ KX G.T.g hmg
  exact lawG KX G.T.g G.T.b G.T.builtins G.T.nolimit hg hobj hints (Nat.le_trans hlen hn2) hr hF hb (fun H hO hS => hsp _ H a ns hlen hO hS) fun H e s' => hCX H s₁ e s'
end DL
namespace DL
open PySem PySem.Spec PyProof.Rows L2
variable [Tn]
/-! promises over data -/
/-- what is not frozen is not frozen behind it -/
def Thaw (M H M' : Hp) : Prop := ∀ b, H b ≠ none → M b = none → M' b = none
/-- data in, data out; nothing that stood is changed -/
def spD (K : Fg) {α : Type} (pre : α → Prop) (args : α → List DV) (res : α → DV → Prop) : Sp := fun vs H Q _ => ∃ (M : Hp) (a : α), pre a ∧ Ex M H ∧ Tb M H ∧ RpL K M vs (args a) ∧
  ∀ v M' H' d, Ex M M' → Gr none H H' → Ex M' H' → Tb M' H' → Thaw M H M' → Rp K M' v d → res a d → Q v H'
/-- the same with the pen ahead: it turns, at most cost times -/
def spP (K : Fg) {α : Type} (pre : α → Prop) (args : α → List DV) (cost : α → Nat) (res : α → DV → Prop) : Sp := fun vs H Q _ => ∃ (p : Addr) (us : List V) (M : Hp) (n : Nat) (a : α), pre a ∧ vs = .ref p :: us ∧ Ex M H ∧ Tb M H ∧ M p = none ∧ PenAt K M H p n ∧ n + cost a ≤ 1000000 ∧ RpL K M us (args a) ∧
  ∀ v M' H' d, Ex M M' → Gr (some p) H H' → Ex M' H' → Tb M' H' → Thaw M H M' → PenAt K M' H' p (n + cost a) → Rp K M' v d → res a d → Q v H'
/-- errors told: what stands of one -/
def Tld (K : Fg) (M H : Hp) (d : Addr) (ns : List Str) (ds : List DV) : Prop := ∃ fs : List (Str × V), H d = some (.xd fs) ∧ fs.map (·.1) = ns ∧ RpL K M (fs.map (·.2)) ds
/-- data in; data out or an own error -/
def spX (K : Fg) {α : Type} (pre : α → Prop) (args : α → List DV) (res : α → DV → Prop) (err : α → Addr → List Str → List DV → Prop) : Sp := fun vs H Q E => ∃ (M : Hp) (a : α), pre a ∧ Ex M H ∧ Tb M H ∧ RpL K M vs (args a) ∧
  (∀ v M' H' d, Ex M M' → Gr none H H' → Ex M' H' → Tb M' H' → Thaw M H M' → Rp K M' v d → res a d → Q v H') ∧
  ∀ M' H' C ns ds d, Ex M M' → Gr none H H' → Ex M' H' → Tb M' H' → Thaw M H M' → H d = none → Tld K M' H' d ns ds → err a C ns ds → E (.ref C) (some d) H'
/-- the same with the pen ahead -/
def spPX (K : Fg) {α : Type} (pre : α → Prop) (args : α → List DV) (cost : α → Nat) (res : α → DV → Prop) (err : α → Addr → List Str → List DV → Prop) : Sp := fun vs H Q E => ∃ (p : Addr) (us : List V) (M : Hp) (n : Nat) (a : α), pre a ∧ vs = .ref p :: us ∧ Ex M H ∧ Tb M H ∧ M p = none ∧ PenAt K M H p n ∧ n + cost a ≤ 1000000 ∧ RpL K M us (args a) ∧
  (∀ v M' H' d, Ex M M' → Gr (some p) H H' → Ex M' H' → Tb M' H' → Thaw M H M' → PenAt K M' H' p (n + cost a) → Rp K M' v d → res a d → Q v H') ∧
  ∀ M' H' C ns ds d, Ex M M' → Gr (some p) H H' → Ex M' H' → Tb M' H' → Thaw M H M' → PenAt K M' H' p (n + cost a) → H d = none → Tld K M' H' d ns ds → err a C ns ds → E (.ref C) (some d) H'
def slotsD (N : List Str) (ds : List DV) : List SA := ds.map .is ++ List.replicate (N.length - ds.length) .no
def slotsP (N : List Str) (ds : List DV) : List SA := .pen :: ds.map .is ++ List.replicate (N.length - ds.length - 1) .no
section
variable {K : Fg} {Z : Xt} {α : Type} {pre : α → Prop} {args : α → List DV} {cost : α → Nat} {res : α → DV → Prop} {N : List Str} {vs : List V} {H M : Hp} {Q : VK} {E : XK} {t : TS}
theorem slots_ok {pn : Option Addr} {As : List Addr} : ∀ {ds : List DV} {us : List V} (r : RpL K M us ds) (m : Nat) (i : Nat) (s : SA), (ds.map SA.is ++ List.replicate m SA.no)[i]? = some s → SlotOk K pn As M s ((us.map some ++ List.replicate m none)[i]?.join)
  | [], _, r, m, i, s, h => by
    cases r
    simp only [List.map_nil, List.nil_append] at h
    rw [List.getElem?_replicate] at h
    split at h
    · cases h; exact True.intro
    · cases h
  | d :: ds, _, r, m, 0, s, h => by
    cases r with
    | cons a b =>
      simp at h
      subst h
      exact ⟨_, rfl, a⟩
  | d :: ds, _, r, m, i + 1, s, h => by
    cases r with
    | cons a b =>
      simp only [List.map_cons, List.cons_append, List.getElem?_cons_succ] at h ⊢
      exact slots_ok b m i s h
theorem enter (e : Ex M H) (tb : Tb M H) (r : RpL K M vs ds) (xo : XOk K Z none ⟨H, fun a => H a ≠ none ∧ M a = none, M⟩) : Sta K Z none [] ⟨H, fun a => H a ≠ none ∧ M a = none, M⟩ M H (L2.start N vs) (slotsD N ds) [] 0 := by
  refine ⟨⟨e, Gr.refl, tb, fun p hp => nomatch hp⟩, fun j a ds h => by simp at h, fun a h => by simp at h, fun a h => ⟨h.2, h.1, h.1⟩, List.nodup_nil, rfl, ?_, fun i s h => ?_, Evl.Ex.refl M, xo⟩
  · unfold L2.start slotsD
    simp [r.length]
  · unfold L2.start slotsD at *
    rw [r.length]
    exact slots_ok r _ i s h
theorem xok_no {E : XK} {pn : Option Addr} {H0 : Ent} : XOk K ⟨E, fun _ _ _ _ => False⟩ pn H0 := fun _ _ _ _ _ _ _ _ _ _ _ _ _ _ _ z => z.elim
theorem body_D (h : spD K pre args res vs H Q E) (hw : ∀ Z a, pre a → WS K Z t (slotsD N (args a)) [] 0 { nx := fun _ _ _ => res a .non, rt := fun d _ _ => res a d }) :
    t { nx := fun _ H' => Q .non H', rt := Q } (L2.start N vs) H := by
  obtain ⟨M, a, hp, e, tb, r, c⟩ := h
  refine hw ⟨E, fun _ _ _ _ => False⟩ a hp none [] ⟨H, fun a => H a ≠ none ∧ M a = none, M⟩ M H (L2.start N vs) _ (enter e tb r xok_no) ⟨?_, ?_, ?_, ?_⟩
  · intro As M' H' σ Γ O n _ e1 S q
    exact c .non M' H' .non e1 S.gr S.ex S.tb (fun b h1 h2 => (S.pr b ⟨h1, h2⟩).1) .non q
  · intro As v M' H' σ Γ O d n _ e1 S r1 q
    exact c v M' H' d e1 S.gr S.ex S.tb (fun b h1 h2 => (S.pr b ⟨h1, h2⟩).1) r1 q
  · intro As M' H' σ Γ O n _ e1 S q
    exact q
  · intro As M' H' σ Γ O n _ e1 S q
    exact q
/-- of a def that may raise -/
theorem body_X {err : α → Addr → List Str → List DV → Prop} (h : spX K pre args res err vs H Q E) (hw : ∀ a, pre a → WS K ⟨E, fun C ns ds _ => err a C ns ds⟩ t (slotsD N (args a)) [] 0 { nx := fun _ _ _ => res a .non, rt := fun d _ _ => res a d }) :
    t { nx := fun _ H' => Q .non H', rt := Q } (L2.start N vs) H := by
  obtain ⟨M, a, hp, e, tb, r, c, cx⟩ := h
  have xo : XOk K ⟨E, fun C ns ds _ => err a C ns ds⟩ none ⟨H, fun a => H a ≠ none ∧ M a = none, M⟩ := fun M' H' n' C ns ds d fs em f ht h0 h1 h2 h3 h4 =>
    cx M' H' C ns ds d em f.gr f.ex f.tb (fun b g1 g2 => ht b ⟨g1, g2⟩) h0 ⟨fs, h1, h2, h3⟩ h4
  refine hw a hp none [] ⟨H, fun a => H a ≠ none ∧ M a = none, M⟩ M H (L2.start N vs) _ (enter e tb r xo) ⟨?_, ?_, ?_, ?_⟩
  · intro As M' H' σ Γ O n _ e1 S q
    exact c .non M' H' .non e1 S.gr S.ex S.tb (fun b h1 h2 => (S.pr b ⟨h1, h2⟩).1) .non q
  · intro As v M' H' σ Γ O d n _ e1 S r1 q
    exact c v M' H' d e1 S.gr S.ex S.tb (fun b h1 h2 => (S.pr b ⟨h1, h2⟩).1) r1 q
  · intro As M' H' σ Γ O n _ e1 S q
    exact q
  · intro As M' H' σ Γ O n _ e1 S q
    exact q
theorem enterP {p : Addr} {n : Nat} (e : Ex M H) (tb : Tb M H) (hp : M p = none) (pen : PenAt K M H p n) (r : RpL K M vs ds) (xo : XOk K Z (some p) ⟨H, fun a => H a ≠ none ∧ M a = none, M⟩) : Sta K Z (some p) [] ⟨H, fun a => H a ≠ none ∧ M a = none, M⟩ M H (L2.start N (.ref p :: vs)) (slotsP N ds) [] n := by
  refine ⟨⟨e, Gr.refl, tb, fun q hq => by cases hq; exact ⟨hp, pen⟩⟩, fun j a ds h => by simp at h, fun a h => by simp at h, fun a h => ⟨h.2, h.1, h.1⟩, List.nodup_nil, rfl, ?_, fun i s h => ?_, Evl.Ex.refl M, xo⟩
  · unfold L2.start slotsP
    simp [r.length]
    omega
  · unfold L2.start
    cases i with
    | zero =>
      simp [slotsP] at h
      subst h
      exact ⟨p, rfl, rfl⟩
    | succ i =>
      have h' : (ds.map SA.is ++ List.replicate (N.length - ds.length - 1) SA.no)[i]? = some s := h
      have q := slots_ok (pn := some p) (As := []) r (N.length - ds.length - 1) i s h'
      have e0 : N.length - (V.ref p :: vs).length = N.length - ds.length - 1 := by simp [r.length]; omega
      rw [e0]
      exact q
theorem body_P (h : spP K pre args cost res vs H Q E) (hw : ∀ Z a n, pre a → n + cost a ≤ 1000000 → WS K Z t (slotsP N (args a)) [] n { nx := fun _ _ m => m ≤ n + cost a ∧ res a .non, rt := fun d _ m => m ≤ n + cost a ∧ res a d }) :
    t { nx := fun _ H' => Q .non H', rt := Q } (L2.start N vs) H := by
  obtain ⟨p, us, M, n, a, hpre, rfl, e, tb, hp, pen, hn, r, c⟩ := h
  refine hw ⟨E, fun _ _ _ _ => False⟩ a n hpre hn (some p) [] ⟨H, fun a => H a ≠ none ∧ M a = none, M⟩ M H (L2.start N (.ref p :: us)) _ (enterP e tb hp pen r xok_no) ⟨?_, ?_, ?_, ?_⟩
  · intro As M' H' σ Γ O m _ e1 S q
    exact c .non M' H' .non e1 S.gr S.ex S.tb (fun b h1 h2 => (S.pr b ⟨h1, h2⟩).1) ((S.pen p rfl).2.mono (Evl.Ex.refl _) rfl q.1) .non q.2
  · intro As v M' H' σ Γ O d m _ e1 S r1 q
    exact c v M' H' d e1 S.gr S.ex S.tb (fun b h1 h2 => (S.pr b ⟨h1, h2⟩).1) ((S.pen p rfl).2.mono (Evl.Ex.refl _) rfl q.1) r1 q.2
  · intro As M' H' σ Γ O m _ e1 S q
    exact q
  · intro As M' H' σ Γ O m _ e1 S q
    exact q
theorem body_PX {err : α → Addr → List Str → List DV → Prop} (h : spPX K pre args cost res err vs H Q E) (hw : ∀ a n, pre a → n + cost a ≤ 1000000 → WS K ⟨E, fun C ns ds m => m ≤ n + cost a ∧ err a C ns ds⟩ t (slotsP N (args a)) [] n { nx := fun _ _ m => m ≤ n + cost a ∧ res a .non, rt := fun d _ m => m ≤ n + cost a ∧ res a d }) :
    t { nx := fun _ H' => Q .non H', rt := Q } (L2.start N vs) H := by
  obtain ⟨p, us, M, n, a, hpre, rfl, e, tb, hp, pen, hn, r, c, cx⟩ := h
  have xo : XOk K ⟨E, fun C ns ds m => m ≤ n + cost a ∧ err a C ns ds⟩ (some p) ⟨H, fun a => H a ≠ none ∧ M a = none, M⟩ := fun M' H' n' C ns ds d fs em f ht h0 h1 h2 h3 h4 =>
    cx M' H' C ns ds d em f.gr f.ex f.tb (fun b g1 g2 => ht b ⟨g1, g2⟩) ((f.pen p rfl).2.mono (Evl.Ex.refl _) rfl h4.1) h0 ⟨fs, h1, h2, h3⟩ h4.2
  refine hw a n hpre hn (some p) [] ⟨H, fun a => H a ≠ none ∧ M a = none, M⟩ M H (L2.start N (.ref p :: us)) _ (enterP e tb hp pen r xo) ⟨?_, ?_, ?_, ?_⟩
  · intro As M' H' σ Γ O m _ e1 S q
    exact c .non M' H' .non e1 S.gr S.ex S.tb (fun b h1 h2 => (S.pr b ⟨h1, h2⟩).1) ((S.pen p rfl).2.mono (Evl.Ex.refl _) rfl q.1) .non q.2
  · intro As v M' H' σ Γ O d m _ e1 S r1 q
    exact c v M' H' d e1 S.gr S.ex S.tb (fun b h1 h2 => (S.pr b ⟨h1, h2⟩).1) ((S.pen p rfl).2.mono (Evl.Ex.refl _) rfl q.1) r1 q.2
  · intro As M' H' σ Γ O m _ e1 S q
    exact q
  · intro As M' H' σ Γ O m _ e1 S q
    exact q
end
section
variable {K : Fg} {Z : Xt} {α : Type} {pre : α → Prop} {args : α → List DV} {cost : α → Nat} {res : α → DV → Prop} {E : XK} {Γ : List SA} {O : Own} {n : Nat} {ta tr tk : TA} {k : DV → Nat → Prop}
/-- a call is over: what it leaves -/
theorem Sta.called {pn : Option Addr} {As : List Addr} {H0 : Ent} {M1 H1 M' H' : Hp} {σ : L2.St} {n1 : Nat} (S1 : Sta K Z pn As H0 M1 H1 σ Γ O n1) (e2 : Ex M1 M') (eh : Gr none H1 H') (ex : Ex M' H') (tb : Tb M' H') (th : Thaw M1 H1 M') : Sta K Z pn As H0 M' H' σ Γ O n1 := by
  refine ⟨⟨ex, S1.gr.trans eh.weak, tb, fun p hp => ?_⟩, fun j b fs g1 g2 => ?_, fun b hb => eh.live b (S1.live b hb), fun b hb => ?_, S1.nd, S1.len, S1.sl, fun i s g => (S1.ok i s g).mono e2, Evl.Ex.trans S1.em e2, S1.xo⟩
  · obtain ⟨g1, g2⟩ := S1.pen p hp
    have g3 : H1 p ≠ none := by
      obtain ⟨_, _, _, _, g3, _⟩ := g2
      rw [g3]; exact fun z => nomatch z
    refine ⟨th p g3 g1, g2.mono e2 ?_ (Nat.le_refl _)⟩
    obtain ⟨_, _, _, _, g4, _⟩ := g2
    rw [g4]; exact eh.ext p _ (fun z => nomatch z) g4 nt_lst
  · obtain ⟨g3, g4, g5, g6⟩ := S1.own j b fs g1 g2
    obtain ⟨u, g7, g8⟩ := g6.obj
    exact ⟨th b g6.live g3, g4, g5, g6.mono e2 (by rw [g7]; exact eh.ext b _ (fun z => nomatch z) g7 g8)⟩
  · obtain ⟨g1, g2, g3⟩ := S1.pr b hb
    exact ⟨th b g2 g1, eh.live b g2, g3⟩
theorem Sta.calledP {pn : Option Addr} {As : List Addr} {H0 : Ent} {M1 H1 M' H' : Hp} {σ : L2.St} {n1 m : Nat} {p : Addr} (hpn : pn = some p) (S1 : Sta K Z pn As H0 M1 H1 σ Γ O n1) (e2 : Ex M1 M') (eh : Gr (some p) H1 H') (ex : Ex M' H') (tb : Tb M' H') (th : Thaw M1 H1 M') (pen : PenAt K M' H' p m) : Sta K Z pn As H0 M' H' σ Γ O m := by
  obtain ⟨g1, g2⟩ := S1.pen p hpn
  have pl : H1 p ≠ none := by
    obtain ⟨_, _, _, _, g3, _⟩ := g2
    rw [g3]; exact fun z => nomatch z
  rw [← hpn] at eh
  refine ⟨⟨ex, S1.gr.trans eh, tb, fun p' hp' => ?_⟩, fun j b fs f1 f2 => ?_, fun b hb => eh.live b (S1.live b hb), fun b hb => ?_, S1.nd, S1.len, S1.sl, fun i s g => (S1.ok i s g).mono e2, Evl.Ex.trans S1.em e2, S1.xo⟩
  · rw [hpn] at hp'; cases hp'
    exact ⟨th p pl g1, pen⟩
  · obtain ⟨f3, f4, f5, f6⟩ := S1.own j b fs f1 f2
    obtain ⟨u, f7, f8⟩ := f6.obj
    exact ⟨th b f6.live f3, f4, f5, f6.mono e2 (by rw [f7]; exact eh.ext b _ f5 f7 f8)⟩
  · obtain ⟨f1, f2, f3⟩ := S1.pr b hb
    exact ⟨th b f2 f1, eh.live b f2, f3⟩
/-- an error goes on -/
theorem Sta.err {pn : Option Addr} {As : List Addr} {H0 : Ent} {M1 H1 : Hp} {σ : L2.St} {n1 : Nat} {C d : Addr} {ns : List Str} {ds : List DV} (S : Sta K Z pn As H0 M1 H1 σ Γ O n1) (h0 : H0.h d = none) (t : Tld K M1 H1 d ns ds) (h : Z.k C ns ds n1) : Z.E (.ref C) (some d) H1 := by
  obtain ⟨fs, h1, h2, h3⟩ := t
  exact S.xo M1 H1 n1 C ns ds d fs S.em S.toFin (fun a g => (S.pr a g).1) h0 h1 h2 h3 h
theorem runs_D {pn : Option Addr} {As : List Addr} {H0 : Ent} {M1 H1 : Hp} {σ : L2.St} {n1 : Nat} {vs : List V} {a : α} {Q : VK} (S1 : Sta K Z pn As H0 M1 H1 σ Γ O n1) (r1 : RpL K M1 vs (args a)) (hpre : pre a)
    (c : ∀ v M' H' d, Ex M1 M' → Sta K Z pn As H0 M' H' σ Γ O n1 → Rp K M' v d → res a d → Q v H') : spD K pre args res vs H1 Q E :=
  ⟨M1, a, hpre, S1.ex, S1.tb, r1, fun v M' H' d e2 eh ex tb th rv hd => c v M' H' d e2 (S1.called e2 eh ex tb th) rv hd⟩
theorem runs_X {err : α → Addr → List Str → List DV → Prop} {pn : Option Addr} {As : List Addr} {H0 : Ent} {M1 H1 : Hp} {σ : L2.St} {n1 : Nat} {vs : List V} {a : α} {Q : VK} (S1 : Sta K Z pn As H0 M1 H1 σ Γ O n1) (r1 : RpL K M1 vs (args a)) (hpre : pre a)
    (hx : ∀ C ns ds, err a C ns ds → Z.k C ns ds n1) (c : ∀ v M' H' d, Ex M1 M' → Sta K Z pn As H0 M' H' σ Γ O n1 → Rp K M' v d → res a d → Q v H') : spX K pre args res err vs H1 Q Z.E :=
  ⟨M1, a, hpre, S1.ex, S1.tb, r1, fun v M' H' d e2 eh ex tb th rv hd => c v M' H' d e2 (S1.called e2 eh ex tb th) rv hd, fun M' H' C ns ds d e2 eh ex tb th hd t he => (S1.called e2 eh ex tb th).err (S1.gr.back hd) t (hx C ns ds he)⟩
theorem w_call (h : WA K Z ta Γ O n fun ds n1 => ∃ a, ds = args a ∧ pre a ∧ ∀ d, res a d → k d n1) : W K Z (tCall (spD K pre args res) [] E ta) Γ O n k := fun pn As H0 M H σ S Q c =>
  h pn As H0 M H σ S _ fun vs M1 H1 ds n1 e1 S1 r1 ⟨a, ea, hpre, q⟩ => by
    subst ea
    rw [List.append_nil]
    exact runs_D S1 r1 hpre fun v M' H' d e2 S2 rv hd => c v M' H' d n1 (Evl.Ex.trans e1 e2) S2 rv (q d hd)
/-- a call of what may raise -/
theorem w_callX {err : α → Addr → List Str → List DV → Prop} (h : WA K Z ta Γ O n fun ds n1 => ∃ a, ds = args a ∧ pre a ∧ (∀ C ns es, err a C ns es → Z.k C ns es n1) ∧ ∀ d, res a d → k d n1) : W K Z (tCall (spX K pre args res err) [] Z.E ta) Γ O n k := fun pn As H0 M H σ S Q c =>
  h pn As H0 M H σ S _ fun vs M1 H1 ds n1 e1 S1 r1 ⟨a, ea, hpre, hx, q⟩ => by
    subst ea
    rw [List.append_nil]
    exact runs_X S1 r1 hpre hx fun v M' H' d e2 S2 rv hd => c v M' H' d n1 (Evl.Ex.trans e1 e2) S2 rv (q d hd)
theorem w_callP {i : Nat} (hi : Γ[i]? = some .pen) (h : WA K Z tr Γ O n fun ds n1 => ∃ a, ds = args a ∧ pre a ∧ n1 + cost a ≤ 1000000 ∧ ∀ d, res a d → k d (n1 + cost a)) : W K Z (tCall (spP K pre args cost res) [] E (tCons (tVar i) tr)) Γ O n k := fun pn As H0 M H σ S Q c => by
  obtain ⟨p, h1, hpn⟩ := S.slotPen hi
  refine ⟨_, h1, h pn As H0 M H σ S _ fun vs M1 H1 ds n1 e1 S1 r1 ⟨a, ea, hpre, hn, q⟩ => ?_⟩
  subst ea
  obtain ⟨g1, g2⟩ := S1.pen p hpn
  exact ⟨p, vs, M1, n1, a, hpre, by rw [List.append_nil], S1.ex, S1.tb, g1, g2, hn, r1, fun v M' H' d e2 eh ex tb th pen rv hd => c v M' H' d (n1 + cost a) (Evl.Ex.trans e1 e2) (S1.calledP hpn e2 eh ex tb th pen) rv (q d hd)⟩
theorem w_callPX {err : α → Addr → List Str → List DV → Prop} {i : Nat} (hi : Γ[i]? = some .pen) (h : WA K Z tr Γ O n fun ds n1 => ∃ a, ds = args a ∧ pre a ∧ n1 + cost a ≤ 1000000 ∧ (∀ C ns es, err a C ns es → Z.k C ns es (n1 + cost a)) ∧ ∀ d, res a d → k d (n1 + cost a)) : W K Z (tCall (spPX K pre args cost res err) [] Z.E (tCons (tVar i) tr)) Γ O n k := fun pn As H0 M H σ S Q c => by
  obtain ⟨p, h1, hpn⟩ := S.slotPen hi
  refine ⟨_, h1, h pn As H0 M H σ S _ fun vs M1 H1 ds n1 e1 S1 r1 ⟨a, ea, hpre, hn, hx, q⟩ => ?_⟩
  subst ea
  obtain ⟨g1, g2⟩ := S1.pen p hpn
  exact ⟨p, vs, M1, n1, a, hpre, by rw [List.append_nil], S1.ex, S1.tb, g1, g2, hn, r1, fun v M' H' d e2 eh ex tb th pen rv hd => c v M' H' d (n1 + cost a) (Evl.Ex.trans e1 e2) (S1.calledP hpn e2 eh ex tb th pen) rv (q d hd), fun M' H' C ns ds d e2 eh ex tb th pen hd t he => (S1.calledP hpn e2 eh ex tb th pen).err (S1.gr.back hd) t (hx C ns ds he)⟩
/-- a call with keywords: gD puts the data in order as gV the values -/
theorem w_callK {nn mm : Nat} {gV : List V → List V → List V} (gD : List DV → List DV → List DV) (hg : ∀ M vs zs ds es, RpL K M vs ds → RpL K M zs es → ds.length = nn → es.length = mm → RpL K M (gV vs zs) (gD ds es))
    (h : WA K Z ta Γ O n fun ds n1 => WA K Z tk Γ O n1 fun es n2 => ds.length = nn ∧ es.length = mm ∧ ∃ a, gD ds es = args a ∧ pre a ∧ ∀ d, res a d → k d n2) : W K Z (tCallM nn mm (spD K pre args res) gV E ta tk) Γ O n k := by
  intro pn As H0 M H σ S Q c
  refine h pn As H0 M H σ S _ fun vs M1 H1 ds n1 e1 S1 r1 q1 => q1 pn As H0 M1 H1 σ S1 _ fun zs M2 H2 es n2 e2 S2 r2 ⟨l1, l2, a, ea, hpre, q⟩ => ⟨by rw [r1.length]; exact l1, by rw [r2.length]; exact l2, ?_⟩
  have r := hg M2 vs zs ds es (r1.mono e2) r2 l1 l2
  rw [ea] at r
  exact runs_D S2 r hpre fun v M' H' d e3 S3 rv hd => c v M' H' d n2 (Evl.Ex.trans (Evl.Ex.trans e1 e2) e3) S3 rv (q d hd)
theorem w_callKX {err : α → Addr → List Str → List DV → Prop} {nn mm : Nat} {gV : List V → List V → List V} (gD : List DV → List DV → List DV) (hg : ∀ M vs zs ds es, RpL K M vs ds → RpL K M zs es → ds.length = nn → es.length = mm → RpL K M (gV vs zs) (gD ds es))
    (h : WA K Z ta Γ O n fun ds n1 => WA K Z tk Γ O n1 fun es n2 => ds.length = nn ∧ es.length = mm ∧ ∃ a, gD ds es = args a ∧ pre a ∧ (∀ C ns es, err a C ns es → Z.k C ns es n2) ∧ ∀ d, res a d → k d n2) : W K Z (tCallM nn mm (spX K pre args res err) gV Z.E ta tk) Γ O n k := by
  intro pn As H0 M H σ S Q c
  refine h pn As H0 M H σ S _ fun vs M1 H1 ds n1 e1 S1 r1 q1 => q1 pn As H0 M1 H1 σ S1 _ fun zs M2 H2 es n2 e2 S2 r2 ⟨l1, l2, a, ea, hpre, hx, q⟩ => ⟨by rw [r1.length]; exact l1, by rw [r2.length]; exact l2, ?_⟩
  have r := hg M2 vs zs ds es (r1.mono e2) r2 l1 l2
  rw [ea] at r
  exact runs_X S2 r hpre hx fun v M' H' d e3 S3 rv hd => c v M' H' d n2 (Evl.Ex.trans (Evl.Ex.trans e1 e2) e3) S3 rv (q d hd)
end
end DL
namespace DL
open PySem PySem.Spec PyProof.Rows L2
variable [Tn]
/-! a def of the text: where it stands, and what it promises -/
structure At (K : Fg) (mg : Str → Option Value) (x : Str) (st : Stmt) (ps : List Str) : Prop where
  ex : ∃ f fd, Fun K x x st f fd ∧ mg x = some (.ref f) ∧ Binds K fd ps []
structure Has (P : Program) (w : World) (K : Fg) (mg : Str → Option Value) (base : Heap) (k : Nat) (x : Str) (st : Stmt) (ps : List Str) (sp : Sp) : Prop where
  ex : ∃ f fd, Fun K x x st f fd ∧ mg x = some (.ref f) ∧ Binds K fd ps [] ∧ FnG P w K mg base CX0 k f fd ps sp
section
variable {P : Program} {w : World} {K : Fg} {mg : Str → Option Value} {base : Heap} {x : Str} {st : Stmt} {ps N : List Str} {sp : Sp} {k : Nat}
theorem At.has (A : At K mg x st ps) (S : FnScope N ps (defScope st)) (len : ∀ vs H Q E, sp vs H Q E → vs.length = ps.length)
    (hb : ∀ (f : Addr) (cdv : Value) (A : Around) (outer : List Env) (s : Shared) (H : Hp) (vs : List V) (Q : VK) (E : XK), Room k (A.deeper (envOfC x (defScope st) s.heap.objs.size f cdv)) → A.guards = some [] → sp vs H Q E →
      ∃ t, PSs (cxOf CX0 P w K mg base N x (defScope st) f cdv A outer s H E).nox (defBody st) t ∧ t { nx := fun _ H' => Q .non H', rt := Q } (L2.start N vs) H) : Has P w K mg base (k + 1) x st ps sp := by
  obtain ⟨f, fd, F, hm, bi⟩ := A.ex
  refine ⟨f, fd, F, hm, bi, fnG_fun F S len fun cdv A outer s H vs Q E hr hG h => ?_⟩
  obtain ⟨t, h1, h2⟩ := hb f cdv A outer s H vs Q E hr hG h
  exact ⟨t, h1.nox, h2⟩
theorem Has.mono {j : Nat} (h : Has P w K mg base j x st ps sp) (hj : j ≤ k) : Has P w K mg base k x st ps sp := by
  obtain ⟨f, fd, F, hm, bi, G⟩ := h.ex
  exact ⟨f, fd, F, hm, bi, G.mono hj⟩
end
section
variable {X : Cx} {x : Str} {st : Stmt} {ps ks : List Str} {sp : Sp} {j k : Nat} {p pos : Pos} {e : Expr} {es : List Expr} {t tk : TA} {kws : List Keyword}
theorem pe_callH (h : Has X.prog X.w X.K X.mg X.base j x st ps sp) (hr : Room k X.A) (hj : j ≤ k) (hG : X.A.guards = some []) (ha : PA X (e :: es) t) (hg : Gl X x := by rfl)
    (hdb : (x == ("__debug__" : Str)) = false := by decide) (he : starEach (e :: es) X.env = (false, eval e X.env) :: starEach es X.env := by rfl) (hpl : (backTo pos (starEach es X.env)).any (·.1) = false := by rfl) :
    PE X (.Call (.Name x p) (e :: es) [] pos) (tCall sp [] E0 t) := by
  obtain ⟨f, fd, F, hm, bi, G⟩ := h.ex
  exact pe_callG G (hr.mono hj) hG hg hm F.kp bi .nil pass0 ha hdb he hpl
theorem pe_callH0 (h : Has X.prog X.w X.K X.mg X.base j x st ps sp) (hr : Room k X.A) (hj : j ≤ k) (hG : X.A.guards = some []) (hg : Gl X x := by rfl)
    (hdb : (x == ("__debug__" : Str)) = false := by decide) : PE X (.Call (.Name x p) [] [] pos) (tCall sp [] E0 tNil) := by
  obtain ⟨f, fd, F, hm, bi, G⟩ := h.ex
  exact pe_callG0 G (hr.mono hj) hG hg hm F.kp bi .nil pass0 hdb
/-- how keywords bind, for every function object of the text -/
def KwOk (x : Str) (st : Stmt) (ps : List Str) (nn : Nat) (ks : List Str) (g : List Value → List Value → List Value) : Prop :=
  ∀ (kV doc pm : Value) (an : Option Addr) (cdv ct : Value) (us ws : List Value), us.length = nn → ws.length = ks.length →
    bindArgs (PySem.W.fnOf x x (defArgs st) (defBody st) (defScope st) .none kV doc pm an cdv ct) ⟨us, ks.zip ws⟩ = pure (ps.zip (g us ws))
theorem KwOk.kbn {K : Fg} {f : Addr} {fd : FuncData} {nn : Nat} {g : List Value → List Value → List Value} {gV : List V → List V → List V} (F : Fun K x x st f fd) (h : KwOk x st ps nn ks g)
    (rel : ∀ {vs : List V} {us : List Value} {zs : List V} {ws : List Value}, Vals vs us → Vals zs ws → Vals (gV vs zs) (g us ws)) : KBn K fd ps nn ks g gV := by
  obtain ⟨oc, od, kV, doc, pm, an, cdv, ct, osl, rfl, lk, hcd⟩ := F.ex
  exact ⟨fun s us ws _ l1 l2 => .of_eq (h kV doc pm an cdv ct us ws l1 l2), rel⟩
theorem pe_callHK {nn : Nat} {g : List Value → List Value → List Value} {gV : List V → List V → List V} (h : Has X.prog X.w X.K X.mg X.base j x st ps sp) (kw : KwOk x st ps nn ks g)
    (rel : ∀ {vs : List V} {us : List Value} {zs : List V} {ws : List Value}, Vals vs us → Vals zs ws → Vals (gV vs zs) (g us ws)) (hr : Room k X.A) (hj : j ≤ k) (hG : X.A.guards = some []) (ha : PA X (e :: es) t) (hkw : PK X kws tk)
    (hg : Gl X x := by rfl) (hall : (backToKw pos (keywordEach kws X.env)).all (·.1.isSome) = true := by rfl) (hks : (backToKw pos (keywordEach kws X.env)).filterMap (·.1) = ks := by rfl)
    (hdb : (x == ("__debug__" : Str)) = false := by decide) (he : starEach (e :: es) X.env = (false, eval e X.env) :: starEach es X.env := by rfl)
    (hpl : ((backTo pos (starEach (e :: es) X.env)).any (·.1) || (backToKw pos (keywordEach kws X.env)).any (·.1.isNone)) = false := by rfl) :
    PE X (.Call (.Name x p) (e :: es) kws pos) (tCallM nn ks.length sp gV E0 t tk) := by
  obtain ⟨f, fd, F, hm, bi, G⟩ := h.ex
  exact pe_callGK G (hr.mono hj) hG hg hm F.kp (kw.kbn F rel) pass0 ha hkw hall hks hdb he hpl
theorem pe_callHK0 {g : List Value → List Value → List Value} {gV : List V → List V → List V} (h : Has X.prog X.w X.K X.mg X.base j x st ps sp) (kw : KwOk x st ps 0 ks g)
    (rel : ∀ {vs : List V} {us : List Value} {zs : List V} {ws : List Value}, Vals vs us → Vals zs ws → Vals (gV vs zs) (g us ws)) (hr : Room k X.A) (hj : j ≤ k) (hG : X.A.guards = some []) (hkw : PK X kws tk)
    (hg : Gl X x := by rfl) (hall : (backToKw pos (keywordEach kws X.env)).all (·.1.isSome) = true := by rfl) (hks : (backToKw pos (keywordEach kws X.env)).filterMap (·.1) = ks := by rfl)
    (hdb : (x == ("__debug__" : Str)) = false := by decide)
    (hpl : ((backTo pos (starEach [] X.env)).any (·.1) || (backToKw pos (keywordEach kws X.env)).any (·.1.isNone)) = false := by rfl) :
    PE X (.Call (.Name x p) [] kws pos) (tCallM 0 ks.length sp gV E0 tNil tk) := by
  obtain ⟨f, fd, F, hm, bi, G⟩ := h.ex
  exact pe_callGK0 G (hr.mono hj) hG hg hm F.kp (kw.kbn F rel) pass0 hkw hall hks hdb hpl
/-- permutations of what is handed in: places among us ++ ws -/
def perm {α : Type} (ix : List Nat) (us ws : List α) : List α := ix.filterMap fun i => (us ++ ws)[i]?
theorem perm_rel (ix : List Nat) {vs : List V} {us : List Value} {zs : List V} {ws : List Value} (h1 : Vals vs us) (h2 : Vals zs ws) : Vals (perm ix vs zs) (perm ix us ws) := by
  have h := h1.append h2
  unfold perm
  induction ix with
  | nil => exact .nil
  | cons i ix ih =>
    rw [List.filterMap_cons, List.filterMap_cons]
    cases e : (vs ++ zs)[i]? with
    | none =>
      rw [h.none_of e]
      exact ih
    | some v =>
      obtain ⟨u, hu, r⟩ := h.get e
      rw [hu]
      exact .cons r ih
theorem perm_rp {K : Fg} {M : Hp} (ix : List Nat) {vs zs : List V} {ds es : List DV} (h1 : RpL K M vs ds) (h2 : RpL K M zs es) : RpL K M (perm ix vs zs) (perm ix ds es) := by
  have h := h1.append h2
  unfold perm
  induction ix with
  | nil => exact .nil
  | cons i ix ih =>
    rw [List.filterMap_cons, List.filterMap_cons]
    cases e : (vs ++ zs)[i]? with
    | none =>
      have e2 : (ds ++ es)[i]? = none := by
        rw [List.getElem?_eq_none_iff] at e ⊢
        rw [← h.length]; exact e
      rw [e2]
      exact ih
    | some v =>
      obtain ⟨u, hu, r⟩ := h.get e
      rw [hu]
      exact .cons r ih
/-- a test by truth -/
theorem pt_tru {a : Expr} {ta : TE} (ha : PE X a ta) (he : ∀ whole, isTrue a X.env whole = (do let v ← whole; standAt a.pos; holding [v] (truthy v)) := by intro _; rfl) : PT X a (tTru X.K ta) := pt_truth ha he
end
end DL
namespace DL
open PySem PySem.Spec PyProof.Rows L2
variable [Tn]
section
variable {K : Fg} {Z : Xt} {pn : Option Addr} {As : List Addr} {H0 : Ent} {M M' H H' : Hp} {σ : L2.St} {Γ : List SA} {O : Own} {n m : Nat} {te ta tb : TE} {x y : DV} {E : KE}
theorem ow_isB {i j : Bool} {k : DV → Prop} (q : k (.bl (decide (i = j)))) : OW K rIsB (.bl i) (.bl j) k := fun Z pn As H0 M H σ Γ O n S v w rv rw Q c => by
  cases rv; cases rw
  exact ⟨i, j, rfl, rfl, c _ M H _ (Evl.Ex.refl M) S (.bl _) q⟩
theorem ow_notB {i j : Bool} {k : DV → Prop} (q : k (.bl (!decide (i = j)))) : OW K rNotB (.bl i) (.bl j) k := fun Z pn As H0 M H σ Γ O n S v w rv rw Q c => by
  cases rv; cases rw
  exact ⟨i, j, rfl, rfl, c _ M H _ (Evl.Ex.refl M) S (.bl _) q⟩
theorem RpL.reverse : ∀ {ds : List DV} {vs : List V}, RpL K M vs ds → RpL K M vs.reverse ds.reverse
  | [], _, h => by cases h; exact .nil
  | d :: ds, _, h => by
    cases h with
    | cons a b =>
      rw [List.reverse_cons, List.reverse_cons]
      exact (RpL.reverse b).append (.cons a .nil)
theorem wl_rev {k : List DV → Nat → Prop} (h : W K Z te Γ O n fun d n1 => ∃ ds, d = .lst ds ∧ k ds.reverse n1) : WL K Z (tRevL K te) Γ O n k := fun pn As H0 M H σ S Q c =>
  h pn As H0 M H σ S _ fun v M1 H1 d n1 e1 S1 r1 ⟨ds, e, q⟩ => by
    subst e
    obtain ⟨a, vs, rfl, g1, g2⟩ := r1.lst'
    exact ⟨a, vs, rfl, .inl (.inl (S1.ex _ _ g1)), fun p hp => wl_new S1 hp g2.reverse (fun p vs M4 H4 ds n4 e4 => c p vs M4 H4 ds n4 (Evl.Ex.trans e1 e4)) q⟩
theorem w_dnew {k : DV → Nat → Prop} (q : k (.dic [] []) n) : W K Z tDNewK Γ O n k := fun pn As H0 M H σ S Q c => fun p hp => by
  obtain ⟨ex, S2⟩ := S.alloc (o := .dK []) hp
  exact c _ _ _ _ n ex S2 (.dic upd_same rfl .nil) q
theorem wl_lst {ta : TA} {k : List DV → Nat → Prop} (h : WA K Z ta Γ O n fun xs n1 => xs.length ≤ 100000 ∧ k xs n1) : WL K Z (tLst ta) Γ O n k := fun pn As H0 M H σ S Q c =>
  h pn As H0 M H σ S _ fun vs M1 H1 xs n1 e1 S1 r1 ⟨hl, q1⟩ => ⟨Evl.sz_of (by rw [r1.length]; exact hl), fun p hp =>
    wl_new S1 hp r1 (fun p vs M4 H4 ds n4 e4 => c p vs M4 H4 ds n4 (Evl.Ex.trans e1 e4)) q1⟩
/-! lists and tuples put together -/
theorem owl_new {Q : VK} {k : List DV → Prop} {vs : List V} {ds : List DV} (S : Sta K Z pn As H0 M H σ Γ O n) {p : Addr} (hp : H p = none) (r : RpL K M vs ds)
    (c : ∀ p vs M' H' ds, Ex M M' → Sta K Z pn As H0 M' H' σ Γ O n → M' p = none → H0 p = none → some p ≠ pn → p ∉ As → ¬ H0.P p → H' p = some (.lst vs) → RpL K M' vs ds → k ds → Q (.ref p) H') (q : k ds) : Q (.ref p) (upd H p (.lst vs)) :=
  wl_new (k := fun ds n' => k ds ∧ n' = n) S hp r (fun p vs M4 H4 ds n4 e4 S4 h1 h2 h3 h4 hP h5 h6 ⟨h7, h8⟩ => by subst h8; exact c p vs M4 H4 ds e4 S4 h1 h2 h3 h4 hP h5 h6 h7) ⟨q, rfl⟩
theorem owl_cat {xs ys : List DV} {k : List DV → Prop} (hl : xs.length + ys.length ≤ 100000) (q : k (xs ++ ys)) : OWL K (rPlus K) (.lst xs) (.lst ys) k := fun Z pn As H0 M H σ Γ O n S v w rv rw Q c => by
  obtain ⟨a, vs, rfl, g1, g2⟩ := rv.lst'
  obtain ⟨b, ws, rfl, g3, g4⟩ := rw.lst'
  exact .inr (.inl ⟨a, b, vs, ws, rfl, rfl, S.ex _ _ g1, S.ex _ _ g3, Evl.sz_of (by rw [g2.length, g4.length]; exact hl), fun p hp => owl_new S hp (g2.append g4) c q⟩)
theorem ow_catT {xs ys : List DV} {k : DV → Prop} (hl : xs.length + ys.length ≤ 100000) (q : k (.tup (xs ++ ys))) : OW K (rPlus K) (.tup xs) (.tup ys) k := fun Z pn As H0 M H σ Γ O n S v w rv rw Q c => by
  obtain ⟨a, vs, rfl, g1, g2⟩ := id rv.tup'
  obtain ⟨b, ws, rfl, g3, g4⟩ := id rw.tup'
  refine .inr (.inr ⟨a, b, vs, ws, rfl, rfl, Evl.ex_t S.ex g1, Evl.ex_t S.ex g3, Evl.sz_of (by rw [g2.length, g4.length]; exact hl), fun e => ?_, fun _ e => ?_, fun _ _ p hp => ?_⟩)
  · subst e
    cases g2
    exact c _ M H _ (Evl.Ex.refl M) S rw q
  · subst e
    cases g4
    rw [List.append_nil] at q
    exact c _ M H _ (Evl.Ex.refl M) S rv q
  · obtain ⟨ex, S2⟩ := S.alloc (o := .tup (vs ++ ws)) hp
    exact c _ _ _ _ ex S2 (.tup (.inl (.inl upd_same)) ((g2.append g4).mono ex)) q
theorem RpL.flat {vs : List V} {ds : List DV} (r : RpL K M vs ds) : ∀ m : Nat, RpL K M (List.replicate m vs).flatten (List.replicate m ds).flatten
  | 0 => .nil
  | m + 1 => by
    rw [List.replicate_succ, List.replicate_succ, List.flatten_cons, List.flatten_cons]
    exact r.append (r.flat m)
theorem owl_rep {xs : List DV} {j : Int} {k : List DV → Prop} (h1 : -(2 ^ 63) ≤ j) (h2 : j < 2 ^ 63) (hl : xs.length * j.toNat ≤ 100000) (q : k (List.replicate j.toNat xs).flatten) : OWL K (rTimes K) (.lst xs) (.int j) k := fun Z pn As H0 M H σ Γ O n S v w rv rw Q c => by
  obtain ⟨a, vs, rfl, g1, g2⟩ := rv.lst'
  cases rw
  exact .inr (.inl ⟨a, j, vs, rfl, rfl, S.ex _ _ g1, h1, h2, Evl.sz_of (by rw [g2.length]; exact hl), fun p hp => owl_new S hp (g2.flat _) c q⟩)
theorem wl_w {k : List DV → Nat → Prop} {k' : DV → Nat → Prop} (h : WL K Z te Γ O n k) (hk : ∀ ds n', k ds n' → k' (.lst ds) n') : W K Z te Γ O n k' := w_of_wl fun pn As H0 M H σ S Q c => h pn As H0 M H σ S Q fun p vs M' H' ds n' e1 S1 h1 h2 h3 h4 h5 h6 h7 h8 => c p vs M' H' ds n' e1 S1 h1 h2 h3 h4 h5 h6 h7 (hk ds n' h8)
theorem Sta.keep (S1 : Sta K Z pn As H0 M H σ Γ O n) {p : Addr} {vs : List V} {ds : List DV} (h1 : M p = none) (h3 : some p ≠ pn) (h4 : p ∉ As) (hP : ¬ H0.P p) (h5 : H p = some (.lst vs)) (h6 : RpL K M vs ds) :
    Ex M (upd M p (.lst vs)) ∧ Sta K Z pn As H0 (upd M p (.lst vs)) H σ Γ O n ∧ Rp K (upd M p (.lst vs)) (.ref p) (.lst ds) := by
  have ex : Ex M (upd M p (.lst vs)) := Evl.Ex.new h1
  refine ⟨ex, ⟨⟨fun a u h => ?_, S1.gr, S1.tb.frz h5 nt_lst, fun q hq => ?_⟩, fun j a es g1 g2 => ?_, S1.live, fun a h => ?_, S1.nd, S1.len, S1.sl, fun i t h => (S1.ok i t h).mono ex, Evl.Ex.trans S1.em ex, S1.xo⟩, .lst upd_same (h6.mono ex)⟩
  · by_cases ha : a = p
    · subst ha; rw [upd_same] at h; rw [← h]; exact h5
    · rw [upd_ne ha] at h; exact S1.ex a u h
  · obtain ⟨g1, g2⟩ := S1.pen q hq
    exact ⟨by rw [upd_ne (fun z => h3 (by rw [← z, hq]))]; exact g1, g2.mono ex rfl (Nat.le_refl _)⟩
  · obtain ⟨g3, g4, g5, g6⟩ := S1.own j a es g1 g2
    exact ⟨by rw [upd_ne (fun z => h4 (by rw [← z]; exact List.mem_of_getElem? g1))]; exact g3, g4, g5, g6.mono ex rfl⟩
  · exact ⟨by rw [upd_ne (show a ≠ p from fun z => hP (by rw [← z]; exact h))]; exact (S1.pr a h).1, (S1.pr a h).2⟩
theorem ows {r : R2} {k : DV → Prop} (h : OWL K r x y fun ds => k (.lst ds)) : OW K r x y k := fun Z pn As H0 M H σ Γ O n S v w rv rw Q c =>
  h Z pn As H0 M H σ Γ O n S v w rv rw Q fun p vs M1 H1 ds e1 S1 h1 h2 h3 h4 hP h5 h6 q => by
    obtain ⟨ex, S2, r2⟩ := S1.keep h1 h3 h4 hP h5 h6
    exact c (.ref p) _ H1 (.lst ds) (Evl.Ex.trans e1 ex) S2 r2 q
theorem cws {r : List V → Hp → VK → Prop} {xs : List DV} {k : DV → Prop} (h : CWL K r xs fun ds => k (.lst ds)) : CW K r xs k := fun Z pn As H0 M H σ Γ O n S us rv Q c =>
  h Z pn As H0 M H σ Γ O n S us rv Q fun p vs M1 H1 ds e1 S1 h1 h2 h3 h4 hP h5 h6 q => by
    obtain ⟨ex, S2, r2⟩ := S1.keep h1 h3 h4 hP h5 h6
    exact c (.ref p) _ H1 (.lst ds) (Evl.Ex.trans e1 ex) S2 r2 q
/-- three names at once -/
theorem ws_par3 {i j l : Nat} {ta : TA} (h : WA K Z ta Γ O n fun xs n1 => ∃ x y z, xs = [x, y, z] ∧ E.nx (((Γ.set i (.is x)).set j (.is y)).set l (.is z)) O n1) : WS K Z (tPar3 i j l ta) Γ O n E := fun pn As H0 M H σ D S s =>
  h pn As H0 M H σ S _ fun vs M1 H1 xs n1 e1 S1 r1 ⟨x, y, z, e, q⟩ => by
    subst e
    cases r1 with
    | cons a b =>
      obtain ⟨u, w, rfl, r, r'⟩ := b.two
      exact ⟨_, u, w, rfl, s.nx As M1 H1 _ _ O n1 (List.prefix_refl _) e1 (((S1.store a).store r).store r') q⟩
/-! isinstance -/
def rIsA (K : Fg) : List V → Hp → VK → Prop := fun xs H Q => rIsi K xs H Q ∨ rIsiT K xs H Q
theorem cr_isA {X : Cx} : CallR X (.builtin "isinstance") (rIsA X.K) := call_isi.or call_isiT
/-- the built-in type of data -/
def tyD : DV → Option String
  | .non => some "NoneType"
  | .bl _ => some "bool"
  | .int _ => some "int"
  | .str _ => some "str"
  | .tup _ => some "tuple"
  | .lst _ => some "list"
  | .dic _ _ => some "dict"
  | _ => none
theorem Rp.tyX {v : V} {t : String} (r : Rp K M v x) (e : Ex M H) (h : tyD x = some t) : TyX K H v (.type t) := by
  cases r with
  | non => cases h; exact .base .non
  | bl b => cases h; exact .base (.bl b)
  | int i => cases h; exact .base (.int i)
  | str i => cases h; exact .base (.str i)
  | ty i => cases h
  | adr i => cases h
  | tup a b =>
    cases h
    rcases a with (a | ⟨o, a⟩) | ⟨o, its, n', hk, hc, _⟩
    · exact .base (.tup (e _ _ a))
    · exact .fTuple (e _ _ a)
    · exact .kTuple hk hc
  | lst a b => cases h; exact .base (.lst (e _ _ a))
  | ins a b c => cases h
  | exc a b c f => cases h
  | exc2 a b c f => cases h
  | dic a b c => cases h; exact .base (.dK (e _ _ a))
theorem cw_isTy {t c : String} {b : Bool} {k : DV → Prop} (ht : tyD x = some t) (hk : kitB t c = some b) (q : k (.bl b)) : CW K (rIsA K) [x, .ty c] k := fun Z pn As H0 M H σ Γ O n S vs r Q cc => by
  obtain ⟨u, w, rfl, h1, h2⟩ := r.two
  cases h2
  exact .inl ⟨u, .ty c, _, _, b, rfl, .ty c, h1.tyX S.ex ht, kit_ty hk, cc _ M H _ (Evl.Ex.refl M) S (.bl b) q⟩
def kitL (t : String) : List String → Option Bool
  | [] => some false
  | c :: cs => match kitB t c with
    | some true => some true
    | some false => kitL t cs
    | none => none
theorem kitL_any {t : String} : ∀ {cs : List String} {b : Bool}, kitL t cs = some b → PySem.W.kitAny K (.type t) (cs.map Value.type) = some b
  | [], b, h => by
    cases h
    exact kitAny_nil
  | c :: cs, b, h => by
    unfold kitL at h
    cases e : kitB t c with
    | none => rw [e] at h; cases h
    | some d =>
      rw [e] at h
      cases d with
      | true =>
        cases h
        exact kitAny_cons (kit_ty e) (fun z => nomatch z) fun _ => rfl
      | false => exact kitAny_cons (kit_ty e) (fun _ => kitL_any h) fun z => nomatch z
theorem clsL : ∀ {cs : List String} {vs : List V}, RpL K M vs (cs.map DV.ty) → Paired ClsV vs (cs.map Value.type)
  | [], _, h => by cases h; exact .nil
  | c :: cs, _, h => by
    cases h with
    | cons a b => cases a; exact .cons (.ty c) (clsL b)
theorem w_isT2 {c1 c2 : String} {k : DV → Nat → Prop} (h : W K Z te Γ O n fun d n1 => ∃ t b, tyD d = some t ∧ kitL t [c1, c2] = some b ∧ k (.bl b) n1) :
    W K Z (tCB (rIsA K) (tCons te (tCons (tTup (tCons (tC (.ty c1)) (tCons (tC (.ty c2)) tNil))) tNil))) Γ O n k := fun pn As H0 M H σ S Q c =>
  h pn As H0 M H σ S _ fun v M1 H1 d n1 e1 S1 r1 ⟨t, b, ht, hb, q⟩ => ⟨by show 2 ≤ sizeLine; decide, fun p hp => by
    obtain ⟨ex, S2⟩ := S1.alloc (o := .tup [.ty c1, .ty c2]) hp
    exact .inr ⟨v, p, _, _, _, b, rfl, upd_same, clsL (K := K) (M := M1) (cs := [c1, c2]) (.cons (.ty c1) (.cons (.ty c2) .nil)), (r1.mono ex).tyX S2.ex ht, kitL_any hb, c _ _ _ _ n1 (Evl.Ex.trans e1 ex) S2 (.bl b) q⟩⟩
end
section
variable {X : Cx} {e : Expr} {es : List Expr} {t : TA} {p pos : Pos}
theorem pe_sumA (hm : X.mg "sum" = none) (ha : PA X (e :: es) t) (hc : X.calm = true := by rfl) (hg : Gl X "sum" := by rfl) (he : starEach (e :: es) X.env = (false, eval e X.env) :: starEach es X.env := by rfl) (hpl : (backTo pos (starEach es X.env)).any (·.1) = false := by rfl) :
    PE X (.Call (.Name "sum" p) (e :: es) [] pos) (tCB (rSum X.K) t) := pe_callB (cr_sum hc) hg hm (by decide +kernel) ha (by decide) (by decide) he hpl
theorem pe_allA (hm : X.mg "all" = none) (ha : PA X (e :: es) t) (hc : X.calm = true := by rfl) (hg : Gl X "all" := by rfl) (he : starEach (e :: es) X.env = (false, eval e X.env) :: starEach es X.env := by rfl) (hpl : (backTo pos (starEach es X.env)).any (·.1) = false := by rfl) :
    PE X (.Call (.Name "all" p) (e :: es) [] pos) (tCB (rAll X.K) t) := pe_callB (cr_all hc) hg hm (by decide +kernel) ha (by decide) (by decide) he hpl
theorem pe_anyA (hm : X.mg "any" = none) (ha : PA X (e :: es) t) (hc : X.calm = true := by rfl) (hg : Gl X "any" := by rfl) (he : starEach (e :: es) X.env = (false, eval e X.env) :: starEach es X.env := by rfl) (hpl : (backTo pos (starEach es X.env)).any (·.1) = false := by rfl) :
    PE X (.Call (.Name "any" p) (e :: es) [] pos) (tCB (rAny X.K) t) := pe_callB (cr_any hc) hg hm (by decide +kernel) ha (by decide) (by decide) he hpl
end
end DL
namespace DL
open PySem PySem.Spec PyProof.Rows L2
variable [Tn]
/-! small words for walking -/
theorem br {p : Prop} [Decidable p] {A B : Prop} (h1 : p → A) (h2 : ¬ p → B) : (decide p = true → A) ∧ (decide p = false → B) := ⟨fun h => h1 (of_decide_eq_true h), fun h => h2 (of_decide_eq_false h)⟩
theorem brN {p : Prop} [Decidable p] {A B : Prop} (h1 : ¬ p → A) (h2 : p → B) : ((!decide p) = true → A) ∧ ((!decide p) = false → B) := ⟨fun h => h1 (of_decide_eq_false (by simpa using h)), fun h => h2 (of_decide_eq_true (by simpa using h))⟩
theorem brT {A B : Prop} (h1 : A) : (true = true → A) ∧ (true = false → B) := And.intro (fun _ => h1) (fun h => Bool.noConfusion h)
theorem brF {A B : Prop} (h1 : B) : (false = true → A) ∧ (false = false → B) := And.intro (fun h => Bool.noConfusion h) (fun _ => h1)
theorem mul_ok {i j : Int} {a b : Nat} (ha : i.natAbs < 2 ^ a) (hb : j.natAbs < 2 ^ b) (h0 : 0 < a) (h1 : 0 < b) (h : a + b ≤ 1000000) : IntMulOk i j := (wide_mul ha hb h0 h1 h).ok
theorem mul_okL {i j : Int} (h1 : -(2 ^ 64) < i) (h2 : i < 2 ^ 64) : IntMulOk i j := .of_left (intBits_le_64 h1 h2)
theorem mul_okR {i j : Int} (h1 : -(2 ^ 64) < j) (h2 : j < 2 ^ 64) : IntMulOk i j := .of_right (intBits_le_64 h1 h2)
/-- what stands between two statements, said -/
theorem ws_cut {K : Fg} {Γ : List SA} {O : Own} {n : Nat} {E : KE} {t u : TS} (P : List SA → Own → Nat → Prop) (h : WS K Z t Γ O n { E with nx := P }) (k : ∀ Γ' O' n', P Γ' O' n' → WS K Z u Γ' O' n' E) : WS K Z (tSeq t u) Γ O n E := fun pn As H0 M H σ D S s =>
  h pn As H0 M H σ { D with nx := u D } S ⟨fun As1 M1 H1 σ1 Γ1 O1 n1 p1 e1 S1 q => k _ _ _ q pn As1 H0 M1 H1 σ1 D S1 (s.at p1 e1), s.rt, s.bk, s.ct⟩
theorem ws_mono {K : Fg} {Γ : List SA} {O : Own} {n : Nat} {E E' : KE} {t : TS} (h : WS K Z t Γ O n E') (h1 : ∀ Γ O n, E'.nx Γ O n → E.nx Γ O n) (h2 : ∀ d O n, E'.rt d O n → E.rt d O n) (h3 : ∀ Γ O n, E'.bk Γ O n → E.bk Γ O n) (h4 : ∀ Γ O n, E'.ct Γ O n → E.ct Γ O n) : WS K Z t Γ O n E := fun pn As H0 M H σ D S s =>
  h pn As H0 M H σ D S ⟨fun As1 M1 H1 σ1 Γ1 O1 n1 p1 e1 S1 q => s.nx As1 M1 H1 σ1 Γ1 O1 n1 p1 e1 S1 (h1 _ _ _ q), fun As1 v M1 H1 σ1 Γ1 O1 d n1 p1 e1 S1 r q => s.rt As1 v M1 H1 σ1 Γ1 O1 d n1 p1 e1 S1 r (h2 _ _ _ q),
    fun As1 M1 H1 σ1 Γ1 O1 n1 p1 e1 S1 q => s.bk As1 M1 H1 σ1 Γ1 O1 n1 p1 e1 S1 (h3 _ _ _ q), fun As1 M1 H1 σ1 Γ1 O1 n1 p1 e1 S1 q => s.ct As1 M1 H1 σ1 Γ1 O1 n1 p1 e1 S1 (h4 _ _ _ q)⟩
end DL
/-- one step of an expression, of a test, of arguments -/
local macro_rules | `(tactic| walk_at "dl1") => `(tactic| first
  | with_reducible refine DL.w_int ?_
  | with_reducible refine DL.wa_nil ?_
  | with_reducible refine DL.wa_cons ?_
  | ((with_reducible refine' DL.w_ixOwn ?h ?h2 ?_); (case h => rfl); (case h2 => rfl))
  | ((with_reducible refine' DL.w_lenOwn ?h ?h2 ?_); (case h => rfl); (case h2 => rfl))
  | with_reducible refine DL.w_op ?_
  | ((with_reducible refine' DL.w_var ?h ?_); (case h => rfl))
  | with_reducible refine DL.ow_plusI ?_
  | with_reducible refine DL.ow_minus ?_
  | with_reducible refine DL.ow_gt (Exists.intro _ (And.intro rfl ?_))
  | with_reducible refine DL.ow_lt (Exists.intro _ (And.intro rfl ?_))
  | with_reducible refine DL.ow_ge (Exists.intro _ (And.intro rfl ?_))
  | with_reducible refine DL.ow_le (Exists.intro _ (And.intro rfl ?_))
  | with_reducible refine DL.ow_eqI (Exists.intro _ (And.intro rfl ?_))
  | with_reducible refine DL.ow_neI (Exists.intro _ (And.intro rfl ?_))
  | with_reducible refine DL.ow_gt ?_
  | with_reducible refine DL.ow_lt ?_
  | with_reducible refine DL.ow_ge ?_
  | with_reducible refine DL.ow_le ?_
  | with_reducible refine DL.ow_eqI ?_
  | with_reducible refine DL.ow_neI ?_
  | with_reducible refine DL.w_cb ?_
  | with_reducible refine DL.w_un ?_
  | with_reducible refine DL.uw_neg ?_
  | with_reducible refine DL.cw_gcd ?_
  | with_reducible refine DL.cw_abs ?_
  | with_reducible refine DL.cw_intI ?_
  | with_reducible refine DL.cw_intB ?_
  | with_reducible refine DL.cw_lenL ?_
  | with_reducible refine DL.cw_lenT ?_
  | with_reducible refine DL.wt_test ?_
  | with_reducible refine DL.wt_and ?_
  | with_reducible refine DL.wt_or ?_
  | with_reducible refine DL.wt_not ?_
  | with_reducible refine DL.wt_tru ?_
  | with_reducible refine DL.w_if ?_
  | with_reducible refine DL.w_and ?_
  | with_reducible refine DL.w_or ?_
  | with_reducible refine DL.w_not ?_
  | with_reducible refine DL.w_bl ?_
  | with_reducible refine DL.w_non ?_
  | with_reducible refine DL.w_str ?_
  | with_reducible refine DL.w_ty ?_
  | (with_reducible refine DL.w_tup ?_)
  | ((with_reducible refine' DL.ow_ixT ?h ?_); (case h => rfl))
  | with_reducible refine DL.w_call ?_
  | with_reducible refine DL.w_dnew ?_
  | with_reducible refine DL.ow_isN ?_
  | with_reducible refine DL.ow_notN ?_)
local macro_rules | `(tactic| walk_at "ix") => `(tactic| refine Exists.intro _ (Exists.intro _ (And.intro rfl (And.intro rfl ?_))))
local macro_rules | `(tactic| walk_at "dl") => `(tactic| repeat' walk_at "dl1")
local macro_rules | `(tactic| walk_at "len") => `(tactic| refine And.intro (by simp) ?_)
namespace DL
open PySem PySem.Spec PyProof.Rows L2
variable [Tn]
/-! ### plain data: equality, shape -/
theorem pyL_map {α : Type} (f : α → DV) : ∀ l : List α, pyL (l.map f) = l.map fun x => py (f x)
  | [] => rfl
  | x :: l => by simp only [List.map_cons, pyL, pyL_map f l]
theorem isPyL_map {α : Type} (f : α → DV) : ∀ l : List α, (∀ x ∈ l, isPy (f x) = true) → isPyL (l.map f) = true
  | [], _ => rfl
  | x :: l, h => by simp only [List.map_cons, isPyL, Bool.and_eq_true]; exact ⟨h x (by simp), isPyL_map f l fun y hy => h y (by simp [hy])⟩
theorem canLayAll_map {α : Type} (f : α → PyData) : ∀ l : List α, (∀ x ∈ l, (f x).canLay0 = true) → PyData.canLayAll0 (l.map f) = true
  | [], _ => rfl
  | x :: l, h => by simp only [List.map_cons, PyData.canLayAll0, Bool.and_eq_true]; exact ⟨h x (by simp), canLayAll_map f l fun y hy => h y (by simp [hy])⟩
theorem depthAll_map {α : Type} (f : α → PyData) (m : Nat) : ∀ l : List α, (∀ x ∈ l, (f x).depth ≤ m) → PyData.depthAll (l.map f) ≤ m
  | [], _ => Nat.zero_le _
  | x :: l, h => by
    simp only [List.map_cons, PyData.depthAll]
    exact Nat.max_le.mpr ⟨h x (by simp), depthAll_map f m l fun y hy => h y (by simp [hy])⟩
/-- the same depth at most m, plain through and through -/
structure Pl (m : Nat) (d : DV) : Prop where
  py : isPy d = true
  lay : (DL.py d).canLay0 = true
  dep : (DL.py d).depth ≤ m
theorem Pl.shp {m : Nat} {d : DV} (h : Pl m d) (hm : m ≤ 64 := by decide) : shp d = true := by
  unfold DL.shp SeqAt.shaped
  rw [h.py, h.lay, Bool.true_and, Bool.true_and]
  exact decide_eq_true (Nat.le_trans h.dep hm)
theorem pl_int {m : Nat} (i : Int) : Pl m (.int i) := ⟨rfl, by simp [DL.py, PyData.canLay0], by simp [DL.py, PyData.depth]⟩
theorem pl_bl {m : Nat} (i : Bool) : Pl m (.bl i) := ⟨rfl, by simp [DL.py, PyData.canLay0], by simp [DL.py, PyData.depth]⟩
theorem pl_non {m : Nat} : Pl m .non := ⟨rfl, by simp [DL.py, PyData.canLay0], by simp [DL.py, PyData.depth]⟩
theorem isPyL_all : ∀ ds : List DV, (∀ d ∈ ds, isPy d = true) → isPyL ds = true
  | [], _ => rfl
  | d :: ds, h => by simp only [isPyL, Bool.and_eq_true]; exact ⟨h d (by simp), isPyL_all ds fun y hy => h y (by simp [hy])⟩
theorem canLay_all : ∀ ds : List DV, (∀ d ∈ ds, (DL.py d).canLay0 = true) → PyData.canLayAll0 (pyL ds) = true
  | [], _ => rfl
  | d :: ds, h => by simp only [pyL, PyData.canLayAll0, Bool.and_eq_true]; exact ⟨h d (by simp), canLay_all ds fun y hy => h y (by simp [hy])⟩
theorem depth_all {m : Nat} : ∀ ds : List DV, (∀ d ∈ ds, (DL.py d).depth ≤ m) → PyData.depthAll (pyL ds) ≤ m
  | [], _ => Nat.zero_le _
  | d :: ds, h => by simp only [pyL, PyData.depthAll]; exact Nat.max_le.mpr ⟨h d (by simp), depth_all ds fun y hy => h y (by simp [hy])⟩
theorem pl_lst {m : Nat} {ds : List DV} (h : ∀ d ∈ ds, Pl m d) : Pl (m + 1) (.lst ds) :=
  ⟨by simp only [isPy]; exact isPyL_all ds fun d hd => (h d hd).py, by simp only [DL.py, PyData.canLay0]; exact canLay_all ds fun d hd => (h d hd).lay, by simp only [DL.py, PyData.depth]; exact Nat.succ_le_succ (depth_all ds fun d hd => (h d hd).dep)⟩
theorem pl_tup {m : Nat} {ds : List DV} (h : ∀ d ∈ ds, Pl m d) : Pl (m + 1) (.tup ds) :=
  ⟨by simp only [isPy]; exact isPyL_all ds fun d hd => (h d hd).py, by simp only [DL.py, PyData.canLay0]; exact canLay_all ds fun d hd => (h d hd).lay, by simp only [DL.py, PyData.depth]; exact Nat.succ_le_succ (depth_all ds fun d hd => (h d hd).dep)⟩
theorem pl_ints {m : Nat} (ns : List Int) : Pl (m + 1) (.lst (ns.map DV.int)) := pl_lst fun d hd => by
  obtain ⟨i, _, rfl⟩ := List.mem_map.mp hd
  exact pl_int i
theorem pl_intsT {m : Nat} (ns : List Int) : Pl (m + 1) (.tup (ns.map DV.int)) := pl_tup fun d hd => by
  obtain ⟨i, _, rfl⟩ := List.mem_map.mp hd
  exact pl_int i
/-- data that == tells apart: an encoding -/
theorem eqvAll_map {α : Type} (f : α → DV) (he : ∀ x y, PyData.eqv (DL.py (f x)) (DL.py (f y)) = true ↔ x = y) : ∀ l k : List α, PyData.eqvAll (pyL (l.map f)) (pyL (k.map f)) = true ↔ l = k
  | [], [] => by simp [pyL, PyData.eqvAll]
  | [], y :: k => by simp [pyL, PyData.eqvAll]
  | x :: l, [] => by simp [pyL, PyData.eqvAll]
  | x :: l, y :: k => by
    simp only [List.map_cons, pyL, PyData.eqvAll, Bool.and_eq_true, he, eqvAll_map f he l k, List.cons.injEq]
theorem eqv_int (i j : Int) : PyData.eqv (DL.py (.int i)) (DL.py (.int j)) = true ↔ i = j := by simp [DL.py, PyData.eqv]
theorem eqv_lst {α : Type} (f : α → DV) (he : ∀ x y, PyData.eqv (DL.py (f x)) (DL.py (f y)) = true ↔ x = y) (l k : List α) : PyData.eqv (DL.py (.lst (l.map f))) (DL.py (.lst (k.map f))) = true ↔ l = k := by
  simp only [DL.py, PyData.eqv]; exact eqvAll_map f he l k
theorem eqv_tup {α : Type} (f : α → DV) (he : ∀ x y, PyData.eqv (DL.py (f x)) (DL.py (f y)) = true ↔ x = y) (l k : List α) : PyData.eqv (DL.py (.tup (l.map f))) (DL.py (.tup (k.map f))) = true ↔ l = k := by
  simp only [DL.py, PyData.eqv]; exact eqvAll_map f he l k
theorem eqv_ints (l k : List Int) : PyData.eqv (DL.py (.lst (l.map DV.int))) (DL.py (.lst (k.map DV.int))) = true ↔ l = k := eqv_lst _ eqv_int l k
/-! ### the pen -/
section
variable {K : Fg} {Z : Xt} {N : List Str} {vs : List V} {H : Hp} {Q : VK} {E : XK} {t : TS}
theorem body_own {α : Type} {pre : α → Prop} {args : α → List DV} {cost : α → Nat} {res : α → DV → Prop} (h : spP K pre args cost res vs H Q E)
    (hw : ∀ (Z : Xt) (a : α) (n : Nat) (cells : List Int) (at_ left : Int), pre a → n + cost a ≤ 1000000 → cells.length ≤ 63 → 0 ≤ at_ → at_ ≤ (n : Int) → 0 ≤ left →
      WS K Z t (.own 0 :: (args a).map .is ++ List.replicate (N.length - (args a).length - 1) .no) [some (.l [.lst (cells.map DV.int), .int at_, .int left])] 0
        { nx := fun _ _ _ => False, rt := fun d O _ => (∃ a' l', O = [some (.l [.lst (cells.map DV.int), .int a', .int l'])] ∧ 0 ≤ a' ∧ a' ≤ (n : Int) + (cost a : Int) ∧ 0 ≤ l') ∧ res a d }) :
    t { nx := fun _ H' => Q .non H', rt := Q } (L2.start N vs) H := by
  obtain ⟨p, us, M, n, a, hpre, rfl, e, tb, hp, ⟨ws, cells, at_, left, g1, g2, g3, g4, g5, g6⟩, hn, r, c⟩ := h
  let H0 : Ent := ⟨fun b => if b = p then none else H b, fun b => b ≠ p ∧ H b ≠ none ∧ M b = none, M⟩
  have at_p : H0 p = none := if_pos rfl
  have off : ∀ b, b ≠ p → H0 b = H b := fun b hb => if_neg hb
  have at_e : Ex H0.h H := fun b o h => by
    by_cases hb : b = p
    · subst hb; rw [show H0.h b = none from at_p] at h; cases h
    · rw [show H0.h b = H b from off b hb] at h; exact h
  have st : Sta K ⟨E, fun _ _ _ _ => False⟩ none [p] H0 M H (L2.start N (.ref p :: us)) (.own 0 :: (args a).map .is ++ List.replicate (N.length - (args a).length - 1) .no) [some (.l [.lst (cells.map DV.int), .int at_, .int left])] 0 := by
    refine ⟨⟨e, Gr.of at_e, tb, fun q hq => nomatch hq⟩, fun j b ds h1 h2 => ?_, fun b hb => ?_, fun b hb => ⟨hb.2.2, hb.2.1, by rw [off b hb.1]; exact hb.2.1⟩, by simp, rfl, ?_, fun i s h => ?_, Evl.Ex.refl M, xok_no⟩
    · cases j with
      | zero =>
        simp at h1 h2
        subst h1 h2
        exact ⟨hp, at_p, (fun z => nomatch z), ws, g1, g2⟩
      | succ j => simp at h1
    · simp at hb; subst hb; rw [g1]; exact fun z => nomatch z
    · unfold L2.start
      simp [r.length]
      omega
    · unfold L2.start
      cases i with
      | zero =>
        simp at h
        subst h
        exact ⟨p, rfl, rfl⟩
      | succ i =>
        have h' : ((args a).map SA.is ++ List.replicate (N.length - (args a).length - 1) SA.no)[i]? = some s := h
        have q := slots_ok (pn := none) (As := [p]) r (N.length - (args a).length - 1) i s h'
        have e0 : N.length - (V.ref p :: us).length = N.length - (args a).length - 1 := by simp [r.length]; omega
        rw [e0]
        exact q
  refine hw ⟨E, fun _ _ _ _ => False⟩ a n cells at_ left hpre hn g3 g4 g5 g6 none [p] H0 M H _ _ st ⟨fun _ _ _ _ _ _ _ _ _ _ q => q.elim, ?_, fun _ _ _ _ _ _ _ _ _ _ q => q, fun _ _ _ _ _ _ _ _ _ _ q => q⟩
  intro As v M' H' σ Γ O d m pA e1 S r1 ⟨⟨a', l', eO, k1, k2, k3⟩, q⟩
  subst eO
  obtain ⟨Bs, rfl⟩ := pA
  obtain ⟨f1, f2, f3, ws', f4, f5⟩ := S.own 0 p _ rfl rfl
  refine c v M' H' d e1 (S.gr.unlist off (by rw [f4]; exact fun z => nomatch z)) S.ex S.tb (fun b h1 h2 => ?_) ⟨ws', cells, a', l', f4, f5, g3, k1, by omega, k3⟩ r1 q
  by_cases hb : b = p
  · subst hb; exact f1
  · exact (S.pr b ⟨hb, h1, h2⟩).1
/-- the law's own pen: draw -/
abbrev sp_draw (K : Fg) : Sp := spP K (fun m : Int => 1 ≤ m ∧ m.natAbs < 2 ^ 9000) (fun m => [.int m]) (fun _ => 1) fun m d => ∃ r, d = .int r ∧ 0 ≤ r ∧ r < m
def t_draw (K : Fg) (c1 c2 c3 c4 : Int) : TS :=
    (tSeq (tIfS (tTest (tOp rGt (tOp (rIx K) (tVar 0) (tC (.int 2))) (tC (.int 0)))) (tSeq (tAsg (tOp rFmod (tCB rInt1 (tCons (tOp (rIx K) (tVar 0) (tC (.int 2))) tNil)) (tVar 1)) (gName 2))
    (tSeq (tAsg (tOp rFdiv (tCB rInt1 (tCons (tOp (rIx K) (tVar 0) (tC (.int 2))) tNil)) (tVar 1)) (gSub (tVar 0) (tC (.int 2)) rSetL))
    (tRet (tVar 2)))) tNext)
    (tSeq (tAsg (tOp (rIx K) (tVar 0) (tC (.int 1))) (gName 3))
    (tSeq (tAsg (tOp (rPlus K) (tVar 3) (tC (.int 1))) (gSub (tVar 0) (tC (.int 1)) rSetL))
    (tSeq (tAsg (tOp (rPlus K) (tOp (rTimes K) (tC (.int c1)) (tVar 3)) (tC (.int c2))) (gName 4))
    (tSeq (tIfS (tTest (tOp (rNeA K) (tOp (rIx K) (tVar 0) (tC (.int 0))) (tLst tNil))) (tAsg (tOp (rIx K) (tOp (rIx K) (tVar 0) (tC (.int 0))) (tOp rFmod (tCB rInt1 (tCons (tVar 3) tNil)) (tCB (rLenA K) (tCons (tOp (rIx K) (tVar 0) (tC (.int 0))) tNil)))) (gName 4)) tNext)
    (tSeq (tIfS (tAnd (tTest (tOp rLt (tVar 3) (tCB (rLenA K) (tCons (tOp (rIx K) (tVar 0) (tC (.int 0))) tNil)))) (tTest (tOp rGe (tCB rAbs (tCons (tVar 4) tNil)) (tOp rPow (tC (.int 10)) (tC (.int 18)))))) (tSeq (tAsg (tOp (rPlus K) (tOp (rTimes K) (tC (.int 2)) (tOp rMinus (tCB rAbs (tCons (tVar 4) tNil)) (tOp rPow (tC (.int 10)) (tC (.int 18))))) (tCB rInt1 (tCons (tOp rLt (tVar 4) (tC (.int 0))) tNil))) (gName 5))
    (tSeq (tAsg (tOp rFdiv (tCB rInt1 (tCons (tVar 5) tNil)) (tVar 1)) (gSub (tVar 0) (tC (.int 2)) rSetL))
    (tRet (tOp rFmod (tCB rInt1 (tCons (tVar 5) tNil)) (tVar 1))))) tNext)
    (tSeq (tAsg (tOp rFmod (tCB rInt1 (tCons (tOp rPow (tOp (rPlus K) (tOp (rPlus K) (tOp rFmod (tCB rInt1 (tCons (tVar 4) tNil)) (tC (.int 2147483549))) (tOp (rTimes K) (tC (.int c1)) (tVar 3))) (tC (.int c2))) (tC (.int 5))) tNil)) (tC (.int 2147483629))) (gName 6))
    (tSeq (tAsg (tOp rFmod (tCB rInt1 (tCons (tOp rPow (tOp (rPlus K) (tOp (rPlus K) (tOp (rTimes K) (tVar 6) (tOp (rPlus K) (tOp (rTimes K) (tC (.int 2)) (tVar 3)) (tC (.int c3)))) (tOp (rTimes K) (tOp (rTimes K) (tC (.int c4)) (tVar 3)) (tVar 3))) (tC (.int c2))) (tC (.int 3))) tNil)) (tC (.int 2147483587))) (gName 6))
    (tRet (tOp rFmod (tCB rInt1 (tCons (tOp rFdiv (tVar 6) (tC (.int 64))) tNil)) (tVar 1)))))))))))
theorem fmod_range {x m : Int} (h : 0 < m) : 0 ≤ x.fmod m ∧ x.fmod m < m := by
  rw [Int.fmod_eq_emod_of_nonneg x (by omega)]
  exact ⟨Int.emod_nonneg x (by omega), Int.emod_lt_of_pos x h⟩
theorem fdiv_nn {x m : Int} (h : 0 < m) (hx : 0 ≤ x) : 0 ≤ x.fdiv m := by
  rw [Int.fdiv_eq_ediv_of_nonneg x (by omega)]
  exact Int.ediv_nonneg hx (by omega)
theorem rd_draw {K : Fg} {c1 c2 c3 c4 : Int} (hc1 : 0 ≤ c1 ∧ c1 ≤ 1000000) (hc2 : 0 ≤ c2 ∧ c2 ≤ 1000000) (hc3 : 0 ≤ c3 ∧ c3 ≤ 1000000) (hc4 : 0 ≤ c4 ∧ c4 ≤ 1000000) (m : Int) (n : Nat) (cells : List Int) (at_ left : Int)
    (hm : 1 ≤ m) (hm2 : m.natAbs < 2 ^ 9000) (hn : n + 1 ≤ 1000000) (hl : cells.length ≤ 63) (h0 : 0 ≤ at_) (h1 : at_ ≤ (n : Int)) (h2 : 0 ≤ left) :
    WS K Z (t_draw K c1 c2 c3 c4) [.own 0, .is (.int m), .no, .no, .no, .no, .no] [some (.l [.lst (cells.map DV.int), .int at_, .int left])] 0
      { nx := fun _ _ _ => False, rt := fun d O _ => (∃ a' l', O = [some (.l [.lst (cells.map DV.int), .int a', .int l'])] ∧ 0 ≤ a' ∧ a' ≤ (n : Int) + ((1 : Nat) : Int) ∧ 0 ≤ l') ∧ ∃ r, d = .int r ∧ 0 ≤ r ∧ r < m } := by
  have mne : m ≠ 0 := by omega
  unfold t_draw
  refine ws_seq (ws_if ?_)
  walk_at "dl"
  walk_at "ix"
  walk_at "dl"
  refine br (fun hlt => ?_) (fun hlt => ?_)
  · refine ws_seq (ws_asg ?_)
    walk_at "dl"
    walk_at "ix"
    walk_at "dl"
    refine ow_fmod mne ?_
    refine ws_seq (ws_asgG ?_)
    walk_at "dl"
    walk_at "ix"
    walk_at "dl"
    refine ow_fdiv mne hm2 ?_
    refine xg_set rfl rfl ?_
    walk_at "dl"
    refine ⟨2, 2, rfl, rfl, ?_⟩
    refine ws_ret ?_
    walk_at "dl"
    exact ⟨⟨at_, _, rfl, h0, by omega, fdiv_nn (by omega) h2⟩, _, rfl, fmod_range (by omega)⟩
  · refine ws_next ?_
    refine ws_seq (ws_asg ?_)
    walk_at "dl"
    walk_at "ix"
    refine ws_seq (ws_asgG ?_)
    walk_at "dl"
    refine xg_set rfl rfl ?_
    walk_at "dl"
    refine ⟨1, 1, rfl, rfl, ?_⟩
    refine ws_seq (ws_asg ?_)
    walk_at "dl"
    refine ow_timesI (mul_okL (by omega) (by omega)) ?_
    walk_at "dl"
    refine ws_cut (fun Γ' O' n' => ∃ y : Int, Γ' = [.own 0, .is (.int m), .no, .is (.int at_), .is (.int y), .no, .no] ∧ O' = [some (.l [.lst (cells.map DV.int), .int (at_ + 1), .int left])] ∧ n' = 0) (ws_if ?_) ?_
    · walk_at "dl"
      walk_at "ix"
      refine w_of_wl (wl_lst ?_)
      walk_at "dl"
      walk_at "len"
      refine ow_neD (pl_ints (m := 0) cells).shp (pl_ints (m := 0) []).shp ?_
      refine ⟨_, rfl, fun h => ?_, fun h => ?_⟩
      · have hne : cells ≠ [] := fun z => by
          have e0 : PyData.eqv (DL.py (.lst (cells.map DV.int))) (DL.py (.lst [])) = true := (eqv_ints cells []).mpr z
          rw [e0] at h; cases h
        have hpos : 0 < cells.length := List.length_pos_iff.mpr hne
        refine ws_asg ?_
        walk_at "dl"
        walk_at "ix"
        walk_at "dl"
        walk_at "ix"
        walk_at "dl"
        rw [List.length_map]
        refine ow_fmod (by omega) ?_
        have hr := fmod_range (x := at_) (m := (cells.length : Int)) (by omega)
        obtain ⟨j, hj⟩ : ∃ j : Nat, at_.fmod (cells.length : Int) = (j : Int) := ⟨(at_.fmod (cells.length : Int)).toNat, by omega⟩
        rw [hj]
        have hjl : j < cells.length := by omega
        refine ow_ixL (d := .int cells[j]) ?_ ?_
        · unfold atI
          rw [List.length_map, Evl.ixN_nat hjl]
          simp [hjl]
        · exact ⟨_, rfl, rfl, rfl⟩
      · exact ws_next ⟨_, rfl, rfl, rfl⟩
    rintro _ _ _ ⟨y, rfl, rfl, rfl⟩
    have p18 : (10 : Int) ^ (18 : Int).toNat = 1000000000000000000 := by decide
    have cp : CPow 10 18 := ⟨by decide, by decide, by decide⟩
    have hca : 0 ≤ c1 * at_ ∧ c1 * at_ ≤ 1000000 * 1000000 := ⟨Int.mul_nonneg hc1.1 h0, Int.mul_le_mul hc1.2 (by omega) h0 (by omega)⟩
    have hcb : 0 ≤ c4 * at_ ∧ c4 * at_ ≤ 1000000 * 1000000 := ⟨Int.mul_nonneg hc4.1 h0, Int.mul_le_mul hc4.2 (by omega) h0 (by omega)⟩
    have hcc : 0 ≤ c4 * at_ * at_ ∧ c4 * at_ * at_ ≤ 1000000 * 1000000 * 1000000 := ⟨Int.mul_nonneg hcb.1 h0, Int.mul_le_mul hcb.2 (by omega) h0 (by omega)⟩
    refine ws_cut (fun Γ' O' n' => Γ' = [.own 0, .is (.int m), .no, .is (.int at_), .is (.int y), .no, .no] ∧ O' = [some (.l [.lst (cells.map DV.int), .int (at_ + 1), .int left])] ∧ n' = 0) (ws_if ?_) ?_
    · walk_at "dl"
      walk_at "ix"
      walk_at "dl"
      refine br (fun hat => ?_) (fun hat => brF (ws_next ⟨rfl, rfl, rfl⟩))
      walk_at "dl"
      refine ow_pow cp ?_
      rw [p18]
      walk_at "dl"
      refine br (fun hge => ?_) (fun hge => ws_next ⟨rfl, rfl, rfl⟩)
      refine ws_seq (ws_asg ?_)
      walk_at "dl"
      refine ow_pow cp ?_
      rw [p18]
      walk_at "dl"
      refine ow_timesI (mul_okL (by decide) (by decide)) ?_
      walk_at "dl"
      refine ws_seq (ws_asgG ?_)
      walk_at "dl"
      refine ow_fdiv mne hm2 ?_
      refine xg_set rfl rfl ?_
      walk_at "dl"
      refine ⟨2, 2, rfl, rfl, ?_⟩
      refine ws_ret ?_
      walk_at "dl"
      refine ow_fmod mne ?_
      refine ⟨⟨at_ + 1, _, rfl, by omega, by omega, fdiv_nn (by omega) ?_⟩, _, rfl, fmod_range (by omega)⟩
      split <;> omega
    rintro _ _ _ ⟨rfl, rfl, rfl⟩
    refine ws_seq (ws_asg ?_)
    walk_at "dl"
    refine ow_fmod (by decide) ?_
    walk_at "dl"
    refine ow_timesI (mul_okL (by omega) (by omega)) ?_
    walk_at "dl"
    have hy := fmod_range (x := y) (m := 2147483549) (by decide)
    refine ow_pow ⟨by decide, by decide, by omega⟩ ?_
    walk_at "dl"
    refine ow_fmod (by decide) ?_
    generalize hb : Int.fmod ((Int.fmod y 2147483549 + c1 * at_ + c2) ^ (5 : Int).toNat) 2147483629 = b
    have hb2 : 0 ≤ b ∧ b < 2147483629 := by rw [← hb]; exact fmod_range (by decide)
    have hbm : 0 ≤ b * (2 * at_ + c3) ∧ b * (2 * at_ + c3) ≤ 2147483629 * 3000000 := ⟨Int.mul_nonneg hb2.1 (by omega), Int.mul_le_mul (by omega) (by omega) (by omega) (by omega)⟩
    refine ws_seq (ws_asg ?_)
    walk_at "dl"
    refine ow_timesI (mul_okL (by decide) (by decide)) ?_
    walk_at "dl"
    refine ow_timesI (mul_okL (by omega) (by omega)) ?_
    walk_at "dl"
    refine ow_timesI (mul_okL (by omega) (by omega)) ?_
    walk_at "dl"
    refine ow_timesI (mul_okL (by omega) (by omega)) ?_
    walk_at "dl"
    refine ow_pow ⟨by decide, by decide, by omega⟩ ?_
    walk_at "dl"
    refine ow_fmod (by decide) ?_
    refine ws_ret ?_
    walk_at "dl"
    refine ow_fdiv (by decide) (Nat.lt_of_lt_of_le (by decide : (64 : Int).natAbs < 2 ^ 7) (Nat.pow_le_pow_right (by decide) (by decide))) ?_
    walk_at "dl"
    refine ow_fmod mne ?_
    exact ⟨⟨at_ + 1, _, rfl, by omega, by omega, h2⟩, _, rfl, fmod_range (by omega)⟩
end
end DL
namespace DL
open PySem PySem.Spec PyProof.Rows L2
variable [Tn]
/-! helpers for the walks -/
abbrev ED (res : DV → Prop) : KE := { nx := fun _ _ _ => res .non, rt := fun d _ _ => res d }
abbrev EP (m : Nat) (res : DV → Prop) : KE := { nx := fun _ _ n => n ≤ m ∧ res .non, rt := fun d _ n => n ≤ m ∧ res d }
theorem nmul {x y : Int} {a b : Nat} (hx : x.natAbs < 2 ^ a) (hy : y.natAbs < 2 ^ b) : (x * y).natAbs < 2 ^ (a + b) := by
  rw [Int.natAbs_mul, Nat.pow_add]
  exact Nat.mul_lt_mul'' hx hy
theorem nadd {x y : Int} {a : Nat} (hx : x.natAbs < 2 ^ a) (hy : y.natAbs < 2 ^ a) : (x + y).natAbs < 2 ^ (a + 1) := by
  rw [Nat.pow_succ]; omega
theorem nsub {x y : Int} {a : Nat} (hx : x.natAbs < 2 ^ a) (hy : y.natAbs < 2 ^ a) : (x - y).natAbs < 2 ^ (a + 1) := by
  rw [Nat.pow_succ]; omega
theorem nle {x : Int} {a b : Nat} (hx : x.natAbs < 2 ^ a) (h : a ≤ b) : x.natAbs < 2 ^ b := Nat.lt_of_lt_of_le hx (Nat.pow_le_pow_right (by decide) h)
section
variable {K : Fg} {Z : Xt} {Γ : List SA} {O : Own} {n : Nat} {te : TE}
/-- [f(a) for a in xs] -/
theorem wl_lcF {α : Type} {wi : TI} {g : TG} {vs : List Nat} {k : List DV → Nat → Prop}
    (h : SW K Z wi Γ O n fun xs n1 => ∃ (as : List α) (e f : α → DV), xs = as.map e ∧ as.length ≤ 100000 ∧ (∀ a ∈ as, GW K g vs (e a) (wipeG Γ vs) fun Γ2 => W K Z te Γ2 O n1 fun y n' => y = f a ∧ n' = n1) ∧ k (as.map f) n1) :
    WL K Z (tLc wi g tYes te vs) Γ O n k := by
  refine wl_lc fun pn As H0 M H σ S R c => h pn As H0 M H σ S R fun J M' H' xs n' e1 S1 it ⟨as, e, f, ex, hl, hs, hk⟩ => c J M' H' xs n' e1 S1 it ?_
  subst ex
  refine ⟨by simpa using hl, fun i acc n2 => acc = (as.take i).map f ∧ n2 = n', ⟨rfl, rfl⟩, fun i x acc n2 hx ⟨ha, hn⟩ => ?_, fun acc n2 ⟨ha, hn⟩ => ?_⟩
  · subst ha hn
    rw [List.getElem?_map] at hx
    cases hi : as[i]? with
    | none => rw [hi] at hx; cases hx
    | some a =>
      rw [hi] at hx
      cases hx
      have hm : a ∈ as := List.mem_of_getElem? hi
      intro Z' pn As H0 M H σ O n S v r Q c
      refine hs a hm Z' pn As H0 M H σ O n S v r Q fun σ' Γ' S' w q => c σ' Γ' S' w (wt_yes ⟨fun _ => ?_, fun z => nomatch z⟩)
      intro pn As H0 M H σ S Q c
      refine q pn As H0 M H σ S Q fun v M' H' d n3 e1 S1 r1 ⟨ey, en⟩ => c v M' H' d n3 e1 S1 r1 ⟨?_, en⟩
      subst ey
      rw [List.take_add_one, hi]
      simp
  · subst ha hn
    simpa using hk
theorem zipD_map {α β : Type} (e : α → DV) (f : β → DV) : ∀ (as : List α) (bs : List β), zipD (as.map e) (bs.map f) = (as.zip bs).map fun z => .tup [e z.1, f z.2]
  | [], _ => by simp [zipD]
  | _ :: _, [] => by simp [zipD]
  | a :: as, b :: bs => by simp [zipD, zipD_map e f as bs]
/-- lists of numbers, walked -/
theorem SW.mono {wi : TI} {k k' : List DV → Nat → Prop} (h : SW K Z wi Γ O n k) (hk : ∀ xs n, k xs n → k' xs n) : SW K Z wi Γ O n k' := fun pn As H0 M H σ S R c => h pn As H0 M H σ S R fun J M' H' xs n' e1 S1 it q => c J M' H' xs n' e1 S1 it (hk xs n' q)
theorem W.mono {k k' : DV → Nat → Prop} (h : W K Z te Γ O n k) (hk : ∀ d n, k d n → k' d n) : W K Z te Γ O n k' := fun pn As H0 M H σ S Q c => h pn As H0 M H σ S Q fun v M' H' d n' e1 S1 r q => c v M' H' d n' e1 S1 r (hk d n' q)
theorem WL.mono {k k' : List DV → Nat → Prop} (h : WL K Z te Γ O n k) (hk : ∀ d n, k d n → k' d n) : WL K Z te Γ O n k' := fun pn As H0 M H σ S Q c => h pn As H0 M H σ S Q fun p vs M' H' d n' e1 S1 a1 a2 a3 a4 a5 a6 a7 q => c p vs M' H' d n' e1 S1 a1 a2 a3 a4 a5 a6 a7 (hk d n' q)
/-- items at natural places -/
theorem atI_nat {α : Type} {ds : List α} {i : Nat} {d : α} (h : ds[i]? = some d) : atI ds (i : Int) = some d := by
  have hi : i < ds.length := (List.getElem?_eq_some_iff.mp h).1
  unfold atI
  rw [Evl.ixN_nat hi]
  exact h
theorem ow_ixN {ds : List DV} {i : Nat} {d : DV} {k : DV → Prop} (h : ds[i]? = some d) (q : k d) : OW K (rIx K) (.lst ds) (.int (i : Int)) k := ow_ixL (atI_nat h) q
theorem ow_ixNT {ds : List DV} {i : Nat} {d : DV} {k : DV → Prop} (h : ds[i]? = some d) (q : k d) : OW K (rIx K) (.tup ds) (.int (i : Int)) k := ow_ixT (atI_nat h) q
end
end DL
namespace DL
open PySem PySem.Spec PyProof.Rows L2
variable [Tn]
/-! what repr can show -/
structure Sh (w : Nat) (d : DV) : Prop where
  sh : (DL.py d).showable = true
  nd : (DL.py d).hasDict = false
  lv : (DL.py d).leavesShort 300 = true
  wt : (DL.py d).weight ≤ w
theorem sh_int {i : Int} (h : i.natAbs < 2 ^ 250) : Sh 251 (.int i) := by
  have hl : i.natAbs.log2 < 250 := by
    by_cases h0 : i.natAbs = 0
    · rw [h0]; decide
    · exact (Nat.log2_lt h0).mpr h
  refine ⟨?_, rfl, ?_, ?_⟩
  · simp only [DL.py, PyData.showable]; exact decide_eq_true (by omega)
  · simp only [DL.py, PyData.leavesShort]
    refine decide_eq_true ?_
    show (Str.ofString (toString i)).length ≤ 300
    rw [PySem.ofString_length]
    have := int_text_length_le (by decide) hl
    omega
  · simp only [DL.py, PyData.weight]
    split <;> omega
theorem shs {w : Nat} : ∀ (ds : List DV), (∀ d ∈ ds, Sh w d) → PyData.showableAll (pyL ds) = true ∧ PyData.hasDictAll (pyL ds) = false ∧ PyData.leavesShortAll 300 (pyL ds) = true ∧ PyData.weightAll (pyL ds) ≤ ds.length * (w + 1)
  | [], _ => ⟨rfl, rfl, rfl, Nat.zero_le _⟩
  | d :: ds, h => by
    obtain ⟨a, b, c, e⟩ := h d (by simp)
    obtain ⟨a', b', c', e'⟩ := shs ds fun x hx => h x (by simp [hx])
    refine ⟨?_, ?_, ?_, ?_⟩
    · simp only [pyL, PyData.showableAll, a, a', Bool.and_self]
    · simp only [pyL, PyData.hasDictAll, b, b', Bool.or_self]
    · simp only [pyL, PyData.leavesShortAll, c, c', Bool.and_self]
    · simp only [pyL, PyData.weightAll, List.length_cons]
      rw [Nat.add_mul]
      omega
theorem sh_lst {w : Nat} {ds : List DV} (h : ∀ d ∈ ds, Sh w d) : Sh (ds.length * (w + 1)) (.lst ds) := by
  obtain ⟨a, b, c, e⟩ := shs ds h
  exact ⟨by simp only [DL.py, PyData.showable]; exact a, by simp only [DL.py, PyData.hasDict]; exact b, by simp only [DL.py, PyData.leavesShort]; exact c, by simp only [DL.py, PyData.weight]; exact e⟩
theorem sh_tup {w : Nat} {ds : List DV} (h : ∀ d ∈ ds, Sh w d) : Sh (ds.length * (w + 1)) (.tup ds) := by
  obtain ⟨a, b, c, e⟩ := shs ds h
  exact ⟨by simp only [DL.py, PyData.showable]; exact a, by simp only [DL.py, PyData.hasDict]; exact b, by simp only [DL.py, PyData.leavesShort]; exact c, by simp only [DL.py, PyData.weight]; exact e⟩
theorem Sh.le {w w' : Nat} {d : DV} (h : Sh w d) (hw : w ≤ w') : Sh w' d := ⟨h.sh, h.nd, h.lv, Nat.le_trans h.wt hw⟩
theorem showOk_of {m w : Nat} {d : DV} (p : Pl m d) (h : Sh w d) (hm : m ≤ 60) (hw : w ≤ 50000) : showOk (DL.py d) := by
  refine ⟨h.sh, h.nd, Nat.le_trans p.dep hm, ?_⟩
  have h1 := PyData.shown_le 300 (by decide) _ h.lv
  have h2 := h.wt
  have e : (300 + 2) * (DL.py d).weight ≤ 302 * 50000 := Nat.mul_le_mul (Nat.le_refl _) (by omega)
  rw [sizeLine_eq]
  omega
section
variable {K : Fg} {Z : Xt} {Γ : List SA} {O : Own} {n : Nat} {te : TE}
/-- a call by keywords alone -/
theorem w_kw {α : Type} {pre : α → Prop} {args : α → List DV} {res : α → DV → Prop} {E : XK} {tk : TA} {mm : Nat} {ix : List Nat} {k : DV → Nat → Prop} (h : WA K Z tk Γ O n fun es n2 => es.length = mm ∧ ∃ a, perm ix [] es = args a ∧ pre a ∧ ∀ d, res a d → k d n2) :
    W K Z (tCallM 0 mm (spD K pre args res) (perm ix) E tNil tk) Γ O n k :=
  w_callK (perm ix) (fun M vs zs ds es h1 h2 _ _ => perm_rp ix h1 h2) (wa_nil fun pn As H0 M H σ S Q c => h pn As H0 M H σ S Q fun vs M' H' ds n' e1 S1 r1 ⟨hl, q⟩ => c vs M' H' ds n' e1 S1 r1 ⟨rfl, hl, q⟩)
end
end DL
local macro_rules | `(tactic| walk_at "dl2") => `(tactic| first | walk_at "dl1" | with_reducible refine DL.w_of_wl (DL.wl_lst ?_) | with_reducible refine DL.w_kw ?_)
local macro_rules | `(tactic| walk_at "dlx") => `(tactic| repeat' walk_at "dl2")
namespace DL
open PySem PySem.Spec PyProof.Rows L2
variable [Tn]
/-! zip of a tuple and a list -/
theorem endT {P : Program} {w : World} {A : Around} (hh : A.handled = none) {it t : Addr} {i : Nat} {xs : Array Value} {h : Heap} (h1 : h.IsTupleIter it t i) (h2 : h.IsTuple t xs) (hne : t ≠ it) :
    ∃ n Pv St, Draws P w A it [it, t] n Pv St ∧ St i h ∧ i ≤ n ∧ (xs.size ≤ i → i = n) := by
  by_cases hi : xs.size ≤ i
  · refine ⟨i, fun _ _ => True, fun j g => j = i ∧ g.IsTupleIter it t i ∧ g.IsTuple t xs, ⟨fun j g e => ?_, fun j g g' e k => ?_, fun j z Q E hj e => ?_, fun z Q E e => ?_⟩, ⟨rfl, h1, h2⟩, Nat.le_refl _, fun _ => rfl⟩
    · obtain ⟨_, ⟨o, ho, _⟩, _⟩ := e
      exact ⟨o, ho⟩
    · exact ⟨e.1, e.2.1.at fun o q => k it (by simp) o q, e.2.2.at fun o q => k t (by simp) o q⟩
    · exact absurd e.1 (by omega)
    · exact wpAny_nextOf_tuple_end hh e.2.1 e.2.2 (by simp; exact hi)
  · exact ⟨_, _, _, Draws.tuple hh it t hne xs, ⟨h1, h2⟩, by omega, fun z => absurd z hi⟩
theorem endL {P : Program} {w : World} {A : Around} (hh : A.handled = none) {it t : Addr} {i : Nat} {xs : Array Value} {h : Heap} (h1 : h.IsListIter it t i) (h2 : h.IsList t xs) (hne : t ≠ it) :
    ∃ n Pv St, Draws P w A it [it, t] n Pv St ∧ St i h ∧ i ≤ n ∧ (xs.size ≤ i → i = n) := by
  by_cases hi : xs.size ≤ i
  · refine ⟨i, fun _ _ => True, fun j g => j = i ∧ g.IsListIter it t i ∧ g.IsList t xs, ⟨fun j g e => ?_, fun j g g' e k => ?_, fun j z Q E hj e => ?_, fun z Q E e => ?_⟩, ⟨rfl, h1, h2⟩, Nat.le_refl _, fun _ => rfl⟩
    · obtain ⟨_, ⟨o, ho, _⟩, _⟩ := e
      exact ⟨o, ho⟩
    · exact ⟨e.1, e.2.1.at fun o q => k it (by simp) o q, e.2.2.at fun o q => k t (by simp) o q⟩
    · exact absurd e.1 (by omega)
    · exact wpAny_nextOf_list_end hh e.2.1 e.2.2 (by simp; exact hi)
  · exact ⟨_, _, _, Draws.list hh it t hne xs, ⟨h1, h2⟩, by omega, fun z => absurd z hi⟩
/-- the tuple at a and the list at b, in new pairs -/
def ItzTL (K : Fg) (a b : Addr) : It where
  go := fun i H => ∃ (us vs : List V) (x y : V), SqT K H a us ∧ SqL K H b vs ∧ us[i]? = some x ∧ vs[i]? = some y
  yld := fun i H v H' => ∃ T x y, v = .ref T ∧ H T = none ∧ H' = upd H T (.tup [x, y]) ∧ (∀ us, SqT K H a us → us[i]? = some x) ∧ ∀ vs, SqL K H b vs → vs[i]? = some y
  stop := fun i H => ∃ us vs : List V, SqT K H a us ∧ SqL K H b vs ∧ (us.length ≤ i ∨ vs.length ≤ i)
theorem turn_zipTL {P : Program} {w : World} {K : Fg} {elts : List Expr} {kk : Nat} {tpos : Pos} {a b z TI TO i1 i2 : Addr} (D : ZipSep2 z TI TO i1 i2 [i1, a] [i2, b]) :
    Turn P w K (.Tuple elts kk tpos) (ItzTL K a b) [z, TI, TO, i1, i2] z (fun i h => IsZip h z TI TO .none ∧ IsTupOf2 h TI (.ref i1) (.ref i2) ∧ (∃ x y, IsTupOf2 h TO x y) ∧ h.IsTupleIter i1 a i ∧ h.IsListIter i2 b i) where
  mem := by simp
  obj := fun i h st c hc => by
    obtain ⟨q1, q2, ⟨x, y, q3⟩, ⟨o1, e1, _, d1⟩, ⟨o2, e2, _, d2⟩⟩ := st
    simp only [List.mem_cons, List.not_mem_nil, or_false] at hc
    rcases hc with rfl | rfl | rfl | rfl | rfl
    · exact ⟨_, q1, fun v q => nomatch q⟩
    · exact ⟨_, q2, fun v q => nomatch q⟩
    · exact ⟨_, q3, fun v q => nomatch q⟩
    · exact ⟨o1, e1, fun v q => by rw [d1] at q; cases q⟩
    · exact ⟨o2, e2, fun v q => by rw [d2] at q; cases q⟩
  keep := fun i h h' st k => by
    obtain ⟨q1, q2, ⟨x, y, q3⟩, q4, q5⟩ := st
    exact ⟨k z (by simp) _ q1, k TI (by simp) _ q2, ⟨x, y, k TO (by simp) _ q3⟩, q4.at fun o q => k i1 (by simp) o q, q5.at fun o q => k i2 (by simp) o q⟩
  item := by
    intro X eP ew eK calm i pins s σ H E I hf st hg
    subst eP ew eK
    obtain ⟨q1, q2, ⟨x0, y0, q3⟩, q4, q5⟩ := st
    obtain ⟨us, vs, x, y, hu, hv, hx, hy⟩ := hg
    obtain ⟨its, rv, p, _⟩ := I.tuple hu
    obtain ⟨its2, rv2, p2, _⟩ := I.list hv
    have hd : X.A.in1.handled = none := I.ok.hd calm
    obtain ⟨u, eu, ru⟩ := rv.get hx
    obtain ⟨u2, eu2, ru2⟩ := rv2.get hy
    have hzl : z < s.heap.objs.size := Heap.lt_size q1
    have n1 : a ≠ i1 := fun e => by
      obtain ⟨o, ho, hc, hd1⟩ := q4
      obtain ⟨o', ho', _, nl, hd2⟩ := p
      rw [e] at ho'; rw [ho] at ho'; cases ho'; rw [hd1] at hd2; cases hd2
    have n2 : b ≠ i2 := fun e => by
      obtain ⟨o, ho, hc, hd1⟩ := q5
      obtain ⟨o', ho', _, nl, hd2⟩ := p2.isList
      rw [e] at ho'; rw [ho] at ho'; cases ho'; rw [hd1] at hd2; cases hd2
    have lt1 : i < its.toArray.size := by
      have := (List.getElem?_eq_some_iff.mp eu).1
      simpa using this
    have lt2 : i < its2.toArray.size := by
      have := (List.getElem?_eq_some_iff.mp eu2).1
      simpa using this
    refine wpAny_pyNext_zipD2_item D (Draws.tuple hd i1 a n1 its.toArray) (Draws.list hd i2 b n2 its2.toArray) q1 q2 q3 ⟨q4, p⟩ ⟨q5, p2.isList⟩ lt1 lt2 fun v1 v2 h' tk k1 k2 z' TO' s1' s2' hT hsz hk => ?_
    have ev1 : v1 = u := by
      have k1' : its.toArray[i]? = some v1 := k1
      rw [List.getElem?_toArray, eu] at k1'; cases k1'; rfl
    have ev2 : v2 = u2 := by
      have k2' : its2.toArray[i]? = some v2 := k2
      rw [List.getElem?_toArray, eu2] at k2'; cases k2'; rfl
    subst ev1 ev2
    refine ⟨_, rfl, wpAny_letOwnedTupleGo_zip (s := { s with heap := h', toks := tk }) z' fun h'' z'' sb => ?_⟩
    have hT2 : h''.get? s.heap.objs.size = some { cls := .type "tuple", data := .seq #[v1, v2] } := (sb.2 _ (Nat.ne_of_gt hzl)).trans hT
    have mk : ObjOk X.prog X.w (upd H s.heap.objs.size (.tup [x, y])) h'' s.heap.objs.size (.tup [x, y]) :=
      ⟨by show 2 ≤ sizeLine; decide, [v1, v2], .cons ru (.cons ru2 .nil), ⟨_, hT2, rfl, _, rfl⟩⟩
    have off : ∀ c o, c ∉ [z, TI, TO, i1, i2] → s.heap.get? c = some o → h''.get? c = some o := fun c o hb q => by
      simp only [List.mem_cons, List.not_mem_nil, or_false, not_or] at hb
      obtain ⟨b1, b2, b3, b4, b5⟩ := hb
      exact (sb.2 c b1).trans (hk c o b1 b3 b4 b5 q)
    have I1 : Inv X pins σ (upd H s.heap.objs.size (.tup [x, y])) { s with heap := h'', toks := tk } := I.turnedNew (t' := tk) (ch := [z, TI, TO, i1, i2]) off hf (Nat.le_refl _) mk
    have nz1 : i1 ≠ z := fun e => D.zi1 e.symm
    have nz2 : i2 ≠ z := fun e => D.zi2 e.symm
    refine ⟨.ref s.heap.objs.size, _, I1, rfl, ⟨_, x, y, rfl, I.hok.fresh (Nat.le_refl _), rfl, fun l hl => by rw [I.tuple_inj hl hu]; exact hx, fun l hl => by rw [I.list_inj hl hv]; exact hy⟩, ⟨z'', ?_, ⟨v1, v2, ?_⟩, ?_, ?_⟩, fun c hcm => ?_⟩
    · exact (sb.2 _ D.TIz).trans (hk _ _ D.TIz D.TITO D.TIi1 D.TIi2 q2)
    · exact (sb.2 _ D.TOz).trans TO'
    · exact s1'.1.at fun o q => (sb.2 _ nz1).trans q
    · exact s2'.1.at fun o q => (sb.2 _ nz2).trans q
    · have hlt : c < s.heap.objs.size := by
        simp only [List.mem_cons, List.not_mem_nil, or_false] at hcm
        rcases hcm with q | q | q | q | q
        · rw [q]; exact hzl
        · rw [q]; exact Heap.lt_size q2
        · rw [q]; exact Heap.lt_size q3
        · rw [q]; obtain ⟨_, e1, _⟩ := q4; exact Heap.lt_size e1
        · rw [q]; obtain ⟨_, e2, _⟩ := q5; exact Heap.lt_size e2
      rw [upd_ne (Nat.ne_of_lt hlt)]
      exact (hf c hcm).1
  done := by
    intro X eP ew eK calm i pins s σ H E I hf st hg
    subst eP ew eK
    obtain ⟨q1, q2, ⟨x0, y0, q3⟩, q4, q5⟩ := st
    obtain ⟨us, vs, hu, hv, hend⟩ := hg
    obtain ⟨its, rv, p, _⟩ := I.tuple hu
    obtain ⟨its2, rv2, p2, _⟩ := I.list hv
    have hd : X.A.in1.handled = none := I.ok.hd calm
    have n1 : a ≠ i1 := fun e => by
      obtain ⟨o, ho, hc, hd1⟩ := q4
      obtain ⟨o', ho', _, nl, hd2⟩ := p
      rw [e] at ho'; rw [ho] at ho'; cases ho'; rw [hd1] at hd2; cases hd2
    have n2 : b ≠ i2 := fun e => by
      obtain ⟨o, ho, hc, hd1⟩ := q5
      obtain ⟨o', ho', _, nl, hd2⟩ := p2.isList
      rw [e] at ho'; rw [ho] at ho'; cases ho'; rw [hd1] at hd2; cases hd2
    obtain ⟨m1, P1, St1, D1, st1, le1, en1⟩ := endT (P := X.prog) (w := X.w) hd q4 (show s.heap.IsTuple a its.toArray from p) n1
    obtain ⟨m2, P2, St2, D2, st2, le2, en2⟩ := endL (P := X.prog) (w := X.w) hd q5 p2.isList n2
    have l1 := rv.length
    have l2 := rv2.length
    have he : i = m1 ∨ i = m2 := by
      rcases hend with q | q
      · exact .inl (en1 (by simp; omega))
      · exact .inr (en2 (by simp; omega))
    refine wpAny_pyNext_zipD2_end D D1 D2 q1 q2 q3 st1 st2 le1 le2 he fun h' tk hk => ⟨rfl, I.turnedL (t' := tk) (ch := [z, TI, TO, i1, i2]) (fun c o hb q => ?_) hf⟩
    simp only [List.mem_cons, List.not_mem_nil, or_false, not_or] at hb
    obtain ⟨b1, b2, b3, b4, b5⟩ := hb
    exact hk c o b1 b3 b4 b5 q
  self := fun A i s Q E st h => wpAny_pyIter_zip st.1 h
def iZipB (K : Fg) (ta : TA) : TI := fun σ H R => ta σ H fun vs H1 => ∃ a b us ws, vs = [.ref a, .ref b] ∧ ((SqL K H1 a us ∧ SqL K H1 b ws ∧ R (Itz K a b) H1) ∨ (SqT K H1 a us ∧ SqT K H1 b ws ∧ R (RZ.ItzT K a b) H1) ∨ (SqT K H1 a us ∧ SqL K H1 b ws ∧ R (ItzTL K a b) H1))
theorem pi_zipB {X : Cx} {e e2 : Expr} {ta : TA} {p pos tpos : Pos} {elts : List Expr} {kk : Nat} (hg : Gl X "zip") (hm : X.mg "zip" = none) (ha : PA X [e, e2] ta)
    (hs : starEach [e, e2] X.env = (false, eval e X.env) :: starEach [e2] X.env := by rfl) (hpl : (backTo pos (starEach [e2] X.env)).any (·.1) = false := by rfl) :
    PI X (.Tuple elts kk tpos) (.Call (.Name "zip" p) [e, e2] [] pos) (iZipB X.K ta) := by
  by_cases hx : True
  · have hA := RZ.pi_zipA (elts := elts) (kk := kk) (tpos := tpos) (p := p) (pos := pos) hg hm (ta := ta) ha hs hpl
    refine ⟨fun pins s σ H R I h => ?_⟩
    refine Call_ (ld_blt I hg hm PyProof.Rows.boot_zip (PyProof.Rows.callWith_type1 (thn (ha.run pos pins s σ H _ I h) fun us s1 ⟨vs, H1, I1, r1, q1⟩ => ?_) hs hpl))
    obtain ⟨a, b, xs, ys, ex, q1⟩ := q1
    subst ex
    have fresh : ∀ c, c ∈ [s1.heap.objs.size + 4, s1.heap.objs.size + 2, s1.heap.objs.size + 3, s1.heap.objs.size, s1.heap.objs.size + 1] → FpOk X pins H1 c := fun c hcm => by
      simp only [List.mem_cons, List.not_mem_nil, or_false] at hcm
      have hle : s1.heap.objs.size ≤ c := by
        have big : ∀ j : Nat, s1.heap.objs.size ≤ s1.heap.objs.size + j := fun j => Nat.le_add_right _ _
        rcases hcm with q | q | q | q | q
        · rw [q]; exact big 4
        · rw [q]; exact big 2
        · rw [q]; exact big 3
        · rw [q]; exact Nat.le_refl _
        · rw [q]; exact big 1
      exact I1.fpOk hle (I1.hok.fresh hle)
    cases r1 with
    | cons r rr =>
    cases rr with
    | cons r' rr =>
    cases rr
    cases r
    cases r'
    rcases q1 with ⟨hqx, hqy, q⟩ | ⟨hqx, hqy, q⟩ | ⟨hqx, hqy, q⟩
    · obtain ⟨its, rv, p1, _⟩ := I1.list hqx
      obtain ⟨its2, rv2, p2, _⟩ := I1.list hqy
      refine call_zip_2 p1.isList p2.isList fun h' hz hTI hTO h1 h2 hsz hk => wpAny_pyIter_zip hz ?_
      exact ⟨s1.heap.objs.size + 4, _, _, _, H1, rfl, I1.kept (t' := s1.toks) hk, turn_zip (PySem.W.ktu_apart s1.heap.objs.size a b p1.lt p2.lt), ⟨hz, hTI, ⟨_, _, hTO⟩, h1, h2⟩, fresh, q⟩
    · obtain ⟨its, rv, p1, _⟩ := I1.tuple hqx
      obtain ⟨its2, rv2, p2, _⟩ := I1.tuple hqy
      have w1 : s1.heap.IsTuple a its.toArray := p1
      have w2 : s1.heap.IsTuple b its2.toArray := p2
      obtain ⟨o1, ho1, _⟩ := id w1
      obtain ⟨o2, ho2, _⟩ := id w2
      refine RZ.call_zipT w1 w2 fun h' hz hTI hTO h1 h2 hsz hk => wpAny_pyIter_zip hz ?_
      exact ⟨s1.heap.objs.size + 4, _, _, _, H1, rfl, I1.kept (t' := s1.toks) hk, RZ.turn_zipT (PySem.W.ktu_apart s1.heap.objs.size a b (Heap.lt_size ho1) (Heap.lt_size ho2)), ⟨hz, hTI, ⟨_, _, hTO⟩, h1, h2⟩, fresh, q⟩
    · obtain ⟨its, rv, p1, _⟩ := I1.tuple hqx
      obtain ⟨its2, rv2, p2, _⟩ := I1.list hqy
      have w1 : s1.heap.IsTuple a its.toArray := p1
      obtain ⟨o1, ho1, _⟩ := id w1
      have la : ∀ c ∈ [a], c < s1.heap.objs.size := fun c hc => by
        have e : c = a := by simpa using hc
        rw [e]; exact Heap.lt_size ho1
      have lb : ∀ c ∈ [b], c < s1.heap.objs.size := fun c hc => by
        have e : c = b := by simpa using hc
        rw [e]; exact p2.lt
      refine zip_begins2 (begins_tuple a its.toArray) (begins_list b its2.toArray) w1 p2.isList fun h' hz hTI hTO h1 h2 hsz hk => wpAny_pyIter_zip hz ?_
      exact ⟨s1.heap.objs.size + 4, _, _, _, H1, rfl, I1.kept (t' := s1.toks) hk, turn_zipTL (zip_sep2 la lb), ⟨hz, hTI, ⟨_, _, hTO⟩, ⟨_, h1, rfl, rfl⟩, ⟨_, h2, rfl, rfl⟩⟩, fresh, q⟩
  · exact absurd trivial hx
section
variable {K : Fg} {Z : Xt} {M : Hp} {Γ : List SA} {O : Own} {n : Nat} {te t1 t2 t3 : TE} {E : KE}
theorem iter_zipTL {a b : Addr} {vs ws : List V} {ds es : List DV} (h : SqT K M a vs) (r : RpL K M vs ds) (h' : M b = some (.lst ws)) (r' : RpL K M ws es) : IterOk K (ItzTL K a b) (zipD ds es) M := fun Z pn As H0 M1 H1 σ Γ O n e S i => by
  have hq : SqT K H1 a vs := Evl.ex_t S.ex (Evl.ex_t e h)
  have hq' : SqL K H1 b ws := .inl (.inl (S.ex _ _ (e _ _ h')))
  refine ⟨fun d hd => ?_, fun hi => ⟨vs, ws, hq, hq', by rw [r.length, r'.length]; rw [zipD_length] at hi; omega⟩⟩
  obtain ⟨x, y, hx, hy, rfl⟩ := zipD_get hd
  obtain ⟨u, hu, ru⟩ := r.get' hx
  obtain ⟨w, hw, rw'⟩ := r'.get' hy
  refine ⟨⟨vs, ws, u, w, hq, hq', hu, hw⟩, fun z H' ⟨T, x', y', e1, hT, e2, f1, f2⟩ => ?_⟩
  subst e1 e2
  have g1 := f1 vs hq
  have g2 := f2 ws hq'
  rw [hu] at g1; rw [hw] at g2
  cases g1; cases g2
  obtain ⟨ex, S2⟩ := S.alloc (o := .tup [u, w]) hT
  exact ⟨_, ex, S2, .tup (.inl (.inl upd_same)) (.cons (ru.mono (Evl.Ex.trans e ex)) (.cons (rw'.mono (Evl.Ex.trans e ex)) .nil))⟩
theorem sw_zipB {ta : TA} {k : List DV → Nat → Prop} (h : WA K Z ta Γ O n fun xs n1 => ∃ ds es, (xs = [.lst ds, .lst es] ∨ xs = [.tup ds, .tup es] ∨ xs = [.tup ds, .lst es]) ∧ k (zipD ds es) n1) : SW K Z (iZipB K ta) Γ O n k := fun pn As H0 M H σ S R c =>
  h pn As H0 M H σ S _ fun v M1 H1 d n1 e1 S1 r1 ⟨ds, es, e, q⟩ => by
    rcases e with rfl | rfl | rfl
    · obtain ⟨u, w, rfl, r, r'⟩ := r1.two
      obtain ⟨a, vs, rfl, g1, g2⟩ := r.lst'
      obtain ⟨b, ws, rfl, g3, g4⟩ := r'.lst'
      exact ⟨a, b, vs, ws, rfl, .inl ⟨.inl (.inl (S1.ex _ _ g1)), .inl (.inl (S1.ex _ _ g3)), c _ M1 H1 _ n1 e1 S1 (iter_zipL g1 g2 g3 g4) q⟩⟩
    · obtain ⟨u, w, rfl, r, r'⟩ := r1.two
      obtain ⟨a, vs, rfl, g1, g2⟩ := r.tup'
      obtain ⟨b, ws, rfl, g3, g4⟩ := r'.tup'
      exact ⟨a, b, vs, ws, rfl, .inr (.inl ⟨Evl.ex_t S1.ex g1, Evl.ex_t S1.ex g3, c _ M1 H1 _ n1 e1 S1 (iter_zipT g1 g2 g3 g4) q⟩)⟩
    · obtain ⟨u, w, rfl, r, r'⟩ := r1.two
      obtain ⟨a, vs, rfl, g1, g2⟩ := r.tup'
      obtain ⟨b, ws, rfl, g3, g4⟩ := r'.lst'
      exact ⟨a, b, vs, ws, rfl, .inr (.inr ⟨Evl.ex_t S1.ex g1, .inl (.inl (S1.ex _ _ g3)), c _ M1 H1 _ n1 e1 S1 (iter_zipTL g1 g2 g3 g4) q⟩)⟩
/-! a, b = list, data and a, b, c = list, list, data: the lists stay one's own -/
theorem ws_asgT2 {i j : Nat} (h : WL K Z t1 Γ O n fun ds n1 => W K Z t2 Γ (O ++ [some (.l ds)]) n1 fun d n2 => E.nx ((Γ.set i (.own O.length)).set j (.is d)) (O ++ [some (.l ds)]) n2) :
    WS K Z (tAsg (tTup (tCons t1 (tCons t2 tNil))) (gTup K 2 (gCons (gName i) (gCons (gName j) gNil)))) Γ O n E := fun pn As H0 M H σ D S s =>
  h pn As H0 M H σ S _ fun p vs M1 H1 ds n1 e1 S1 h1 h2 h3 h4 hP h5 h6 q =>
    q pn (As ++ [p]) H0 M1 H1 σ (S1.addOwn h1 h2 h3 h4 h5 h6) _ fun v M2 H2 d n2 e2 S2 r2 q2 => ⟨by show 2 ≤ sizeLine; decide, fun T hT =>
      ⟨T, [.ref p, v], rfl, .inl (.inl upd_same), rfl, _, _, rfl, _, _, rfl, rfl, s.nx (As ++ [p]) M2 _ _ _ _ n2 (List.prefix_append _ _) (Evl.Ex.trans e1 e2) (((S2.lay hT).storeOwn (j := O.length) (by rw [← S1.len]; simp)).store r2) q2⟩⟩
theorem ws_asgT3 {i j l : Nat} (h : WL K Z t1 Γ O n fun ds n1 => WL K Z t2 Γ (O ++ [some (.l ds)]) n1 fun es n2 => W K Z t3 Γ ((O ++ [some (.l ds)]) ++ [some (.l es)]) n2 fun d n3 => E.nx (((Γ.set i (.own O.length)).set j (.own (O.length + 1))).set l (.is d)) ((O ++ [some (.l ds)]) ++ [some (.l es)]) n3) :
    WS K Z (tAsg (tTup (tCons t1 (tCons t2 (tCons t3 tNil)))) (gTup K 3 (gCons (gName i) (gCons (gName j) (gCons (gName l) gNil))))) Γ O n E := fun pn As H0 M H σ D S s =>
  h pn As H0 M H σ S _ fun p vs M1 H1 ds n1 e1 S1 h1 h2 h3 h4 hP h5 h6 q =>
    q pn (As ++ [p]) H0 M1 H1 σ (S1.addOwn h1 h2 h3 h4 h5 h6) _ fun p' vs' M2 H2 ds' n2 e2 S2 h1' h2' h3' h4' hP' h5' h6' q' =>
      q' pn ((As ++ [p]) ++ [p']) H0 M2 H2 σ (S2.addOwn h1' h2' h3' h4' h5' h6') _ fun v M3 H3 d n3 e3 S3 r3 q3 => ⟨by show 3 ≤ sizeLine; decide, fun T hT =>
        ⟨T, [.ref p, .ref p', v], rfl, .inl (.inl upd_same), rfl, _, _, rfl, _, _, rfl, _, _, rfl, rfl, s.nx ((As ++ [p]) ++ [p']) M3 _ _ _ _ n3 ((List.prefix_append _ _).trans (List.prefix_append _ _)) (Evl.Ex.trans (Evl.Ex.trans e1 e2) e3)
          ((((S3.lay hT).storeOwn (j := O.length) (by rw [← S1.len]; simp)).storeOwn (j := O.length + 1) (by rw [← S1.len]; simp)).store r3) q3⟩⟩
end
end DL
namespace DL
open PySem PySem.Spec PyProof.Rows L2
variable [Tn]
/-! own lists by place; lists of places -/
theorem own_app {O L : Own} {i : Nat} {x : Option OV} (h : O[i]? = some x) : (O ++ L)[i]? = some x := by
  have hi := (List.getElem?_eq_some_iff.mp h).1
  rw [List.getElem?_append_left hi]; exact h
theorem own_last {O : Own} {x : Option OV} : (O ++ [x])[O.length]? = some x := by simp
theorem own_set {O : Own} {i : Nat} {x y : Option OV} (h : O[i]? = some x) : (O.set i y)[i]? = some y := List.getElem?_set_self (List.getElem?_eq_some_iff.mp h).1
theorem own_other {O : Own} {i j : Nat} {x y : Option OV} (h : O[i]? = some x) (hij : j ≠ i) : (O.set j y)[i]? = some x := by rw [List.getElem?_set_ne hij]; exact h
theorem own_lt {O : Own} {i : Nat} {x : Option OV} (h : O[i]? = some x) : i < O.length := (List.getElem?_eq_some_iff.mp h).1
def nN (x : Nat) : DV := .int (x : Int)
theorem eqv_nN (x y : Nat) : PyData.eqv (DL.py (nN x)) (DL.py (nN y)) = true ↔ x = y := by
  unfold nN
  rw [eqv_int]
  omega
theorem pl_nN {m : Nat} (x : Nat) : Pl m (nN x) := pl_int _
theorem pl_nNs {m : Nat} (l : List Nat) : Pl (m + 1) (.lst (l.map nN)) := pl_lst fun d hd => by
  obtain ⟨i, _, rfl⟩ := List.mem_map.mp hd
  exact pl_nN i
theorem eqv_nNs (l k : List Nat) : PyData.eqv (DL.py (.lst (l.map nN))) (DL.py (.lst (k.map nN))) = decide (l = k) :=
  Bool.eq_iff_iff.mpr ((eqv_lst nN eqv_nN l k).trans decide_eq_true_iff.symm)
section
variable {K : Fg} {Z : Xt}
theorem ne_nNs {x y : List Nat} {k : DV → Prop} (q : k (.bl (!decide (x = y)))) : OW K (rNeA K) (.lst (x.map nN)) (.lst (y.map nN)) k := ow_neD (pl_nNs (m := 0) _).shp (pl_nNs (m := 0) _).shp (by rw [eqv_nNs]; exact q)
theorem eq_nNs {x y : List Nat} {k : DV → Prop} (q : k (.bl (decide (x = y)))) : OW K (rEqA K) (.lst (x.map nN)) (.lst (y.map nN)) k := ow_eqD (pl_nNs (m := 0) _).shp (pl_nNs (m := 0) _).shp (by rw [eqv_nNs]; exact q)
end
end DL
namespace DL
open PySem PySem.Spec PyProof.Rows L2 NdefX
variable [Tn]
/-! an own __init__ that begins with super().__init__(text), over ValueError -/
abbrev mwV (x : Addr) : Obj := PySem.W.kxs_mw "ValueError.__init__" x
section
variable {prog : Program} {w : World} {A : Around} {E : Value → Shared → Prop} {h : Heap} {g : Array GenState} {d : Drawn} {t : Nat} {os : OsState}
variable {nm q : Str} {C N : Addr} {bs bm : List Value} {hdct : Bool} {sn : List Str} {sub : List Value} {ab : Bool} {col : Option Bool} {dd : Option Addr} {k0 k1 k2 k3 k5 : Option Value}
/-- the bound __init__ called: new args, nothing else -/
theorem call_mwV {u e t0 : Addr} {rest : List Value} {Q : Value → Shared → Prop}
    (hC : h.get? C = some (excClassObj nm q C N bs bm hdct sn sub ab col dd k0 k1 k2 k3 k5 "ValueError.__new__")) (hbm : PySem.HandSPX.refsVE bm = true) (he : h.get? e = some (HandSPX.excO C t0)) (hu : h.get? u = some (mwV e)) (hrest : rest.length ≤ sizeLine)
    (hq : ∀ h' t1, (∀ b o, b ≠ e → h.get? b = some o → h'.get? b = some o) → h'.get? e = some (HandSPX.excO C t1) → Q .none ⟨h', g, d, t, os⟩) :
    wpAny (model prog w) A (call (.ref u) rest) Q E ⟨h, g, d, t, os⟩ := by
  refine wpAny_call (codeAny_of_tree ?_)
  show wpAny _ A.in1 (callAny (.ref u) ⟨rest, []⟩) _ _ _
  simp only [callAny]
  refine wpAny_bind (wpAny_load hu ?_)
  have nb : (Value.type "method-wrapper" == Value.type "method" || Value.type "method-wrapper" == Value.type "builtin_function_or_method" || Value.type "method-wrapper" == Value.type "method-wrapper") = true := by decide
  simp only [mwV, PySem.W.kxs_mw, nb, if_true]
  refine W.KFB.if_so (by decide) ?_
  refine wpAny_bind (PySem.ESX.check_bound F.excBase_ValueError hC he rfl ?_)
  refine wpAny_bind (wpAny_pure (wpAny_pure ?_))
  refine ⟨Code.quiet_builtin _ (by decide +kernel), codeAny_builtin F.excBase_ValueError.initEntry ?_⟩
  rw [Around.under_plainId F.excBase_ValueError.init.plain _]
  wp_walk
  refine hq _ h.objs.size (fun b o hb ho => ?_) ?_
  · rw [Heap.get?_update_other _ _ (Ne.symm hb)]
    exact Heap.get?_push_of_some _ ho
  · rw [Heap.get?_update_self _ (Heap.get?_push_of_some _ he) rfl]
    rfl
end
section
variable {X : Cx} {pins : List (Addr × Obj)} {σ : L2.St} {H : Hp} {s : Shared}
/-- a new object that nobody tracks, held by a pin -/
theorem pin_new (I : Inv X pins σ H s) {u : Addr} {o : Obj} {h' : Heap} {t' : Nat} (hu : s.heap.objs.size ≤ u) (k : ∀ b o, s.heap.get? b = some o → h'.get? b = some o) (ho : h'.get? u = some o) (nc : ∀ v, o.data ≠ .cell v) :
    Inv X ((u, o) :: pins) σ H { s with heap := h', toks := t' } := by
  have J := I.kept (t' := t') k
  have f := I.fpOk hu (I.hok.fresh hu)
  refine J.pins_of fun p hp => ?_
  rcases List.mem_cons.mp hp with rfl | hp
  · exact ⟨ho, f.1, f.2.1, f.2.2.1, nc⟩
  · exact J.pin p (List.mem_append_right _ hp)
/-- super().__init__(text), where self is an exception in the making -/
theorem super_stmt {body : List Stmt} {f cda cc D a C : Addr} {of oc occ : Obj} {fd : FuncData} {ar : Arg} {vs : Array Value} {file : Str} {tf : Tok} {cdD : ClassData} {p0 p1 p2 p3 p4 : Pos} {e1 : Expr}
    (I : Inv X pins σ H s) (hfu : X.env.func = some f) (hco : X.env.code = .ref cda) (hcl : X.env.cells.lookup ("__class__" : Str) = some cc)
    (hf : X.K.lookup f = some of) (hfd : of.data = .func fd) (hp : (fd.params.posonlyargs ++ fd.params.args).head? = some ar)
    (hcc : X.K.lookup cda = some oc) (hoc : oc.data = .fields vs) (hvs : vs[2]? = some (.str file tf)) (hfile : ((X.prog.main.file : Str) == file) = true)
    (hce : X.K.lookup cc = some occ) (hcd : occ.data = .cell (some (.ref D))) (hD : PySem.W.clsIn X.K D = some cdD)
    (hks : X.env.kindOf "super" = some .globalImplicit) (hkc : X.env.kindOf "__class__" = some .free) (hka : X.env.kindOf ar.arg = some .local) (htop : (X.prog.main.scope.names.lookup ("super" : Str)).isSome = false) (hsup : X.mg "super" = none)
    (T : OexC X.K C) (ea : H a = some (exo a C none)) {i : Nat} (hN : X.N[i]? = some ar.arg) (hs : σ[i]? = some (some (.ref a)))
    (hsub : PySem.W.mroIn X.K C (.ref D) = some true) (hVE : PySem.W.subIn X.K (.ref C) (.type "ValueError") = some true) (ho : PySem.W.nsIn X.K cStatics "thirdparty.any" = some none) (hm : PySem.W.ks_superIn X.K C D "__init__" = some (some (.builtin "ValueError.__init__")))
    {txt : Str} (he1 : PE X e1 (tC (.str txt))) {pl : Sem Bool} {Q : Flow → Shared → Prop} {E : Value → Shared → Prop} (hE : X.xe = E) (q : ∀ s', Inv X pins σ H s' → Q .next s')
    (hin : interactive X.env = false := by rfl) (hst : starEach [e1] X.env = (false, eval e1 X.env) :: starEach [] X.env := by rfl) (hpl : (backTo p3 (starEach [] X.env)).any (·.1) = false := by rfl)
    (hev : eval (.Call (.Attribute (.Call (.Name "super" p0) [] [] p1) "__init__" p2) [e1] [] p3) X.env = (do
      let ov ← attributeBase (.Call (.Name "super" p0) [] [] p1) "__init__" X.env (eval (.Call (.Name "super" p0) [] [] p1) X.env)
      standAt p2.atName
      let (f, first) ← holding [ov] (getMethod ov "__init__" pl)
      callWith p3 f first (backTo p3 (starEach [e1] X.env)) []) := by rfl) :
    _root_.PySem.wpAt (model X.prog X.w) X.A (.func body X.env) (exec (.Expr (.Call (.Attribute (.Call (.Name "super" p0) [] [] p1) "__init__" p2) [e1] [] p3) p4) X.env) Q E s := by
  subst hE
  obtain ⟨mb, b1, b2⟩ := I.mod.blt
  obtain ⟨m, hns, hlk⟩ := I.loc
  obtain ⟨us, ru, lk⟩ := hlk i ar.arg (.ref a) hN hs (.inl hka)
  obtain rfl : us = Value.ref a := ru
  have hself : m ar.arg = some (.ref a) := by
    rcases lk with ⟨_, e⟩ | ⟨z, _⟩
    · exact e
    · rcases z with z | z
      · rw [hka] at z; cases z
      · rw [hka] at z; cases z
  obtain ⟨oD, hD1, hD2⟩ : ∃ oD, s.heap.get? D = some oD ∧ oD.data = .cls cdD := by
    unfold PySem.W.clsIn at hD
    split at hD
    · rename_i c dd cd' sl hoD
      cases hD
      exact ⟨_, I.kIn _ _ hoD, rfl⟩
    · cases hD
  obtain ⟨nm, qn, N, bs, bm, sn, sub, ab, col, dd, k0, k1, k2, k3, k5, hC, hbm⟩ := T.cls
  have hCls : PySem.W.clsIn X.K C = some { name := nm, bases := bs, mro := .ref C :: bm, ns := N, qualname := qn, hasDict := true, slotNames := sn, subclasses := sub, abstract := ab, collection := col, hasDel := false } := by unfold PySem.W.clsIn; rw [hC] <;> rfl
  obtain ⟨t1, hx⟩ := exo_at I.hok ea
  refine ks_wpAt_Expr_any (ks_wpAt_MethodCall (pl := pl) ?_ hev) (hi := hin)
  refine ks_wpAt_super_base (env := X.env) hks hkc rfl hfu (I.kIn _ _ hf) hfd hp hco (I.kIn _ _ hcc) hoc hvs hfile htop ?_
  refine PySem.W.ks_loadName_global I.ok.kind hks (Calls.loadGlobal_builtin (by rw [I.ok.glob]; exact I.mod.glob.keeps I.bk) hsup (by rw [I.ok.blt]; exact b1.keeps I.bk) ((b2 "super" (by decide +kernel)).trans (by first | rfl | kernel_rfl)) ⟨rfl, ?_⟩)
  refine wpAny_loadName_free I.ok.kind hkc hcl ⟨occ, I.kIn _ _ hce, hcd⟩ ?_
  refine wpAny_loadName_local I.ok.kind hka hns hself ?_
  obtain ⟨hp0, g, d, t, os⟩ := s
  refine ks_wpAny_isType_cls hD1 hD2 ⟨rfl, ?_⟩
  refine ks_wpAny_call_super hD1 hD2 hx rfl (fun c z => nomatch z) (PySem.W.looks_mroIn I.kIn hsub) (fun h1 hso k1' => ?_)
  have I1 := I.kept (t' := t) k1'
  have hx1 := k1' _ _ hx
  have xC : a ≠ C := fun z => by
    have e1 := I.kIn _ _ hC
    rw [z] at hx
    have e2 : some _ = some _ := hx.symm.trans e1
    simp [excClassObj] at e2
  have sz : hp0.objs.size < h1.objs.size := Heap.lt_size hso
  refine PySem.W.kxs_getMethod PySem.W.kxs_ValueError hso (PySem.W.looks_opaque I1.kIn ho) (l₀ := .ref C :: bm) (fun A Q E s k q => wpAny_bind ((PySem.W.looks_clsIn I1.kIn hCls) A _ E s k (wpAny_pure q))) rfl I1.kIn ?_ ?_ xC rfl ?_
  · unfold PySem.W.ks_superIn at hm
    rw [hCls] at hm
    exact hm
  · have J : PySem.W.InstAt h1 a _ C none := ⟨hx1, rfl, rfl, trivial⟩
    exact J.type.andThen (PySem.W.looks_subIn I1.kIn hVE)
  have I2 : Inv X ((h1.objs.size, mwV a) :: pins) σ H ⟨h1.push (mwV a), g, d, t + 1, os⟩ :=
    pin_new (s := ⟨h1, g, d, t, os⟩) (u := h1.objs.size) (o := mwV a) (t' := t + 1) I1 (Nat.le_refl _) (fun b o e => Heap.get?_push_of_some _ e) (Heap.get?_push_size _ rfl) (fun v z => nomatch z)
  rw [hst]
  refine PySem.W.kxs_callWith (i := "ValueError.__init__") (x := a) (by show (false || (backTo p3 (starEach [] X.env)).any (·.1)) = false; rw [hpl]; rfl) ?_
  refine Calls.evalArgs_plain ?_
  have run := (pa_cons he1 pa_nil hst).run p3 ((h1.objs.size, mwV a) :: pins) _ σ H (fun vs H1 => vs = [.str txt] ∧ H1 = H) I2 ⟨rfl, rfl⟩
  rw [hst] at run
  refine thn run fun vs s2 hv => ?_
  obtain ⟨ws, H1, I3, r3, ew, eH⟩ := hv
  subst ew eH
  have hu := (I3.pin (h1.objs.size, mwV a) (by simp)).1
  refine ⟨hu, ?_⟩
  obtain ⟨t2, hx2⟩ := exo_at I3.hok ea
  obtain ⟨h3, g3, d3, t3, os3⟩ := s2
  have hlen : vs.length ≤ sizeLine := by
    rw [← Paired.length r3, sizeLine_eq]
    show 1 ≤ 16777216
    decide
  refine call_mwV (I3.kIn _ _ hC) hbm hx2 hu hlen fun h' t4 k hx4 => ?_
  have J := I3.write (t' := t3) (x := a) (e := a) (o := exo a C none) (by rw [ea]; exact True.intro) (.inl rfl) k ⟨_, hx4⟩ (exo_ok hx4)
  have eu : upd H1 a (exo a C none) = H1 := by
    funext b
    by_cases hb : b = a
    · rw [hb, upd_same, ea]
    · rw [upd_ne hb]
  rw [eu] at J
  exact q _ (J.pins_of fun p hp => J.pin p (List.mem_append_right _ (List.mem_cons_of_mem _ hp)))
end
end DL
namespace DL
open PySem PySem.Spec PyProof.Rows L2 NdefX
variable [Tn]
section
variable {P : Program} {w : World} {K : PySem.W.Frag} {mg : Str → Option Value} {base : Heap} {N ps : List Str} {F : NF} {f cda cc D : Addr} {k : Nat} {sp : Sp}
/-- what the written part says of an own __init__ that says super() -/
structure SupF (P : Program) (K : PySem.W.Frag) (mg : Str → Option Value) (F : NF) (f D : Addr) : Prop where
  fobj : ∃ oc od doc pm ctv osl ar, K.lookup f = some ⟨oc, od, .func (F.fd doc pm ctv), osl⟩ ∧ (F.params.posonlyargs ++ F.params.args).head? = some ar ∧ ar.arg = ("self" : Str)
  code : PySem.W.codeIn K (.ref F.c) F.qual = true
  file : ∃ oc vs file tf, K.lookup F.c = some oc ∧ oc.data = .fields vs ∧ vs[2]? = some (.str file tf) ∧ ((P.main.file : Str) == file) = true
  cell : ∃ cc occ, F.cl = [(("__class__" : Str), cc)] ∧ K.lookup cc = some occ ∧ occ.data = .cell (some (.ref D))
  cls : ∃ cd, PySem.W.clsIn K D = some cd
  top : (P.main.scope.names.lookup ("super" : Str)).isSome = false
  sup : mg "super" = none
  stat : PySem.W.nsIn K cStatics "thirdparty.any" = some none
  kS : F.scope.names.lookup ("super" : Str) = some .globalImplicit
  kC : F.scope.names.lookup ("__class__" : Str) = some .free
/-- what it says of a class whose __init__ that is -/
structure SupC (K : PySem.W.Frag) (C D : Addr) : Prop where
  oex : OexC K C
  sub : PySem.W.mroIn K C (.ref D) = some true
  ve : PySem.W.subIn K (.ref C) (.type "ValueError") = some true
  ini : PySem.W.ks_superIn K C D "__init__" = some (some (.builtin "ValueError.__init__"))
theorem fn_sup {rest : List Stmt} {txt : Str} {jj : Nat} {p0 p1 p2 p3 p4 p5 : Pos} (U : SupF P K mg F f D) (S : NScope N ps ["__class__"] F.scope) (h0 : ps[0]? = some ("self" : Str))
    (hbody : F.body = .Expr (.Call (.Attribute (.Call (.Name "super" p0) [] [] p1) "__init__" p2) [.Constant (.str txt) jj p5] [] p3) p4 :: rest)
    (hev : ∀ env : Env, ∃ pl : Sem Bool, eval (.Call (.Attribute (.Call (.Name "super" p0) [] [] p1) "__init__" p2) [.Constant (.str txt) jj p5] [] p3) env = (do
      let ov ← attributeBase (.Call (.Name "super" p0) [] [] p1) "__init__" env (eval (.Call (.Name "super" p0) [] [] p1) env)
      standAt p2.atName
      let (f, first) ← holding [ov] (getMethod ov "__init__" pl)
      callWith p3 f first (backTo p3 (starEach [.Constant (.str txt) jj p5] env)) []))
    (len : ∀ vs H Q E, sp vs H Q E → vs.length = ps.length)
    (hb : ∀ (A : Around) (outer : List Env) (s : Shared) (H : Hp) (vs : List V) (Q : VK) (E : XK), Room k (A.deeper (envF F f s.heap.objs.size)) → sp vs H Q E →
      (∃ a us C, vs = .ref a :: us ∧ SupC K C D ∧ H a = some (exo a C none)) ∧
      ∃ t, PSs (ncx CX0 P w K mg base N F f A outer s H E) rest t ∧ t { nx := fun _ H' => Q .non H', rt := Q } (startF N vs [none]) H) :
    ∃ fd, (∃ oc od osl, K.lookup f = some ⟨oc, od, .func fd, osl⟩) ∧ FnOk P w K mg base CX0 (k + 1) f fd ps sp := by
  obtain ⟨oc, od, doc, pm, ctv, osl, ar, lk, har, hself⟩ := U.fobj
  refine ⟨_, ⟨oc, od, osl, lk⟩, len, fun A outer s H args us vs Q E hr e0 hbd r hsp => ?_⟩
  have hl := len _ _ _ _ hsp
  have KX : K.In s.heap := e0.mod.kin.keeps fun b o e => (e0.bs b o e).1
  have lim : s.heap.NoLimit := e0.mod.nolimit.keeps fun b o e => (e0.bs b o e).1
  obtain ⟨cc, occ, ecl, hcc, hcd⟩ := U.cell
  refine codeAny_call_function hr.depth (KX _ _ lk) rfl S.co S.gen rfl (PySem.W.codeRec_of KX U.code) (hbd _ _ _ _ ?_)
  refine wpAny_newFunctionEnv S.nocell (fun ⟨n, _⟩ hy => S.par n (List.of_mem_zip hy).1) (fun h₁ hns hsb => ⟨lim.fresh _ hsb, ?_⟩) S.kind
  show codeAny _ _ (.func F.body (envF F f s.heap.objs.size)) _ _
  refine ks_codeAny_funcAt ?_
  have kp : ∀ b o, s.heap.get? b = some o → h₁.get? b = some o := fun b o e => hsb.extBut b o (Nat.ne_of_lt (Heap.lt_size e)) (Heap.get?_push_of_some _ e)
  obtain ⟨⟨a, us', C, ev, hC, ea⟩, t, ht, hq⟩ := hb A outer s H vs Q E (hr.deeper _) hsp
  have cA : CellsAt F.cl ["__class__"] [none] s.heap H := by
    refine ⟨rfl, fun y c e => ?_, fun x y c e1 e2 => ?_, fun i y e => ?_⟩
    · rw [ecl] at e
      have eq : c = cc := by
        unfold List.lookup at e
        split at e
        · exact (Option.some.inj e).symm
        · cases e
      subst eq
      exact ⟨(e0.bs _ _ (e0.mod.kin _ _ hcc)).2, _, occ, KX _ _ hcc, hcd⟩
    · rw [ecl] at e1 e2
      have k1 : x = "__class__" := by
        unfold List.lookup at e1
        split at e1
        · rename_i h; exact eq_of_beq h
        · cases e1
      have k2 : y = "__class__" := by
        unfold List.lookup at e2
        split at e2
        · rename_i h; exact eq_of_beq h
        · cases e2
      rw [k1, k2]
    · match i, e with
      | 0, e => cases e; exact ⟨cc, by rw [ecl]; rfl, fun v z => nomatch z⟩
      | i + 1, e => simp at e
  have I : Inv (ncx CX0 P w K mg base N F f A outer s H E) [] (startF N vs [none]) H { s with heap := h₁, toks := s.toks + (ps.zip us).length } := inv_startN S hr.hd e0 hl r cA hns kp
  obtain ⟨occ2, vsc, file, tf, hcod, hdat, hvs, hfile⟩ := U.file
  obtain ⟨cdD, hD⟩ := U.cls
  have hN0 : N[0]? = some ("self" : Str) := by
    have e : (N.take (ps.length + 1))[0]? = some ("self" : Str) := by
      have := S.pre
      show (N.take (ps.length + (["__class__"] : List Str).length))[0]? = _
      rw [this]
      cases ps with
      | nil => cases h0
      | cons p ps => exact h0
    rw [List.getElem?_take] at e
    rw [if_pos (by omega)] at e
    exact e
  have hs0 : (startF N vs [none])[0]? = some (some (.ref a)) := by rw [ev]; rfl
  have fin : ∀ {σ' : L2.St} {H' : Hp} {v : V} {u : Value} {s' : Shared}, Inv (ncx CX0 P w K mg base N F f A outer s H E) [] σ' H' s' → L2.RelV v u → Q v H' → CE outer P w H s Q u s' :=
    fun {σ' H' v u s'} J rv q => ⟨v, H', J.os, J.bare, J.base, J.hok, rv, q⟩
  rw [hbody]
  obtain ⟨pl, hev⟩ := hev (ncx CX0 P w K mg base N F f A outer s H E).env
  refine ks_wpAt_execs_cons (super_stmt (pl := pl) (X := ncx CX0 P w K mg base N F f A outer s H E) I rfl rfl (cc := cc) (by show F.cl.lookup _ = _; rw [ecl]; rfl) lk rfl har hcod hdat hvs hfile hcc hcd hD U.kS U.kC ?_ U.top U.sup hC.oex ea (i := 0) ?_ hs0 hC.sub hC.ve U.stat hC.ini pe_str rfl (fun s' J => ?_) (hin := by show (F.scope.kind == _ && _) = false; rw [S.kind]; rfl) (hev := hev))
  · rw [hself]; exact S.par _ (List.mem_of_getElem? h0)
  · rw [hself]; exact hN0
  refine wpAt_of_wpAny (wpAny_mono (ht.run [] s' (startF N vs [none]) H _ J hq) (fun fl s' hs => ?_) fun e s' hs => hs)
  cases fl with
  | ret u =>
    obtain ⟨v, σ', H', J, rv, q⟩ := hs
    exact fin J rv q
  | next =>
    obtain ⟨σ', H', J, q⟩ := hs
    exact fin (v := V.non) (u := Value.none) J rfl q
  | brk =>
    obtain ⟨_, _, _, q⟩ := hs
    exact False.elim q
  | cont =>
    obtain ⟨_, _, _, q⟩ := hs
    exact False.elim q
end
end DL
namespace PySem
namespace DLx
open PySem.W PySem.Calls PyProof.Rows PySem.HandSPX
/-! errors as values: C(.., k = v), C over ValueError; e.f; isinstance(e, D) -/
section
variable {M : Model} {A : Around} {E : Value → Shared → Prop} {h : Heap} {g : Array GenState} {d : Drawn} {t : Nat} {os : OsState}
variable {nm q : Str} {C N : Addr} {bs bm bB : List Value} {hdct : Bool} {sn : List Str} {sub : List Value} {ab : Bool} {col : Option Bool} {dd : Option Addr} {k0 k1 k2 k3 k5 : Option Value} {B nI iI : String}
theorem chk_new (F : ExcBaseFacts B nI iI bB) (hT : ∀ X : String, bm.contains (.type X) = bB.contains (.type X)) {us : List Value} {kw : List (Str × Value)} {Q : Unit → Shared → Prop}
    (oC : h.get? C = some (excClassObj nm q C N bs bm hdct sn sub ab col dd k0 k1 k2 k3 k5 nI)) (fin : Q () ⟨h, g, d, t, os⟩) : wpAny M A (checkBuiltinCall nI ⟨.ref C :: us, kw⟩) Q E ⟨h, g, d, t, os⟩ := by
  have cB : (Value.ref C :: bm).contains (.type B) = true := by
    rw [List.contains_cons, hT, F.hasB, Bool.or_true]
  have st := F.noStar
  simp only [checkBuiltinCall, F.newKind, F.newSplit, F.newRow]
  repeat (first | refine wpAny_loadPart_at oC ?_ | (refine wpAny_isSubtype_exc oC ?_; rw [cB]) | refine wpAny_staticBase_exc oC ?_ | refine wpAny_madeBy_exc oC ?_ | simp only [bne_self_eq_false, Bool.false_eq_true, if_false] | wp_step)
  all_goals first | exact fin | skip
end
section
variable {prog : Program} {w : World} {A : Around} {E : Value → Shared → Prop} {R : Result → Shared → Prop} {h : Heap} {g : Array GenState} {d : Drawn} {t : Nat} {os : OsState}
variable {nm q : Str} {C N : Addr} {bs bm bB : List Value} {hdct : Bool} {sn : List Str} {sub : List Value} {ab : Bool} {col : Option Bool} {dd : Option Addr} {k0 k1 k2 k3 k5 : Option Value} {B nI iI : String}
theorem new_kw (F : ExcBaseFacts B nI iI bB) (hT : ∀ X : String, bm.contains (.type X) = bB.contains (.type X)) {us : List Value} {kw : List (Str × Value)}
    (oC : h.get? C = some (excClassObj nm q C N bs bm hdct sn sub ab col dd k0 k1 k2 k3 k5 nI))
    (fin : R (.ok (.ret (.ref (h.objs.size + 1)))) ⟨(h.push (PySem.W.kdv_tup us)).push (excO C h.objs.size), g, d, t, os⟩) (hz : us.length ≤ sizeLine) :
    codeAny (model prog w) A (.builtin nI ⟨.ref C :: us, kw⟩) R ⟨h, g, d, t, os⟩ := by
  have en := F.ends
  have cB : (Value.ref C :: bm).contains (.type B) = true := by
    rw [List.contains_cons, hT, F.hasB, Bool.or_true]
  have cA : (Value.ref C :: bm).contains (.type "AttributeError") = false := by
    rw [List.contains_cons, hT, F.noAttr]; rfl
  have cN : (Value.ref C :: bm).contains (.type "NameError") = false := by
    rw [List.contains_cons, hT, F.noName]; rfl
  refine codeAny_builtinAt F.entry ?_
  unfold Builtin.«BaseException.__new__»
  refine wpAt_bind ?_
  show wpAt _ _ _ (stack >>= _) _ _ _
  refine wpAt_bind (wpAt_stack fun p below => wpAt_of_wpAny ?_)
  wp_walk
  refine wpAt_of_wpAny ?_
  rw [F.owner]
  repeat (first | with_reducible refine wpAny_madeHere_exc F.canon oC ?_ | with_reducible refine wpAny_loadPart_at oC ?_ | (with_reducible refine wpAny_isSubtype_exc oC ?_; first | rw [cB] | rw [cA] | rw [cN]) | wp_step)
  show R _ _
  rw [Heap.size_push]
  exact fin
theorem typ_kw (F : ExcBaseFacts B nI iI bB) (hT : ∀ X : String, bm.contains (.type X) = bB.contains (.type X)) {us : List Value} {kw : List (Str × Value)} {fI : Addr} {Q : Fin → Shared → Prop}
    (oC : h.get? C = some (excClassObj nm q C N bs bm hdct sn sub ab col dd k0 k1 k2 k3 k5 nI))
    (li : W.Looks (model prog w) h (typeLookup (.ref C) "__init__") (some (.ref fI))) (lb : ∀ self, W.Looks (model prog w) h (bindSpecial (.ref fI) self) (.ref fI, [self])) (hz : us.length ≤ sizeLine)
    (go : codeAny (model prog w) A (.call (.ref fI) ⟨.ref (h.objs.size + 1) :: us, kw⟩)
      (fun r s' => match r with | .ok (.ret v) => v = .none ∧ Q (.done (.ret (.ref (h.objs.size + 1)))) s' | .ok _ => False | .error e => E e s') ⟨(h.push (W.kdv_tup us)).push (excO C h.objs.size), g, d, t, os⟩) :
    wpAny (model prog w) A (Builtin.«type.__call__» ⟨.ref C :: us, kw⟩) Q E ⟨h, g, d, t, os⟩ := by
  repeat (first | with_reducible refine wpAny_loadPart_at oC ?_ | with_reducible refine wpAny_madeBy_exc oC ?_ | wp_step)
  refine codeAny_call_builtin_code (Code.quiet_builtin _ F.quiet) (chk_new F hT oC ?_)
  refine new_kw F hT oC ?_ hz
  show wpAny _ _ _ _ _ _
  have kk : ∀ b o, h.get? b = some o → ((h.push (W.kdv_tup us)).push (excO C h.objs.size)).get? b = some o := by
    exact fun b o e => Heap.get?_push_of_some _ (Heap.get?_push_of_some _ e)
  have oC2 := kk _ _ oC
  have gt : ((h.push (W.kdv_tup us)).push (excO C h.objs.size)).get? (h.objs.size + 1) = some (excO C h.objs.size) := by
    heap_get
  have cC : (Value.ref C :: bm).contains (.ref C) = true := by simp
  have i1 := li.keeps kk
  have b1 := (lb (.ref (h.objs.size + 1))).keeps kk
  unfold isInstance
  repeat (first | with_reducible refine wpAny_loadPart_at gt ?_ | (with_reducible refine wpAny_isSubtype_exc oC2 ?_; rw [cC]) | wp_step)
  show wpAny _ _ (typeLookup (.ref C) _) _ _ _
  refine i1.at ?_
  refine wpAny_holding (wpAny_bind (b1.at ?_))
  refine wpAny_bind (wpAny_call (codeAny_mono go fun r s' z => ?_))
  rcases r with e | (v | _ | _ | _) <;> first | exact z | exact z.elim | skip
  obtain ⟨rfl, z⟩ := z
  first
    | exact wpAny_pure (wpAny_pure z)
    | (wp_walk; exact z)
theorem call_kw (F : ExcBaseFacts B nI iI bB) (hT : ∀ X : String, bm.contains (.type X) = bB.contains (.type X)) {us : List Value} {kw : List (Str × Value)} {fI : Addr}
    (oC : h.get? C = some (excClassObj nm q C N bs bm hdct sn sub ab col dd k0 k1 k2 k3 k5 nI))
    (li : W.Looks (model prog w) h (typeLookup (.ref C) "__init__") (some (.ref fI))) (lb : ∀ self, W.Looks (model prog w) h (bindSpecial (.ref fI) self) (.ref fI, [self])) (hz : us.length ≤ sizeLine)
    (go : codeAny (model prog w) (A.under (.builtin "type.__call__" ⟨.ref C :: us, kw⟩)) (.call (.ref fI) ⟨.ref (h.objs.size + 1) :: us, kw⟩) (W.InitBack (h.objs.size + 1) R) ⟨(h.push (W.kdv_tup us)).push (excO C h.objs.size), g, d, t, os⟩) :
    codeAny (model prog w) A (.call (.ref C) ⟨us, kw⟩) R ⟨h, g, d, t, os⟩ := by
  have f1 := tc_lookup
  have f2 := tc_bind (.ref C)
  have hTy : (⟨h, g, d, t, os⟩ : Shared).TypeIs (.ref C) "type" := ⟨_, oC, rfl⟩
  refine codeAny_of_tree ?_
  show wpAny _ _ (callAny (.ref C) _) _ _ _
  repeat (any_goals (first | assumption | with_reducible refine wpAny_loadPart_at oC ?_ | wp_step))
  refine ⟨rfl, ?_⟩
  refine codeAny_call_builtin_at (Code.quiet_builtin _ (by decide +kernel)) entry_typeCall (wpAny_check_type_call_sub oC (typ_kw F hT oC li lb hz ?_))
  refine codeAny_mono go fun r s' z => ?_
  rcases r with e | (v | _ | _ | _) <;> exact z
end
end DLx
end PySem
namespace DL
open PySem PySem.Spec PyProof.Rows L2 NdefX PySem.HandSPX PySem.DLx
variable [Tn]
/-- C(..): the values in order, C's own __init__ keeping sp; the error stands as a value -/
def tMkX (C : Addr) (nn mm : Nat) (sp : Sp) (gV : List V → List V → List V) (E : XK) (t tk : TA) : TE := fun σ H Q => t σ H fun vs H1 => tk σ H1 fun zs H2 => vs.length = nn ∧ zs.length = mm ∧
  ∀ a, H2 a = none → sp (gV (.ref a :: vs) zs) (upd H2 a (exo a C none)) (fun v H3 => v = .non ∧ Q (.ref a) H3) E
section
variable {X : Cx} {CX : CXT} {k nn : Nat} {f C : Addr} {fd : FuncData} {ps ks : List Str} {sp : Sp} {E : XK} {x : Str} {p pos : Pos} {e : Expr} {es : List Expr} {kws : List Keyword} {t tk : TA} {g : List Value → List Value → List Value} {gV : List V → List V → List V}
theorem run_mkX {pins : List (Addr × Obj)} {σ : L2.St} {H : Hp} {s : Shared} {Q : VK} {us ws : List Value} {vs zs : List V} (T : OexC X.K C) (iC : PySem.W.findIn X.K (.ref C) "__init__" = some (some (.ref f))) (tI : PySem.W.typeIn X.K (.ref f) = some (.type "function"))
    (F : FnOk X.prog X.w X.K X.mg X.base CX k f fd ps sp) (hr : Room (k + 1) X.A) (hb : KBn X.K fd ps (nn + 1) ks g gV) (hx : Passes CX X E) (I : Inv X pins σ H s) (r : Vals vs us) (rz : Vals zs ws) (l1 : vs.length = nn) (l2 : zs.length = ks.length) (hn : nn ≤ 1000)
    (h : ∀ a, H a = none → sp (gV (.ref a :: vs) zs) (upd H a (exo a C none)) (fun v H2 => v = .non ∧ Q (.ref a) H2) E) :
    wpAny (model X.prog X.w) X.A (call (.ref C) us (ks.zip ws)) (L2.EP X pins σ Q) X.xe s := by
  obtain ⟨nm, q, N, bs, bm, sn, sub, ab, col, dd, k0, k1, k2, k3, k5, hC, hbm⟩ := T.cls
  obtain ⟨hp, gg, dr, tk0, os⟩ := s
  have hsz : hp.objs.size ≤ hp.objs.size + 1 := Nat.le_succ _
  have hnn : H (hp.objs.size + 1) = none := I.hok.fresh hsz
  have hq := h (hp.objs.size + 1) hnn
  have kk : ∀ b o, hp.get? b = some o → ((hp.push (PySem.W.kdv_tup us)).push (excO C hp.objs.size)).get? b = some o := by
    exact fun b o e => Heap.get?_push_of_some _ (Heap.get?_push_of_some _ e)
  have gt : ((hp.push (PySem.W.kdv_tup us)).push (excO C hp.objs.size)).get? (hp.objs.size + 1) = some (excO C hp.objs.size) := by
    heap_get
  have I2 : Inv X pins σ (upd H (hp.objs.size + 1) (exo (hp.objs.size + 1) C none)) ⟨(hp.push (PySem.W.kdv_tup us)).push (excO C hp.objs.size), gg, dr, tk0, os⟩ := by
    exact I.laid (t' := tk0) (a := hp.objs.size + 1) (o := exo (hp.objs.size + 1) C none) (h' := (hp.push (PySem.W.kdv_tup us)).push (excO C hp.objs.size)) kk hsz (exo_ok gt)
  have r1 : Vals (V.ref (hp.objs.size + 1) :: vs) (Value.ref (hp.objs.size + 1) :: us) := .cons rfl r
  have r2 := hb.rel r1 rz
  have e1 : (Value.ref (hp.objs.size + 1) :: us).length = nn + 1 := r1.length.symm.trans (congrArg Nat.succ l1)
  have e2 : ws.length = ks.length := rz.length.symm.trans l2
  have hus : us.length ≤ sizeLine := by
    rw [← Paired.length r, l1, sizeLine_eq]
    omega
  refine wpAny_call (call_kw PySem.F.excBase_ValueError (fun Y => refsVE_contains Y bm hbm) (I.kIn _ _ hC) (PySem.W.looks_findIn I.kIn iC) (fun self => PySem.W.bind_fn I.kIn self tI) hus
    (codeAny_mono (F.run _ X.stack _ _ ⟨Value.ref (hp.objs.size + 1) :: us, ks.zip ws⟩ (g (Value.ref (hp.objs.size + 1) :: us) ws) _ _ E (hr.make C us (ks.zip ws)) (I2.env0.make C us (ks.zip ws)) (hb.to _ (Value.ref (hp.objs.size + 1) :: us) ws I2.kIn e1 e2) r2 hq) fun r s' hq' => ?_))
  cases r with
  | error er => exact hx pins σ _ _ er s' I2 hq'
  | ok fl =>
    cases fl with
    | ret u =>
      obtain ⟨v, H3, I3, rv, ev, q3⟩ := I2.after hq'
      subst ev
      exact ⟨rv, ⟨V.ref (hp.objs.size + 1), H3, I3, rfl, q3⟩⟩
    | next => exact hq'.elim
    | brk => exact hq'.elim
    | cont => exact hq'.elim
theorem pe_mkX (T : OexC X.K C) (iC : PySem.W.findIn X.K (.ref C) "__init__" = some (some (.ref f))) (tI : PySem.W.typeIn X.K (.ref f) = some (.type "function"))
    (F : FnOk X.prog X.w X.K X.mg X.base CX k f fd ps sp) (hr : Room (k + 1) X.A) (hg : Gl X x) (hm : X.mg x = some (.ref C)) (hb : KBn X.K fd ps (nn + 1) ks g gV) (hx : Passes CX X E) (hn : nn ≤ 1000) (ha : PA X (e :: es) t) (hkw : PK X kws tk)
    (hall : (backToKw pos (keywordEach kws X.env)).all (·.1.isSome) = true := by rfl) (hks : (backToKw pos (keywordEach kws X.env)).filterMap (·.1) = ks := by rfl)
    (hdb : (x == ("__debug__" : Str)) = false := by decide) (he : starEach (e :: es) X.env = (false, eval e X.env) :: starEach es X.env := by rfl)
    (hpl : ((backTo pos (starEach (e :: es) X.env)).any (·.1) || (backToKw pos (keywordEach kws X.env)).any (·.1.isNone)) = false := by rfl) :
    PE X (.Call (.Name x p) (e :: es) kws pos) (tMkX C nn ks.length sp gV E t tk) := by
  constructor
  intro pins s σ H Q I h
  apply wpAny_Call_Name_kw (ld_glob I hg hm ?_ hdb)
  apply PySem.W.callWith_KW (h₀ := X.base) I.ok.mod.kin T.kC hall ?_ hpl he
  apply thn (ha.run pos pins s σ H _ I h)
  rintro us s1 ⟨vs, H1, I1, r1, q1⟩
  apply thn (hkw.run pos pins s1 σ H1 _ I1 q1)
  rintro ws s2 ⟨zs, H2, I2, rz, l1, l2, q2⟩
  refine ⟨I2.kIn, ?_⟩
  rw [hks]
  exact run_mkX T iC tI F hr hb hx I2 r1 rz l1 l2 hn q2
theorem pe_mkX0 (T : OexC X.K C) (iC : PySem.W.findIn X.K (.ref C) "__init__" = some (some (.ref f))) (tI : PySem.W.typeIn X.K (.ref f) = some (.type "function"))
    (F : FnOk X.prog X.w X.K X.mg X.base CX k f fd ps sp) (hr : Room (k + 1) X.A) (hg : Gl X x) (hm : X.mg x = some (.ref C)) (hb : KBn X.K fd ps 1 ks g gV) (hx : Passes CX X E) (hkw : PK X kws tk)
    (hall : (backToKw pos (keywordEach kws X.env)).all (·.1.isSome) = true := by rfl) (hks : (backToKw pos (keywordEach kws X.env)).filterMap (·.1) = ks := by rfl)
    (hdb : (x == ("__debug__" : Str)) = false := by decide)
    (hpl : ((backTo pos (starEach [] X.env)).any (·.1) || (backToKw pos (keywordEach kws X.env)).any (·.1.isNone)) = false := by rfl) :
    PE X (.Call (.Name x p) [] kws pos) (tMkX C 0 ks.length sp gV E tNil tk) := by
  constructor
  intro pins s σ H Q I h
  apply wpAny_Call_Name_kw (ld_glob I hg hm ?_ hdb)
  apply PySem.W.callWith_KW0 (h₀ := X.base) I.ok.mod.kin T.kC hall ?_ hpl
  apply thn (hkw.run pos pins s σ H _ I h)
  rintro ws s2 ⟨zs, H2, I2, rz, l1, l2, q2⟩
  refine ⟨I2.kIn, ?_⟩
  rw [hks]
  exact run_mkX (us := []) T iC tI F hr hb hx I2 .nil rz rfl l2 (Nat.zero_le _) q2
/-! e.f, e an error that stands as a value -/
/-- an error stands at a: made and kept, or caught -/
def ErrAt (H : Hp) (a C dx : Addr) (fs : List (Str × V)) : Prop := (H a = some (exo a C (some dx)) ∧ H dx = some (exd dx fs)) ∨ (H a = some (xob a C dx) ∧ H dx = some (.xd fs))
theorem ErrAt.ext {H H' : Hp} {a C dx : Addr} {fs : List (Str × V)} (h : ErrAt H a C dx fs) (e : Evl.Ex H H') : ErrAt H' a C dx fs := by
  rcases h with ⟨h1, h2⟩ | ⟨h1, h2⟩
  · exact .inl ⟨e _ _ h1, e _ _ h2⟩
  · exact .inr ⟨e _ _ h1, e _ _ h2⟩
/-- what it is in the machine -/
theorem ErrAt.inst {P : Program} {w : World} {H : Hp} {h : Heap} {a C dx : Addr} {fs : List (Str × V)} (hok : HOk P w H h) (e : ErrAt H a C dx fs) :
    ∃ (ox od : Obj) (mA : Str → Option Value), PySem.W.InstAt h a ox C (some od) ∧ ox.dict = some dx ∧ h.get? dx = some od ∧ (∀ n, PySem.W.lookIn n od = some (mA n)) ∧ ∀ f, RelO (fs.lookup f) (mA f) := by
  rcases e with ⟨ea, ed⟩ | ⟨ea, ed⟩
  · obtain ⟨t1, ho⟩ := exo_at hok ea
    obtain ⟨mA, hns, hr⟩ := exd_at hok ed
    obtain ⟨od, hod, hl⟩ := lookIn_ns hns
    exact ⟨_, od, mA, ⟨ho, rfl, rfl, hod⟩, rfl, hod, hl, hr⟩
  · have x : ObjOk P w H h a (.ext fun h => ∃ (oe : Obj) (vs : Array Value), h.get? a = some oe ∧ oe.cls = .ref C ∧ oe.dict = some dx ∧ oe.data = .fields vs) := hok a _ ea
    obtain ⟨oe, vs, h1, h2, h3, h4⟩ := x.1
    have y : ObjOk P w H h dx (.xd fs) := hok dx _ ed
    obtain ⟨mA, hns, hr⟩ := y
    obtain ⟨od, hod, hl⟩ := lookIn_ns hns
    exact ⟨oe, od, mA, ⟨h1, h2, by unfold PySem.W.notCls; rw [h4], by rw [h3]; exact hod⟩, h3, hod, hl, hr⟩
def tExF (K : Fg) (te : TE) (f : Str) : TE := fun σ H Q => te σ H fun x H1 => ∃ a C dx fs v, x = .ref a ∧ ErrAt H1 a C dx fs ∧ XfC K C ∧ PySem.W.findIn K (.ref C) f = some none ∧ fs.lookup f = some v ∧ Q v H1
theorem pe_exf {te : TE} {n : Str} (he : PE X e te) (hb : attributeBase e n X.env (eval e X.env) = eval e X.env := by rfl) : PE X (.Attribute e n pos) (tExF X.K te n) := by
  constructor
  intro pins s σ H Q I h
  refine attr_of hb (thn (he.run pins s σ H _ I h) fun u s1 ⟨y, H1, I1, rx, a, C, dx, fs, v, ey, ea, T, hno, l, q⟩ => ?_)
  subst ey
  obtain rfl : u = Value.ref a := rx
  obtain ⟨ox, od, mA, J, hdx, hod, hl, hr⟩ := ea.inst I1.hok
  obtain ⟨w, hw, rw'⟩ := RelO.some_of (v := v) (o := mA n) (by rw [← l]; exact hr n)
  exact exc_get I1.kIn J T.ga T.gg T.exC (PySem.W.findObj_own T.hdC hno rfl (by rw [hl, hw])) (handed_of rw') ⟨v, H1, I1.tok _, rw', q⟩
end
/-! isinstance(e, D) -/
section
open PySem.W
variable {prog : Program} {w : World} {A : Around} {E : Value → Shared → Prop} {s : Shared} {K : PySem.W.Frag} {x D : Addr} {ox : Obj} {od : Option Obj}
theorem obj_dataG {C : Addr} {name : Str} {a g : Value} (hc : (clsIn K C).isSome = true) (ha : findIn K (.ref C) name = some (some a)) (hg : specialIn K a "__get__" = some (some g)) (ht : takesIn K a = some true) : findObj K C od name = some (.bind g a) := by
  obtain ⟨cd, e⟩ := Option.isSome_iff_exists.mp hc
  unfold findObj
  rw [e, Option.bind_some, ha, Option.bind_some]
  simp [hg, ht]
theorem kin_clsE {Q : Option Value → Shared → Prop} (c : ExcC K D) (X : K.In s.heap) (I : InstAt s.heap x ox D od) (h : Q (some (.ref D)) { s with toks := s.toks + 1 }) : wpAny (model prog w) A (getAttr? (.ref x) "__class__") Q E s := by
  have hf : findObj K D od "__class__" = some (.bind (.builtin "getset_descriptor.__get__") (.builtin "object.__class__")) := by
    exact obj_dataG (by obtain ⟨cd, e, _⟩ := any_some c.hd; rw [e]; rfl) c.ha c.hn c.ht
  obtain ⟨hp, g, d, t, os⟩ := s
  have l0 := I.type (M := model prog w)
  have l1 := looks_findIn (M := model prog w) X c.hg
  have l2 := looks_findIn (M := model prog w) X c.hk
  have l3 := looks_find (M := model prog w) X I hf
  have sub : Looks (model prog w) hp (isInstance (.ref x) (.type "BaseException")) true := by
    exact l0.andThen (looks_subIn X c.hs)
  have z0 : (false && onTheHeap (Value.builtin "BaseException.__getattribute__")) = false := by rfl
  have z2 : (Value.builtin "BaseException.__getattribute__" == Value.builtin "object.__getattribute__") = false := by decide +kernel
  have z1 : (onTheHeap (Value.ref D) && Value.builtin "BaseException.__getattribute__" == Value.builtin "object.__getattribute__") = false := by
    rw [z2]; rfl
  unfold getAttr? getAttrBy? getAttrBy
  refine wpAny_bind (wpAny_mkText (wpAny_bind (wpAny_attempt (wpAny_holding (wpAny_bind (l0.at (wpAny_bind (l1.at ?_))))))))
  show wpAny _ _ (if (onTheHeap (Value.ref D) && Value.builtin "BaseException.__getattribute__" == Value.builtin "object.__getattribute__") = true then _ else _) _ _ _
  rw [z1, if_neg Bool.false_ne_true]
  unfold getAttrByItsOwn hookBefore
  refine wpAny_bind ?_
  rw [if_pos (show onTheHeap (Value.ref D) = true from rfl)]
  refine l2.at ?_
  refine wpAny_bind (wpAny_attempt (wpAny_holding ?_))
  unfold callGetattribute
  rw [z0, if_neg Bool.false_ne_true]
  unfold boundAndCalled
  rw [PySem.F.excAttr_ValueError.ga.bind (.ref x)]
  refine wpAny_bind (wpAny_pure ?_)
  show wpAny _ _ (call (.builtin "BaseException.__getattribute__") [.ref x, .str "__class__" t]) _ _ _
  refine wpAny_call (codeAny_call_builtin PySem.F.excAttr_ValueError.ga.plain PySem.F.entry_bexc_ga ?_)
  refine @check_slot (model prog w) _ _ ⟨hp, g, d, t + 1, os⟩ "BaseException.__getattribute__" "BaseException" "__getattribute__" (.ref x) [.str "__class__" t] [] _ (by decide +kernel) (by decide +kernel) sub (PySem.F.args_bexc_ga (.ref x) (.str "__class__" t)) ?_
  unfold Builtin.«object.__getattribute__»
  refine wpAny_bind (wpAny_of_eq (a := ((Value.ref x : Value), [Value.str "__class__" t])) (by first | rfl | (simp only [slotArgs]; rfl)) ?_)
  refine wpAny_bind (wpAny_pure (wpAny_bind (l0.at (wpAny_bind (l3.at ?_)))))
  show wpAny _ _ (holding [Value.builtin "object.__class__"] (call (.builtin "getset_descriptor.__get__") [.builtin "object.__class__", .ref x, .ref D]) >>= ret) _ _ _
  refine wpAny_bind (wpAny_holding (wpAny_call (class_get (s := ⟨hp, g, d, t + 1, os⟩) (ox := ox) (od := od) X I c.hm ?_)))
  refine wpAny_pure ?_
  show wpAny _ _ (handedOut (.ref D)) _ _ _
  rw [handedOut_of (v := .ref D) rfl]
  first
    | exact wpAny_pure (wpAny_pure h)
    | exact wpAny_pure h
    | exact wpAny_pure (wpAny_bind (wpAny_pure (wpAny_pure h)))
theorem kitx_err (c : ExcC K D) : KitX K (.ref x) (.ref D) (fun h => ∃ ox od, InstAt h x ox D od) where
  ty := fun _ _ _ ⟨_, _, I⟩ => I.type
  it := fun _ _ X _ => by
    obtain ⟨cdD, e, _⟩ := any_some c.hd
    unfold clsIn at e
    split at e
    · rename_i c' d' cd' sl' ho
      intro A' Q' E' s' k q
      unfold isType loadHead
      exact wpAny_bind (wpAny_loadPart (k _ _ (X _ _ ho)) (wpAny_pure q))
    · cases e
  ne := fun h tp dd its n sl X htp => by
    obtain ⟨cdD, e, _⟩ := any_some c.hd
    refine Bool.eq_false_iff.mpr fun q => ?_
    have e2 : D = tp := Value.ref.inj (beq_iff_eq.mp q)
    subst e2
    unfold clsIn at e
    split at e
    · rename_i c' d' cd' sl' ho
      have z := (X _ _ ho).symm.trans htp
      cases z
    · cases e
  ca := fun X ⟨_, _, I⟩ k => kin_clsE c X I k
end
section
/-- isinstance(e, c), e an error that stands as a value -/
def rIsX (K : Fg) : List V → Hp → VK → Prop := fun xs H Q => ∃ (a C dx : Addr) (c : V) (u : Value) (b : Bool), xs = [.ref a, c] ∧ ClsV c u ∧ (∃ fs, ErrAt H a C dx fs) ∧ ExcC K C ∧ PySem.W.kitOne K (.ref C) u = some b ∧ Q (.bl b) H
theorem cr_isX {X : Cx} : CallR X (.builtin "isinstance") (rIsX X.K) := by
  intro pins s σ H xs us Q I r h
  obtain ⟨a, C, dx, c, u, b, rfl, k, ⟨fs, ea⟩, T, e, q⟩ := h
  obtain ⟨u1, u2, rfl, r1, r2⟩ := vals2 r
  have e2 := k.eq r2
  subst e2
  obtain rfl : u1 = Value.ref a := r1
  obtain ⟨ox, od, mA, J, hdx, hod, hl, hr⟩ := ea.inst I.hok
  exact PySem.W.kia_one (kitx_err T) I.kIn ⟨ox, some od, J⟩ e (fun z => nomatch z) fun tk => ⟨.bl b, H, I.tok tk, rfl, q⟩
end
end DL
namespace DL
open PySem PySem.Spec PyProof.Rows L2 NdefX PySem.HandSPX
variable [Tn]
/-! errors over data -/
/-- an own __init__ that keeps its arguments under the names ns -/
def spErr (C : Addr) (ns : List Str) : Sp := fun vs H Q _ => ∃ a us, vs = .ref a :: us ∧ us.length = ns.length ∧ H a = some (exo a C none) ∧
  ∀ dx, H dx = none → dx ≠ a → Q .non (upd (upd H dx (exd dx (ns.zip us).reverse)) a (exo a C (some dx)))
/-- what the text has of an error class with its own __init__ at st -/
structure ErrT (P : Program) (K : Fg) (mg : Str → Option Value) (st : Stmt) (C : Addr) (ns : List Str) : Prop where
  xf : XfC K C
  exc : ExcC K C
  no : ∀ f ∈ ns, PySem.W.findIn K (.ref C) f = some none
  sup : SupC K C C
  ini : ∃ f F, PySem.W.findIn K (.ref C) "__init__" = some (some (.ref f)) ∧ PySem.W.typeIn K (.ref f) = some (.type "function") ∧ SupF P K mg F f C ∧ F.params = defArgs st ∧ F.body = defBody st ∧ F.scope = defScope st
structure HasE (P : Program) (w : World) (K : Fg) (mg : Str → Option Value) (base : Heap) (k : Nat) (st : Stmt) (C : Addr) (ns : List Str) : Prop where
  oex : OexC K C
  ex : ∃ f F doc pm ctv, PySem.W.findIn K (.ref C) "__init__" = some (some (.ref f)) ∧ PySem.W.typeIn K (.ref f) = some (.type "function") ∧ F.params = defArgs st ∧ FnOk P w K mg base CX0 k f (NF.fd F doc pm ctv) ("self" :: ns) (spErr C ns)
section
variable {P : Program} {w : World} {K : Fg} {mg : Str → Option Value} {base : Heap} {st : Stmt} {C : Addr} {ns : List Str}
theorem len_err (vs : List V) (H : Hp) (Q : VK) (E : XK) (h : spErr C ns vs H Q E) : vs.length = (("self" : Str) :: ns).length := by
  obtain ⟨a, us, rfl, hl, _⟩ := h
  simp [hl]
theorem fn_supF {F : NF} {f D : Addr} {N ps : List Str} {sp : Sp} {k : Nat} {rest : List Stmt} {txt : Str} {jj : Nat} {p0 p1 p2 p3 p4 p5 : Pos} (U : SupF P K mg F f D) (S : NScope N ps ["__class__"] F.scope) (h0 : ps[0]? = some ("self" : Str))
    (hbody : F.body = .Expr (.Call (.Attribute (.Call (.Name "super" p0) [] [] p1) "__init__" p2) [.Constant (.str txt) jj p5] [] p3) p4 :: rest)
    (hev : ∀ env : Env, ∃ pl : Sem Bool, eval (.Call (.Attribute (.Call (.Name "super" p0) [] [] p1) "__init__" p2) [.Constant (.str txt) jj p5] [] p3) env = (do
      let ov ← attributeBase (.Call (.Name "super" p0) [] [] p1) "__init__" env (eval (.Call (.Name "super" p0) [] [] p1) env)
      standAt p2.atName
      let (f, first) ← holding [ov] (getMethod ov "__init__" pl)
      callWith p3 f first (backTo p3 (starEach [.Constant (.str txt) jj p5] env)) []))
    (len : ∀ vs H Q E, sp vs H Q E → vs.length = ps.length)
    (hb : ∀ (A : Around) (outer : List Env) (s : Shared) (H : Hp) (vs : List V) (Q : VK) (E : XK), Room k (A.deeper (envF F f s.heap.objs.size)) → sp vs H Q E →
      (∃ a us C, vs = .ref a :: us ∧ SupC K C D ∧ H a = some (exo a C none)) ∧
      ∃ t, PSs (ncx CX0 P w K mg base N F f A outer s H E) rest t ∧ t { nx := fun _ H' => Q .non H', rt := Q } (startF N vs [none]) H) :
    ∃ doc pm ctv, FnOk P w K mg base CX0 (k + 1) f (F.fd doc pm ctv) ps sp := by
  obtain ⟨fd, ⟨oc, od, osl, lk⟩, h⟩ := fn_sup U S h0 hbody hev len hb
  obtain ⟨oc2, od2, doc, pm, ctv, osl2, ar, lk2, _⟩ := U.fobj
  rw [lk] at lk2
  cases lk2
  exact ⟨doc, pm, ctv, h⟩
variable {f1 f2 : Str} {txt : Str} {jj : Nat} {p0 p1 p2 p3 p4 p5 q1 q2 q3 q4 q5 q6 q7 q8 : Pos}
abbrev supE (txt : Str) (jj : Nat) (p0 p1 p2 p3 p5 : Pos) : Expr := .Call (.Attribute (.Call (.Name "super" p0) [] [] p1) "__init__" p2) [.Constant (.str txt) jj p5] [] p3
abbrev SupEv (txt : Str) (jj : Nat) (p0 p1 p2 p3 p5 : Pos) : Prop := ∀ env : Env, ∃ pl : Sem Bool, eval (supE txt jj p0 p1 p2 p3 p5) env = (do
      let ov ← attributeBase (.Call (.Name "super" p0) [] [] p1) "__init__" env (eval (.Call (.Name "super" p0) [] [] p1) env)
      standAt p2.atName
      let (f, first) ← holding [ov] (getMethod ov "__init__" pl)
      callWith p3 f first (backTo p3 (starEach [.Constant (.str txt) jj p5] env)) [])
abbrev selfAs (f : Str) (q1 q2 q3 q4 : Pos) : Stmt := .Assign [.Attribute (.Name "self" q1) f q2] (.Name f q3) q4
theorem err1 (U : ErrT P K mg st C [f1]) (S : NScope ["self", f1, "__class__"] ["self", f1] ["__class__"] (defScope st)) (hb : defBody st = [.Expr (supE txt jj p0 p1 p2 p3 p5) p4, selfAs f1 q1 q2 q3 q4]) (hev : SupEv txt jj p0 p1 p2 p3 p5)
    (h1 : (f1 == ("__debug__" : Str)) = false) (h2 : (f1 == ("__classdict__" : Str)) = false) : HasE P w K mg base 1 st C [f1] := by
  obtain ⟨f, F, i, tI, SU, e1, e2, e3⟩ := U.ini
  refine ⟨U.sup.oex, f, F, ?_⟩
  rw [← e3] at S
  obtain ⟨doc, pm, ctv, h⟩ := fn_supF (w := w) (base := base) (k := 0) (sp := spErr C [f1]) (txt := txt) SU S rfl (e2.trans hb) hev len_err fun A outer s H vs Q E hr h => by
    obtain ⟨a, us, rfl, hl, ea, q⟩ := h
    match us, hl with
    | [y], _ =>
      refine ⟨⟨a, [y], C, rfl, U.sup, ea⟩, _, pss_one (ps_ost (pe_var (i := 0) rfl (Or.inl (S.par "self" (by simp)))) (pe_var (i := 1) rfl (Or.inl (S.par f1 (by simp))) h1 h2)), ?_⟩
      refine ⟨y, rfl, .ref a, rfl, a, C, rfl, U.sup.oex, U.no f1 (by simp), .inl ⟨ea, fun dx hd hne => ?_⟩⟩
      exact q dx hd hne
  exact ⟨doc, pm, ctv, i, tI, e1, h⟩
theorem err2 (U : ErrT P K mg st C [f1, f2]) (S : NScope ["self", f1, f2, "__class__"] ["self", f1, f2] ["__class__"] (defScope st)) (hb : defBody st = [.Expr (supE txt jj p0 p1 p2 p3 p5) p4, selfAs f1 q1 q2 q3 q4, selfAs f2 q5 q6 q7 q8]) (hev : SupEv txt jj p0 p1 p2 p3 p5)
    (h1 : (f1 == ("__debug__" : Str)) = false) (h2 : (f1 == ("__classdict__" : Str)) = false) (h3 : (f2 == ("__debug__" : Str)) = false) (h4 : (f2 == ("__classdict__" : Str)) = false) : HasE P w K mg base 1 st C [f1, f2] := by
  obtain ⟨f, F, i, tI, SU, e1, e2, e3⟩ := U.ini
  refine ⟨U.sup.oex, f, F, ?_⟩
  rw [← e3] at S
  obtain ⟨doc, pm, ctv, h⟩ := fn_supF (w := w) (base := base) (k := 0) (sp := spErr C [f1, f2]) (txt := txt) SU S rfl (e2.trans hb) hev len_err fun A outer s H vs Q E hr h => by
    obtain ⟨a, us, rfl, hl, ea, q⟩ := h
    match us, hl with
    | [y, z], _ =>
      refine ⟨⟨a, [y, z], C, rfl, U.sup, ea⟩, _, pss_cons (ps_ost (pe_var (i := 0) rfl (Or.inl (S.par "self" (by simp)))) (pe_var (i := 1) rfl (Or.inl (S.par f1 (by simp))) h1 h2))
        (pss_one (ps_ost (pe_var (i := 0) rfl (Or.inl (S.par "self" (by simp)))) (pe_var (i := 2) rfl (Or.inl (S.par f2 (by simp))) h3 h4))), ?_⟩
      refine ⟨y, rfl, .ref a, rfl, a, C, rfl, U.sup.oex, U.no f1 (by simp), .inl ⟨ea, fun dx hd hne => ?_⟩⟩
      refine ⟨z, rfl, .ref a, rfl, a, C, rfl, U.sup.oex, U.no f2 (by simp), .inr ⟨dx, [(f1, y)], upd_same, by rw [upd_ne hne, upd_same], by simp, ?_⟩⟩
      have e : upd (upd (upd H dx (exd dx [(f1, y)])) a (exo a C (some dx))) dx (exd dx [(f2, z), (f1, y)]) = upd (upd H dx (exd dx [(f2, z), (f1, y)])) a (exo a C (some dx)) := by
        funext b
        by_cases hb : b = dx
        · subst hb; rw [upd_same, upd_ne hne, upd_same]
        · rw [upd_ne hb]
          by_cases ha : b = a
          · subst ha; rw [upd_same, upd_same]
          · rw [upd_ne ha, upd_ne ha, upd_ne hb, upd_ne hb]
      show Q .non (upd (upd (upd H dx (exd dx [(f1, y)])) a (exo a C (some dx))) dx (exd dx [(f2, z), (f1, y)]))
      rw [e]
      exact q dx hd hne
  exact ⟨doc, pm, ctv, i, tI, e1, h⟩
end
/-! C(..) -/
/-- how arguments bind, for every function object of the text -/
def KwOkN (st : Stmt) (ps : List Str) (nn : Nat) (ks : List Str) (g : List Value → List Value → List Value) : Prop :=
  ∀ (F : NF) (doc pm ctv : Value) (us ws : List Value), F.params = defArgs st → us.length = nn → ws.length = ks.length → bindArgs (F.fd doc pm ctv) ⟨us, ks.zip ws⟩ = pure (ps.zip (g us ws))
section
variable {X : Cx} {k j nn : Nat} {C : Addr} {st : Stmt} {ns ks : List Str} {x : Str} {p pos : Pos} {e : Expr} {es : List Expr} {kws : List Keyword} {t tk : TA} {ix : List Nat}
theorem pe_mkE (h : HasE X.prog X.w X.K X.mg X.base j st C ns) (kw : KwOkN st ("self" :: ns) (nn + 1) [] (perm (0 :: ix.map (· + 1)))) (hr : Room k X.A) (hj : j + 1 ≤ k) (hm : X.mg x = some (.ref C)) (hn : nn ≤ 1000) (ha : PA X (e :: es) t) (hg : Gl X x := by rfl)
    (hdb : (x == ("__debug__" : Str)) = false := by decide) (he : starEach (e :: es) X.env = (false, eval e X.env) :: starEach es X.env := by rfl)
    (hpl : ((backTo pos (starEach (e :: es) X.env)).any (·.1) || (backToKw pos (keywordEach [] X.env)).any (·.1.isNone)) = false := by rfl) :
    PE X (.Call (.Name x p) (e :: es) [] pos) (tMkX C nn 0 (spErr C ns) (perm (0 :: ix.map (· + 1))) E0 t tNil) := by
  obtain ⟨oex, f, F, doc, pm, ctv, i, tI, eF, Fn⟩ := h
  exact pe_mkX (ks := []) oex i tI Fn (hr.mono hj) hg hm ⟨fun s us ws _ l1 l2 => .of_eq (kw F doc pm ctv us ws eF l1 l2), perm_rel _⟩ pass0 hn ha pk_nil rfl rfl hdb he hpl
theorem pe_mkE0 (h : HasE X.prog X.w X.K X.mg X.base j st C ns) (kw : KwOkN st ("self" :: ns) 1 ks (perm (0 :: ix.map (· + 1)))) (hr : Room k X.A) (hj : j + 1 ≤ k) (hm : X.mg x = some (.ref C)) (hkw : PK X kws tk) (hg : Gl X x := by rfl)
    (hall : (backToKw pos (keywordEach kws X.env)).all (·.1.isSome) = true := by rfl) (hks : (backToKw pos (keywordEach kws X.env)).filterMap (·.1) = ks := by rfl)
    (hdb : (x == ("__debug__" : Str)) = false := by decide)
    (hpl : ((backTo pos (starEach [] X.env)).any (·.1) || (backToKw pos (keywordEach kws X.env)).any (·.1.isNone)) = false := by rfl) :
    PE X (.Call (.Name x p) [] kws pos) (tMkX C 0 ks.length (spErr C ns) (perm (0 :: ix.map (· + 1))) E0 tNil tk) := by
  obtain ⟨oex, f, F, doc, pm, ctv, i, tI, eF, Fn⟩ := h
  exact pe_mkX0 oex i tI Fn (hr.mono hj) hg hm ⟨fun s us ws _ l1 l2 => .of_eq (kw F doc pm ctv us ws eF l1 l2), perm_rel _⟩ pass0 hkw hall hks hdb hpl
end
theorem perm_self {α : Type} (ix : List Nat) (x : α) (us ws : List α) : perm (0 :: ix.map (· + 1)) (x :: us) ws = x :: perm ix us ws := by
  unfold perm
  simp [List.filterMap_map, Function.comp_def]
section
variable {K : Fg} {Z : Xt} {pn : Option Addr} {As : List Addr} {H0 : Ent} {M M' H H' : Hp} {σ : L2.St} {Γ : List SA} {O : Own} {n m : Nat} {te ta tk : TE} {t u : TA} {C : Addr} {ns : List Str} {nn mm : Nat} {ix : List Nat} {E : XK}
theorem zip_fst {α β : Type} : ∀ {xs : List α} {ys : List β}, ys.length = xs.length → (xs.zip ys).map (·.1) = xs
  | [], [], _ => rfl
  | x :: xs, y :: ys, h => by simp [zip_fst (xs := xs) (ys := ys) (by simpa using h)]
theorem zip_snd {α β : Type} : ∀ {xs : List α} {ys : List β}, ys.length = xs.length → (xs.zip ys).map (·.2) = ys
  | [], [], _ => rfl
  | x :: xs, y :: ys, h => by simp [zip_snd (xs := xs) (ys := ys) (by simpa using h)]
theorem w_mkX {k : DV → Nat → Prop} (h : WA K Z t Γ O n fun ds n1 => WA K Z u Γ O n1 fun es n2 => ds.length = nn ∧ es.length = mm ∧ (perm ix ds es).length = ns.length ∧ k (.exc C ns.reverse (perm ix ds es).reverse) n2) :
    W K Z (tMkX C nn mm (spErr C ns) (perm (0 :: ix.map (· + 1))) E t u) Γ O n k := by
  intro pn As H0 M H σ S Q c
  refine h pn As H0 M H σ S _ fun vs M1 H1 ds n1 e1 S1 r1 q1 => q1 pn As H0 M1 H1 σ S1 _ fun zs M2 H2 es n2 e2 S2 r2 ⟨l1, l2, l3, q⟩ => ⟨by rw [r1.length]; exact l1, by rw [r2.length]; exact l2, fun a ha => ?_⟩
  have r := perm_rp ix (r1.mono e2) r2
  rw [perm_self]
  refine ⟨a, _, rfl, by rw [r.length]; exact l3, upd_same, fun dx hd hne => ⟨rfl, ?_⟩⟩
  rw [upd_ne hne] at hd
  obtain ⟨x1, S3⟩ := S2.alloc (o := exd dx (ns.zip (perm ix vs zs)).reverse) hd
  have ha2 : upd H2 dx (exd dx (ns.zip (perm ix vs zs)).reverse) a = none := by rw [upd_ne (Ne.symm hne)]; exact ha
  obtain ⟨x2, S4⟩ := S3.alloc (o := exo a C (some dx)) ha2
  have eH : upd (upd (upd H2 a (exo a C none)) dx (exd dx (ns.zip (perm ix vs zs)).reverse)) a (exo a C (some dx)) = upd (upd H2 dx (exd dx (ns.zip (perm ix vs zs)).reverse)) a (exo a C (some dx)) := by
    funext b
    by_cases hb : b = a
    · subst hb; rw [upd_same, upd_same]
    · rw [upd_ne hb, upd_ne hb]
      by_cases hb2 : b = dx
      · subst hb2; rw [upd_same, upd_same]
      · rw [upd_ne hb2, upd_ne hb2, upd_ne hb]
  rw [eH]
  have lr : (perm ix vs zs).length = ns.length := by rw [r.length]; exact l3
  refine c (.ref a) _ _ _ n2 (Evl.Ex.trans (Evl.Ex.trans e1 e2) (Evl.Ex.trans x1 x2)) S4 (.exc (fs := (ns.zip (perm ix vs zs)).reverse) upd_same (by rw [upd_ne hne, upd_same]) ?_ ?_) q
  · rw [List.map_reverse, zip_fst lr]
  · rw [List.map_reverse, zip_snd lr]
    exact (r.reverse).mono (Evl.Ex.trans x1 x2)
theorem rp_lookup {f : Str} {d : DV} : ∀ {fs : List (Str × V)} {ds : List DV}, RpL K M (fs.map (·.2)) ds → ((fs.map (·.1)).zip ds).lookup f = some d → ∃ v, fs.lookup f = some v ∧ Rp K M v d
  | [], _, h, e => by cases h; simp at e
  | (g, y) :: fs, _, h, e => by
    cases h with
    | cons a b =>
      simp only [List.map_cons, List.zip_cons_cons, List.lookup_cons] at e ⊢
      by_cases hg : (f == g) = true
      · rw [hg] at e
        cases e
        exact ⟨y, by simp [hg], a⟩
      · have hg' : (f == g) = false := by simpa using hg
        rw [hg'] at e
        simp only [hg']
        exact rp_lookup b e
theorem Rp.errAt {v : V} {C : Addr} {ns : List Str} {ds : List DV} (r : Rp K M v (.exc C ns ds)) : ∃ a dx fs, v = .ref a ∧ ErrAt M a C dx fs ∧ fs.map (·.1) = ns ∧ RpL K M (fs.map (·.2)) ds := by
  cases r with
  | exc a b c f => exact ⟨_, _, _, rfl, .inl ⟨a, b⟩, c, f⟩
  | exc2 a b c f => exact ⟨_, _, _, rfl, .inr ⟨a, b⟩, c, f⟩
theorem w_exf {f : Str} {k : DV → Nat → Prop} (h : W K Z te Γ O n fun d n1 => ∃ C ns ds x, d = .exc C ns ds ∧ XfC K C ∧ PySem.W.findIn K (.ref C) f = some none ∧ (ns.zip ds).lookup f = some x ∧ k x n1) : W K Z (tExF K te f) Γ O n k := by
  intro pn As H0 M H σ S Q c
  refine h pn As H0 M H σ S _ fun v M1 H1 d n1 e1 S1 r1 ⟨C, ns, ds, x, ed, T, hno, l, q⟩ => ?_
  subst ed
  obtain ⟨a, dx, fs, rfl, ea, g3, g4⟩ := r1.errAt
  rw [← g3] at l
  obtain ⟨y, hy, ry⟩ := rp_lookup g4 l
  exact ⟨a, C, dx, fs, y, rfl, ea.ext S1.ex, T, hno, hy, c y M1 H1 x n1 e1 S1 ry q⟩
/-- isinstance of data, instances, errors -/
def rIsB (K : Fg) : List V → Hp → VK → Prop := fun xs H Q => rIsA K xs H Q ∨ rIsX K xs H Q
theorem cr_isB {X : Cx} : CallR X (.builtin "isinstance") (rIsB X.K) := cr_isA.or cr_isX
theorem CW.l {r r' : List V → Hp → VK → Prop} {xs : List DV} {k : DV → Prop} (h : CW K r xs k) : CW K (fun xs H Q => r xs H Q ∨ r' xs H Q) xs k := fun Z pn As H0 M H σ Γ O n S vs rv Q c => .inl (h Z pn As H0 M H σ Γ O n S vs rv Q c)
theorem CW.r {r r' : List V → Hp → VK → Prop} {xs : List DV} {k : DV → Prop} (h : CW K r' xs k) : CW K (fun xs H Q => r xs H Q ∨ r' xs H Q) xs k := fun Z pn As H0 M H σ Γ O n S vs rv Q c => .inr (h Z pn As H0 M H σ Γ O n S vs rv Q c)
theorem cw_isTyB {x : DV} {t c : String} {b : Bool} {k : DV → Prop} (ht : tyD x = some t) (hk : kitB t c = some b) (q : k (.bl b)) : CW K (rIsB K) [x, .ty c] k := CW.l (cw_isTy ht hk q)
theorem cw_isDC {x : DV} {t : String} {D : Addr} {b : Bool} {k : DV → Prop} (ht : tyD x = some t) (hk : PySem.W.kitOne K (.type t) (.ref D) = some b) (q : k (.bl b)) : CW K (rIsB K) [x, .adr D] k := CW.l fun Z pn As H0 M H σ Γ O n S vs r Q cc => by
  obtain ⟨u, w, rfl, h1, h2⟩ := r.two
  cases h2
  exact .inl ⟨u, .ref D, _, _, b, rfl, .own D, h1.tyX S.ex ht, hk, cc _ M H _ (Evl.Ex.refl M) S (.bl b) q⟩
theorem cw_isXC {C D : Addr} {ns : List Str} {ds : List DV} {b : Bool} {k : DV → Prop} (T : ExcC K C) (hk : PySem.W.kitOne K (.ref C) (.ref D) = some b) (q : k (.bl b)) : CW K (rIsB K) [.exc C ns ds, .adr D] k := CW.r fun Z pn As H0 M H σ Γ O n S vs r Q cc => by
  obtain ⟨u, w, rfl, h1, h2⟩ := r.two
  cases h2
  obtain ⟨a, dx, fs, rfl, ea, g3, g4⟩ := h1.errAt
  exact ⟨a, C, dx, .ref D, _, b, rfl, .own D, ⟨fs, ea.ext S.ex⟩, T, hk, cc _ M H _ (Evl.Ex.refl M) S (.bl b) q⟩
theorem cw_isXT {C : Addr} {c : String} {ns : List Str} {ds : List DV} {b : Bool} {k : DV → Prop} (T : ExcC K C) (hk : PySem.W.kitOne K (.ref C) (.type c) = some b) (q : k (.bl b)) : CW K (rIsB K) [.exc C ns ds, .ty c] k := CW.r fun Z pn As H0 M H σ Γ O n S vs r Q cc => by
  obtain ⟨u, w, rfl, h1, h2⟩ := r.two
  cases h2
  obtain ⟨a, dx, fs, rfl, ea, g3, g4⟩ := h1.errAt
  exact ⟨a, C, dx, .ty c, _, b, rfl, .ty c, ⟨fs, ea.ext S.ex⟩, T, hk, cc _ M H _ (Evl.Ex.refl M) S (.bl b) q⟩
/-- what a class must say that isinstance asks its instances rightly -/
structure InsC (K : Fg) (C : Addr) : Prop where
  cl : Cls K C
  ha : PySem.W.findIn K (.ref C) "__class__" = some (some (.builtin "object.__class__"))
  hn : PySem.W.specialIn K (.builtin "object.__class__") "__get__" = some (some (.builtin "getset_descriptor.__get__"))
  ht : PySem.W.takesIn K (.builtin "object.__class__") = some true
  hm : PySem.W.mroIn K C (.type "object") = some true
theorem cw_isIC {C D : Addr} {ns : List Str} {ds : List DV} {b : Bool} {k : DV → Prop} (T : InsC K C) (hk : PySem.W.kitOne K (.ref C) (.ref D) = some b) (q : k (.bl b)) : CW K (rIsB K) [.ins C ns ds, .adr D] k := CW.l fun Z pn As H0 M H σ Γ O n S vs r Q cc => by
  obtain ⟨u, w, rfl, h1, h2⟩ := r.two
  cases h2
  cases h1 with
  | ins g1 g2 g3 => exact .inl ⟨_, .ref D, _, _, b, rfl, .own D, .base (.ins (S.ex _ _ g1) T.cl T.ha T.hn T.ht T.hm), hk, cc _ M H _ (Evl.Ex.refl M) S (.bl b) q⟩
theorem cw_isIT {C : Addr} {c : String} {ns : List Str} {ds : List DV} {b : Bool} {k : DV → Prop} (T : InsC K C) (hk : PySem.W.kitOne K (.ref C) (.type c) = some b) (q : k (.bl b)) : CW K (rIsB K) [.ins C ns ds, .ty c] k := CW.l fun Z pn As H0 M H σ Γ O n S vs r Q cc => by
  obtain ⟨u, w, rfl, h1, h2⟩ := r.two
  cases h2
  cases h1 with
  | ins g1 g2 g3 => exact .inl ⟨_, .ty c, _, _, b, rfl, .ty c, .base (.ins (S.ex _ _ g1) T.cl T.ha T.hn T.ht T.hm), hk, cc _ M H _ (Evl.Ex.refl M) S (.bl b) q⟩
/-- e.f of an instance -/
theorem w_fld {f : Str} {k : DV → Nat → Prop} (h : W K Z te Γ O n fun d n1 => ∃ C ns ds x, d = .ins C ns ds ∧ Cls K C ∧ NoAttr K C f ∧ (ns.zip ds).lookup f = some x ∧ k x n1) : W K Z (tFld K te f) Γ O n k := by
  intro pn As H0 M H σ S Q c
  refine h pn As H0 M H σ S _ fun v M1 H1 d n1 e1 S1 r1 ⟨C, ns, ds, x, ed, T, hno, l, q⟩ => ?_
  subst ed
  cases r1 with
  | @ins a C dx fs ns ds g1 g2 g3 =>
    rw [← g2] at l
    obtain ⟨y, hy, ry⟩ := rp_lookup g3 l
    exact ⟨a, C, dx, fs, y, rfl, S1.ex _ _ g1, T, hno, hy, c y M1 H1 x n1 e1 S1 ry q⟩
end
end DL
namespace PySem
namespace DLx
open PySem.W PySem.Calls PyProof.Rows Builtin Builtin.ObjectAttr Builtin.Getset_descriptor
section
variable {prog : Program} {w : World} {A : Around} {E : Value → Shared → Prop} {s : Shared} {K : Frag} {R : Result → Shared → Prop} {C x f : Addr} {ox : Obj} {od : Option Obj} {b tb : Value}
/-- C.__name__, C an own class -/
theorem cname_get {tp : Value} {dd : Option Addr} {cd : ClassData} {sl : Array (Option Value)} {nm : Str} {tk : Tok} (X : K.In s.heap) (lk : K.lookup C = some ⟨.type "type", dd, .cls cd, sl⟩) (h2 : sl[2]? = some (some (.str nm tk)))
    (h : R (.ok (.ret (.str nm tk))) s) : codeAny (model prog w) A (.call (.builtin "getset_descriptor.__get__") ⟨[.builtin "type.__name__", .ref C, tp], []⟩) R s := by
  obtain ⟨hh, g, dr, t, os⟩ := s
  have oC := X _ _ lk
  have tC : typeIn K (.ref C) = some (.type "type") := by
    show (K.lookup C).map (·.cls) = _
    rw [lk]; rfl
  have l0 : Looks (model prog w) hh (typeOf (.ref C)) (.type "type") := looks_typeIn X tC
  have l1 : Looks (model prog w) hh (isSubtype (.type "type") (.type "type")) true := Looks.of_pure (by rw [isSubtype_type]; kernel_rfl)
  refine codeAny_call_builtin KF.slot_gs.plain KF.entry_gs (KF.slot_gs.check _ _ _ _ _ _ _ _ ktyn_type (KF.args_gs _ _ _) ?_)
  unfold Builtin.«getset_descriptor.__get__» descrGet
  rw [dga_obj]
  refine wpAny_bind (wpAny_pure ?_)
  unfold descrGetter descrCheckInstance descrNameAndClass isInstance
  simp only [ktyn_owner]
  repeat lk
  refine ⟨Code.quiet_builtin _ (by decide +kernel), codeAny_builtin ktyn_entry ?_⟩
  unfold Builtin.«type.__name__»
  dsimp only
  unfold keptObject slotAt
  refine wpAny_bind (wpAny_bind (wpAny_loadPart oC (wpAny_pure ?_)))
  rw [h2]
  exact wpAny_pure h
/-- x == y where y's class lies below x's -/
theorem cmp_right {D y : Addr} {oy : Obj} {oe : Option Obj} {Q : Value → Shared → Prop} (hu : A.units < cLine) (X : K.In s.heap) (I : InstAt s.heap x ox C od) (J : InstAt s.heap y oy D oe) (ne : D ≠ C) (sub : subIn K (.ref D) (.ref C) = some true)
    (hs : findIn K (.ref D) "__eq__" = some (some (.ref f))) (hf : isFn K (.ref f) = true) (h : wpAny (model prog w) A (call (.ref f) [.ref y, .ref x]) (fun v s' => ∃ r, v = .bool r ∧ Q (.bool r) s') E s) : wpAny (model prog w) A (richCompare .Eq (.ref x) (.ref y)) Q E s := by
  have one : wpAny (model prog w) A (tryCompare (.ref y) "__eq__" (.ref x)) (fun r s' => ∃ v, r = some v ∧ Q v s') E s := by
    unfold tryCompare
    refine wpAny_bind (ifBound_K X J hs hf (wpAny_mono h (fun v s' z => ?_) fun _ _ e => e))
    obtain ⟨r, rfl, q⟩ := z
    exact wpAny_pure ⟨_, rfl, q⟩
  unfold richCompare
  simp only [oneThing_ref, cmpInfo_Eq]
  refine wpAny_holding (wpAny_bind (wpAny_cRoomFor hu ?_))
  refine wpAny_bind (I.type.here (wpAny_bind (J.type.here ?_)))
  rw [if_pos (by simpa using fun z => ne z.symm)]
  refine wpAny_bind ((looks_subIn X sub).here ?_)
  rw [if_pos rfl]
  refine wpAny_bind (wpAny_mono one (fun r s' z => ?_) fun _ _ e => e)
  obtain ⟨v, rfl, q⟩ := z
  exact wpAny_bind (wpAny_rule (wpAny_pure q))
theorem bound_ne {M : Model} {args : List Value} {Q : Option Value → Shared → Prop} (X : K.In s.heap) (I : InstAt s.heap x ox C od) (hs : findIn K (.ref C) "__ne__" = some (some (.builtin "object.__ne__")))
    (h : wpAny M A (call (.builtin "object.__ne__") (.ref x :: args)) (fun v => Q (some v)) E s) : wpAny M A (callSpecialIfBound? (.ref x) "__ne__" args) Q E s := by
  simp only [callSpecialIfBound?, bindSpecialIfBound?]
  refine wpAny_holding (wpAny_bind (wpAny_bind (wpAny_bind (I.type.here ((looks_findIn X hs).here ?_)))))
  refine wpAny_bind (wpAny_askSetting (wpAny_ite ?_))
  have fin : wpAny M A (call (.builtin "object.__ne__") ([.ref x] ++ args) >>= fun v => pure (some v)) Q E s := by
    exact wpAny_bind (wpAny_mono h (fun v s' h' => wpAny_pure h') fun _ _ h' => h')
  split
  · exact wpAny_bind (wpAny_of_eq (PySem.F.cmp_object.ne.bind _) (wpAny_pure (by exact fin)))
  · exact wpAny_tryCatch (wpAny_bind (wpAny_of_eq (PySem.F.cmp_object.ne.bind _) (wpAny_pure (by exact fin))))
/-- x != b by x's own == -/
theorem cmp_ne {Q : Value → Shared → Prop} (hu : A.units + 1 < cLine) (X : K.In s.heap) (I : InstAt s.heap x ox C od) (hb : Looks (model prog w) s.heap (typeOf b) tb) (hn : notFirst K C tb = true) (hm : mroIn K C (.type "object") = some true)
    (hne : findIn K (.ref C) "__ne__" = some (some (.builtin "object.__ne__"))) (hs : findIn K (.ref C) "__eq__" = some (some (.ref f))) (hf : isFn K (.ref f) = true)
    (h : wpAny (model prog w) A.in1 (call (.ref f) [.ref x, b]) (fun v s' => ∃ r, v = .bool r ∧ Q (.bool (!r)) s') E s) : wpAny (model prog w) A (richCompare .NotEq (.ref x) b) Q E s := by
  have one : wpAny (model prog w) A (tryCompare (.ref x) "__ne__" b) (fun r s' => ∃ v, r = some v ∧ Q v s') E s := by
    unfold tryCompare
    refine wpAny_bind (bound_ne X I hne (wpAny_call (codeAny_call_builtin PySem.F.cmp_object.ne.plain PySem.F.cmpEntry_ne (check_slot PySem.F.cmpKind_ne PySem.F.cmpSplit_ne (I.type.andThen (looks_mroIn X hm)) (PySem.F.cmpArgs_ne _ _) ?_))))
    unfold Builtin.«object.__ne__»
    refine wpAny_bind (wpAny_of_eq (a := ((Value.ref x : Value), [b])) (by first | rfl | (simp only [slotArgs]; rfl)) ?_)
    refine wpAny_bind (wpAny_cRoomFor (by first | exact hu | (show A.units + 1 < cLine; exact hu)) ?_)
    refine wpAny_bind (ifBound_K X I hs hf (wpAny_mono h (fun v s' z => ?_) fun _ _ e => e))
    obtain ⟨r, rfl, q⟩ := z
    refine wpAny_bind (wpAny_truthy_bool ?_)
    refine wpAny_pure ?_
    first | exact wpAny_pure ⟨_, rfl, q⟩ | exact ⟨_, rfl, wpAny_pure q⟩ | exact ⟨_, rfl, q⟩
  unfold richCompare
  simp only [oneThing_ref, cmpInfo_NotEq]
  refine wpAny_holding (wpAny_bind (wpAny_cRoomFor (Nat.lt_of_succ_lt hu) ?_))
  refine wpAny_bind (I.type.here (wpAny_bind (hb.here ?_)))
  split
  · rename_i q
    have e : subIn K tb (.ref C) = some false := by
      rcases Bool.or_eq_true_iff.mp hn with e | e
      · rw [beq_iff_eq.mp e] at q; simp at q
      · exact beq_iff_eq.mp e
    refine wpAny_bind ((looks_subIn X e).here ?_)
    simp only [Bool.false_eq_true, if_false]
    refine wpAny_bind (wpAny_mono one (fun r s' z => ?_) fun _ _ e => e)
    obtain ⟨v, rfl, q⟩ := z
    exact wpAny_pure q
  · refine wpAny_bind (wpAny_pure ?_)
    simp only [Bool.false_eq_true, if_false]
    refine wpAny_bind (wpAny_mono one (fun r s' z => ?_) fun _ _ e => e)
    obtain ⟨v, rfl, q⟩ := z
    exact wpAny_pure q
end
end DLx
end PySem
namespace DL
open PySem PySem.Spec PyProof.Rows L2 NdefX PySem.HandSPX PySem.DLx
variable [Tn]
/-! own ==, !=, truth; attributes of instances and errors; the class's name -/
/-- the function object at f keeps sp -/
structure HasM (P : Program) (w : World) (K : Fg) (mg : Str → Option Value) (base : Heap) (k : Nat) (f : Addr) (sp : Sp) : Prop where
  fn : PySem.W.isFn K (.ref f) = true
  ex : ∃ fd ps, Binds K fd ps [] ∧ FnG P w K mg base CX0 k f fd ps sp
def EqI (K : Fg) (fe : Addr) (spq : Sp) : R2 := fun x y H Q => ∃ a C dx fs t, x = .ref a ∧ H a = some (.ins C dx fs) ∧ PySem.W.findIn K (.ref C) "__eq__" = some (some (.ref fe)) ∧ TyX K H y t ∧ PySem.W.notFirst K C t = true ∧
  spq [x, y] H (fun v H' => ∃ b, v = .bl b ∧ Q (.bl b) H') E0
def EqR (K : Fg) (fe : Addr) (spq : Sp) : R2 := fun x y H Q => ∃ a C dx fs b D dy gs, x = .ref a ∧ y = .ref b ∧ H a = some (.ins C dx fs) ∧ H b = some (.ins D dy gs) ∧ D ≠ C ∧ PySem.W.subIn K (.ref D) (.ref C) = some true ∧ PySem.W.findIn K (.ref D) "__eq__" = some (some (.ref fe)) ∧
  spq [y, x] H (fun v H' => ∃ b, v = .bl b ∧ Q (.bl b) H') E0
def NeI (K : Fg) (fe : Addr) (spq : Sp) : R2 := fun x y H Q => ∃ a C dx fs t, x = .ref a ∧ H a = some (.ins C dx fs) ∧ PySem.W.findIn K (.ref C) "__eq__" = some (some (.ref fe)) ∧ PySem.W.findIn K (.ref C) "__ne__" = some (some (.builtin "object.__ne__")) ∧ PySem.W.mroIn K C (.type "object") = some true ∧ TyX K H y t ∧ PySem.W.notFirst K C t = true ∧
  spq [x, y] H (fun v H' => ∃ b, v = .bl b ∧ Q (.bl (!b)) H') E0
section
variable {X : Cx} {k j : Nat} {fe : Addr} {spq : Sp}
theorem op_eqI (M : HasM X.prog X.w X.K X.mg X.base j fe spq) (hr : Room k X.A) (hj : j ≤ k) (hG : X.A.guards = some []) : OpR X (compareOp .Eq) (EqI X.K fe spq) := by
  intro pins s σ H x y v u Q I rx ry h
  obtain ⟨a, C, dx, fs, t, rfl, ea, he, ty, nf, h⟩ := h
  obtain rfl : v = Value.ref a := rx
  obtain ⟨mA, O, _⟩ := ins_get I.hok ea
  obtain ⟨od, J, _⟩ := O.look
  obtain ⟨Pz, Z, pz, _⟩ := kit_of I ry ty
  obtain ⟨m, hF⟩ := I.fr
  obtain ⟨fd, ps, hb, F⟩ := M.ex
  show wpAny _ _ (richCompare .Eq (.ref a) u) _ _ _
  refine PySem.W.cmp_K (op := .Eq) (tb := t) (Nat.lt_of_le_of_lt (Nat.le_add_right _ 64) hr.units) hF I.ok.mod.kin J (Z.ty _ _ I.kIn pz) nf he M.fn ?_
  refine wpAny_mono (run_G (us := [.ref a, u]) (vs := [.ref a, y]) F (hr.mono hj) hG hb .nil pass0 I (.cons rfl (.cons ry .nil)) h) (fun r s' z => ?_) fun _ _ z => z
  obtain ⟨v', H', I', rv, b, ev, q⟩ := z
  subst ev
  obtain rfl : r = Value.bool b := rv
  exact ⟨.bl b, H', I', rfl, q⟩
theorem op_eqRv (M : HasM X.prog X.w X.K X.mg X.base j fe spq) (hr : Room k X.A) (hj : j ≤ k) (hG : X.A.guards = some []) : OpR X (compareOp .Eq) (EqR X.K fe spq) := by
  intro pins s σ H x y v u Q I rx ry h
  obtain ⟨a, C, dx, fs, b, D, dy, gs, rfl, rfl, ea, eb, ne, sub, he, h⟩ := h
  obtain rfl : v = Value.ref a := rx
  obtain rfl : u = Value.ref b := ry
  obtain ⟨mA, O, _⟩ := ins_get I.hok ea
  obtain ⟨od, J, _⟩ := O.look
  obtain ⟨mB, O2, _⟩ := ins_get I.hok eb
  obtain ⟨od2, J2, _⟩ := O2.look
  obtain ⟨fd, ps, hb, F⟩ := M.ex
  show wpAny _ _ (richCompare .Eq (.ref a) (.ref b)) _ _ _
  refine cmp_right (Nat.lt_of_le_of_lt (Nat.le_add_right _ 64) hr.units) I.kIn J J2 ne sub he M.fn ?_
  refine wpAny_mono (run_G (us := [.ref b, .ref a]) (vs := [.ref b, .ref a]) F (hr.mono hj) hG hb .nil pass0 I (.cons rfl (.cons rfl .nil)) h) (fun r s' z => ?_) fun _ _ z => z
  obtain ⟨v', H', I', rv, c, ev, q⟩ := z
  subst ev
  obtain rfl : r = Value.bool c := rv
  exact ⟨c, rfl, .bl c, H', I', rfl, q⟩
theorem op_neI (M : HasM X.prog X.w X.K X.mg X.base j fe spq) (hr : Room k X.A) (hj : j + 1 ≤ k) (hG : X.A.guards = some []) : OpR X (compareOp .NotEq) (NeI X.K fe spq) := by
  intro pins s σ H x y v u Q I rx ry h
  obtain ⟨a, C, dx, fs, t, rfl, ea, he, hne, hm, ty, nf, h⟩ := h
  obtain rfl : v = Value.ref a := rx
  obtain ⟨mA, O, _⟩ := ins_get I.hok ea
  obtain ⟨od, J, _⟩ := O.look
  obtain ⟨Pz, Z, pz, _⟩ := kit_of I ry ty
  obtain ⟨fd, ps, hb, F⟩ := M.ex
  show wpAny _ _ (richCompare .NotEq (.ref a) u) _ _ _
  refine cmp_ne (Nat.lt_of_le_of_lt (Nat.add_le_add_left (by decide : 1 ≤ 64) _) hr.units) I.kIn J (Z.ty _ _ I.kIn pz) nf hm hne he M.fn ?_
  have hr1 : Room j X.A.in1 := (hr.mono hj).in1
  have hl := F.len _ _ _ _ h
  have r2 : Vals [V.ref a, y] [Value.ref a, u] := .cons rfl (.cons ry .nil)
  apply wpAny_call
  refine codeAny_mono (F.go X.A.in1 X.stack s H ⟨[.ref a, u], []⟩ _ _ _ E0 hr1 hG I.env0.in1 (by have := hb s [.ref a, u] I.kIn (by simpa using hl); simpa using this) r2 h) ?_
  intro r s' h'
  have z := after_go I pass0 h'
  cases r with
  | error e => exact z
  | ok fl =>
    cases fl with
    | ret u' =>
      obtain ⟨v', H', I', rv, b, ev, q⟩ := z
      subst ev
      obtain rfl : u' = Value.bool b := rv
      exact ⟨b, rfl, .bl (!b), H', I', rfl, q⟩
    | next => exact z.elim
    | brk => exact z.elim
    | cont => exact z.elim
/-- == and != of data and of instances -/
def rEqO (K : Fg) (fe : Addr) (spq : Sp) : R2 := fun x y H Q => rEqA K x y H Q ∨ (EqI K fe spq x y H Q ∨ EqR K fe spq x y H Q)
def rNeO (K : Fg) (fe : Addr) (spq : Sp) : R2 := fun x y H Q => rNeA K x y H Q ∨ NeI K fe spq x y H Q
theorem op_eqO (M : HasM X.prog X.w X.K X.mg X.base j fe spq) (hr : Room k X.A) (hj : j ≤ k) (hG : X.A.guards = some []) : OpR X (compareOp .Eq) (rEqO X.K fe spq) := (op_eqA hr.units).or ((op_eqI M hr hj hG).or (op_eqRv M hr hj hG))
theorem op_neO (M : HasM X.prog X.w X.K X.mg X.base j fe spq) (hr : Room k X.A) (hj : j + 1 ≤ k) (hG : X.A.guards = some []) : OpR X (compareOp .NotEq) (rNeO X.K fe spq) := (op_neA hr.units).or (op_neI M hr hj hG)
/-- an own __bool__ that says b -/
def spTr (b : Bool) : Sp := fun vs H Q _ => ∃ v, vs = [v] ∧ Q (.bl b) H
def TrI (K : Fg) (B : Addr → Addr → Bool → Prop) : V → Hp → (Bool → Hp → Prop) → Prop := fun x H Q => ∃ a C dx fs f b, x = .ref a ∧ H a = some (.ins C dx fs) ∧ PySem.W.findIn K (.ref C) "__bool__" = some (some (.ref f)) ∧ B C f b ∧ Q b H
def tTruB (K : Fg) (B : Addr → Addr → Bool → Prop) (ta : TE) : TT := fun σ H Q => ta σ H fun x H1 => (∃ k, TruV K x H1 k ∧ Q k H1) ∨ TrI K B x H1 Q
theorem pt_truB {a : Expr} {ta : TE} {B : Addr → Addr → Bool → Prop} (M : ∀ C f b, B C f b → HasM X.prog X.w X.K X.mg X.base j f (spTr b)) (hr : Room k X.A) (hj : j ≤ k) (hG : X.A.guards = some []) (ha : PE X a ta)
    (he : ∀ whole, isTrue a X.env whole = (do let v ← whole; standAt a.pos; holding [v] (truthy v)) := by intro _; rfl) : PT X a (tTruB X.K B ta) := by
  refine ⟨fun pins s σ H Q I h => ?_⟩
  refine isTrue_plain (thn (ha.run pins s σ H _ I h) fun v s1 ⟨x, H1, I1, r1, q1⟩ => ?_) (he _)
  rcases q1 with q1 | ⟨a, C, dx, fs, f, b, rfl, ea, hf, hB, q⟩
  · exact tru_ok pins s1 σ H1 x v Q I1 r1 q1
  · obtain rfl : v = Value.ref a := r1
    obtain ⟨mA, O, _⟩ := ins_get I1.hok ea
    obtain ⟨od, J, _⟩ := O.look
    obtain ⟨m, hF⟩ := I1.fr
    obtain ⟨fd, ps, hb, F⟩ := (M C f b hB).ex
    refine PySem.W.truthy_K hF I1.ok.mod.kin J hf (M C f b hB).fn ?_
    refine wpAny_mono (run_G (us := [.ref a]) (vs := [.ref a]) (Q := fun v H' => v = .bl b ∧ Q b H') F (hr.mono hj) hG hb .nil pass0 I1 (.cons rfl .nil) ⟨_, rfl, rfl, q⟩) (fun r s' z => ?_) fun _ _ z => z
    obtain ⟨v', H', I', rv, ev, q⟩ := z
    subst ev
    obtain rfl : r = Value.bool b := rv
    exact ⟨H', I', q⟩
/-- e.f of an instance or of an error -/
def tAtt (K : Fg) (te : TE) (f : Str) : TE := fun σ H Q => te σ H fun x H1 =>
  (∃ a C dx fs v, x = .ref a ∧ ErrAt H1 a C dx fs ∧ XfC K C ∧ PySem.W.findIn K (.ref C) f = some none ∧ fs.lookup f = some v ∧ Q v H1) ∨
  ∃ a C dx fs v, x = .ref a ∧ H1 a = some (.ins C dx fs) ∧ Cls K C ∧ NoAttr K C f ∧ fs.lookup f = some v ∧ Q v H1
theorem pe_att {e : Expr} {te : TE} {n : Str} {pos : Pos} (he : PE X e te) (hb : attributeBase e n X.env (eval e X.env) = eval e X.env := by rfl) : PE X (.Attribute e n pos) (tAtt X.K te n) := by
  constructor
  intro pins s σ H Q I h
  refine attr_of hb (thn (he.run pins s σ H _ I h) fun u s1 ⟨y, H1, I1, rx, q⟩ => ?_)
  rcases q with ⟨a, C, dx, fs, v, ey, ea, T, hno, l, q⟩ | ⟨a, C, dx, fs, v, ey, ea, c, nn, l, q⟩
  · subst ey
    obtain rfl : u = Value.ref a := rx
    obtain ⟨ox, od, mA, J, hdx, hod, hl, hr⟩ := ea.inst I1.hok
    obtain ⟨w, hw, rw'⟩ := RelO.some_of (v := v) (o := mA n) (by rw [← l]; exact hr n)
    exact exc_get I1.kIn J T.ga T.gg T.exC (PySem.W.findObj_own T.hdC hno rfl (by rw [hl, hw])) (handed_of rw') ⟨v, H1, I1.tok _, rw', q⟩
  · subst ey
    obtain rfl : u = Value.ref a := rx
    exact getattr_ok I1 ea c nn l fun u' s2 I2 ru => ⟨v, H1, I2, ru, q⟩
/-- e.__class__.__name__ -/
structure ClsN (K : Fg) (C : Addr) (nm : Str) : Prop where
  ic : InsC K C
  lk : ∃ dd cd sl tk, K.lookup C = some ⟨.type "type", dd, .cls cd, sl⟩ ∧ sl[2]? = some (some (.str nm tk))
  rd : PySem.W.readsIn K C (.type "type") = true
  fd : PySem.W.findCls K (.ref C) (.type "type") "__name__" = some (.get (.builtin "getset_descriptor.__get__") (.builtin "type.__name__") (.ref C) (.type "type"))
def tCN (K : Fg) (te : TE) : TE := fun σ H Q => te σ H fun x H1 => ∃ a C dx fs nm, x = .ref a ∧ H1 a = some (.ins C dx fs) ∧ ClsN K C nm ∧ Q (.str nm) H1
theorem pe_cn {e : Expr} {te : TE} {p1 p2 : Pos} (he : PE X e te) (hb : attributeBase e "__class__" X.env (eval e X.env) = eval e X.env := by rfl)
    (hb2 : attributeBase (.Attribute e "__class__" p1) "__name__" X.env (eval (.Attribute e "__class__" p1) X.env) = eval (.Attribute e "__class__" p1) X.env := by rfl) : PE X (.Attribute (.Attribute e "__class__" p1) "__name__" p2) (tCN X.K te) := by
  constructor
  intro pins s σ H Q I h
  refine attr_of hb2 (attr_of hb (thn (he.run pins s σ H _ I h) fun u s1 ⟨y, H1, I1, rx, a, C, dx, fs, nm, ey, ea, T, q⟩ => ?_))
  subst ey
  obtain rfl : u = Value.ref a := rx
  obtain ⟨mA, O, _⟩ := ins_get I1.hok ea
  obtain ⟨od, J, _⟩ := O.look
  have pg := PySem.W.plainGet_of (T.ic.cl.get "__class__")
  refine PySem.W.get_bind I1.kIn J pg.1 (PySem.W.findObj_data (by obtain ⟨cd, e, _⟩ := PySem.W.any_some T.ic.cl.hd; rw [e]; rfl) T.ic.ha T.ic.hn T.ic.ht) pg.2 (wpAny_call (PySem.W.class_get (s := { s1 with toks := s1.toks + 1 }) I1.kIn J T.ic.hm ?_))
  refine PySem.W.handed_on rfl ?_
  obtain ⟨dd, cd, sl, tk, lk, h2⟩ := T.lk
  refine PySem.W.cls_bind (s := { s1 with toks := s1.toks + 1 }) I1.kIn T.rd T.fd (wpAny_call (cname_get (s := { { s1 with toks := s1.toks + 1 } with toks := s1.toks + 1 + 1 }) I1.kIn lk h2 ?_))
  refine PySem.W.handed_on rfl ?_
  exact ⟨.str nm, H1, I1.tok _, ⟨tk, rfl⟩, q⟩
end
end DL
namespace DL
open PySem PySem.Spec PyProof.Rows L2 NdefX PySem.HandSPX PySem.DLx
variable [Tn]
/-! repr of data with dicts -/
def kPy : Key → PyData
  | .inl i => .int i
  | .inr x => .str x
mutual
def pyX : DV → PyData
  | .non => .none
  | .bl b => .bool b
  | .int i => .int i
  | .str x => .str x
  | .tup ds => .tuple (pyXL ds)
  | .lst ds => .list (pyXL ds)
  | .dic ks ds => .dict ((ks.map kPy).zip (pyXL ds))
  | .ty _ => .none
  | .adr _ => .none
  | .ins _ _ _ => .none
  | .exc _ _ _ => .none
def pyXL : List DV → List PyData
  | [] => []
  | d :: ds => pyX d :: pyXL ds
end
mutual
def isX : DV → Bool
  | .non => true
  | .bl _ => true
  | .int _ => true
  | .str _ => true
  | .tup ds => isXL ds
  | .lst ds => isXL ds
  | .dic _ ds => isXL ds
  | .ty _ => false
  | .adr _ => false
  | .ins _ _ _ => false
  | .exc _ _ _ => false
def isXL : List DV → Bool
  | [] => true
  | d :: ds => isX d && isXL ds
end
theorem pyXL_len : ∀ ds : List DV, (pyXL ds).length = ds.length
  | [] => rfl
  | d :: ds => by simp [pyXL, pyXL_len ds]
section
variable {X : Cx} {pins : List (Addr × Obj)} {σ : L2.St} {H M : Hp} {s : Shared}
theorem reads_keys {P : Program} {w : World} {h : Heap} : ∀ {es : List DictEntry} {vs : List (Key × Value)}, Pairs (mixKind P w) es vs → ReadsAll h (es.map (·.key)) ((vs.map (·.1)).map kPy) []
  | [], _, p => by cases p; exact .nil
  | e :: es, _, p => by
    cases p with
    | @cons e kv es kvs h1 h2 t =>
      have r := reads_keys (h := h) t
      rcases keyIs_shape (k := kv.1) (v := e.key) h1 with ⟨i, t0, e1, e2⟩ | ⟨x, t0, e1, e2⟩
      · show ReadsAll h (e.key :: es.map (·.key)) (kPy kv.1 :: (kvs.map (·.1)).map kPy) []
        rw [e1, e2]
        exact ReadsAll.cons (as := []) (bs := []) (.int i t0) r
      · show ReadsAll h (e.key :: es.map (·.key)) (kPy kv.1 :: (kvs.map (·.1)).map kPy) []
        rw [e1, e2]
        exact ReadsAll.cons (as := []) (bs := []) (.str x t0) r
theorem pairs_vals {P : Program} {w : World} : ∀ {es : List DictEntry} {vs : List (Key × Value)}, Pairs (mixKind P w) es vs → es.map (·.val) = vs.map (·.2)
  | [], _, p => by cases p; rfl
  | e :: es, _, p => by
    cases p with
    | @cons e kv es kvs h1 h2 t => simp [h2, pairs_vals t]
theorem kv_keys : ∀ {kvs : List (Key × V)} {vs : List (Key × Value)}, KV kvs vs → vs.map (·.1) = kvs.map (·.1)
  | [], _, h => by cases h; rfl
  | p :: kvs, _, h => by
    cases h with
    | cons a b => simp [a.1, kv_keys b]
theorem kv_vals : ∀ {kvs : List (Key × V)} {vs : List (Key × Value)}, KV kvs vs → Vals (kvs.map (·.2)) (vs.map (·.2))
  | [], _, h => by cases h; exact .nil
  | p :: kvs, _, h => by
    cases h with
    | cons a b => exact .cons a.2 (kv_vals b)
mutual
theorem Rp.rds (I : Inv X pins σ H s) (hsm : ∃ o, X.base.get? sysModules = some o) (e : Ex M H) : ∀ {d : DV} {v : V} {u : Value}, Rp X.K M v d → isX d = true → RelV v u → ∃ as, Reads s.heap u (pyX d) as ∧ sysModules ∉ as
  | .non, _, _, h, _, r => by
    cases h; cases r
    exact ⟨_, Reads.none, by simp⟩
  | .bl b, _, _, h, _, r => by
    cases h; cases r
    exact ⟨_, Reads.bool b, by simp⟩
  | .int i, _, _, h, _, r => by
    cases h
    obtain ⟨t, rfl⟩ := r
    exact ⟨_, Reads.int i t, by simp⟩
  | .str x, _, _, h, _, r => by
    cases h
    obtain ⟨t, rfl⟩ := r
    exact ⟨_, Reads.str x t, by simp⟩
  | .tup ds, _, _, h, p, r => by
    cases h with
    | tup a b =>
      cases r
      obtain ⟨its, rv, ⟨o, ho, hc, n, hd⟩, _⟩ := I.tuple (Evl.ex_t e a)
      obtain ⟨as, h1, h2⟩ := RpL.rds I hsm e b (by simpa [isX] using p) rv
      exact ⟨_, Reads.tuple ho hc hd h1, h2⟩
  | .lst ds, _, _, h, p, r => by
    cases h with
    | @lst a vs _ g1 b =>
      cases r
      have g2 := e _ _ g1
      obtain ⟨its, rv, ⟨o, n, ho, hc, _, hd⟩, _⟩ := I.list (.inl (.inl g2))
      obtain ⟨as, h1, h2⟩ := RpL.rds I hsm e b (by simpa [isX] using p) rv
      refine ⟨_, Reads.list ho hc hd h1, fun z => ?_⟩
      rcases List.mem_cons.mp z with z | z
      · obtain ⟨om, hm⟩ := hsm
        have := (I.bs _ _ hm).2
        rw [z, g2] at this
        cases this
      · exact h2 z
  | .dic ks ds, _, _, h, p, r => by
    cases h with
    | @dic a kvs _ _ g1 g2 b =>
      cases r
      obtain ⟨_, hne, vs, rk, o, es, ep, ho, hx, hd, _, pr, _⟩ := dk_of I.hok (e _ _ g1)
      have kk : ReadsAll s.heap (es.toList.map (·.key)) (((ks.map kPy).zip (pyXL ds)).map (·.1)) [] := by
        have z := reads_keys (h := s.heap) pr
        rw [kv_keys rk, g2] at z
        rw [zip_fst (by rw [pyXL_len, ← b.length, List.length_map, List.length_map, ← g2, List.length_map])]
        exact z
      obtain ⟨bs, h1, h2⟩ := RpL.rds I hsm e b (by simpa [isX] using p) (kv_vals rk)
      have vv : ReadsAll s.heap (es.toList.map (·.val)) (((ks.map kPy).zip (pyXL ds)).map (·.2)) bs := by
        rw [pairs_vals pr, zip_snd (by rw [pyXL_len, ← b.length, List.length_map, List.length_map, ← g2, List.length_map])]
        exact h1
      refine ⟨_, Reads.dict ho hx.1 hd kk vv, fun z => ?_⟩
      rcases List.mem_append.mp z with z | z
      · rcases List.mem_cons.mp z with z | z
        · rw [← z] at hne; simp at hne
        · simp at z
      · exact h2 z
  | .ty _, _, _, _, p, _ => by simp [isX] at p
  | .adr _, _, _, _, p, _ => by simp [isX] at p
  | .ins _ _ _, _, _, _, p, _ => by simp [isX] at p
  | .exc _ _ _, _, _, _, p, _ => by simp [isX] at p
theorem RpL.rds (I : Inv X pins σ H s) (hsm : ∃ o, X.base.get? sysModules = some o) (e : Ex M H) : ∀ {ds : List DV} {vs : List V} {us : List Value}, RpL X.K M vs ds → isXL ds = true → Vals vs us → ∃ as, ReadsAll s.heap us (pyXL ds) as ∧ sysModules ∉ as
  | [], _, _, h, _, r => by
    cases h; cases r
    exact ⟨_, ReadsAll.nil, by simp⟩
  | d :: ds, _, _, h, p, r => by
    have p' : isX d = true ∧ isXL ds = true := by simpa [isXL] using p
    cases h with
    | cons a b =>
      cases r with
      | cons r1 r2 =>
        obtain ⟨as, q1, n1⟩ := Rp.rds I hsm e a p'.1 r1
        obtain ⟨bs, q2, n2⟩ := RpL.rds I hsm e b p'.2 r2
        exact ⟨_, ReadsAll.cons q1 q2, fun z => (List.mem_append.mp z).elim n1 n2⟩
end
end
def rRepr2 (K : Fg) : List V → Hp → VK → Prop := fun xs H Q => ∃ a M d, xs = [.ref a] ∧ Ex M H ∧ Rp K M (.ref a) d ∧ isX d = true ∧ (pyX d).showable = true ∧ (pyX d).depth ≤ 60 ∧ (pyX d).shown.length ≤ sizeLine ∧ Q (.str (pyX d).shown) H
theorem cr_repr2 {X : Cx} (hsm : ∃ o, X.base.get? sysModules = some o) (hG : X.A.guards = some []) (hu : X.A.units + 64 < cLine) : CallR X (.builtin "repr") (rRepr2 X.K) := by
  intro pins s σ H xs us Q I r h
  obtain ⟨a, M, d, rfl, ex, rp, px, h1, h3, h4, q⟩ := h
  obtain ⟨u, rfl, ru⟩ := vals1 r
  obtain ⟨as, hr, hn⟩ := rp.rds I hsm ex px ru
  cases ru
  refine repr_of_reads' hr h1 (fun _ => hn) hG (by omega) (fun b o z => z) (fun h' t tk hk => ?_) h4
  exact ⟨.str (pyX d).shown, H, I.kept (t' := tk) hk, ⟨t, rfl⟩, q⟩
structure Shw (d : DV) : Prop where
  x : isX d = true
  sh : (pyX d).showable = true
  dp : (pyX d).depth ≤ 60
  ln : (pyX d).shown.length ≤ sizeLine
theorem cw_repr2 {K : Fg} {ds : List DV} {k : DV → Prop} (h : Shw (.lst ds)) (q : k (.str (pyX (.lst ds)).shown)) : CW K (rRepr2 K) [.lst ds] k := fun Z pn As H0 M H σ Γ O n S vs r Q c => by
  obtain ⟨u, rfl, h1⟩ := r.one
  obtain ⟨a, us, rfl, g1, g2⟩ := id h1.lst'
  exact ⟨a, M, _, rfl, S.ex, h1, h.x, h.sh, h.dp, h.ln, c _ M H _ (Evl.Ex.refl M) S (.str _) q⟩
end DL
namespace DL
open PySem PySem.Spec PyProof.Rows L2 NdefX PySem.HandSPX PySem.DLx StX
variable [Tn]
/-! wishes for own ==, !=, truth, attributes, names of classes; dicts; making by *args -/
section
variable {K : Fg} {Z : Xt} {pn : Option Addr} {As : List Addr} {H0 : Ent} {M M' H H' : Hp} {σ : L2.St} {Γ : List SA} {O : Own} {n m : Nat} {te : TE} {x y : DV} {fe : Addr}
variable {α : Type} {pre : α → Prop} {args : α → List DV} {res : α → DV → Prop} {C D : Addr} {ns ms : List Str} {ds es : List DV} {t : Value}
/-- what isinstance and == see of y -/
def TyD (K : Fg) (y : DV) (t : Value) : Prop := ∀ M H v, Ex M H → Rp K M v y → TyX K H v t
theorem tyD_ins (T : InsC K C) : TyD K (.ins C ns ds) (.ref C) := fun M H v e r => by
  cases r with
  | ins g1 g2 g3 => exact .base (.ins (e _ _ g1) T.cl T.ha T.hn T.ht T.hm)
theorem tyD_data {s : String} (h : tyD y = some s) : TyD K y (.type s) := fun M H v e r => r.tyX e h
theorem ow_insEq {k : DV → Prop} (a : α) (he : PySem.W.findIn K (.ref C) "__eq__" = some (some (.ref fe))) (ht : TyD K y t) (nf : PySem.W.notFirst K C t = true) (ea : args a = [.ins C ns ds, y]) (hp : pre a) (q : ∀ d, res a d → ∃ b, d = .bl b ∧ k (.bl b)) :
    OW K (rEqO K fe (spD K pre args res)) (.ins C ns ds) y k := fun Z pn As H0 M H σ Γ O n S v w rv rw Q c => by
  cases rv with
  | @ins a' _ dx fs _ _ g1 g2 g3 =>
    refine .inr (.inl ⟨a', C, dx, fs, t, rfl, S.ex _ _ g1, he, ht _ _ _ S.ex rw, nf, runs_D (a := a) S (by rw [ea]; exact .cons (.ins g1 g2 g3) (.cons rw .nil)) hp fun u M' H' d e S' ru hd => ?_⟩)
    obtain ⟨b, rfl, q'⟩ := q d hd
    exact ⟨b, ru.bl', c _ M' H' _ e S' (.bl b) q'⟩
theorem ow_insEqR {k : DV → Prop} (a : α) (ne : D ≠ C) (sub : PySem.W.subIn K (.ref D) (.ref C) = some true) (he : PySem.W.findIn K (.ref D) "__eq__" = some (some (.ref fe))) (ea : args a = [.ins D ms es, .ins C ns ds]) (hp : pre a) (q : ∀ d, res a d → ∃ b, d = .bl b ∧ k (.bl b)) :
    OW K (rEqO K fe (spD K pre args res)) (.ins C ns ds) (.ins D ms es) k := fun Z pn As H0 M H σ Γ O n S v w rv rw Q c => by
  cases rv with
  | @ins a' _ dx fs _ _ g1 g2 g3 =>
    cases rw with
    | @ins b' _ dy gs _ _ f1 f2 f3 =>
      refine .inr (.inr ⟨a', C, dx, fs, b', D, dy, gs, rfl, rfl, S.ex _ _ g1, S.ex _ _ f1, ne, sub, he, runs_D (a := a) S (by rw [ea]; exact .cons (.ins f1 f2 f3) (.cons (.ins g1 g2 g3) .nil)) hp fun u M' H' d e S' ru hd => ?_⟩)
      obtain ⟨b, rfl, q'⟩ := q d hd
      exact ⟨b, ru.bl', c _ M' H' _ e S' (.bl b) q'⟩
theorem ow_insNe {k : DV → Prop} (a : α) (he : PySem.W.findIn K (.ref C) "__eq__" = some (some (.ref fe))) (hne : PySem.W.findIn K (.ref C) "__ne__" = some (some (.builtin "object.__ne__"))) (hm : PySem.W.mroIn K C (.type "object") = some true)
    (ht : TyD K y t) (nf : PySem.W.notFirst K C t = true) (ea : args a = [.ins C ns ds, y]) (hp : pre a) (q : ∀ d, res a d → ∃ b, d = .bl b ∧ k (.bl (!b))) : OW K (rNeO K fe (spD K pre args res)) (.ins C ns ds) y k := fun Z pn As H0 M H σ Γ O n S v w rv rw Q c => by
  cases rv with
  | @ins a' _ dx fs _ _ g1 g2 g3 =>
    refine .inr ⟨a', C, dx, fs, t, rfl, S.ex _ _ g1, he, hne, hm, ht _ _ _ S.ex rw, nf, runs_D (a := a) S (by rw [ea]; exact .cons (.ins g1 g2 g3) (.cons rw .nil)) hp fun u M' H' d e S' ru hd => ?_⟩
    obtain ⟨b, rfl, q'⟩ := q d hd
    exact ⟨b, ru.bl', c _ M' H' _ e S' (.bl _) q'⟩
theorem ow_eqOd {spq : Sp} {k : DV → Prop} (h : OW K (rEqA K) x y k) : OW K (rEqO K fe spq) x y k := OW.l h
theorem ow_neOd {spq : Sp} {k : DV → Prop} (h : OW K (rNeA K) x y k) : OW K (rNeO K fe spq) x y k := OW.l h
theorem wt_truB {B : Addr → Addr → Bool → Prop} {k : Bool → Nat → Prop} (h : W K Z te Γ O n fun d n1 => (∃ b, d = .bl b ∧ k b n1) ∨ ∃ C ns ds f b, d = .ins C ns ds ∧ PySem.W.findIn K (.ref C) "__bool__" = some (some (.ref f)) ∧ B C f b ∧ k b n1) : WT K Z (tTruB K B te) Γ O n k := fun pn As H0 M H σ S Q c =>
  h pn As H0 M H σ S _ fun v M1 H1 d n1 e1 S1 r1 q => by
    rcases q with ⟨b, rfl, q⟩ | ⟨C, ns, ds, f, b, rfl, hf, hB, q⟩
    · cases r1; exact .inl ⟨b, rfl, c _ M1 H1 n1 e1 S1 q⟩
    · cases r1 with
      | @ins a' _ dx fs _ _ g1 g2 g3 => exact .inr ⟨a', C, dx, fs, f, b, rfl, S1.ex _ _ g1, hf, hB, c _ M1 H1 n1 e1 S1 q⟩
theorem w_attI {f : Str} {k : DV → Nat → Prop} (h : W K Z te Γ O n fun d n1 => ∃ C ns ds x, d = .ins C ns ds ∧ Cls K C ∧ NoAttr K C f ∧ (ns.zip ds).lookup f = some x ∧ k x n1) : W K Z (tAtt K te f) Γ O n k := by
  intro pn As H0 M H σ S Q c
  refine h pn As H0 M H σ S _ fun v M1 H1 d n1 e1 S1 r1 ⟨C, ns, ds, x, ed, T, hno, l, q⟩ => ?_
  subst ed
  cases r1 with
  | @ins a C dx fs ns ds g1 g2 g3 =>
    rw [← g2] at l
    obtain ⟨y, hy, ry⟩ := rp_lookup g3 l
    exact .inr ⟨a, C, dx, fs, y, rfl, S1.ex _ _ g1, T, hno, hy, c y M1 H1 x n1 e1 S1 ry q⟩
theorem w_attE {f : Str} {k : DV → Nat → Prop} (h : W K Z te Γ O n fun d n1 => ∃ C ns ds x, d = .exc C ns ds ∧ XfC K C ∧ PySem.W.findIn K (.ref C) f = some none ∧ (ns.zip ds).lookup f = some x ∧ k x n1) : W K Z (tAtt K te f) Γ O n k := by
  intro pn As H0 M H σ S Q c
  refine h pn As H0 M H σ S _ fun v M1 H1 d n1 e1 S1 r1 ⟨C, ns, ds, x, ed, T, hno, l, q⟩ => ?_
  subst ed
  obtain ⟨a, dx, fs, rfl, ea, g3, g4⟩ := r1.errAt
  rw [← g3] at l
  obtain ⟨y, hy, ry⟩ := rp_lookup g4 l
  exact .inl ⟨a, C, dx, fs, y, rfl, ea.ext S1.ex, T, hno, hy, c y M1 H1 x n1 e1 S1 ry q⟩
theorem w_cn {k : DV → Nat → Prop} (h : W K Z te Γ O n fun d n1 => ∃ C ns ds nm, d = .ins C ns ds ∧ ClsN K C nm ∧ k (.str nm) n1) : W K Z (tCN K te) Γ O n k := by
  intro pn As H0 M H σ S Q c
  refine h pn As H0 M H σ S _ fun v M1 H1 d n1 e1 S1 r1 ⟨C, ns, ds, nm, ed, T, q⟩ => ?_
  subst ed
  cases r1 with
  | @ins a C dx fs ns ds g1 g2 g3 => exact ⟨a, C, dx, fs, nm, rfl, S1.ex _ _ g1, T, c _ M1 H1 _ n1 e1 S1 (.str nm) q⟩
/-! dicts -/
theorem w_disp1 {ky : Str} {i : Int} {k : DV → Nat → Prop} (q : k (.dic [.inr ky] [.lst [.int i]]) n) : W K Z (tDisp [(tC (.str ky), tLst (tCons (tC (.int i)) tNil))]) Γ O n k := fun pn As H0 M H σ S Q c => fun p hp => ⟨by show 1 ≤ sizeLine; decide, fun b hb => by
  have hbp : b ≠ p := fun z => by rw [z, upd_same] at hb; cases hb
  have hb2 : H b = none := by rw [upd_ne hbp] at hb; exact hb
  obtain ⟨e1, S1⟩ := S.alloc (o := .lst [.int i]) hb2
  have hp2 : upd H b (.lst [.int i]) p = none := by rw [upd_ne (Ne.symm hbp)]; exact hp
  obtain ⟨e2, S2⟩ := S1.alloc (o := .dK [(.inr ky, .ref b)]) hp2
  refine ⟨by rw [upd_ne (Ne.symm hbp), upd_same], [(.inr ky, .ref b)], rfl, by show 1 ≤ 15; decide, ?_⟩
  have eH : upd (upd (upd H p (.dK [])) b (.lst [.int i])) p (.dK (mergeK [] [(.inr ky, .ref b)])) = upd (upd H b (.lst [.int i])) p (.dK [(.inr ky, .ref b)]) := by
    funext z
    by_cases hz : z = p
    · subst hz; rw [upd_same, upd_same]; rfl
    · rw [upd_ne hz, upd_ne hz]
      by_cases hz2 : z = b
      · subst hz2; rw [upd_same, upd_same]
      · rw [upd_ne hz2, upd_ne hz2, upd_ne hz]
  rw [eH]
  exact c _ _ _ _ n (Evl.Ex.trans e1 e2) S2 (.dic (kvs := [(.inr ky, .ref b)]) upd_same rfl (.cons (.lst (by rw [upd_ne hbp, upd_same]) (.cons (.int i) .nil)) .nil)) q⟩
def rEqB (K : Fg) : R2 := fun x y H Q => rEqA K x y H Q ∨ rEqV K x y H Q
theorem op_eqB {X : Cx} (hu : X.A.units + 64 < cLine) : OpR X (compareOp .Eq) (rEqB X.K) := (op_eqA hu).or (op_eqV hu)
theorem ow_eqBd {k : DV → Prop} (h : OW K (rEqA K) x y k) : OW K (rEqB K) x y k := OW.l h
theorem ow_eqDic {ky : Key} {i : Int} {k : DV → Prop} (q : k (.bl true)) : OW K (rEqB K) (.dic [ky] [.lst [.int i]]) (.dic [ky] [.lst [.int i]]) k := OW.r fun Z pn As H0 M H σ Γ O n S v w rv rw Q c => by
  have get : ∀ {v : V}, Rp K M v (.dic [ky] [.lst [.int i]]) → ∃ a b, v = .ref a ∧ H a = some (.dK [(ky, .ref b)]) ∧ H b = some (.lst [.int i]) := fun r => by
    cases r with
    | @dic a kvs _ _ g1 g2 g3 =>
      match kvs, g2, g3 with
      | [(k0, v0)], g2, g3 =>
        cases g2
        cases g3 with
        | cons r1 r2 =>
          obtain ⟨b, vs, ev, h1, h2⟩ := r1.lst'
          have ev' : v0 = .ref b := ev
          subst ev'
          cases h2 with
          | cons a1 a2 =>
            cases a1; cases a2
            exact ⟨a, b, rfl, S.ex _ _ g1, S.ex _ _ h1⟩
  obtain ⟨a, b, rfl, h1, h2⟩ := get rv
  obtain ⟨a', b', rfl, h3, h4⟩ := get rw
  refine ⟨2, by decide, .inr ⟨a, a', _, _, rfl, rfl, h1, h3, rfl, fun p hp => ?_⟩, c _ M H _ (Evl.Ex.refl M) S (.bl true) q⟩
  simp only [List.mem_cons, List.not_mem_nil, or_false] at hp
  subst hp
  refine ⟨.ref b', by simp [valV], ?_⟩
  exact .inr (.inr (.inl ⟨b, b', _, _, rfl, rfl, .inl (.inl h2), .inl (.inl h4), .cons (.inl ⟨rfl, rfl⟩) .nil⟩))
end
end DL
namespace DL
open PySem PySem.Spec PyProof.Rows L2 NdefX PySem.HandSPX PySem.DLx StX
variable [Tn]
/-! defs with *args, with what is known of the guards; making an instance by one -/
def FnS (P : Program) (w : World) (K : Fg) (mg : Str → Option Value) (base : Heap) (k : Nat) (f : Addr) (sp : Sp) : Prop :=
  ∀ (A : Around) (outer : List Env) (s : Shared) (H : Hp) (us : List Value) (vs : List V) (Q : VK) (E : XK), Room k A → A.guards = some [] → Env0 P w K mg base A outer s H → Vals vs us → sp vs H Q E →
    codeAny (model P w) A (.call (.ref f) ⟨us, []⟩) (CR CX0 outer P w H s Q E) s
/-- what *args hand over: the tuple of the rest is laid -/
def spStar (nn : Nat) (sp : Sp) : Sp := fun vs H Q E => ∃ ws rest, vs = ws ++ rest ∧ ws.length = nn ∧ rest.length ≤ sizeLine ∧ ∀ p, H p = Option.none → sp (ws ++ [V.ref p]) (upd H p (.tup rest)) Q E
section
variable {P : Program} {w : World} {K : Fg} {mg : Str → Option Value} {base : Heap} {k : Nat} {f : Addr} {name qual : Str} {params : Arguments} {body : List Stmt} {scope : Scope} {dV kV doc pm cdv ct oc : Value} {an od : Option Addr} {osl : Array (Option Value)} {N ps : List Str} {sp : Sp}
theorem fnS_star {pv : Str} (lk : K.lookup f = some ⟨oc, od, .func (PySem.W.fnOf name qual params body scope dV kV doc pm an cdv ct), osl⟩) (hcd : PySem.W.codeIn K cdv qual = true) (S : FnScope N (ps ++ [pv]) scope)
    (hb : ∀ us rest : List Value, us.length = ps.length → bindArgs (PySem.W.fnOf name qual params body scope dV kV doc pm an cdv ct) ⟨us ++ rest, []⟩ = (newTuple rest >>= fun t => pure (ps.zip us ++ [(pv, t)])))
    (hbody : ∀ (A : Around) (outer : List Env) (s : Shared) (H : Hp) (vs : List V) (Q : VK) (E : XK), Room k (A.deeper (envOfC qual scope s.heap.objs.size f cdv)) → A.guards = some [] → sp vs H Q E →
      ∃ t, PSs (cxOf CX0 P w K mg base N qual scope f cdv A outer s H E) body t ∧ t { nx := fun _ H' => Q .non H', rt := Q } (start N vs) H) : FnS P w K mg base (k + 1) f (spStar ps.length sp) := by
  intro A outer s H us vs Q E hr hG e0 r hsp
  obtain ⟨ws, rest, rfl, hl, hz, hq⟩ := hsp
  obtain ⟨u1, u2, rfl, r1, r2⟩ := vals_split r
  have hn : H s.heap.objs.size = Option.none := e0.hok.fresh (Nat.le_refl _)
  have l1 : u1.length = ps.length := r1.length.symm.trans hl
  have l2 : u2.length ≤ sizeLine := by
    rw [← r2.length]; exact hz
  refine run_bnd lk hcd S hr e0 (G := fun xs H2 => ∃ p, H p = Option.none ∧ xs = ws ++ [V.ref p] ∧ H2 = upd H p (.tup rest)) (fun A' Ex Q' h => ?_) fun s2 H2 xs ⟨p, hp, ex, eH⟩ hr' => ?_
  · rw [hb u1 u2 l1]
    refine wpAny_bind (wpAny_newTuple (wpAny_pure ?_) l2)
    have ob : ObjOk P w (upd H s.heap.objs.size (.tup rest)) (s.heap.push ({ cls := .type "tuple", data := .seq u2.toArray } : Obj)) s.heap.objs.size (.tup rest) := by
      exact ⟨hz, u2, r2, ⟨_, Heap.get?_push_size _ rfl, rfl, _, rfl⟩⟩
    have un := un_laid (fs := frs outer) (s := s) (o := ({ cls := .type "tuple", data := .seq u2.toArray } : Obj)) (u := .tup rest) hn
    have z := h _ _ (ws ++ [V.ref s.heap.objs.size]) (u1 ++ [Value.ref s.heap.objs.size]) (env0_laid e0 ob) un rfl (fun e s' z => z) (r1.append (.cons rfl .nil)) (by rw [List.length_append, List.length_append, hl] <;> rfl) ⟨_, hn, rfl, rfl⟩
    rw [List.zip_append l1.symm] at z
    exact z
  · subst ex eH
    exact hbody A outer s2 _ _ Q E hr' hG (hq p hp)
end
theorem guards_make {A : Around} {C : Addr} {us : List Value} {kw : List (Str × Value)} : (A.under (.builtin "type.__call__" ⟨.ref C :: us, kw⟩)).guards = A.guards := by
  first | rfl | simp [Around.under, Code.isGuard, guardIds]
/-- C(e, ..) by a promise of its __init__ -/
def tMakeS (C : Addr) (sp : Sp) (t : TA) : TE := fun σ H Q => t σ H fun vs H1 => ∀ x dx, H1 x = Option.none → H1 dx = Option.none → dx ≠ x →
  sp (V.ref x :: vs) (upd (upd H1 dx (.own x)) x (.ins C dx [])) (fun v H2 => v = .non ∧ Q (.ref x) H2) E0
structure HasS (P : Program) (w : World) (K : Fg) (mg : Str → Option Value) (base : Heap) (k : Nat) (C : Addr) (sp : Sp) : Prop where
  ex : ∃ f, Mk K C f ∧ FnS P w K mg base k f sp
section
variable {X : Cx} {k j : Nat} {C : Addr} {sp : Sp} {x : Str} {e : Expr} {es : List Expr} {t : TA} {p pos : Pos}
theorem run_mkS {pins : List (Addr × Obj)} {σ : L2.St} {H : Hp} {s : Shared} {Q : VK} {us : List Value} {vs : List V} {f : Addr} (M : Mk X.K C f) (F : FnS X.prog X.w X.K X.mg X.base k f sp) (hr : Room (k + 1) X.A) (hG : X.A.guards = some []) (I : Inv X pins σ H s) (r : Vals vs us)
    (h : ∀ x dx, H x = Option.none → H dx = Option.none → dx ≠ x → sp (V.ref x :: vs) (upd (upd H dx (.own x)) x (.ins C dx [])) (fun v H2 => v = .non ∧ Q (.ref x) H2) E0) :
    wpAny (model X.prog X.w) X.A (call (.ref C) us) (L2.EP X pins σ Q) X.xe s := by
  have q0 := h (s.heap.objs.size + 1) s.heap.objs.size (I.hok.fresh (Nat.le_succ _)) (I.hok.fresh (Nat.le_refl _)) (Nat.ne_of_lt (Nat.lt_succ_self _))
  have I2 := Inv.made (C := C) I
  have r2 : Vals (V.ref (s.heap.objs.size + 1) :: vs) (Value.ref (s.heap.objs.size + 1) :: us) := .cons rfl r
  refine wpAny_call (make_map (f := f) I.kIn M.makes M.init (beq_iff_eq.mp M.fn) (codeAny_mono (F _ X.stack _ _ (Value.ref (s.heap.objs.size + 1) :: us) _ _ E0 (hr.make C us []) (guards_make.trans hG) (I2.env0.make C us []) r2 q0) fun r s' h' => ?_))
  cases r with
  | error e => exact pass0 pins σ _ _ e s' I2 h'
  | ok fl =>
    cases fl with
    | ret u =>
      obtain ⟨v, H', I3, rv, ev, q3⟩ := I2.after h'
      subst ev
      exact ⟨rv, ⟨V.ref (s.heap.objs.size + 1), H', I3, rfl, q3⟩⟩
    | next => exact h'.elim
    | brk => exact h'.elim
    | cont => exact h'.elim
theorem pe_mkS (h : HasS X.prog X.w X.K X.mg X.base j C sp) (hr : Room k X.A) (hj : j + 1 ≤ k) (hG : X.A.guards = some []) (hm : X.mg x = some (.ref C)) (ha : PA X (e :: es) t) (hg : Gl X x := by rfl) (hdb : (x == ("__debug__" : Str)) = false := by decide)
    (he : starEach (e :: es) X.env = (false, eval e X.env) :: starEach es X.env := by rfl) (hpl : (backTo pos (starEach es X.env)).any (·.1) = false := by rfl) : PE X (.Call (.Name x p) (e :: es) [] pos) (tMakeS C sp t) := by
  obtain ⟨f, M, F⟩ := h
  constructor
  intro pins s σ H Q I q
  apply wpAny_Call_Name_kw (ld_glob I hg hm ?_ hdb)
  apply PySem.W.callWith_K (h₀ := X.base) I.ok.mod.kin M.kp ?_ he hpl
  apply thn (ha.run pos pins s σ H _ I q)
  rintro us s1 ⟨vs, H1, I1, r, q1⟩
  exact ⟨I1.kIn, run_mkS M F (hr.mono hj) hG I1 r q1⟩
end
end DL
namespace DL
open PySem PySem.Spec PyProof.Rows L2 NdefX
variable [Tn]
/-! bool(x); nested targets of two drawn pairs; promises that none can ask for -/
def rBool : List V → Hp → VK → Prop := fun xs H Q => (∃ i, xs = [.int i] ∧ Q (.bl (i != 0)) H) ∨ ∃ k, xs = [.bl k] ∧ Q (.bl k) H
theorem cr_bool {X : Cx} : CallR X (.type "bool") rBool := call_bool1
section
variable {K : Fg} {Z : Xt} {P : Program} {w : World} {mg : Str → Option Value} {base : Heap} {x : Str} {st : Stmt} {ps : List Str} {sp : Sp} {k : Nat}
theorem cw_boolB {b : Bool} {k : DV → Prop} (q : k (.bl b)) : CW K rBool [.bl b] k := fun Z pn As H0 M H σ Γ O n S vs r Q c => by
  obtain ⟨u, rfl, h1⟩ := r.one
  cases h1
  exact .inr ⟨b, rfl, c _ M H _ (Evl.Ex.refl M) S (.bl b) q⟩
/-- nobody can ask for it -/
theorem has_none (A : At K mg x st ps) (no : ∀ vs H Q E, ¬ sp vs H Q E) : Has P w K mg base k x st ps sp := by
  obtain ⟨f, fd, F, hm, bi⟩ := A.ex
  exact ⟨f, fd, F, hm, bi, ⟨fun vs H Q E h => (no vs H Q E h).elim, fun A outer s H args us vs Q E _ _ _ _ _ h => (no vs H Q E h).elim⟩⟩
/-- a method of the text, at f -/
theorem hasM_of {f : Addr} {qual nm : Str} {N : List Str} {fd : FuncData} (F : Fun K nm qual st f fd) (fn : PySem.W.isFn K (.ref f) = true) (bi : Binds K fd ps []) (S : FnScope N ps (defScope st)) (len : ∀ vs H Q E, sp vs H Q E → vs.length = ps.length)
    (hb : ∀ (cdv : Value) (A : Around) (outer : List Env) (s : Shared) (H : Hp) (vs : List V) (Q : VK) (E : XK), Room k (A.deeper (envOfC qual (defScope st) s.heap.objs.size f cdv)) → A.guards = some [] → sp vs H Q E →
      ∃ t, PSs (cxOf CX0 P w K mg base N qual (defScope st) f cdv A outer s H E) (defBody st) t ∧ t { nx := fun _ H' => Q .non H', rt := Q } (start N vs) H) : HasM P w K mg base (k + 1) f sp :=
  ⟨fn, fd, ps, bi, fnG_fun F S len fun cdv A outer s H vs Q E hr hG h => hb cdv A outer s H vs Q E hr hG h⟩
end
end DL
namespace DL
open PySem PySem.Spec PyProof.Rows L2 NdefX
variable [Tn]
section
variable {K : Fg} {Z : Xt}
/-! the script's first cells -/
def scr (K : Fg) (a : Addr) (xs : List V) : TE := fun σ H Q => SqL K H a xs → tSl (rCut K) (tVar 0) tNoPart (tPart (tC (.int 63))) σ H Q
theorem wl_scr {a : Addr} {ns : List Int} {Γ : List SA} {O : Own} {n : Nat} {k : List DV → Nat → Prop} (h0 : Γ[0]? = some (.is (.adr a))) (q : k ((ns.take 63).map DV.int) n) : WL K Z (scr K a (ns.map V.int)) Γ O n k := fun pn As H0 M H σ S Q c => fun hq => by
  obtain ⟨v, h1, h2⟩ := S.slot h0
  cases h2
  refine ⟨_, h1, 63, rfl, .inl ⟨a, ns.map V.int, rfl, hq, fun p hp => ?_⟩⟩
  have e : cutV (ns.map V.int) none (some (63 : Int)) = (ns.take 63).map V.int := by
    unfold cutV
    have e63 : HT.sIx (ns.map V.int).length (ns.map V.int).length (some (63 : Int)) = min 63 (ns.map V.int).length := HT.sIx_nat _ _ 63
    rw [e63, HT.sIx_none, List.drop_zero, Nat.sub_zero, List.map_take]
    by_cases h : 63 ≤ (ns.map V.int).length
    · rw [Nat.min_eq_left h]
    · rw [Nat.min_eq_right (by omega), List.take_of_length_le (Nat.le_refl _), List.take_of_length_le (by omega)]
  rw [e]
  exact wl_new S hp (RpL.of_ints _) c q
end
/-! the law's own call, where sys.modules is known to stand -/
theorem lawS {P : Program} {w : World} {K : Fg} {mg mb : Str → Option Value} {CX : CXT} {k : Nat} {fa a : Addr} {fd : FuncData} {x : Str} {sp : Sp} {z : Shared} {us : List Value} {ns : List Int}
    (KX : K.In z.heap) (hns : z.heap.Ns mainGlobals mg) (hb : z.heap.Ns builtinsNs mb) (hbb : ∀ x : Str, x ≠ "__name__" → mb x = bootBuiltins x) (hlim : z.heap.NoLimit) (hsm : ∃ mm, z.heap.Ns sysModules mm) (hgen : z.gens = #[])
    (ha : z.heap.get? a = some { cls := .type "list", data := .seq us.toArray }) (hi : IntsAre us ns) (hl : ns.length ≤ sizeLine) (hr : Room k callerA)
    (F : ∀ base : Heap, K.In base → base.Ns mainGlobals mg → (∃ o, base.get? sysModules = some o) → FnG P w K mg base CX k fa fd [x] sp) (hbind : ∀ (s : Shared) (u : Value), BindsTo s fd ⟨[u], []⟩ [(x, u)])
    (hsp : ∀ H : Hp, Only H → SqL K H a (ns.map V.int) → sp [.ref a] H (fun v _ => v = .bl true) fun _ _ _ => False)
    (hCX : ∀ H e s', CX [] H z (fun _ _ _ => False) e s' → False) :
    codeAny (model P w) callerA (.call (.ref fa) ⟨[.ref a], []⟩) (fun r s' => r = .ok (.ret (.bool true)) ∧ OldK z.heap s'.heap ∧ s'.os = z.os ∧ AllBare s'.gens) z := by
  have lenV := hi.length
  have main : ∀ H : Hp, Only H → SqL K H a (ns.map V.int) → HOk P w H z.heap → (∀ b, H b ≠ none → b = a) → (H a ≠ none → K.lookup a = none) →
      codeAny (model P w) callerA (.call (.ref fa) ⟨[.ref a], []⟩) (fun r s' => r = .ok (.ret (.bool true)) ∧ OldK z.heap s'.heap ∧ s'.os = z.os ∧ AllBare s'.gens) z := by
    intro H hO hS hok hA hK
    have noD : ∀ {b : Addr} {o : Obj} {es : Array DictEntry} {ep : Nat}, z.heap.get? b = some o → o.data = .dict es ep → H b = none := by
      intro b o es ep e d
      cases q : H b with
      | none => rfl
      | some u =>
        exfalso
        have eb := hA b (by rw [q]; exact fun y => nomatch y)
        rw [eb, ha] at e
        cases e
        cases d
    have nsK : ∀ {b : Addr} {m : Str → Option Value}, z.heap.Ns b m → (hidT z.heap H).Ns b m := by
      rintro b m ⟨o, es, ep, e, d, r⟩
      exact ⟨o, es, ep, hidT_get e (noD e d), d, r⟩
    have hKb : K.In (hidT z.heap H) := by
      intro b o e
      refine hidT_get (KX b o e) ?_
      cases q : H b with
      | none => rfl
      | some u =>
        exfalso
        have eb := hA b (by rw [q]; exact fun y => nomatch y)
        rw [eb] at q e
        rw [hK (by rw [q]; exact fun y => nomatch y)] at e
        cases e
    obtain ⟨mc, l1, l2⟩ := hlim
    obtain ⟨mm, hmm⟩ := hsm
    have hB : ∃ o, (hidT z.heap H).get? sysModules = some o := by
      obtain ⟨o, es, ep, e, _⟩ := nsK hmm
      exact ⟨o, e⟩
    have hM : Mod K mg (hidT z.heap H) := ⟨hKb, nsK hns, ⟨mb, nsK hb, hbb⟩, mc, nsK l1, l2⟩
    have e0 : Env0 P w K mg (hidT z.heap H) callerA [] z H := by
      refine ⟨rfl, hM, fun b o e => of_hidT e, Nat.le_of_eq (hidT_size _ _), trivial, ?_, hok, .of_eq hgen⟩
      intro b hb'
      cases hb'
    apply codeAny_mono ((F _ hKb (nsK hns) hB).go callerA [] z H ⟨[.ref a], []⟩ [.ref a] [.ref a] _ _ hr rfl e0 (hbind z (.ref a)) (.cons rfl .nil) (hsp H hO hS))
    intro r s' h
    cases r with
    | error e => exact (hCX H e s' h).elim
    | ok fl =>
      cases fl with
      | next => exact h.elim
      | brk => exact h.elim
      | cont => exact h.elim
      | ret u =>
        obtain ⟨v, H', os, bare, un, hok', r', q⟩ := h
        have q' : v = .bl true := q
        subst q'
        have hu : u = Value.bool true := r'
        subst hu
        refine ⟨rfl, OldK.of_keep ?_, os, bare⟩
        intro b o e
        cases q : H b with
        | none =>
          refine un.keep b o e q ?_ ?_
          · intro y; cases y
          · intro y; cases y
        | some u =>
          rcases hO b with y | ⟨ob, xs, y⟩
          · rw [q] at y; cases y
          · have t1 := (hok b _ y).1
            have t2 := (hok' b _ (un.frzs b ob _ y)).1
            rw [e] at t1
            cases t1
            exact t2
  by_cases hk : ∃ o, K.lookup a = some o
  · obtain ⟨o, hk⟩ := hk
    have e := KX a o hk
    rw [ha] at e
    cases e
    apply main (fun _ => none)
    · exact fun _ => .inl rfl
    · exact .inr ⟨_, us.toArray, _, hk, rfl, rfl, rfl, by rw [List.size_toArray, lenV]; exact hl, by simpa using vals_ints hi⟩
    · intro b u y; cases y
    · intro b y; exact absurd rfl y
    · intro y; exact absurd rfl y
  · have hk' : K.lookup a = none := by
      cases e : K.lookup a with
      | none => rfl
      | some o => exact absurd ⟨o, e⟩ hk
    let Hs : Hp := fun b => if b = a then some (.frz { cls := .type "list", data := .seq us.toArray } (.lst (ns.map V.int))) else none
    have at_a : Hs a = some (.frz { cls := .type "list", data := .seq us.toArray } (.lst (ns.map V.int))) := if_pos rfl
    have off : ∀ b, b ≠ a → Hs b = none := fun b hb => if_neg hb
    apply main Hs
    · intro b
      by_cases hb : b = a
      · subst hb; exact .inr ⟨_, _, at_a⟩
      · exact .inl (off b hb)
    · exact .inl (.inr ⟨_, at_a⟩)
    · intro b u y
      by_cases hb : b = a
      · subst hb
        rw [at_a] at y
        cases y
        exact ⟨ha, by rw [List.length_map]; exact hl, us, _, vals_ints hi, ha⟩
      · rw [off b hb] at y; cases y
    · intro b y
      by_cases hb : b = a
      · exact hb
      · exact absurd (off b hb) y
    · exact fun _ => hk'
theorem walkS {l : PySem.W.OpenLaw} {n k : Nat} {q : Program} {loose : List Str} {XP : (Str → Option Value) → Heap → Prop} {YP : World → Heap → Prop} {d : DefRec} {K : Params → Fg} {CX : CXT} {sp : Fg → Sp} {x : Str}
    (him : PyProof.Rows.importsNone q = true) (hn : l.most = some n) (hn2 : n ≤ sizeLine) (hdf : d.params.defaults = []) (hr : Room k callerA) (hY : ∀ (w : World) (h : Heap), YP w h → (K w.params).In h)
    (F : ∀ (w : World) (mg : Str → Option Value) (fa : Addr) (h : Heap), (K w.params).In h → h.Ns mainGlobals mg → (∃ o, h.get? sysModules = some o) → mg d.name = some (.ref fa) →
      ∃ fd : FuncData, (∀ (s : Shared) (u : Value), BindsTo s fd ⟨[u], []⟩ [(x, u)]) ∧ ∀ base : Heap, (K w.params).In base → base.Ns mainGlobals mg → (∃ o, base.get? sysModules = some o) → FnG l.prog w (K w.params) mg base CX k fa fd [x] (sp (K w.params)))
    (hsp : ∀ (K : Fg) (H : Hp) (a : Addr) (ns : List Int), ns.length ≤ n → Only H → SqL K H a (ns.map V.int) → sp K [.ref a] H (fun v _ => v = .bl true) fun _ _ _ => False)
    (hCX : ∀ (H : Hp) (s : Shared) (e : Value) (s' : Shared), CX [] H s (fun _ _ _ => False) e s' → False) :
    PySem.W.WalkO q loose XP YP l.row.toRowW d [] (fun f vs => PySem.call f vs) := by
  apply Att.attach_call hn hdf
  intro w s₀ s₁ mg mb fa o pm cd doc a vs ns G Y ho hd hcd hmg hobj hints hlen hg
  have KX := hY w _ Y
  obtain ⟨mm, hmm, _⟩ := (G.T.seer him).mods
  obtain ⟨fd, hb, hF⟩ := F w mg fa _ KX G.T.g (by obtain ⟨o, es, ep, e, _⟩ := hmm; exact ⟨o, e⟩) hmg
  exact lawS KX G.T.g G.T.b G.T.builtins G.T.nolimit ⟨mm, hmm⟩ hg hobj hints (Nat.le_trans hlen hn2) hr hF hb (fun H hO hS => hsp _ H a ns hlen hO hS) fun H e s' => hCX H s₁ e s'
end DL
namespace DL
open PySem PySem.Spec PyProof.Rows L2
/-! try: .. except C as n: m = n: the error that was caught stands as a value -/
section
variable {X : Cx} {pins : List (Addr × Obj)} {σ : L2.St} {H : Hp} {s : Shared}
/-- an object that stands in the heap is known from now on -/
theorem inv_track {a : Addr} {o : HO} (I : Inv X pins σ H s) (hn : H a = none) (n0 : X.s_0.heap.get? a = none) (nl : a ≠ X.env.locals) (nc : ∀ y c, X.env.cells.lookup y = some c → c ≠ a) (np : ∀ p ∈ X.pn ++ pins, p.1 ≠ a)
    (new : ObjOk X.prog X.w (upd H a o) s.heap a o) : Inv X pins σ (upd H a o) s := by
  have nx : ∀ {b : Addr} {u : HO}, H b = some u → b ≠ a := fun {b u} e z => by
    rw [z, hn] at e; cases e
  have un : Un X.fs X.ex X.H_0 (upd H a o) X.s_0.heap s.heap := by
    have B := I.base
    refine ⟨B.keep, B.slot, ?_, B.there, ?_, ?_, ?_⟩
    · intro b ob e n hx
      rw [upd_ne (fun z => by rw [z, n0] at e; cases e)]
      exact B.free b ob e n hx
    · intro b xs e
      have q := B.tups b xs e
      rw [upd_ne (nx q)]; exact q
    · intro b ob u e
      have q := B.frzs b ob u e
      rw [upd_ne (nx q)]; exact q
    · intro b ps e
      obtain ⟨more, q⟩ := B.tbls b ps e
      exact ⟨more, by rw [upd_ne (nx q)]; exact q⟩
  have hok : HOk X.prog X.w (upd H a o) s.heap := I.hok.laidN (fun _ _ z => z) hn new
  exact ⟨I.ok, I.os, I.bare, un, I.loc, I.cell, by rw [upd_ne (Ne.symm nl)]; exact I.free, fun y c e => by rw [upd_ne (nc y c e)]; exact I.freeC y c e, fun p hp => by
    obtain ⟨q1, q2, q3⟩ := I.pin p hp
    exact ⟨q1, by rw [upd_ne (np p hp)]; exact q2, q3⟩, hok, I.len⟩
/-- what is wished of an error of the body: n at slot i, m at slot j -/
def wCat (K : Fg) (c : Value) (i j : Nat) (D : Ends) : WX := fun cls d σ H =>
  ∃ C dd, cls = .ref C ∧ d = some dd ∧ PySem.W.exmOne K cls c = some true ∧ ∀ a, H a = none → D.nx (((σ.set i (some (.ref a))).set j (some (.ref a))).set i none) (upd H a (xob a C dd))
variable {x n m : Str} {c : Value} {i j : Nat} {body : List Stmt} {xp mp p1 p2 pos pos' : Pos} {tb : WX → TS}
theorem ps_try_cat (hs : X.stack = X.env :: X.outer) (hf : X.env.frame = some X.env.locals) (hex : X.ex = []) (nd : X.N.Nodup) (hi : X.N[i]? = some n) (hln : X.env.kindOf n = some .local) (hj : X.N[j]? = some m) (hlm : X.env.kindOf m = some .local)
    (hc : Names X x c) (h1 : (n == ("__debug__" : Str)) = false) (h2 : (n == ("__classdict__" : Str)) = false)
    (hb : ∀ (W : WX) (pn : List (Addr × Obj)) (xe : Value → Shared → Prop), Takes (X.tr pn xe) W → PassesOwn (model X.prog X.w) X.A X.env xe → PSs (X.tr pn xe) body (tb W)) :
    PS X (.Try body [.ExceptHandler (some (.Name x xp)) (some n) [.Assign [.Name m mp] (.Name n p1) p2] pos'] [] [] pos) (fun D σ H => tb (wCat X.K c i j D) D σ H) := by
  constructor
  intro pins s σ H D I h
  have ok := I.ok
  have fr : X.A.frames = some (X.env :: X.outer) := by
    rw [ok.frames, hs]
  apply wpAny_Try_except
  apply wpAny_mono ((hb (wCat X.K c i j D) (X.pn ++ pins) (fun e s₁ => wpAny (model X.prog X.w) X.A (noteFrame e X.env) (fun _ s₂ => wpAny (model X.prog X.w) X.A (setFlight e none)
    (fun _ s₃ => wpAny (model X.prog X.w) X.A (handleBy e X.env [.ExceptHandler (some (.Name x xp)) (some n) [.Assign [.Name m mp] (.Name n p1) p2] pos']) (SP X pins D) X.xe s₃) X.xe s₂) X.xe s₁) (fun u s' air => ?_) PassesOwn.looking).run [] s σ H D (I.toTry _) h)
  · intro fl s1 q
    cases fl with
    | next =>
      obtain ⟨τ, H2, J, q⟩ := q
      exact wpAny_execs_nil ⟨τ, H2, J.ofTry ok, q⟩
    | brk =>
      obtain ⟨τ, H2, J, q⟩ := q
      exact ⟨τ, H2, J.ofTry ok, q⟩
    | cont =>
      obtain ⟨τ, H2, J, q⟩ := q
      exact ⟨τ, H2, J.ofTry ok, q⟩
    | ret u =>
      obtain ⟨v, τ, H2, J, r, q⟩ := q
      exact ⟨v, τ, H2, J.ofTry ok, r, q⟩
  · exact fun _ _ z => z
  · obtain ⟨a, B, sI, pins', τ, H2, cls, d, rfl, J', nb, up, sky, na, os, ag, C, dd, rfl, rfl, hb1, hyes⟩ := air
    have J : Inv X pins τ H2 sI := J'.ofTry ok
    rw [hs] at sky
    show wpAny (model X.prog X.w) X.A (noteFrame (.ref a) X.env) _ _ _
    apply Sky.land Zc.steady fr hf sky
    intro g3 fl3 up3
    have J3 : Inv X pins τ H2 { s' with heap := g3 } := J.landed nb fl3.1 (up.trans up3) os ag
    obtain ⟨o3, v3, e3, z3, d3⟩ := fl3.there
    have off : a ∉ frs (X.env :: X.outer) := fun hm => by
      obtain ⟨_, o', e', hnf⟩ := fl3.2.2.1.mem hm
      rw [e3] at e'; cases e'
      exact hnf _ d3
    have nL : a ≠ X.env.locals := fun z => off (List.mem_filterMap.mpr ⟨X.env, List.mem_cons_self, by rw [hf, z]⟩)
    have nF : a ∉ X.fs := fun hm => by
      obtain ⟨e, he, q⟩ := List.mem_filterMap.mp hm
      exact off (List.mem_filterMap.mpr ⟨e, List.mem_cons_of_mem _ he, q⟩)
    have Ba : B.get? a = none := fl3.2.1
    have gone : ∀ o, sI.heap.get? a ≠ some o := fun o e => by
      have q := nb a o e (by rw [hs]; exact off)
      rw [Ba] at q; cases q
    have n0 : X.s_0.heap.get? a = none := by
      cases e : X.s_0.heap.get? a with
      | none => rfl
      | some o =>
        obtain ⟨o', q⟩ := J.base.there a o e (by rw [hex]; exact fun z => nomatch z)
        exact absurd q (gone o')
    have np : ∀ p ∈ X.pn ++ pins, p.1 ≠ a := fun p hp z => by
      have q := (J.pin p hp).1
      rw [z] at q
      exact gone _ q
    have S3 := J3.suite e3 d3 na nL nF
    apply wpAny_handleBy_cons (codeAny_handlers_test ?_) (by intro q; cases q)
    have LT : PySem.W.Looks (model X.prog X.w) g3 (typeOf (.ref a)) (.ref C) := fun A Q E s k q => wpAny_typeOf_ref (k _ _ e3) (by rw [z3.1]; exact q)
    have LM := PySem.W.exm_one (M := model X.prog X.w) (J3.kIn) LT hb1
    have seen : ∀ {Q : Value → Shared → Prop} {E : Value → Shared → Prop}, Q c { s' with heap := g3 } → wpAny (model X.prog X.w) (X.A.mark (some (.ref a))) (eval (.Name x xp) X.env) Q E { s' with heap := g3 } := fun {Q E} q => by
      obtain ⟨hg, hdbg, hm | ⟨hm, hv, hnn⟩⟩ := hc
      · exact ld_glob (X := X.suite a ((a, o3) :: (X.pn ++ pins))) S3 hg hm q hdbg
      · exact ld_blt (X := X.suite a ((a, o3) :: (X.pn ++ pins))) S3 hg hm hv q hnn hdbg
    apply seen
    apply LM.here
    apply codeAny_handlers_suite_as
    apply HandSPX.lands_againZ fl3
    intro g4 fl4 up4
    have J4 : Inv X pins τ H2 { s' with heap := g4 } := J.landed nb fl4.1 ((up.trans up3).trans up4) os ag
    obtain ⟨o4, v4, e4, z4, d4⟩ := fl4.there
    have S4 := J4.suite e4 d4 na nL nF
    apply store_ok (X := X.suite a ((a, o4) :: (X.pn ++ pins))) (v := .ref a) S4 nd hi (.inl hln) rfl ?_ (.inr hln)
    intro s5 S5
    have su : PSs (X.suite a ((a, o4) :: (X.pn ++ pins))) [.Assign [.Name m mp] (.Name n p1) p2] (tAsg (tVar i) (gName j)) := by
      exact pss_one (ps_set (i := j) nd hj (Or.inl hlm) (pe_var (X := X.suite a ((a, o4) :: (X.pn ++ pins))) hi (Or.inl hln) h1 h2) (hf := .inr hlm))
    have hiτ : i < τ.length := by rw [J4.len]; exact (List.getElem?_eq_some_iff.mp hi).1
    apply wpAny_mono (su.run [] s5 _ H2 { nx := fun τ6 H6 => τ6 = (τ.set i (some (.ref a))).set j (some (.ref a)) ∧ H6 = H2, rt := fun _ _ => False } S5 ⟨.ref a, by rw [List.getElem?_set_self hiτ], rfl, rfl⟩)
    · intro fl s6 q
      cases fl with
      | next =>
        obtain ⟨τ6, H6, S6, e6, e7⟩ := q
        subst e6 e7
        have pa := S6.pin (a, o4) (List.mem_append_left _ List.mem_cons_self)
        have J6 := S6.unsuite ok
        have ob : ObjOk X.prog X.w (upd H6 a (xob a C dd)) s6.heap a (xob a C dd) := by
          refine ⟨⟨o4, v4, pa.1, z4.1, z4.2, d4⟩, ⟨o4, pa.1⟩, ?_⟩
          rintro h1 h2 ⟨oe, vs, q1, q2, q3, q4⟩ k
          exact ⟨oe, vs, k _ q1, q2, q3, q4⟩
        have J7 := inv_track (o := xob a C dd) J6 na n0 nL (fun y c e z => by
          obtain ⟨w, oc, q1, q2⟩ := J6.cell y c e
          rw [z, pa.1] at q1; cases q1
          rw [d4] at q2; cases q2) np ob
        exact gone_ok J7 nd hi hln fun s7 J8 => ⟨_, _, J8, hyes a na⟩
      | brk =>
        obtain ⟨_, _, _, q⟩ := q
        exact False.elim q
      | cont =>
        obtain ⟨_, _, _, q⟩ := q
        exact False.elim q
      | ret u =>
        obtain ⟨_, _, _, _, _, q⟩ := q
        exact False.elim q
    · exact fun _ _ z => False.elim z
end
end DL
namespace DL
open PySem PySem.Spec PyProof.Rows L2 LamX
variable [Tn]
/-! lambdas that are handed to a def: none or one parameter with a default -/
section
variable {X : Cx} {pins : List (Addr × Obj)} {σ : L2.St} {H HZ : Hp} {s s1 : Shared}
abbrev lamN (X : Cx) : Str := X.env.qual ++ "<lambda>"
abbrev lamO (X : Cx) (params : Arguments) (body : Expr) (scope : Scope) (dV doc pm : Value) (c' : Addr) (ctv : Value) : Obj :=
  PySem.W.kdv_obj "<lambda>" (lamN X) params (.expr body) scope (cloFrom X.env.cells scope.names []) dV doc pm c' ctv
/-- the function object is made: its code object is new, or found in the table -/
theorem lam_tail {T : List (Addr × Str)} {c P : Addr} {params : Arguments} {body : Expr} {scope : Scope} {pos : Pos} {fl : Nat} {dV : Value} {E : Value → Shared → Prop} {Q : Value → Shared → Prop} (I : Inv X pins σ H s) (B : TabB X.base X.mg c P) (hcode : X.env.code = .ref c)
    (hm : (P, lamN X) ∈ T) (hu : ∀ p ∈ T, p.1 = P → p.2 = lamN X) (hT : Tabs T H) (fr : ∀ y ∈ scope.names, y.2 = .free → ∃ c, X.env.cells.lookup y.1 = some c)
    (h : ∀ (f c' : Addr) (doc pm ctv : Value) (H1 : Hp) (s' : Shared), Inv X pins σ H1 s' → (∀ b o, b ≠ P → H b = some o → H1 b = some o) → (∀ b, H b ≠ none → H1 b ≠ none) → Tabs T H1 → (∀ b o, b ≠ P → s.heap.get? b = some o → s'.heap.get? b = some o) → (∀ b o, s.heap.get? b = some o → H b = none → H1 b = none) →
      s'.heap.get? f = some (lamO X params body scope dV doc pm c' ctv) → H1 f = none → f ∉ frs X.stack → H1 c' = some (CodeO c' (lamN X)) → Q (.ref f) s') :
    wpAny (model X.prog X.w) X.A (makeTail "<lambda>" (lamN X) params (.expr body) scope X.env dV .none none pos fl) Q E s := by
  obtain ⟨tb, atP, tri, among⟩ := hT _ hm
  have atP' : s.heap.get? P = some { cls := .none, data := .fields tb } := I.hok P _ atP
  have noF : ∀ f, s.heap.objs.size ≤ f → f ∉ frs X.stack := by
    intro f hf z
    rcases List.mem_cons.mp (I.stkSub _ z) with e | e
    · have lt := I.lt
      rw [← e] at lt
      exact absurd (Nat.lt_of_lt_of_le lt hf) (Nat.lt_irrefl _)
    · exact I.nofs hf e
  cases hc : codeAmong pos tb.toList with
  | some cv =>
    obtain ⟨c', rfl, hco⟩ := among pos cv hc
    apply PySem.W.kdv_makeTailHit (mg := X.mg) (c := c) (P := P) (ps := tb) (closure_ok fr) I.ok.glob (I.mod.glob.keeps I.bk) hcode (B.code.keeps I.bk) atP' tri hc (B.bm.keeps I.bk)
    intro ctv doc h' tk hx hsz
    exact h h'.objs.size c' doc ((X.mg "__name__").getD .none) ctv H _ (I.kept (t' := tk) fun b o e => Heap.get?_push_of_some _ (hx b o e)) (fun _ _ _ q => q) (fun _ q => q) hT (fun b o _ e => Heap.get?_push_of_some _ (hx b o e)) (fun _ _ _ n => n)
      (Heap.get?_push_size _ rfl) (I.hok.fresh hsz) (noF _ hsz) hco
  | none =>
    apply PySem.W.kdv_makeTail (mg := X.mg) (c := c) (P := P) (ps := tb) (closure_ok fr) I.ok.glob (I.mod.glob.keeps I.bk) hcode (B.code.keeps I.bk) atP' tri hc B.gP (B.bm.keeps I.bk)
    intro c' ctv doc h' tk hx hge hlt hrec htb
    obtain ⟨c2, oc, vs, t, e2, hoc, hd, hv⟩ := hrec
    cases e2
    have hsz : s.heap.objs.size ≤ h'.objs.size := by omega
    have nC : H c' = none := I.hok.fresh hge
    let more : Array Value := #[rawInt pos.line, rawInt pos.col, .ref c']
    have I1 := inv_table (t' := tk) (more := more) (h' := h'.push (lamO X params body scope dV doc ((X.mg "__name__").getD .none) c' ctv)) I atP
      (fun b o hb e => Heap.get?_push_of_some _ (hx b o hb e)) (Heap.get?_push_of_some _ htb) hge ⟨oc, vs, t, Heap.get?_push_of_some _ hoc, hd, hv⟩
    have hE : ExtN H (upd (upd H P (.tbl (tb ++ more))) c' (CodeO c' (lamN X))) := by
      intro b o e n
      have b1 : b ≠ c' := ne_of_none e nC
      have b2 : b ≠ P := fun z => by
        rw [z, atP] at e
        exact n tb (Option.some.inj e).symm
      rw [upd_ne b1, upd_ne b2]
      exact e
    have eL : (tb ++ more).toList = tb.toList ++ [rawInt pos.line, rawInt pos.col, .ref c'] := by simp [more]
    refine h h'.objs.size c' doc ((X.mg "__name__").getD .none) ctv _ _ I1 (fun b o hb e => by rw [upd_ne (ne_of_none e nC), upd_ne hb]; exact e) (fun b q => upd_live (upd_live q)) ?_ (fun b o hb e => Heap.get?_push_of_some _ (hx b o hb e)) (fun b o e n => by
      rw [upd_ne (fun z => by
        have q := Heap.lt_size e
        rw [z] at q
        exact absurd (Nat.lt_of_lt_of_le q hge) (Nat.lt_irrefl _)), upd_ne (fun z => by rw [z, atP] at n; cases n)]
      exact n) (Heap.get?_push_size _ rfl) ?_ (noF _ hsz) upd_same
    · intro p hp
      by_cases hb : p.1 = P
      · refine ⟨tb ++ more, by rw [hb, upd_ne (ne_of_none atP nC), upd_same], by rw [eL]; exact PySem.TriplesOk_snoc _ _ _ _ tri, ?_⟩
        intro p' cv hcv
        rw [hu p hp hb]
        rw [eL] at hcv
        rcases among_app _ tri hcv with z | z
        · obtain ⟨c0, e1, e2⟩ := among p' cv z
          exact ⟨c0, e1, hE _ _ e2 codeO_ne⟩
        · exact ⟨c', z, upd_same⟩
      · obtain ⟨q1, a1, a2, a3⟩ := hT p hp
        refine ⟨q1, by rw [upd_ne (ne_of_none a1 nC), upd_ne hb]; exact a1, a2, ?_⟩
        intro p' cv hcv
        obtain ⟨c0, e1, e2⟩ := a3 p' cv hcv
        exact ⟨c0, e1, hE _ _ e2 codeO_ne⟩
    · have n1 : h'.objs.size ≠ c' := Nat.ne_of_gt hlt
      have n2 : h'.objs.size ≠ P := Nat.ne_of_gt (Nat.lt_of_lt_of_le (Heap.lt_size atP') hsz)
      rw [upd_ne n1, upd_ne n2]
      exact I.hok.fresh hsz
/-- the lambda's names: its parameters ps, captured ones, globals -/
structure LamP (sc scope : Scope) (N ps : List Str) : Prop where
  kind : scope.kind = .function
  co : scope.isCoroutine = false
  gen : scope.isGenerator = false
  own : ∀ y ∈ scope.names, y.2 ≠ .cell ∧ (y.2 = .local → y.1 ∈ ps)
  par : ∀ p ∈ ps, p ∉ N ∧ scope.names.lookup p = some .local
  free : ∀ y ∈ scope.names, y.2 = .free → sc.names.lookup y.1 = some .cell ∨ sc.names.lookup y.1 = some .free
def lamPB (sc scope : Scope) (N ps : List Str) : Bool :=
  decide (scope.kind = .function) && !scope.isCoroutine && !scope.isGenerator && (scope.names.all fun y => !decide (y.2 = .cell) && (!decide (y.2 = .local) || decide (y.1 ∈ ps)) && (!decide (y.2 = .free) || decide (sc.names.lookup y.1 = some .cell) || decide (sc.names.lookup y.1 = some .free))) &&
    ps.all fun p => !decide (p ∈ N) && decide (scope.names.lookup p = some .local)
theorem lamP_by {sc scope : Scope} {N ps : List Str} (h : lamPB sc scope N ps = true) : LamP sc scope N ps := by
  unfold lamPB at h
  simp only [Bool.and_eq_true, Bool.or_eq_true, Bool.not_eq_true', decide_eq_true_eq, decide_eq_false_iff_not, List.all_eq_true] at h
  obtain ⟨⟨⟨⟨h1, h2⟩, h3⟩, h4⟩, h5⟩ := h
  refine ⟨h1, h2, h3, fun y hy => ⟨(h4 y hy).1.1, fun e => ?_⟩, h5, fun y hy e => ?_⟩
  · rcases (h4 y hy).1.2 with z | z
    · exact absurd e z
    · exact z
  · rcases (h4 y hy).2 with (z | z) | z
    · exact absurd e z
    · exact .inl z
    · exact .inr z
theorem LamP.has {scope : Scope} {ps : List Str} (L : LamP X.env.scope scope X.N ps) (ok : X.Ok) : ∀ y ∈ scope.names, y.2 = .free → ∃ c, X.env.cells.lookup y.1 = some c := by
  intro y hy e
  rcases L.free y hy e with k | k
  · exact ok.has _ (.inl k)
  · exact ok.has _ (.inr k)
/-- the lambda's frame is entered -/
theorem lam_enter {A : Around} {outer : List Env} {E : XK} {scope : Scope} {ps : List Str} {f c' : Addr} {g1 : Heap} {tk : Nat} {bs : List (Str × Value)} (I : Inv X pins σ H s) (L : LamP X.env.scope scope X.N ps) (e0 : Env0 X.prog X.w X.K X.mg X.base A outer s1 HZ) (hd : A.handled = none)
    (un : Un (frs X.stack) [] H HZ s.heap s1.heap) (hns : g1.Ns s1.heap.objs.size fun y => bs.reverse.lookup y) (kp : ∀ b o, s1.heap.get? b = some o → g1.get? b = some o) :
    Inv (lamCx X A outer s1 HZ E scope f c') [] σ HZ { s1 with heap := g1, toks := tk } := by
  have fr := L.has I.ok
  have cm : ∀ {y c}, (cloFrom X.env.cells scope.names []).lookup y = some c → X.env.cells.lookup y = some c := by
    intro y c e
    rcases cloFrom_mem (PySem.mem_of_lookup e) with hm | ⟨h1, h2⟩
    · cases hm
    · obtain ⟨c1, hc⟩ := fr _ h1 rfl
      have hc : X.env.cells.lookup y = some c1 := hc
      have e2 : c = c1 := by
        rw [h2, hc] <;> rfl
      subst e2
      exact hc
  have look : ∀ {y}, scope.names.lookup y = some .free → ∃ c, (cloFrom X.env.cells scope.names []).lookup y = some c := by
    intro y hl
    exact mem_lookup (cloFrom_has (cells := X.env.cells) (acc := []) (show (y, NameKind.free) ∈ scope.names from PySem.mem_of_lookup hl))
  have cellK : ∀ {c : Addr} {v : Option Value}, H c = none → s.heap.IsCell c v → g1.IsCell c v := by
    rintro c v n ⟨o, ho, hd⟩
    obtain ⟨sl, q⟩ := un.any ho n (by simp)
    exact ⟨_, kp _ _ q, hd⟩
  have noA : ∀ b : Addr, b ∉ (lamCx X A outer s1 HZ E scope f c').ex := by
    intro b z
    exact nomatch (show b ∈ ([] : List Addr) from z)
  have okL : (lamCx X A outer s1 HZ E scope f c').Ok := by
    refine ⟨e0.mod, L.kind, rfl, rfl, Nat.le_refl _, fun y z c e1 e2 => I.ok.inj y z c (cm e1) (cm e2), ?_, ?_, fun _ => hd, Around.frames_deeper e0.frames, .inr ⟨rfl, rfl⟩, fun b z => absurd z (noA b), e0.bs, e0.bsz, fun b _ _ => noA b, fun b z => absurd z (noA b), e0.funs, e0.frf⟩
    · intro y hy
      have hy : scope.names.lookup y = some .cell ∨ scope.names.lookup y = some .free := hy
      rcases hy with hy | hy
      · exact absurd rfl (L.own _ (PySem.mem_of_lookup hy)).1
      · exact look hy
    · intro y c z _
      have z : false = true := z
      cases z
  refine ⟨okL, rfl, e0.bare, Un.kept kp, ⟨_, hns, ?_⟩, ?_, e0.hok.fresh (Nat.le_refl _), ?_, fun q hq => (nomatch (show q ∈ ([] : List (Addr × Obj)) from hq)), e0.hok.kept kp, I.len⟩
  · intro i y v e1 e2 e3
    have e3 : Vis scope y := e3
    rcases e3 with k | k | k
    · exact absurd (List.mem_of_getElem? e1) (L.par y ((L.own _ (PySem.mem_of_lookup k)).2 rfl)).1
    · exact absurd rfl (L.own _ (PySem.mem_of_lookup k)).1
    · obtain ⟨m, hn, hl⟩ := I.loc
      have hvis : Vis X.env.scope y := by
        rcases L.free _ (PySem.mem_of_lookup k) rfl with k2 | k2
        · exact .inr (.inl k2)
        · exact .inr (.inr k2)
      obtain ⟨w', r, q⟩ := hl i y v e1 e2 hvis
      obtain ⟨c2, h2⟩ := look k
      refine ⟨w', r, .inr ⟨.inr k, c2, h2, ?_⟩⟩
      have c1 := cm h2
      rcases q with ⟨k', _⟩ | ⟨_, c3, e', z⟩
      · have k' : X.env.scope.names.lookup y = some .local := k'
        rcases L.free _ (PySem.mem_of_lookup k) rfl with k2 | k2 <;> rw [show X.env.scope.names.lookup y = _ from k2] at k' <;> cases k'
      · rw [c1] at e'
        cases e'
        exact cellK (I.freeC y _ c1) z
  · intro y c e
    obtain ⟨w', z⟩ := I.cell y c (cm e)
    exact ⟨w', cellK (I.freeC y c (cm e)) z⟩
  · intro y c e
    obtain ⟨v, o, ho, hd⟩ := I.cell y c (cm e)
    exact un.free c o ho (I.freeC y c (cm e)) (by simp)
/-- a(), in the def that got the lambda: bs, what its parameters get -/
theorem lam_act {CXg : CXT} {Eg : XK} {Ng ps : List Str} {qg : Str} {sg : Scope} {g f c' : Addr} {cdg dV doc pm ctv : Value} {params : Arguments} {body : Expr} {scope : Scope} {k i : Nat} {a : Str} {pn : List (Addr × Obj)} {xe : Value → Shared → Prop} {W : WX} {tb : XK → TE} {p1 p2 : Pos} {bs : List (Str × Value)} {ts : List Addr}
    (I : Inv X pins σ H s) (L : LamP X.env.scope scope X.N ps) (hf : s.heap.get? f = some (lamO X params body scope dV doc pm c' ctv)) (hfn : H f = none) (hfr : f ∉ frs X.stack) (hts : ∀ b ∈ ts, H b = none ∧ b ∉ frs X.stack)
    (hbind : ∀ s2 : Shared, (∀ b ∈ ts, ∀ o, s.heap.get? b = some o → s2.heap.get? b = some o) → BindsTo s2 (PySem.W.kdv_fn "<lambda>" (lamN X) params (.expr body) scope (cloFrom X.env.cells scope.names []) dV doc pm (.ref c') ctv) ⟨[], []⟩ bs) (hbs : ∀ y ∈ bs, y.1 ∈ ps)
    (tk : Takes ((cxOf CXg X.prog X.w X.K X.mg X.base Ng qg sg g cdg X.A X.stack s H Eg).tr pn xe) W) (hr : Room (k + 1) (X.A.deeper (envOfC qg sg s.heap.objs.size g cdg))) (hG : X.A.guards = some [])
    (hbody : ∀ (A : Around) (outer : List Env) (s : Shared) (H : Hp) (E : XK), Room k (A.deeper (lamEnv X scope s.heap.objs.size f c')) → A.guards = some [] → PE (lamCx X A outer s H E scope f c') body (tb E))
    (hN : Ng[i]? = some a) (hv : Vis sg a) (hd : (a == ("__debug__" : Str)) = false := by decide) (hcd : (a == ("__classdict__" : Str)) = false := by decide) :
    PE ((cxOf CXg X.prog X.w X.K X.mg X.base Ng qg sg g cdg X.A X.stack s H Eg).tr pn xe) (.Call (.Name a p1) [] [] p2)
      (fun σZ HZ Q => σZ[i]? = some (some (.ref f)) ∧ HZ c' = some (CodeO c' (lamN X)) ∧ tb (fun cls d H' => W cls d σZ H') σ HZ Q) := by
  constructor
  rintro pinsZ sZ σZ HZ Q IZ ⟨hs, hc, ht⟩
  apply wpAny_Call_Name_kw
  apply thn ((pe_var (pos := p1) (i := i) hN hv hd hcd).run pinsZ sZ σZ HZ (fun v H1 => v = .ref f ∧ H1 = HZ) IZ ⟨.ref f, hs, rfl, rfl⟩)
  rintro u s1 ⟨v, H1, I1, r1, rfl, rfl⟩
  obtain rfl : u = Value.ref f := r1
  have stay : ∀ b o, s.heap.get? b = some o → H b = none → b ∉ frs X.stack → s1.heap.get? b = some o := fun b o e n hb => I1.base.keep b o e n hb (fun z => nomatch (show b ∈ ([] : List Addr) from z))
  have of1 := stay f _ hf hfn hfr
  apply PySem.W.callWith_F0 ⟨_, _, _, _, of1⟩
  have un : Un (frs X.stack) [] H H1 s.heap s1.heap := I1.base
  obtain ⟨⟨oc, vs, t, hoc, hdc, hvc⟩, _, _⟩ := I1.hok c' _ hc
  let E : XK := fun cls d H' => W cls d σZ H'
  have rc : codeAny (model X.prog X.w) (X.A.deeper (envOfC qg sg s.heap.objs.size g cdg)) (.call (.ref f) ⟨[], []⟩) (CR (L2.CX X.prog X.w) (envOfC qg sg s.heap.objs.size g cdg :: X.stack) X.prog X.w H1 s1 Q E) s1 := by
    apply PySem.W.kla_callFunE hr.depth of1 rfl L.co L.gen rfl ⟨c', oc, vs, t, rfl, hoc, hdc, hvc⟩
    apply hbind s1 (fun b hb o e => stay b o e (hts b hb).1 (hts b hb).2)
    apply wpAny_newFunctionEnv (fun y hy => (L.own y hy).1) (fun y hy => (L.par _ (hbs y hy)).2) ?_ L.kind
    intro g1 hns hsb
    refine ⟨I1.nolimit.fresh _ hsb, ?_⟩
    show codeAny _ _ (.expr body (lamEnv X scope s1.heap.objs.size f c')) _ _
    have kp : ∀ b o, s1.heap.get? b = some o → g1.get? b = some o := fun b o e => hsb.extBut b o (Nat.ne_of_lt (Heap.lt_size e)) (Heap.get?_push_of_some _ e)
    have J := lam_enter (E := E) (f := f) (c' := c') (tk := s1.toks + bs.length) I L I1.env0 hr.hd un hns kp
    apply PySem.W.kla_codeExpr
    apply wpAny_mono ((hbody _ _ s1 H1 E (hr.deeper _) hG).run [] _ _ H1 Q J ht)
    · rintro v s' ⟨w', H', J', rv, q⟩
      exact ⟨w', H', J'.os, J'.bare, J'.base, J'.hok, rv, q⟩
    · exact fun e s' hq => hq
  apply wpAny_call
  refine codeAny_mono rc ?_
  intro r s' hq
  cases r with
  | error e => exact tk e s' (XE.of_call I1 (fun cls d H' z => z) hq)
  | ok fl =>
    cases fl with
    | ret u => exact I1.after hq
    | next => exact hq.elim
    | brk => exact hq.elim
    | cont => exact hq.elim
end
end DL
namespace DL
open PySem PySem.Spec PyProof.Rows L2 LamX
variable [Tn]
/-- the def that calls what it got: a calls it; TT: what it makes of the lambda's reading -/
def GivesH (X : Cx) (Ng : List Str) (x : Str) (sg : Scope) (g : Addr) (cdg : Value) (bg : List Stmt) (a : Str) (q : Str) (TT : (XK → Hp → VK → Prop) → Hp → VK → Prop) : Prop :=
  ∀ (f c' : Addr) (s : Shared) (H : Hp) (Q : VK) (tl : XK → Hp → VK → Prop), Room 0 (X.A.deeper (envOfC x sg s.heap.objs.size g cdg)) →
    (∀ (W : WX) (pn : List (Addr × Obj)) (xe : Value → Shared → Prop) (p1 p2 : Pos), Takes ((cxOf C8.CX0 X.prog X.w X.K X.mg X.base Ng x sg g cdg X.A X.stack s H C8.E0).tr pn xe) W →
      PE ((cxOf C8.CX0 X.prog X.w X.K X.mg X.base Ng x sg g cdg X.A X.stack s H C8.E0).tr pn xe) (.Call (.Name a p1) [] [] p2)
        (fun σZ HZ Q => σZ[0]? = some (some (.ref f)) ∧ HZ c' = some (CodeO c' q) ∧ tl (fun cls d H' => W cls d σZ H') HZ Q)) →
    H c' = some (CodeO c' q) → TT tl H Q →
    ∃ t, PSs (cxOf C8.CX0 X.prog X.w X.K X.mg X.base Ng x sg g cdg X.A X.stack s H C8.E0).nox bg t ∧ t { nx := fun _ H' => Q .non H', rt := Q } (L2.start Ng [.ref f]) H
/-- the def x got a lambda: what is known of x -/
structure Taker (X : Cx) (x : Str) (st : Stmt) (N : List Str) (a : Str) (TT : (XK → Hp → VK → Prop) → Hp → VK → Prop) : Prop where
  at_ : At X.K X.mg x st [a]
  sc : FnScope N [a] (defScope st)
  n0 : N[0]? = some a
  vis : Vis (defScope st) a
  gives : ∀ (g : Addr) (cdg : Value), GivesH X N x (defScope st) g cdg (defBody st) a (lamN X) TT
def tLamH (TT : (XK → Hp → VK → Prop) → Hp → VK → Prop) (t : XK → TE) : TE := fun σ H Q => Tabs Tn.T H ∧ ∀ H1, (∀ b o, (∀ p ∈ Tn.T, p.1 ≠ b) → H b = some o → H1 b = some o) → (∀ b, H b ≠ none → H1 b ≠ none) → Tabs Tn.T H1 → TT (fun E H' Q' => t E σ H' Q') H1 Q
/-- where a lambda is made: the maker's code object and its table -/
structure LamAt (X : Cx) : Prop where
  ex : ∃ c P, TabB X.base X.mg c P ∧ X.env.code = .ref c ∧ (P, lamN X) ∈ Tn.T
theorem passL {X : Cx} {A : Around} {outer : List Env} {s : Shared} {H : Hp} {E : XK} {scope : Scope} {f c' : Addr} : Passes (L2.CX X.prog X.w) (lamCx X A outer s H E scope f c') E :=
  passes_call (takes_of rfl rfl rfl rfl) fun _ _ _ _ h => h
section
variable {X : Cx} {pins : List (Addr × Obj)} {σ : L2.St} {H : Hp} {s : Shared} {TT : (XK → Hp → VK → Prop) → Hp → VK → Prop} {x a : Str} {st : Stmt} {N ps : List Str} {k : Nat} {params : Arguments} {body : Expr} {scope : Scope} {t : XK → TE} {p lpos pos : Pos} {Q : VK}
/-- from the making on -/
theorem lam_from {g : Addr} {fdg : FuncData} {dV : Value} {fl : Nat} {bs : List (Str × Value)} {ts : List Addr} (G : Taker X x st N a TT) (F : Fun X.K x x st g fdg) (bi : Binds X.K fdg [a] []) (LA : LamAt X) (hr : Room (k + 2) X.A) (hG : X.A.guards = some []) (L : LamP X.env.scope scope X.N ps)
    (hd : (a == ("__debug__" : Str)) = false) (hcd : (a == ("__classdict__" : Str)) = false) (hbs : ∀ y ∈ bs, y.1 ∈ ps) (hts : ∀ b ∈ ts, H b = none ∧ b ∉ frs X.stack ∧ (∃ o, s.heap.get? b = some o))
    (hbind : ∀ (s2 : Shared) (cl : List (Str × Addr)) (doc pm cv ctv : Value), (∀ b ∈ ts, ∀ o, s.heap.get? b = some o → s2.heap.get? b = some o) → BindsTo s2 (PySem.W.kdv_fn "<lambda>" (lamN X) params (.expr body) scope cl dV doc pm cv ctv) ⟨[], []⟩ bs)
    (hbody : ∀ (A : Around) (outer : List Env) (s : Shared) (H : Hp) (E : XK) (f c' : Addr), Room k (A.deeper (lamEnv X scope s.heap.objs.size f c')) → A.guards = some [] → PE (lamCx X A outer s H E scope f c') body (t E))
    (I : Inv X pins σ H s) (h : tLamH TT t σ H Q) :
    wpAny (model X.prog X.w) X.A (makeTail "<lambda>" (lamN X) params (.expr body) scope X.env dV .none none lpos fl) (fun v s' => X.K.In s'.heap ∧ wpAny (model X.prog X.w) X.A (call (.ref g) [v]) (L2.EP X pins σ Q) X.xe s') X.xe s := by
  obtain ⟨hT, h⟩ := h
  obtain ⟨c, P, TB, hcode, hm⟩ := LA.ex
  have hu : ∀ p ∈ Tn.T, p.1 = P → p.2 = lamN X := fun p hp e => Tn.u p hp _ hm e
  have notP : ∀ b, H b = none → b ≠ P := fun b n z => by
    obtain ⟨tb, e, _⟩ := hT _ hm
    rw [← z] at e
    rw [n] at e; cases e
  apply lam_tail I TB hcode hm hu hT (L.has I.ok)
  intro f c' doc pm ctv H1 s' I1 eN lv T1 st1 un1 hf hfn hfr hco
  refine ⟨I1.kIn, ?_⟩
  obtain ⟨oc, od, kV, doc2, pm2, an, cdv, ct, osl, rfl, lk, hcg⟩ := F.ex
  have rc : codeAny (model X.prog X.w) X.A (.call (.ref g) ⟨[.ref f], []⟩) (CR C8.CX0 X.stack X.prog X.w H1 s' Q C8.E0) s' := by
    apply run_ofS (N := N) (ps := [a]) (us := [.ref f]) (vs := [.ref f]) lk hcg G.sc hr I1.env0 (bi s' [.ref f] I1.kIn rfl) (.cons rfl .nil) rfl
    intro hr'
    have un : ∀ b ∈ ts, H1 b = none ∧ b ∉ frs X.stack := by
      intro b hb
      obtain ⟨n, nf, o, e⟩ := hts b hb
      exact ⟨un1 b o e n, nf⟩
    obtain ⟨t', ht', hq'⟩ := G.gives g cdv f c' s' H1 Q (fun E H' Q' => t E σ H' Q') (hr'.mono (Nat.zero_le _)) (fun W pn xe p1 p2 tk =>
      lam_act (i := 0) I1 L hf hfn hfr un (fun s2 hs2 => hbind s2 _ _ _ _ _ (fun b hb o e => hs2 b hb o (st1 b o (notP b (hts b hb).1) e))) hbs tk hr' hG (fun A outer s H E hr2 hG2 => hbody A outer s H E f c' hr2 hG2) G.n0 G.vis hd hcd) hco (h H1 (fun b o hb e => eN b o (fun z => hb _ hm z.symm) e) lv T1)
    exact ⟨t', ht'.nox, hq'⟩
  apply wpAny_call
  refine codeAny_mono rc ?_
  intro r s2 hq
  cases r with
  | error e => exact (show False from hq).elim
  | ok fl =>
    cases fl with
    | ret u => exact I1.after hq
    | next => exact hq.elim
    | brk => exact hq.elim
    | cont => exact hq.elim
/-- x(lambda: body) -/
theorem pe_lamH (G : Taker X x st N a TT) (LA : LamAt X) (hr : Room (k + 2) X.A) (hG : X.A.guards = some []) (L : LamP X.env.scope scope X.N [])
    (hbody : ∀ (A : Around) (outer : List Env) (s : Shared) (H : Hp) (E : XK) (f c' : Addr), Room k (A.deeper (lamEnv X scope s.heap.objs.size f c')) → A.guards = some [] → Passes (L2.CX (lamCx X A outer s H E scope f c').prog (lamCx X A outer s H E scope f c').w) (lamCx X A outer s H E scope f c') E → PE (lamCx X A outer s H E scope f c') body (t E)) (hg : Gl X x := by rfl)
    (hdef : defaultsOf params X.env = ([], []) := by rfl) (hbind : ∀ (cl : List (Str × Addr)) (doc pm cv ctv : Value), bindArgs (PySem.W.kdv_fn "<lambda>" (lamN X) params (.expr body) scope cl .none doc pm cv ctv) ⟨[], []⟩ = pure [] := by intros; rfl)
    (hdb : (x == ("__debug__" : Str)) = false := by decide) (hd : (a == ("__debug__" : Str)) = false := by decide) (hcd : (a == ("__classdict__" : Str)) = false := by decide) :
    PE X (.Call (.Name x p) [.Lambda params body scope lpos] [] pos) (tLamH TT t) := by
  constructor
  intro pins s σ H Q I h
  obtain ⟨g, fdg, F, hm, bi⟩ := G.at_.ex
  apply wpAny_Call_Name_kw (ld_glob I hg hm ?_ hdb)
  apply PySem.W.callWith_K (h₀ := X.base) I.ok.mod.kin F.kp ?_ (by rfl) (by rfl)
  show wpAny _ _ (spliced ((false, eval (.Lambda params body scope lpos) X.env) :: backTo pos (starEach [] X.env))) _ _ s
  apply Calls.spliced_cons
  apply PySem.W.kla_eval hdef
  rw [makeFunction_eq]
  simp only [List.zip_nil_right, List.filterMap_nil, List.isEmpty_nil, if_true, pure_bind]
  apply wpAny_mono (lam_from (ps := []) (bs := []) (ts := []) G F bi LA hr hG L hd hcd (fun y hy => nomatch hy) (fun b hb => nomatch hb) (fun s2 cl doc pm cv ctv _ => BindsTo.of_eq (hbind cl doc pm cv ctv)) (fun A outer s H E f c' h1 h2 => hbody A outer s H E f c' h1 h2 (passL (X := X) (A := A) (outer := outer) (s := s) (H := H) (E := E) (scope := scope) (f := f) (c' := c'))) I h)
  · intro v s' q
    exact Calls.spliced_nil q
  · exact fun _ _ z => z
/-- x(lambda a1=..: body) -/
theorem pe_lamH1 {de : Expr} {td : TE} {b : Str} (hb0 : params.defaults = [de]) (hk0 : params.kw_defaults = []) (G : Taker X x st N a TT) (LA : LamAt X) (hr : Room (k + 2) X.A) (hG : X.A.guards = some []) (L : LamP X.env.scope scope X.N [b]) (hde : PE X de td)
    (hbody : ∀ (A : Around) (outer : List Env) (s : Shared) (H : Hp) (E : XK) (f c' : Addr), Room k (A.deeper (lamEnv X scope s.heap.objs.size f c')) → A.guards = some [] → Passes (L2.CX (lamCx X A outer s H E scope f c').prog (lamCx X A outer s H E scope f c').w) (lamCx X A outer s H E scope f c') E → PE (lamCx X A outer s H E scope f c') body (t E))
    (hbind : ∀ (cl : List (Str × Addr)) (T : Addr) (doc pm cv ctv u : Value), ∃ k, bindArgs (PySem.W.kdv_fn "<lambda>" (lamN X) params (.expr body) scope cl (.ref T) doc pm cv ctv) ⟨[], []⟩ = seqItems? (.ref T) >>= k ∧ k (some #[u]) = pure [(b, u)] := by intros; exact ⟨_, rfl, rfl⟩) (hg : Gl X x := by rfl)
    (hdb : (x == ("__debug__" : Str)) = false := by decide) (hd : (a == ("__debug__" : Str)) = false := by decide) (hcd : (a == ("__classdict__" : Str)) = false := by decide) :
    PE X (.Call (.Name x p) [.Lambda params body scope lpos] [] pos) (fun σ H Q => td σ H fun _ H1 => tLamH TT t σ H1 Q) := by
  constructor
  intro pins s σ H Q I h
  obtain ⟨g, fdg, F, hm, bi⟩ := G.at_.ex
  apply wpAny_Call_Name_kw (ld_glob I hg hm ?_ hdb)
  apply PySem.W.callWith_K (h₀ := X.base) I.ok.mod.kin F.kp ?_ (by rfl) (by rfl)
  show wpAny _ _ (spliced ((false, eval (.Lambda params body scope lpos) X.env) :: backTo pos (starEach [] X.env))) _ _ s
  apply Calls.spliced_cons
  apply PySem.W.kdv_lam (by rw [hb0]; rfl) hk0
  rw [hb0]
  apply PySem.W.kdv_all1
  apply thn (hde.run pins s σ H _ I h)
  rintro u s1 ⟨v, H1, I1, rv, q⟩
  apply PySem.W.kdv_all0
  rw [makeFunction_eq]
  simp only [List.zip_nil_right, List.filterMap_nil, List.isEmpty_nil, List.isEmpty_cons, Bool.false_eq_true, if_true, if_false, pure_bind]
  refine wpAny_bind (wpAny_newTextTuple ?_)
  have at_ := Heap.get?_push_size s1.heap (o := ({ cls := .type "tuple", data := .seq [u].toArray } : Obj)) rfl
  have I2 : Inv X pins σ H1 { s1 with heap := s1.heap.push ({ cls := .type "tuple", data := .seq [u].toArray } : Obj) } := I1.kept (t' := s1.toks) fun c w z => Heap.get?_push_of_some _ z
  have nf : s1.heap.objs.size ∉ frs X.stack := fun z => by
    rcases List.mem_cons.mp (I1.stkSub _ z) with e | e
    · have lt := I1.lt
      rw [← e] at lt
      exact Nat.lt_irrefl _ lt
    · exact I1.nofs (Nat.le_refl _) e
  apply wpAny_mono (lam_from (ps := [b]) (bs := [(b, u)]) (ts := [s1.heap.objs.size]) G F bi LA hr hG L hd hcd (fun y hy => by rw [List.mem_singleton] at hy; subst hy; simp)
    (fun c hc => by rw [List.mem_singleton] at hc; subst hc; exact ⟨I1.hok.fresh (Nat.le_refl _), nf, _, at_⟩) (fun s2 cl doc pm cv ctv st => by
      obtain ⟨k, e1, e2⟩ := hbind cl s1.heap.objs.size doc pm cv ctv u
      exact BindsTo.of_defaults rfl (st _ (by simp) _ at_) rfl e1 e2) (fun A outer s H E f c' h1 h2 => hbody A outer s H E f c' h1 h2 (passL (X := X) (A := A) (outer := outer) (s := s) (H := H) (E := E) (scope := scope) (f := f) (c' := c'))) I2 q)
  · intro v s' q
    exact Calls.spliced_nil q
  · exact fun _ _ z => z
end
end DL
namespace DL
open PySem PySem.Spec PyProof.Rows L2 LamX
variable [Tn]
/-! heard(lambda: ..): what it says of how the lambda ends -/
def noOwn : SA → SA
  | .own _ => .no
  | t => t
def tTryC (K : Fg) (c : Value) (i j : Nat) (f c' : Addr) (q : Str) (tl : XK → Hp → VK → Prop) : TS := fun D σ H => σ[0]? = some (some (.ref f)) ∧ H c' = some (CodeO c' q) ∧ tl (fun cls d H' => wCat K c i j D cls d σ H') H (fun _ H1 => D.nx σ H1)
/-- caught = None; try: ask() / except C as error: caught = error; then what is said of it -/
def tHeard (K : Fg) (c : Value) (f c' : Addr) (q : Str) (rest : TS) (tl : XK → Hp → VK → Prop) : TS := tSeq (tAsg (tC .non) (gName 1)) (tSeq (tTryC K c 2 1 f c' q tl) rest)
def TTh (K : Fg) (c : Value) (q : Str) (N : List Str) (rest : TS) : (XK → Hp → VK → Prop) → Hp → VK → Prop := fun tl H Q => ∀ f c', H c' = some (CodeO c' q) → tHeard K c f c' q rest tl { nx := fun _ H' => Q .non H', rt := Q } (L2.start N [.ref f]) H
section
variable {X : Cx} {Ng : List Str} {x a m n e q : Str} {sg : Scope} {g CS : Addr} {cdg : Value} {rest : List Stmt} {trest : TS} {jj : Nat} {p1 p2 p3 p4 p5 p6 p7 p8 p9 p10 p11 p12 : Pos}
theorem gives_heard (nd : Ng.Nodup) (h1 : Ng[1]? = some m) (h2 : Ng[2]? = some n) (k1 : sg.names.lookup m = some .local) (k2 : sg.names.lookup n = some .local) (hge : sg.names.lookup e = some .globalImplicit) (hme : X.mg e = some (.ref CS)) (hde : (e == ("__debug__" : Str)) = false)
    (d1 : (n == ("__debug__" : Str)) = false) (d2 : (n == ("__classdict__" : Str)) = false)
    (hrest : ∀ (s : Shared) (H : Hp), Room 0 (X.A.deeper (envOfC x sg s.heap.objs.size g cdg)) → PSs (cxOf C8.CX0 X.prog X.w X.K X.mg X.base Ng x sg g cdg X.A X.stack s H C8.E0).nox rest trest) :
    GivesH X Ng x sg g cdg (.Assign [.Name m p1] (.Constant .none jj p2) p3 :: .Try [.Expr (.Call (.Name a p4) [] [] p5) p6] [.ExceptHandler (some (.Name e p7)) (some n) [.Assign [.Name m p8] (.Name n p9) p10] p11] [] [] p12 :: rest) a q (TTh X.K (.ref CS) q Ng trest) := by
  intro f c' s H Q tl hr act hc h
  have hgl : Gl (cxOf C8.CX0 X.prog X.w X.K X.mg X.base Ng x sg g cdg X.A X.stack s H C8.E0).nox e := hge
  refine ⟨tHeard X.K (.ref CS) f c' q trest tl, ?_, h f c' hc⟩
  refine pss_cons (ps_set (X := (cxOf C8.CX0 X.prog X.w X.K X.mg X.base Ng x sg g cdg X.A X.stack s H C8.E0).nox) (i := 1) nd h1 (Or.inl k1) pe_non) (pss_cons ?_ (hrest s H hr))
  refine ps_try_cat (X := (cxOf C8.CX0 X.prog X.w X.K X.mg X.base Ng x sg g cdg X.A X.stack s H C8.E0).nox) (c := .ref CS) (i := 2) (j := 1)
    (tb := fun W D σ H => σ[0]? = some (some (.ref f)) ∧ H c' = some (CodeO c' q) ∧ tl (fun cls d H' => W cls d σ H') H (fun _ H1 => D.nx σ H1)) rfl rfl rfl nd h2 k2 h1 k1 ⟨hgl, hde, .inl hme⟩ d1 d2 ?_
  intro W pn xe tk _
  exact pss_one (ps_expr (act W pn xe p4 p5 tk))
end
section
variable {K : Fg} {Z : Xt} {pn : Option Addr} {As : List Addr} {H0 : Ent} {M M' H H' H1 : Hp} {σ : L2.St} {Γ : List SA} {O : Own} {n m : Nat}
abbrev Z0 : Xt := ⟨C8.E0, fun _ _ _ _ => False⟩
theorem Sta.lam {Z1 : Xt} (S : Sta K Z pn As H0 M H σ Γ O n) (e : ∀ b o, (∀ p ∈ Tn.T, p.1 ≠ b) → H b = some o → H1 b = some o) (lv : ∀ b, H b ≠ none → H1 b ≠ none) (T1 : Tabs Tn.T H1) (xo : XOk K Z1 pn ⟨H1, fun a => H1 a ≠ none ∧ M a = none ∧ some a ≠ pn, M⟩) :
    Sta K Z1 pn [] ⟨H1, fun a => H1 a ≠ none ∧ M a = none ∧ some a ≠ pn, M⟩ M H1 σ (Γ.map noOwn) [] n := by
  refine ⟨⟨fun b o h => e b o (fun p hp z => ?_) (S.ex b o h), Gr.refl, ⟨T1, S.tb.2⟩, fun p hp => ?_⟩, fun j a o h => by simp at h, fun a h => by simp at h, fun a h => ⟨h.2.1, h.1, h.1⟩, List.nodup_nil, rfl, by rw [List.length_map]; exact S.sl, fun i t h => ?_, Evl.Ex.refl M, xo⟩
  · have q := S.tb.2 p hp
    rw [z, h] at q; cases q
  · obtain ⟨g1, g2⟩ := S.pen p hp
    refine ⟨g1, g2.mono (Evl.Ex.refl M) ?_ (Nat.le_refl _)⟩
    obtain ⟨_, _, _, _, g3, _⟩ := id g2
    rw [g3]
    refine e p _ (fun r hr z => ?_) g3
    obtain ⟨tb, g4⟩ := S.tb.tbl hr
    rw [z, g3] at g4; cases g4
  · rw [List.getElem?_map] at h
    cases hi : Γ[i]? with
    | none => rw [hi] at h; cases h
    | some t0 =>
      rw [hi] at h
      have h' : noOwn t0 = t := Option.some.inj h
      subst h'
      have q := S.ok i t0 hi
      cases t0 with
      | no => exact True.intro
      | is d => exact q
      | own j => exact True.intro
      | pen => exact q
/-- the maker goes on behind the lambda's call -/
theorem Sta.lamBack {H2 M2 : Hp} (S : Sta K Z pn As H0 M H σ Γ O n) (e : ∀ b o, (∀ p ∈ Tn.T, p.1 ≠ b) → H b = some o → H1 b = some o) (lv : ∀ b, H b ≠ none → H1 b ≠ none)
    (e2 : Ex M M2) (gr : Gr pn H1 H2) (ex : Ex M2 H2) (tb : Tb M2 H2) (th : ∀ b, H1 b ≠ none → M b = none → some b ≠ pn → M2 b = none) (pen : ∀ p, pn = some p → M2 p = none ∧ PenAt K M2 H2 p m) : Sta K Z pn As H0 M2 H2 σ Γ O m := by
  have g1 : Gr none H H1 := ⟨fun b o _ hb nt => e b o (fun r hr z => by
    obtain ⟨t, g4⟩ := S.tb.tbl hr
    rw [z, hb] at g4
    exact nt t (Option.some.inj g4)) hb, lv⟩
  refine ⟨⟨ex, S.gr.trans (g1.weak.trans gr), tb, pen⟩, fun j b o f1 f2 => ?_, fun b hb => gr.live b (lv b (S.live b hb)), fun b hb => ?_, S.nd, S.len, S.sl, fun i s g => (S.ok i s g).mono e2, Evl.Ex.trans S.em e2, S.xo⟩
  · obtain ⟨f3, f4, f5, f6⟩ := S.own j b o f1 f2
    obtain ⟨u, f7, f8⟩ := f6.obj
    have h1 := g1.ext b u (fun z => nomatch z) f7 f8
    exact ⟨th b (by rw [h1]; exact fun z => nomatch z) f3 f5, f4, f5, f6.mono e2 (by rw [f7]; exact gr.ext b u f5 h1 f8)⟩
  · obtain ⟨f1, f2, f3⟩ := S.pr b hb
    by_cases hp : some b = pn
    · exact ⟨(pen b hp.symm).1, gr.live b (lv b f2), f3⟩
    · exact ⟨th b (lv b f2) f1 hp, gr.live b (lv b f2), f3⟩
/-- the state of the def that hears -/
theorem heard_in (ex : Ex M H) (tb : Tb M H) {τ : L2.St} {Δ : List SA} (sl : τ.length = Δ.length) (ok : ∀ (i : Nat) (t : SA), Δ[i]? = some t → SlotOk K none [] M t (τ[i]?.join)) :
    Sta K Z0 none [] ⟨H, fun a => H a ≠ none ∧ M a = none, M⟩ M H τ Δ [] 0 :=
  ⟨⟨ex, Gr.refl, tb, fun p hp => nomatch hp⟩, fun j a o h => by simp at h, fun a h => by simp at h, fun a h => ⟨h.2, h.1, h.1⟩, List.nodup_nil, rfl, sl, ok, Evl.Ex.refl M, xok_no⟩
theorem w_heard {t : XK → TE} {c : Value} {q : Str} {N : List Str} {rest : TS} {mm : Nat} (hN : N.length = mm + 3) (ker : Addr → List Str → List DV → Nat → Prop) {k : DV → Nat → Prop}
    (hok : ∀ E : XK, W K ⟨E, ker⟩ (t E) (Γ.map noOwn) [] n fun _ n1 => WS K Z0 rest (.no :: .is .non :: .no :: List.replicate mm .no) [] 0 { nx := fun _ _ _ => k .non n1, rt := fun d _ _ => k d n1 })
    (herr : ∀ C ns ds n1, ker C ns ds n1 → PySem.W.exmOne K (.ref C) c = some true ∧ WS K Z0 rest (.no :: .is (.exc C ns ds) :: .no :: List.replicate mm .no) [] 0 { nx := fun _ _ _ => k .non n1, rt := fun d _ _ => k d n1 }) :
    W K Z (tLamH (TTh K c q N rest) t) Γ O n k := by
  intro pn As H0 M H σ S Q cc
  refine ⟨S.tb.1, ?_⟩
  intro H1 e lv T1 f c' hc
  -- what is said, and back
  have fin : ∀ (M2 H2 : Hp) (τ : L2.St) (Δ : List SA) (n1 : Nat), Ex M M2 → Gr pn H1 H2 → Ex M2 H2 → Tb M2 H2 → (∀ b, H1 b ≠ none → M b = none → some b ≠ pn → M2 b = none) → (∀ p, pn = some p → M2 p = none ∧ PenAt K M2 H2 p n1) → τ.length = Δ.length →
      (∀ (i : Nat) (t : SA), Δ[i]? = some t → SlotOk K none [] M2 t (τ[i]?.join)) → WS K Z0 rest Δ [] 0 { nx := fun _ _ _ => k .non n1, rt := fun d _ _ => k d n1 } → rest { nx := fun _ H' => Q .non H', rt := Q } τ H2 := by
    intro M2 H2 τ Δ n1 e2 gr ex tb th pen sl ok ws
    have go : ∀ As' v M3 H3 τ' Δ' O' d m', Ex M2 M3 → Sta K Z0 none As' ⟨H2, fun a => H2 a ≠ none ∧ M2 a = none, M2⟩ M3 H3 τ' Δ' O' m' → Rp K M3 v d → k d n1 → Q v H3 := by
      intro As' v M3 H3 τ' Δ' O' d m' e3 S3 r3 q3
      have g3 : Gr none H2 H3 := S3.gr
      have t3 : ∀ b, H2 b ≠ none → M2 b = none → M3 b = none := fun b h1 h2 => (S3.pr b ⟨h1, h2⟩).1
      refine cc v M3 H3 d n1 (Evl.Ex.trans e2 e3) (S.lamBack e lv (Evl.Ex.trans e2 e3) (gr.trans g3.weak) S3.ex S3.tb (fun b h1 h2 h3 => t3 b (gr.live b h1) (th b h1 h2 h3)) fun p hp => ?_) r3 q3
      obtain ⟨p1, p2⟩ := pen p hp
      obtain ⟨vs, cells, a, l, p3, p4⟩ := id p2
      have hlive : H2 p ≠ none := by rw [p3]; exact fun z => nomatch z
      exact ⟨t3 p hlive p1, p2.mono e3 (by rw [p3]; exact g3.ext p _ (fun z => nomatch z) p3 nt_lst) (Nat.le_refl _)⟩
    refine ws none [] _ M2 H2 τ _ (heard_in ex tb sl ok) ⟨?_, ?_, fun _ _ _ _ _ _ _ _ _ _ z => z, fun _ _ _ _ _ _ _ _ _ _ z => z⟩
    · intro As' M3 H3 τ' Δ' O' m' _ e3 S3 q3
      exact go As' .non M3 H3 τ' Δ' O' .non m' e3 S3 .non q3
    · intro As' v M3 H3 τ' Δ' O' d m' _ e3 S3 r3 q3
      exact go As' v M3 H3 τ' Δ' O' d m' e3 S3 r3 q3
  have st : L2.start N [V.ref f] = some (.ref f) :: none :: none :: List.replicate mm none := by
    unfold L2.start
    rw [hN]; rfl
  unfold tHeard
  rw [st]
  unfold tSeq tAsg tC gName
  dsimp only [List.set]
  refine ⟨rfl, hc, ?_⟩
  let E1 : XK := fun cls d H' => wCat K c 2 1 { nx := rest { nx := fun _ H' => Q .non H', rt := Q }, rt := Q } cls d (some (.ref f) :: some .non :: none :: List.replicate mm none) H'
  have xo : XOk K ⟨E1, ker⟩ pn ⟨H1, fun a => H1 a ≠ none ∧ M a = none ∧ some a ≠ pn, M⟩ := by
    intro M2 H2 n1 C ns ds dd fs em fi ht h0 h1 h2 h3 h4
    obtain ⟨x1, x2⟩ := herr C ns ds n1 h4
    refine ⟨C, dd, rfl, rfl, x1, ?_⟩
    intro a ha
    have had : a ≠ dd := fun z => by rw [z, h1] at ha; cases ha
    have ma : M2 a = none := Evl.fresh_back fi.ex ha
    -- the dict is frozen, too
    let M3 : Hp := upd (upd M2 dd (.xd fs)) a (xob a C dd)
    have md : ∀ o, M2 dd = some o → o = .xd fs := fun o h => by
      have q := fi.ex dd o h
      rw [h1] at q
      exact (Option.some.inj q).symm
    have e3 : Ex M2 M3 := fun b o h => by
      have hb : b ≠ a := ne_of_none h ma
      show upd (upd M2 dd (.xd fs)) a (xob a C dd) b = some o
      rw [upd_ne hb]
      by_cases hd : b = dd
      · subst hd; rw [upd_same, md o h]
      · rw [upd_ne hd]; exact h
    have ex3 : Ex M3 (upd H2 a (xob a C dd)) := fun b o h => by
      have h : upd (upd M2 dd (.xd fs)) a (xob a C dd) b = some o := h
      by_cases hb : b = a
      · subst hb; rw [upd_same] at h ⊢; exact h
      · rw [upd_ne hb] at h ⊢
        by_cases hd : b = dd
        · subst hd; rw [upd_same] at h; rw [← h]; exact h1
        · rw [upd_ne hd] at h; exact fi.ex b o h
    have tb3 : Tb M3 (upd H2 a (xob a C dd)) := (fi.tb.frz h1 (fun _ z => nomatch z)).both ha
    have old : ∀ b, H1 b ≠ none → b ≠ a ∧ b ≠ dd := fun b hb => ⟨fun z => fi.gr.live b hb (by rw [z]; exact ha), fun z => hb (by rw [z]; exact h0)⟩
    have th3 : ∀ b, H1 b ≠ none → M b = none → some b ≠ pn → M3 b = none := fun b hb hm hp => by
      obtain ⟨o1, o2⟩ := old b hb
      show upd (upd M2 dd (.xd fs)) a (xob a C dd) b = none
      rw [upd_ne o1, upd_ne o2]
      exact ht b ⟨hb, hm, hp⟩
    have gr3 : Gr pn H1 (upd H2 a (xob a C dd)) := fi.gr.new ha
    have pen3 : ∀ p, pn = some p → M3 p = none ∧ PenAt K M3 (upd H2 a (xob a C dd)) p n1 := fun p hp => by
      obtain ⟨p1, p2⟩ := fi.pen p hp
      obtain ⟨vs, cells, a1, l, p3, p4⟩ := id p2
      have n1 : p ≠ a := ne_of_none p3 ha
      have n2 : p ≠ dd := fun z => by rw [z, h1] at p3; cases p3
      refine ⟨?_, p2.mono e3 (by rw [upd_ne n1]) (Nat.le_refl _)⟩
      show upd (upd M2 dd (.xd fs)) a (xob a C dd) p = none
      rw [upd_ne n1, upd_ne n2]
      exact p1
    refine fin M3 _ _ (.no :: .is (.exc C ns ds) :: .no :: List.replicate mm .no) n1 (Evl.Ex.trans em e3) gr3 ex3 tb3 th3 pen3 (by simp) (fun i t h => ?_) x2
    match i, h with
    | 0, h => simp at h; subst h; exact True.intro
    | 1, h =>
      simp at h
      subst h
      refine ⟨.ref a, rfl, .exc2 (fs := fs) upd_same ?_ h2 (h3.mono e3)⟩
      show upd (upd M2 dd (.xd fs)) a (xob a C dd) dd = _
      rw [upd_ne (Ne.symm had), upd_same]
    | 2, h => simp at h; subst h; exact True.intro
    | i + 3, h =>
      have ht : t = .no := by
        have h : (List.replicate mm SA.no)[i]? = some t := h
        rw [List.getElem?_replicate] at h
        split at h
        · exact (Option.some.inj h).symm
        · cases h
      subst ht; exact True.intro
  refine hok E1 pn [] _ M H1 σ (S.lam e lv T1 xo) _ fun v M2 H2 d n1 e2 S2 r2 q2 => ?_
  refine fin M2 H2 (some (.ref f) :: some .non :: none :: List.replicate mm none) _ n1 e2 S2.gr S2.ex S2.tb (fun b h1 h2 h3 => (S2.pr b ⟨h1, h2, h3⟩).1) S2.pen (by simp) (fun i t h => ?_) q2
  match i, h with
  | 0, h => simp at h; subst h; exact True.intro
  | 1, h => simp at h; subst h; exact ⟨.non, rfl, .non⟩
  | 2, h => simp at h; subst h; exact True.intro
  | i + 3, h =>
    have ht : t = .no := by
      have h : (List.replicate mm SA.no)[i]? = some t := h
      rw [List.getElem?_replicate] at h
      split at h
      · exact (Option.some.inj h).symm
      · cases h
    subst ht; exact True.intro
end
end DL
namespace DL
open PySem PySem.Spec PyProof.Rows L2 NdefX PySem.HandSPX PySem.DLx LamX
variable [Tn]
/-! defs that may raise, raise itself, instances made by an __init__ that may raise -/
structure HasX (P : Program) (w : World) (K : Fg) (mg : Str → Option Value) (base : Heap) (k : Nat) (x : Str) (st : Stmt) (ps : List Str) (sp : Sp) : Prop where
  ex : ∃ f fd, Fun K x x st f fd ∧ mg x = some (.ref f) ∧ Binds K fd ps [] ∧ FnG P w K mg base (L2.CX P w) k f fd ps sp
section
variable {P : Program} {w : World} {K : Fg} {mg : Str → Option Value} {base : Heap} {x : Str} {st : Stmt} {ps N : List Str} {sp : Sp} {k : Nat}
theorem At.hasX (A : At K mg x st ps) (S : FnScope N ps (defScope st)) (len : ∀ vs H Q E, sp vs H Q E → vs.length = ps.length)
    (hb : ∀ (f : Addr) (cdv : Value) (A : Around) (outer : List Env) (s : Shared) (H : Hp) (vs : List V) (Q : VK) (E : XK), Room k (A.deeper (envOfC x (defScope st) s.heap.objs.size f cdv)) → A.guards = some [] → sp vs H Q E →
      ∃ t, PSs (cxOf (L2.CX P w) P w K mg base N x (defScope st) f cdv A outer s H E) (defBody st) t ∧ t { nx := fun _ H' => Q .non H', rt := Q } (L2.start N vs) H) : HasX P w K mg base (k + 1) x st ps sp := by
  obtain ⟨f, fd, F, hm, bi⟩ := A.ex
  exact ⟨f, fd, F, hm, bi, fnG_fun F S len fun cdv A outer s H vs Q E hr hG h => hb f cdv A outer s H vs Q E hr hG h⟩
theorem passX {sc : Scope} {f : Addr} {cdv : Value} {A : Around} {outer : List Env} {s : Shared} {H : Hp} {E : XK} : Passes (L2.CX P w) (cxOf (L2.CX P w) P w K mg base N x sc f cdv A outer s H E) E :=
  passes_call (takes_of rfl rfl rfl rfl) fun _ _ _ _ h => h
theorem takesX {sc : Scope} {f : Addr} {cdv : Value} {A : Around} {outer : List Env} {s : Shared} {H : Hp} {E : XK} : Takes (cxOf (L2.CX P w) P w K mg base N x sc f cdv A outer s H E) (fun cls d _ H => E cls d H) := takes_of rfl rfl rfl rfl
end
theorem passX0 {X : Cx} {P : Program} {w : World} : Passes (L2.CX P w) X E0 := by
  rintro pins σ H s e s' I ⟨_, _, _, _, _, _, _, _, _, _, _, _, z⟩
  exact z.elim
section
variable {X : Cx} {x : Str} {st : Stmt} {ps ks : List Str} {sp : Sp} {j k : Nat} {p pos pos' : Pos} {e : Expr} {es : List Expr} {t tk : TA} {kws : List Keyword} {E : XK} {C : Addr} {ns : List Str}
theorem pe_callX (h : HasX X.prog X.w X.K X.mg X.base j x st ps sp) (hx : Passes (L2.CX X.prog X.w) X E) (hr : Room k X.A) (hj : j ≤ k) (hG : X.A.guards = some []) (ha : PA X (e :: es) t) (hg : Gl X x := by rfl)
    (hdb : (x == ("__debug__" : Str)) = false := by decide) (he : starEach (e :: es) X.env = (false, eval e X.env) :: starEach es X.env := by rfl) (hpl : (backTo pos (starEach es X.env)).any (·.1) = false := by rfl) :
    PE X (.Call (.Name x p) (e :: es) [] pos) (tCall sp [] E t) := by
  obtain ⟨f, fd, F, hm, bi, G⟩ := h.ex
  exact pe_callG G (hr.mono hj) hG hg hm F.kp bi .nil hx ha hdb he hpl
theorem pe_callXK {nn : Nat} {g : List Value → List Value → List Value} {gV : List V → List V → List V} (h : HasX X.prog X.w X.K X.mg X.base j x st ps sp) (hx : Passes (L2.CX X.prog X.w) X E) (kw : KwOk x st ps nn ks g)
    (rel : ∀ {vs : List V} {us : List Value} {zs : List V} {ws : List Value}, Vals vs us → Vals zs ws → Vals (gV vs zs) (g us ws)) (hr : Room k X.A) (hj : j ≤ k) (hG : X.A.guards = some []) (ha : PA X (e :: es) t) (hkw : PK X kws tk)
    (hg : Gl X x := by rfl) (hall : (backToKw pos (keywordEach kws X.env)).all (·.1.isSome) = true := by rfl) (hks : (backToKw pos (keywordEach kws X.env)).filterMap (·.1) = ks := by rfl)
    (hdb : (x == ("__debug__" : Str)) = false := by decide) (he : starEach (e :: es) X.env = (false, eval e X.env) :: starEach es X.env := by rfl)
    (hpl : ((backTo pos (starEach (e :: es) X.env)).any (·.1) || (backToKw pos (keywordEach kws X.env)).any (·.1.isNone)) = false := by rfl) :
    PE X (.Call (.Name x p) (e :: es) kws pos) (tCallM nn ks.length sp gV E t tk) := by
  obtain ⟨f, fd, F, hm, bi, G⟩ := h.ex
  exact pe_callGK G (hr.mono hj) hG hg hm F.kp (kw.kbn F rel) hx ha hkw hall hks hdb he hpl
theorem pe_callXK0 {g : List Value → List Value → List Value} {gV : List V → List V → List V} (h : HasX X.prog X.w X.K X.mg X.base j x st ps sp) (hx : Passes (L2.CX X.prog X.w) X E) (kw : KwOk x st ps 0 ks g)
    (rel : ∀ {vs : List V} {us : List Value} {zs : List V} {ws : List Value}, Vals vs us → Vals zs ws → Vals (gV vs zs) (g us ws)) (hr : Room k X.A) (hj : j ≤ k) (hG : X.A.guards = some []) (hkw : PK X kws tk)
    (hg : Gl X x := by rfl) (hall : (backToKw pos (keywordEach kws X.env)).all (·.1.isSome) = true := by rfl) (hks : (backToKw pos (keywordEach kws X.env)).filterMap (·.1) = ks := by rfl)
    (hdb : (x == ("__debug__" : Str)) = false := by decide)
    (hpl : ((backTo pos (starEach [] X.env)).any (·.1) || (backToKw pos (keywordEach kws X.env)).any (·.1.isNone)) = false := by rfl) :
    PE X (.Call (.Name x p) [] kws pos) (tCallM 0 ks.length sp gV E tNil tk) := by
  obtain ⟨f, fd, F, hm, bi, G⟩ := h.ex
  exact pe_callGK0 G (hr.mono hj) hG hg hm F.kp (kw.kbn F rel) hx hkw hall hks hdb hpl
/-- raise C(e, ..) -/
def tRaise (C : Addr) (ns : List Str) (ta : TA) (E : XK) : TS := fun _ σ H => tMkO C (spErr C ns) [] ta σ H fun cls d H' => E cls d H'
/-- every parameter is given by place -/
def BnOk (st : Stmt) (ps : List Str) : Prop := ∀ (F : NF) (doc pm ctv : Value) (us : List Value), F.params = defArgs st → us.length = ps.length → bindArgs (F.fd doc pm ctv) ⟨us, []⟩ = pure (ps.zip us)
theorem ps_raiseX (h : HasE X.prog X.w X.K X.mg X.base j st C ns) (tk : Takes X (fun cls d _ H => E cls d H)) (bn : BnOk st ("self" :: ns)) (hr : Room k X.A) (hj : j + 1 ≤ k) (hm : X.mg x = some (.ref C)) (ha : PA X (e :: es) t) (hc : X.calm = true := by rfl) (hg : Gl X x := by rfl)
    (hdb : (x == ("__debug__" : Str)) = false := by decide) (he : starEach (e :: es) X.env = (false, eval e X.env) :: starEach es X.env := by rfl) (hpl : (backTo pos (starEach es X.env)).any (·.1) = false := by rfl) :
    PS X (.Raise (some (.Call (.Name x p) (e :: es) [] pos)) none pos') (tRaise C ns t E) := by
  obtain ⟨oex, f, F, doc, pm, ctv, i, tI, eF, Fn⟩ := h
  exact ps_raise hc tk (pmk_oex oex i tI Fn (hr.mono hj) (Binds.all fun us hl => bn F doc pm ctv us eF hl) .nil pass0 hg hm ha hdb he hpl)
end
section
variable {K : Fg} {Z : Xt} {Γ : List SA} {O : Own} {n : Nat} {ta : TA} {C : Addr} {ns : List Str} {E : KE}
theorem ws_raise (hz : ns.length ≤ 1000) (h : WA K Z ta Γ O n fun ds n1 => ds.length = ns.length ∧ Z.k C ns.reverse ds.reverse n1) : WS K Z (tRaise C ns ta Z.E) Γ O n E := by
  intro pn As H0 M H σ D S s
  refine h pn As H0 M H σ S _ fun vs M1 H1 ds n1 e1 S1 r1 ⟨hl, q⟩ => ⟨by rw [r1.length, hl]; exact hz, fun a ha => ?_⟩
  rw [List.append_nil]
  have lv : vs.length = ns.length := by rw [r1.length, hl]
  refine ⟨a, vs, rfl, lv, upd_same, fun dx hd hne => ⟨rfl, dx, (ns.zip vs).reverse, upd_same, by rw [upd_ne hne, upd_same], by rw [upd_ne hne] at hd; exact hd, ?_⟩⟩
  rw [upd_ne hne] at hd
  have eH : upd (del (upd (upd (upd H1 a (exo a C none)) dx (exd dx (ns.zip vs).reverse)) a (exo a C (some dx))) a) dx (.xd (ns.zip vs).reverse) = upd H1 dx (.xd (ns.zip vs).reverse) := by
    funext b
    by_cases hb : b = dx
    · subst hb; rw [upd_same, upd_same]
    · rw [upd_ne hb, upd_ne hb]
      by_cases h2 : b = a
      · subst h2; rw [del_same, ha]
      · rw [del_ne h2, upd_ne h2, upd_ne hb, upd_ne h2]
  rw [eH]
  obtain ⟨x1, S2⟩ := S1.alloc (o := .xd (ns.zip vs).reverse) hd
  refine S2.err (S1.gr.back hd) ⟨_, upd_same, ?_, ?_⟩ q
  · rw [List.map_reverse, zip_fst lv]
  · rw [List.map_reverse, zip_snd lv]
    exact (r1.reverse).mono x1
end
end DL
namespace DL
open PySem PySem.Spec PyProof.Rows L2 NdefX PySem.HandSPX PySem.DLx LamX
variable [Tn]
/-! instances made by an own __init__ that may raise -/
structure HasI (P : Program) (w : World) (K : Fg) (mg : Str → Option Value) (base : Heap) (k : Nat) (C : Addr) (qual : Str) (st : Stmt) (ps : List Str) (sp : Sp) : Prop where
  ex : ∃ f fd, Mk K C f ∧ Fun K "__init__" qual st f fd ∧ Binds K fd ps [] ∧ FnG P w K mg base (L2.CX P w) k f fd ps sp
/-- how keywords bind, self ahead -/
def KwOkI (qual : Str) (st : Stmt) (ps : List Str) (nn : Nat) (ks : List Str) (g : List Value → List Value → List Value) : Prop :=
  ∀ (kV doc pm : Value) (an : Option Addr) (cdv ct : Value) (us ws : List Value), us.length = nn → ws.length = ks.length →
    bindArgs (PySem.W.fnOf "__init__" qual (defArgs st) (defBody st) (defScope st) .none kV doc pm an cdv ct) ⟨us, ks.zip ws⟩ = pure (ps.zip (g us ws))
section
variable {X : Cx} {C : Addr} {st : Stmt} {ps ks N : List Str} {sp : Sp} {j k nn : Nat} {x qual : Str} {p pos : Pos} {e : Expr} {es : List Expr} {t tk : TA} {kws : List Keyword} {E : XK} {f : Addr} {fd : FuncData} {g : List Value → List Value → List Value} {gV : List V → List V → List V}
theorem run_mkI {pins : List (Addr × Obj)} {σ : L2.St} {H : Hp} {s : Shared} {Q : VK} {us ws : List Value} {vs zs : List V} (M : Mk X.K C f) (F : FnG X.prog X.w X.K X.mg X.base (L2.CX X.prog X.w) k f fd ps sp) (hr : Room (k + 1) X.A) (hG : X.A.guards = some [])
    (hb : KBn X.K fd ps (nn + 1) ks g gV) (hx : Passes (L2.CX X.prog X.w) X E) (I : Inv X pins σ H s) (r : Vals vs us) (rz : Vals zs ws) (l1 : vs.length = nn) (l2 : zs.length = ks.length)
    (h : ∀ x dx, H x = Option.none → H dx = Option.none → dx ≠ x → sp (gV (V.ref x :: vs) zs) (upd (upd H dx (.own x)) x (.ins C dx [])) (fun v H2 => v = .non ∧ Q (.ref x) H2) E) :
    wpAny (model X.prog X.w) X.A (call (.ref C) us (ks.zip ws)) (L2.EP X pins σ Q) X.xe s := by
  have q0 := h (s.heap.objs.size + 1) s.heap.objs.size (I.hok.fresh (Nat.le_succ _)) (I.hok.fresh (Nat.le_refl _)) (Nat.ne_of_lt (Nat.lt_succ_self _))
  have I2 := Inv.made (C := C) I
  have ra : Vals (V.ref (s.heap.objs.size + 1) :: vs) (Value.ref (s.heap.objs.size + 1) :: us) := .cons rfl r
  have rb := hb.rel ra rz
  have e1 : (Value.ref (s.heap.objs.size + 1) :: us).length = nn + 1 := ra.length.symm.trans (congrArg Nat.succ l1)
  have e2 : ws.length = ks.length := rz.length.symm.trans l2
  refine wpAny_call (make_map (f := f) I.kIn M.makes M.init (beq_iff_eq.mp M.fn) (codeAny_mono (F.go _ X.stack _ _ ⟨Value.ref (s.heap.objs.size + 1) :: us, ks.zip ws⟩ (g (Value.ref (s.heap.objs.size + 1) :: us) ws) _ _ E (hr.make C us (ks.zip ws)) (guards_make.trans hG) (I2.env0.make C us (ks.zip ws)) (hb.to _ (Value.ref (s.heap.objs.size + 1) :: us) ws I2.kIn e1 e2) rb q0) fun r s' h' => ?_))
  cases r with
  | error e => exact hx pins σ _ _ e s' I2 h'
  | ok fl =>
    cases fl with
    | ret u =>
      obtain ⟨v, H', I3, rv, ev, q3⟩ := I2.after h'
      subst ev
      exact ⟨rv, ⟨V.ref (s.heap.objs.size + 1), H', I3, rfl, q3⟩⟩
    | next => exact h'.elim
    | brk => exact h'.elim
    | cont => exact h'.elim
theorem kbnI {K : Fg} (F : Fun K "__init__" qual st f fd) (h : KwOkI qual st ps nn ks g) (rel : ∀ {vs : List V} {us : List Value} {zs : List V} {ws : List Value}, Vals vs us → Vals zs ws → Vals (gV vs zs) (g us ws)) : KBn K fd ps nn ks g gV := by
  obtain ⟨oc, od, kV, doc, pm, an, cdv, ct, osl, rfl, lk, hcd⟩ := F.ex
  exact ⟨fun s us ws _ l1 l2 => .of_eq (h kV doc pm an cdv ct us ws l1 l2), rel⟩
/-- C(e, .., k = v, ..): nn by place, mm by keyword -/
def tMkI (C : Addr) (nn mm : Nat) (sp : Sp) (gV : List V → List V → List V) (E : XK) (t tk : TA) : TE := fun σ H Q => t σ H fun vs H1 => tk σ H1 fun zs H2 => vs.length = nn ∧ zs.length = mm ∧
  ∀ x dx, H2 x = Option.none → H2 dx = Option.none → dx ≠ x → sp (gV (V.ref x :: vs) zs) (upd (upd H2 dx (.own x)) x (.ins C dx [])) (fun v H3 => v = .non ∧ Q (.ref x) H3) E
theorem pe_mkI (h : HasI X.prog X.w X.K X.mg X.base j C qual st ps sp) (hx : Passes (L2.CX X.prog X.w) X E) (kw : KwOkI qual st ps (nn + 1) [] g) (rel : ∀ {vs : List V} {us : List Value} {zs : List V} {ws : List Value}, Vals vs us → Vals zs ws → Vals (gV vs zs) (g us ws))
    (hr : Room k X.A) (hj : j + 1 ≤ k) (hG : X.A.guards = some []) (hm : X.mg x = some (.ref C)) (ha : PA X (e :: es) t) (hg : Gl X x := by rfl)
    (hdb : (x == ("__debug__" : Str)) = false := by decide) (he : starEach (e :: es) X.env = (false, eval e X.env) :: starEach es X.env := by rfl) (hpl : (backTo pos (starEach es X.env)).any (·.1) = false := by rfl) :
    PE X (.Call (.Name x p) (e :: es) [] pos) (tMkI C nn 0 sp gV E t tNil) := by
  obtain ⟨f, fd, M, F, bi, G⟩ := h.ex
  constructor
  intro pins s σ H Q I q
  apply wpAny_Call_Name_kw (ld_glob I hg hm ?_ hdb)
  apply PySem.W.callWith_K (h₀ := X.base) I.ok.mod.kin M.kp ?_ he hpl
  apply thn (ha.run pos pins s σ H _ I q)
  rintro us s1 ⟨vs, H1, I1, r, q1⟩
  obtain ⟨l1, l2, q2⟩ := q1
  exact ⟨I1.kIn, run_mkI (ks := []) (ws := []) M G (hr.mono hj) hG (kbnI F kw rel) hx I1 r .nil l1 rfl q2⟩
theorem pe_mkIK0 (h : HasI X.prog X.w X.K X.mg X.base j C qual st ps sp) (hx : Passes (L2.CX X.prog X.w) X E) (kw : KwOkI qual st ps 1 ks g) (rel : ∀ {vs : List V} {us : List Value} {zs : List V} {ws : List Value}, Vals vs us → Vals zs ws → Vals (gV vs zs) (g us ws))
    (hr : Room k X.A) (hj : j + 1 ≤ k) (hG : X.A.guards = some []) (hm : X.mg x = some (.ref C)) (hkw : PK X kws tk) (hg : Gl X x := by rfl)
    (hall : (backToKw pos (keywordEach kws X.env)).all (·.1.isSome) = true := by rfl) (hks : (backToKw pos (keywordEach kws X.env)).filterMap (·.1) = ks := by rfl)
    (hdb : (x == ("__debug__" : Str)) = false := by decide)
    (hpl : ((backTo pos (starEach [] X.env)).any (·.1) || (backToKw pos (keywordEach kws X.env)).any (·.1.isNone)) = false := by rfl) :
    PE X (.Call (.Name x p) [] kws pos) (tMkI C 0 ks.length sp gV E tNil tk) := by
  obtain ⟨f, fd, M, F, bi, G⟩ := h.ex
  constructor
  intro pins s σ H Q I q
  apply wpAny_Call_Name_kw (ld_glob I hg hm ?_ hdb)
  apply PySem.W.callWith_KW0 (h₀ := X.base) I.ok.mod.kin M.kp hall ?_ hpl
  apply thn (hkw.run pos pins s σ H _ I q)
  rintro ws s2 ⟨zs, H2, I2, rz, l1, l2, q2⟩
  refine ⟨I2.kIn, ?_⟩
  rw [hks]
  exact run_mkI (us := []) M G (hr.mono hj) hG (kbnI F kw rel) hx I2 .nil rz rfl l2 q2
end
/-! promises of such an __init__ -/
/-- the heap without what is being made -/
def cut1 (H : Hp) (a : Addr) : Hp := fun b => if b = a then none else H b
theorem cut1_ne {H : Hp} {a b : Addr} (h : b ≠ a) : cut1 H a b = H b := if_neg h
theorem cut1_at {H : Hp} {a : Addr} : cut1 H a a = none := if_pos rfl
def spI (K : Fg) (C : Addr) {α : Type} (pre : α → Prop) (args : α → List DV) (res : α → List Str → List DV → Prop) (err : α → Addr → List Str → List DV → Prop) : Sp := fun vs H Q E => ∃ (M : Hp) (x : α) (a dx : Addr) (us : List V), pre x ∧ vs = .ref a :: us ∧ H a = some (.ins C dx []) ∧ H dx = some (.own a) ∧ M a = none ∧ Ex M H ∧ Tb M H ∧ RpL K M us (args x) ∧
  (∀ M' H' dx' fs ns ds, Ex M M' → Gr none (cut1 H a) H' → Ex M' H' → Tb M' H' → Thaw M (cut1 H a) M' → M' a = none → H' a = some (.ins C dx' fs) → fs.map (·.1) = ns → RpL K M' (fs.map (·.2)) ds → res x ns ds → Q .non H') ∧
  ∀ M' H' D ns ds d, Ex M M' → Gr none (cut1 H a) H' → Ex M' H' → Tb M' H' → Thaw M (cut1 H a) M' → cut1 H a d = none → Tld K M' H' d ns ds → err x D ns ds → E (.ref D) (some d) H'
section
variable {K : Fg} {Z : Xt} {α : Type} {pre : α → Prop} {args : α → List DV} {res : α → List Str → List DV → Prop} {err : α → Addr → List Str → List DV → Prop} {N : List Str} {vs : List V} {H M : Hp} {Q : VK} {E : XK} {t : TS} {C : Addr}
theorem body_I (hN : 0 < N.length) (h : spI K C pre args res err vs H Q E) (hw : ∀ x, pre x → WS K ⟨E, fun D ns ds _ => err x D ns ds⟩ t (.own 0 :: (args x).map .is ++ List.replicate (N.length - (args x).length - 1) .no) [some (.i C [] [])] 0
      { nx := fun _ O _ => ∃ ns ds, O[0]? = some (some (.i C ns ds)) ∧ res x ns ds, rt := fun d O _ => False }) :
    t { nx := fun _ H' => Q .non H', rt := Q } (L2.start N vs) H := by
  obtain ⟨M, x, a, dx, us, hp, rfl, ha, hdx, ma, e, tb, r, c, cx⟩ := h
  let H0 : Ent := ⟨cut1 H a, fun b => b ≠ a ∧ H b ≠ none ∧ M b = none, M⟩
  have at_e : Ex H0.h H := fun b o h => by
    have h : cut1 H a b = some o := h
    by_cases hb : b = a
    · subst hb; rw [cut1_at] at h; cases h
    · rw [cut1_ne hb] at h; exact h
  have th : ∀ {M' : Hp}, (∀ b, H0.P b → M' b = none) → Thaw M (cut1 H a) M' := fun {M'} h2 b h3 h4 => by
    by_cases hb : b = a
    · subst hb; exact absurd cut1_at h3
    · exact h2 b ⟨hb, by rw [cut1_ne hb] at h3; exact h3, h4⟩
  have xo : XOk K ⟨E, fun D ns ds _ => err x D ns ds⟩ none H0 := fun M' H' n' D ns ds d fs em f ht h0 h1 h2 h3 h4 =>
    cx M' H' D ns ds d em f.gr f.ex f.tb (th ht) h0 ⟨fs, h1, h2, h3⟩ h4
  have st : Sta K ⟨E, fun D ns ds _ => err x D ns ds⟩ none [a] H0 M H (L2.start N (.ref a :: us)) (.own 0 :: (args x).map .is ++ List.replicate (N.length - (args x).length - 1) .no) [some (.i C [] [])] 0 := by
    refine ⟨⟨e, Gr.of at_e, tb, fun q hq => nomatch hq⟩, fun j b o h1 h2 => ?_, fun b hb => ?_, fun b hb => ⟨hb.2.2, hb.2.1, by show cut1 H a b ≠ none; rw [cut1_ne hb.1]; exact hb.2.1⟩, by simp, rfl, ?_, fun i s h => ?_, Evl.Ex.refl M, xo⟩
    · cases j with
      | zero =>
        simp at h1 h2
        subst h1 h2
        exact ⟨ma, cut1_at, (fun z => nomatch z), dx, [], ha, rfl, .nil⟩
      | succ j => simp at h1
    · simp at hb; subst hb; rw [ha]; exact fun z => nomatch z
    · unfold L2.start
      simp [r.length]
      omega
    · unfold L2.start
      cases i with
      | zero =>
        simp at h
        subst h
        exact ⟨a, rfl, rfl⟩
      | succ i =>
        have h' : ((args x).map SA.is ++ List.replicate (N.length - (args x).length - 1) SA.no)[i]? = some s := h
        have q := slots_ok (pn := none) (As := [a]) r (N.length - (args x).length - 1) i s h'
        have e0 : N.length - (V.ref a :: us).length = N.length - (args x).length - 1 := by simp [r.length]; omega
        rw [e0]
        exact q
  refine hw x hp none [a] H0 M H _ _ st ⟨?_, fun _ _ _ _ _ _ _ _ _ _ _ _ _ q => q.elim, fun _ _ _ _ _ _ _ _ _ _ q => q, fun _ _ _ _ _ _ _ _ _ _ q => q⟩
  intro As M' H' σ Γ O n pA e1 S ⟨ns, ds, hO, hres⟩
  obtain ⟨Bs, rfl⟩ := pA
  obtain ⟨f1, f2, f3, dx', fs, f4, f5, f6⟩ := S.own 0 a _ rfl hO
  exact c M' H' dx' fs ns ds e1 S.gr S.ex S.tb (th fun b hb => (S.pr b hb).1) f1 f4 f5 f6 hres
end
section
variable {K : Fg} {Z : Xt} {α : Type} {pre : α → Prop} {args : α → List DV} {res : α → List Str → List DV → Prop} {err : α → Addr → List Str → List DV → Prop} {C : Addr} {Γ : List SA} {O : Own} {n nn mm : Nat} {ta tk : TA}
theorem w_mkI {ix : List Nat} {k : DV → Nat → Prop} (h : WA K Z ta Γ O n fun ds n1 => WA K Z tk Γ O n1 fun es n2 => ds.length = nn ∧ es.length = mm ∧ ∃ x, perm ix ds es = args x ∧ pre x ∧ (∀ D ns es, err x D ns es → Z.k D ns es n2) ∧ ∀ ns ds, res x ns ds → k (.ins C ns ds) n2) :
    W K Z (tMkI C nn mm (spI K C pre args res err) (perm (0 :: ix.map (· + 1))) Z.E ta tk) Γ O n k := by
  intro pn As H0 M H σ S Q c
  refine h pn As H0 M H σ S _ fun vs M1 H1 ds n1 e1 S1 r1 q1 => q1 pn As H0 M1 H1 σ S1 _ fun zs M2 H2 es n2 e2 S2 r2 ⟨l1, l2, x, ea, hpre, hx, q⟩ => ⟨by rw [r1.length]; exact l1, by rw [r2.length]; exact l2, fun a dx ha hdx hne => ?_⟩
  have r := perm_rp ix (r1.mono e2) r2
  rw [ea] at r
  rw [perm_self]
  have ma : M2 a = none := Evl.fresh_back S2.ex ha
  have md : M2 dx = none := Evl.fresh_back S2.ex hdx
  have hdx' : upd H2 dx (.own a) a = none := by rw [upd_ne (Ne.symm hne)]; exact ha
  have ec : ∀ b o, H2 b = some o → cut1 (upd (upd H2 dx (.own a)) a (.ins C dx [])) a b = some o := fun b o h => by
    rw [cut1_ne (ne_of_none h ha), upd_ne (ne_of_none h ha), upd_ne (ne_of_none h hdx)]; exact h
  have gc : Gr none H2 (cut1 (upd (upd H2 dx (.own a)) a (.ins C dx [])) a) := Gr.of ec
  have live : ∀ b, H2 b ≠ none → cut1 (upd (upd H2 dx (.own a)) a (.ins C dx [])) a b ≠ none := fun b hb => gc.live b hb
  refine ⟨M2, x, a, dx, _, hpre, rfl, upd_same, by rw [upd_ne hne, upd_same], ma, ?_, (S2.tb.new hdx).new hdx', r, ?_, ?_⟩
  · intro b o h
    have h2 := S2.ex _ _ h
    rw [upd_ne (ne_of_none h2 ha), upd_ne (ne_of_none h2 hdx)]; exact h2
  · intro M' H' dx' fs ns es' e3 gr ex tb th m1 h1 h2 h3 hr
    refine ⟨rfl, ?_⟩
    have e4 : Ex M' (upd M' a (.ins C dx' fs)) := Evl.Ex.new m1
    refine c (.ref a) (upd M' a (.ins C dx' fs)) H' _ n2 (Evl.Ex.trans (Evl.Ex.trans e1 e2) (Evl.Ex.trans e3 e4)) (S2.called (Evl.Ex.trans e3 e4) (gc.trans gr) (fun b o h => ?_) (tb.frz h1 (fun _ z => nomatch z)) (fun b g1 g2 => ?_)) (.ins upd_same h2 (h3.mono e4)) (q ns es' hr)
    · by_cases hb : b = a
      · subst hb; rw [upd_same] at h; rw [← h]; exact h1
      · rw [upd_ne hb] at h; exact ex b o h
    · rw [upd_ne (fun z => g1 (by rw [z]; exact ha))]
      exact th b (live b g1) g2
  · intro M' H' D ns es' d e3 gr ex tb th h1 t he
    exact (S2.called e3 (gc.trans gr) ex tb (fun b g1 g2 => th b (live b g1) g2)).err (S2.gr.back (by
      cases g : H2 d with
      | none => rfl
      | some o => rw [ec d o g] at h1; cases h1)) t (hx D ns es' he)
/-! self.f = e, self.f: self is being made -/
theorem putF_new {f : Str} {y : V} : ∀ {fs : List (Str × V)}, f ∉ fs.map (·.1) → putF f y fs = fs ++ [(f, y)]
  | [], _ => rfl
  | (g, x) :: r, h => by
    have h1 : g ≠ f := fun z => h (by rw [z]; exact List.mem_cons_self)
    show (if g = f then _ else _) = _
    rw [if_neg h1, putF_new (fun z => h (List.mem_cons_of_mem _ z))]
    rfl
theorem ws_ost {E : KE} {te : TE} {i j : Nat} {f : Str} {ns : List Str} {ds : List DV} (hc : Cls K C) (hn : NoAttr K C f) (hi : Γ[i]? = some (.own j)) (ho : O[j]? = some (some (.i C ns ds))) (hf : f ∉ ns) (hz : ns.length < 1000)
    (h : W K Z te Γ O n fun d n1 => E.nx Γ (O.set j (some (.i C (ns ++ [f]) (ds ++ [d])))) n1) : WS K Z (sFld K (tVar i) te f) Γ O n E := by
  intro pn As H0 M H σ D S s
  refine h pn As H0 M H σ S _ fun y M1 H1 d n1 e1 S1 r1 q => ?_
  obtain ⟨a, g1, g2⟩ := S1.ok i _ hi
  have g2' : σ[i]? = some (some (.ref a)) := by
    cases e : σ[i]? with
    | none => rw [e] at g2; cases g2
    | some o => rw [e] at g2; exact congrArg some g2
  obtain ⟨g3, g4, g5, dx, fs, g6, g7, g8⟩ := S1.own j a _ g1 ho
  have lf : fs.length = ns.length := by rw [← g7, List.length_map]
  refine ⟨_, g2', a, C, dx, fs, rfl, g6, hc, hn, by rw [lf]; exact hz, ?_⟩
  have pf : putF f y fs = fs ++ [(f, y)] := putF_new (by rw [g7]; exact hf)
  rw [pf]
  refine s.nx As M1 _ σ Γ _ n1 (List.prefix_refl _) e1 (S1.setOwnG (ow := .i C (ns ++ [f]) (ds ++ [d])) g1 ho ?_ ⟨dx, fs ++ [(f, y)], upd_same, by rw [List.map_append, g7]; rfl, by rw [List.map_append]; exact g8.append (.cons r1 .nil)⟩) q
  refine ⟨fun p hp => ?_, S1.tb.2⟩
  obtain ⟨ps, t1, t2, t3⟩ := S1.tb.1 p hp
  refine ⟨ps, by rw [upd_ne (fun z => by rw [z, g6] at t1; cases t1)]; exact t1, t2, fun pos cv hcv => ?_⟩
  obtain ⟨c, e, h4⟩ := t3 pos cv hcv
  refine ⟨c, e, ?_⟩
  rw [upd_ne (fun z => by rw [z, g6] at h4; exact absurd (Option.some.inj h4) (fun y => by have y' : HO.ins C dx fs = HO.ext _ := y; cases y'))]
  exact h4
theorem w_attOwn {i j : Nat} {f : Str} {ns : List Str} {ds : List DV} {d : DV} {k : DV → Nat → Prop} (hc : Cls K C) (hn : NoAttr K C f) (hi : Γ[i]? = some (.own j)) (ho : O[j]? = some (some (.i C ns ds))) (hl : (ns.zip ds).lookup f = some d) (q : k d n) :
    W K Z (tAtt K (tVar i) f) Γ O n k := by
  intro pn As H0 M H σ S Q c
  obtain ⟨a, g1, g2⟩ := S.ok i _ hi
  have g2' : σ[i]? = some (some (.ref a)) := by
    cases e : σ[i]? with
    | none => rw [e] at g2; cases g2
    | some o => rw [e] at g2; exact congrArg some g2
  obtain ⟨g3, g4, g5, dx, fs, g6, g7, g8⟩ := S.own j a _ g1 ho
  rw [← g7] at hl
  obtain ⟨y, hy, ry⟩ := rp_lookup g8 hl
  exact ⟨_, g2', .inr ⟨a, C, dx, fs, y, rfl, g6, hc, hn, hy, c y M H d n (Evl.Ex.refl M) S ry q⟩⟩
end
end DL
namespace PySem
namespace DLx
open PySem
/-! keys that are pairs of tuples of ints -/
section
variable {prog : Program} {w : World}
abbrev TK (prog : Program) (w : World) := IsTupleKey (intKind prog w)
def IsPairKey (prog : Program) (w : World) (h : Heap) (k : List Int × List Int) (a : Addr) : Prop := ∃ o n b c, h.get? a = some o ∧ o.cls = .type "tuple" ∧ o.data = .seq #[.ref b, .ref c] n ∧ TK prog w h k.1 b ∧ TK prog w h k.2 c
variable {A : Around} {E : Value → Shared → Prop} {s : Shared} {k k' : List Int × List Int} {a b : Addr}
theorem IsPairKey.typ (x : IsPairKey prog w s.heap k a) : s.TypeIs (.ref a) "tuple" := let ⟨o, _, _, _, ho, hc, _⟩ := x; ⟨o, ho, hc⟩
theorem IsPairKey.inj {h : Heap} (x : IsPairKey prog w h k a) (y : IsPairKey prog w h k' a) : k = k' := by
  obtain ⟨o, n, b, c, ho, _, hd, h1, h2⟩ := x
  obtain ⟨o', n', b', c', ho', _, hd', h1', h2'⟩ := y
  rw [ho] at ho'
  cases ho'
  rw [hd] at hd'
  cases hd'
  exact Prod.ext (h1.inj h1') (h2.inj h2')
theorem IsPairKey.keeps {h h' : Heap} {d : Addr} {o : Obj} {es ep} (x : IsPairKey prog w h k a) (ho : h.get? d = some o) (hd : o.data = .dict es ep) (hs : Heap.SameBut d h h') : IsPairKey prog w h' k a := by
  obtain ⟨oa, n, b, c, e, hc, hda, h1, h2⟩ := x
  have hne : a ≠ d := by
    rintro rfl
    rw [e] at ho
    cases ho
    rw [hda] at hd; cases hd
  exact ⟨oa, n, b, c, (hs.2 a hne).trans e, hc, hda, h1.keeps ho hd hs, h2.keeps ho hd hs⟩
def pairHash (prog : Program) (w : World) (k : List Int × List Int) : Int := reduceHash (Builtin.Tuple.tupleHashOf [tupleKeyHash (intKind prog w) k.1, tupleKeyHash (intKind prog w) k.2])
def pairDraws (k : List Int × List Int) : Nat := (k.1.length + 1) + (k.2.length + 1) + 1
theorem hash_pair {Q : Int → Shared → Prop} (hu : A.units + 8 < cLine) (x : IsPairKey prog w s.heap k a) (h : Q (pairHash prog w k) { s with toks := s.toks + pairDraws k }) : wpAny (model prog w) A (pyHash (.ref a)) Q E s := by
  have hT := x.typ
  obtain ⟨o, n, b, c, ho, _, hd, h1, h2⟩ := x
  have u1 : A.in1.units < cLine := by show A.units + 1 < cLine; omega
  have u2 : A.in1.in1.units < cLine := by show A.units + 1 + 1 < cLine; omega
  have u3 : A.in1.in1.in1.units < cLine := by show A.units + 1 + 1 + 1 < cLine; omega
  unfold pyHash pyHashByItsType
  refine wpAny_bind (wpAny_cRoomFor_or (.inr (by omega)) ?_)
  refine wpAny_bind (wpAny_specialOf hT F.slot_tuple_hash.lookup ?_)
  show wpAny _ _ (if (some (Value.builtin "tuple.__hash__") == some Value.none) = true then _ else _) Q E s
  rw [if_neg (by rw [beq_builtin_none]; exact Bool.false_ne_true)]
  refine wpAny_bind (wpAny_specialOf hT F.slot_tuple_hash.lookup ?_)
  show wpAny _ _ (callSpecialIfBoundUnlessNone? (.ref a) "__hash__" _ >>= _) Q E s
  refine wpAny_bind (wpAny_callSpecialIfBoundUnlessNone?_slot hT F.slot_tuple_hash (wpAny_call_entry F.slot_tuple_hash hT F.entry_tuple_hash ?_ (F.args_tuple_hash_1 _)))
  show wpAny _ _ (Builtin.Tuple.tupleItemsOf (.ref a) >>= _) _ _ s
  refine wpAny_bind (wpAny_tupleItemsOf ho hd ?_)
  refine wpAny_bind ?_
  rw [← Array.forIn_toList]
  simp only [List.forIn_cons, List.forIn_nil]
  refine wpAny_bind (wpAny_bind (wpAny_pyHash_tuple (knd := intKind prog w) (by assumption) h1 ?_))
  refine wpAny_pure ?_
  refine wpAny_bind (wpAny_bind (wpAny_pyHash_tuple (knd := intKind prog w) (by assumption) (show TK prog w s.heap k.2 c from h2) ?_))
  refine wpAny_pure (wpAny_pure ?_)
  show wpAny _ _ (retInt (Builtin.Tuple.tupleHashOf [tupleKeyHash (intKind prog w) k.1, tupleKeyHash (intKind prog w) k.2])) _ _ _
  refine wpAny_ret_mkInt ?_
  show wpAny _ _ (if (decide (-(2 : Int) ^ 63 ≤ Builtin.Tuple.tupleHashOf [tupleKeyHash (intKind prog w) k.1, tupleKeyHash (intKind prog w) k.2]) && decide (Builtin.Tuple.tupleHashOf [tupleKeyHash (intKind prog w) k.1, tupleKeyHash (intKind prog w) k.2] < 2 ^ 63)) = true then _ else _) Q E _
  unfold pairHash pairDraws reduceHash at h
  have et : s.toks + (k.1.length + 1) + (k.2.length + 1) + 1 = s.toks + ((k.1.length + 1) + (k.2.length + 1) + 1) := by omega
  by_cases hr : (decide (-(2 : Int) ^ 63 ≤ Builtin.Tuple.tupleHashOf [tupleKeyHash (intKind prog w) k.1, tupleKeyHash (intKind prog w) k.2]) && decide (Builtin.Tuple.tupleHashOf [tupleKeyHash (intKind prog w) k.1, tupleKeyHash (intKind prog w) k.2] < 2 ^ 63)) = true
  · rw [if_pos hr] at h ⊢
    refine wpAny_pure ?_
    simpa [et] using h
  · rw [if_neg hr] at h ⊢
    refine wpAny_bind (wpAny_rule (wpAny_pure ?_))
    simpa [et] using h
/-- the items of two pairs told apart -/
theorem eq_pair_tree {P : Fin → Shared → Prop} (hu : A.units + 4 < cLine) (x : IsPairKey prog w s.heap k a) (y : IsPairKey prog w s.heap k' b) (h : P (.done (.ret (.bool (decide (k = k'))))) s) :
    wpAny (model prog w) A (Builtin.«tuple.__eq__» ⟨[.ref a, .ref b], []⟩) P E s := by
  have hTb := y.typ
  obtain ⟨oa, na, a1, a2, hoa, _, hda, x1, x2⟩ := x
  obtain ⟨ob, nb, b1, b2, hob, _, hdb, y1, y2⟩ := y
  have hu0 : A.units < cLine := by omega
  show wpAny _ _ (isInstance (.ref b) (.type "tuple") >>= _) _ _ s
  refine wpAny_bind (wpAny_isInstance hTb isSubtype_tuple_tuple ?_)
  simp only [Bool.not_true, Bool.false_eq_true, if_false]
  refine wpAny_bind (wpAny_tupleItemsOf hoa hda ?_)
  refine wpAny_bind (wpAny_tupleItemsOf hob hdb ?_)
  refine wpAny_bind ?_
  simp only [List.zip_cons_cons, List.zip_nil_right, List.forIn_cons, List.forIn_nil]
  refine wpAny_bind (wpAny_bind (wpAny_eqBool_tuple (knd := intKind prog w) hu0 x1 y1 ?_))
  by_cases e1 : k.1 = k'.1
  · rw [decide_eq_true e1]
    simp only [Bool.not_true, Bool.false_eq_true, if_false]
    refine wpAny_pure ?_
    refine wpAny_bind (wpAny_bind (wpAny_eqBool_tuple (knd := intKind prog w) hu0 x2 y2 ?_))
    by_cases e2 : k.2 = k'.2
    · rw [decide_eq_true e2]
      simp only [Bool.not_true, Bool.false_eq_true, if_false]
      have e : k = k' := Prod.ext e1 e2
      rw [decide_eq_true e] at h
      exact wpAny_pure (wpAny_pure (wpAny_pure h))
    · rw [decide_eq_false e2]
      simp only [Bool.not_false, if_true]
      rw [decide_eq_false (fun z => e2 (congrArg Prod.snd z))] at h
      exact wpAny_bind (wpAny_pure (wpAny_pure (wpAny_pure (wpAny_pure h))))
  · rw [decide_eq_false e1]
    simp only [Bool.not_false, if_true]
    rw [decide_eq_false (fun z => e1 (congrArg Prod.fst z))] at h
    exact wpAny_bind (wpAny_pure (wpAny_pure (wpAny_pure (wpAny_pure h))))
theorem eq_pair {Q : Bool → Shared → Prop} (hu : A.units + 8 < cLine) (x : IsPairKey prog w s.heap k a) (y : IsPairKey prog w s.heap k' b) (h : Q (decide (k = k')) s) : wpAny (model prog w) A (eqBool (.ref a) (.ref b)) Q E s := by
  unfold eqBool
  try with_reducible refine wpAny_holding ?_
  show wpAny _ _ (if (Value.ref a == Value.ref b) = true then _ else _) Q E s
  by_cases hab : (Value.ref a == Value.ref b) = true
  · rw [if_pos hab]
    have e : a = b := by
      have z := eq_of_beq hab
      injection z
    subst e
    have ek := x.inj y
    subst ek
    exact wpAny_bind (wpAny_rule (wpAny_pure (by simpa using h)))
  · rw [if_neg hab]
    refine wpAny_bind (wpAny_richCompare_same_room (op := .Eq) x.typ y.typ F.slot_tuple_eq (wpAny_call_entry F.slot_tuple_eq x.typ F.entry_tuple_eq (eq_pair_tree (by first | (show A.units + 1 + 4 < cLine; omega) | (show A.units + 1 + 1 + 4 < cLine; omega) | (show A.units + 1 + 1 + 1 + 4 < cLine; omega)) x y ⟨_, rfl, (fun e => nomatch e), wpAny_truthy_bool h⟩) (F.args_tuple_eq_2 _ _)) (by omega))
/-- a tuple of ints is quiet at every depth -/
theorem quiet_ints {n : Nat} {ks : List Int} {Q : Bool → Shared → Prop} (hk : TK prog w s.heap ks a) (h : Q true s) : wpAny (model prog w) A (eqIsQuiet (n + 1) (.ref a)) Q E s := by
  have hT := hk.typeIs
  obtain ⟨o, items, n, ho, _, hd, hi⟩ := hk
  unfold eqIsQuiet
  refine wpAny_bind (wpAny_specialOf hT F.slot_tuple_eq.lookup ?_)
  show wpAny _ _ (isInstance (.ref a) (.type "tuple") >>= _) _ _ s
  refine wpAny_bind (wpAny_isInstance hT isSubtype_tuple_tuple ?_)
  simp only [Bool.not_true, Bool.false_eq_true, if_false]
  refine wpAny_bind (wpAny_seqItems ho hd (wpAny_bind ?_))
  show wpAny _ _ (forIn items _ _) _ _ s
  rw [← Array.forIn_toList]
  refine wpAny_forIn_list _ (fun rest r s' => r.1 = none ∧ s' = s ∧ ∀ v ∈ rest, carriedByValue v = true) _ ?_ ?_ _ _ ⟨rfl, rfl, hi.byValue⟩
  · rintro v rest r s' ⟨hr, rfl, hall⟩
    rw [eqIsQuiet_byValue _ (hall v List.mem_cons_self)]
    apply wpAny_bind (wpAny_pure ?_)
    simp only [Bool.not_true, Bool.false_eq_true, if_false]
    exact wpAny_pure ⟨rfl, rfl, fun u hu' => hall u (List.mem_cons_of_mem _ hu')⟩
  · rintro ⟨r1, r2⟩ s' ⟨hr, rfl, _⟩
    obtain rfl : r1 = none := hr
    exact wpAny_pure h
theorem quiet_pair {Q : Bool → Shared → Prop} (hk : IsPairKey prog w s.heap k a) (h : Q true s) : wpAny (model prog w) A (eqIsQuiet 8 (.ref a)) Q E s := by
  have hT := hk.typ
  obtain ⟨o, n, b, c, ho, _, hd, h1, h2⟩ := hk
  unfold eqIsQuiet
  refine wpAny_bind (wpAny_specialOf hT F.slot_tuple_eq.lookup ?_)
  show wpAny _ _ (isInstance (.ref a) (.type "tuple") >>= _) _ _ s
  refine wpAny_bind (wpAny_isInstance hT isSubtype_tuple_tuple ?_)
  simp only [Bool.not_true, Bool.false_eq_true, if_false]
  refine wpAny_bind (wpAny_seqItems ho hd (wpAny_bind ?_))
  show wpAny _ _ (forIn (#[Value.ref b, .ref c] : Array Value) _ _) _ _ s
  rw [← Array.forIn_toList]
  simp only [List.forIn_cons, List.forIn_nil]
  refine wpAny_bind (wpAny_bind (quiet_ints (n := 6) h1 ?_))
  simp only [Bool.not_true, Bool.false_eq_true, if_false]
  refine wpAny_pure (wpAny_bind (wpAny_bind (quiet_ints (n := 6) h2 ?_)))
  simp only [Bool.not_true, Bool.false_eq_true, if_false]
  exact wpAny_pure (wpAny_pure (wpAny_pure h))
end
def pairKind (prog : Program) (w : World) : HeapKind prog w (List Int × List Int) where
  is := IsPairKey prog w
  hash := pairHash prog w
  draws := pairDraws
  room := fun A => A.units + 8 < cLine
  inj := fun hx hy => hx.inj hy
  keeps := fun x ho hd hs => x.keeps ho hd hs
  pyHash := fun hu hk h => hash_pair hu hk h
  eqBool := fun hu hx hy h => eq_pair hu hx hy h
  quiet := fun hk h => quiet_pair hk h
end DLx
end PySem
namespace DL
open PySem PySem.Spec PyProof.Rows L2 PySem.DLx
variable [Tn]
/-! {pair of int tuples: True for ..} -/
abbrev PK2 := List Int × List Int
/-- at d: a dict of such keys, each with True -/
def DKP (P : Program) (w : World) (d : Addr) (L : List (PK2 × Addr)) : HO := .ext fun h => (d == sysModules) = false ∧ ∃ (o : Obj) (es : Array DictEntry) (ep : Nat), h.get? d = some o ∧ o.ExactDict ∧ o.data = .dict es ep ∧ es.toList = (L.map fun x => (x.1, x.2, Value.bool true)).map (entryOfKey (pairKind P w)) ∧ (L.map (·.1)).Nodup
def PairT (K : Fg) (H : Hp) (a : Addr) (k : PK2) : Prop := ∃ b c, SqT K H a [.ref b, .ref c] ∧ SqT K H b (k.1.map V.int) ∧ SqT K H c (k.2.map V.int)
theorem PairT.ext {K : Fg} {H H' : Hp} {a : Addr} {k : PK2} (e : Evl.Ex H H') (p : PairT K H a k) : PairT K H' a k := by
  obtain ⟨b, c, h1, h2, h3⟩ := p
  exact ⟨b, c, Evl.ex_t e h1, Evl.ex_t e h2, Evl.ex_t e h3⟩
def putP (L : List (PK2 × Addr)) (k : PK2) (a : Addr) : List (PK2 × Addr) := if k ∈ L.map (·.1) then L else L ++ [(k, a)]
theorem dkp_empty {P : Program} {w : World} {H : Hp} (h : Heap) (hb : sysModules < h.objs.size) : ObjOk P w H (h.push { cls := .type "dict", data := .dict #[] }) h.objs.size (DKP P w h.objs.size []) :=
  ⟨⟨beq_eq_false_iff_ne.mpr (Ne.symm (Nat.ne_of_lt hb)), _, #[], 0, Heap.get?_push_size _ rfl, ⟨rfl, rfl, rfl⟩, rfl, rfl, List.nodup_nil⟩, ⟨_, Heap.get?_push_size _ rfl⟩, fun h1 h2 ⟨lo, o, es, ep, e1, r⟩ k => ⟨lo, o, es, ep, k _ e1, r⟩⟩
section
variable {X : Cx} {pins : List (Addr × Obj)} {σ : L2.St} {H : Hp} {s : Shared}
theorem ints_key {P : Program} {w : World} : ∀ {ns : List Int} {its : List Value}, Vals (ns.map V.int) its → ItemsAre (intKind P w) ns its
  | [], _, h => by cases h; exact .nil
  | n :: ns, _, h => by
    cases h with
    | cons a b =>
      obtain ⟨t, rfl⟩ := a
      exact .cons (by show Value.isInt n (.int n t) = true; simp [Value.isInt]) (ints_key b)
theorem tk_of (I : Inv X pins σ H s) {a : Addr} {ns : List Int} (h : SqT X.K H a (ns.map V.int)) : TK X.prog X.w s.heap ns a := by
  obtain ⟨its, r, ⟨o, ho, hc, n, hd⟩, _⟩ := I.tuple h
  exact ⟨o, its.toArray, n, ho, hc, hd, by simpa using ints_key r⟩
theorem pair_of (I : Inv X pins σ H s) {a : Addr} {k : PK2} (h : PairT X.K H a k) : IsPairKey X.prog X.w s.heap k a := by
  obtain ⟨b, c, h1, h2, h3⟩ := h
  obtain ⟨its, r, ⟨o, ho, hc, n, hd⟩, _⟩ := I.tuple h1
  obtain ⟨u1, u2, rfl, r1, r2⟩ := vals2 r
  obtain rfl : u1 = Value.ref b := r1
  obtain rfl : u2 = Value.ref c := r2
  exact ⟨o, n, b, c, ho, hc, hd, tk_of I h2, tk_of I h3⟩
theorem dkp_lo (I : Inv X pins σ H s) {D : Addr} {L : List (PK2 × Addr)} (hD : H D = some (DKP X.prog X.w D L)) : (D == sysModules) = false := by
  have x : ObjOk X.prog X.w H s.heap D (.ext fun h => (D == sysModules) = false ∧ ∃ (o : Obj) (es : Array DictEntry) (ep : Nat), h.get? D = some o ∧ o.ExactDict ∧ o.data = .dict es ep ∧ es.toList = (L.map fun x => (x.1, x.2, Value.bool true)).map (entryOfKey (pairKind X.prog X.w)) ∧ (L.map (·.1)).Nodup) := I.hok D _ hD
  exact x.1.1
theorem dkp_dict (I : Inv X pins σ H s) {D : Addr} {L : List (PK2 × Addr)} (hD : H D = some (DKP X.prog X.w D L)) (hL : ∀ x ∈ L, PairT X.K H x.2 x.1) : s.heap.DictOfH (pairKind X.prog X.w) D (L.map fun x => (x.1, x.2, Value.bool true)) := by
  have x : ObjOk X.prog X.w H s.heap D (.ext fun h => (D == sysModules) = false ∧ ∃ (o : Obj) (es : Array DictEntry) (ep : Nat), h.get? D = some o ∧ o.ExactDict ∧ o.data = .dict es ep ∧ es.toList = (L.map fun x => (x.1, x.2, Value.bool true)).map (entryOfKey (pairKind X.prog X.w)) ∧ (L.map (·.1)).Nodup) := I.hok D _ hD
  obtain ⟨lo, o, es, ep, h1, h2, h3, h4, h5⟩ := x.1
  refine ⟨o, es, ep, h1, h2, h3, h4, ?_, by rw [List.map_map]; exact h5⟩
  intro y hy
  obtain ⟨z, hz, rfl⟩ := List.mem_map.mp hy
  exact pair_of I (hL z hz)
theorem atKey_mem : ∀ {L : List (PK2 × Addr)} {k : PK2}, (atKey (L.map fun x => (x.1, x.2, Value.bool true)) k).isSome = decide (k ∈ L.map (·.1))
  | [], k => by simp [atKey]
  | x :: L, k => by
    have ih := atKey_mem (L := L) (k := k)
    unfold atKey at ih ⊢
    rw [Option.isSome_map] at ih ⊢
    rw [List.map_cons, List.find?_cons]
    by_cases h : x.1 = k
    · simp [h]
    · have h' : k ≠ x.1 := fun z => h z.symm
      simp only [h, decide_false]
      rw [ih]
      simp [h']
theorem stored_put {L : List (PK2 × Addr)} {k : PK2} {a : Addr} : storedH (L.map fun x => (x.1, x.2, Value.bool true)) k a (.bool true) = (putP L k a).map fun x => (x.1, x.2, Value.bool true) := by
  unfold storedH putP
  rw [atKey_mem]
  by_cases h : k ∈ L.map (·.1)
  · rw [if_pos (decide_eq_true h), if_pos h, List.map_map]
    refine List.map_congr_left fun x hx => ?_
    show putAt k _ _ = _
    unfold putAt
    split <;> rfl
  · rw [if_neg (by simpa using h), if_neg h, List.map_append]
    rfl
theorem dkp_set {D a : Addr} {L : List (PK2 × Addr)} {k : PK2} {E : Value → Shared → Prop} {Q : Unit → Shared → Prop} (hu : X.A.units + 8 < cLine) (I : Inv X pins σ H s) (hD : H D = some (DKP X.prog X.w D L)) (hL : ∀ x ∈ L, PairT X.K H x.2 x.1) (hk : PairT X.K H a k) (hz : L.length < sizeLine)
    (h : ∀ s', Inv X pins σ (upd H D (DKP X.prog X.w D (putP L k a))) s' → Q () s') : wpAny (model X.prog X.w) X.A (dictSet D (.ref a) (.bool true)) Q E s := by
  have dd := dkp_dict I hD hL
  refine wpAny_dictSet_heap (knd := pairKind X.prog X.w) hu (pair_of I hk) dd (fun h' dd' hs => h _ ?_) (by rw [List.length_map]; omega)
  rw [stored_put] at dd'
  obtain ⟨o, es, ep, h1, h2, h3, h4, h5, h6⟩ := dd'
  rw [List.map_map] at h6
  refine d_write I (by rw [hD]; exact True.intro) hs ⟨o, h1⟩ ⟨⟨dkp_lo I hD, o, es, ep, h1, h2, h3, h4, h6⟩, ⟨o, h1⟩, ?_⟩
  rintro g1 g2 ⟨lo, o, es, ep, e1, r⟩ kk
  exact ⟨lo, o, es, ep, kk _ e1, r⟩
end
section
variable {X : Cx}
def tDcP (K : Fg) (P : Program) (w : World) (wi : TI) (g : TG) (tt : TT) (tk tv : TE) (vs : List Nat) : TE := fun σ H Q => wi σ H fun J H1 => ∀ D, H1 D = none → ∃ W : Nat → Nat → Hp → Prop, (∃ m, W 0 m (upd H1 D (DKP P w D []))) ∧ ∀ i m H, W i m H →
  (J.stop i H ∧ Q (.ref D) H) ∨ (J.go i H ∧ ∃ Nx : Hp → Prop, (∀ H', Nx H' → ∃ m', m' < m ∧ W (i + 1) m' H') ∧ ∀ x H', J.yld i H x H' → g x (wipe σ vs) H' fun σ2 H2 => wipe σ2 vs = wipe σ vs ∧ tt σ2 H2 fun b H3 =>
    if b = true then tk σ2 H3 fun y H4 => tv σ2 H4 fun z H5 => z = .bl true ∧ ∃ L k a, y = .ref a ∧ PairT K H5 a k ∧ H5 D = some (DKP P w D L) ∧ (∀ x ∈ L, PairT K H5 x.2 x.1) ∧ L.length < sizeLine ∧ Nx (upd H5 D (DKP P w D (putP L k a))) else Nx H3)
theorem dcp_core {pins : List (Addr × Obj)} {s : Shared} {σ : L2.St} {H : Hp} {Q : VK} {kx vx tg iter : Expr} {ifs : List Expr} {scope : Scope} {own : List (Str × Nat)} {pos pos' : Pos} {wi : TI} {g : TG} {tt : TT} {tk tv : TE} {use : Option (Value → Sem Unit)} {Qf : Value → Shared → Prop}
    (hu : X.A.units + 8 < cLine) (hc : X.calm = true) (hN : X.N.Nodup) (I : Inv X pins σ H s) (hii : PI X tg iter wi) (okB : BlkOk X.N X.env.scope scope own)
    (hgg : ∀ (s : Shared) (H : Hp) (C : Addr) (cl : List (Str × Addr)) (fp : List Addr), PG (X.blk s H scope (compEnvC scope cl C X.env) fp) tg g) (htt : ∀ (s : Shared) (H : Hp) (C : Addr) (cl : List (Str × Addr)) (fp : List Addr), PTs (X.blk s H scope (compEnvC scope cl C X.env) fp) ifs tt)
    (hkk : ∀ (s : Shared) (H : Hp) (C : Addr) (cl : List (Str × Addr)) (fp : List Addr), PE (X.blk s H scope (compEnvC scope cl C X.env) fp) kx tk)
    (hee : ∀ (s : Shared) (H : Hp) (C : Addr) (cl : List (Str × Addr)) (fp : List Addr), PE (X.blk s H scope (compEnvC scope cl C X.env) fp) vx tv) (hss : ∀ x, foldedSetIterable iter X.env x = pure x)
    (h : tDcP X.K X.prog X.w wi g tt tk tv (own.map (·.2)) σ H Q)
    (back : ∀ D C s' m H', Inv X pins σ H' s' → Q (.ref D) H' → s'.heap.Ns C m → FpOk X pins H' C → compPost (model X.prog X.w) X.A X.xe use Qf (.ref D) C (.ok .next) s') :
    wpAny (model X.prog X.w) X.A (comprehension (.DictComp kx vx [⟨tg, iter, ifs, 0⟩] scope pos) scope X.env pos' newDict false (eval iter X.env) use) Qf X.xe s := by
  have frees : ∀ y ∈ scope.names, y.2 = .free → ∃ c, X.env.cells.lookup y.1 = some c := fun y hy e => by
    rcases okB.free y hy e with k | k
    · exact I.ok.has _ (.inl k)
    · exact I.ok.has _ (.inr k)
  refine wpAny_comprehension_free (use := use) rfl hss (closure_ok frees) okB.kind (fun y hy e => by rw [okB.uniq y hy, e])
    (thn (hii.run pins s σ H _ I h) fun xvv s1 hxx => thn hxx fun itt z2 hh2 => ?_)
  obtain ⟨it, fp, tnn, J, G2, e, J2, T, a2, w2, q⟩ := hh2
  subst e
  refine wpAny_newObj_type (newEnv_comp ?_)
  generalize eD : z2.heap.objs.size = D
  have eDn : G2 D = none := J2.hok.fresh (Nat.le_of_eq eD)
  obtain ⟨W, ⟨m0, w0⟩, tur⟩ := q D eDn
  -- the new list
  generalize hs3 : ({ z2 with heap := z2.heap.push { cls := .type "dict", data := .dict #[] } } : Shared) = z3
  have J3 : Inv X pins σ (upd G2 D (DKP X.prog X.w D [])) z3 := by
    rw [← hs3]
    refine J2.laid (t' := z2.toks) (fun b o e => Heap.get?_push_of_some _ e) (Nat.le_of_eq eD) ?_
    rw [← eD]
    exact dkp_empty z2.heap J2.big
  have h3 : z3.heap = z2.heap.push { cls := .type "dict", data := .dict #[] } := by rw [← hs3]
  have szz : ∀ b ∈ fp, b < z2.heap.objs.size := fun b hb => by
    obtain ⟨o, e, _⟩ := T.obj _ _ a2 b hb
    exact Heap.lt_size e
  have w3 : ∀ b ∈ fp, FpOk X pins (upd G2 D (DKP X.prog X.w D [])) b ∧ b < z3.heap.objs.size := fun b hb => by
    have hlt2 := szz b hb
    refine ⟨⟨?_, (w2 b hb).2⟩, by rw [h3, Heap.size_push]; exact Nat.lt_succ_of_lt hlt2⟩
    rw [upd_ne (by rw [← eD]; exact Nat.ne_of_lt hlt2)]
    exact (w2 b hb).1
  have a3 : tnn 0 z3.heap := T.keep _ _ _ a2 fun b _ o e => by rw [h3]; exact Heap.get?_push_of_some _ e
  have J4 := block_start J3 okB hN w3
  have gg := hgg z3 (upd G2 D (DKP X.prog X.w D [])) z3.heap.objs.size (cellsFrom (z3.heap.objs.size + 1) scope.names (cloFrom X.env.cells scope.names [])) fp
  have gt := htt z3 (upd G2 D (DKP X.prog X.w D [])) z3.heap.objs.size (cellsFrom (z3.heap.objs.size + 1) scope.names (cloFrom X.env.cells scope.names [])) fp
  have gk := hkk z3 (upd G2 D (DKP X.prog X.w D [])) z3.heap.objs.size (cellsFrom (z3.heap.objs.size + 1) scope.names (cloFrom X.env.cells scope.names [])) fp
  have ge := hee z3 (upd G2 D (DKP X.prog X.w D [])) z3.heap.objs.size (cellsFrom (z3.heap.objs.size + 1) scope.names (cloFrom X.env.cells scope.names [])) fp
  show codeAny _ _ (.compStart (.DictComp kx vx [⟨tg, iter, ifs, 0⟩] scope pos) 0 (.ref it) (.ref D) (compEnvC scope (cellsFrom (z3.heap.objs.size + 1) scope.names (cloFrom X.env.cells scope.names [])) z3.heap.objs.size X.env)) (compPost (model X.prog X.w) X.A X.xe use Qf (.ref D) z3.heap.objs.size) { z3 with heap := pushCells (z3.heap.push { cls := .type "dict", data := .dict #[] }) scope.names }
  have nof : ∀ b ∈ fp, (upd G2 D (DKP X.prog X.w D [])) b = none := fun b hb => (w3 b hb).1.1
  generalize ece : compEnvC scope (cellsFrom (z3.heap.objs.size + 1) scope.names (cloFrom X.env.cells scope.names [])) z3.heap.objs.size X.env = cw at J4 gg gt gk ge ⊢
  have eL : cw.locals = z3.heap.objs.size := by subst ece; rfl
  generalize hH3 : upd G2 D (DKP X.prog X.w D []) = G3 at J3 J4 gg gt gk ge w0 nof w3
  generalize hs4 : ({ z3 with heap := pushCells (z3.heap.push { cls := .type "dict", data := .dict #[] }) scope.names } : Shared) = z4 at J4 ⊢
  have a4 : tnn 0 z4.heap := T.keep _ _ _ a3 fun b _ o e => by rw [← hs4]; exact pushCells_keeps _ _ _ _ (Heap.get?_push_of_some _ e)
  have still : ∀ {σ' : L2.St} {H' : Hp} {s' : Shared}, Inv (X.blk z3 G3 scope cw fp) [] σ' H' s' → (∀ b ∈ fp, H' b = none) → ∀ b ∈ fp, FpOk (X.blk z3 G3 scope cw fp) [] H' b := fun {σ' H' s'} I' hn b hb =>
    ⟨hn b hb, (I'.ok.exf b hb).1, I'.ok.exfs b hb, .inl hb, fun x c e => (I'.ok.exf b hb).2 x c e, fun p hp => absurd (show p ∈ ([] : List (Addr × Obj)) ++ [] from hp) (by simp)⟩
  have lap : codeAny (model X.prog X.w) X.A (.compLoop (.DictComp kx vx [⟨tg, iter, ifs, 0⟩] scope pos) 0 (.ref it) (.ref D) cw) (compPost (model X.prog X.w) X.A X.xe use Qf (.ref D) z3.heap.objs.size) z4 := by
    refine compLoop_anyD (fun n s' => ∃ i H', Inv (X.blk z3 G3 scope cw fp) [] (wipe σ (own.map (·.2))) H' s' ∧ tnn i s'.heap ∧ (∀ b ∈ fp, H' b = none) ∧ W i n H') ?_ m0 ⟨0, G3, J4, a4, nof, w0⟩
    rintro n z5 ⟨i, G5, J5, a5, m5, v5⟩
    rcases tur i n G5 v5 with ⟨stop, qq⟩ | ⟨go, Nx, hNx, step⟩
    · have tdn := T.done (X.blk z3 G3 scope cw fp) rfl rfl rfl hc i [] z5 _ G5 (fun _ _ => False) J5 (still J5 m5) a5 stop
      refine thnF tdn fun r z6 ⟨hr, J6⟩ => ?_
      subst hr
      -- back in the def's context
      have J7 : Inv X pins σ G5 z6 := J3.call' (ch := fp) J6.os J6.base J6.hok J6.bare fun b hb => ⟨(w3 b hb).1.2.2.2.1, (w3 b hb).1.2.1, (w3 b hb).1.2.2.2.2.1, (w3 b hb).1.2.2.2.2.2⟩
      have nCC : G5 z3.heap.objs.size = none := by
        have zz : G5 cw.locals = none := J6.free
        rw [eL] at zz
        exact zz
      obtain ⟨m, hn, _⟩ := J6.loc
      have hn : z6.heap.Ns cw.locals m := hn
      rw [eL] at hn
      exact back D z3.heap.objs.size z6 m G5 J7 qq hn (J3.fpOk (Nat.le_refl _) nCC)
    · have tit := T.item (X.blk z3 G3 scope cw fp) rfl rfl rfl hc i [] z5 _ G5 (fun _ _ => False) J5 (still J5 m5) a5 go
      refine thnF tit fun r z6 ⟨u, hr, h6⟩ => ?_
      subst hr
      refine thnF h6 fun _ z7 ⟨x, G7, J7, ry7, yy7, a7, m7⟩ => ?_
      have I7' := J7.pinned (still J7 m7) (T.obj _ _ a7)
      refine thnF (gg.run _ z7 _ G7 x u _ I7' ry7 (step x G7 yy7)) fun _ z8 ⟨τ8, G8, J8, ew8, p8⟩ => ?_
      refine thnF (gt.run _ z8 τ8 G8 _ J8 p8) fun b z9 ⟨G9, J9, p9⟩ => ?_
      -- the turn's end
      have endT : ∀ {s' : Shared} {H' : Hp}, Inv (X.blk z3 G3 scope cw fp) ([] ++ pinsAt fp z7.heap) τ8 H' s' → Nx H' → ∃ m, m < n ∧ ∃ i H', Inv (X.blk z3 G3 scope cw fp) [] (wipe σ (own.map (·.2))) H' s' ∧ tnn i s'.heap ∧ (∀ b ∈ fp, H' b = none) ∧ W i m H' := fun {s' H'} I' nx => by
        obtain ⟨m', hm, w'⟩ := hNx H' nx
        have pinA : ∀ b ∈ fp, ∀ o, z7.heap.get? b = some o → s'.heap.get? b = some o ∧ H' b = none := fun b hb o e =>
          let zz := I'.pin (b, o) (List.mem_append_right _ (List.mem_append_right _ (mem_pinsAt hb e)))
          ⟨zz.1, zz.2.1⟩
        have hl : (wipe σ (own.map (·.2))).length = τ8.length := by rw [← ew8, wipe_length]
        refine ⟨m', hm, i + 1, H', (I'.unpinned (pins := [])).weak hl (fun j v e => ?_), T.keep _ _ _ a7 fun b hb o e => (pinA b hb o e).1, fun b hb => ?_, w'⟩
        · rw [← ew8] at e
          exact (wipe_some e).1
        · obtain ⟨o, e, _⟩ := T.obj _ _ a7 b hb
          exact (pinA b hb o e).2
      cases b with
      | false =>
        simp only [Bool.false_eq_true, if_false] at p9 ⊢
        exact endT J9 p9
      | true =>
        simp only [if_true] at p9 ⊢
        refine thnF (gk.run _ z9 τ8 G9 _ J9 p9) fun zz z10 ⟨ykk, G10, J10, r10, p10⟩ => ?_
        refine thnF (ge.run _ z10 τ8 G10 _ J10 p10) fun z2 z11 ⟨yvv, G11, J11, r11, ez, L, k, ad, ek, pk1, hD11, hL11, hz11, nx⟩ => ?_
        subst ek ez
        obtain rfl : zz = Value.ref ad := r10
        obtain rfl : z2 = Value.bool true := r11
        exact dkp_set (X := X.blk z3 G3 scope cw fp) hu J11 hD11 hL11 pk1 hz11 fun z12 J12 => endT J12 nx
  exact codeAny_compStart_dict lap (T.self X.A 0 _ _ _ a4 lap)
theorem pe_dcP {kx vx tg iter : Expr} {ifs : List Expr} {scope : Scope} {own : List (Str × Nat)} {pos : Pos} {wi : TI} {g : TG} {tt : TT} {tk tv : TE} (hu : X.A.units + 8 < cLine) (hc : X.calm = true) (hN : X.N.Nodup) (hii : PI X tg iter wi) (okB : BlkOk X.N X.env.scope scope own)
    (hgg : ∀ (s : Shared) (H : Hp) (C : Addr) (cl : List (Str × Addr)) (fp : List Addr), PG (X.blk s H scope (compEnvC scope cl C X.env) fp) tg g) (htt : ∀ (s : Shared) (H : Hp) (C : Addr) (cl : List (Str × Addr)) (fp : List Addr), PTs (X.blk s H scope (compEnvC scope cl C X.env) fp) ifs tt)
    (hkk : ∀ (s : Shared) (H : Hp) (C : Addr) (cl : List (Str × Addr)) (fp : List Addr), PE (X.blk s H scope (compEnvC scope cl C X.env) fp) kx tk)
    (hee : ∀ (s : Shared) (H : Hp) (C : Addr) (cl : List (Str × Addr)) (fp : List Addr), PE (X.blk s H scope (compEnvC scope cl C X.env) fp) vx tv) (hss : ∀ x, foldedSetIterable iter X.env x = pure x := by intro _; rfl) :
    PE X (.DictComp kx vx [⟨tg, iter, ifs, 0⟩] scope pos) (tDcP X.K X.prog X.w wi g tt tk tv (own.map (·.2))) := by
  refine ⟨fun pins s σ H Q I h => ?_⟩
  rw [arm_eval_DictComp]
  refine dcp_core hu hc hN I hii okB hgg htt hkk hee hss h fun D C s' m H' I' q hn f => ⟨m, hn, fun h'' sb => ?_⟩
  obtain ⟨f0, f1, w2, w3, f4, f5⟩ := f
  exact ⟨.ref D, H', I'.turned (t' := s'.toks) (fun b o hb e => (sb.2 b hb).trans e) f0 f1 w3 f4 f5, rfl, q⟩
end
end DL
namespace DL
open PySem PySem.Spec PyProof.Rows L2 PySem.DLx
variable [Tn]
/-! list(d) of such a dict; sorted(xs) of plain data -/
/-- list(d): the keys in order -/
def rListP (P : Program) (w : World) : List V → Hp → VK → Prop := fun xs H Q => ∃ (d : Addr) (L : List (PK2 × Addr)), xs = [V.ref d] ∧ H d = some (DKP P w d L) ∧ L.length ≤ sizeLine ∧ ∀ p, H p = none → Q (.ref p) (upd H p (.lst (L.map fun x => V.ref x.2)))
/-- sorted(xs): enc tells what the items read as, f which they are -/
def rSortD (K : Fg) : List V → Hp → VK → Prop := fun xs H Q => ∃ (a : Addr) (β : Type) (bs : List β) (f : β → V) (enc : β → PyData), xs = [V.ref a] ∧ SqL K H a (bs.map f) ∧ (∀ b ∈ bs, Dp K H (f b) (enc b)) ∧ PySem.W.AllAlike (bs.map enc) ∧ PySem.W.Sortable (bs.map enc) ∧ (∀ b ∈ bs, (enc b).depth ≤ 60) ∧
  ∀ p, H p = none → Q (.ref p) (upd H p (.lst ((bs.mergeSort (PySem.W.dataLe false enc)).map f)))
section
variable {X : Cx}
theorem cr_listP (hc : X.calm = true) : CallR X (.type "list") (rListP X.prog X.w) := by
  intro pins s σ H xs us Q I r h
  obtain ⟨d, L, rfl, hd, hz, q⟩ := h
  obtain ⟨u, rfl, rx⟩ := vals1 r
  obtain rfl : u = Value.ref d := rx
  have lo := dkp_lo I hd
  have x : ObjOk X.prog X.w H s.heap d (.ext fun h => (d == sysModules) = false ∧ ∃ (o : Obj) (es : Array DictEntry) (ep : Nat), h.get? d = some o ∧ o.ExactDict ∧ o.data = .dict es ep ∧ es.toList = (L.map fun x => (x.1, x.2, Value.bool true)).map (entryOfKey (pairKind X.prog X.w)) ∧ (L.map (·.1)).Nodup) := I.hok d _ hd
  obtain ⟨_, o, es, ep, ho, hx, hdt, he, hn⟩ := x.1
  have l1 : es.size = L.length := by rw [size_of_entries he, List.length_map]
  refine PySem.W.kdl_call (kdl_raw lo hx hdt) (I.ok.hd hc) ho (by omega) fun h' tk acc' c' kp e it => ?_
  have ea : acc'.toList = (L.map fun x => x.2).map Value.ref := by
    apply List.ext_getElem?
    intro j
    have hl : acc'.toList.length = L.length := by rw [Array.length_toList, it.1]; exact l1
    rw [List.getElem?_map, List.getElem?_map]
    cases hj : acc'.toList[j]? with
    | none =>
      have h1 := List.getElem?_eq_none_iff.mp hj
      have h2 : L[j]? = none := List.getElem?_eq_none (by omega)
      rw [h2]; rfl
    | some v =>
      obtain ⟨en, hen, hv⟩ := it.2 j v (by rw [← Array.getElem?_toList]; exact hj)
      have qe := entry_at he j
      rw [hen, List.getElem?_map] at qe
      cases hb : L[j]? with
      | none => rw [hb] at qe; cases qe
      | some b =>
        rw [hb] at qe
        have e2 : en = entryOfKey (pairKind X.prog X.w) (b.1, b.2, Value.bool true) := Option.some.inj qe
        rw [hv, e2]
        rfl
  have rv : Vals (L.map fun x => V.ref x.2) acc'.toList := by
    have z := vals_refs (L.map fun x => x.2)
    rw [List.map_map] at z
    rw [ea]; exact z
  refine ⟨.ref s.heap.objs.size, _, I.laid (t' := tk) (o := .lst (L.map fun x => V.ref x.2)) kp (Nat.le_refl _) ?_, rfl, q _ (I.hok.fresh (Nat.le_refl _))⟩
  exact ⟨by rw [List.length_map]; exact hz, acc'.toList, c', rv, by rw [Array.toArray_toList]; exact e⟩
theorem each_of {β : Type} {f : β → V} : ∀ {bs : List β} {us : List Value}, Vals (bs.map f) us → PySem.W.EachIs (fun u b => RelV (f b) u) us bs
  | [], _, h => by cases h; exact .nil
  | b :: bs, _, h => by
    cases h with
    | cons a c => exact .cons a (each_of c)
theorem each_to {β : Type} {f : β → V} : ∀ {bs : List β} {us : List Value}, PySem.W.EachIs (fun u b => RelV (f b) u) us bs → Vals (bs.map f) us
  | _, _, .nil => .nil
  | _, _, .cons a c => .cons a (each_to c)
theorem each_reads {pins : List (Addr × Obj)} {σ : L2.St} {H : Hp} {s : Shared} (I : Inv X pins σ H s) {β : Type} {f : β → V} {enc : β → PyData} : ∀ {bs : List β} {us : List Value}, Vals (bs.map f) us → (∀ b ∈ bs, Dp X.K H (f b) (enc b)) → PySem.W.EachIs (fun u b => ∃ as, Reads s.heap u (enc b) as) us bs
  | [], _, h, _ => by cases h; exact .nil
  | b :: bs, _, h, hd => by
    cases h with
    | cons a c => exact .cons (Dp.reads I _ _ _ (hd b (by simp)) a) (each_reads I c fun b hb => hd b (by simp [hb]))
theorem cr_sortD (hu : X.A.units + 64 < cLine) : CallR X (.builtin "sorted") (rSortD X.K) := by
  intro pins s σ H xs us Q I r h
  obtain ⟨a, β, bs, f, enc, rfl, hs, hd, hal, hsb, hdep, q⟩ := h
  obtain ⟨its, rv, hl, hz⟩ := I.list hs
  obtain ⟨u, rfl, ru⟩ := vals1 r
  obtain rfl : u = Value.ref a := ru
  rw [List.length_map] at hz
  refine PySem.W.sorted_data (bs := bs) (enc := enc) (R := fun u b => RelV (f b) u) hl.isList (each_of rv) (each_reads I rv hd) hal hsb hz (fun b hb => by have := hdep b hb; omega) fun out ho eo => ?_
  obtain ⟨ep, he⟩ := PyProof.Rows.sortedAll_at s.heap its (List.toArray out)
  refine ⟨.ref _, upd H (s.heap.objs.size + 1) (.lst ((bs.mergeSort (PySem.W.dataLe false enc)).map f)), I.laid (t' := s.toks) (fun _ _ => PyProof.Rows.sortedAll_old) (Nat.le_succ _) ⟨?_, out, ep, each_to eo, he⟩, rfl, q _ (I.hok.fresh (Nat.le_succ _))⟩
  rw [List.length_map, List.length_mergeSort]; exact hz
end
/-! wishes -/
section
variable {K : Fg} {Z : Xt} {Γ : List SA} {O : Own} {n : Nat}
theorem rp_pairs {M : Hp} : ∀ {vs : List V} {ds : List DV}, RpL K M vs ds → ∀ b ∈ vs.zip ds, Rp K M b.1 b.2
  | _, [], h, b, hb => by cases h; simp at hb
  | _, d :: ds, h, b, hb => by
    cases h with
    | cons a c =>
      rcases List.mem_cons.mp hb with rfl | hb
      · exact a
      · exact rp_pairs c b hb
theorem rp_of_pairs {M : Hp} : ∀ {bs : List (V × DV)}, (∀ b ∈ bs, Rp K M b.1 b.2) → RpL K M (bs.map (·.1)) (bs.map (·.2))
  | [], _ => .nil
  | b :: bs, h => .cons (h b (by simp)) (rp_of_pairs fun c hc => h c (by simp [hc]))
theorem zip_fst' {α β : Type} {xs : List α} {ys : List β} (h : xs.length = ys.length) : (xs.zip ys).map (·.1) = xs := zip_fst h.symm
theorem zip_snd' {α β : Type} {xs : List α} {ys : List β} (h : xs.length = ys.length) : (xs.zip ys).map (·.2) = ys := zip_snd h.symm
/-- sorted(xs), data of one kind -/
theorem cwl_sorted {ds : List DV} {k : List DV → Prop} (hp : ∀ d ∈ ds, isPy d = true) (hal : PySem.W.AllAlike (ds.map DL.py)) (hs : PySem.W.Sortable (ds.map DL.py)) (hd : ∀ d ∈ ds, (DL.py d).depth ≤ 60) (q : k (ds.mergeSort (PySem.W.dataLe false DL.py))) :
    CWL K (rSortD K) [.lst ds] k := by
  intro Z pn As H0 M H σ Γ O n S us r Q c
  obtain ⟨u, rfl, h1⟩ := r.one
  obtain ⟨a, vs, rfl, g1, g2⟩ := h1.lst'
  have hl : vs.length = ds.length := g2.length
  have hv : (vs.zip ds).map (fun b => b.1) = vs := zip_fst' hl
  have hdd : (vs.zip ds).map (fun b => b.2) = ds := zip_snd' hl
  have he : (vs.zip ds).map (fun b : V × DV => DL.py b.2) = ds.map DL.py := by
    rw [← hdd, List.map_map, hdd]; rfl
  refine ⟨a, V × DV, vs.zip ds, fun b => b.1, fun b => DL.py b.2, rfl, by rw [hv]; exact .inl (.inl (S.ex _ _ g1)), fun b hb => (rp_pairs g2 b hb).dp S.ex (hp _ ?_), by rw [he]; exact hal, by rw [he]; exact hs, fun b hb => hd _ ?_, fun p hp' => ?_⟩
  · exact (List.of_mem_zip hb).2
  · exact (List.of_mem_zip hb).2
  · have em : ((vs.zip ds).mergeSort (PySem.W.dataLe false fun b : V × DV => DL.py b.2)).map (fun b => b.2) = ds.mergeSort (PySem.W.dataLe false DL.py) := by
      have z := List.map_mergeSort (f := fun b : V × DV => b.2) (r := PySem.W.dataLe false fun b : V × DV => DL.py b.2) (s := PySem.W.dataLe false DL.py) (l := vs.zip ds) (fun a _ b _ => rfl)
      rw [hdd] at z
      exact z
    have rr := rp_of_pairs (K := K) (M := M) (bs := (vs.zip ds).mergeSort (PySem.W.dataLe false fun b : V × DV => DL.py b.2)) (fun b hb => rp_pairs g2 b (List.mem_mergeSort.mp hb))
    rw [em] at rr
    exact owl_new S hp' rr c q
end
end DL
namespace DL
open PySem PySem.Spec PyProof.Rows L2 PySem.DLx LamX
variable [Tn]
/-! list({pair of int tuples: True for ..}) as a wish -/
theorem dkp_nt {P : Program} {w : World} {D : Addr} {L : List (PK2 × Addr)} : NT (DKP P w D L) := fun ps z => by
  have z' : HO.ext _ = HO.tbl ps := z
  cases z'
theorem heap_of : ∀ n : Nat, ∃ h : Heap, h.objs.size = n
  | 0 => ⟨⟨#[], {}⟩, rfl⟩
  | n + 1 => by
    obtain ⟨h, e⟩ := heap_of n
    exact ⟨h.push { cls := .none, data := .fields #[] }, by rw [Heap.size_push, e]⟩
/-- it is no code object -/
theorem dkp_code {P : Program} {w : World} {D : Addr} {L : List (PK2 × Addr)} {q : Str} : DKP P w D L ≠ CodeO D q := fun z => by
  obtain ⟨h, hs⟩ := heap_of D
  let oc : Obj := { cls := .none, data := .fields #[.none, .str q 0] }
  have at_ : (h.push oc).get? D = some oc := by rw [← hs]; exact Heap.get?_push_size _ rfl
  unfold DKP CodeO at z
  injection z with z1
  have c : (fun h : Heap => ∃ (oc : Obj) (vs : Array Value) (t : Tok), h.get? D = some oc ∧ oc.data = .fields vs ∧ vs[1]? = some (.str q t)) (h.push oc) := ⟨oc, _, 0, at_, rfl, rfl⟩
  rw [← z1] at c
  obtain ⟨_, o, es, ep, e1, _, e2, _⟩ := c
  rw [at_] at e1
  cases e1
  cases e2
theorem Tb.poke {M H : Hp} (t : Tb M H) {a : Addr} {o u : HO} (ha : H a = some u) (hn : NT u) (hc : ∀ q, u ≠ CodeO a q) : Tb M (upd H a o) := ⟨fun p hp => by
  obtain ⟨ps, h1, h2, h3⟩ := t.1 p hp
  refine ⟨ps, by rw [upd_ne (fun z => by rw [z, ha] at h1; exact hn ps (Option.some.inj h1))]; exact h1, h2, fun pos cv hcv => ?_⟩
  obtain ⟨c, e, h4⟩ := h3 pos cv hcv
  refine ⟨c, e, ?_⟩
  rw [upd_ne (fun z => by rw [z, ha] at h4; exact hc _ (Option.some.inj h4))]
  exact h4, t.2⟩
section
variable {K : Fg} {Z : Xt} {pn : Option Addr} {As : List Addr} {H0 : Ent} {M M' H H' : Hp} {σ : L2.St} {Γ : List SA} {O : Own} {n m : Nat}
theorem Sta.poke (S : Sta K Z pn As H0 M H σ Γ O n) {p : Addr} {o u : HO} (hM : M p = none) (h0 : H0 p = none) (hpn : some p ≠ pn) (hAs : p ∉ As) (hw : H p = some u) (hn : NT u) (hc : ∀ q, u ≠ CodeO p q) : Sta K Z pn As H0 M (upd H p o) σ Γ O n := by
  refine ⟨⟨fun a u h => ?_, ⟨fun b o h1 h2 h3 => ?_, fun b h => upd_live (S.gr.live b h)⟩, S.tb.poke hw hn hc, fun q hq => ?_⟩, fun j a ds h1 h2 => ?_, fun a h => upd_live (S.live a h), fun a h => ⟨(S.pr a h).1, upd_live (S.pr a h).2.1, (S.pr a h).2.2⟩, S.nd, S.len, S.sl, S.ok, S.em, S.xo⟩
  · rw [upd_ne (ne_of_none h hM)]; exact S.ex a u h
  · rw [upd_ne (ne_of_none h2 h0)]; exact S.gr.ext b o h1 h2 h3
  · obtain ⟨h1, h2⟩ := S.pen q hq
    exact ⟨h1, h2.mono (Evl.Ex.refl _) (by rw [upd_ne (fun z => hpn (by rw [← z, hq]))]) (Nat.le_refl _)⟩
  · obtain ⟨h3, h4, h5, h6⟩ := S.own j a ds h1 h2
    exact ⟨h3, h4, h5, h6.mono (Evl.Ex.refl _) (upd_ne (fun z => hAs (by rw [← z]; exact List.mem_of_getElem? h1)))⟩
theorem Gr.apartO {x : Option Addr} {H0 H : Hp} {a : Addr} {o : HO} (g : Gr x H0 H) (hw : H a = some o) : Gr x (upd H0 a o) H := by
  refine ⟨fun b u h1 h2 n => ?_, fun b h => ?_⟩
  · by_cases hb : b = a
    · rw [hb, upd_same] at h2; rw [hb, hw]; exact h2
    · rw [upd_ne hb] at h2; exact g.ext b u h1 h2 n
  · by_cases hb : b = a
    · rw [hb, hw]; exact fun z => nomatch z
    · rw [upd_ne hb] at h; exact g.live b h
/-- what is being made is kept apart: it stands, unfrozen -/
theorem Sta.apartO (T : Sta K Z pn As H0 M H σ Γ O n) {D : Addr} {o : HO} (hAs : D ∉ As) (h0 : H0 D = none) (h1 : M D = none) (h2 : H D = some o) : Sta K Z pn As ⟨upd H0.h D o, fun a => H0.P a ∨ a = D, H0.m⟩ M H σ Γ O n := by
  refine ⟨⟨T.ex, T.gr.apartO h2, T.tb, T.pen⟩, fun j a ds g1 g2 => ?_, T.live, fun a g => ?_, T.nd, T.len, T.sl, T.ok, T.em, T.xo.sub (H1 := ⟨_, _, _⟩) (Gr.of (Evl.Ex.new h0)) (Evl.Ex.refl _) (fun _ h => .inl h)⟩
  · obtain ⟨g3, g4, g5⟩ := T.own j a ds g1 g2
    have ha : a ≠ D := fun z => hAs (z ▸ List.mem_of_getElem? g1)
    exact ⟨g3, (upd_ne ha).trans g4, g5⟩
  · rcases g with g | g
    · exact ⟨(T.pr a g).1, (T.pr a g).2.1, upd_live (T.pr a g).2.2⟩
    · subst g; exact ⟨h1, (by rw [h2]; exact fun z => nomatch z), upd_live'⟩
theorem Sta.backO {D : Addr} {o : HO} (T : Sta K Z pn As ⟨upd H0.h D o, fun a => H0.P a ∨ a = D, H0.m⟩ M H σ Γ O n) (hpn : some D ≠ pn) (hAs : D ∉ As) (h0 : H0 D = none) (hP : ¬ H0.P D) (hn : NT o) (xo : XOk K Z pn H0) :
    Sta K Z pn As H0 M H σ Γ O n ∧ M D = none ∧ H D = some o := by
  refine ⟨⟨⟨T.ex, (Gr.of (Evl.Ex.new h0)).trans T.gr, T.tb, T.pen⟩, fun j a ds g1 g2 => ?_, T.live, fun a g => ⟨(T.pr a (.inl g)).1, (T.pr a (.inl g)).2.1, fun z => (T.pr a (.inl g)).2.2 ((upd_ne (show a ≠ D from fun y => hP (y ▸ g))).trans z)⟩, T.nd, T.len, T.sl, T.ok, T.em, xo⟩, (T.pr D (.inr rfl)).1, T.gr.ext D _ hpn upd_same hn⟩
  obtain ⟨g3, g4, g5⟩ := T.own j a ds g1 g2
  have ha : a ≠ D := fun z => hAs (z ▸ List.mem_of_getElem? g1)
  exact ⟨g3, (upd_ne (H := H0.h) (o := o) ha).symm.trans g4, g5⟩
def pkD (k : PK2) : DV := .tup [.tup (k.1.map DV.int), .tup (k.2.map DV.int)]
def putK2 (acc : List PK2) (k : PK2) : List PK2 := if k ∈ acc then acc else acc ++ [k]
theorem pair_rp (e : Ex M H) {a : Addr} {k : PK2} (r : Rp K M (.ref a) (pkD k)) : PairT K H a k := by
  obtain ⟨a', vs, ea, g1, g2⟩ := r.tup'
  cases ea
  obtain ⟨u, v, rfl, r1, r2⟩ := g2.two
  obtain ⟨b, xs, rfl, g3, g4⟩ := r1.tup'
  obtain ⟨c, ys, rfl, g5, g6⟩ := r2.tup'
  rw [g4.ints] at g3
  rw [g6.ints] at g5
  exact ⟨b, c, Evl.ex_t e g1, Evl.ex_t e g3, Evl.ex_t e g5⟩
theorem put_fst {L : List (PK2 × Addr)} {k : PK2} {a : Addr} : (putP L k a).map (·.1) = putK2 (L.map (·.1)) k := by
  unfold putP putK2
  split
  · rfl
  · simp
theorem wl_listDc {P : Program} {w : World} {wi : TI} {g : TG} {tk : TE} {vs : List Nat} {k : List DV → Nat → Prop}
    (h : SW K Z wi Γ O n fun xs n1 => xs.length ≤ 100000 ∧ ∃ I : Nat → List PK2 → Nat → Prop, I 0 [] n1 ∧
      (∀ (i : Nat) (x : DV) (acc : List PK2) (n2 : Nat), xs[i]? = some x → I i acc n2 → GW K g vs x (wipeG Γ vs) fun Γ2 => W K Z tk Γ2 O n2 fun y n3 => ∃ kk, y = pkD kk ∧ I (i + 1) (putK2 acc kk) n3) ∧ ∀ acc n2, I xs.length acc n2 → k (acc.map pkD) n2) :
    WL K Z (tCB (rListP P w) (tCons (tDcP K P w wi g tYes tk (tC (.bl true)) vs) tNil)) Γ O n k := fun pn As H0 M H σ S Q c =>
  h pn As H0 M H σ S _ fun J M1 H1 xs n1 e1 S1 it ⟨hz, I, i0, step, fin⟩ => fun D hD => by
    have hDM : M1 D = none := Evl.fresh_back S1.ex hD
    have h0D : H0 D = none := S1.gr.back hD
    have hpn : some D ≠ pn := fun z => by
      obtain ⟨_, _, _, _, _, h3, _⟩ := S1.pen D z.symm
      rw [hD] at h3; cases h3
    have hAs : D ∉ As := fun z => S1.live D z hD
    have hP : ¬ H0.P D := fun z => (S1.pr D z).2.1 hD
    -- what is known of the dict
    let Kn : Hp → List (PK2 × Addr) → Prop := fun M L => ∀ x ∈ L, Rp K M (.ref x.2) (pkD x.1)
    have kmono : ∀ {M M' : Hp} {L : List (PK2 × Addr)}, Ex M M' → Kn M L → Kn M' L := fun e q x hx => (q x hx).mono e
    refine ⟨fun i m H' => m = xs.length - i ∧ i ≤ xs.length ∧ ∃ M' L n2, Ex M1 M' ∧ Sta K Z pn As H0 M' H' σ Γ O n2 ∧ M' D = none ∧ H' D = some (DKP P w D L) ∧ Kn M' L ∧ L.length ≤ i ∧ I i (L.map (·.1)) n2,
      ⟨xs.length, by simp, Nat.zero_le _, M1, [], n1, Evl.Ex.refl M1, S1.lay hD, hDM, upd_same, (fun _ hx => (nomatch hx)), Nat.le_refl _, i0⟩, ?_⟩
    rintro i m H' ⟨rfl, hi, M', L, n2, e2, S2, hD2, hw, kn2, hl2, p2⟩
    by_cases hlt : i < xs.length
    · have S2' := S2.apartO hAs h0D hD2 hw
      obtain ⟨gd, sd⟩ := it Z pn As _ M' H' σ Γ O n2 e2 S2' i
      have hx : xs[i]? = some xs[i] := by simp [hlt]
      obtain ⟨g1, g2⟩ := gd _ hx
      refine .inr ⟨g1, fun H'' => i + 1 ≤ xs.length ∧ ∃ M' L n2, Ex M1 M' ∧ Sta K Z pn As H0 M' H'' σ Γ O n2 ∧ M' D = none ∧ H'' D = some (DKP P w D L) ∧ Kn M' L ∧ L.length ≤ i + 1 ∧ I (i + 1) (L.map (·.1)) n2,
        fun H'' q => ⟨xs.length - (i + 1), by omega, rfl, q⟩, fun z H3 hy => ?_⟩
      obtain ⟨M3, e3, S3, r3⟩ := g2 z H3 hy
      refine step i _ _ n2 hx p2 Z pn As _ M3 H3 (wipe σ vs) O n2 (S3.wiped vs) z r3 _ fun σ4 Γ4 S4 w4 q4 => ⟨w4.trans (wipe_wipe vs), ?_⟩
      unfold tYes tC
      dsimp only
      rw [if_pos rfl]
      refine q4 pn As _ M3 H3 σ4 S4 _ fun u M7 H7 y n7 e7 S7 r7 ⟨kk, ey, q7⟩ => ?_
      subst ey
      obtain ⟨ad, vs', eu, _, _⟩ := id r7.tup'
      subst eu
      obtain ⟨S8, d8, h8⟩ := (S7.swap S3 e7).backO hpn hAs h0D hP dkp_nt S1.xo
      have e37 : Ex M' M7 := Evl.Ex.trans e3 e7
      have kn7 : Kn M7 L := kmono e37 kn2
      refine ⟨rfl, L, kk, ad, rfl, pair_rp S8.ex r7, h8, fun x hx => pair_rp S8.ex (kn7 x hx), Evl.sz_lt (by omega), hlt, M7, putP L kk ad, n7, Evl.Ex.trans e2 e37, S8.poke d8 h0D hpn hAs h8 dkp_nt (fun _ => dkp_code), d8, upd_same, ?_, ?_, ?_⟩
      · intro x hx
        unfold putP at hx
        split at hx
        · exact kn7 x hx
        · rcases List.mem_append.mp hx with hx | hx
          · exact kn7 x hx
          · rw [List.mem_singleton] at hx; subst hx; exact r7
      · unfold putP
        split
        · omega
        · rw [List.length_append]; simp; omega
      · rw [put_fst]; exact q7
    · have e : i = xs.length := by omega
      subst e
      obtain ⟨_, sd⟩ := it Z pn As H0 M' H' σ Γ O n2 e2 S2 xs.length
      refine .inl ⟨sd (Nat.le_refl _), D, L, rfl, hw, Evl.sz_of (by omega), fun p hp => ?_⟩
      have rr : RpL K M' (L.map fun x => V.ref x.2) ((L.map (·.1)).map pkD) := by
        rw [List.map_map]
        have : ∀ {L : List (PK2 × Addr)}, Kn M' L → RpL K M' (L.map fun x => V.ref x.2) (L.map (pkD ∘ (·.1))) := by
          intro L
          induction L with
          | nil => intro _; exact .nil
          | cons x L ih => intro hk; exact .cons (hk x (by simp)) (ih fun y hy => hk y (by simp [hy]))
        exact this kn2
      exact wl_new S2 hp rr (fun p vs M4 H4 ds n4 e4 => c p vs M4 H4 ds n4 (Evl.Ex.trans (Evl.Ex.trans e1 e2) e4)) (fin _ _ p2)
end
end DL
namespace DL
open PySem PySem.Spec PyProof.Rows L2 PySem.DLx LamX StX
variable [Tn]
/-! further wishes: [*xs, ..], x in strings, tuples of the text, dicts told by keys, tuples repeated and cut -/
section
variable {K : Fg} {Z : Xt} {pn : Option Addr} {As : List Addr} {H0 : Ent} {M M' H H' : Hp} {σ : L2.St} {Γ : List SA} {O : Own} {n m : Nat} {te ta tb : TE} {x y : DV}
theorem wa_star {t : TA} {k : List DV → Nat → Prop} (h : W K Z te Γ O n fun d n1 => ∃ ds, (d = .lst ds ∨ d = .tup ds) ∧ WA K Z t Γ O n1 fun es n2 => k (ds ++ es) n2) : WA K Z (tStar K te t) Γ O n k := by
  intro pn As H0 M H σ S Q c
  refine h pn As H0 M H σ S _ fun v M1 H1 d n1 e1 S1 r1 ⟨ds, e, q⟩ => ?_
  rcases e with rfl | rfl
  · obtain ⟨a, vs, rfl, g1, g2⟩ := r1.lst'
    exact ⟨a, vs, rfl, .inr (.inl (.inl (S1.ex _ _ g1))), q pn As H0 M1 H1 σ S1 _ fun us M2 H2 es n2 e2 S2 r2 => c (vs ++ us) M2 H2 (ds ++ es) n2 (Evl.Ex.trans e1 e2) S2 ((g2.mono e2).append r2)⟩
  · obtain ⟨a, vs, rfl, g1, g2⟩ := r1.tup'
    exact ⟨a, vs, rfl, .inl (Evl.ex_t S1.ex g1), q pn As H0 M1 H1 σ S1 _ fun us M2 H2 es n2 e2 S2 r2 => c (vs ++ us) M2 H2 (ds ++ es) n2 (Evl.Ex.trans e1 e2) S2 ((g2.mono e2).append r2)⟩
theorem RpL.strs : ∀ {ns : List Str} {vs : List V}, RpL K M vs (ns.map DV.str) → vs = ns.map V.str
  | [], _, h => by cases h; rfl
  | n :: ns, _, h => by
    cases h with
    | cons a b => cases a; rw [RpL.strs b]; rfl
theorem RpL.of_strs : ∀ (ns : List Str), RpL K M (ns.map V.str) (ns.map DV.str)
  | [] => .nil
  | n :: ns => .cons (.str n) (RpL.of_strs ns)
theorem inV_strs (s : Str) : ∀ ns : List Str, inV (.str s) (ns.map V.str) = decide (s ∈ ns)
  | [] => by simp [inV]
  | n :: ns => by
    have ih := inV_strs s ns
    unfold inV at ih ⊢
    rw [List.map_cons, List.any_cons, ih]
    show (n == s || decide (s ∈ ns)) = _
    by_cases h : n = s
    · simp [h]
    · have h' : ¬ s = n := fun z => h z.symm
      simp [h, h']
/-- s in (texts) -/
theorem ow_inS {s : Str} {ns : List Str} {k : DV → Prop} (hy : y = .tup (ns.map DV.str) ∨ y = .lst (ns.map DV.str)) (q : k (.bl (decide (s ∈ ns)))) : OW K (rIn K false) (.str s) y k := by
  intro Z pn As H0 M H σ Γ O n S v w rv rw' Q c
  cases rv
  have fl : (ns.map V.str).all flatV = true := by
    rw [List.all_eq_true]
    intro z hz
    obtain ⟨t, _, rfl⟩ := List.mem_map.mp hz
    rfl
  rcases hy with rfl | rfl
  · obtain ⟨a, vs, rfl, g1, g2⟩ := rw'.tup'
    rw [g2.strs] at g1
    refine ⟨a, _, rfl, .inr (Evl.ex_t S.ex g1), rfl, fl, ?_⟩
    rw [if_neg Bool.false_ne_true, inV_strs]
    exact c _ M H _ (Evl.Ex.refl M) S (.bl _) q
  · obtain ⟨a, vs, rfl, g1, g2⟩ := rw'.lst'
    rw [g2.strs] at g1
    refine ⟨a, _, rfl, .inl (.inl (.inl (S.ex _ _ g1))), rfl, fl, ?_⟩
    rw [if_neg Bool.false_ne_true, inV_strs]
    exact c _ M H _ (Evl.Ex.refl M) S (.bl _) q
/-- a tuple of texts that the module keeps -/
def KTup (K : Fg) (a : Addr) (ns : List Str) : Prop := ∃ (o : Obj) (its : Array Value) (n : Nat), K.lookup a = some o ∧ o.cls = .type "tuple" ∧ o.data = .seq its n ∧ its.size ≤ sizeLine ∧ Vals (ns.map V.str) its.toList
theorem w_ktup {a : Addr} {ns : List Str} {k : DV → Nat → Prop} (h : KTup K a ns) (q : k (.tup (ns.map DV.str)) n) : W K Z (tC (.ref a)) Γ O n k :=
  w_cv (fun M => .tup (.inr h) (RpL.of_strs ns)) q
/-- a slice of a tuple -/
theorem w_slT {tl th : TO} {k : DV → Nat → Prop} (h : W K Z te Γ O n fun d n1 => ∃ ds, d = .tup ds ∧ WO K Z tl Γ O n1 fun lo n2 => WO K Z th Γ O n2 fun hi n3 => k (.tup (cutD ds lo hi)) n3) : W K Z (tSl (rCut K) te tl th) Γ O n k := fun pn As H0 M H σ S Q c =>
  h pn As H0 M H σ S _ fun v M1 H1 d n1 e1 S1 r1 ⟨ds, e, h2⟩ => h2 pn As H0 M1 H1 σ S1 _ fun lo M2 H2 n2 e2 S2 h3 => h3 pn As H0 M2 H2 σ S2 _ fun hi M3 H3 n3 e3 S3 q => by
    subst e
    have r3 := r1.mono (Evl.Ex.trans e2 e3)
    obtain ⟨a, vs, rfl, g1, g2⟩ := id r3.tup'
    have ee := Evl.Ex.trans (Evl.Ex.trans e1 e2) e3
    refine .inr ⟨a, vs, rfl, Evl.ex_t S3.ex g1, fun ⟨w1, w2⟩ => ?_, fun _ p hp => ?_⟩
    · have ew : cutD ds lo hi = ds := by
        unfold cutD
        rw [← g2.length, w1, w2, List.drop_zero, Nat.sub_zero, g2.length, List.take_length]
      have q : k (.tup (cutD ds lo hi)) n3 := q
      rw [ew] at q
      exact c _ M3 H3 _ n3 ee S3 r3 q
    · obtain ⟨ex, S4⟩ := S3.alloc (o := .tup (cutV vs lo hi)) hp
      exact c _ _ _ _ n3 (Evl.Ex.trans ee ex) S4 (.tup (.inl (.inl upd_same)) ((cutV_of lo hi g2).mono ex)) q
/-- (..) * m -/
theorem ow_repT {xs : List DV} {j : Int} {k : DV → Prop} (h1 : 1 ≤ j) (h2 : j ≤ 1000) (hne : xs ≠ []) (hl : xs.length ≤ 1000) (q : k (.tup (List.replicate j.toNat xs).flatten)) : OW K (rTimes K) (.tup xs) (.int j) k := fun Z pn As H0 M H σ Γ O n S v w rv rw Q c => by
  obtain ⟨a, vs, rfl, g1, g2⟩ := id rv.tup'
  cases rw
  by_cases e : j = 1
  · subst e
    have e1 : (List.replicate (1 : Int).toNat xs).flatten = xs := by simp
    rw [e1] at q
    exact .inr (.inr (.inr ⟨a, vs, rfl, rfl, Evl.ex_t S.ex g1, c _ M H _ (Evl.Ex.refl M) S rv q⟩))
  · refine .inr (.inr (.inl ⟨a, j, vs, rfl, rfl, Evl.ex_t S.ex g1, ?_, by omega, h2, by rw [g2.length]; exact hl, fun p hp => ?_⟩))
    · intro z
      subst z
      cases g2
      exact hne rfl
    · obtain ⟨ex, S2⟩ := S.alloc (o := .tup (List.replicate j.toNat vs).flatten) hp
      exact c _ _ _ _ ex S2 (.tup (.inl (.inl upd_same)) ((g2.flat _).mono ex)) q
/-- {'n': a, 'k': b, 's': c}, the values variables -/
theorem w_disp3 {k1 k2 k3 : Str} {i1 i2 i3 : Nat} {d1 d2 d3 : DV} {k : DV → Nat → Prop} (h12 : k1 ≠ k2) (h13 : k1 ≠ k3) (h23 : k2 ≠ k3) (g1 : Γ[i1]? = some (.is d1)) (g2 : Γ[i2]? = some (.is d2)) (g3 : Γ[i3]? = some (.is d3)) (q : k (.dic [.inr k1, .inr k2, .inr k3] [d1, d2, d3]) n) :
    W K Z (tDisp [(tC (.str k1), tVar i1), (tC (.str k2), tVar i2), (tC (.str k3), tVar i3)]) Γ O n k := by
  intro pn As H0 M H σ S Q c p hp
  obtain ⟨v1, a1, r1⟩ := S.slot g1
  obtain ⟨v2, a2, r2⟩ := S.slot g2
  obtain ⟨v3, a3, r3⟩ := S.slot g3
  refine ⟨v1, a1, v2, a2, v3, a3, upd_same, [(.inr k1, v1), (.inr k2, v2), (.inr k3, v3)], rfl, by show 3 ≤ 15; decide, ?_⟩
  have em : mergeK [] [((.inr k1 : Key), v1), (.inr k2, v2), (.inr k3, v3)] = [(.inr k1, v1), (.inr k2, v2), (.inr k3, v3)] := by
    have n12 : ¬ ((Sum.inr k1 : Key) = .inr k2) := fun z => h12 (Sum.inr.inj z)
    have n13 : ¬ ((Sum.inr k1 : Key) = .inr k3) := fun z => h13 (Sum.inr.inj z)
    have n23 : ¬ ((Sum.inr k2 : Key) = .inr k3) := fun z => h23 (Sum.inr.inj z)
    simp [mergeK, putK, h12, h13, h23]
  rw [em]
  have eH : upd (upd H p (.dK [])) p (.dK [((.inr k1 : Key), v1), (.inr k2, v2), (.inr k3, v3)]) = upd H p (.dK [(.inr k1, v1), (.inr k2, v2), (.inr k3, v3)]) := by
    funext z
    by_cases hz : z = p
    · subst hz; rw [upd_same, upd_same]
    · rw [upd_ne hz, upd_ne hz, upd_ne hz]
  rw [eH]
  obtain ⟨ex, S2⟩ := S.alloc (o := .dK [((.inr k1 : Key), v1), (.inr k2, v2), (.inr k3, v3)]) hp
  exact c _ _ _ _ n ex S2 (.dic (kvs := [((.inr k1 : Key), v1), (.inr k2, v2), (.inr k3, v3)]) upd_same rfl ((RpL.cons r1 (.cons r2 (.cons r3 .nil))).mono ex)) q
theorem rp_val {M : Hp} {kk : Key} {d : DV} : ∀ {kvs : List (Key × V)} {ds : List DV}, RpL K M (kvs.map (·.2)) ds → ((kvs.map (·.1)).zip ds).find? (fun z => decide (z.1 = kk)) = some (kk, d) → ∃ v, valV kvs kk = some v ∧ Rp K M v d
  | [], _, h, e => by cases h; simp at e
  | (g, y) :: kvs, _, h, e => by
    cases h with
    | cons a b =>
      rw [List.map_cons, List.zip_cons_cons, List.find?_cons] at e
      by_cases hg : g = kk
      · simp only [hg, decide_true] at e
        cases e
        exact ⟨y, valV_pos hg, a⟩
      · simp only [hg, decide_false] at e
        obtain ⟨v, h1, h2⟩ := rp_val b e
        exact ⟨v, by rw [valV_neg (p := (g, y)) hg]; exact h1, h2⟩
/-- d['k'] -/
theorem w_dget {k1 : Str} {k : DV → Nat → Prop} (h : W K Z te Γ O n fun d n1 => ∃ ks ds x, d = .dic ks ds ∧ (ks.zip ds).find? (fun z => decide (z.1 = (.inr k1 : Key))) = some (.inr k1, x) ∧ k x n1) : W K Z (tDGet te (tC (.str k1))) Γ O n k := by
  intro pn As H0 M H σ S Q c
  refine h pn As H0 M H σ S _ fun v M1 H1 d n1 e1 S1 r1 ⟨ks, ds, x, ed, hf, q⟩ => ?_
  subst ed
  cases r1 with
  | @dic a kvs _ _ g1 g2 g3 =>
    rw [← g2] at hf
    obtain ⟨y, h1, h2⟩ := rp_val g3 hf
    refine ⟨a, y, rfl, ?_, c y M1 H1 x n1 e1 S1 h2 q⟩
    have z := DGet.k (k := (.inr k1 : Key)) (S1.ex _ _ g1)
    rw [h1] at z
    exact z
end
end DL
namespace DL
open PySem PySem.Spec PyProof.Rows L2 LamX
variable [Tn]
/-! defs that make lambdas: their code object is known; numbers of the module -/
structure AtC (K : Fg) (mg : Str → Option Value) (x : Str) (st : Stmt) (ps : List Str) (c : Addr) : Prop where
  ex : ∃ (f : Addr) (oc : Value) (od : Option Addr) (kV doc pm : Value) (an : Option Addr) (ct : Value) (osl : Array (Option Value)), K.lookup f = some ⟨oc, od, .func (PySem.W.fnOf x x (defArgs st) (defBody st) (defScope st) .none kV doc pm an (.ref c) ct), osl⟩ ∧
    PySem.W.codeIn K (.ref c) x = true ∧ PySem.W.keepIn K (.ref f) = true ∧ mg x = some (.ref f) ∧ Binds K (PySem.W.fnOf x x (defArgs st) (defBody st) (defScope st) .none kV doc pm an (.ref c) ct) ps []
section
variable {P : Program} {w : World} {K : Fg} {mg : Str → Option Value} {base : Heap} {x : Str} {st : Stmt} {ps N : List Str} {sp : Sp} {k : Nat} {c : Addr}
theorem AtC.at_ (A : AtC K mg x st ps c) : At K mg x st ps := by
  obtain ⟨f, oc, od, kV, doc, pm, an, ct, osl, lk, hc, kp, hm, bi⟩ := A.ex
  exact ⟨f, _, ⟨⟨oc, od, kV, doc, pm, an, .ref c, ct, osl, rfl, lk, hc⟩, kp⟩, hm, bi⟩
theorem fnG_at {CX : CXT} {f : Addr} {oc : Value} {od : Option Addr} {qual : Str} {kV doc pm cdv ct : Value} {an : Option Addr} {osl : Array (Option Value)} (lk : K.lookup f = some ⟨oc, od, .func (PySem.W.fnOf x qual (defArgs st) (defBody st) (defScope st) .none kV doc pm an cdv ct), osl⟩)
    (hcd : PySem.W.codeIn K cdv qual = true) (S : FnScope N ps (defScope st)) (len : ∀ vs H Q E, sp vs H Q E → vs.length = ps.length)
    (hb : ∀ (A : Around) (outer : List Env) (s : Shared) (H : Hp) (vs : List V) (Q : VK) (E : XK), Room k (A.deeper (envOfC qual (defScope st) s.heap.objs.size f cdv)) → A.guards = some [] → sp vs H Q E →
      ∃ t, PSs (cxOf CX P w K mg base N qual (defScope st) f cdv A outer s H E) (defBody st) t ∧ t { nx := fun _ H' => Q .non H', rt := Q } (start N vs) H) : FnG P w K mg base CX (k + 1) f (PySem.W.fnOf x qual (defArgs st) (defBody st) (defScope st) .none kV doc pm an cdv ct) ps sp := by
  constructor
  · exact len
  intro A outer s H args us vs Q E hr hG e0 hbi rv hsp
  have KX : K.In s.heap := e0.mod.kin.keeps fun b o z => (e0.bs b o z).1
  have lim : s.heap.NoLimit := e0.mod.nolimit.keeps fun b o z => (e0.bs b o z).1
  apply codeAny_call_function hr.depth (KX _ _ lk) rfl S.co S.gen rfl (PySem.W.codeRec_of KX hcd)
  apply hbi
  apply wpAny_newFunctionEnv_cells S.kind
  · rintro ⟨y, u⟩ hy
    rcases S.par y (List.of_mem_zip hy).1 with q | q
    · exact Or.inl q
    · exact Or.inr ⟨q, PySem.W.cellsFrom_some _ _ _ (Or.inl q)⟩
  intro env he s1 hx
  subst he
  refine ⟨lim.keeps hx.toInCall.keep, codeAny_func ?_⟩
  obtain ⟨t, ht, hq⟩ := hb A outer s H vs Q E (hr.deeper _) hG hsp
  have I0 := inv_start (E := E) (CX := CX) S hr.hd e0 (len _ _ _ _ hsp) rv hx
  apply wpAny_mono (ht.run [] s1 _ H _ I0 hq)
  · intro fl s2 h2
    cases fl with
    | ret u =>
      obtain ⟨z, τ, H2, J, r2, q2⟩ := h2
      exact ⟨z, H2, J.os, J.bare, J.base, J.hok, r2, q2⟩
    | next =>
      obtain ⟨τ, H2, J, q2⟩ := h2
      exact ⟨V.non, H2, J.os, J.bare, J.base, J.hok, rfl, q2⟩
    | brk =>
      obtain ⟨_, _, _, q2⟩ := h2
      exact q2.elim
    | cont =>
      obtain ⟨_, _, _, q2⟩ := h2
      exact q2.elim
  · exact fun e s2 h2 => h2
theorem AtC.has (A : AtC K mg x st ps c) (S : FnScope N ps (defScope st)) (len : ∀ vs H Q E, sp vs H Q E → vs.length = ps.length)
    (hb : ∀ (f : Addr) (A : Around) (outer : List Env) (s : Shared) (H : Hp) (vs : List V) (Q : VK) (E : XK), Room k (A.deeper (envOfC x (defScope st) s.heap.objs.size f (.ref c))) → A.guards = some [] → sp vs H Q E →
      ∃ t, PSs (cxOf CX0 P w K mg base N x (defScope st) f (.ref c) A outer s H E).nox (defBody st) t ∧ t { nx := fun _ H' => Q .non H', rt := Q } (L2.start N vs) H) : Has P w K mg base (k + 1) x st ps sp := by
  obtain ⟨f, oc, od, kV, doc, pm, an, ct, osl, lk, hc, kp, hm, bi⟩ := A.ex
  refine ⟨f, _, ⟨⟨oc, od, kV, doc, pm, an, .ref c, ct, osl, rfl, lk, hc⟩, kp⟩, hm, bi, fnG_at lk hc S len fun A outer s H vs Q E hr hG h => ?_⟩
  obtain ⟨t, h1, h2⟩ := hb f A outer s H vs Q E hr hG h
  exact ⟨t, h1.nox, h2⟩
/-- an own __init__ that may raise -/
theorem hasI_of {C f : Addr} {qual : Str} {fd : FuncData} (M : Mk K C f) (F : Fun K "__init__" qual st f fd) (bi : Binds K fd ps []) (S : FnScope N ps (defScope st)) (len : ∀ vs H Q E, sp vs H Q E → vs.length = ps.length)
    (hb : ∀ (cdv : Value) (A : Around) (outer : List Env) (s : Shared) (H : Hp) (vs : List V) (Q : VK) (E : XK), Room k (A.deeper (envOfC qual (defScope st) s.heap.objs.size f cdv)) → A.guards = some [] → sp vs H Q E →
      ∃ t, PSs (cxOf (L2.CX P w) P w K mg base N qual (defScope st) f cdv A outer s H E) (defBody st) t ∧ t { nx := fun _ H' => Q .non H', rt := Q } (L2.start N vs) H) : HasI P w K mg base (k + 1) C qual st ps sp :=
  ⟨f, fd, M, F, bi, fnG_fun F S len hb⟩
end
/-- the name of a lambda that the def f makes -/
abbrev lamQ (f : Str) : Str := (f ++ (".<locals>." : Str)) ++ ("<lambda>" : Str)
theorem u8 {A : Around} (h : A.units + 64 < cLine) : A.units + 8 < cLine := by omega
theorem u1 {A : Around} (h : A.units + 64 < cLine) : A.units + 1 < cLine := by omega
section
variable {X : Cx} {x : Str} {i : Int} {pos : Pos} {a : Addr} {c P : Addr}
theorem pe_gint (h : ∃ t, X.mg x = some (.int i t)) (hg : Gl X x := by rfl) (hd : (x == ("__debug__" : Str)) = false := by decide) : PE X (.Name x pos) (tC (.int i)) := by
  obtain ⟨t, h⟩ := h
  exact pe_glob hg h ⟨t, rfl⟩ hd
theorem lamAt_of (T : TabB X.base X.mg c P) (hc : X.env.code = .ref c) (hm : (P, lamN X) ∈ Tn.T) : LamAt X := ⟨c, P, T, hc, hm⟩
end
end DL
namespace DL
open PySem PySem.Spec PyProof.Rows L2 LamX
variable [Tn]
/-! the law's own pick: an item of a list, one's own or not -/
def spPk (K : Fg) : Sp := fun vs H Q _ => ∃ (p a : Addr) (us : List V) (M : Hp) (n : Nat), vs = [.ref p, .ref a] ∧ Ex M H ∧ Tb M H ∧ M p = none ∧ PenAt K M H p n ∧ n + 1 ≤ 1000000 ∧ H a = some (.lst us) ∧ a ≠ p ∧ us ≠ [] ∧ us.length ≤ 100000 ∧
  ∀ v M' H' (i : Nat), Ex M M' → Gr (some p) H H' → Ex M' H' → Tb M' H' → Thaw M H M' → PenAt K M' H' p (n + 1) → us[i]? = some v → Q v H'
section
variable {K : Fg} {Z : Xt} {H : Hp} {Q : VK} {E : XK} {vs : List V} {Γ : List SA} {O : Own} {n : Nat}
theorem body_pick {D : Ends} (h : spPk K vs H D.rt E) : tRet (tOp (rIx K) (tVar 1) (tCall (sp_draw K) [] E0 (tCons (tVar 0) (tCons (tCB (rLenA K) (tCons (tVar 1) tNil)) tNil)))) D (L2.start ["pen", "some"] vs) H := by
  obtain ⟨p, a, us, M, n, rfl, ex, tb, mp, pen, hn, ha, hap, hne, hz, c⟩ := h
  have hq : SqL K H a us := .inl (.inl ha)
  have st : L2.start ["pen", "some"] [V.ref p, .ref a] = [some (.ref p), some (.ref a)] := rfl
  rw [st]
  have lenpos : 1 ≤ us.length := by
    cases us with
    | nil => exact absurd rfl hne
    | cons _ _ => simp
  refine ⟨.ref a, rfl, .ref p, rfl, .ref a, rfl, .inl ⟨a, us, rfl, .inl hq, ?_⟩⟩
  show sp_draw K ([V.ref p, .int us.length] ++ []) H (fun y H2 => rIx K (.ref a) y H2 D.rt) E0
  rw [List.append_nil]
  refine ⟨p, [.int (us.length : Int)], M, n, (us.length : Int), ⟨by omega, ?_⟩, rfl, ex, tb, mp, pen, hn, .cons (.int _) .nil, ?_⟩
  · have : ((us.length : Int)).natAbs = us.length := by omega
    rw [this]
    exact Nat.lt_of_le_of_lt hz (Nat.lt_of_lt_of_le (by decide : 100000 < 2 ^ 17) (Nat.pow_le_pow_right (by decide) (by decide)))
  · rintro v M' H' d e1 gr ex' tb' th pen' r ⟨x, rfl, h0, h1⟩
    cases r
    have ha' : H' a = some (.lst us) := gr.ext a _ (fun z => hap (Option.some.inj z)) ha nt_lst
    obtain ⟨i, rfl⟩ : ∃ i : Nat, x = (i : Int) := ⟨x.toNat, by omega⟩
    have hi : i < us.length := by omega
    obtain ⟨w, hw⟩ : ∃ w, us[i]? = some w := ⟨us[i], List.getElem?_eq_getElem hi⟩
    exact .inl ⟨a, us, i, w, rfl, rfl, .inl (.inl ha'), atI_nat hw, c w M' H' i e1 gr ex' tb' th pen' hw⟩
/-- one of a list that is data -/
theorem w_pick {i : Nat} {tl : TE} {k : DV → Nat → Prop} (hi : Γ[i]? = some .pen) (h : W K Z tl Γ O n fun d n1 => ∃ ds : List DV, d = .lst ds ∧ ds ≠ [] ∧ ds.length ≤ 100000 ∧ n1 + 1 ≤ 1000000 ∧ ∀ x ∈ ds, k x (n1 + 1)) :
    W K Z (tCall (spPk K) [] E (tCons (tVar i) (tCons tl tNil))) Γ O n k := fun pn As H0 M H σ S Q c => by
  obtain ⟨p, h1, hpn⟩ := S.slotPen hi
  refine ⟨_, h1, h pn As H0 M H σ S _ fun v M1 H1 d n1 e1 S1 r1 ⟨ds, ed, hne, hl, hn, q⟩ => ?_⟩
  subst ed
  obtain ⟨a, vs, rfl, g1, g2⟩ := r1.lst'
  obtain ⟨g3, g4⟩ := S1.pen p hpn
  refine ⟨p, a, vs, M1, n1, rfl, S1.ex, S1.tb, g3, g4, hn, S1.ex _ _ g1, (fun z => by subst z; rw [g3] at g1; cases g1), (fun z => by subst z; have := g2.length; simp at this; exact hne (List.length_eq_zero_iff.mp this.symm)), by rw [g2.length]; exact hl, ?_⟩
  intro w M' H' j e2 eh ex tb th pen hw
  obtain ⟨x, hx, rx⟩ := g2.get hw
  exact c w M' H' x (n1 + 1) (Evl.Ex.trans e1 e2) (S1.calledP hpn e2 eh ex tb th pen) (rx.mono e2) (q x (List.mem_of_getElem? hx))
/-- one of a list of one's own -/
theorem w_pickOwn {i m j : Nat} {ds : List DV} {k : DV → Nat → Prop} (hi : Γ[i]? = some .pen) (hm : Γ[m]? = some (.own j)) (ho : O[j]? = some (some (.l ds))) (hne : ds ≠ []) (hl : ds.length ≤ 100000) (hn : n + 1 ≤ 1000000) (q : ∀ x ∈ ds, k x (n + 1)) :
    W K Z (tCall (spPk K) [] E (tCons (tVar i) (tCons (tVar m) tNil))) Γ O n k := fun pn As H0 M H σ S Q c => by
  obtain ⟨p, h1, hpn⟩ := S.slotPen hi
  obtain ⟨a, vs, h2, _, g1, g2, _, _, g6⟩ := S.slotOwn hm ho
  obtain ⟨g3, g4⟩ := S.pen p hpn
  refine ⟨_, h1, _, h2, p, a, vs, M, n, rfl, S.ex, S.tb, g3, g4, hn, g1, (fun z => g6 (by rw [z, hpn])), (fun z => by subst z; have := g2.length; simp at this; exact hne (List.length_eq_zero_iff.mp this.symm)), by rw [g2.length]; exact hl, ?_⟩
  intro w M' H' l e2 eh ex tb th pen hw
  obtain ⟨x, hx, rx⟩ := g2.get hw
  exact c w M' H' x (n + 1) e2 (S.calledP hpn e2 eh ex tb th pen) (rx.mono e2) (q x (List.mem_of_getElem? hx))
end
end DL
namespace DL
open PySem PySem.Spec PyProof.Rows L2 NdefX LamX
/-! the law's own call, where defs hold lambdas: their tables stand empty; sys.modules is known to stand -/
abbrev tab0 : Obj := { cls := .none, data := .fields #[] }
section
variable {P : Program} {w : World} {K : Fg} {mg mb : Str → Option Value} {CX : CXT} {k : Nat} {fa a : Addr} {fd : FuncData} {x : Str} {sp : Sp} {z : Shared} {us : List Value} {ns : List Int} {cs : List (Addr × Addr)}
/-- what is tracked at the start: the script (if it is not kept), the tables -/
structure Begin (K : Fg) (z : Shared) (us : List Value) (a : Addr) (cs : List (Addr × Addr)) (H : Hp) : Prop where
  tb : ∀ p ∈ cs, H p.2 = some (.tbl #[])
  all : ∀ b u, H b = some u → (b = a ∧ K.lookup a = none ∧ ∃ o xs, u = .frz o (.lst xs)) ∨ ∃ p ∈ cs, b = p.2
theorem Begin.away {H : Hp} (B : Begin K z us a cs H) (ha : z.heap.get? a = some { cls := .type "list", data := .seq us.toArray }) (hT : ∀ p ∈ cs, z.heap.get? p.2 = some tab0) {b : Addr} {o : Obj} (e : z.heap.get? b = some o) (h1 : o.data ≠ .seq us.toArray) (h2 : o.data ≠ .fields #[]) : H b = none := by
  cases q : H b with
  | none => rfl
  | some u =>
    rcases B.all b u q with ⟨rfl, _⟩ | ⟨p, hp, rfl⟩
    · rw [ha] at e; cases e; exact absurd rfl h1
    · rw [hT p hp] at e; cases e; exact absurd rfl h2
theorem lawT (KX : K.In z.heap) (hns : z.heap.Ns mainGlobals mg) (hb : z.heap.Ns builtinsNs mb) (hbb : ∀ x : Str, x ≠ "__name__" → mb x = bootBuiltins x) (hlim : z.heap.NoLimit) (hsm : ∃ mm, z.heap.Ns sysModules mm) (hgen : z.gens = #[])
    (hT : ∀ p ∈ cs, z.heap.get? p.2 = some tab0) (nT : ∀ p ∈ cs, K.lookup p.2 = none) (hC : ∀ p ∈ cs, PySem.W.codeHdIn K p.1 p.2 = true)
    (hbm : ∃ (bm : Addr) (ob : Obj), mg "__builtins__" = some (.ref bm) ∧ bm ≠ builtinsNs ∧ z.heap.get? bm = some ob ∧ ob.cls = .type "module" ∧ ob.dict = some builtinsNs ∧ ob.data = .plain)
    (ha : z.heap.get? a = some { cls := .type "list", data := .seq us.toArray }) (hi : IntsAre us ns) (hl : ns.length ≤ sizeLine) (hr : Room k callerA)
    (F : ∀ base : Heap, K.In base → base.Ns mainGlobals mg → (∃ o, base.get? sysModules = some o) → (∀ p ∈ cs, TabB base mg p.1 p.2) → FnG P w K mg base CX k fa fd [x] sp) (hbind : ∀ (s : Shared) (u : Value), BindsTo s fd ⟨[u], []⟩ [(x, u)])
    (hsp : ∀ H : Hp, (∀ p ∈ cs, H p.2 = some (.tbl #[])) → SqL K H a (ns.map V.int) → sp [.ref a] H (fun v _ => v = .bl true) fun _ _ _ => False)
    (hCX : ∀ H e s', CX [] H z (fun _ _ _ => False) e s' → False) :
    codeAny (model P w) callerA (.call (.ref fa) ⟨[.ref a], []⟩) (fun r s' => r = .ok (.ret (.bool true)) ∧ OldK z.heap s'.heap ∧ s'.os = z.os ∧ AllBare s'.gens) z := by
  have lenV := hi.length
  have main : ∀ H : Hp, Begin K z us a cs H → SqL K H a (ns.map V.int) → HOk P w H z.heap →
      codeAny (model P w) callerA (.call (.ref fa) ⟨[.ref a], []⟩) (fun r s' => r = .ok (.ret (.bool true)) ∧ OldK z.heap s'.heap ∧ s'.os = z.os ∧ AllBare s'.gens) z := by
    intro H B hS hok
    have nsK : ∀ {b : Addr} {m : Str → Option Value}, z.heap.Ns b m → (hidT z.heap H).Ns b m := by
      rintro b m ⟨o, es, ep, e, d, r⟩
      exact ⟨o, es, ep, hidT_get e (B.away ha hT e (by rw [d]; exact fun y => nomatch y) (by rw [d]; exact fun y => nomatch y)), d, r⟩
    have hKb : K.In (hidT z.heap H) := by
      intro b o e
      refine hidT_get (KX b o e) ?_
      cases q : H b with
      | none => rfl
      | some u =>
        exfalso
        rcases B.all b u q with ⟨rfl, hk, _⟩ | ⟨p, hp, rfl⟩
        · rw [hk] at e; cases e
        · rw [nT p hp] at e; cases e
    obtain ⟨mc, l1, l2⟩ := hlim
    obtain ⟨mm, hmm⟩ := hsm
    have hB : ∃ o, (hidT z.heap H).get? sysModules = some o := by
      obtain ⟨o, es, ep, e, _⟩ := nsK hmm
      exact ⟨o, e⟩
    have gT : ∀ p ∈ cs, mainGlobals ≠ p.2 := fun p hp y => by
      obtain ⟨o, es, ep, e, d, _⟩ := hns
      rw [y, hT p hp] at e
      cases e
      cases d
    have hTB : ∀ p ∈ cs, TabB (hidT z.heap H) mg p.1 p.2 := fun p hp => by
      refine ⟨PySem.W.codeHd_of_K hKb (hC p hp), ?_, gT p hp⟩
      obtain ⟨bm, ob, g1, g2, g3, g4, g5, g6⟩ := hbm
      have hbase := B.away ha hT g3 (by rw [g6]; exact fun y => nomatch y) (by rw [g6]; exact fun y => nomatch y)
      refine ⟨bm, ob, g1, g2, fun y => ?_, fun y => ?_, hidT_get g3 hbase, g4, g5, g6⟩
      · obtain ⟨o, es, ep, e, d, _⟩ := hns
        rw [← y, g3] at e
        cases e
        rw [g6] at d; cases d
      · rw [y, B.tb p hp] at hbase; cases hbase
    have hM : Mod K mg (hidT z.heap H) := ⟨hKb, nsK hns, ⟨mb, nsK hb, hbb⟩, mc, nsK l1, l2⟩
    have e0 : Env0 P w K mg (hidT z.heap H) callerA [] z H := by
      refine ⟨rfl, hM, fun b o e => of_hidT e, Nat.le_of_eq (hidT_size _ _), trivial, ?_, hok, .of_eq hgen⟩
      intro b hb'
      cases hb'
    apply codeAny_mono ((F _ hKb (nsK hns) hB hTB).go callerA [] z H ⟨[.ref a], []⟩ [.ref a] [.ref a] _ _ hr rfl e0 (hbind z (.ref a)) (.cons rfl .nil) (hsp H B.tb hS))
    intro r s' h
    cases r with
    | error e => exact (hCX H e s' h).elim
    | ok fl =>
      cases fl with
      | next => exact h.elim
      | brk => exact h.elim
      | cont => exact h.elim
      | ret u =>
        obtain ⟨v, H', os, bare, un, hok', r', q⟩ := h
        have q' : v = .bl true := q
        subst q'
        have hu : u = Value.bool true := r'
        subst hu
        -- what becomes of a table
        have big : ∀ p ∈ cs, ∃ more : Array Value, s'.heap.get? p.2 = some { cls := .none, data := .fields more } := fun p hp => by
          obtain ⟨more, y⟩ := un.tbls p.2 #[] (B.tb p hp)
          exact ⟨_, hok' p.2 _ y⟩
        have off : ∀ b o, (∀ p ∈ cs, b ≠ p.2) → z.heap.get? b = some o → s'.heap.get? b = some o := fun b o nb e => by
          cases q : H b with
          | none =>
            refine un.keep b o e q ?_ ?_
            · intro y; cases y
            · intro y; cases y
          | some u =>
            rcases B.all b u q with ⟨rfl, _, ob, xs, rfl⟩ | ⟨p, hp, y⟩
            · have t1 := (hok b _ q).1
              have t2 := (hok' b _ (un.frzs b ob _ q)).1
              rw [e] at t1
              cases t1
              exact t2
            · exact absurd y (nb p hp)
        refine ⟨rfl, ⟨fun b o e => ?_, fun b o e => ?_⟩, os, bare⟩
        · by_cases hx : ∃ p ∈ cs, b = p.2
          · obtain ⟨p, hp, rfl⟩ := hx
            obtain ⟨more, hm⟩ := big p hp
            rw [hT p hp] at e
            cases e
            refine .inr (.inl ⟨((PySem.W.codeHd_of_K KX (hC p hp)).tab (hT p hp)).isCodeTable, rfl, #[], more, rfl, ?_⟩)
            rw [Array.empty_append]; exact hm
          · exact .inl (off b o (fun p hp y => hx ⟨p, hp, y⟩) e)
        · by_cases hx : ∃ p ∈ cs, b = p.2
          · obtain ⟨p, hp, rfl⟩ := hx
            obtain ⟨more, hm⟩ := big p hp
            exact ⟨_, hm⟩
          · exact ⟨o, off b o (fun p hp y => hx ⟨p, hp, y⟩) e⟩
  have aT : ∀ p ∈ cs, a ≠ p.2 := fun p hp y => by
    rw [y, hT p hp] at ha
    cases ha
  by_cases hk : ∃ o, K.lookup a = some o
  · obtain ⟨o, hk⟩ := hk
    have e := KX a o hk
    rw [ha] at e
    cases e
    let Ht : Hp := fun b => if b ∈ cs.map (·.2) then some (.tbl #[]) else none
    have on : ∀ p ∈ cs, Ht p.2 = some (.tbl #[]) := fun p hp => if_pos (List.mem_map.mpr ⟨p, hp, rfl⟩)
    have inv : ∀ b u, Ht b = some u → u = .tbl #[] ∧ ∃ p ∈ cs, b = p.2 := fun b u y => by
      have y : (if b ∈ cs.map (·.2) then some (HO.tbl #[]) else none) = some u := y
      by_cases hx : b ∈ cs.map (·.2)
      · rw [if_pos hx] at y
        obtain ⟨p, hp, e⟩ := List.mem_map.mp hx
        exact ⟨(Option.some.inj y).symm, p, hp, e.symm⟩
      · rw [if_neg hx] at y; cases y
    refine main Ht ⟨on, fun b u y => .inr (inv b u y).2⟩ (.inr ⟨_, us.toArray, _, hk, rfl, rfl, rfl, by rw [List.size_toArray, lenV]; exact hl, by simpa using vals_ints hi⟩) fun b u y => ?_
    obtain ⟨rfl, p, hp, rfl⟩ := inv b u y
    exact hT p hp
  · have hk' : K.lookup a = none := by
      cases e : K.lookup a with
      | none => rfl
      | some o => exact absurd ⟨o, e⟩ hk
    let Hs : Hp := fun b => if b = a then some (.frz { cls := .type "list", data := .seq us.toArray } (.lst (ns.map V.int))) else if b ∈ cs.map (·.2) then some (.tbl #[]) else none
    have at_a : Hs a = some (.frz { cls := .type "list", data := .seq us.toArray } (.lst (ns.map V.int))) := if_pos rfl
    have on : ∀ p ∈ cs, Hs p.2 = some (.tbl #[]) := fun p hp => (if_neg (fun y => aT p hp y.symm)).trans (if_pos (List.mem_map.mpr ⟨p, hp, rfl⟩))
    have inv : ∀ b u, Hs b = some u → b ≠ a → u = .tbl #[] ∧ ∃ p ∈ cs, b = p.2 := fun b u y hba => by
      have y : (if b = a then _ else if b ∈ cs.map (·.2) then some (HO.tbl #[]) else none) = some u := y
      rw [if_neg hba] at y
      by_cases hx : b ∈ cs.map (·.2)
      · rw [if_pos hx] at y
        obtain ⟨p, hp, e⟩ := List.mem_map.mp hx
        exact ⟨(Option.some.inj y).symm, p, hp, e.symm⟩
      · rw [if_neg hx] at y; cases y
    refine main Hs ⟨on, fun b u y => ?_⟩ (.inl (.inr ⟨_, at_a⟩)) fun b u y => ?_
    · by_cases hb : b = a
      · subst hb; rw [at_a] at y; exact .inl ⟨rfl, hk', _, _, (Option.some.inj y).symm⟩
      · exact .inr (inv b u y hb).2
    · by_cases hb : b = a
      · subst hb
        rw [at_a] at y
        cases y
        exact ⟨ha, by rw [List.length_map]; exact hl, us, _, vals_ints hi, ha⟩
      · obtain ⟨rfl, p, hp, rfl⟩ := inv b u y hb
        exact hT p hp
end
/-- the law holds lambdas itself: its code object c, its table T -/
theorem walkT {l : PySem.W.OpenLaw} {n k : Nat} {q : Program} {loose : List Str} {XP : (Str → Option Value) → Heap → Prop} {YP : World → Heap → Prop} {d : DefRec} {K : Params → Fg} {CX : CXT} {x : Str}
    (him : PyProof.Rows.importsNone q = true) (hn : l.most = some n) (hn2 : n ≤ sizeLine) (hdf : d.params.defaults = []) (hr : Room k callerA) (hrec : ((recsOf q).any fun e => e.name == d.name) = true) (hY : ∀ (w : World) (h : Heap), YP w h → (K w.params).In h)
    (F : ∀ (w : World) (mg : Str → Option Value) (fa : Addr) (h : Heap), (K w.params).In h → h.Ns mainGlobals mg → XP mg h → mg d.name = some (.ref fa) →
      ∃ (fd : FuncData) (sp : Sp) (c T : Addr) (o : Obj) (e : Value) (dd : Option Addr) (vs : Array Value) (sl : Array (Option Value)), (K w.params).lookup fa = some o ∧ o.data = .func fd ∧ fd.code = .ref c ∧ (K w.params).lookup c = some ⟨e, dd, .fields vs, sl⟩ ∧ vs[11]? = some (.ref T) ∧
        (K w.params).lookup T = none ∧ PySem.W.codeHdIn (K w.params) c T = true ∧ (∀ (s : Shared) (u : Value), BindsTo s fd ⟨[u], []⟩ [(x, u)]) ∧
        (∀ (H : Hp) (a : Addr) (ns : List Int), ns.length ≤ n → H T = some (.tbl #[]) → SqL (K w.params) H a (ns.map V.int) → sp [.ref a] H (fun v _ => v = .bl true) fun _ _ _ => False) ∧
        ∀ base : Heap, (K w.params).In base → base.Ns mainGlobals mg → (∃ o, base.get? sysModules = some o) → TabB base mg c T → FnG l.prog w (K w.params) mg base CX k fa fd [x] sp)
    (hCX : ∀ (H : Hp) (s : Shared) (e : Value) (s' : Shared), CX [] H s (fun _ _ _ => False) e s' → False) :
    PySem.W.WalkO q loose XP YP l.row.toRowW d [] (fun f vs => PySem.call f vs) := by
  refine Att.attach_callB hn hdf fun w s₀ s₁ mg mb fa o pm cd doc a vs ns G Y ho hd hcd hmg hobj hints hlen hbits hg => ?_
  have KX := hY w _ Y
  obtain ⟨mm, hmm, _⟩ := (G.T.seer him).mods
  obtain ⟨fd, sp, c, T, o1, e1, dd, vs1, sl, f1, f2, f3, f4, f5, f6, f7, hb, hsp, hF⟩ := F w mg fa _ KX G.T.g G.X hmg
  have own : s₁.heap.get? T = some tab0 := by
    obtain ⟨dL, hm, hn1⟩ := List.any_eq_true.mp hrec
    obtain ⟨a', o', fd', c', T', g1, g2, g3, g4, _, ⟨oc, vc, k1, _, k3, k4⟩, k5⟩ := G.T.tab dL hm
    rw [beq_iff_eq.mp hn1, hmg] at g1
    cases g1
    rw [KX _ _ f1] at g2
    cases g2
    rw [f2] at g3
    cases g3
    rw [f3] at g4
    cases g4
    rw [KX _ _ f4] at k1
    cases k1
    cases k3
    rw [f5] at k4
    cases k4
    exact k5
  refine lawT (cs := [(c, T)]) KX G.T.g G.T.b G.T.builtins G.T.nolimit ⟨mm, hmm⟩ hg ?_ ?_ ?_ G.T.bmain hobj hints (Nat.le_trans hlen hn2) hr (fun base g1 g2 g3 g4 => hF base g1 g2 g3 (g4 (c, T) (by simp))) hb (fun H hH hS => hsp H a ns hlen (hH (c, T) (by simp)) hS) fun H e s' => hCX H s₁ e s'
  · intro p hp; rw [List.mem_singleton.mp hp]; exact own
  · intro p hp; rw [List.mem_singleton.mp hp]; exact f6
  · intro p hp; rw [List.mem_singleton.mp hp]; exact f7
end DL
namespace DL
open PySem PySem.Spec PyProof.Rows L2 NdefX LamX StX
/-! what the end of a law asks of the text, from what K says -/
section
variable {P : Program} {w : World} {K : Fg} {mg : Str → Option Value}
theorem at_mk {h : Heap} {x : Str} {st : Stmt} {ps : List Str} {f : Addr} {oc : Value} {od an : Option Addr} {osl : Array (Option Value)} {kV doc pm cdv ct : Value} (X : K.In h) (G : h.Ns mainGlobals mg)
    (a : PySem.W.nsIn K mainGlobals x = some (some (.ref f))) (l : K.lookup f = some ⟨oc, od, .func (PySem.W.fnOf x x (defArgs st) (defBody st) (defScope st) .none kV doc pm an cdv ct), osl⟩) (c : PySem.W.codeIn K cdv x = true) (k : PySem.W.keepIn K (.ref f) = true)
    (hb : ∀ (kV doc pm : Value) (an : Option Addr) (cdv ct : Value) (us : List Value), us.length = ps.length → bindArgs (PySem.W.fnOf x x (defArgs st) (defBody st) (defScope st) .none kV doc pm an cdv ct) ⟨us, []⟩ = pure (ps.zip us)) : At K mg x st ps :=
  ⟨f, _, fun_mk l c k, PySem.W.mg_of X G a, (fun_mk l c k).binds hb⟩
theorem atc_mk {h : Heap} {x : Str} {st : Stmt} {ps : List Str} {f cd : Addr} {oc : Value} {od an : Option Addr} {osl : Array (Option Value)} {kV doc pm ct : Value} (X : K.In h) (G : h.Ns mainGlobals mg)
    (a : PySem.W.nsIn K mainGlobals x = some (some (.ref f))) (l : K.lookup f = some ⟨oc, od, .func (PySem.W.fnOf x x (defArgs st) (defBody st) (defScope st) .none kV doc pm an (.ref cd) ct), osl⟩) (c : PySem.W.codeIn K (.ref cd) x = true) (k : PySem.W.keepIn K (.ref f) = true)
    (hb : ∀ (kV doc pm : Value) (an : Option Addr) (cdv ct : Value) (us : List Value), us.length = ps.length → bindArgs (PySem.W.fnOf x x (defArgs st) (defBody st) (defScope st) .none kV doc pm an cdv ct) ⟨us, []⟩ = pure (ps.zip us)) : AtC K mg x st ps cd :=
  ⟨f, oc, od, kV, doc, pm, an, ct, osl, l, c, k, PySem.W.mg_of X G a, (fun_mk l c k).binds hb⟩
/-- a method: a def of a class -/
def MethT (K : Fg) (x qual : Str) (st : Stmt) (ps : List Str) (f : Addr) : Prop := ∃ fd, Fun K x qual st f fd ∧ Binds K fd ps []
theorem meth_mk {x qual : Str} {st : Stmt} {ps : List Str} {f : Addr} {oc : Value} {od an : Option Addr} {osl : Array (Option Value)} {kV doc pm cdv ct : Value}
    (l : K.lookup f = some ⟨oc, od, .func (PySem.W.fnOf x qual (defArgs st) (defBody st) (defScope st) .none kV doc pm an cdv ct), osl⟩) (c : PySem.W.codeIn K cdv qual = true) (k : PySem.W.keepIn K (.ref f) = true)
    (hb : ∀ (kV doc pm : Value) (an : Option Addr) (cdv ct : Value) (us : List Value), us.length = ps.length → bindArgs (PySem.W.fnOf x qual (defArgs st) (defBody st) (defScope st) .none kV doc pm an cdv ct) ⟨us, []⟩ = pure (ps.zip us)) : MethT K x qual st ps f := ⟨_, fun_mk l c k, (fun_mk l c k).binds hb⟩
/-- an error class of the text, from what its written part says -/
theorem err_mk {st : Stmt} {nm q qual : Str} {C N f c cc : Addr} {ns : List Str} {bs bm : List Value} {sn : List Str} {sub : List Value} {ab : Bool} {col : Option Bool} {dd od cd2 dd3 : Option Addr} {k0 k1 k2 k3 k5 : Option Value} {oc doc pm ctv cls2 cls3 : Value} {osl sl2 sl3 : Array (Option Value)} {vs : Array Value} {file : Str} {tf : Tok} {ar : Arg}
    (lC : K.lookup C = some (excClassObj nm q C N bs bm true sn sub ab col dd k0 k1 k2 k3 k5 "ValueError.__new__")) (hbm : PySem.HandSPX.refsVE bm = true)
    (sa : PySem.W.findIn K (.ref C) "__setattr__" = some (some (.builtin "object.__setattr__"))) (exC : PySem.W.subIn K (.ref C) (.type "BaseException") = some true) (tyC : PySem.W.typeIn K (.ref C) = some (.type "type")) (kC : PySem.W.keepIn K (.ref C) = true)
    (ga : PySem.W.findIn K (.ref C) "__getattribute__" = some (some (.builtin "BaseException.__getattribute__"))) (gg : PySem.W.findIn K (.ref C) "__getattr__" = some none) (hd : PySem.W.hasDictIn K C = true)
    (ha : PySem.W.findIn K (.ref C) "__class__" = some (some (.builtin "object.__class__"))) (hn : PySem.W.specialIn K (.builtin "object.__class__") "__get__" = some (some (.builtin "getset_descriptor.__get__"))) (ht : PySem.W.takesIn K (.builtin "object.__class__") = some true) (hm : PySem.W.mroIn K C (.type "object") = some true)
    (no : ∀ f ∈ ns, PySem.W.findIn K (.ref C) f = some none) (mr : PySem.W.mroIn K C (.ref C) = some true) (ve : PySem.W.subIn K (.ref C) (.type "ValueError") = some true) (ini : PySem.W.ks_superIn K C C "__init__" = some (some (.builtin "ValueError.__init__")))
    (i : PySem.W.findIn K (.ref C) "__init__" = some (some (.ref f))) (tI : PySem.W.typeIn K (.ref f) = some (.type "function"))
    (lf : K.lookup f = some ⟨oc, od, .func (PySem.W.fnX "__init__" qual (defArgs st) (defBody st) (defScope st) [(("__class__" : Str), cc)] .none .none doc pm none (.ref c) ctv), osl⟩)
    (cd : PySem.W.codeIn K (.ref c) qual = true) (lc : K.lookup c = some ⟨cls2, cd2, .fields vs, sl2⟩) (hv : vs[2]? = some (.str file tf)) (hf : ((P.main.file : Str) == file) = true)
    (lcc : K.lookup cc = some ⟨cls3, dd3, .cell (some (.ref C)), sl3⟩) (top : (P.main.scope.names.lookup ("super" : Str)).isSome = false) (sup : mg "super" = none) (stat : PySem.W.nsIn K cStatics "thirdparty.any" = some none)
    (kS : (defScope st).names.lookup ("super" : Str) = some .globalImplicit) (kF : (defScope st).names.lookup ("__class__" : Str) = some .free) (hh : ((defArgs st).posonlyargs ++ (defArgs st).args).head? = some ar) (hs : ar.arg = ("self" : Str)) : ErrT P K mg st C ns where
  xf := ⟨ga, gg, exC, hd⟩
  exc := ⟨ga, gg, exC, hd, ha, hn, ht, hm⟩
  no := no
  sup := ⟨⟨⟨nm, q, N, bs, bm, sn, sub, ab, col, dd, k0, k1, k2, k3, k5, lC, hbm⟩, sa, exC, tyC, kC⟩, mr, ve, ini⟩
  ini := ⟨f, ⟨"__init__", qual, defArgs st, defBody st, defScope st, [(("__class__" : Str), cc)], c⟩, i, tI, {
    fobj := ⟨oc, od, doc, pm, ctv, osl, ar, lf, hh, hs⟩
    code := cd
    file := ⟨_, vs, file, tf, lc, rfl, hv, hf⟩
    cell := ⟨cc, _, rfl, lcc, rfl⟩
    cls := ⟨{ name := nm, bases := bs, mro := .ref C :: bm, ns := N, qualname := q, hasDict := true, slotNames := sn, subclasses := sub, abstract := ab, collection := col, hasDel := false }, by unfold PySem.W.clsIn; rw [lC] <;> rfl⟩
    top := top
    sup := sup
    stat := stat
    kS := kS
    kC := kF }, rfl, rfl, rfl⟩
theorem insC_mk {C : Addr} (pg : PySem.W.plainGet K C Str.empty = true) (hd : PySem.W.hasDictIn K C = true) (po : PySem.W.plainOver K C = true) (sa : PySem.W.findIn K (.ref C) "__setattr__" = some (some (.builtin "object.__setattr__")))
    (ha : PySem.W.findIn K (.ref C) "__class__" = some (some (.builtin "object.__class__"))) (hn : PySem.W.specialIn K (.builtin "object.__class__") "__get__" = some (some (.builtin "getset_descriptor.__get__"))) (ht : PySem.W.takesIn K (.builtin "object.__class__") = some true) (hm : PySem.W.mroIn K C (.type "object") = some true) : InsC K C :=
  ⟨⟨pg, hd, po, sa⟩, ha, hn, ht, hm⟩
theorem kit_same {v : Value} : PySem.W.kitOne K v v = some true := by
  unfold PySem.W.kitOne
  rw [if_pos (by simp)]
theorem kit_sub {t : Value} {D : Addr} {b : Bool} (ne : t ≠ .ref D) (c : PySem.W.isClsIn K D = true) (ty : PySem.W.typeIn K (.ref D) = some (.type "type")) (s : PySem.W.subIn K t (.ref D) = some b) : PySem.W.kitOne K t (.ref D) = some b := by
  unfold PySem.W.kitOne
  rw [if_neg (by simpa using ne)]
  have c' : (PySem.W.clsIn K D).isSome = true := c
  show (if ((PySem.W.clsIn K D).isSome && PySem.W.typeIn K (.ref D) == some (.type "type")) = true then PySem.W.subIn K t (.ref D) else none) = some b
  rw [if_pos (by rw [c', ty]; rfl)]
  exact s
theorem exm_mk {t : Value} {D : Addr} {b : Bool} (x : PySem.W.subIn K (.ref D) (.type "BaseException") = some true) (c : PySem.W.isClsIn K D = true) (ty : PySem.W.typeIn K (.ref D) = some (.type "type")) (s : PySem.W.subIn K t (.ref D) = some b) : PySem.W.exmOne K t (.ref D) = some b := by
  unfold PySem.W.exmOne
  rw [if_pos (by rw [x]; rfl)]
  have c' : (PySem.W.clsIn K D).isSome = true := c
  show (if ((PySem.W.clsIn K D).isSome && PySem.W.typeIn K (.ref D) == some (.type "type")) = true then PySem.W.subIn K t (.ref D) else none) = some b
  rw [if_pos (by rw [c', ty]; rfl)]
  exact s
theorem ref_ne {a b : Addr} (h : a ≠ b) : Value.ref a ≠ Value.ref b := fun z => h (Value.ref.inj z)
theorem sub_list {D : Addr} : PySem.W.subIn K (.type "list") (.ref D) = some false := by
  have e : fastBuiltinMro "list" = some [.type "list", .type "object"] := by decide +kernel
  show (fastBuiltinMro "list").map (·.contains (.ref D)) = some false
  rw [e]
  first | rfl | simp
theorem sub_tuple {D : Addr} : PySem.W.subIn K (.type "tuple") (.ref D) = some false := by
  have e : fastBuiltinMro "tuple" = some [.type "tuple", .type "object"] := by decide +kernel
  show (fastBuiltinMro "tuple").map (·.contains (.ref D)) = some false
  rw [e]
  first | rfl | simp
theorem sub_none {D : Addr} : PySem.W.subIn K (.type "NoneType") (.ref D) = some false := by
  have e : fastBuiltinMro "NoneType" = some [.type "NoneType", .type "object"] := by decide +kernel
  show (fastBuiltinMro "NoneType").map (·.contains (.ref D)) = some false
  rw [e]
  first | rfl | simp
theorem nf_same {C : Addr} : PySem.W.notFirst K C (.ref C) = true := by unfold PySem.W.notFirst; simp
theorem nf_sub {C : Addr} {t : Value} (h : PySem.W.subIn K t (.ref C) = some false) : PySem.W.notFirst K C t = true := by unfold PySem.W.notFirst; rw [h]; simp
/-- a tuple of texts of the module -/
inductive StrsAre : List Str → List Value → Prop
  | nil : StrsAre [] []
  | cons {s : Str} {t : Tok} {ns : List Str} {us : List Value} : StrsAre ns us → StrsAre (s :: ns) (.str s t :: us)
theorem StrsAre.vals : ∀ {ns : List Str} {us : List Value}, StrsAre ns us → Vals (ns.map V.str) us
  | _, _, .nil => .nil
  | _, _, .cons h => .cons ⟨_, rfl⟩ h.vals
theorem ktup_mk {a : Addr} {dd : Option Addr} {its : Array Value} {n : Nat} {sl : Array (Option Value)} {ns : List Str} (l : K.lookup a = some ⟨.type "tuple", dd, .seq its n, sl⟩) (h : StrsAre ns its.toList) (hl : its.size ≤ 1000) : KTup K a ns :=
  ⟨_, its, n, l, rfl, rfl, Evl.sz_of (by omega), h.vals⟩
/-- a number that the module works out -/
theorem loose_int {p : Program} {lv : List (Str × PySem.W.WData)} {h : Heap} {x : Str} {i : Int} (L : PySem.W.XL p lv mg h) (hm : (x, PySem.W.WData.int i) ∈ lv) : ∃ t, mg x = some (.int i t) := by
  obtain ⟨v, h1, h2⟩ := L.2.val _ hm
  cases h2
  exact ⟨_, h1⟩
theorem gint_mk {h : Heap} {x : Str} {i : Int} {t : Tok} (X : K.In h) (G : h.Ns mainGlobals mg) (a : PySem.W.nsIn K mainGlobals x = some (some (.int i t))) : ∃ t, mg x = some (.int i t) := ⟨t, PySem.W.mg_of X G a⟩
/-- the law's code object and its table -/
structure LawT (K : Fg) (c T : Addr) : Prop where
  tab : ∃ (e : Value) (dd : Option Addr) (vs : Array Value) (sl : Array (Option Value)), K.lookup c = some ⟨e, dd, .fields vs, sl⟩ ∧ vs[11]? = some (.ref T)
  no : K.lookup T = none
  hd : PySem.W.codeHdIn K c T = true
theorem lawT_mk {c T : Addr} {e : Value} {dd : Option Addr} {vs : Array Value} {sl : Array (Option Value)} (l : K.lookup c = some ⟨e, dd, .fields vs, sl⟩) (h : vs[11]? = some (.ref T)) (no : K.lookup T = none) (hd : PySem.W.codeHdIn K c T = true) : LawT K c T := ⟨⟨e, dd, vs, sl, l, h⟩, no, hd⟩
end
end DL
namespace DL
open PySem PySem.Spec PyProof.Rows L2 NdefX PySem.HandSPX PySem.DLx LamX
variable [Tn]
/-! defs with defaults; defs as values -/
/-- a def with defaults: dvs its last parameters' -/
structure AtD (K : Fg) (mg : Str → Option Value) (x : Str) (st : Stmt) (ps : List Str) (dvs : List V) : Prop where
  ex : ∃ (f : Addr) (oc : Value) (od : Option Addr) (dV kV doc pm : Value) (an : Option Addr) (cdv ct : Value) (osl : Array (Option Value)) (ds : List Value), K.lookup f = some ⟨oc, od, .func (PySem.W.fnOf x x (defArgs st) (defBody st) (defScope st) dV kV doc pm an cdv ct), osl⟩ ∧
    PySem.W.codeIn K cdv x = true ∧ PySem.W.keepIn K (.ref f) = true ∧ mg x = some (.ref f) ∧ Binds K (PySem.W.fnOf x x (defArgs st) (defBody st) (defScope st) dV kV doc pm an cdv ct) ps [] ∧
    Vals dvs ds ∧ Binds K (PySem.W.fnOf x x (defArgs st) (defBody st) (defScope st) dV kV doc pm an cdv ct) ps ds
structure HasXD (P : Program) (w : World) (K : Fg) (mg : Str → Option Value) (base : Heap) (k : Nat) (x : Str) (ps : List Str) (dvs : List V) (sp : Sp) : Prop where
  ex : ∃ f fd ds, PySem.W.keepIn K (.ref f) = true ∧ mg x = some (.ref f) ∧ Binds K fd ps [] ∧ Vals dvs ds ∧ Binds K fd ps ds ∧ FnG P w K mg base (L2.CX P w) k f fd ps sp
/-- a def at f that may raise -/
structure FnV (P : Program) (w : World) (K : Fg) (mg : Str → Option Value) (base : Heap) (k : Nat) (f : Addr) (sp : Sp) : Prop where
  ex : ∃ fd ps, PySem.W.keepIn K (.ref f) = true ∧ Binds K fd ps [] ∧ FnG P w K mg base (L2.CX P w) k f fd ps sp
section
variable {P : Program} {w : World} {K : Fg} {mg : Str → Option Value} {base : Heap} {x : Str} {st : Stmt} {ps N : List Str} {sp : Sp} {k : Nat} {dvs : List V}
theorem fnG_atD {CX : CXT} {f : Addr} {oc : Value} {od : Option Addr} {qual : Str} {dV kV doc pm cdv ct : Value} {an : Option Addr} {osl : Array (Option Value)} (lk : K.lookup f = some ⟨oc, od, .func (PySem.W.fnOf x qual (defArgs st) (defBody st) (defScope st) dV kV doc pm an cdv ct), osl⟩)
    (hcd : PySem.W.codeIn K cdv qual = true) (S : FnScope N ps (defScope st)) (len : ∀ vs H Q E, sp vs H Q E → vs.length = ps.length)
    (hb : ∀ (A : Around) (outer : List Env) (s : Shared) (H : Hp) (vs : List V) (Q : VK) (E : XK), Room k (A.deeper (envOfC qual (defScope st) s.heap.objs.size f cdv)) → A.guards = some [] → sp vs H Q E →
      ∃ t, PSs (cxOf CX P w K mg base N qual (defScope st) f cdv A outer s H E) (defBody st) t ∧ t { nx := fun _ H' => Q .non H', rt := Q } (start N vs) H) : FnG P w K mg base CX (k + 1) f (PySem.W.fnOf x qual (defArgs st) (defBody st) (defScope st) dV kV doc pm an cdv ct) ps sp := by
  constructor
  · exact len
  intro A outer s H args us vs Q E hr hG e0 hbi rv hsp
  have KX : K.In s.heap := e0.mod.kin.keeps fun b o z => (e0.bs b o z).1
  have lim : s.heap.NoLimit := e0.mod.nolimit.keeps fun b o z => (e0.bs b o z).1
  apply codeAny_call_function hr.depth (KX _ _ lk) rfl S.co S.gen rfl (PySem.W.codeRec_of KX hcd)
  apply hbi
  apply wpAny_newFunctionEnv_cells S.kind
  · rintro ⟨y, u⟩ hy
    rcases S.par y (List.of_mem_zip hy).1 with q | q
    · exact Or.inl q
    · exact Or.inr ⟨q, PySem.W.cellsFrom_some _ _ _ (Or.inl q)⟩
  intro env he s1 hx
  subst he
  refine ⟨lim.keeps hx.toInCall.keep, codeAny_func ?_⟩
  obtain ⟨t, ht, hq⟩ := hb A outer s H vs Q E (hr.deeper _) hG hsp
  have I0 := inv_start (E := E) (CX := CX) S hr.hd e0 (len _ _ _ _ hsp) rv hx
  apply wpAny_mono (ht.run [] s1 _ H _ I0 hq)
  · intro fl s2 h2
    cases fl with
    | ret u =>
      obtain ⟨z, τ, H2, J, r2, q2⟩ := h2
      exact ⟨z, H2, J.os, J.bare, J.base, J.hok, r2, q2⟩
    | next =>
      obtain ⟨τ, H2, J, q2⟩ := h2
      exact ⟨V.non, H2, J.os, J.bare, J.base, J.hok, rfl, q2⟩
    | brk =>
      obtain ⟨_, _, _, q2⟩ := h2
      exact q2.elim
    | cont =>
      obtain ⟨_, _, _, q2⟩ := h2
      exact q2.elim
  · exact fun e s2 h2 => h2
theorem AtD.hasXD (A : AtD K mg x st ps dvs) (S : FnScope N ps (defScope st)) (len : ∀ vs H Q E, sp vs H Q E → vs.length = ps.length)
    (hb : ∀ (f : Addr) (cdv : Value) (A : Around) (outer : List Env) (s : Shared) (H : Hp) (vs : List V) (Q : VK) (E : XK), Room k (A.deeper (envOfC x (defScope st) s.heap.objs.size f cdv)) → A.guards = some [] → sp vs H Q E →
      ∃ t, PSs (cxOf (L2.CX P w) P w K mg base N x (defScope st) f cdv A outer s H E) (defBody st) t ∧ t { nx := fun _ H' => Q .non H', rt := Q } (L2.start N vs) H) : HasXD P w K mg base (k + 1) x ps dvs sp := by
  obtain ⟨f, oc, od, dV, kV, doc, pm, an, cdv, ct, osl, ds, lk, hc, kp, hm, bi, vd, bd⟩ := A.ex
  exact ⟨f, _, ds, kp, hm, bi, vd, bd, fnG_atD lk hc S len fun A outer s H vs Q E hr hG h => hb f cdv A outer s H vs Q E hr hG h⟩
theorem HasX.fnV {f : Addr} (h : HasX P w K mg base k x st ps sp) (hm : mg x = some (.ref f)) : FnV P w K mg base k f sp := by
  obtain ⟨g, fd, F, hg, bi, G⟩ := h.ex
  rw [hm] at hg
  cases hg
  exact ⟨fd, ps, F.kp, bi, G⟩
theorem FnG.more {CX : CXT} {f : Addr} {fd : FuncData} {j : Nat} (h : FnG P w K mg base CX j f fd ps sp) (hj : j ≤ k) : FnG P w K mg base CX k f fd ps sp :=
  ⟨h.len, fun A outer s H args us vs Q E hr hG e0 hb rv hs => h.go A outer s H args us vs Q E (hr.mono hj) hG e0 hb rv hs⟩
theorem FnV.more {f : Addr} {j : Nat} (h : FnV P w K mg base j f sp) (hj : j ≤ k) : FnV P w K mg base k f sp := by
  obtain ⟨fd, ps, kp, bi, G⟩ := h.ex
  exact ⟨fd, ps, kp, bi, G.more hj⟩
end
/-- a call of what a variable holds -/
def tCallV (tab : List (Addr × Sp)) (te : TE) (E : XK) (t : TA) : TE := fun σ H Q => te σ H fun v H1 => ∃ q, q ∈ tab ∧ v = .ref q.1 ∧ tCall q.2 [] E t σ H1 Q
section
variable {X : Cx} {x : Str} {st : Stmt} {ps : List Str} {sp : Sp} {j k : Nat} {p pos : Pos} {e : Expr} {es : List Expr} {t : TA} {te : TE} {E : XK} {dvs : List V} {tab : List (Addr × Sp)}
theorem pe_callXD (h : HasXD X.prog X.w X.K X.mg X.base j x ps dvs sp) (hx : Passes (L2.CX X.prog X.w) X E) (hr : Room k X.A) (hj : j ≤ k) (hG : X.A.guards = some []) (ha : PA X (e :: es) t) (hg : Gl X x := by rfl)
    (hdb : (x == ("__debug__" : Str)) = false := by decide) (he : starEach (e :: es) X.env = (false, eval e X.env) :: starEach es X.env := by rfl) (hpl : (backTo pos (starEach es X.env)).any (·.1) = false := by rfl) :
    PE X (.Call (.Name x p) (e :: es) [] pos) (tCall sp [] E t) := by
  obtain ⟨f, fd, ds, kp, hm, bi, vd, bd, G⟩ := h.ex
  exact pe_callG G (hr.mono hj) hG hg hm kp bi .nil hx ha hdb he hpl
theorem pe_callXDd (h : HasXD X.prog X.w X.K X.mg X.base j x ps dvs sp) (hx : Passes (L2.CX X.prog X.w) X E) (hr : Room k X.A) (hj : j ≤ k) (hG : X.A.guards = some []) (ha : PA X (e :: es) t) (hg : Gl X x := by rfl)
    (hdb : (x == ("__debug__" : Str)) = false := by decide) (he : starEach (e :: es) X.env = (false, eval e X.env) :: starEach es X.env := by rfl) (hpl : (backTo pos (starEach es X.env)).any (·.1) = false := by rfl) :
    PE X (.Call (.Name x p) (e :: es) [] pos) (tCall sp dvs E t) := by
  obtain ⟨f, fd, ds, kp, hm, bi, vd, bd, G⟩ := h.ex
  exact pe_callG G (hr.mono hj) hG hg hm kp bd vd hx ha hdb he hpl
theorem pe_callV (hV : ∀ q ∈ tab, FnV X.prog X.w X.K X.mg X.base j q.1 q.2) (hx : Passes (L2.CX X.prog X.w) X E) (hr : Room k X.A) (hj : j ≤ k) (hG : X.A.guards = some []) (hn : PE X (.Name x p) te) (ha : PA X (e :: es) t)
    (he : starEach (e :: es) X.env = (false, eval e X.env) :: starEach es X.env := by rfl) (hpl : (backTo pos (starEach es X.env)).any (·.1) = false := by rfl) :
    PE X (.Call (.Name x p) (e :: es) [] pos) (tCallV tab te E t) := by
  constructor
  intro pins s σ H Q I h
  apply wpAny_Call_Name_kw
  apply thn (hn.run pins s σ H _ I h)
  rintro u s1 ⟨v, H1, I1, r1, q, hq, rfl, hh⟩
  obtain rfl : u = Value.ref q.1 := r1
  obtain ⟨fd, ps, kp, bi, G⟩ := (hV q hq).ex
  apply PySem.W.callWith_K (h₀ := X.base) I1.ok.mod.kin kp ?_ he hpl
  apply thn (ha.run pos pins s1 σ H1 _ I1 hh)
  rintro us s2 ⟨vs, H2, I2, r2, q2⟩
  exact ⟨I2.kIn, run_G G (hr.mono hj) hG bi .nil hx I2 r2 q2⟩
end
section
variable {K : Fg} {Z : Xt} {Γ : List SA} {O : Own} {n : Nat} {ta : TA} {te : TE} {α : Type} {pre : α → Prop} {args : α → List DV} {res : α → DV → Prop} {err : α → Addr → List Str → List DV → Prop} {k : DV → Nat → Prop}
/-- a call that leaves the last parameters to their defaults -/
theorem w_callXd {dvs : List V} (des : List DV) (hd : ∀ M, RpL K M dvs des) (h : WA K Z ta Γ O n fun ds n1 => ∃ a, ds ++ des = args a ∧ pre a ∧ (∀ C ns es, err a C ns es → Z.k C ns es n1) ∧ ∀ d, res a d → k d n1) : W K Z (tCall (spX K pre args res err) dvs Z.E ta) Γ O n k := fun pn As H0 M H σ S Q c =>
  h pn As H0 M H σ S _ fun vs M1 H1 ds n1 e1 S1 r1 ⟨a, ea, hpre, hx, q⟩ =>
    runs_X S1 (by rw [← ea]; exact r1.append (hd M1)) hpre hx fun v M' H' d e2 S2 rv hd => c v M' H' d n1 (Evl.Ex.trans e1 e2) S2 rv (q d hd)
theorem w_callV {tab : List (Addr × Sp)} (f : Addr) (sp : Sp) (hm : (f, sp) ∈ tab) (h : W K Z te Γ O n fun d n1 => d = .adr f ∧ W K Z (tCall sp [] Z.E ta) Γ O n1 k) : W K Z (tCallV tab te Z.E ta) Γ O n k := fun pn As H0 M H σ S Q c =>
  h pn As H0 M H σ S _ fun v M1 H1 d n1 e1 S1 r1 ⟨ed, q⟩ => ⟨(f, sp), hm, (by subst ed; cases r1; rfl), q pn As H0 M1 H1 σ S1 Q fun v2 M2 H2 d2 n2 e2 S2 r2 q2 => c v2 M2 H2 d2 n2 (Evl.Ex.trans e1 e2) S2 r2 q2⟩
/-- calls that raise nothing here -/
theorem w_callX0 {E1 : XK} (h : WA K Z ta Γ O n fun ds n1 => ∃ a, ds = args a ∧ pre a ∧ (∀ C ns es, ¬ err a C ns es) ∧ ∀ d, res a d → k d n1) : W K Z (tCall (spX K pre args res err) [] E1 ta) Γ O n k := fun pn As H0 M H σ S Q c =>
  h pn As H0 M H σ S _ fun vs M1 H1 ds n1 e1 S1 r1 ⟨a, ea, hpre, hx, q⟩ => by
    subst ea
    rw [List.append_nil]
    exact ⟨M1, a, hpre, S1.ex, S1.tb, r1, fun v M' H' d e2 eh ex tb th rv hd => c v M' H' d n1 (Evl.Ex.trans e1 e2) (S1.called e2 eh ex tb th) rv (q d hd), fun M' H' C ns ds d _ _ _ _ _ _ _ he => (hx C ns ds he).elim⟩
theorem w_callKX0 {E1 : XK} {tk : TA} {mm : Nat} {ix : List Nat} (h : WA K Z tk Γ O n fun es n2 => es.length = mm ∧ ∃ a, perm ix [] es = args a ∧ pre a ∧ (∀ C ns es, ¬ err a C ns es) ∧ ∀ d, res a d → k d n2) : W K Z (tCallM 0 mm (spX K pre args res err) (perm ix) E1 tNil tk) Γ O n k := by
  intro pn As H0 M H σ S Q c
  refine h pn As H0 M H σ S _ fun zs M2 H2 es n2 e2 S2 r2 ⟨l2, a, ea, hpre, hx, q⟩ => ⟨rfl, by rw [r2.length]; exact l2, ?_⟩
  have r := perm_rp ix (K := K) (M := M2) (vs := []) (ds := []) .nil r2
  rw [ea] at r
  exact ⟨M2, a, hpre, S2.ex, S2.tb, r, fun v M' H' d e3 eh ex tb th rv hd => c v M' H' d n2 (Evl.Ex.trans e2 e3) (S2.called e3 eh ex tb th) rv (q d hd), fun M' H' C ns ds d _ _ _ _ _ _ _ he => (hx C ns ds he).elim⟩
theorem cw_repr2T {ds : List DV} {k : DV → Prop} (h : Shw (.tup ds)) (q : k (.str (pyX (.tup ds)).shown)) : CW K (rRepr2 K) [.tup ds] k := fun Z pn As H0 M H σ Γ O n S vs r Q c => by
  obtain ⟨u, rfl, h1⟩ := r.one
  obtain ⟨a, us, rfl, g1, g2⟩ := id h1.tup'
  exact ⟨a, M, _, rfl, S.ex, h1, h.x, h.sh, h.dp, h.ln, c _ M H _ (Evl.Ex.refl M) S (.str _) q⟩
end
section
variable {K : Fg} {Z : Xt} {α : Type} {pre : α → Prop} {args : α → List DV} {res : α → List Str → List DV → Prop} {err : α → Addr → List Str → List DV → Prop} {C : Addr} {Γ : List SA} {O : Own} {n nn mm : Nat} {ta tk : TA}
theorem w_mkI0 {ix : List Nat} {E1 : XK} {k : DV → Nat → Prop} (h : WA K Z ta Γ O n fun ds n1 => WA K Z tk Γ O n1 fun es n2 => ds.length = nn ∧ es.length = mm ∧ ∃ x, perm ix ds es = args x ∧ pre x ∧ (∀ D ns es, ¬ err x D ns es) ∧ ∀ ns ds, res x ns ds → k (.ins C ns ds) n2) :
    W K Z (tMkI C nn mm (spI K C pre args res err) (perm (0 :: ix.map (· + 1))) E1 ta tk) Γ O n k := by
  intro pn As H0 M H σ S Q c
  refine h pn As H0 M H σ S _ fun vs M1 H1 ds n1 e1 S1 r1 q1 => q1 pn As H0 M1 H1 σ S1 _ fun zs M2 H2 es n2 e2 S2 r2 ⟨l1, l2, x, ea, hpre, hx, q⟩ => ⟨by rw [r1.length]; exact l1, by rw [r2.length]; exact l2, fun a dx ha hdx hne => ?_⟩
  have r := perm_rp ix (r1.mono e2) r2
  rw [ea] at r
  rw [perm_self]
  have ma : M2 a = none := Evl.fresh_back S2.ex ha
  have md : M2 dx = none := Evl.fresh_back S2.ex hdx
  have hdx' : upd H2 dx (.own a) a = none := by rw [upd_ne (Ne.symm hne)]; exact ha
  have ec : ∀ b o, H2 b = some o → cut1 (upd (upd H2 dx (.own a)) a (.ins C dx [])) a b = some o := fun b o h => by
    rw [cut1_ne (ne_of_none h ha), upd_ne (ne_of_none h ha), upd_ne (ne_of_none h hdx)]; exact h
  have gc : Gr none H2 (cut1 (upd (upd H2 dx (.own a)) a (.ins C dx [])) a) := Gr.of ec
  have live : ∀ b, H2 b ≠ none → cut1 (upd (upd H2 dx (.own a)) a (.ins C dx [])) a b ≠ none := fun b hb => gc.live b hb
  refine ⟨M2, x, a, dx, _, hpre, rfl, upd_same, by rw [upd_ne hne, upd_same], ma, ?_, (S2.tb.new hdx).new hdx', r, ?_, ?_⟩
  · intro b o h
    have h2 := S2.ex _ _ h
    rw [upd_ne (ne_of_none h2 ha), upd_ne (ne_of_none h2 hdx)]; exact h2
  · intro M' H' dx' fs ns es' e3 gr ex tb th m1 h1 h2 h3 hr
    refine ⟨rfl, ?_⟩
    have e4 : Ex M' (upd M' a (.ins C dx' fs)) := Evl.Ex.new m1
    refine c (.ref a) (upd M' a (.ins C dx' fs)) H' _ n2 (Evl.Ex.trans (Evl.Ex.trans e1 e2) (Evl.Ex.trans e3 e4)) (S2.called (Evl.Ex.trans e3 e4) (gc.trans gr) (fun b o h => ?_) (tb.frz h1 (fun _ z => nomatch z)) (fun b g1 g2 => ?_)) (.ins upd_same h2 (h3.mono e4)) (q ns es' hr)
    · by_cases hb : b = a
      · subst hb; rw [upd_same] at h; rw [← h]; exact h1
      · rw [upd_ne hb] at h; exact ex b o h
    · rw [upd_ne (fun z => g1 (by rw [z]; exact ha))]
      exact th b (live b g1) g2
  · intro M' H' D ns es' d e3 gr ex tb th h1 t he
    exact (hx D ns es' he).elim
end
end DL
namespace DL
open PySem PySem.Spec PyProof.Rows L2 NdefX PySem.HandSPX PySem.DLx LamX StX
/-! ends: defs with defaults; builtin classes under no class of the text -/
section
variable {P : Program} {w : World} {K : Fg} {mg : Str → Option Value}
theorem atd_mk {h : Heap} {x : Str} {st : Stmt} {ps : List Str} {dvs : List V} {f T : Addr} {oc cT : Value} {od an dT : Option Addr} {osl sT : Array (Option Value)} {kV doc pm cdv ct : Value} {its : Array Value} {n : Nat} (X : K.In h) (G : h.Ns mainGlobals mg)
    (a : PySem.W.nsIn K mainGlobals x = some (some (.ref f))) (l : K.lookup f = some ⟨oc, od, .func (PySem.W.fnOf x x (defArgs st) (defBody st) (defScope st) (.ref T) kV doc pm an cdv ct), osl⟩) (c : PySem.W.codeIn K cdv x = true) (k : PySem.W.keepIn K (.ref f) = true)
    (lT : K.lookup T = some ⟨cT, dT, .seq its n, sT⟩) (hv : Vals dvs its.toList) (m : Nat) (hm : m + dvs.length = ps.length)
    (h0 : ∀ (T : Addr) (kV doc pm : Value) (an : Option Addr) (cdv ct : Value) (us its : List Value), us.length = ps.length → its.length = dvs.length →
      ∃ k, bindArgs (PySem.W.fnOf x x (defArgs st) (defBody st) (defScope st) (.ref T) kV doc pm an cdv ct) ⟨us, []⟩ = seqItems? (.ref T) >>= k ∧ k (some its.toArray) = pure (ps.zip us))
    (h1 : ∀ (T : Addr) (kV doc pm : Value) (an : Option Addr) (cdv ct : Value) (us its : List Value), us.length = m → its.length = dvs.length →
      ∃ k, bindArgs (PySem.W.fnOf x x (defArgs st) (defBody st) (defScope st) (.ref T) kV doc pm an cdv ct) ⟨us, []⟩ = seqItems? (.ref T) >>= k ∧ k (some its.toArray) = pure (ps.zip (us ++ its))) : AtD K mg x st ps dvs := by
  refine ⟨f, oc, od, .ref T, kV, doc, pm, an, cdv, ct, osl, its.toList, l, c, k, PySem.W.mg_of X G a, fun s us KX hl => ?_, hv, fun s us KX hl => ?_⟩
  · rw [List.append_nil] at hl ⊢
    obtain ⟨kk, e1, e2⟩ := h0 T kV doc pm an cdv ct us its.toList hl hv.length.symm
    refine BindsTo.of_looks fun M => ?_
    rw [e1]
    refine looks_items KX lT rfl (.of_pure ?_)
    exact e2
  · obtain ⟨kk, e1, e2⟩ := h1 T kV doc pm an cdv ct us its.toList (by rw [List.length_append] at hl; have := hv.length; omega) hv.length.symm
    refine BindsTo.of_looks fun M => ?_
    rw [e1]
    refine looks_items KX lT rfl (.of_pure ?_)
    exact e2
theorem sub_of {t : String} {l : List Value} {D : Addr} (e : fastBuiltinMro t = some l) (hl : l.contains (.ref D) = false) : PySem.W.subIn K (.type t) (.ref D) = some false := by
  show (fastBuiltinMro t).map (·.contains (.ref D)) = some false
  rw [e]
  show some (l.contains (.ref D)) = _
  rw [hl]
theorem sub_prim {D : Addr} : ∀ t ∈ (["NoneType", "bool", "int", "str", "dict", "tuple", "list"] : List String), PySem.W.subIn K (.type t) (.ref D) = some false := by
  intro t ht
  simp only [List.mem_cons, List.not_mem_nil, or_false] at ht
  rcases ht with rfl | rfl | rfl | rfl | rfl | rfl | rfl
  · exact sub_none
  · exact sub_of (l := [.type "bool", .type "int", .type "object"]) (by decide +kernel) (by simp)
  · exact sub_of (l := [.type "int", .type "object"]) (by decide +kernel) (by simp)
  · exact sub_of (l := [.type "str", .type "object"]) (by decide +kernel) (by simp)
  · exact sub_of (l := [.type "dict", .type "object"]) (by decide +kernel) (by simp)
  · exact sub_tuple
  · exact sub_list
theorem kit_prim {D : Addr} (c : PySem.W.isClsIn K D = true) (ty : PySem.W.typeIn K (.ref D) = some (.type "type")) : ∀ t ∈ (["NoneType", "bool", "int", "str", "dict", "tuple", "list"] : List String), PySem.W.kitOne K (.type t) (.ref D) = some false :=
  fun t ht => kit_sub (fun z => nomatch z) c ty (sub_prim t ht)
end
end DL
namespace SetH
open PySem PySem.Spec PyProof.Rows L2
/-! sets of heap things that are told by value (fewer than 64), made of a list; sorted(set) -/
structure SKd (P : Program) (w : World) (κ : Type) [DecidableEq κ] extends HeapKind P w κ where
  stays : ∀ {h h' : Heap} {k : κ} {b : Addr}, is h k b → (∀ c o, h.get? c = some o → (∀ es ep t, o.data ≠ .set es ep t) → h'.get? c = some o) → is h' k b
  noCls : ∀ {A : Around} {E : Value → Shared → Prop} {s : Shared} {k : κ} {a : Addr} {Q : Bool → Shared → Prop}, is s.heap k a → Q false s → wpAny (model P w) A (ofAClassStatement 8 (.ref a)) Q E s
  byVal : ∀ {A : Around} {E : Value → Shared → Prop} {s : Shared} {k : κ} {a : Addr} {Q : Bool → Shared → Prop}, is s.heap k a → Q true s → wpAny (model P w) A (hashByValue 8 (.ref a)) Q E s
section
variable {P : Program} {w : World} {κ : Type} [DecidableEq κ] (kd : SKd P w κ)
/-- the rows of a table -/
def rws (L : List (Addr × κ)) : List (Int × Value) := L.map fun p => (kd.hash p.2, Value.ref p.1)
def hss (L : List (Addr × κ)) : List Int := L.map fun p => kd.hash p.2
structure Tbd (h : Heap) (L : List (Addr × κ)) (es : Array (Int × Value)) (t : SetTable) : Prop where
  rows : es.toList = rws kd L
  tab : TabOk t (hss kd L)
  nd : (L.map (·.2)).Nodup
  mem : ∀ p ∈ L, kd.is h p.2 p.1
  plain : t.plain = true
  led : w.params.followText "set-order" = true ∨ t.led = true
  room : L.length * 5 < t.mask * 3
  few : L.length < 64
structure SAt (h : Heap) (a : Addr) (L : List (Addr × κ)) (es : Array (Int × Value)) (ep : Nat) (t : SetTable) : Prop extends Tbd kd h L es t where
  ob : ∃ o, h.get? a = some o ∧ o.ExactSet ∧ o.data = .set es ep t
end
section
variable {P : Program} {w : World} {κ : Type} [DecidableEq κ] {kd : SKd P w κ} {A : Around} {E : Value → Shared → Prop} {s : Shared} {h h' : Heap} {a x : Addr} {k : κ} {L : List (Addr × κ)} {es : Array (Int × Value)} {ep : Nat} {t : SetTable}
theorem SKd.more (hb : kd.is h k x) (hk : ∀ c o, h.get? c = some o → h'.get? c = some o) : kd.is h' k x := kd.stays hb fun c o e _ => hk c o e
theorem SKd.but {o : Obj} (hb : kd.is h k x) (ho : h.get? a = some o) (hd : o.data = .set es ep t) (hs : Heap.SameBut a h h') : kd.is h' k x := kd.stays hb fun c o' e ns => by
  by_cases q : c = a
  · subst q
    rw [ho] at e
    cases e
    exact absurd hd (ns es ep t)
  · exact (hs.2 c q).trans e
theorem Tbd.size (R : Tbd kd h L es t) : es.size = L.length := by
  have q := congrArg List.length R.rows
  rw [Array.length_toList] at q
  exact q.trans (List.length_map ..)
theorem Tbd.psize (R : Tbd kd h L es t) : t.place.size = L.length := R.tab.sz.trans (List.length_map ..)
theorem Tbd.fits (R : Tbd kd h L es t) : t.fits es.size = true := by
  have q1 := R.psize
  have q2 := R.size
  have q3 := R.room
  unfold SetTable.fits SetTable.fill
  rw [R.tab.dm, Bool.and_eq_true, beq_iff_eq, decide_eq_true_eq]
  exact ⟨by omega, by show t.place.size + 0 ≤ t.mask; omega⟩
theorem Tbd.at (R : Tbd kd h L es t) {i : Nat} {p : Addr × κ} (e : L[i]? = some p) : es[i]? = some (kd.hash p.2, Value.ref p.1) := by
  have q : es.toList[i]? = some (kd.hash p.2, Value.ref p.1) := by
    rw [R.rows, rws, List.getElem?_map, e]
    rfl
  rwa [Array.getElem?_toList] at q
theorem Tbd.code (R : Tbd kd h L es t) {i : Nat} {p : Addr × κ} (e : L[i]? = some p) : (es[i]?.map (·.1)).getD 0 = kd.hash p.2 := by rw [R.at e]; rfl
theorem Tbd.gw (R : Tbd kd h L es t) : ¬ t.gaveWay = true := by
  unfold SetTable.gaveWay
  rw [mask_odd R.tab.mok]
  decide
theorem Tbd.here (R : Tbd kd h L es t) {i j : Nat} (e : t.place.toList[i]? = some j) : ∃ p, L[i]? = some p ∧ p ∈ L := by
  have q := (List.getElem?_eq_some_iff.mp e).1
  rw [Array.length_toList, R.psize] at q
  exact ⟨L[i], List.getElem?_eq_getElem q, List.getElem_mem q⟩
theorem Tbd.more (R : Tbd kd h L es t) (hk : ∀ p ∈ L, kd.is h' p.2 p.1) : Tbd kd h' L es t := ⟨R.rows, R.tab, R.nd, hk, R.plain, R.led, R.room, R.few⟩
/-- nothing of a search is seen -/
theorem unseen (hk : kd.is s.heap k x) {ys : List Value} (hy : ∀ y ∈ ys, ∃ k' c, y = Value.ref c ∧ kd.is s.heap k' c) {Q : Bool → Shared → Prop} (q : Q false s) : wpAny (model P w) A (searchCouldBeSeen (.ref x) ys) Q E s := by
  unfold searchCouldBeSeen
  refine wpAny_bind (wpAny_forIn_list _ (fun rest r s' => r.1 = none ∧ s' = s ∧ ∀ y ∈ rest, ∃ k' c, y = Value.ref c ∧ kd.is s.heap k' c) _ ?_ ?_ _ _ ⟨rfl, rfl, hy⟩)
  · rintro v rest r s' ⟨hr, rfl, all⟩
    obtain ⟨k', c, rfl, hc⟩ := all v List.mem_cons_self
    have rest' := fun u (hu : u ∈ rest) => all u (List.mem_cons_of_mem _ hu)
    dsimp only
    by_cases hv : (x == c || (carriedByValue (.ref x) && carriedByValue (.ref c))) = true
    · exact wp_if_pos hv (wpAny_pure ⟨rfl, rfl, rest'⟩)
    · refine wp_if_neg hv (wpAny_bind (kd.quiet hk ?_))
      simp only [Bool.not_true, Bool.false_eq_true, if_false]
      refine wpAny_bind (kd.quiet hc ?_)
      simp only [Bool.not_true, Bool.false_eq_true, if_false]
      refine wpAny_bind (kd.noCls hk ?_)
      simp only [Bool.false_eq_true, if_false]
      refine wpAny_bind (kd.noCls hc ?_)
      simp only [Bool.false_eq_true, if_false]
      exact wpAny_pure ⟨rfl, rfl, rest'⟩
  · rintro ⟨r1, r2⟩ s' ⟨hr, rfl, _⟩
    cases (show r1 = none from hr)
    exact wpAny_pure q
/-- the c-th place that a search asks -/
def prb (m : Nat) (z : Int) (c : Nat) : SetTable.Probe := nth m (runAt m (SetTable.bits z % (m + 1)) (SetTable.bits z)) c
theorem prb_way (m : Nat) (z : Int) (c : Nat) : (prb m z c).j = way m z c := rfl
theorem prb_on (m : Nat) (z : Int) (c q : Nat) : nth m (prb m z c) q = prb m z (c + q) := (nth_add m c _ q).symm
theorem prb_clean (m : Nat) (z : Int) (c : Nat) : (prb m z c).dummy = none := by
  have go : ∀ (n : Nat) (p : SetTable.Probe), p.dummy = none → (nth m p n).dummy = none := by
    intro n
    induction n with
    | zero => exact fun p q => q
    | succ n ih =>
      intro p q
      refine ih (adv m p) ?_
      unfold adv
      split <;> exact q
  exact go c _ rfl
/-- what a search is after: the first free place, at K -/
structure Aim (t : SetTable) (z : Int) (K : Nat) : Prop where
  fuel : K < 10 * SetTable.turns t.mask
  free : way t.mask z K ∉ t.place.toList
  full : ∀ c, c < K → way t.mask z c ∈ t.place.toList
theorem look (R : SAt kd s.heap a L es ep t) (hx : kd.is s.heap k x) (hu : kd.room A) {K : Nat} (G : Aim t (kd.hash k) K) {Q : SetFound → Shared → Prop}
    (old : k ∈ L.map (·.2) → Q (.there none) s) (new : k ∉ L.map (·.2) → Q (.free (way t.mask (kd.hash k) K) false) s) (f : Nat) :
    ∀ (c : Nat) (st : Option SetTable.Probe), st.getD (t.probeStart (kd.hash k)) = prb t.mask (kd.hash k) c → c ≤ K → K - c < f →
      (∀ (i : Nat) p, L[i]? = some p → p.2 = k → ∃ c', c ≤ c' ∧ c' < K ∧ t.place.toList[i]? = some (way t.mask (kd.hash k) c')) →
      wpAny (model P w) A (setSearchFrom a (.ref x) (kd.hash k) true f st) Q E s := by
  obtain ⟨o, ho, hex, hd⟩ := R.ob
  induction f with
  | zero => exact fun _ _ _ _ z => absurd z (Nat.not_lt_zero _)
  | succ f ih =>
    intro c st hst hc hf left
    rw [setSearchFrom_succ]
    refine wpAny_bind (wpAny_setState_of ho hd R.fits ?_)
    dsimp only
    refine wp_if_neg R.gw ?_
    try refine wpAny_bind (wpAny_pure ?_)
    have sp := go_spec t R.tab.ris R.tab.dm (fun i => (es[i]?.map (·.1)).getD 0) (kd.hash k) (10 * SetTable.turns t.mask) (K - c) (prb t.mask (kd.hash k) c) (prb_clean _ _ _) (by have := G.fuel; omega)
      (fun q hq => by rw [prb_on, prb_way]; exact G.full _ (by omega)) (by rw [prb_on, prb_way, Nat.add_sub_cancel' hc]; exact G.free)
    simp only [prb_on, prb_way] at sp
    have pe : t.probe (fun i => (es[i]?.map (·.1)).getD 0) (kd.hash k) (st.getD (t.probeStart (kd.hash k))) = SetTable.probe.go t (fun i => (es[i]?.map (·.1)).getD 0) (kd.hash k) (10 * SetTable.turns t.mask) (prb t.mask (kd.hash k) c) := by
      rw [hst]; rfl
    rw [pe]
    rcases sp with ⟨q, i, hq, hi, hz, no, e⟩ | ⟨no, e⟩
    · rw [e]
      dsimp only
      obtain ⟨p, hp, hm⟩ := R.here hi
      have goOn : wpAny (model P w) A (searchRest a (.ref x) (kd.hash k) true f es t (way t.mask (kd.hash k) (c + q)) i (prb t.mask (kd.hash k) (c + (q + 1)))) Q E s := by
        unfold searchRest
        rw [R.at hp]
        dsimp only
        refine wpAny_bind (wpAny_holding (kd.eqBool hu (R.mem p hm) hx (wpAny_bind (wpAny_setState_of ho hd R.fits ?_))))
        dsimp only
        by_cases same : p.2 = k
        · exact wp_if_pos (by simp [same]) (wpAny_pure (old (List.mem_map.mpr ⟨p, hm, same⟩)))
        · refine wp_if_neg (by simp [same]) ?_
          try refine wpAny_bind (wpAny_pure ?_)
          rw [sameMem]
          dsimp only
          have hs := slot_live R.tab.ris hi
          simp only [if_true, hs, R.at hp]
          refine wpAny_bind (wpAny_isSame_ref_self (wpAny_bind (wpAny_pure ?_)))
          simp only [if_true]
          refine wp_if_neg (by simp [same]) (ih (c + (q + 1)) _ rfl (by omega) (by omega) fun i0 p0 h0 h1 => ?_)
          obtain ⟨c', b1, b2, b3⟩ := left i0 p0 h0 h1
          refine ⟨c', ?_, b2, b3⟩
          refine Classical.byContradiction fun z => ?_
          rcases Nat.lt_trichotomy c' (c + q) with y | y | y
          · exact no (c' - c) i0 (by omega) (by rw [Nat.add_sub_cancel' b1]; exact b3) ((R.code h0).trans (congrArg kd.hash h1))
          · subst y
            have s0 := slot_live R.tab.ris b3
            rw [hs] at s0
            injection s0 with s0
            rw [← s0, hp] at h0
            exact same ((congrArg Prod.snd (Option.some.inj h0)).trans h1)
          · omega
      by_cases hl : t.led = true
      · refine wp_if_neg (by simp [hl]) ?_
        try refine wpAny_bind (wpAny_pure ?_)
        exact goOn
      · refine wp_if_pos (by simp [hl]) (wpAny_bind (unseen hx (fun y hy => ?_) ?_))
        · obtain ⟨e', he, rfl⟩ := List.mem_map.mp hy
          have he2 : e' ∈ es.toList := by
            have : e' ∈ es ∧ e'.1 = kd.hash k := by simpa using he
            simpa using this.1
          rw [R.rows] at he2
          obtain ⟨p2, hp2, rfl⟩ := List.mem_map.mp he2
          exact ⟨p2.2, p2.1, rfl, R.mem p2 hp2⟩
        · refine wp_if_neg (by decide) ?_
          try refine wpAny_bind (wpAny_pure ?_)
          exact goOn
    · rw [e, Nat.add_sub_cancel' hc]
      dsimp only
      refine wpAny_pure (new fun hm => ?_)
      obtain ⟨p0, h0, h1⟩ := List.mem_map.mp hm
      obtain ⟨i0, hi0, e0⟩ := List.getElem_of_mem h0
      have h00 : L[i0]? = some p0 := by rw [List.getElem?_eq_getElem hi0, e0]
      obtain ⟨c', b1, b2, b3⟩ := left i0 p0 h00 h1
      exact no (c' - c) i0 (by omega) (by rw [Nat.add_sub_cancel' b1]; exact b3) ((R.code h00).trans (congrArg kd.hash h1))
theorem search (R : SAt kd s.heap a L es ep t) (hx : kd.is s.heap k x) (hu : kd.room A) {Q : SetFound → Shared → Prop} (old : k ∈ L.map (·.2) → Q (.there none) s)
    (new : ∀ K, k ∉ L.map (·.2) → Aim t (kd.hash k) K → Q (.free (way t.mask (kd.hash k) K) false) s) : wpAny (model P w) A (setSearch a (.ref x) (kd.hash k) true) Q E s := by
  have rm := R.room
  obtain ⟨K, f1, f2, f3⟩ := R.tab.first (by rw [hss, List.length_map]; omega) (kd.hash k)
  have big : 10 * SetTable.turns t.mask ≤ 1420 := by
    unfold SetTable.turns
    rcases R.tab.mok with e | e | e <;> omega
  unfold setSearch
  refine look R hx hu ⟨f1, f2, f3⟩ old (fun n => new K n ⟨f1, f2, f3⟩) 100000 0 none rfl (Nat.zero_le _) (by omega) fun i p hp hk => ?_
  have hi : (hss kd L)[i]? = some (kd.hash k) := by
    rw [hss, List.getElem?_map, hp, ← hk]
    rfl
  have il : i < t.place.toList.length := by
    rw [Array.length_toList, R.psize]
    exact (List.getElem?_eq_some_iff.mp hp).1
  have hj := List.getElem?_eq_getElem il
  obtain ⟨c, hc, e⟩ := R.tab.before f2 hi hj
  exact ⟨c, Nat.zero_le _, hc, by rw [hj, e]⟩
end
end SetH
namespace SetH
open PySem PySem.Spec PyProof.Rows L2
section
variable {P : Program} {w : World} {κ : Type} [DecidableEq κ] {kd : SKd P w κ} {A : Around} {E : Value → Shared → Prop} {s : Shared} {h h' : Heap} {a x : Addr} {k : κ} {L : List (Addr × κ)} {es : Array (Int × Value)} {ep : Nat} {t : SetTable}
/-- a list's items by their numbers, all of them once -/
theorem picked {α β γ : Type} (f : α → β) (g : α → γ) (d : γ) (L : List α) : ∀ (l : List Nat), (∀ i ∈ l, i < L.length) → ∃ L2 : List α, l.filterMap (fun i => (L.map f)[i]?) = L2.map f ∧ L2 = l.filterMap (fun i => L[i]?) ∧ L2.map g = l.map fun i => (L.map g).getD i d
  | [], _ => ⟨[], rfl, rfl, rfl⟩
  | i :: l, hl => by
    have hi := hl i List.mem_cons_self
    obtain ⟨L2, e1, e2, e3⟩ := picked f g d L l fun j hj => hl j (List.mem_cons_of_mem _ hj)
    have q : L[i]? = some L[i] := List.getElem?_eq_getElem hi
    refine ⟨L[i] :: L2, ?_, ?_, ?_⟩
    · rw [List.filterMap_cons_some (b := f L[i]) (by rw [List.getElem?_map, q]; rfl), e1]; rfl
    · rw [List.filterMap_cons_some q, e2]
    · have e4 : (L.map g).getD i d = g L[i] := by
        rw [List.getD_eq_getElem?_getD, List.getElem?_map, q]; rfl
      rw [List.map_cons, List.map_cons, e3, e4]
theorem picked_all {α : Type} (L : List α) : (List.range L.length).filterMap (fun i => L[i]?) = L := by
  have go : ∀ n, n ≤ L.length → (List.range n).filterMap (fun i => L[i]?) = L.take n := by
    intro n
    induction n with
    | zero => exact fun _ => rfl
    | succ n ih =>
      intro hn
      have q : L[n]? = some L[n] := List.getElem?_eq_getElem hn
      rw [List.range_succ, List.filterMap_append, ih (Nat.le_of_lt hn), List.filterMap_cons_some q, List.take_succ, q]
      rfl
  rw [go _ (Nat.le_refl _), List.take_length]
theorem reorder (hr : es.toList = rws kd L) {order : Array Nat} (hp : order.toList.Perm (List.range L.length)) :
    ∃ L2, (order.filterMap (es[·]?)).toList = rws kd L2 ∧ L2.Perm L ∧ hss kd L2 = order.toList.map fun i => (es.map (·.1)).getD i 0 := by
  obtain ⟨L2, e1, e2, e3⟩ := picked (fun p : Addr × κ => (kd.hash p.2, Value.ref p.1)) (fun p => kd.hash p.2) 0 L order.toList fun i hi => List.mem_range.mp (hp.mem_iff.mp hi)
  refine ⟨L2, ?_, ?_, ?_⟩
  · rw [Array.toList_filterMap, rws, ← e1]
    refine congrArg (fun f => order.toList.filterMap f) (funext fun i => ?_)
    rw [← Array.getElem?_toList, hr, rws]
  · rw [e2]
    have z := hp.filterMap (fun i => L[i]?)
    rw [picked_all L] at z
    exact z
  · rw [hss, e3]
    refine congrArg (fun f => order.toList.map f) (funext fun i => ?_)
    have q : (es.map (·.1)).toList = L.map fun p => kd.hash p.2 := by
      rw [Array.toList_map, hr, rws, List.map_map]; rfl
    rw [← q]
    simp [Array.getD_eq_getD_getElem?, List.getD_eq_getElem?_getD]
/-- a larger table for the same -/
theorem relay {o : Obj} (ho : s.heap.get? a = some o) (hex : o.ExactSet) (hd : o.data = .set es ep t) (hr : es.toList = rws kd L) (hsz : t.place.size = es.size) (hdm : t.dummies = #[]) (hfl : es.size ≤ t.mask) (nd : (L.map (·.2)).Nodup) (mem : ∀ p ∈ L, kd.is s.heap p.2 p.1) (pl : t.plain = true)
    (ld : w.params.followText "set-order" = true ∨ t.led = true) (few : L.length < 64) {wanted M : Nat} (hw : SetTable.sizeAbove wanted - 1 = M) (hM : MaskOk M) (h8 : SetTable.sizeAbove wanted ≤ 128) (hn : L.length * 5 < M * 3) {Q : Unit → Shared → Prop}
    (q : ∀ h' L' es' ep' t', Heap.SameBut a s.heap h' → SAt kd h' a L' es' ep' t' → L'.Perm L → Q () { s with heap := h' }) : wpAny (model P w) A (setRelay a wanted) Q E s := by
  have sz : es.size = L.length := by
    have z := congrArg List.length hr
    rw [Array.length_toList] at z
    exact z.trans (List.length_map ..)
  have fits : t.fits es.size = true := by
    unfold SetTable.fits SetTable.fill
    rw [hdm, Bool.and_eq_true, beq_iff_eq, decide_eq_true_eq]
    exact ⟨hsz, by show t.place.size + 0 ≤ t.mask; omega⟩
  obtain ⟨t', order, e, hp, T, em, el, ep', ed⟩ := relaid_ok t (hs := es.map (·.1)) (wanted := wanted) hw hM (by rw [Array.size_map, sz]; omega)
  rw [Array.size_map, sz] at hp
  obtain ⟨L2, r1, r2, r3⟩ := reorder hr hp
  rw [← r3] at T
  have sz2 : (order.filterMap (es[·]?)).size = es.size := by
    have z := congrArg List.length r1
    rw [Array.length_toList, rws, List.length_map, r2.length_eq] at z
    rw [z, sz]
  rw [setRelay_eq]
  refine wpAny_bind (wpAny_setState_of ho hd fits ?_)
  dsimp only
  refine wp_if_neg (by rw [sizeLine_eq]; omega) ?_
  try refine wpAny_bind (wpAny_pure ?_)
  rw [e]
  dsimp only
  refine wpAny_bind (wp_if_neg (by rw [sz2]; simp) ?_)
  try refine wpAny_bind (wpAny_pure ?_)
  refine wpAny_pure ?_
  dsimp only
  refine wpAny_storeSet_of ho hd ?_ (by rw [sz2, sz, sizeLine_eq]; omega)
  have sb : Heap.SameBut a s.heap (s.heap.update a (Obj.putSet (order.filterMap (es[·]?)) t')) := Heap.SameBut.update ..
  refine q _ L2 (order.filterMap (es[·]?)) (ep + 1) t' sb ⟨⟨r1, T, (r2.map (·.2)).nodup_iff.mpr nd, fun p hp => SKd.but (mem p (r2.mem_iff.mp hp)) ho hd sb, by rw [ep']; exact pl, by rw [el]; exact ld, by rw [r2.length_eq, em]; exact hn, by rw [r2.length_eq]; exact few⟩, _, store_at ho hd, ⟨hex.1, hex.2.1, hex.2.2⟩, rfl⟩ r2
/-- one more -/
theorem put (R : SAt kd s.heap a L es ep t) (hx : kd.is s.heap k x) (hu : kd.room A) (few : L.length + 1 < 64) {Q : Bool → Shared → Prop}
    (q : ∀ b h' L' es' ep' t', Heap.SameBut a s.heap h' → SAt kd h' a L' es' ep' t' → (k ∈ L.map (·.2) → L' = L) → (k ∉ L.map (·.2) → L'.Perm ((x, k) :: L)) → Q b { s with heap := h' }) : wpAny (model P w) A (setAddHashed a (.ref x) (kd.hash k)) Q E s := by
  obtain ⟨o, ho, hex, hd⟩ := R.ob
  have sz := R.size
  have rm := R.room
  unfold setAddHashed
  refine wpAny_holding ?_
  rw [show (100000 : Nat) = 99999 + 1 from rfl, setAddHashedIn_succ]
  refine wpAny_bind (wpAny_setState_of ho hd R.fits ?_)
  dsimp only
  refine wp_if_neg (by simp [byScan, Value.scannable]) ?_
  try refine wpAny_bind (wpAny_pure ?_)
  refine wpAny_bind (search R hx hu (fun hm => ?_) fun K hm G => ?_)
  · exact wpAny_pure (q false s.heap L es ep t (Heap.SameBut.refl a s.heap) R (fun _ => rfl) fun z => absurd hm z)
  · dsimp only
    refine wpAny_bind (wpAny_setState_of ho hd R.fits ?_)
    dsimp only
    obtain ⟨q1, q2, q3, q4, q5, q6, q7, q8, q9⟩ := R.tab.put G.free G.full
    have pl1 : (t.put (way t.mask (kd.hash k) K)).1.plain = true := by rw [q6]; exact R.plain
    generalize t.put (way t.mask (kd.hash k) K) = pt at q1 q3 q4 q5 q6 q7 q8 q9 pl1 ⊢
    obtain ⟨t1, p⟩ := pt
    dsimp only at q1 q3 q4 q5 q6 q7 q8 q9 pl1 ⊢
    subst q1
    first
      | refine wpAny_bind (wp_if_pos pl1 (kd.byVal hx ?_))
      | refine wp_if_pos pl1 (wpAny_bind (kd.byVal hx ?_))
    simp only [if_true]
    have er : (SetTable.insertAt es (SetTable.below t.place (way t.mask (kd.hash k) K)) (kd.hash k, Value.ref x)).toList = rws kd (L.take (SetTable.below t.place (way t.mask (kd.hash k) K)) ++ (x, k) :: L.drop (SetTable.below t.place (way t.mask (kd.hash k) K))) := by
      rw [SetTable.toList_insertAt, R.rows]
      simp only [rws, List.map_append, List.map_cons, List.map_take, List.map_drop]
    generalize SetTable.below t.place (way t.mask (kd.hash k) K) = p at q2 q3 er ⊢
    have pm := put_perm L p (x, k)
    have len := pm.length_eq
    rw [List.length_cons] at len
    have eh : (hss kd L).take p ++ kd.hash k :: (hss kd L).drop p = hss kd (L.take p ++ (x, k) :: L.drop p) := by
      simp only [hss, List.map_append, List.map_cons, List.map_take, List.map_drop]
    rw [eh] at q3
    have nd1 : ((L.take p ++ (x, k) :: L.drop p).map (·.2)).Nodup := (pm.map (·.2)).nodup_iff.mpr (List.nodup_cons.mpr ⟨hm, R.nd⟩)
    have es1 : (SetTable.insertAt es p (kd.hash k, Value.ref x)).size = L.length + 1 := by
      have z := congrArg List.length er
      rw [Array.length_toList, rws, List.length_map, len] at z
      exact z
    generalize SetTable.insertAt es p (kd.hash k, Value.ref x) = e1 at er es1 ⊢
    generalize L.take p ++ (x, k) :: L.drop p = L1 at pm len q3 nd1 er
    refine wpAny_bind (wpAny_storeSet_of ho hd ?_ (by rw [es1, sizeLine_eq]; omega))
    have sb : Heap.SameBut a s.heap (s.heap.update a (Obj.putSet e1 t1)) := Heap.SameBut.update ..
    have ho1 := store_at (es' := e1) (t' := t1) ho hd
    generalize s.heap.update a (Obj.putSet e1 t1) = h1 at sb ho1 ⊢
    have mem1 : ∀ p ∈ L1, kd.is h1 p.2 p.1 := fun p hp => by
      rcases List.mem_cons.mp (pm.mem_iff.mp hp) with e | hp
      · rw [e]; exact SKd.but hx ho hd sb
      · exact SKd.but (R.mem p hp) ho hd sb
    have ld1 : w.params.followText "set-order" = true ∨ t1.led = true := by rw [q5]; exact R.led
    have q9 : t1.fill = L.length + 1 := by rw [q9, hss, List.length_map]
    by_cases full : t1.tooFull = true
    · have hfull : (L.length + 1) * 5 ≥ t1.mask * 3 := by
        have z := full
        unfold SetTable.tooFull at z
        rw [decide_eq_true_eq, q9] at z
        exact z
      have two : (t.mask = 7 ∧ L.length = 4) ∨ (t.mask = 31 ∧ L.length = 18) := by
        rw [q4] at hfull
        rcases R.tab.mok with e | e | e
        · exact .inl ⟨e, by rw [e] at hfull rm; omega⟩
        · exact .inr ⟨e, by rw [e] at hfull rm; omega⟩
        · exfalso; rw [e] at hfull; omega
      have ps : t1.place.size = e1.size := by rw [q3.sz, hss, List.length_map, len, es1]
      have go : ∀ M, SetTable.sizeAbove (SetTable.grown (L.length + 1)) - 1 = M → MaskOk M → SetTable.sizeAbove (SetTable.grown (L.length + 1)) ≤ 128 → (L.length + 1) * 5 < M * 3 →
          wpAny (model P w) A (setRelay a (SetTable.grown (L.length + 1))) (fun _ s' => wpAny (model P w) A (pure true) Q E s') E { s with heap := h1 } := fun M m1 m2 m3 m4 => by
        refine relay (s := { s with heap := h1 }) ho1 ⟨hex.1, hex.2.1, hex.2.2⟩ rfl er ps q3.dm (by rw [es1, q4]; rcases two with ⟨e, e2⟩ | ⟨e, e2⟩ <;> omega) nd1 mem1 pl1 ld1 (by omega) m1 m2 m3 (by rw [len]; exact m4) ?_
        exact fun h2 L2 es2 ep2 t2 sb2 R2 pm2 => wpAny_pure (q true h2 L2 es2 ep2 t2 (sb.trans sb2) R2 (fun z => absurd z hm) fun _ => pm2.trans pm)
      first
        | refine wpAny_bind (wp_if_pos (by simp [full]) ?_)
        | refine wp_if_pos (by simp [full]) (wpAny_bind ?_)
      rw [sz]
      rcases two with ⟨_, e2⟩ | ⟨_, e2⟩
      · exact go 31 (by rw [e2, size_20]) (.inr (.inl rfl)) (by rw [e2, size_20]; decide) (by omega)
      · exact go 127 (by rw [e2, size_76]) (.inr (.inr rfl)) (by rw [e2, size_76]; decide) (by omega)
    · first
        | refine wp_if_neg (by simp [full]) ?_
        | refine wpAny_bind (wp_if_neg (by simp [full]) (wpAny_pure ?_))
      have z := full
      unfold SetTable.tooFull at z
      rw [decide_eq_true_eq, q9] at z
      exact wpAny_pure (q true h1 L1 e1 (ep + 1) t1 sb ⟨⟨er, q3, nd1, mem1, pl1, ld1, by omega, by omega⟩, _, ho1, ⟨hex.1, hex.2.1, hex.2.2⟩, rfl⟩ (fun z => absurd z hm) fun _ => pm)
/-- what it has got of the first i -/
structure Has (ks : List (Addr × κ)) (i : Nat) (L : List (Addr × κ)) : Prop where
  sub : ∀ p ∈ L, p ∈ ks.take i
  all : ∀ p ∈ ks.take i, p.2 ∈ L.map (·.2)
  len : L.length ≤ i
theorem Has.next {ks L' : List (Addr × κ)} {i : Nat} (g : Has ks i L) (e : ks[i]? = some (x, k)) (c1 : k ∈ L.map (·.2) → L' = L) (c2 : k ∉ L.map (·.2) → L'.Perm ((x, k) :: L)) : Has ks (i + 1) L' := by
  have tn : ks.take (i + 1) = ks.take i ++ [(x, k)] := take_next e
  by_cases hm : k ∈ L.map (·.2)
  · rw [c1 hm]
    refine ⟨fun p hp => by rw [tn]; exact List.mem_append_left _ (g.sub p hp), fun p hp => ?_, Nat.le_succ_of_le g.len⟩
    rw [tn] at hp
    rcases List.mem_append.mp hp with z | z
    · exact g.all p z
    · rw [List.mem_singleton.mp z]; exact hm
  · have pm := c2 hm
    refine ⟨fun p hp => ?_, fun p hp => ?_, by rw [pm.length_eq]; exact Nat.succ_le_succ g.len⟩
    · rw [tn]
      rcases List.mem_cons.mp (pm.mem_iff.mp hp) with z | z
      · rw [z]; exact List.mem_append_right _ (List.mem_singleton.mpr rfl)
      · exact List.mem_append_left _ (g.sub p z)
    · rw [(pm.map (·.2)).mem_iff, List.map_cons]
      rw [tn] at hp
      rcases List.mem_append.mp hp with z | z
      · exact List.mem_cons_of_mem _ (g.all p z)
      · rw [List.mem_singleton.mp z]; exact List.mem_cons_self
theorem SAt.keep (R : SAt kd h a L es ep t) (ha : ∀ o, h.get? a = some o → h'.get? a = some o) (hm : ∀ p ∈ L, kd.is h' p.2 p.1) : SAt kd h' a L es ep t := by
  obtain ⟨o, ho, r⟩ := R.ob
  exact ⟨R.toTbd.more hm, o, ha o ho, r⟩
abbrev set0 (w : World) : Obj := { cls := .type "set", dict := none, data := .set #[] 0 (.fresh 0 0 (!w.params.followText "set-order")) }
theorem fresh (ho : h.get? a = some (set0 w)) : SAt kd h a [] #[] 0 (.fresh 0 0 (!w.params.followText "set-order")) where
  rows := rfl
  tab := ⟨List.Pairwise.nil, rfl, rfl, .inl rfl, fun x hx => (by cases hx), fun i h j hi => (by simp [hss] at hi)⟩
  nd := List.nodup_nil
  mem := fun p hp => (by cases hp)
  plain := rfl
  led := by
    show _ ∨ (!w.params.followText "set-order") = true
    cases w.params.followText "set-order"
    · exact .inr rfl
    · exact .inl rfl
  room := by show 0 * 5 < 7 * 3; decide
  few := by show 0 < 64; decide
  ob := ⟨_, ho, ⟨rfl, rfl, rfl⟩, rfl⟩
end
end SetH
namespace SetH
open PySem PySem.Spec PyProof.Rows L2
section
variable {P : Program} {w : World} {κ : Type} [DecidableEq κ] {kd : SKd P w κ} {A : Around} {E : Value → Shared → Prop} {s : Shared} {h h' : Heap} {a x : Addr} {k : κ} {L : List (Addr × κ)} {es : Array (Int × Value)} {ep : Nat} {t : SetTable}
/-- what stands after the items up to i -/
def Mid (kd : SKd P w κ) (h0 : Heap) (S : Addr) (ks : List (Addr × κ)) (i : Nat) (h : Heap) : Prop := (∀ b o, h0.get? b = some o → h.get? b = some o) ∧ ∃ L es ep t, SAt kd h S L es ep t ∧ Has ks i L
theorem upd_loop {I : Addr} {fp wr : List Addr} {G : Array GenState → Array GenState → Prop} {n : Nat} {Pv : Nat → Value → Prop} {St : Nat → Shared → Prop} {R : Result → Shared → Prop} (W : WalksS P w A.in1 I fp wr G n Pv St) (S : Addr) (hS : S ∉ fp) (ks : List (Addr × κ)) (hn : n = ks.length) (few : ks.length < 64)
    (val : ∀ i v, Pv i v → ∃ p, ks[i]? = some p ∧ v = .ref p.1) (h0 : Heap) (mem : ∀ p ∈ ks, kd.is h0 p.2 p.1) (hS0 : h0.get? S = none) (hw0 : ∀ b ∈ wr, h0.get? b = none) (hu : kd.room A.in1) (m : Nat) :
    ∀ (i : Nat) (s : Shared), n - i = m → i ≤ n → St i s → Mid kd h0 S ks i s.heap → (∀ s', Moved (S :: wr) G s s' → Mid kd h0 S ks n s'.heap → R (.ok (.ret .none)) s') → codeAny (model P w) A (.builtin "set.update.loop" ⟨[.ref S, .ref I], []⟩) R s := by
  have hSw : S ∉ wr := fun z => hS (W.sub _ z)
  have wider : ∀ b ∈ wr, b ∈ S :: wr := fun b hb => List.mem_cons_of_mem _ hb
  have old : ∀ {s s' : Shared}, Moved wr G s s' → (∀ b o, h0.get? b = some o → s.heap.get? b = some o) → ∀ b o, h0.get? b = some o → s'.heap.get? b = some o := fun hm hk b o e => hm.heap b o (fun hb => by rw [hw0 b hb] at e; cases e) (hk b o e)
  have mid : ∀ {i : Nat} {s s' : Shared}, Moved wr G s s' → Mid kd h0 S ks i s.heap → Mid kd h0 S ks i s'.heap := fun {i s s'} hm md => by
    obtain ⟨hk, L, es, ep, t, R, g⟩ := md
    have hk' := old hm hk
    exact ⟨hk', L, es, ep, t, R.keep (fun o e => hm.heap S o hSw e) fun p hp => SKd.more (mem p (List.mem_of_mem_take (g.sub p hp))) hk', g⟩
  induction m with
  | zero =>
    intro i s hm hi st md fin
    have e : i = n := by omega
    subst e
    refine codeAny_builtin F.entry_set_update_loop ?_
    rw [Around.under_plainId F.plain_set_update_loop _]
    show wpAny _ A.in1 (pyNext (.ref I) >>= _) _ _ s
    refine wpAny_bind (W.done s _ _ st fun s' mv => ?_)
    show wpAny _ A.in1 (ret Value.none) _ _ s'
    exact wpAny_pure (fin s' (mv.mono wider) (mid mv md))
  | succ m ih =>
    intro i s hm hi st md fin
    have lt : i < n := by omega
    refine codeAny_builtin F.entry_set_update_loop ?_
    rw [Around.under_plainId F.plain_set_update_loop _]
    show wpAny _ A.in1 (pyNext (.ref I) >>= _) _ _ s
    refine wpAny_bind (W.item i s _ _ lt st fun v s' hP st' mv => ?_)
    obtain ⟨p, hp, rfl⟩ := val i v hP
    obtain ⟨hk', L, es, ep, t, R, g⟩ := mid mv md
    have hx : kd.is s'.heap p.2 p.1 := SKd.more (mem p (List.mem_of_getElem? hp)) hk'
    show wpAny _ A.in1 (holding [Value.ref p.1] (setAdd S (.ref p.1)) >>= _) _ _ s'
    refine wpAny_bind (wpAny_holding ?_)
    unfold setAdd
    refine wpAny_holding (wpAny_bind (kd.pyHash hu hx ?_))
    refine put (s := { s' with toks := s'.toks + kd.draws p.2 }) R hx hu (by have := g.len; omega) fun b h' L' es' ep' t' sb R2 c1 c2 => ?_
    have hk2 : ∀ b o, h0.get? b = some o → h'.get? b = some o := fun b o e => (sb.2 b (fun z => by rw [z, hS0] at e; cases e)).trans (hk' b o e)
    refine wpAny_pure ⟨plainId_quiet F.plain_set_update_loop _, ih (i + 1) _ (by omega) lt (W.frame _ s' _ _ st' (Nat.le_add_right _ _) fun b hb o e => ?_) ⟨hk2, L', es', ep', t', R2, g.next hp c1 c2⟩ fun s2 mv2 md2 => ?_⟩
    · rw [sb.2 b (fun z : b = S => hS (z ▸ hb))]; exact e
    · refine fin s2 (Moved.trans W.gtrans ((mv.mono wider).then_heap (Nat.le_add_right _ _) fun b o hb e => ?_) mv2) md2
      rw [sb.2 b (fun z : b = S => hb (z ▸ List.mem_cons_self))]; exact e
/-- set(xs) -/
theorem call_set {l : Addr} {items : Array Value} (ks : List (Addr × κ)) {Q : Value → Shared → Prop} (hh : A.handled = none) (hl : s.heap.IsList l items) (hit : items.toList = ks.map fun p => Value.ref p.1) (mem : ∀ p ∈ ks, kd.is s.heap p.2 p.1) (few : ks.length < 64) (hu : ∀ B : Around, B.units ≤ A.units + 8 → kd.room B)
    (q : ∀ (h' : Heap) (tk : Nat), Mid kd s.heap s.heap.objs.size ks ks.length h' → Q (.ref s.heap.objs.size) { s with heap := h', toks := tk }) : wpAny (model P w) A (call (.type "set") [.ref l]) Q E s := by
  have sz : items.size = ks.length := by
    have z := congrArg List.length hit
    rw [Array.length_toList, List.length_map] at z
    exact z
  obtain ⟨c, tl, hmro⟩ := F.called_set.mro
  have hmade := F.called_set.made
  have hsub := F.called_set.sub
  refine wpAny_call (codeAny_of_tree ?_)
  show wpAny _ _ (callAny (.type "set") _) _ _ _
  refine wpAny_pure ⟨Code.quiet_builtin _ (by decide +kernel), codeAny_builtin F.entry_type_call ?_⟩
  rw [Around.under_plain (weight_type_call_type "set" [.ref l] []) rfl]
  have h1 := F.called_set.notType
  have h2 := F.called_set.canCreate
  have hct := F.typeCall_set_1 (.ref l)
  repeat (any_goals (first | assumption | wp_step))
  refine codeAny_mono (code_set_led1 (.ref l) (E := E) (Q₁ := fun obj s₁ => obj = .ref s.heap.objs.size ∧ s₁ = { s with heap := s.heap.push (set0 w) }) ⟨rfl, rfl⟩) fun r s₁ hr => ?_
  match r, hr with
  | .error e, hr => exact hr
  | .ok .next, hr => exact hr.elim
  | .ok .brk, hr => exact hr.elim
  | .ok .cont, hr => exact hr.elim
  | .ok (.ret obj), hr =>
    obtain ⟨rfl, rfl⟩ := hr
    have hS : (s.heap.push (set0 w)).get? s.heap.objs.size = some (set0 w) := Heap.get?_push_size _ rfl
    have hT : Shared.TypeIs { s with heap := s.heap.push (set0 w) } (.ref s.heap.objs.size) "set" := ⟨_, hS, rfl⟩
    have hli := F.called_set.init.lookup
    have hbi := F.called_set.init.bind (.ref s.heap.objs.size)
    repeat (any_goals (first | assumption | wp_step))
    refine codeAny_mono (codeAny_call_builtin (R := wants (fun r s₂ => r = .none ∧ ∃ h' tk, s₂ = { s with heap := h', toks := tk } ∧ Mid kd s.heap s.heap.objs.size ks ks.length h') E) F.called_set.init.plain F.entry_set_init (check_set_init_1 hT ?_)) fun r₂ s₂ hr₂ => ?_
    · obtain ⟨ol, hol, hcl, nl, hdl⟩ := hl
      obtain ⟨ocls, odict, odata, oslots⟩ := ol
      simp only at hcl hdl
      subst hcl; subst hdl
      have hol' : (s.heap.push (set0 w)).get? l = some { cls := .type "list", dict := odict, data := .seq items nl, slots := oslots } := Heap.get?_push_of_some _ hol
      have hsls := F.sub_list_set
      have hslf := F.sub_list_frozenset
      have hne : (Value.type "list" == Value.type "dict") = false := by decide
      have hl1 : (s.heap.push (set0 w)).IsList l items := ⟨_, hol', rfl, nl, rfl⟩
      unfold Builtin.«set.__init__» noKeywords Builtin.Frozenset.updateFrom
      generalize hPI : pyIter = PI
      wp_walk
      subst hPI
      refine wpAny_pyIter_list hl1 (wpAny_bind (wpAny_runValue ?_))
      have lS : l < s.heap.objs.size := Heap.lt_size hol
      have hh3 : A.in1.in1.in1.handled = none := by simp [hh]
      have z1 : (s.heap.push (set0 w)).objs.size = s.heap.objs.size + 1 := Heap.size_push ..
      have gone : ∀ b, s.heap.objs.size ≤ b → s.heap.get? b = none := fun b hb => by
        cases e : s.heap.get? b with
        | none => rfl
        | some o => exact absurd (Nat.lt_of_lt_of_le (Heap.lt_size e) hb) (Nat.lt_irrefl _)
      refine upd_loop ((Walks.list hh3 _ l (by rw [z1]; exact Nat.ne_of_lt (Nat.lt_succ_of_lt lS)) items).toS) s.heap.objs.size (by rw [z1]; simp only [List.mem_cons, List.not_mem_nil, or_false, not_or]; exact ⟨Nat.ne_of_lt (Nat.lt_succ_self _), Nat.ne_of_gt lS⟩) ks sz few (fun i v hv => ?_) s.heap mem (gone _ (Nat.le_refl _)) (fun b hb => gone b (by rw [List.mem_singleton.mp hb, z1]; exact Nat.le_succ _))
        (hu _ (by first | (show A.units + 1 + 1 + 1 ≤ A.units + 8; omega) | (show A.units + 1 + 1 + 1 + 1 ≤ A.units + 8; omega) | (show A.units + 1 + 1 ≤ A.units + 8; omega))) (items.size - 0) 0 _ (by omega) (Nat.zero_le _) ⟨⟨_, Heap.get?_push_size _ rfl, rfl, rfl⟩, hl1.push _⟩ ⟨fun b o e => Heap.get?_push_of_some _ (Heap.get?_push_of_some _ e), [], #[], 0, _, fresh (Heap.get?_push_of_some _ hS), fun p hp => (by cases hp), fun p hp => (by simp at hp), Nat.le_refl _⟩ ?_
      · have e : items.toList[i]? = some v := by rw [Array.getElem?_toList]; exact hv
        rw [hit, List.getElem?_map] at e
        cases e2 : ks[i]? with
        | none => rw [e2] at e; cases e
        | some p => rw [e2] at e; exact ⟨p, rfl, (Option.some.inj e).symm⟩
      · intro s' mv md
        obtain ⟨h', g2, d', tk', os'⟩ := s'
        cases (show g2 = s.gens from mv.gens)
        cases (show d' = s.drawn from mv.drawn)
        cases (show os' = s.os from mv.os)
        show wpAny _ _ _ _ _ _
        refine wpAny_pure ?_
        show wpAny _ _ (ret Value.none) _ _ _
        rw [sz] at md
        exact wpAny_pure ⟨rfl, h', tk', rfl, md⟩
    · match r₂, hr₂ with
      | .error e, hr₂ => exact hr₂
      | .ok .next, hr₂ => exact hr₂.elim
      | .ok .brk, hr₂ => exact hr₂.elim
      | .ok .cont, hr₂ => exact hr₂.elim
      | .ok (.ret r), hr₂ =>
        obtain ⟨rfl, h', tk, rfl, md⟩ := hr₂
        repeat (any_goals (first | assumption | wp_step))
        exact q _ _ md
end
end SetH
namespace SetH
open PySem PySem.Spec PyProof.Rows L2 PySem.DLx
/-! sorted(set); pairs of tuples of ints as what sets hold -/
theorem perm_pre {α β : Type} {f : α → β} {l l' : List β} (p : l.Perm l') : ∀ L : List α, L.map f = l' → ∃ L1 : List α, L1.Perm L ∧ L1.map f = l := by
  induction p with
  | nil => exact fun L e => ⟨L, .refl _, e⟩
  | cons x p ih =>
    intro L e
    cases L with
    | nil => cases e
    | cons y L =>
      cases e
      obtain ⟨L1, p1, e1⟩ := ih L rfl
      exact ⟨y :: L1, p1.cons y, by rw [List.map_cons, e1]⟩
  | swap x y l =>
    intro L e
    match L, e with
    | a :: b :: L, e =>
      cases e
      exact ⟨b :: a :: L, .swap .., rfl⟩
  | trans p1 p2 ih1 ih2 =>
    intro L e
    obtain ⟨L2, q2, e2⟩ := ih2 L e
    obtain ⟨L1, q1, e1⟩ := ih1 L2 e2
    exact ⟨L1, q1.trans q2, e1⟩
section
variable {P : Program} {w : World} {κ : Type} [DecidableEq κ] {kd : SKd P w κ} {A : Around} {E : Value → Shared → Prop} {s : Shared} {h h' : Heap} {a x : Addr} {k : κ} {L : List (Addr × κ)} {es : Array (Int × Value)} {ep : Nat} {t : SetTable}
theorem each_refs : ∀ (L : List (Addr × κ)), PySem.W.EachIs (fun v (b : Addr × κ) => v = Value.ref b.1) (L.map fun p => Value.ref p.1) L
  | [] => .nil
  | p :: L => .cons rfl (each_refs L)
theorem each_er {enc : κ → PyData} : ∀ (L : List (Addr × κ)), (∀ p ∈ L, ∃ as, Reads h (.ref p.1) (enc p.2) as) → PySem.W.EachIs (fun v (b : Addr × κ) => ∃ as, Reads h v (enc b.2) as) (L.map fun p => Value.ref p.1) L
  | [], _ => .nil
  | p :: L, h => .cons (h p (by simp)) (each_er L fun q hq => h q (by simp [hq]))
/-- sorted(set) -/
theorem sorted_set (R : SAt kd s.heap a L es ep t) (hh : A.handled = none) (enc : κ → PyData) (er : ∀ p ∈ L, ∃ as, Reads s.heap (.ref p.1) (enc p.2) as) (hal : PySem.W.AllAlike (L.map fun p => enc p.2)) (hk : PySem.W.Sortable (L.map fun p => enc p.2)) (hu : ∀ p ∈ L, A.units + 4 + (enc p.2).depth < cLine) {Q : Value → Shared → Prop}
    (q : ∀ s' p (out : Array Value) (c : Nat) (L1 : List (Addr × κ)), (∀ b o, s.heap.get? b = some o → s'.heap.get? b = some o) → s'.gens = s.gens → s'.os = s.os → s.heap.objs.size ≤ p → s'.heap.get? p = some (seqObj "list" out c) → L1.Perm L →
      PySem.W.EachIs (fun v (b : Addr × κ) => v = Value.ref b.1) out.toList (L1.mergeSort (PySem.W.dataLe false fun b => enc b.2)) → Q (.ref p) s') : wpAny (model P w) A (call (.builtin "sorted") [.ref a]) Q E s := by
  obtain ⟨o, ho, hex, hd⟩ := R.ob
  have sz := R.size
  have few := R.few
  refine Calls.call_function_entry kind_sorted plain_sorted entry_sorted (args_sorted1 _) ?_
  unfold Builtin.«sorted»
  refine wpAny_bind (m := checkCount "sorted" 1 1 _) (wpAny_pure ?_)
  refine wpAny_bind (collect_set (A := A.in1) hh ⟨o, ho, hex.1, hd⟩ R.fits (by unfold scanBound; omega) R.tab.ris R.led fun s1 vs k1 hz g1 o1 pm => ?_)
  have ev : es.toList.map (·.2) = L.map fun q => Value.ref q.1 := by
    rw [R.rows, rws, List.map_map]; rfl
  rw [ev] at pm
  obtain ⟨L1, pL, rfl⟩ := perm_pre (f := fun q : Addr × κ => Value.ref q.1) pm L rfl
  have l1 : L1.length < 64 := by rw [pL.length_eq]; exact few
  generalize hvs : (L1.map fun q => Value.ref q.1) = vs
  have lv : vs.length = L1.length := by rw [← hvs, List.length_map]
  refine wpAny_bind (wpAny_newList ?_ (by rw [sizeLine_eq]; omega))
  have hoL : (s1.heap.push (seqObj "list" vs.toArray 0)).get? s1.heap.objs.size = some (seqObj "list" vs.toArray 0) := Heap.get?_push_size _ rfl
  have er1 : PySem.W.EachIs (fun v (b : Addr × κ) => ∃ as, Reads (PySem.W.sortingHeap (s1.heap.push (seqObj "list" vs.toArray 0)) s1.heap.objs.size vs) v (enc b.2) as) vs L1 := by
    rw [← hvs]
    refine each_er L1 fun p hp => ?_
    obtain ⟨as, r⟩ := er p (pL.mem_iff.mp hp)
    refine ⟨as, PyProof.Rows.Reads.keeps (fun b o e => ?_) r⟩
    have e1 := k1 b o e
    exact PySem.W.sortingHeap_old (Nat.ne_of_lt (Heap.lt_size e1)) (Heap.get?_push_of_some _ e1)
  have al1 : PySem.W.AllAlike (L1.map fun p => enc p.2) := fun d hd d' hd' => hal d ((pL.map _).mem_iff.mp hd) d' ((pL.map _).mem_iff.mp hd')
  have hk1 : PySem.W.Sortable (L1.map fun p => enc p.2) := hk.imp (fun z d hd => z d ((pL.map _).mem_iff.mp hd)) fun z d hd => z d ((pL.map _).mem_iff.mp hd)
  have ev1 : PySem.W.EachIs (fun v (b : Addr × κ) => v = Value.ref b.1) vs L1 := by rw [← hvs]; exact each_refs L1
  refine wpAny_bind (wpAny_holding (wpAny_call_entry slot_list_sort ⟨_, hoL, rfl⟩ entry_list_sort (PySem.W.list_sort_vals (s := { s1 with heap := s1.heap.push (seqObj "list" vs.toArray 0) }) (κ := PySem.W.dataKind (PySem.W.sortingHeap (s1.heap.push (seqObj "list" vs.toArray 0)) s1.heap.objs.size vs) (L1.map fun p => enc p.2)) hoL
    (PySem.W.SortsAt.data (s := { s1 with heap := PySem.W.sortingHeap (s1.heap.push (seqObj "list" vs.toArray 0)) s1.heap.objs.size vs }) (PySem.W.each_map (R := fun v d => ∃ as, Reads (PySem.W.sortingHeap (s1.heap.push (seqObj "list" vs.toArray 0)) s1.heap.objs.size vs) v d as) (fun b : Addr × κ => enc b.2) er1) al1 hk1 (fun d hd => ?_)) (by rw [lv, sizeLine_eq]; omega) ⟨.none, rfl, ?_⟩) (args_list_sort _)))
  · obtain ⟨p, hp, rfl⟩ := List.mem_map.mp hd
    have z := hu p (pL.mem_iff.mp hp)
    first | (show A.units + 1 + 1 + (enc p.2).depth < cLine; omega) | (show A.units + 1 + 1 + 1 + (enc p.2).depth < cLine; omega) | (show A.units + 1 + (enc p.2).depth < cLine; omega)
  · have eo := PySem.W.sortVals_data (h' := PySem.W.sortingHeap (s1.heap.push (seqObj "list" vs.toArray 0)) s1.heap.objs.size vs) (R := fun v (b : Addr × κ) => v = Value.ref b.1) (enc := fun b : Addr × κ => enc b.2) false ev1 er1 al1
    obtain ⟨c, hc⟩ := sortedHeap_at (out := (PySem.W.sortVals (PySem.W.dataKind (PySem.W.sortingHeap (s1.heap.push (seqObj "list" vs.toArray 0)) s1.heap.objs.size vs) (L1.map fun p => enc p.2)) false vs vs).toArray) hoL
    refine wpAny_pure ⟨_, rfl, q _ s1.heap.objs.size _ c L1 (fun b u e => ?_) g1 o1 hz hc pL (by simpa using eo)⟩
    have e1 := k1 b u e
    have lt := Heap.lt_size e1
    show (sortedHeap (s1.heap.push (seqObj "list" vs.toArray 0)) s1.heap.objs.size vs _).get? b = some u
    rw [sortedHeap_old (Nat.ne_of_lt lt) (by rw [size_push']; exact Nat.lt_succ_of_lt lt)]
    exact Heap.get?_push_of_some _ e1
end
end SetH
namespace SetH
open PySem PySem.Spec PyProof.Rows L2 PySem.DLx DL
/-! pairs of tuples of ints as what sets hold -/
section
variable {P : Program} {w : World} {A : Around} {E : Value → Shared → Prop} {s : Shared} {a : Addr}
theorem noCls_ints {n : Nat} {ks : List Int} {Q : Bool → Shared → Prop} (hk : IsTupleKey (intKind P w) s.heap ks a) (q : Q false s) : wpAny (model P w) A (ofAClassStatement (n + 1) (.ref a)) Q E s := by
  have hT := hk.typeIs
  obtain ⟨o, items, m, ho, _, hd, hi⟩ := hk
  unfold ofAClassStatement
  refine wpAny_bind (wpAny_typeOf hT ?_)
  dsimp only
  have e : (("tuple" : String) == "tuple") = true := by decide
  simp only [e, if_true, Bool.not_true, Bool.false_eq_true, if_false]
  try refine wpAny_bind (wpAny_pure ?_)
  try simp only [Bool.not_true, Bool.false_eq_true, if_false]
  show wpAny _ _ (seqItems? (.ref a) >>= _) _ _ s
  refine wpAny_bind (wpAny_seqItems ho hd ?_)
  dsimp only
  refine wpAny_bind ?_
  show wpAny _ _ (forIn items _ _) _ _ s
  rw [← Array.forIn_toList]
  refine wpAny_forIn_list _ (fun rest r s' => r.1 = none ∧ s' = s ∧ ∀ v ∈ rest, ∃ i t, v = Value.int i t) _ ?_ ?_ _ _ ⟨rfl, rfl, items_int hi⟩
  · rintro v rest r s' ⟨hr, rfl, all⟩
    obtain ⟨i, t, rfl⟩ := all v List.mem_cons_self
    rw [ofAClass_int]
    refine wpAny_bind (wpAny_pure ?_)
    simp only [Bool.false_eq_true, if_false]
    exact wpAny_pure ⟨rfl, rfl, fun u hu => all u (List.mem_cons_of_mem _ hu)⟩
  · rintro ⟨r1, r2⟩ s' ⟨hr, rfl, _⟩
    cases (show r1 = none from hr)
    exact wpAny_pure q
theorem byVal_ints {n : Nat} {ks : List Int} {Q : Bool → Shared → Prop} (hk : IsTupleKey (intKind P w) s.heap ks a) (q : Q true s) : wpAny (model P w) A (hashByValue (n + 1) (.ref a)) Q E s := by
  have hT := hk.typeIs
  obtain ⟨o, items, m, ho, _, hd, hi⟩ := hk
  unfold hashByValue
  refine wpAny_bind (wpAny_specialOf hT F.slot_tuple_hash.lookup ?_)
  show wpAny _ _ (seqItems? (.ref a) >>= _) _ _ s
  refine wpAny_bind (wpAny_seqItems ho hd (wpAny_bind ?_))
  show wpAny _ _ (forIn items _ _) _ _ s
  rw [← Array.forIn_toList]
  refine wpAny_forIn_list _ (fun rest r s' => r.1 = none ∧ s' = s ∧ ∀ v ∈ rest, ∃ i t, v = Value.int i t) _ ?_ ?_ _ _ ⟨rfl, rfl, items_int hi⟩
  · rintro v rest r s' ⟨hr, rfl, all⟩
    obtain ⟨i, t, rfl⟩ := all v List.mem_cons_self
    rw [hashBy_int]
    refine wpAny_bind (wpAny_pure ?_)
    simp only [Bool.not_true, Bool.false_eq_true, if_false]
    exact wpAny_pure ⟨rfl, rfl, fun u hu => all u (List.mem_cons_of_mem _ hu)⟩
  · rintro ⟨r1, r2⟩ s' ⟨hr, rfl, _⟩
    cases (show r1 = none from hr)
    exact wpAny_pure q
theorem noCls_pair {k : PK2} {Q : Bool → Shared → Prop} (hk : IsPairKey P w s.heap k a) (q : Q false s) : wpAny (model P w) A (ofAClassStatement 8 (.ref a)) Q E s := by
  have hT := hk.typ
  obtain ⟨o, n, b, c, ho, _, hd, h1, h2⟩ := hk
  unfold ofAClassStatement
  refine wpAny_bind (wpAny_typeOf hT ?_)
  dsimp only
  have e : (("tuple" : String) == "tuple") = true := by decide
  simp only [e, if_true, Bool.not_true, Bool.false_eq_true, if_false]
  try refine wpAny_bind (wpAny_pure ?_)
  try simp only [Bool.not_true, Bool.false_eq_true, if_false]
  show wpAny _ _ (seqItems? (.ref a) >>= _) _ _ s
  refine wpAny_bind (wpAny_seqItems ho hd ?_)
  dsimp only
  refine wpAny_bind ?_
  show wpAny _ _ (forIn (#[Value.ref b, .ref c] : Array Value) _ _) _ _ s
  rw [← Array.forIn_toList]
  simp only [List.forIn_cons, List.forIn_nil]
  refine wpAny_bind (wpAny_bind (noCls_ints (n := 6) h1 ?_))
  simp only [Bool.false_eq_true, if_false]
  refine wpAny_pure (wpAny_bind (wpAny_bind (noCls_ints (n := 6) h2 ?_)))
  simp only [Bool.false_eq_true, if_false]
  exact wpAny_pure (wpAny_pure (wpAny_pure q))
theorem byVal_pair {k : PK2} {Q : Bool → Shared → Prop} (hk : IsPairKey P w s.heap k a) (q : Q true s) : wpAny (model P w) A (hashByValue 8 (.ref a)) Q E s := by
  have hT := hk.typ
  obtain ⟨o, n, b, c, ho, _, hd, h1, h2⟩ := hk
  unfold hashByValue
  refine wpAny_bind (wpAny_specialOf hT F.slot_tuple_hash.lookup ?_)
  show wpAny _ _ (seqItems? (.ref a) >>= _) _ _ s
  refine wpAny_bind (wpAny_seqItems ho hd (wpAny_bind ?_))
  show wpAny _ _ (forIn (#[Value.ref b, .ref c] : Array Value) _ _) _ _ s
  rw [← Array.forIn_toList]
  simp only [List.forIn_cons, List.forIn_nil]
  refine wpAny_bind (wpAny_bind (byVal_ints (n := 6) h1 ?_))
  simp only [Bool.not_true, Bool.false_eq_true, if_false]
  refine wpAny_pure (wpAny_bind (wpAny_bind (byVal_ints (n := 6) h2 ?_)))
  simp only [Bool.not_true, Bool.false_eq_true, if_false]
  exact wpAny_pure (wpAny_pure (wpAny_pure q))
theorem ints_stay {h h' : Heap} {ks : List Int} (hk : IsTupleKey (intKind P w) h ks a) (st : ∀ c o, h.get? c = some o → (∀ es ep t, o.data ≠ .set es ep t) → h'.get? c = some o) : IsTupleKey (intKind P w) h' ks a := by
  obtain ⟨o, items, m, ho, hc, hd, hi⟩ := hk
  exact ⟨o, items, m, st _ _ ho (fun es ep t z => by rw [hd] at z; cases z), hc, hd, hi⟩
def pairS (P : Program) (w : World) : SKd P w PK2 := { pairKind P w with
  stays := fun {h h' k b} hk st => by
    obtain ⟨o, n, c, d, ho, hc, hd, h1, h2⟩ := hk
    exact ⟨o, n, c, d, st _ _ ho (fun es ep t z => by rw [hd] at z; cases z), hc, hd, ints_stay h1 st, ints_stay h2 st⟩
  noCls := fun hk q => noCls_pair hk q
  byVal := fun hk q => byVal_pair hk q }
end
/-- the set at a, without what it holds -/
def SetO (P : Program) (w : World) (a : Addr) (L : List (Addr × PK2)) : HO := .ext fun h => ∃ (es : Array (Int × Value)) (ep : Nat) (t : SetTable), (∃ o, h.get? a = some o ∧ o.ExactSet ∧ o.data = .set es ep t) ∧ es.toList = rws (pairS P w) L ∧ TabOk t (hss (pairS P w) L) ∧ (L.map (·.2)).Nodup ∧ t.plain = true ∧
  (w.params.followText "set-order" = true ∨ t.led = true) ∧ L.length * 5 < t.mask * 3 ∧ L.length < 64
variable [Tn]
/-- set(xs) of a list of pairs -/
def rSetP (K : Fg) (P : Program) (w : World) : List V → Hp → VK → Prop := fun xs H Q => ∃ (l : Addr) (ks : List (Addr × PK2)), xs = [V.ref l] ∧ SqL K H l (ks.map fun p => V.ref p.1) ∧ (∀ p ∈ ks, PairT K H p.1 p.2) ∧ ks.length < 64 ∧
  ∀ a L, H a = none → (∀ p ∈ L, p ∈ ks) → (∀ p ∈ ks, p.2 ∈ L.map (·.2)) → (L.map (·.2)).Nodup → Q (.ref a) (upd H a (SetO P w a L))
def pkP (k : PK2) : PyData := .tuple [.tuple (k.1.map .int), .tuple (k.2.map .int)]
/-- sorted(set) of pairs -/
def rSrtP (K : Fg) (P : Program) (w : World) : List V → Hp → VK → Prop := fun xs H Q => ∃ (a : Addr) (L : List (Addr × PK2)), xs = [V.ref a] ∧ H a = some (SetO P w a L) ∧ (∀ p ∈ L, PairT K H p.1 p.2 ∧ Dp K H (.ref p.1) (pkP p.2)) ∧
  ∀ (L1 : List (Addr × PK2)) p, L1.Perm L → H p = none → Q (.ref p) (upd H p (.lst ((L1.mergeSort (PySem.W.dataLe false fun b => pkP b.2)).map fun b => V.ref b.1)))
section
variable {X : Cx}
theorem vals_rf : ∀ (ks : List (Addr × PK2)) {us : List Value}, Vals (ks.map fun p => V.ref p.1) us → us = ks.map fun p => Value.ref p.1
  | [], _, .nil => rfl
  | p :: ks, _, .cons r t => by
    cases r
    rw [vals_rf ks t] <;> rfl
theorem cr_setP (hc : X.calm = true) (hu : X.A.units + 64 < cLine) : CallR X (.type "set") (rSetP X.K X.prog X.w) := by
  intro pins s σ H xs us Q I r h
  obtain ⟨l, ks, rfl, hl, hk, few, q⟩ := h
  rw [Vals.ref1 r]
  obtain ⟨its, rv, pl, hz⟩ := I.list hl
  have hn : H s.heap.objs.size = none := I.hok.fresh (Nat.le_refl _)
  refine call_set (kd := pairS X.prog X.w) ks (I.ok.hd hc) pl.isList (by simpa using vals_rf ks rv) (fun p hp => pair_of I (hk p hp)) few (fun B hB => by show B.units + 8 < cLine; omega) fun h' tk md => ?_
  obtain ⟨k1, L, es, ep, t, R, g⟩ := md
  have hb : (∃ (es : Array (Int × Value)) (ep : Nat) (t : SetTable), (∃ o, h'.get? s.heap.objs.size = some o ∧ o.ExactSet ∧ o.data = .set es ep t) ∧ es.toList = rws (pairS X.prog X.w) L ∧ TabOk t (hss (pairS X.prog X.w) L) ∧ (L.map (·.2)).Nodup ∧ t.plain = true ∧ (X.w.params.followText "set-order" = true ∨ t.led = true) ∧ L.length * 5 < t.mask * 3 ∧ L.length < 64) := ⟨es, ep, t, R.ob, R.rows, R.tab, R.nd, R.plain, R.led, R.room, R.few⟩
  have new : ObjOk X.prog X.w H h' s.heap.objs.size (SetO X.prog X.w s.heap.objs.size L) := by
    obtain ⟨o, ho, r⟩ := R.ob
    refine ⟨hb, ⟨o, ho⟩, fun h1 h2 p k => ?_⟩
    obtain ⟨es', ep', t', ⟨o', ho', r'⟩, q'⟩ := p
    exact ⟨es', ep', t', ⟨o', k o' ho', r'⟩, q'⟩
  exact ⟨.ref s.heap.objs.size, upd H s.heap.objs.size (SetO X.prog X.w s.heap.objs.size L), I.laid (t' := tk) k1 (Nat.le_refl _) new, rfl, q _ L hn (fun p hp => List.mem_of_mem_take (g.sub p hp)) (fun p hp => g.all p (by rw [List.take_length]; exact hp)) R.nd⟩
theorem alike_pk (a b : PK2) : PySem.W.alike (pkP a) (pkP b) = true := by
  unfold pkP
  simp [PySem.W.alike, PySem.W.alikeAll, PySem.W.alike_ints]
theorem depth_pk (a : PK2) : (pkP a).depth ≤ 8 := by
  have go : ∀ l : List Int, PyData.depthAll (l.map PyData.int) ≤ 1 := fun l => by
    induction l with
    | nil => simp [PyData.depthAll]
    | cons x l ih => simp [PyData.depthAll, PyData.depth]; try omega
  have h1 := go a.1
  have h2 := go a.2
  unfold pkP
  simp only [PyData.depth, PyData.depthAll]
  omega
theorem vals_of_each : ∀ {L : List (Addr × PK2)} {us : List Value}, PySem.W.EachIs (fun v (b : Addr × PK2) => v = Value.ref b.1) us L → Vals (L.map fun q => V.ref q.1) us
  | _, _, .nil => .nil
  | _, _, .cons a c => by subst a; exact .cons rfl (vals_of_each c)
theorem cr_srtP (hc : X.calm = true) (hu : X.A.units + 64 < cLine) : CallR X (.builtin "sorted") (rSrtP X.K X.prog X.w) := by
  intro pins s σ H xs us Q I r h
  obtain ⟨a, L, rfl, ha, hk, q⟩ := h
  have x : ObjOk X.prog X.w H s.heap a (SetO X.prog X.w a L) := I.hok a _ ha
  obtain ⟨es, ep, t, b1, b2, b3, b4, b5, b6, b7, b8⟩ := x.1
  have R : SAt (pairS X.prog X.w) s.heap a L es ep t := ⟨⟨b2, b3, b4, fun p hp => pair_of I (hk p hp).1, b5, b6, b7, b8⟩, b1⟩
  rw [Vals.ref1 r]
  refine sorted_set R (I.ok.hd hc) pkP (fun p hp => Dp.reads I _ _ _ (hk p hp).2 rfl) (PySem.W.AllAlike.of fun p q => alike_pk _ _) (.inl fun d hd => ?_) (fun p hp => by have := depth_pk p.2; omega) fun s' p out c L1 k g o hp hg pL eo => ?_
  · obtain ⟨p, _, rfl⟩ := List.mem_map.mp hd
    exact ⟨_, _, rfl⟩
  · have lo : (L1.mergeSort (PySem.W.dataLe false fun b => pkP b.2)).length < 64 := by rw [List.length_mergeSort, pL.length_eq]; exact b8
    have hn : H p = none := I.hok.fresh hp
    have J : Inv X pins σ (upd H p (.lst ((L1.mergeSort (PySem.W.dataLe false fun b => pkP b.2)).map fun q => V.ref q.1))) { s with heap := s'.heap, gens := s'.gens, drawn := s'.drawn, toks := s'.toks } :=
      I.call (ch := []) (Un.laid k hp hn) (I.hok.laid k hp ⟨by rw [List.length_map, sizeLine_eq]; omega, out.toList, c, vals_of_each eo, hg⟩) (by rw [g]; exact I.bare) (fun _ z => nomatch z)
    have e : s' = { s with heap := s'.heap, gens := s'.gens, drawn := s'.drawn, toks := s'.toks } := by
      cases s'
      cases s
      cases o
      rfl
    rw [e]
    exact ⟨.ref p, _, J, rfl, q L1 p pL hn⟩
end
end SetH
namespace SetH
open PySem PySem.Spec PyProof.Rows L2 PySem.DLx DL
variable [Tn]
/-! sorted(set(xs)) as a wish -/
theorem fold_put : ∀ (ks acc : List PK2), acc.Nodup → (ks.foldl putK2 acc).Nodup ∧ ∀ x, x ∈ ks.foldl putK2 acc ↔ x ∈ acc ∨ x ∈ ks
  | [], acc, h => ⟨h, fun x => by simp⟩
  | k :: ks, acc, h => by
    have h1 : (putK2 acc k).Nodup := by
      unfold putK2
      split
      · exact h
      · rename_i hn
        refine List.nodup_append.mpr ⟨h, by simp, fun a ha b hb e => ?_⟩
        rw [List.mem_singleton] at hb
        subst hb; subst e
        exact hn ha
    have h2 : ∀ x, x ∈ putK2 acc k ↔ x ∈ acc ∨ x = k := fun x => by
      unfold putK2
      split
      · rename_i hm
        exact ⟨.inl, fun z => z.elim id fun e => e ▸ hm⟩
      · simp
    obtain ⟨a, b⟩ := fold_put ks (putK2 acc k) h1
    refine ⟨a, fun x => (b x).trans ?_⟩
    rw [h2, List.mem_cons, or_assoc]
theorem eqv_pk {a b : PK2} (h : PyData.eqv (pkP a) (pkP b) = true) : a = b := by
  have same : ∀ l m : List Int, PyData.eqvAll (l.map PyData.int) (m.map PyData.int) = true → l = m := by
    intro l
    induction l with
    | nil => intro m h; cases m with
      | nil => rfl
      | cons y m => simp [PyData.eqvAll] at h
    | cons x l ih => intro m h; cases m with
      | nil => simp [PyData.eqvAll] at h
      | cons y m =>
        simp only [List.map_cons, PyData.eqvAll, PyData.eqv, Bool.and_eq_true] at h
        rw [ih m h.2, show x = y by simpa using h.1]
  unfold pkP at h
  simp only [PyData.eqv, PyData.eqvAll, Bool.and_eq_true, Bool.and_true] at h
  exact Prod.ext (same _ _ h.1) (same _ _ h.2)
theorem toks_pk {a b : PK2} (h : PySem.W.keyToks (pkP a) = PySem.W.keyToks (pkP b)) : a = b := by
  refine eqv_pk ?_
  cases e : PyData.eqv (pkP a) (pkP b) with
  | true => rfl
  | false =>
    have z := (PySem.W.toks_eqv _ _ (alike_pk a b)).2 e [] [Sum.inl 0]
    rw [h, PySem.W.lex_pre] at z
    have z1 : PyProof.Rows.lexLt itemOrd [] [Sum.inl 0] = false := z.trans (lex_irrefl _)
    cases z1
theorem le_anti {a b : PK2} (h1 : PySem.W.dataLe false pkP a b = true) (h2 : PySem.W.dataLe false pkP b a = true) : a = b := by
  have z1 : (!(PyProof.Rows.listOrd itemOrd).blt (PySem.W.keyToks (pkP b)) (PySem.W.keyToks (pkP a))) = true := h1
  have z2 : (!(PyProof.Rows.listOrd itemOrd).blt (PySem.W.keyToks (pkP a)) (PySem.W.keyToks (pkP b))) = true := h2
  exact toks_pk ((PyProof.Rows.listOrd itemOrd).total _ _ (by simpa using z2) (by simpa using z1))
theorem sort_perm {l m : List PK2} (p : l.Perm m) : l.mergeSort (PySem.W.dataLe false pkP) = m.mergeSort (PySem.W.dataLe false pkP) := by
  have T := PySem.W.sortLe_total (PyProof.Rows.listOrd itemOrd) false fun b : PK2 => PySem.W.keyToks (pkP b)
  have pw : ∀ l : List PK2, (l.mergeSort (PySem.W.dataLe false pkP)).Pairwise fun a b => PySem.W.dataLe false pkP a b = true := fun l =>
    List.pairwise_mergeSort (le := PySem.W.dataLe false pkP) (fun a b c h1 h2 => T.trans a b c h1 h2) (fun a b => Bool.or_eq_true_iff.mpr (T.total a b)) l
  exact List.Perm.eq_of_pairwise (fun a b _ _ h1 h2 => le_anti h1 h2) (pw l) (pw m) ((List.mergeSort_perm l _).trans (p.trans (List.mergeSort_perm m _).symm))
section
variable {K : Fg} {Z : Xt} {Γ : List SA} {O : Own} {n : Nat}
theorem py_pk (p : PK2) : DL.py (pkD p) = pkP p := by
  have go : ∀ l : List Int, pyL (l.map DV.int) = l.map PyData.int := fun l => by
    induction l with
    | nil => rfl
    | cons x l ih => simp [pyL, DL.py, ih]
  unfold pkD pkP
  simp [DL.py, pyL, go]
theorem py_ok (p : PK2) : isPy (pkD p) = true := by
  have go : ∀ l : List Int, isPyL (l.map DV.int) = true := fun l => by
    induction l with
    | nil => rfl
    | cons x l ih => simp [isPyL, isPy, ih]
  unfold pkD
  simp [isPy, isPyL, go]
theorem rp_pks {M : Hp} : ∀ {ks : List PK2} {vs : List V}, RpL K M vs (ks.map pkD) → ∃ xs : List (Addr × PK2), vs = xs.map (fun p => V.ref p.1) ∧ xs.map (·.2) = ks ∧ ∀ p ∈ xs, Rp K M (.ref p.1) (pkD p.2)
  | [], _, h => by
    cases h
    exact ⟨[], rfl, rfl, fun p hp => nomatch hp⟩
  | k :: ks, _, h => by
    cases h with
    | cons a c =>
      obtain ⟨xs, e1, e2, h3⟩ := rp_pks c
      obtain ⟨ad, _, rfl, _, _⟩ := id a.tup'
      refine ⟨(ad, k) :: xs, by rw [List.map_cons, e1], by rw [List.map_cons, e2], fun p hp => ?_⟩
      rcases List.mem_cons.mp hp with rfl | hp
      · exact a
      · exact h3 p hp
theorem rp_back {M : Hp} : ∀ {xs : List (Addr × PK2)}, (∀ p ∈ xs, Rp K M (.ref p.1) (pkD p.2)) → RpL K M (xs.map fun p => V.ref p.1) ((xs.map (·.2)).map pkD)
  | [], _ => .nil
  | p :: xs, h => .cons (h p (by simp)) (rp_back fun q hq => h q (by simp [hq]))
/-- the planes that stand in a list, each once, in order -/
def srtK (ks : List PK2) : List DV := ((ks.foldl putK2 []).map pkD).mergeSort (PySem.W.dataLe false DL.py)
theorem srtK_is (ks : List PK2) : srtK ks = ((ks.foldl putK2 []).mergeSort (PySem.W.dataLe false pkP)).map pkD :=
  (List.map_mergeSort (f := pkD) (r := PySem.W.dataLe false pkP) (s := PySem.W.dataLe false DL.py) (fun a _ b _ => by
    show PySem.W.dataLe false pkP a b = PySem.W.dataLe false DL.py (pkD a) (pkD b)
    show (!_) = (!_)
    show (!(PyProof.Rows.listOrd itemOrd).blt (PySem.W.keyToks (pkP b)) (PySem.W.keyToks (pkP a))) = (!(PyProof.Rows.listOrd itemOrd).blt (PySem.W.keyToks (DL.py (pkD b))) (PySem.W.keyToks (DL.py (pkD a))))
    rw [py_pk, py_pk])).symm
theorem wl_srtSet {P : Program} {w : World} {t : TE} {k : List DV → Nat → Prop} (h : W K Z t Γ O n fun d n1 => ∃ ks : List PK2, d = .lst (ks.map pkD) ∧ ks.length < 64 ∧ k (srtK ks) n1) :
    WL K Z (tCB (rSrtP K P w) (tCons (tCB (rSetP K P w) (tCons t tNil)) tNil)) Γ O n k := fun pn As H0 M H σ S Q c =>
  h pn As H0 M H σ S _ fun u M1 H1 d n1 e1 S1 r1 ⟨ks, ed, few, q⟩ => by
    subst ed
    obtain ⟨l, vs, rfl, g1, g2⟩ := r1.lst'
    obtain ⟨xs, rfl, rfl, h3⟩ := rp_pks g2
    rw [List.length_map] at few
    unfold tNil
    dsimp only
    refine ⟨l, xs, rfl, .inl (.inl (S1.ex _ _ g1)), fun p hp => pair_rp S1.ex (h3 p hp), few, fun a L ha sub all nd => ?_⟩
    have S2 := S1.lay (o := SetO P w a L) ha
    have hL : ∀ p ∈ L, Rp K M1 (.ref p.1) (pkD p.2) := fun p hp => h3 p (sub p hp)
    refine ⟨a, L, rfl, upd_same, fun p hp => ⟨pair_rp S2.ex (hL p hp), by rw [← py_pk]; exact (hL p hp).dp S2.ex (py_ok _)⟩, fun L1 b pL hb => ?_⟩
    have rr := rp_back (K := K) (M := M1) (xs := L1.mergeSort (PySem.W.dataLe false fun b => pkP b.2)) fun p hp => hL p (pL.mem_iff.mp (List.mem_mergeSort.mp hp))
    have em : ((L1.mergeSort (PySem.W.dataLe false fun b : Addr × PK2 => pkP b.2)).map (·.2)).map pkD = srtK (xs.map (·.2)) := by
      rw [srtK_is, List.map_mergeSort (f := fun b : Addr × PK2 => b.2) (r := PySem.W.dataLe false fun b : Addr × PK2 => pkP b.2) (s := PySem.W.dataLe false pkP) (fun a _ b _ => rfl)]
      refine congrArg (List.map pkD) (sort_perm ?_)
      obtain ⟨f1, f2⟩ := fold_put (xs.map (·.2)) [] List.nodup_nil
      refine (List.perm_ext_iff_of_nodup ((pL.map (·.2)).nodup_iff.mpr nd) f1).mpr fun x => ?_
      rw [(pL.map (·.2)).mem_iff, f2]
      constructor
      · intro hx
        obtain ⟨p, hp, rfl⟩ := List.mem_map.mp hx
        exact .inr (List.mem_map.mpr ⟨p, sub p hp, rfl⟩)
      · rintro (hx | hx)
        · cases hx
        · obtain ⟨p, hp, rfl⟩ := List.mem_map.mp hx
          exact all p hp
    rw [em] at rr
    exact wl_new S2 hb rr (fun p vs M4 H4 ds n4 e4 => c p vs M4 H4 ds n4 (e1.trans e4)) q
end
end SetH
namespace DL
open PySem PySem.Spec PyProof.Rows L2 PySem.DLx LamX StX
variable [Tn]
/-! own dicts: made by a call, read, stored into, frozen; chains a <= b <= c; xs * n of lists -/
section
variable {K : Fg} {Z : Xt} {pn : Option Addr} {As : List Addr} {H0 : Ent} {M M' H H' : Hp} {σ : L2.St} {Γ : List SA} {O : Own} {n m : Nat} {te ta tb tc : TE} {E : KE}
theorem Sta.slotOwnG (S : Sta K Z pn As H0 M H σ Γ O n) {i j : Nat} {o : OV} (h : Γ[i]? = some (.own j)) (ho : O[j]? = some (some o)) :
    ∃ a, σ[i]? = some (some (.ref a)) ∧ As[j]? = some a ∧ OwnAt K M H a o ∧ M a = none ∧ H0 a = none ∧ some a ≠ pn := by
  obtain ⟨a, h1, h2⟩ := S.ok i _ h
  obtain ⟨h3, h4, h5, h6⟩ := S.own j a _ h1 ho
  refine ⟨a, ?_, h1, h6, h3, h4, h5⟩
  cases e : σ[i]? with
  | none => rw [e] at h2; cases h2
  | some o => rw [e] at h2; exact congrArg some h2
theorem Sta.freezeG (S : Sta K Z pn As H0 M H σ Γ O n) {i j : Nat} {o : OV} {d : DV} (hi : Γ[i]? = some (.own j)) (ho : O[j]? = some (some o))
    (hr : ∀ (a : Addr), M a = none → OwnAt K M H a o → ∃ u, H a = some u ∧ NT u ∧ Rp K (upd M a u) (.ref a) d) :
    ∃ M', Ex M M' ∧ Sta K Z pn As H0 M' H σ (Γ.set i (.is d)) (O.set j none) n := by
  obtain ⟨a, h1, h2, h3, h5, h6, h7⟩ := S.slotOwnG hi ho
  obtain ⟨u, hu, nt, r⟩ := hr a h5 h3
  have ex : Ex M (upd M a u) := Evl.Ex.new h5
  refine ⟨_, ex, ⟨⟨fun b w h => ?_, S.gr, S.tb.frz hu nt, fun q hq => ?_⟩, fun l b fs g1 g2 => ?_, S.live, fun b h => ?_, S.nd, by simp [S.len], by simpa using S.sl, fun l t g => ?_, Evl.Ex.trans S.em ex, S.xo⟩⟩
  · by_cases hb : b = a
    · subst hb; rw [upd_same] at h; rw [← h]; exact hu
    · rw [upd_ne hb] at h; exact S.ex b w h
  · obtain ⟨g1, g2⟩ := S.pen q hq
    exact ⟨by rw [upd_ne (fun z => h7 (by rw [← z, hq]))]; exact g1, g2.mono ex rfl (Nat.le_refl _)⟩
  · by_cases hl : j = l
    · subst hl
      have hj : j < O.length := (List.getElem?_eq_some_iff.mp ho).1
      rw [List.getElem?_set_self hj] at g2
      cases g2
    · rw [List.getElem?_set_ne hl] at g2
      obtain ⟨f1, f2, f3, f4⟩ := S.own l b fs g1 g2
      refine ⟨?_, f2, f3, f4.mono ex rfl⟩
      rw [upd_ne]
      · exact f1
      · intro z
        subst z
        exact hl ((List.getElem?_inj (List.getElem?_eq_some_iff.mp h2).1 S.nd).mp (h2.trans g1.symm))
  · exact ⟨by rw [upd_ne (show b ≠ a from fun z => (S.pr b h).2.2 (by rw [z]; exact h6))]; exact (S.pr b h).1, (S.pr b h).2⟩
  · by_cases hj : i = l
    · subst hj
      have hi' : i < Γ.length := by
        have := (List.getElem?_eq_some_iff.mp g).1
        simpa using this
      rw [List.getElem?_set_self hi'] at g
      cases g
      exact ⟨.ref a, by rw [h1]; rfl, r⟩
    · rw [List.getElem?_set_ne hj] at g
      exact (S.ok l t g).mono ex
/-- an own dict that is not to be changed any more -/
theorem ws_freezeD {ts : TS} {i j : Nat} {ks : List Key} {ds : List DV} (hi : Γ[i]? = some (.own j)) (ho : O[j]? = some (some (.d ks ds))) (h : WS K Z ts (Γ.set i (.is (.dic ks ds))) (O.set j none) n E) : WS K Z ts Γ O n E := fun pn As H0 M H σ D S s => by
  obtain ⟨M', e, S'⟩ := S.freezeG (d := .dic ks ds) hi ho fun a h0 ⟨kvs, g1, g2, g3⟩ => ⟨_, g1, (fun _ z => nomatch z), .dic upd_same g2 (g3.mono (Evl.Ex.new h0))⟩
  exact h pn As H0 M' H σ D S' (s.on e)
/-- d['k'] of an own dict -/
theorem w_dgetOwn {i j : Nat} {ks : List Key} {ds : List DV} {x : DV} {k1 : Str} {k : DV → Nat → Prop} (hi : Γ[i]? = some (.own j)) (ho : O[j]? = some (some (.d ks ds))) (hf : (ks.zip ds).find? (fun z => decide (z.1 = (.inr k1 : Key))) = some (.inr k1, x)) (q : k x n) :
    W K Z (tDGet (tVar i) (tC (.str k1))) Γ O n k := by
  intro pn As H0 M H σ S Q c
  obtain ⟨a, h1, _, ⟨kvs, g1, g2, g3⟩, _⟩ := S.slotOwnG hi ho
  subst g2
  obtain ⟨y, f1, f2⟩ := rp_val g3 hf
  refine ⟨_, h1, a, y, rfl, ?_, c y M H x n (Evl.Ex.refl M) S f2 q⟩
  exact .inl ⟨kvs, .inr k1, .inl g1, rfl, f1.symm⟩
theorem put_map {v : V} {kk : Key} : ∀ (kvs : List (Key × V)) (i : Nat), (kvs.map (·.1))[i]? = some kk → (kvs.map (·.1)).Nodup → ((kvs.map fun kv => if kv.1 = kk then (kv.1, v) else kv).map (·.2)) = (kvs.map (·.2)).set i v
  | [], i, h, _ => by simp at h
  | p :: kvs, 0, h, hn => by
    have e : p.1 = kk := by simpa using h
    have hk : kk ∉ kvs.map (·.1) := by rw [← e]; exact (List.nodup_cons.mp hn).1
    have et : (kvs.map fun kv => if kv.1 = kk then (kv.1, v) else kv) = kvs := (List.map_congr_left fun kv hkv => if_neg fun z => hk (List.mem_map.mpr ⟨kv, hkv, z⟩)).trans (List.map_id _)
    rw [List.map_cons, et, if_pos e]; rfl
  | p :: kvs, i + 1, h, hn => by
    have h' : (kvs.map (·.1))[i]? = some kk := by simpa using h
    have e : p.1 ≠ kk := fun z => (List.nodup_cons.mp hn).1 (by show p.1 ∈ _; rw [z]; exact List.mem_of_getElem? h')
    rw [List.map_cons, if_neg e, List.map_cons, put_map kvs i h' (List.nodup_cons.mp hn).2]; rfl
theorem put_at {v : V} {d : DV} {kk : Key} {kvs : List (Key × V)} {ds : List DV} {i : Nat} (rv : Rp K M v d) (r : RpL K M (kvs.map (·.2)) ds) (h : (kvs.map (·.1))[i]? = some kk) (hn : (kvs.map (·.1)).Nodup) :
    (L2.putK kvs kk v).map (·.1) = kvs.map (·.1) ∧ RpL K M ((L2.putK kvs kk v).map (·.2)) (ds.set i d) := by
  have hm : (kvs.any fun kv => decide (kv.1 = kk)) = true := by
    obtain ⟨p, hp, e⟩ := List.mem_map.mp (List.mem_of_getElem? h)
    exact List.any_eq_true.mpr ⟨p, hp, decide_eq_true e⟩
  have ep : L2.putK kvs kk v = kvs.map fun kv => if kv.1 = kk then (kv.1, v) else kv := if_pos hm
  rw [ep]
  refine ⟨?_, ?_⟩
  · rw [List.map_map]
    refine List.map_congr_left fun kv _ => ?_
    show (if kv.1 = kk then (kv.1, v) else kv).1 = kv.1
    split <;> rfl
  · rw [put_map kvs i h hn]
    exact RpL.set rv i r
/-- d['k'] = x of an own dict that has it -/
theorem xg_setD {x : DV} {i j l : Nat} {k1 : Str} {ks : List Key} {ds : List DV} {k : List SA → Own → Nat → Prop} (hi : Γ[i]? = some (.own j)) (ho : O[j]? = some (some (.d ks ds))) (hl : ks[l]? = some (.inr k1)) (hn : ks.Nodup) (hz : ks.length < 100000) (q : k Γ (O.set j (some (.d ks (ds.set l x)))) n) :
    XG K Z (gSub (tVar i) (tC (.str k1)) rSetD) x Γ O n k := fun pn As H0 M H σ S v r Q c => by
  obtain ⟨a, h1, h2, ⟨kvs, g1, g2, g3⟩, h5, h6, h7⟩ := S.slotOwnG hi ho
  subst g2
  obtain ⟨p1, p2⟩ := put_at r g3 hl hn
  rw [List.length_map] at hz
  refine ⟨_, h1, a, _, rfl, DPut.k (k := .inr k1) g1 (Evl.sz_lt hz), c As M _ σ Γ _ n (List.prefix_refl _) (Evl.Ex.refl M) (S.setOwnG (ow := .d (kvs.map (·.1)) (ds.set l x)) h2 ho (S.tb.poke g1 (fun _ z => nomatch z) fun q z => nomatch z) ⟨_, upd_same, p1, p2⟩) q⟩
/-- a <= b <= c -/
theorem w_chain {r1 r2 : R2} {k : DV → Nat → Prop} (h : W K Z ta Γ O n fun x n1 => W K Z tb Γ O n1 fun y n2 => OW K r1 x y fun z => ∃ b, z = .bl b ∧ (b = false → k (.bl false) n2) ∧ (b = true → W K Z tc Γ O n2 fun w n3 => OW K r2 y w fun z => k z n3)) :
    W K Z (tChain r1 r2 ta tb tc) Γ O n k := fun pn As H0 M H σ S Q c =>
  h pn As H0 M H σ S _ fun v M1 H1 x n1 e1 S1 v1 h1 => h1 pn As H0 M1 H1 σ S1 _ fun u M2 H2 y n2 e2 S2 u2 h2 => h2 Z pn As H0 M2 H2 σ Γ O n2 S2 v u (v1.mono e2) u2 _ fun z M3 H3 d e3 S3 z3 ⟨b, eb, q0, q1⟩ => by
    subst eb
    cases z3
    refine ⟨b, rfl, ?_⟩
    cases b with
    | false => exact c _ M3 H3 _ n2 (Evl.Ex.trans e1 (Evl.Ex.trans e2 e3)) S3 (.bl _) (q0 rfl)
    | true => exact q1 rfl pn As H0 M3 H3 σ S3 _ fun t M4 H4 w n4 e4 S4 t4 h4 => h4 Z pn As H0 M4 H4 σ Γ O n4 S4 u t (u2.mono (Evl.Ex.trans e3 e4)) t4 Q fun z M5 H5 d e5 S5 z5 q5 => c z M5 H5 d n4 (Evl.Ex.trans e1 (Evl.Ex.trans e2 (Evl.Ex.trans e3 (Evl.Ex.trans e4 e5)))) S5 z5 q5
end
/-- with the pen ahead; a new dict comes back, nobody else's -/
def spPd (K : Fg) {α : Type} (pre : α → Prop) (args : α → List DV) (cost : α → Nat) (ks : List Key) (res : α → List DV → Prop) : Sp := fun vs H Q _ => ∃ (p : Addr) (us : List V) (M : Hp) (n : Nat) (a : α), pre a ∧ vs = .ref p :: us ∧ Ex M H ∧ Tb M H ∧ M p = none ∧ PenAt K M H p n ∧ n + cost a ≤ 1000000 ∧ RpL K M us (args a) ∧
  ∀ q M' H' ds, Ex M M' → Gr (some p) H H' → Ex M' H' → Tb M' H' → Thaw M H M' → PenAt K M' H' p (n + cost a) → H q = none → M' q = none → OwnAt K M' H' q (.d ks ds) → res a ds → Q (.ref q) H'
section
variable {K : Fg} {Z : Xt} {Γ : List SA} {O : Own} {n : Nat} {E : KE} {α : Type} {pre : α → Prop} {args : α → List DV} {cost : α → Nat} {ks : List Key} {res : α → List DV → Prop}
theorem ws_asgPd {E1 : XK} {tr : TA} {i l : Nat} (hi : Γ[i]? = some .pen) (h : WA K Z tr Γ O n fun ds n1 => ∃ a, ds = args a ∧ pre a ∧ n1 + cost a ≤ 1000000 ∧ ∀ es, res a es → E.nx (Γ.set l (.own O.length)) (O ++ [some (.d ks es)]) (n1 + cost a)) :
    WS K Z (tAsg (tCall (spPd K pre args cost ks res) [] E1 (tCons (tVar i) tr)) (gName l)) Γ O n E := fun pn As H0 M H σ D S s => by
  obtain ⟨p, h1, hpn⟩ := S.slotPen hi
  refine ⟨_, h1, h pn As H0 M H σ S _ fun vs M1 H1 ds n1 e1 S1 r1 ⟨a, ea, hpre, hn, q⟩ => ?_⟩
  subst ea
  obtain ⟨g1, g2⟩ := S1.pen p hpn
  refine ⟨p, vs, M1, n1, a, hpre, by rw [List.append_nil], S1.ex, S1.tb, g1, g2, hn, r1, fun b M' H' es e2 eh ex tb th pen hb mb ob hd => ?_⟩
  have S2 := S1.calledP hpn e2 eh ex tb th pen
  have hAs : b ∉ As := fun z => S1.live b z hb
  have hbn : some b ≠ pn := fun z => by
    rw [hpn] at z; cases z
    obtain ⟨_, _, _, _, h3, _⟩ := g2
    rw [hb] at h3; cases h3
  exact s.nx (As ++ [b]) M' H' _ _ _ _ (List.prefix_append _ _) (Evl.Ex.trans e1 e2) ((S2.addOwnG mb (S1.gr.back hb) hbn hAs ob).storeOwn (j := O.length) (by rw [← S2.len]; simp)) (q es hd)
/-- the body: what comes before the last statement breaks off, then the dict is made -/
theorem body_Pd {N : List Str} {vs : List V} {H : Hp} {Q : VK} {E : XK} {t : TS → TS} {k1 k2 k3 : Str} {i1 i2 i3 : Nat} (hk : ks = [.inr k1, .inr k2, .inr k3]) (h12 : k1 ≠ k2) (h13 : k1 ≠ k3) (h23 : k2 ≠ k3)
    (h : spPd K pre args cost ks res vs H Q E) (hw : ∀ Z a n, pre a → n + cost a ≤ 1000000 → WS K Z (t fun D σ H => D.bk σ H) (slotsP N (args a)) [] n { nx := fun _ _ _ => False, rt := fun _ _ _ => False, bk := fun Γ O m => m ≤ n + cost a ∧ ∃ d1 d2 d3, Γ[i1]? = some (.is d1) ∧ Γ[i2]? = some (.is d2) ∧ Γ[i3]? = some (.is d3) ∧ res a [d1, d2, d3] })
    (ht : ∀ (z : TS) (D : Ends), t z D = t (fun D σ H => D.bk σ H) { D with bk := fun σ H => z D σ H }) :
    t (tRet (tDisp [(tC (.str k1), tVar i1), (tC (.str k2), tVar i2), (tC (.str k3), tVar i3)])) { nx := fun _ H' => Q .non H', rt := Q } (L2.start N vs) H := by
  obtain ⟨p, us, M, n, a, hpre, rfl, e, tb, hp, pen, hn, r, c⟩ := h
  rw [ht]
  refine hw ⟨E, fun _ _ _ _ => False⟩ a n hpre hn (some p) [] ⟨H, fun a => H a ≠ none ∧ M a = none, M⟩ M H (L2.start N (.ref p :: us)) _ (enterP e tb hp pen r xok_no) ⟨?_, ?_, ?_, ?_⟩
  · exact fun _ _ _ _ _ _ _ _ _ _ q => q.elim
  · exact fun _ _ _ _ _ _ _ _ _ _ _ _ _ q => q.elim
  · rintro As M' H' σ Γ O m _ e1 S ⟨hm, d1, d2, d3, g1, g2, g3, hr⟩ b hb
    obtain ⟨v1, a1, r1⟩ := S.slot g1
    obtain ⟨v2, a2, r2⟩ := S.slot g2
    obtain ⟨v3, a3, r3⟩ := S.slot g3
    refine ⟨v1, a1, v2, a2, v3, a3, upd_same, [(.inr k1, v1), (.inr k2, v2), (.inr k3, v3)], rfl, by show 3 ≤ 15; decide, ?_⟩
    have em : mergeK [] [((.inr k1 : Key), v1), (.inr k2, v2), (.inr k3, v3)] = [(.inr k1, v1), (.inr k2, v2), (.inr k3, v3)] := by simp [mergeK, putK, h12, h13, h23]
    rw [em]
    have eH : upd (upd H' b (.dK [])) b (.dK [((.inr k1 : Key), v1), (.inr k2, v2), (.inr k3, v3)]) = upd H' b (.dK [(.inr k1, v1), (.inr k2, v2), (.inr k3, v3)]) := by
      funext z
      by_cases hz : z = b
      · subst hz; rw [upd_same, upd_same]
      · rw [upd_ne hz, upd_ne hz, upd_ne hz]
    rw [eH]
    have S2 := S.lay (o := .dK [((.inr k1 : Key), v1), (.inr k2, v2), (.inr k3, v3)]) hb
    refine c b M' _ [d1, d2, d3] e1 S2.gr S2.ex S2.tb (fun b h1 h2 => (S2.pr b ⟨h1, h2⟩).1) ((S2.pen p rfl).2.mono (Evl.Ex.refl _) rfl hm) (S.gr.back hb) (Evl.fresh_back S.ex hb) ?_ hr
    rw [hk]
    exact ⟨_, upd_same, rfl, .cons r1 (.cons r2 (.cons r3 .nil))⟩
  · exact fun _ _ _ _ _ _ _ _ _ _ q => q.elim
end
end DL
namespace K04
open PySem PySem.Spec PyProof.Rows L2 NdefX PySem.HandSPX PySem.DLx LamX StX DL
variable [Tn]
abbrev top (i : Nat) : Stmt := PySem.Challenge.pw_slidercuts_k04_whole_planes_of_halves.main.body.getD i (.Pass ⟨0, 0, 0, 0⟩)
def cbody (s : Stmt) (j : Nat) : Stmt := match s with
  | .ClassDef _ _ _ b _ _ _ _ _ _ _ => b.getD j (.Pass ⟨0, 0, 0, 0⟩)
  | _ => .Pass ⟨0, 0, 0, 0⟩
abbrev s_is_integer : Stmt := top 10
abbrev N_is_integer : List Str := ["value"]
abbrev P_is_integer : List Str := ["value"]
theorem sc_is_integer : FnScope N_is_integer P_is_integer (defScope s_is_integer) := ⟨rfl, rfl, rfl, by decide +kernel, rfl, by decide +kernel, by decide +kernel⟩
abbrev s_is_within : Stmt := top 11
abbrev N_is_within : List Str := ["value", "least", "most"]
abbrev P_is_within : List Str := ["value", "least", "most"]
theorem sc_is_within : FnScope N_is_within P_is_within (defScope s_is_within) := ⟨rfl, rfl, rfl, by decide +kernel, rfl, by decide +kernel, by decide +kernel⟩
abbrev s_is_listed : Stmt := top 12
abbrev N_is_listed : List Str := ["value"]
abbrev P_is_listed : List Str := ["value"]
theorem sc_is_listed : FnScope N_is_listed P_is_listed (defScope s_is_listed) := ⟨rfl, rfl, rfl, by decide +kernel, rfl, by decide +kernel, by decide +kernel⟩
abbrev s_are_integers : Stmt := top 13
abbrev N_are_integers : List Str := ["value", "many", "most", "part"]
abbrev P_are_integers : List Str := ["value", "many", "most"]
theorem sc_are_integers : FnScope N_are_integers P_are_integers (defScope s_are_integers) := ⟨rfl, rfl, rfl, by decide +kernel, rfl, by decide +kernel, by decide +kernel⟩
abbrev s_gcd_of : Stmt := top 15
abbrev N_gcd_of : List Str := ["numbers", "found", "number"]
abbrev P_gcd_of : List Str := ["numbers"]
theorem sc_gcd_of : FnScope N_gcd_of P_gcd_of (defScope s_gcd_of) := ⟨rfl, rfl, rfl, by decide +kernel, rfl, by decide +kernel, by decide +kernel⟩
abbrev s_plane_of : Stmt := top 22
abbrev N_plane_of : List Str := ["normal", "offset", "by", "part"]
abbrev P_plane_of : List Str := ["normal", "offset"]
theorem sc_plane_of : FnScope N_plane_of P_plane_of (defScope s_plane_of) := ⟨rfl, rfl, rfl, by decide +kernel, rfl, by decide +kernel, by decide +kernel⟩
abbrev s_is_half : Stmt := top 23
abbrev N_is_half : List Str := ["value", "dimension", "sliders", "part"]
abbrev P_is_half : List Str := ["value", "dimension", "sliders"]
theorem sc_is_half : FnScope N_is_half P_is_half (defScope s_is_half) := ⟨rfl, rfl, rfl, by decide +kernel, rfl, by decide +kernel, by decide +kernel⟩
abbrev s_is_word : Stmt := top 24
abbrev N_is_word : List Str := ["value"]
abbrev P_is_word : List Str := ["value"]
theorem sc_is_word : FnScope N_is_word P_is_word (defScope s_is_word) := ⟨rfl, rfl, rfl, by decide +kernel, rfl, by decide +kernel, by decide +kernel⟩
abbrev s_taken_by : Stmt := top 25
abbrev N_taken_by : List Str := ["word"]
abbrev P_taken_by : List Str := ["word"]
theorem sc_taken_by : FnScope N_taken_by P_taken_by (defScope s_taken_by) := ⟨rfl, rfl, rfl, by decide +kernel, rfl, by decide +kernel, by decide +kernel⟩
abbrev s_are_steps : Stmt := top 26
abbrev N_are_steps : List Str := ["value", "dimension", "sliders", "many", "step", "wants"]
abbrev P_are_steps : List Str := ["value", "dimension", "sliders"]
theorem sc_are_steps : FnScope N_are_steps P_are_steps (defScope s_are_steps) := ⟨rfl, rfl, rfl, by decide +kernel, rfl, by decide +kernel, by decide +kernel⟩
abbrev s_need_shape : Stmt := top 28
abbrev N_need_shape : List Str := ["value", "part"]
abbrev P_need_shape : List Str := ["value", "part"]
theorem sc_need_shape : FnScope N_need_shape P_need_shape (defScope s_need_shape) := ⟨rfl, rfl, rfl, by decide +kernel, rfl, by decide +kernel, by decide +kernel⟩
abbrev s_half : Stmt := top 29
abbrev N_half : List Str := ["normal", "offset", "part"]
abbrev P_half : List Str := ["normal", "offset"]
theorem sc_half : FnScope N_half P_half (defScope s_half) := ⟨rfl, rfl, rfl, by decide +kernel, rfl, by decide +kernel, by decide +kernel⟩
abbrev s_planes_of : Stmt := top 31
abbrev N_planes_of : List Str := ["shape"]
abbrev P_planes_of : List Str := ["shape"]
theorem sc_planes_of : FnScope N_planes_of P_planes_of (defScope s_planes_of) := ⟨rfl, rfl, rfl, by decide +kernel, rfl, by decide +kernel, by decide +kernel⟩
abbrev s_law_pen : Stmt := top 33
abbrev N_law_pen : List Str := ["script", "cell"]
abbrev P_law_pen : List Str := ["script"]
theorem sc_law_pen : FnScope N_law_pen P_law_pen (defScope s_law_pen) := ⟨rfl, rfl, rfl, by decide +kernel, rfl, by decide +kernel, by decide +kernel⟩
abbrev s_law_draw : Stmt := top 34
abbrev N_law_draw : List Str := ["pen", "many", "digit", "at", "cell", "great", "blend"]
abbrev P_law_draw : List Str := ["pen", "many"]
theorem sc_law_draw : FnScope N_law_draw P_law_draw (defScope s_law_draw) := ⟨rfl, rfl, rfl, by decide +kernel, rfl, by decide +kernel, by decide +kernel⟩
abbrev s_law_pick : Stmt := top 35
abbrev N_law_pick : List Str := ["pen", "some"]
abbrev P_law_pick : List Str := ["pen", "some"]
theorem sc_law_pick : FnScope N_law_pick P_law_pick (defScope s_law_pick) := ⟨rfl, rfl, rfl, by decide +kernel, rfl, by decide +kernel, by decide +kernel⟩
abbrev s_law_gcd : Stmt := top 36
abbrev N_law_gcd : List Str := ["one", "other"]
abbrev P_law_gcd : List Str := ["one", "other"]
theorem sc_law_gcd : FnScope N_law_gcd P_law_gcd (defScope s_law_gcd) := ⟨rfl, rfl, rfl, by decide +kernel, rfl, by decide +kernel, by decide +kernel⟩
abbrev s_law_sign : Stmt := top 37
abbrev N_law_sign : List Str := ["number"]
abbrev P_law_sign : List Str := ["number"]
theorem sc_law_sign : FnScope N_law_sign P_law_sign (defScope s_law_sign) := ⟨rfl, rfl, rfl, by decide +kernel, rfl, by decide +kernel, by decide +kernel⟩
abbrev s_law_plane : Stmt := top 38
abbrev N_law_plane : List Str := ["normal", "offset", "by", "part"]
abbrev P_law_plane : List Str := ["normal", "offset"]
theorem sc_law_plane : FnScope N_law_plane P_law_plane (defScope s_law_plane) := ⟨rfl, rfl, rfl, by decide +kernel, rfl, by decide +kernel, by decide +kernel⟩
abbrev s_law_planes : Stmt := top 39
abbrev N_law_planes : List Str := ["plain", "step"]
abbrev P_law_planes : List Str := ["plain"]
theorem sc_law_planes : FnScope N_law_planes P_law_planes (defScope s_law_planes) := ⟨rfl, rfl, rfl, by decide +kernel, rfl, by decide +kernel, by decide +kernel⟩
abbrev s_law_half : Stmt := top 40
abbrev N_law_half : List Str := ["pen", "dimension", "sliders", "pool", "normal", "way", "offset", "at", "part"]
abbrev P_law_half : List Str := ["pen", "dimension", "sliders"]
theorem sc_law_half : FnScope N_law_half P_law_half (defScope s_law_half) := ⟨rfl, rfl, rfl, by decide +kernel, rfl, by decide +kernel, by decide +kernel⟩
abbrev s_law_plain : Stmt := top 41
abbrev N_law_plain : List Str := ["pen", "dimension", "sliders", "most", "halves", "turn", "word", "normal", "offset", "way", "steps", "step", "part"]
abbrev P_law_plain : List Str := ["pen", "dimension", "sliders", "most"]
theorem sc_law_plain : FnScope N_law_plain P_law_plain (defScope s_law_plain) := ⟨rfl, rfl, rfl, by decide +kernel, rfl, by decide +kernel, by decide +kernel⟩
abbrev s_law_made : Stmt := top 42
abbrev N_law_made : List Str := ["plain"]
abbrev P_law_made : List Str := ["plain"]
theorem sc_law_made : FnScope N_law_made P_law_made (defScope s_law_made) := ⟨rfl, rfl, rfl, by decide +kernel, rfl, by decide +kernel, by decide +kernel⟩
abbrev s_law_heard : Stmt := top 43
abbrev N_law_heard : List Str := ["ask", "caught", "error"]
abbrev P_law_heard : List Str := ["ask"]
theorem sc_law_heard : FnScope N_law_heard P_law_heard (defScope s_law_heard) := ⟨rfl, rfl, rfl, by decide +kernel, rfl, by decide +kernel, by decide +kernel⟩
abbrev s_law : Stmt := top 44
abbrev N_law : List Str := ["script", "pen", "turn", "dimension", "sliders", "plain", "times", "made", "due", "word", "normal", "offset", "one", "less", "bad", "none", "step", "part"]
abbrev P_law : List Str := ["script"]
theorem sc_law : FnScope N_law P_law (defScope s_law) := ⟨rfl, rfl, rfl, by decide +kernel, rfl, by decide +kernel, by decide +kernel⟩
abbrev s_Shape_init : Stmt := cbody (top 27) 0
abbrev N_Shape_init : List Str := ["self", "dimension", "sliders", "steps", "halves", "step", "part", "word", "normal", "offset"]
abbrev P_Shape_init : List Str := ["self", "dimension", "sliders", "steps"]
theorem sc_Shape_init : FnScope N_Shape_init P_Shape_init (defScope s_Shape_init) := ⟨rfl, rfl, rfl, by decide +kernel, rfl, by decide +kernel, by decide +kernel⟩
abbrev s_Shape_eq : Stmt := cbody (top 27) 1
abbrev N_Shape_eq : List Str := ["self", "other"]
abbrev P_Shape_eq : List Str := ["self", "other"]
theorem sc_Shape_eq : FnScope N_Shape_eq P_Shape_eq (defScope s_Shape_eq) := ⟨rfl, rfl, rfl, by decide +kernel, rfl, by decide +kernel, by decide +kernel⟩
abbrev s_BadShape_init : Stmt := cbody (top 5) 0
theorem sc_BadShape_init : NScope ["self", "part", "__class__"] ["self", "part"] ["__class__"] (defScope s_BadShape_init) := nscope_by (by decide +kernel)
abbrev s_BadValue_init : Stmt := cbody (top 6) 0
theorem sc_BadValue_init : NScope ["self", "part", "__class__"] ["self", "part"] ["__class__"] (defScope s_BadValue_init) := nscope_by (by decide +kernel)
abbrev s_TooMany_init : Stmt := cbody (top 7) 0
theorem sc_TooMany_init : NScope ["self", "what", "most", "__class__"] ["self", "what", "most"] ["__class__"] (defScope s_TooMany_init) := nscope_by (by decide +kernel)
theorem kw_half_0_offset_normal : KwOk "half" s_half P_half 0 ["offset", "normal"] (perm [1, 0]) := fun _ _ _ _ _ _ us ws h1 h2 => match us, ws, h1, h2 with | [], [_, _], _, _ => rfl
theorem kw_planes_of_0_shape : KwOk "planes_of" s_planes_of P_planes_of 0 ["shape"] (perm [0]) := fun _ _ _ _ _ _ us ws h1 h2 => match us, ws, h1, h2 with | [], [_], _, _ => rfl
theorem kwi_Shape_3_ : KwOkI "Shape.__init__" s_Shape_init ["self", "dimension", "sliders", "steps"] 4 [] (perm (0 :: List.map (· + 1) [0, 1, 2])) := fun _ _ _ _ _ _ us ws h1 h2 => match us, ws, h1, h2 with | [_, _, _, _], [], _, _ => rfl
theorem bn_BadShape : BnOk s_BadShape_init ("self" :: ["part"]) := fun F doc pm ctv us e hl => by
  obtain ⟨nm, q, pa, b, sc, cl, c⟩ := F
  cases (show pa = defArgs s_BadShape_init from e)
  match us, hl with | [_, _], _ => rfl
theorem bn_BadValue : BnOk s_BadValue_init ("self" :: ["part"]) := fun F doc pm ctv us e hl => by
  obtain ⟨nm, q, pa, b, sc, cl, c⟩ := F
  cases (show pa = defArgs s_BadValue_init from e)
  match us, hl with | [_, _], _ => rfl
theorem bn_TooMany : BnOk s_TooMany_init ("self" :: ["what", "most"]) := fun F doc pm ctv us e hl => by
  obtain ⟨nm, q, pa, b, sc, cl, c⟩ := F
  cases (show pa = defArgs s_TooMany_init from e)
  match us, hl with | [_, _, _], _ => rfl
structure Cs where
  (c_CutError c_BadInput c_Refused c_BadShape c_BadValue c_TooMany c_Shape f_init f_eq g_ALONE g_ENDS g_PAIRS k_law p_law : Addr)
/-- what the top has left -/
structure Txt (P : Program) (K : Fg) (mg : Str → Option Value) (base : Heap) (cs : Cs) : Prop where
  a_is_integer : At K mg "is_integer" s_is_integer P_is_integer
  a_is_within : At K mg "is_within" s_is_within P_is_within
  a_is_listed : At K mg "is_listed" s_is_listed P_is_listed
  a_are_integers : At K mg "are_integers" s_are_integers P_are_integers
  a_gcd_of : At K mg "gcd_of" s_gcd_of P_gcd_of
  a_plane_of : At K mg "plane_of" s_plane_of P_plane_of
  a_is_half : At K mg "is_half" s_is_half P_is_half
  a_is_word : At K mg "is_word" s_is_word P_is_word
  a_taken_by : At K mg "taken_by" s_taken_by P_taken_by
  a_are_steps : At K mg "are_steps" s_are_steps P_are_steps
  a_need_shape : AtD K mg "need_shape" s_need_shape P_need_shape [.str "shape"]
  a_half : At K mg "half" s_half P_half
  a_planes_of : At K mg "planes_of" s_planes_of P_planes_of
  a_law_pen : At K mg "_law_pen" s_law_pen P_law_pen
  a_law_draw : At K mg "_law_draw" s_law_draw P_law_draw
  a_law_pick : At K mg "_law_pick" s_law_pick P_law_pick
  a_law_gcd : At K mg "_law_gcd" s_law_gcd P_law_gcd
  a_law_sign : At K mg "_law_sign" s_law_sign P_law_sign
  a_law_plane : At K mg "_law_plane" s_law_plane P_law_plane
  a_law_planes : At K mg "_law_planes" s_law_planes P_law_planes
  a_law_half : At K mg "_law_half" s_law_half P_law_half
  a_law_plain : At K mg "_law_plain" s_law_plain P_law_plain
  a_law_made : At K mg "_law_made" s_law_made P_law_made
  a_law_heard : At K mg "_law_heard" s_law_heard P_law_heard
  a_law : AtC K mg "law" s_law P_law cs.k_law
  n_abs : mg "abs" = none
  n_all : mg "all" = none
  n_any : mg "any" = none
  n_bool : mg "bool" = none
  n_int : mg "int" = none
  n_isinstance : mg "isinstance" = none
  n_len : mg "len" = none
  n_list : mg "list" = none
  n_range : mg "range" = none
  n_repr : mg "repr" = none
  n_set : mg "set" = none
  n_sorted : mg "sorted" = none
  n_str : mg "str" = none
  n_tuple : mg "tuple" = none
  m_gcd : mg "gcd" = some (.builtin "math.gcd")
  m_CutError : mg "CutError" = some (.ref cs.c_CutError)
  m_BadInput : mg "BadInput" = some (.ref cs.c_BadInput)
  m_Refused : mg "Refused" = some (.ref cs.c_Refused)
  m_BadShape : mg "BadShape" = some (.ref cs.c_BadShape)
  m_BadValue : mg "BadValue" = some (.ref cs.c_BadValue)
  m_TooMany : mg "TooMany" = some (.ref cs.c_TooMany)
  m_Shape : mg "Shape" = some (.ref cs.c_Shape)
  e_BadShape : ErrT P K mg s_BadShape_init cs.c_BadShape ["part"]
  e_BadValue : ErrT P K mg s_BadValue_init cs.c_BadValue ["part"]
  e_TooMany : ErrT P K mg s_TooMany_init cs.c_TooMany ["what", "most"]
  tb_law : TabB base mg cs.k_law cs.p_law
  g_ALONE : mg "ALONE" = some (.ref cs.g_ALONE)
  k_ALONE : KTup K cs.g_ALONE ["not", "closed", "inside", "skin", "solid"]
  g_ENDS : mg "ENDS" = some (.ref cs.g_ENDS)
  k_ENDS : KTup K cs.g_ENDS ["all", "none"]
  g_MOST_INTEGER : ∃ t, mg "MOST_INTEGER" = some (.int 1000000 t)
  g_MOST_SLIDERS : ∃ t, mg "MOST_SLIDERS" = some (.int 2 t)
  g_MOST_STEPS : ∃ t, mg "MOST_STEPS" = some (.int 60 t)
  g_PAIRS : mg "PAIRS" = some (.ref cs.g_PAIRS)
  k_PAIRS : KTup K cs.g_PAIRS ["and", "or", "less", "either"]
  sysm : ∃ o, base.get? sysModules = some o
end K04
namespace K04
open PySem PySem.Spec PyProof.Rows L2 NdefX PySem.HandSPX PySem.DLx LamX StX DL
variable [Tn]
/-! which data are what: integers, listed ones, within bounds, halves, words, steps -/
mutual
def gd : DV → Bool
  | .non => true
  | .bl _ => true
  | .int _ => true
  | .str _ => true
  | .tup ds => decide (ds.length ≤ 1000) && gdL ds
  | .lst ds => decide (ds.length ≤ 1000) && gdL ds
  | .dic _ _ => true
  | .ty _ => false
  | .adr _ => false
  | .ins _ _ _ => false
  | .exc _ _ _ => false
def gdL : List DV → Bool
  | [] => true
  | d :: ds => gd d && gdL ds
end
theorem gdL_mem : ∀ {ds : List DV} {d : DV}, gdL ds = true → d ∈ ds → gd d = true
  | d :: ds, e, h, hm => by
    have h' : gd d = true ∧ gdL ds = true := by simpa [gdL] using h
    rcases List.mem_cons.mp hm with rfl | hm
    · exact h'.1
    · exact gdL_mem h'.2 hm
theorem gdL_all : ∀ {ds : List DV}, (∀ d ∈ ds, gd d = true) → gdL ds = true
  | [], _ => rfl
  | d :: ds, h => by simp only [gdL, Bool.and_eq_true]; exact ⟨h d (by simp), gdL_all fun x hx => h x (by simp [hx])⟩
def isInt : DV → Bool
  | .int _ => true
  | _ => false
def listed : DV → Bool
  | .lst _ => true
  | .tup _ => true
  | _ => false
def seqOf : DV → List DV
  | .lst xs => xs
  | .tup xs => xs
  | _ => []
def within (d : DV) (lo hi : Int) : Bool :=
  match d with
  | .int i => decide (lo ≤ i) && decide (i ≤ hi)
  | _ => false
def intOf : DV → Int
  | .int i => i
  | _ => 0
def intsOk (d : DV) (m b : Int) : Bool := listed d && (decide (((seqOf d).length : Int) = m) && (seqOf d).all fun x => within x (-b) b)
def isStr : DV → Bool
  | .str _ => true
  | _ => false
def strOf : DV → Str
  | .str s => s
  | _ => ""
def MI : Int := 1000000
def halfOk (d : DV) (n k : Int) : Bool := listed d &&
  match seqOf d with
  | [a, b, c] => isStr a && decide (strOf a = "half") && (intsOk b n MI && intsOk c (1 + k) MI && (seqOf b).any fun x => !decide (intOf x = 0))
  | _ => false
abbrev ENDS : List Str := ["all", "none"]
abbrev ALONE : List Str := ["not", "closed", "inside", "skin", "solid"]
abbrev PAIRS : List Str := ["and", "or", "less", "either"]
def wordS (s : Str) : Bool := decide (s ∈ ENDS) || (decide (s ∈ ALONE) || decide (s ∈ PAIRS))
def wordOk (d : DV) : Bool := listed d &&
  match seqOf d with
  | [a] => isStr a && wordS (strOf a)
  | _ => false
def takes (s : Str) : Int := if s ∈ PAIRS then 2 else if s ∈ ALONE then 1 else 0
def headS (d : DV) : Str := strOf ((seqOf d).headD .non)
def stepOk (n k : Int) (d : DV) : Bool := halfOk d n k || wordOk d
def goSteps (n k : Int) : Int → List DV → Bool
  | m, [] => decide (m = 1)
  | m, x :: xs => stepOk n k x && (!decide (m < takes (headS x)) && goSteps n k (m - takes (headS x) + 1) xs)
def fixPart : DV → DV
  | .lst xs => .tup xs
  | d => d
def fixS (d : DV) : DV := .tup ((seqOf d).map fixPart)
/-! planes -/
def gF (l : List Int) : Int := l.foldl (fun g x => ((Nat.gcd g.natAbs x.natAbs : Nat) : Int)) 0
def plF (a b : List Int) : PK2 :=
  let g := gF (a ++ b)
  let by_ := if 0 < (a.filter fun x => !decide (x = 0)).headD 0 then g else -g
  (a.map fun x => x.fdiv by_, b.map fun x => x.fdiv by_)
def intsD (d : DV) : List Int := (seqOf d).map intOf
def isHalfS (d : DV) : Bool := decide (headS d = "half")
def plS (d : DV) : PK2 := plF (intsD ((seqOf d).getD 1 .non)) (intsD ((seqOf d).getD 2 .non))
def plsF (xs : List DV) : List PK2 := ((xs.filter isHalfS).map plS).foldl putK2 []
def plD (xs : List DV) : DV := .tup (((plsF xs).map pkD).mergeSort (PySem.W.dataLe false DL.py))
/-! shapes -/
abbrev FLD : List Str := ["dimension", "sliders", "steps", "planes"]
abbrev Arg3 : Type := DV × DV × DV
/-- errors, as they are heard -/
inductive Er where
  | sh (w : Str) | va (w : Str) | ma
def erX (cs : Cs) : Er → Addr × List Str × List DV
  | .sh w => (cs.c_BadShape, ["part"], [.str w])
  | .va w => (cs.c_BadValue, ["part"], [.str w])
  | .ma => (cs.c_TooMany, ["most", "what"], [.int 60, .str "steps"])
def erD : Er → DV
  | .sh w => .tup [.str "shape", .str w]
  | .va w => .tup [.str "value", .str w]
  | .ma => .tup [.str "other"]
def hearD : Option Er → DV
  | none => .non
  | some e => erD e
def shE (x : Arg3) : Option Er :=
  if within x.1 1 3 = false then some (.sh "dimension")
  else if within x.2.1 0 2 = false then some (.sh "sliders")
  else if listed x.2.2 = false then some (.sh "steps")
  else if 60 < (seqOf x.2.2).length then some .ma
  else if goSteps (intOf x.1) (intOf x.2.1) 0 (seqOf x.2.2) = false then some (.sh "steps")
  else none
def shF (x : Arg3) : List DV := [x.1, x.2.1, .tup ((seqOf x.2.2).map fixS), plD ((seqOf x.2.2).map fixS)]
/-- what == looks at -/
def key3 (n k : Int) (T : List DV) : DV := .tup [.int n, .int k, .tup T]
/-- a shape, and another one or a list -/
abbrev Sh4 : Type := Int × Int × List DV × DV
abbrev Two : Type := Sh4 × (Sh4 ⊕ List DV)
def insD (C : Addr) (a : Sh4) : DV := .ins C FLD [.int a.1, .int a.2.1, .tup a.2.2.1, a.2.2.2]
def keyD (a : Sh4) : DV := key3 a.1 a.2.1 a.2.2.1
def twoA (C : Addr) : Two → List DV
  | (a, .inl b) => [insD C a, insD C b]
  | (a, .inr l) => [insD C a, .lst l]
def twoP : Two → Prop
  | (a, .inl b) => shp (keyD a) = true ∧ shp (keyD b) = true
  | (_, .inr _) => True
def twoR : Two → DV → Prop
  | (a, .inl b), d => d = .bl (PyData.eqv (DL.py (keyD a)) (DL.py (keyD b)))
  | (_, .inr _), d => d = .bl false
/-! the law's steps -/
inductive St where
  | half (a b : List Int)
  | word (s : Str)
def St.hd : St → Str
  | .half _ _ => "half"
  | .word s => s
def encT : St → DV
  | .half a b => .tup [.str "half", .tup (a.map DV.int), .tup (b.map DV.int)]
  | .word s => .tup [.str s]
def encL : St → DV
  | .half a b => .lst [.str "half", .lst (a.map DV.int), .lst (b.map DV.int)]
  | .word s => .lst [.str s]
/-- bounds of a half: its normal, its offset -/
structure HOk (n k : Nat) (w : Int) (a b : List Int) : Prop where
  la : a.length = n
  lb : b.length = 1 + k
  nz : ∃ x ∈ a, x ≠ 0
  ba : ∀ x ∈ a, -2004 ≤ x ∧ x ≤ 2004
  bb : ∀ x ∈ b, -w ≤ x ∧ x ≤ w
def SOk (n k : Nat) : St → Prop
  | .half a b => HOk n k 20 a b
  | .word s => wordS s = true
/-- wider bounds -/
structure BOk (n k : Nat) (a b : List Int) : Prop where
  la : a.length = n
  lb : b.length = 1 + k
  nz : ∃ x ∈ a, x ≠ 0
  ba : ∀ x ∈ a, -1000000 ≤ x ∧ x ≤ 1000000
  bb : ∀ x ∈ b, -1000000 ≤ x ∧ x ≤ 1000000
def TOk (n k : Nat) : St → Prop
  | .half a b => BOk n k a b
  | .word s => wordS s = true
def runS : Int → List St → Option Int
  | m, [] => some m
  | m, s :: l => if m < takes s.hd then none else runS (m + 1 - takes s.hd) l
def Good (n k : Nat) (l : List St) : Prop := (∀ s ∈ l, SOk n k s) ∧ runS 0 l = some 1
def GoodT (n k : Nat) (l : List St) : Prop := (∀ s ∈ l, TOk n k s) ∧ runS 0 l = some 1
/-- a value that may be a shape -/
abbrev Ob : Type := Sh4 ⊕ DV
def obD (C : Addr) : Ob → DV
  | .inl a => insD C a
  | .inr d => d
def okS (a : Sh4) : Prop := a.2.2.1.length ≤ 60 ∧ ∀ t ∈ a.2.2.1, gd t = true
def okOb : Ob → Prop
  | .inl a => okS a
  | .inr d => gd d = true
def nsE (part : Str) : Ob → Option Er
  | .inl _ => none
  | .inr _ => some (.sh part)
/-- a half by hand: what is bad of it, what it asks of Shape -/
def rowOk (d : DV) : Bool := listed d && ((decide (1 ≤ (seqOf d).length) && decide ((seqOf d).length ≤ 3)) && intsOk d (seqOf d).length MI)
def hfE (n o : DV) : Option Er :=
  if rowOk n = false then some (.va "normal")
  else if ((seqOf n).any fun x => !decide (intOf x = 0)) = false then some (.va "normal")
  else if rowOk o = false then some (.va "offset")
  else none
def hfX (n o : DV) : Arg3 := (.int ((seqOf n).length : Int), .int (((seqOf o).length : Int) - 1), .lst [.tup [.str "half", n, o]])
def madeD (C : Addr) (x : Arg3) : DV := .ins C FLD (shF x)
/-! promises -/
abbrev sp_is_integer (K : Fg) (cs : Cs) : Sp := spD K (fun (d : DV) => gd d = true) (fun d => [d]) fun d r => r = .bl (isInt d)
abbrev sp_is_listed (K : Fg) (cs : Cs) : Sp := spD K (fun (d : DV) => gd d = true) (fun d => [d]) fun d r => r = .bl (listed d)
abbrev sp_is_within (K : Fg) (cs : Cs) : Sp := spD K (fun (p : DV × Int × Int) => gd p.1 = true) (fun p => [p.1, .int p.2.1, .int p.2.2]) fun p r => r = .bl (within p.1 p.2.1 p.2.2)
abbrev sp_are_integers (K : Fg) (cs : Cs) : Sp := spD K (fun (p : DV × Int × Int) => gd p.1 = true) (fun p => [p.1, .int p.2.1, .int p.2.2]) fun p r => r = .bl (intsOk p.1 p.2.1 p.2.2)
abbrev sp_gcd_of (K : Fg) (cs : Cs) : Sp := spD K (fun (a : List Int) => a.length ≤ 1000) (fun a => [.lst (a.map DV.int)]) fun a r => r = .int (gF a)
abbrev sp_plane_of (K : Fg) (cs : Cs) : Sp := spD K (fun (p : List Int × List Int) => p.1.length ≤ 300 ∧ p.2.length ≤ 300 ∧ (∃ x ∈ p.1, x ≠ 0) ∧ ∀ x ∈ p.1, x.natAbs ≤ 1000000) (fun p => [.tup (p.1.map DV.int), .tup (p.2.map DV.int)]) fun p r => r = pkD (plF p.1 p.2)
abbrev sp_is_half (K : Fg) (cs : Cs) : Sp := spD K (fun (p : DV × Int × Int) => gd p.1 = true) (fun p => [p.1, .int p.2.1, .int p.2.2]) fun p r => r = .bl (halfOk p.1 p.2.1 p.2.2)
abbrev sp_is_word (K : Fg) (cs : Cs) : Sp := spD K (fun (d : DV) => gd d = true) (fun d => [d]) fun d r => r = .bl (wordOk d)
abbrev sp_taken_by (K : Fg) (cs : Cs) : Sp := spD K (fun (_ : Str) => True) (fun s => [.str s]) fun s r => r = .int (takes s)
abbrev sp_are_steps (K : Fg) (cs : Cs) : Sp := spD K (fun (p : DV × Int × Int) => gd p.1 = true ∧ listed p.1 = true) (fun p => [p.1, .int p.2.1, .int p.2.2]) fun p r => r = .bl (goSteps p.2.1 p.2.2 0 (seqOf p.1))
abbrev sp_Shape_init (K : Fg) (cs : Cs) : Sp := spI K cs.c_Shape (fun (x : Arg3) => gd x.1 = true ∧ gd x.2.1 = true ∧ gd x.2.2 = true) (fun x => [x.1, x.2.1, x.2.2]) (fun x ns ds => shE x = none ∧ ns = FLD ∧ ds = shF x) fun x C ns ds => (shE x).map (erX cs) = some (C, ns, ds)
abbrev sp_Shape (K : Fg) (cs : Cs) : Sp := sp_Shape_init K cs
abbrev sp_Shape_eq (K : Fg) (cs : Cs) : Sp := spD K twoP (twoA cs.c_Shape) twoR
abbrev sp_eq (K : Fg) (cs : Cs) : Sp := sp_Shape_eq K cs
abbrev sp_law_draw (K : Fg) (cs : Cs) : Sp := sp_draw K
abbrev sp_law_pick (K : Fg) (cs : Cs) : Sp := spPk K
abbrev sp_law_half (K : Fg) (cs : Cs) : Sp := spP K (fun (p : Nat × Nat) => 1 ≤ p.1 ∧ p.1 ≤ 3 ∧ p.2 ≤ 2) (fun p => [.int (p.1 : Int), .int (p.2 : Int)]) (fun _ => 11) fun p d => ∃ a b, d = encT (.half a b) ∧ HOk p.1 p.2 4 a b
abbrev KS : List Key := [.inr "n", .inr "k", .inr "steps"]
abbrev sp_law_plain (K : Fg) (cs : Cs) : Sp := spPd K (fun (p : Nat × Nat) => 1 ≤ p.1 ∧ p.1 ≤ 3 ∧ p.2 ≤ 2) (fun p => [.int (p.1 : Int), .int (p.2 : Int), .int 6]) (fun _ => 110) KS fun p ds => ∃ l : List St, ds = [.int (p.1 : Int), .int (p.2 : Int), .lst (l.map encT)] ∧ Good p.1 p.2 l ∧ l.length ≤ 30
abbrev sp_need_shape (K : Fg) (cs : Cs) : Sp := spX K (fun (p : Ob × Str) => okOb p.1) (fun p => [obD cs.c_Shape p.1, .str p.2]) (fun p r => nsE p.2 p.1 = none ∧ r = .non) fun p C ns ds => (nsE p.2 p.1).map (erX cs) = some (C, ns, ds)
def plainD (N k : Nat) (l : List St) : DV := .dic KS [.int (N : Int), .int (k : Int), .lst (l.map encT)]
abbrev sp_law_made (K : Fg) (cs : Cs) : Sp := spD K (fun (p : (Nat × Nat) × List St) => (1 ≤ p.1.1 ∧ p.1.1 ≤ 3 ∧ p.1.2 ≤ 2) ∧ GoodT p.1.1 p.1.2 p.2 ∧ p.2.length ≤ 30) (fun p => [plainD p.1.1 p.1.2 p.2]) fun p r => r = insD cs.c_Shape (p.1.1, p.1.2, p.2.map encT, plD (p.2.map encT))
abbrev sp_half (K : Fg) (cs : Cs) : Sp := spX K (fun (p : DV × DV) => gd p.1 = true ∧ gd p.2 = true) (fun p => [p.1, p.2]) (fun p r => hfE p.1 p.2 = none ∧ r = madeD cs.c_Shape (hfX p.1 p.2)) fun p C ns ds => (hfE p.1 p.2).map (erX cs) = some (C, ns, ds)
abbrev sp_planes_of (K : Fg) (cs : Cs) : Sp := spX K (fun (p : Ob) => okOb p) (fun p => [obD cs.c_Shape p]) (fun p r => ∃ a, p = .inl a ∧ r = a.2.2.2) fun p C ns ds => (nsE "shape" p).map (erX cs) = some (C, ns, ds)
abbrev sp_law_gcd (K : Fg) (cs : Cs) : Sp := spD K (fun (_ : Int × Int) => True) (fun p => [.int p.1, .int p.2]) fun p r => r = .int ((Nat.gcd p.1.natAbs p.2.natAbs : Nat) : Int)
abbrev sp_law_sign (K : Fg) (cs : Cs) : Sp := spD K (fun (x : Int) => x ≠ 0) (fun x => [.int x]) fun x r => r = .int (if 0 < x then 1 else -1)
abbrev sp_law_plane (K : Fg) (cs : Cs) : Sp := spD K (fun (p : (Nat × Nat) × List Int × List Int) => p.1.1 ≤ 3 ∧ p.1.2 ≤ 2 ∧ BOk p.1.1 p.1.2 p.2.1 p.2.2) (fun p => [.tup (p.2.1.map DV.int), .tup (p.2.2.map DV.int)]) fun p r => r = pkD (plF p.2.1 p.2.2)
abbrev sp_law_planes (K : Fg) (cs : Cs) : Sp := spD K (fun (p : (Nat × Nat) × List St) => (1 ≤ p.1.1 ∧ p.1.1 ≤ 3 ∧ p.1.2 ≤ 2) ∧ GoodT p.1.1 p.1.2 p.2 ∧ p.2.length ≤ 30) (fun p => [plainD p.1.1 p.1.2 p.2]) fun p r => ∃ ds, r = .lst ds ∧ DV.tup ds = plD (p.2.map encT)
def sp_law_heard (K : Fg) (cs : Cs) : Sp := fun _ _ _ _ => False
def sp_law_pen (K : Fg) (cs : Cs) : Sp := fun vs H Q _ => ∃ (M : Hp) (a : Addr) (ns : List Int), vs = [.ref a] ∧ SqL K H a (ns.map V.int) ∧ ns.length ≤ 100000 ∧ Ex M H ∧ Tb M H ∧
  ∀ p M' H', Ex M M' → Gr none H H' → Ex M' H' → Tb M' H' → M' p = none → H p = none → PenAt K M' H' p 0 → Q (.ref p) H'
def sp_law (K : Fg) (cs : Cs) : Sp := fun vs H Q _ => ∃ (a : Addr) (ns : List Int), vs = [.ref a] ∧ SqL K H a (ns.map V.int) ∧ ns.length ≤ 100000 ∧ LamX.Tabs Tn.T H ∧ ∀ H', Q (.bl true) H'
end K04
namespace K04
open PySem PySem.Spec PyProof.Rows L2 NdefX PySem.HandSPX PySem.DLx LamX StX DL
variable [Tn]
def t_is_integer (K : Fg) (cs : Cs) : TS :=
    (tRet (tAndV (tCB (rIsA K) (tCons (tVar 0) (tCons (tC (.ty "int")) tNil))) (tNotV (tCB (rIsA K) (tCons (tVar 0) (tCons (tC (.ty "bool")) tNil))))))
def t_is_listed (K : Fg) (cs : Cs) : TS :=
    (tRet (tCB (rIsA K) (tCons (tVar 0) (tCons (tTup (tCons (tC (.ty "list")) (tCons (tC (.ty "tuple")) tNil))) tNil))))
def t_gcd_of (K : Fg) (cs : Cs) : TS :=
    (tSeq (tAsg (tC (.int 0)) (gName 1))
    (tSeq (tFor (iSeq K (tVar 0)) (gName 2) (tAsg (tCB rGcd (tCons (tVar 1) (tCons (tVar 2) tNil))) (gName 1)))
    (tRet (tVar 1))))
def t_taken_by (K : Fg) (cs : Cs) : TS :=
    (tRet (tIf (tTest (tOp (rIn K false) (tVar 0) (tC (.ref cs.g_PAIRS)))) (tC (.int 2)) (tIf (tTest (tOp (rIn K false) (tVar 0) (tC (.ref cs.g_ALONE)))) (tC (.int 1)) (tC (.int 0)))))
def t_law_pen (K : Fg) (cs : Cs) : TS :=
    (tRet (tLst (tCons (tLc (iSeq K (tSl (rCut K) (tVar 0) tNoPart (tPart (tC (.int 63))))) (gName 1) tYes (tCB rInt1 (tCons (tVar 1) tNil)) [1]) (tCons (tC (.int 0)) (tCons (tC (.int 0)) tNil)))))
def t_law_draw (K : Fg) (cs : Cs) : TS :=
    (tSeq (tIfS (tTest (tOp rGt (tOp (rIx K) (tVar 0) (tC (.int 2))) (tC (.int 0)))) (tSeq (tAsg (tOp rFmod (tCB rInt1 (tCons (tOp (rIx K) (tVar 0) (tC (.int 2))) tNil)) (tVar 1)) (gName 2))
    (tSeq (tAsg (tOp rFdiv (tCB rInt1 (tCons (tOp (rIx K) (tVar 0) (tC (.int 2))) tNil)) (tVar 1)) (gSub (tVar 0) (tC (.int 2)) rSetL))
    (tRet (tVar 2)))) tNext)
    (tSeq (tAsg (tOp (rIx K) (tVar 0) (tC (.int 1))) (gName 3))
    (tSeq (tAsg (tOp (rPlus K) (tVar 3) (tC (.int 1))) (gSub (tVar 0) (tC (.int 1)) rSetL))
    (tSeq (tAsg (tOp (rPlus K) (tOp (rTimes K) (tC (.int 143845)) (tVar 3)) (tC (.int 15249))) (gName 4))
    (tSeq (tIfS (tTest (tOp (rNeA K) (tOp (rIx K) (tVar 0) (tC (.int 0))) (tLst tNil))) (tAsg (tOp (rIx K) (tOp (rIx K) (tVar 0) (tC (.int 0))) (tOp rFmod (tCB rInt1 (tCons (tVar 3) tNil)) (tCB (rLenA K) (tCons (tOp (rIx K) (tVar 0) (tC (.int 0))) tNil)))) (gName 4)) tNext)
    (tSeq (tIfS (tAnd (tTest (tOp rLt (tVar 3) (tCB (rLenA K) (tCons (tOp (rIx K) (tVar 0) (tC (.int 0))) tNil)))) (tTest (tOp rGe (tCB rAbs (tCons (tVar 4) tNil)) (tOp rPow (tC (.int 10)) (tC (.int 18)))))) (tSeq (tAsg (tOp (rPlus K) (tOp (rTimes K) (tC (.int 2)) (tOp rMinus (tCB rAbs (tCons (tVar 4) tNil)) (tOp rPow (tC (.int 10)) (tC (.int 18))))) (tCB rInt1 (tCons (tOp rLt (tVar 4) (tC (.int 0))) tNil))) (gName 5))
    (tSeq (tAsg (tOp rFdiv (tCB rInt1 (tCons (tVar 5) tNil)) (tVar 1)) (gSub (tVar 0) (tC (.int 2)) rSetL))
    (tRet (tOp rFmod (tCB rInt1 (tCons (tVar 5) tNil)) (tVar 1))))) tNext)
    (tSeq (tAsg (tOp rFmod (tCB rInt1 (tCons (tOp rPow (tOp (rPlus K) (tOp (rPlus K) (tOp rFmod (tCB rInt1 (tCons (tVar 4) tNil)) (tC (.int 2147483549))) (tOp (rTimes K) (tC (.int 143845)) (tVar 3))) (tC (.int 15249))) (tC (.int 5))) tNil)) (tC (.int 2147483629))) (gName 6))
    (tSeq (tAsg (tOp rFmod (tCB rInt1 (tCons (tOp rPow (tOp (rPlus K) (tOp (rPlus K) (tOp (rTimes K) (tVar 6) (tOp (rPlus K) (tOp (rTimes K) (tC (.int 2)) (tVar 3)) (tC (.int 4625)))) (tOp (rTimes K) (tOp (rTimes K) (tC (.int 91443)) (tVar 3)) (tVar 3))) (tC (.int 15249))) (tC (.int 3))) tNil)) (tC (.int 2147483587))) (gName 6))
    (tRet (tOp rFmod (tCB rInt1 (tCons (tOp rFdiv (tVar 6) (tC (.int 64))) tNil)) (tVar 1)))))))))))
def t_law_gcd (K : Fg) (cs : Cs) : TS :=
    (tSeq (tPar 0 1 (tCons (tCB rAbs (tCons (tVar 0) tNil)) (tCons (tCB rAbs (tCons (tVar 1) tNil)) tNil)))
    (tSeq (tWhile (tTest (tOp (rNeA K) (tVar 1) (tC (.int 0)))) (tPar 0 1 (tCons (tVar 1) (tCons (tOp rFmod (tCB rInt1 (tCons (tVar 0) tNil)) (tVar 1)) tNil))))
    (tRet (tVar 0))))
def t_law_sign (K : Fg) (cs : Cs) : TS :=
    (tRet (tOp rMinus (tCB rInt1 (tCons (tOp rGt (tVar 0) (tC (.int 0))) tNil)) (tCB rInt1 (tCons (tOp rLt (tVar 0) (tC (.int 0))) tNil))))
def t_law_heard_rest (K : Fg) (cs : Cs) : TS :=
    (tSeq (tIfS (tTru K (tCB (rIsB K) (tCons (tVar 1) (tCons (tC (.ref cs.c_BadValue)) tNil)))) (tRet (tTup (tCons (tC (.str "value")) (tCons (tAtt K (tVar 1) "part") tNil)))) tNext)
    (tSeq (tIfS (tTru K (tCB (rIsB K) (tCons (tVar 1) (tCons (tC (.ref cs.c_BadShape)) tNil)))) (tRet (tTup (tCons (tC (.str "shape")) (tCons (tAtt K (tVar 1) "part") tNil)))) tNext)
    (tRet (tIf (tTest (tOp rIsN (tVar 1) (tC .non))) (tC .non) (tTup (tCons (tC (.str "other")) tNil))))))
def t_Shape_eq (K : Fg) (cs : Cs) : TS :=
    (tSeq (tIfS (tNot (tTru K (tCB (rIsB K) (tCons (tVar 1) (tCons (tC (.ref cs.c_Shape)) tNil))))) (tRet (tC (.bl false))) tNext)
    (tRet (tOp (rEqA K) (tTup (tCons (tAtt K (tVar 0) "dimension") (tCons (tAtt K (tVar 0) "sliders") (tCons (tAtt K (tVar 0) "steps") tNil)))) (tTup (tCons (tAtt K (tVar 1) "dimension") (tCons (tAtt K (tVar 1) "sliders") (tCons (tAtt K (tVar 1) "steps") tNil)))))))
def t_is_within (K : Fg) (cs : Cs) : TS :=
    (tSeq (tIfS (tNot (tTru K (tCall (sp_is_integer K cs) [] E0 (tCons (tVar 0) tNil)))) (tRet (tC (.bl false))) tNext)
    (tRet (tAndV (tOrV (tOp rIsN (tVar 1) (tC .non)) (tOp rGe (tVar 0) (tVar 1))) (tOrV (tOp rIsN (tVar 2) (tC .non)) (tOp rLe (tVar 0) (tVar 2))))))
def t_plane_of (K : Fg) (cs : Cs) : TS :=
    (tSeq (tAsg (tCall (sp_gcd_of K cs) [] E0 (tCons (tLst (StX.tStar K (tVar 0) (StX.tStar K (tVar 1) tNil))) tNil)) (gName 2))
    (tSeq (tAsg (tIf (tTest (tOp rGt (tOp (rIx K) (tLc (iSeq K (tVar 0)) (gName 3) (tTest (tOp (rNeA K) (tVar 3) (tC (.int 0)))) (tVar 3) [3]) (tC (.int 0))) (tC (.int 0)))) (tVar 2) (tUn (rU fun i => .int (-i)) (tVar 2))) (gName 2))
    (tRet (tTup (tCons (tCB (rTupOf K) (tCons (tLc (iSeq K (tVar 0)) (gName 3) tYes (tOp rFdiv (tVar 3) (tVar 2)) [3]) tNil)) (tCons (tCB (rTupOf K) (tCons (tLc (iSeq K (tVar 1)) (gName 3) tYes (tOp rFdiv (tVar 3) (tVar 2)) [3]) tNil)) tNil))))))
def t_is_word (K : Fg) (cs : Cs) : TS :=
    (tSeq (tIfS (tOr (tNot (tTru K (tCall (sp_is_listed K cs) [] E0 (tCons (tVar 0) tNil)))) (tOr (tTest (tOp (rNeA K) (tCB (rLenA K) (tCons (tVar 0) tNil)) (tC (.int 1)))) (tNot (tTru K (tCB (rIsA K) (tCons (tOp (rIx K) (tVar 0) (tC (.int 0))) (tCons (tC (.ty "str")) tNil))))))) (tRet (tC (.bl false))) tNext)
    (tRet (tOrV (tOp (rIn K false) (tOp (rIx K) (tVar 0) (tC (.int 0))) (tC (.ref cs.g_ENDS))) (tOrV (tOp (rIn K false) (tOp (rIx K) (tVar 0) (tC (.int 0))) (tC (.ref cs.g_ALONE))) (tOp (rIn K false) (tOp (rIx K) (tVar 0) (tC (.int 0))) (tC (.ref cs.g_PAIRS)))))))
def t_law_pick (K : Fg) (cs : Cs) : TS :=
    (tRet (tOp (rIx K) (tVar 1) (tCall (sp_law_draw K cs) [] E0 (tCons (tVar 0) (tCons (tCB (rLenA K) (tCons (tVar 1) tNil)) tNil)))))
def t_law_plane (K : Fg) (cs : Cs) : TS :=
    (tSeq (tAsg (tC (.int 0)) (gName 2))
    (tSeq (tFor (iSeq K (tOp (rPlus K) (tCB (rListOf K) (tCons (tVar 0) tNil)) (tCB (rListOf K) (tCons (tVar 1) tNil)))) (gName 3) (tAsg (tCall (sp_law_gcd K cs) [] E0 (tCons (tVar 2) (tCons (tVar 3) tNil))) (gName 2)))
    (tSeq (tAsg (tOp (rTimes K) (tVar 2) (tCall (sp_law_sign K cs) [] E0 (tCons (tOp (rIx K) (tLc (iSeq K (tVar 0)) (gName 3) (tTest (tOp (rNeA K) (tVar 3) (tC (.int 0)))) (tVar 3) [3]) (tC (.int 0))) tNil))) (gName 2))
    (tRet (tTup (tCons (tCB (rTupOf K) (tCons (tLc (iSeq K (tVar 0)) (gName 3) tYes (tOp rFdiv (tVar 3) (tVar 2)) [3]) tNil)) (tCons (tCB (rTupOf K) (tCons (tLc (iSeq K (tVar 1)) (gName 3) tYes (tOp rFdiv (tVar 3) (tVar 2)) [3]) tNil)) tNil)))))))
def t_are_integers (K : Fg) (cs : Cs) : TS :=
    (tRet (tAndV (tCall (sp_is_listed K cs) [] E0 (tCons (tVar 0) tNil)) (tAndV (tOp (rEqA K) (tCB (rLenA K) (tCons (tVar 0) tNil)) (tVar 1)) (tCB (rAll K) (tCons (tLc (iSeq K (tVar 0)) (gName 3) tYes (tCall (sp_is_within K cs) [] E0 (tCons (tVar 3) (tCons (tUn (rU fun i => .int (-i)) (tVar 2)) (tCons (tVar 2) tNil)))) [3]) tNil)))))
def t_need_shape (K : Fg) (cs : Cs) (E : XK) : TS :=
    (tIfS (tNot (tTru K (tCB (rIsB K) (tCons (tVar 0) (tCons (tC (.ref cs.c_Shape)) tNil))))) (tRaise cs.c_BadShape ["part"] (tCons (tVar 1) tNil) E) tNext)
def t_law_planes (P : Program) (w : World) (K : Fg) (cs : Cs) : TS :=
    (tRet (tCB (SetH.rSrtP K P w) (tCons (tCB (SetH.rSetP K P w) (tCons (tLc (iSeq K (tDGet (tVar 0) (tC (.str "steps")))) (gName 1) (tTest (tOp (rEqA K) (tOp (rIx K) (tVar 1) (tC (.int 0))) (tC (.str "half")))) (tCall (sp_law_plane K cs) [] E0 (tCons (tOp (rIx K) (tVar 1) (tC (.int 1))) (tCons (tOp (rIx K) (tVar 1) (tC (.int 2))) tNil))) [1]) tNil)) tNil)))
def t_law_half (K : Fg) (cs : Cs) : TS :=
    (tSeq (tAsg (tOp (rIx K) (tLst (tCons (tLst (tCons (tTup (tCons (tC (.int 1)) tNil)) (tCons (tTup (tCons (tC (.int 1)) tNil)) (tCons (tTup (tCons (tC (.int 2)) tNil)) (tCons (tTup (tCons (tC (.int 3)) tNil)) (tCons (tTup (tCons (tC (.int 7)) tNil)) tNil)))))) (tCons (tLst (tCons (tTup (tCons (tC (.int 1)) (tCons (tC (.int 0)) tNil))) (tCons (tTup (tCons (tC (.int 0)) (tCons (tC (.int 1)) tNil))) (tCons (tTup (tCons (tC (.int 1)) (tCons (tC (.int 1)) tNil))) (tCons (tTup (tCons (tC (.int 1)) (tCons (tUn (rU fun i => .int (-i)) (tC (.int 1))) tNil))) (tCons (tTup (tCons (tC (.int 2)) (tCons (tC (.int 1)) tNil))) (tCons (tTup (tCons (tUn (rU fun i => .int (-i)) (tC (.int 1))) (tCons (tC (.int 2)) tNil))) (tCons (tTup (tCons (tC (.int 5)) (tCons (tUn (rU fun i => .int (-i)) (tC (.int 3))) tNil))) (tCons (tTup (tCons (tC (.int 2)) (tCons (tC (.int 7)) tNil))) tNil))))))))) (tCons (tLst (tCons (tTup (tCons (tC (.int 1)) (tCons (tC (.int 0)) (tCons (tC (.int 0)) tNil)))) (tCons (tTup (tCons (tC (.int 0)) (tCons (tC (.int 1)) (tCons (tC (.int 0)) tNil)))) (tCons (tTup (tCons (tC (.int 0)) (tCons (tC (.int 0)) (tCons (tC (.int 1)) tNil)))) (tCons (tTup (tCons (tC (.int 1)) (tCons (tC (.int 1)) (tCons (tC (.int 1)) tNil)))) (tCons (tTup (tCons (tC (.int 1)) (tCons (tC (.int 1)) (tCons (tC (.int 0)) tNil)))) (tCons (tTup (tCons (tC (.int 1)) (tCons (tUn (rU fun i => .int (-i)) (tC (.int 1))) (tCons (tC (.int 2)) tNil)))) (tCons (tTup (tCons (tC (.int 0)) (tCons (tC (.int 1)) (tCons (tC (.int 1)) tNil)))) (tCons (tTup (tCons (tC (.int 4)) (tCons (tUn (rU fun i => .int (-i)) (tC (.int 5))) (tCons (tC (.int 3)) tNil)))) tNil))))))))) tNil)))) (tOp rMinus (tVar 1) (tC (.int 1)))) (gName 3))
    (tSeq (tAsg (tTup (tCons (tCall (sp_law_pick K cs) [] E0 (tCons (tVar 0) (tCons (tVar 3) tNil))) (tCons (tCall (sp_law_pick K cs) [] E0 (tCons (tVar 0) (tCons (tLst (tCons (tC (.int 1)) (tCons (tUn (rU fun i => .int (-i)) (tC (.int 1))) (tCons (tUn (rU fun i => .int (-i)) (tC (.int 1))) (tCons (tC (.int 1)) (tCons (tC (.int 2)) tNil)))))) tNil))) tNil))) (gTup K 2 (gCons (gName 4) (gCons (gName 5) gNil))))
    (tSeq (tIfS (tTest (tOp (rEqA K) (tCall (sp_law_draw K cs) [] E0 (tCons (tVar 0) (tCons (tC (.int 11)) tNil))) (tC (.int 0)))) (tSeq (tAsg (tCB (rTupOf K) (tCons (tOp (rPlus K) (tLst (tCons (tOp rMinus (tC (.int 997)) (tCall (sp_law_draw K cs) [] E0 (tCons (tVar 0) (tCons (tC (.int 2000)) tNil)))) tNil)) (tLc (iRng1 (tCons (tOp rMinus (tVar 1) (tC (.int 1))) tNil)) (gName 7) tYes (tCall (sp_law_pick K cs) [] E0 (tCons (tVar 0) (tCons (tLst (tCons (tC (.int 1)) (tCons (tOp rMinus (tC (.int 1000)) (tCall (sp_law_draw K cs) [] E0 (tCons (tVar 0) (tCons (tC (.int 2000)) tNil)))) tNil))) tNil))) [7])) tNil)) (gName 4))
    (tAsg (tIf (tTest (tOp (rNeA K) (tOp (rIx K) (tVar 4) (tC (.int 0))) (tC (.int 0)))) (tVar 4) (tOp (rPlus K) (tTup (tCons (tC (.int 1)) tNil)) (tSl (rCut K) (tVar 4) (tPart (tC (.int 1))) tNoPart))) (gName 4))) tNext)
    (tSeq (tAsg (tOp (rPlus K) (tLst (tCons (tOp rMinus (tCall (sp_law_draw K cs) [] E0 (tCons (tVar 0) (tCons (tC (.int 7)) tNil))) (tC (.int 3))) tNil)) (tLc (iRng1 (tCons (tVar 2) tNil)) (gName 7) tYes (tCall (sp_law_pick K cs) [] E0 (tCons (tVar 0) (tCons (tLst (tCons (tC (.int 0)) (tCons (tC (.int 0)) (tCons (tC (.int 1)) (tCons (tUn (rU fun i => .int (-i)) (tC (.int 1))) (tCons (tC (.int 2)) tNil)))))) tNil))) [7])) (gName 6))
    (tRet (tTup (tCons (tC (.str "half")) (tCons (tCB (rTupOf K) (tCons (tLc (iSeq K (tVar 4)) (gName 8) tYes (tOp (rTimes K) (tVar 5) (tVar 8)) [8]) tNil)) (tCons (tCB (rTupOf K) (tCons (tVar 6) tNil)) tNil)))))))))
def t_is_half (K : Fg) (cs : Cs) : TS :=
    (tSeq (tIfS (tOr (tNot (tTru K (tCall (sp_is_listed K cs) [] E0 (tCons (tVar 0) tNil)))) (tOr (tTest (tOp (rNeA K) (tCB (rLenA K) (tCons (tVar 0) tNil)) (tC (.int 3)))) (tOr (tNot (tTru K (tCB (rIsA K) (tCons (tOp (rIx K) (tVar 0) (tC (.int 0))) (tCons (tC (.ty "str")) tNil))))) (tTest (tOp (rNeA K) (tOp (rIx K) (tVar 0) (tC (.int 0))) (tC (.str "half"))))))) (tRet (tC (.bl false))) tNext)
    (tSeq (tIfS (tOr (tNot (tTru K (tCall (sp_are_integers K cs) [] E0 (tCons (tOp (rIx K) (tVar 0) (tC (.int 1))) (tCons (tVar 1) (tCons (tC (.int 1000000)) tNil)))))) (tNot (tTru K (tCall (sp_are_integers K cs) [] E0 (tCons (tOp (rIx K) (tVar 0) (tC (.int 2))) (tCons (tOp (rPlus K) (tC (.int 1)) (tVar 2)) (tCons (tC (.int 1000000)) tNil))))))) (tRet (tC (.bl false))) tNext)
    (tRet (tCB (rAny K) (tCons (tLc (iSeq K (tOp (rIx K) (tVar 0) (tC (.int 1)))) (gName 3) tYes (tOp (rNeA K) (tVar 3) (tC (.int 0))) [3]) tNil)))))
def t_planes_of (K : Fg) (cs : Cs) (E : XK) : TS :=
    (tSeq (tDrop (tCall (sp_need_shape K cs) [.str "shape"] E (tCons (tVar 0) tNil)))
    (tRet (tAtt K (tVar 0) "planes")))
def t_law_plain (K : Fg) (cs : Cs) : TS :=
    (tSeq (tAsg (tLst (tCons (tCall (sp_law_half K cs) [] E0 (tCons (tVar 0) (tCons (tVar 1) (tCons (tVar 2) tNil)))) tNil)) (gName 4))
    (tSeq (tFor (iRng1 (tCons (tCall (sp_law_draw K cs) [] E0 (tCons (tVar 0) (tCons (tVar 3) tNil))) tNil)) (gName 5) (tSeq (tAsg (tCall (sp_law_pick K cs) [] E0 (tCons (tVar 0) (tCons (tVar 4) tNil))) (gTup K 3 (gCons (gName 6) (gCons (gName 7) (gCons (gName 8) gNil)))))
    (tSeq (tAsg (tCall (sp_law_draw K cs) [] E0 (tCons (tVar 0) (tCons (tC (.int 8)) tNil))) (gName 9))
    (tIfS (tTest (tOp (rEqA K) (tVar 9) (tC (.int 0)))) (tDrop (tBM K "list" rAppend (tVar 4) (tCons (tTup (tCons (tC (.str "half")) (tCons (tCB (rTupOf K) (tCons (tLc (iSeq K (tVar 7)) (gName 12) tYes (tUn (rU fun i => .int (-i)) (tVar 12)) [12]) tNil)) (tCons (tCB (rTupOf K) (tCons (tLc (iSeq K (tVar 8)) (gName 12) tYes (tUn (rU fun i => .int (-i)) (tVar 12)) [12]) tNil)) tNil)))) tNil))) (tIfS (tTest (tOp (rEqA K) (tVar 9) (tC (.int 1)))) (tDrop (tBM K "list" rAppend (tVar 4) (tCons (tTup (tCons (tC (.str "half")) (tCons (tVar 7) (tCons (tCB (rTupOf K) (tCons (tOp (rPlus K) (tLst (tCons (tOp (rPlus K) (tOp (rPlus K) (tOp (rIx K) (tVar 8) (tC (.int 0))) (tC (.int 1))) (tCall (sp_law_draw K cs) [] E0 (tCons (tVar 0) (tCons (tC (.int 3)) tNil)))) tNil)) (tCB (rListOf K) (tCons (tSl (rCut K) (tVar 8) (tPart (tC (.int 1))) tNoPart) tNil))) tNil)) tNil)))) tNil))) (tDrop (tBM K "list" rAppend (tVar 4) (tCons (tCall (sp_law_half K cs) [] E0 (tCons (tVar 0) (tCons (tVar 1) (tCons (tVar 2) tNil)))) tNil))))))))
    (tSeq (tAsg (tSl (rCut K) (tVar 4) tNoPart (tPart (tC (.int 1)))) (gName 10))
    (tSeq (tFor (iSeq K (tSl (rCut K) (tVar 4) (tPart (tC (.int 1))) tNoPart)) (gName 11) (tSeq (tAsg (tOp (rPlus K) (tOp (rPlus K) (tOp (rPlus K) (tVar 10) (tLst (tCons (tVar 11) tNil))) (tIf (tTest (tOp (rEqA K) (tCall (sp_law_draw K cs) [] E0 (tCons (tVar 0) (tCons (tC (.int 4)) tNil))) (tC (.int 0)))) (tLst (tCons (tTup (tCons (tC (.str "not")) tNil)) tNil)) (tLst tNil))) (tLst (tCons (tTup (tCons (tCall (sp_law_pick K cs) [] E0 (tCons (tVar 0) (tCons (tLst (tCons (tC (.str "and")) (tCons (tC (.str "and")) (tCons (tC (.str "or")) (tCons (tC (.str "or")) (tCons (tC (.str "less")) (tCons (tC (.str "either")) tNil))))))) tNil))) tNil)) tNil))) (gName 10))
    (tIfS (tTest (tOp (rEqA K) (tCall (sp_law_draw K cs) [] E0 (tCons (tVar 0) (tCons (tC (.int 4)) tNil))) (tC (.int 0)))) (tDrop (tBM K "list" rAppend (tVar 10) (tCons (tTup (tCons (tCall (sp_law_pick K cs) [] E0 (tCons (tVar 0) (tCons (tLst (tCons (tC (.str "not")) (tCons (tC (.str "closed")) (tCons (tC (.str "inside")) (tCons (tC (.str "skin")) (tCons (tC (.str "solid")) tNil)))))) tNil))) tNil)) tNil))) tNext)))
    (tRet (tDisp [((tC (.str "n")), (tVar 1)), ((tC (.str "k")), (tVar 2)), ((tC (.str "steps")), (tVar 10))]))))))
def t_are_steps (K : Fg) (cs : Cs) : TS :=
    (tSeq (tAsg (tC (.int 0)) (gName 3))
    (tSeq (tFor (iSeq K (tVar 0)) (gName 4) (tSeq (tIfS (tAnd (tNot (tTru K (tCall (sp_is_half K cs) [] E0 (tCons (tVar 4) (tCons (tVar 1) (tCons (tVar 2) tNil)))))) (tNot (tTru K (tCall (sp_is_word K cs) [] E0 (tCons (tVar 4) tNil))))) (tRet (tC (.bl false))) tNext)
    (tSeq (tAsg (tCall (sp_taken_by K cs) [] E0 (tCons (tOp (rIx K) (tVar 4) (tC (.int 0))) tNil)) (gName 5))
    (tSeq (tIfS (tTest (tOp rLt (tVar 3) (tVar 5))) (tRet (tC (.bl false))) tNext)
    (tAsg (tOp (rPlus K) (tOp rMinus (tVar 3) (tVar 5)) (tC (.int 1))) (gName 3))))))
    (tRet (tOp (rEqA K) (tVar 3) (tC (.int 1))))))
def t_Shape_init (P : Program) (w : World) (K : Fg) (cs : Cs) (E : XK) : TS :=
    (tSeq (tIfS (tNot (tTru K (tCall (sp_is_within K cs) [] E0 (tCons (tVar 1) (tCons (tC (.int 1)) (tCons (tC (.int 3)) tNil)))))) (tRaise cs.c_BadShape ["part"] (tCons (tC (.str "dimension")) tNil) E) tNext)
    (tSeq (tIfS (tNot (tTru K (tCall (sp_is_within K cs) [] E0 (tCons (tVar 2) (tCons (tC (.int 0)) (tCons (tC (.int 2)) tNil)))))) (tRaise cs.c_BadShape ["part"] (tCons (tC (.str "sliders")) tNil) E) tNext)
    (tSeq (tIfS (tNot (tTru K (tCall (sp_is_listed K cs) [] E0 (tCons (tVar 3) tNil)))) (tRaise cs.c_BadShape ["part"] (tCons (tC (.str "steps")) tNil) E) tNext)
    (tSeq (tIfS (tTest (tOp rGt (tCB (rLenA K) (tCons (tVar 3) tNil)) (tC (.int 60)))) (tRaise cs.c_TooMany ["what", "most"] (tCons (tC (.str "steps")) (tCons (tC (.int 60)) tNil)) E) tNext)
    (tSeq (tIfS (tNot (tTru K (tCall (sp_are_steps K cs) [] E0 (tCons (tVar 3) (tCons (tVar 1) (tCons (tVar 2) tNil)))))) (tRaise cs.c_BadShape ["part"] (tCons (tC (.str "steps")) tNil) E) tNext)
    (tSeq (sFld K (tVar 0) (tVar 1) "dimension")
    (tSeq (sFld K (tVar 0) (tVar 2) "sliders")
    (tSeq (sFld K (tVar 0) (tCB (rTupOf K) (tCons (tLc (iSeq K (tVar 3)) (gName 5) tYes (tCB (rTupOf K) (tCons (tLc (iSeq K (tVar 5)) (gName 6) tYes (tIf (tTru K (tCall (sp_is_listed K cs) [] E0 (tCons (tVar 6) tNil))) (tCB (rTupOf K) (tCons (tVar 6) tNil)) (tVar 6)) [6]) tNil)) [5]) tNil)) "steps")
    (tSeq (tAsg (tLc (iSeq K (tAtt K (tVar 0) "steps")) (gName 5) (tTest (tOp (rEqA K) (tOp (rIx K) (tVar 5) (tC (.int 0))) (tC (.str "half")))) (tVar 5) [5]) (gName 4))
    (sFld K (tVar 0) (tCB (rTupOf K) (tCons (tCB (rSortD K) (tCons (tCB (rListP P w) (tCons (tDcP K P w (iSeq K (tVar 4)) (gTup K 3 (gCons (gName 7) (gCons (gName 8) (gCons (gName 9) gNil)))) tYes (tCall (sp_plane_of K cs) [] E0 (tCons (tVar 8) (tCons (tVar 9) tNil))) (tC (.bl true)) [7, 8, 9]) tNil)) tNil)) tNil)) "planes"))))))))))
def t_half (K : Fg) (cs : Cs) (E : XK) : TS :=
    (tSeq (tIfS (tOr (tNot (tTru K (tCall (sp_is_listed K cs) [] E0 (tCons (tVar 0) tNil)))) (tOr (tNot (tTest (tChain rLe rLe (tC (.int 1)) (tCB (rLenA K) (tCons (tVar 0) tNil)) (tC (.int 3))))) (tNot (tTru K (tCall (sp_are_integers K cs) [] E0 (tCons (tVar 0) (tCons (tCB (rLenA K) (tCons (tVar 0) tNil)) (tCons (tC (.int 1000000)) tNil)))))))) (tRaise cs.c_BadValue ["part"] (tCons (tC (.str "normal")) tNil) E) tNext)
    (tSeq (tIfS (tNot (tTru K (tCB (rAny K) (tCons (tLc (iSeq K (tVar 0)) (gName 2) tYes (tOp (rNeA K) (tVar 2) (tC (.int 0))) [2]) tNil)))) (tRaise cs.c_BadValue ["part"] (tCons (tC (.str "normal")) tNil) E) tNext)
    (tSeq (tIfS (tOr (tNot (tTru K (tCall (sp_is_listed K cs) [] E0 (tCons (tVar 1) tNil)))) (tOr (tNot (tTest (tChain rLe rLe (tC (.int 1)) (tCB (rLenA K) (tCons (tVar 1) tNil)) (tC (.int 3))))) (tNot (tTru K (tCall (sp_are_integers K cs) [] E0 (tCons (tVar 1) (tCons (tCB (rLenA K) (tCons (tVar 1) tNil)) (tCons (tC (.int 1000000)) tNil)))))))) (tRaise cs.c_BadValue ["part"] (tCons (tC (.str "offset")) tNil) E) tNext)
    (tRet (tMkI cs.c_Shape 3 0 (sp_Shape K cs) (perm (0 :: List.map (· + 1) [0, 1, 2])) E (tCons (tCB (rLenA K) (tCons (tVar 0) tNil)) (tCons (tOp rMinus (tCB (rLenA K) (tCons (tVar 1) tNil)) (tC (.int 1))) (tCons (tLst (tCons (tTup (tCons (tC (.str "half")) (tCons (tVar 0) (tCons (tVar 1) tNil)))) tNil)) tNil))) tNil)))))
def t_law_made (K : Fg) (cs : Cs) : TS :=
    (tRet (tMkI cs.c_Shape 3 0 (sp_Shape K cs) (perm (0 :: List.map (· + 1) [0, 1, 2])) E0 (tCons (tDGet (tVar 0) (tC (.str "n"))) (tCons (tDGet (tVar 0) (tC (.str "k"))) (tCons (tDGet (tVar 0) (tC (.str "steps"))) tNil))) tNil))
def t_law (K : Fg) (cs : Cs) : TS :=
    (tSeq (tAsg (tCall (sp_law_pen K cs) [] E0 (tCons (tVar 0) tNil)) (gName 1))
    (tSeq (tFor (iRng1 (tCons (tC (.int 8)) tNil)) (gName 2) (tSeq (tPar 3 4 (tCons (tOp (rPlus K) (tC (.int 1)) (tCall (sp_law_draw K cs) [] E0 (tCons (tVar 1) (tCons (tC (.int 3)) tNil)))) (tCons (tCall (sp_law_draw K cs) [] E0 (tCons (tVar 1) (tCons (tC (.int 3)) tNil))) tNil)))
    (tSeq (tAsg (tCall (sp_law_plain K cs) [] E0 (tCons (tVar 1) (tCons (tVar 3) (tCons (tVar 4) (tCons (tC (.int 6)) tNil))))) (gName 5))
    (tSeq (tAsg (tCall (sp_law_pick K cs) [] E0 (tCons (tVar 1) (tCons (tLst (tCons (tC (.int 1)) (tCons (tC (.int 2)) (tCons (tC (.int 30)) (tCons (tC (.int 300)) tNil))))) tNil))) (gName 6))
    (tSeq (tAsg (tLc (iSeq K (tDGet (tVar 5) (tC (.str "steps")))) (gName 16) tYes (tIf (tAnd (tTest (tOp (rEqO K cs.f_eq (sp_eq K cs)) (tOp (rIx K) (tVar 16) (tC (.int 0))) (tC (.str "half")))) (tTest (tOp (rEqO K cs.f_eq (sp_eq K cs)) (tCall (sp_law_draw K cs) [] E0 (tCons (tVar 1) (tCons (tC (.int 2)) tNil))) (tC (.int 0))))) (tTup (tCons (tC (.str "half")) (tCons (tCB (rTupOf K) (tCons (tLc (iSeq K (tOp (rIx K) (tVar 16) (tC (.int 1)))) (gName 17) tYes (tOp (rTimes K) (tVar 6) (tVar 17)) [17]) tNil)) (tCons (tCB (rTupOf K) (tCons (tLc (iSeq K (tOp (rIx K) (tVar 16) (tC (.int 2)))) (gName 17) tYes (tOp (rTimes K) (tVar 6) (tVar 17)) [17]) tNil)) tNil)))) (tVar 16)) [16]) (gSub (tVar 5) (tC (.str "steps")) rSetD))
    (tSeq (tAsg (tTup (tCons (tCall (sp_law_made K cs) [] E0 (tCons (tVar 5) tNil)) (tCons (tCB (rTupOf K) (tCons (tCall (sp_law_planes K cs) [] E0 (tCons (tVar 5) tNil)) tNil)) tNil))) (gTup K 2 (gCons (gName 7) (gCons (gName 8) gNil))))
    (tSeq (tIfS (tTest (tOp (rNeO K cs.f_eq (sp_eq K cs)) (tCB (rRepr2 K) (tCons (tLst (tCons (tAtt K (tVar 7) "planes") (tCons (tCall (sp_planes_of K cs) [] E0 (tCons (tVar 7) tNil)) (tCons (tCallM 0 1 (sp_planes_of K cs) (perm [0]) E0 tNil (tCons (tVar 7) tNil)) tNil)))) tNil)) (tCB (rRepr2 K) (tCons (tOp (rTimes K) (tLst (tCons (tVar 8) tNil)) (tC (.int 3))) tNil)))) (tRet (tC (.bl false))) tNext)
    (tSeq (tAsg (tCall (sp_law_half K cs) [] E0 (tCons (tVar 1) (tCons (tVar 3) (tCons (tVar 4) tNil)))) (gTup K 3 (gCons (gName 9) (gCons (gName 10) (gCons (gName 11) gNil)))))
    (tSeq (tAsg (tCallM 0 2 (sp_half K cs) (perm [1, 0]) E0 tNil (tCons (tCB (rListOf K) (tCons (tVar 11) tNil)) (tCons (tCB (rListOf K) (tCons (tVar 10) tNil)) tNil))) (gName 12))
    (tSeq (tIfS (tOr (tTest (tOp (rNeO K cs.f_eq (sp_eq K cs)) (tVar 12) (tCall (sp_half K cs) [] E0 (tCons (tVar 10) (tCons (tVar 11) tNil))))) (tOr (tTest (tOp (rNeO K cs.f_eq (sp_eq K cs)) (tAtt K (tVar 12) "steps") (tTup (tCons (tTup (tCons (tC (.str "half")) (tCons (tVar 10) (tCons (tVar 11) tNil)))) tNil)))) (tOr (tTest (tOp (rNeO K cs.f_eq (sp_eq K cs)) (tAtt K (tVar 12) "planes") (tTup (tCons (tCall (sp_law_plane K cs) [] E0 (tCons (tVar 10) (tCons (tVar 11) tNil))) tNil)))) (tTest (tOp (rNeO K cs.f_eq (sp_eq K cs)) (tTup (tCons (tAtt K (tVar 12) "dimension") (tCons (tAtt K (tVar 12) "sliders") tNil))) (tTup (tCons (tVar 3) (tCons (tVar 4) tNil)))))))) (tRet (tC (.bl false))) tNext)
    (tSeq (tAsg (tCall (sp_half K cs) [] E0 (tCons (tLc (iSeq K (tVar 10)) (gName 17) tYes (tUn (rU fun i => .int (-i)) (tVar 17)) [17]) (tCons (tLc (iSeq K (tVar 11)) (gName 17) tYes (tUn (rU fun i => .int (-i)) (tVar 17)) [17]) tNil))) (gName 13))
    (tSeq (tIfS (tOr (tTest (tOp (rNeO K cs.f_eq (sp_eq K cs)) (tAtt K (tVar 13) "planes") (tAtt K (tVar 12) "planes"))) (tOr (tTest (tOp (rEqO K cs.f_eq (sp_eq K cs)) (tVar 13) (tVar 12))) (tTest (tOp (rNeO K cs.f_eq (sp_eq K cs)) (tAtt K (tCall (sp_half K cs) [] E0 (tCons (tLc (iSeq K (tVar 10)) (gName 17) tYes (tOp (rTimes K) (tC (.int 2)) (tVar 17)) [17]) (tCons (tLc (iSeq K (tVar 11)) (gName 17) tYes (tOp (rTimes K) (tC (.int 2)) (tVar 17)) [17]) tNil))) "planes") (tAtt K (tVar 12) "planes"))))) (tRet (tC (.bl false))) tNext)
    (tSeq (tAsg (tCall (sp_law_pick K cs) [] E0 (tCons (tVar 1) (tCons (tLst (tCons (tC .non) (tCons (tC (.int 5)) (tCons (tLst tNil) (tCons (tOp (rTimes K) (tLst (tCons (tC (.int 0)) tNil)) (tVar 3)) (tCons (tOp (rTimes K) (tLst (tCons (tC (.int 1)) tNil)) (tC (.int 4))) (tCons (tOp (rTimes K) (tLst (tCons (tC (.bl true)) tNil)) (tVar 3)) (tCons (tLst (tCons (tC (.str "1")) tNil)) (tCons (tLst (tCons (tOp (rPlus K) (tOp rPow (tC (.int 10)) (tC (.int 6))) (tC (.int 1))) tNil)) (tCons tDNewK tNil)))))))))) tNil))) (gName 14))
    (tSeq (tAsg (tCall (sp_law_pick K cs) [] E0 (tCons (tVar 1) (tCons (tLst (tCons (tC .non) (tCons (tC (.int 5)) (tCons (tLst tNil) (tCons (tOp (rTimes K) (tLst (tCons (tC (.int 0)) tNil)) (tC (.int 4))) (tCons (tLst (tCons (tC (.bl true)) tNil)) (tCons (tLst (tCons (tC .non) tNil)) (tCons (tLst (tCons (tOp rMinus (tUn (rU fun i => .int (-i)) (tOp rPow (tC (.int 10)) (tC (.int 6)))) (tC (.int 1))) tNil)) (tCons (tC (.str "0")) tNil))))))))) tNil))) (gName 15))
    (tIfS (tTest (tOp (rNeO K cs.f_eq (sp_eq K cs)) (tLst (tCons (tLamH (TTh K (.ref cs.c_CutError) (lamQ "law") N_law_heard (t_law_heard_rest K cs)) (fun E => (tCall (sp_half K cs) [] E (tCons (tVar 14) (tCons (tVar 15) tNil))))) (tCons (fun σ H Q => (tC (.int 0)) σ H fun _ H1 => (tLamH (TTh K (.ref cs.c_CutError) (lamQ "law") N_law_heard (t_law_heard_rest K cs)) (fun E => (tCall (sp_half K cs) [] E (tCons (tVar 10) (tCons (tVar 15) tNil))))) σ H1 Q) (tCons (fun σ H Q => (tC (.int 0)) σ H fun _ H1 => (tLamH (TTh K (.ref cs.c_CutError) (lamQ "law") N_law_heard (t_law_heard_rest K cs)) (fun E => (tCall (sp_planes_of K cs) [] E (tCons (tCall (sp_law_pick K cs) [] E0 (tCons (tVar 1) (tCons (tLst (tCons (tC .non) (tCons (tC (.int 5)) (tCons (tAtt K (tVar 7) "planes") (tCons (tAtt K (tVar 7) "steps") tNil))))) tNil))) tNil)))) σ H1 Q) tNil)))) (tLst (tCons (tTup (tCons (tC (.str "value")) (tCons (tC (.str "normal")) tNil))) (tCons (tTup (tCons (tC (.str "value")) (tCons (tC (.str "offset")) tNil))) (tCons (tTup (tCons (tC (.str "shape")) (tCons (tC (.str "shape")) tNil))) tNil)))))) (tRet (tC (.bl false))) tNext)))))))))))))))
    (tRet (tAndV (tOp (rEqO K cs.f_eq (sp_eq K cs)) (tAtt K (tCall (sp_half K cs) [] E0 (tCons (tLst (tCons (tUn (rU fun i => .int (-i)) (tC (.int 2))) (tCons (tC (.int 4)) tNil))) (tCons (tLst (tCons (tC (.int 6)) (tCons (tC (.int 0)) tNil))) tNil))) "planes") (tTup (tCons (tTup (tCons (tTup (tCons (tC (.int 1)) (tCons (tUn (rU fun i => .int (-i)) (tC (.int 2))) tNil))) (tCons (tTup (tCons (tUn (rU fun i => .int (-i)) (tC (.int 3))) (tCons (tC (.int 0)) tNil))) tNil))) tNil))) (tOp (rEqO K cs.f_eq (sp_eq K cs)) (tAtt K (tCall (sp_half K cs) [] E0 (tCons (tLst (tCons (tC (.int 0)) (tCons (tUn (rU fun i => .int (-i)) (tC (.int 3))) tNil))) (tCons (tLst (tCons (tC (.int 9)) tNil)) tNil))) "planes") (tTup (tCons (tTup (tCons (tTup (tCons (tC (.int 0)) (tCons (tC (.int 1)) tNil))) (tCons (tTup (tCons (tUn (rU fun i => .int (-i)) (tC (.int 3))) tNil)) tNil))) tNil)))))))
theorem d_is_integer {P : Program} {w : World} {K : Fg} {mg : Str → Option Value} {base : Heap} {cs : Cs} (T : Txt P K mg base cs)  {f : Addr} {cdv : Value} {A : Around} {outer : List Env} {s : Shared} {H : Hp} {E : XK} (hr : Room 0 (A.deeper (envOfC "is_integer" (defScope s_is_integer) s.heap.objs.size f cdv))) (hG : A.guards = some []) :
    PSs (cxOf CX0 P w K mg base N_is_integer "is_integer" (defScope s_is_integer) f cdv A outer s H E).nox (defBody s_is_integer) (t_is_integer K cs) := by
  have nd : N_is_integer.Nodup := sc_is_integer.nd
  exact (pss_one (ps_ret (pe_and (pe_callB cr_isA (by rfl) T.n_isinstance (by decide +kernel) (pa_cons (pv 0) (pa_cons (pe_bltn (v := .ty "int") (by rfl) T.n_int (by decide +kernel) rfl) pa_nil))) (pe_one (pe_not (pe_callB cr_isA (by rfl) T.n_isinstance (by decide +kernel) (pa_cons (pv 0) (pa_cons (pe_bltn (v := .ty "bool") (by rfl) T.n_bool (by decide +kernel) rfl) pa_nil))))))))
theorem d_is_listed {P : Program} {w : World} {K : Fg} {mg : Str → Option Value} {base : Heap} {cs : Cs} (T : Txt P K mg base cs)  {f : Addr} {cdv : Value} {A : Around} {outer : List Env} {s : Shared} {H : Hp} {E : XK} (hr : Room 0 (A.deeper (envOfC "is_listed" (defScope s_is_listed) s.heap.objs.size f cdv))) (hG : A.guards = some []) :
    PSs (cxOf CX0 P w K mg base N_is_listed "is_listed" (defScope s_is_listed) f cdv A outer s H E).nox (defBody s_is_listed) (t_is_listed K cs) := by
  have nd : N_is_listed.Nodup := sc_is_listed.nd
  exact (pss_one (ps_ret (pe_callB cr_isA (by rfl) T.n_isinstance (by decide +kernel) (pa_cons (pv 0) (pa_cons (pe_tup (pa_cons (pe_bltn (v := .ty "list") (by rfl) T.n_list (by decide +kernel) rfl) (pa_cons (pe_bltn (v := .ty "tuple") (by rfl) T.n_tuple (by decide +kernel) rfl) pa_nil))) pa_nil)))))
theorem d_gcd_of {P : Program} {w : World} {K : Fg} {mg : Str → Option Value} {base : Heap} {cs : Cs} (T : Txt P K mg base cs)  {f : Addr} {cdv : Value} {A : Around} {outer : List Env} {s : Shared} {H : Hp} {E : XK} (hr : Room 0 (A.deeper (envOfC "gcd_of" (defScope s_gcd_of) s.heap.objs.size f cdv))) (hG : A.guards = some []) :
    PSs (cxOf CX0 P w K mg base N_gcd_of "gcd_of" (defScope s_gcd_of) f cdv A outer s H E).nox (defBody s_gcd_of) (t_gcd_of K cs) := by
  have nd : N_gcd_of.Nodup := sc_gcd_of.nd
  exact (pss_cons (ps_set (i := 1) nd rfl (Or.inl rfl) pe_int)
      (pss_cons (ps_for PassesOwn.never rfl (pi_seq (pv 0)) (pg_name (i := 2) nd rfl (Or.inl rfl)) (pss_one (ps_set (i := 1) nd rfl (Or.inl rfl) (pe_callBfun cr_gcd (by rfl) T.m_gcd (pa_cons (pv 1) (pa_cons (pv 2) pa_nil))))))
      (pss_one (ps_ret (pv 1)))))
theorem d_taken_by {P : Program} {w : World} {K : Fg} {mg : Str → Option Value} {base : Heap} {cs : Cs} (T : Txt P K mg base cs)  {f : Addr} {cdv : Value} {A : Around} {outer : List Env} {s : Shared} {H : Hp} {E : XK} (hr : Room 0 (A.deeper (envOfC "taken_by" (defScope s_taken_by) s.heap.objs.size f cdv))) (hG : A.guards = some []) :
    PSs (cxOf CX0 P w K mg base N_taken_by "taken_by" (defScope s_taken_by) f cdv A outer s H E).nox (defBody s_taken_by) (t_taken_by K cs) := by
  have nd : N_taken_by.Nodup := sc_taken_by.nd
  exact (pss_one (ps_ret (pe_ifExp (pt_cmpR op_in_seq (pv 0) (pe_glob (v := .ref _) (by rfl) T.g_PAIRS rfl) rfl) pe_int (pe_ifExp (pt_cmpR op_in_seq (pv 0) (pe_glob (v := .ref _) (by rfl) T.g_ALONE rfl) rfl) pe_int pe_int))))
theorem d_law_pen {P : Program} {w : World} {K : Fg} {mg : Str → Option Value} {base : Heap} {cs : Cs} (T : Txt P K mg base cs)  {f : Addr} {cdv : Value} {A : Around} {outer : List Env} {s : Shared} {H : Hp} {E : XK} (hr : Room 0 (A.deeper (envOfC "_law_pen" (defScope s_law_pen) s.heap.objs.size f cdv))) (hG : A.guards = some []) :
    PSs (cxOf CX0 P w K mg base N_law_pen "_law_pen" (defScope s_law_pen) f cdv A outer s H E).nox (defBody s_law_pen) (t_law_pen K cs) := by
  have nd : N_law_pen.Nodup := sc_law_pen.nd
  exact (pss_one (ps_ret (pe_lst (pa_cons (pe_lc (own := [("cell", 1)]) rfl nd (pi_seq (pe_slice sl_cut (pv 0) po_none (po_some pe_int))) (blkOk_by (own := [("cell", 1)]) (N := N_law_pen) (sc := defScope s_law_pen) (by decide +kernel)) (fun _ _ _ _ _ => (pg_name (i := 1) nd rfl (Or.inl rfl))) (fun _ _ _ _ _ => pts_nil) (fun _ _ _ _ _ => (pe_callTy cr_int1 (by rfl) T.n_int (by decide +kernel) (pa_cons (pv 1) pa_nil)))) (pa_cons pe_int (pa_cons pe_int pa_nil))))))
theorem d_law_draw {P : Program} {w : World} {K : Fg} {mg : Str → Option Value} {base : Heap} {cs : Cs} (T : Txt P K mg base cs)  {f : Addr} {cdv : Value} {A : Around} {outer : List Env} {s : Shared} {H : Hp} {E : XK} (hr : Room 0 (A.deeper (envOfC "_law_draw" (defScope s_law_draw) s.heap.objs.size f cdv))) (hG : A.guards = some []) :
    PSs (cxOf CX0 P w K mg base N_law_draw "_law_draw" (defScope s_law_draw) f cdv A outer s H E).nox (defBody s_law_draw) (t_law_draw K cs) := by
  have nd : N_law_draw.Nodup := sc_law_draw.nd
  exact (pss_cons (ps_if (pt_cmpR op_gtA (pe_ix ix_seq (pv 0) pe_int (fun _ _ => rfl)) pe_int (nomark _)) (pss_cons (ps_set (i := 2) nd rfl (Or.inl rfl) (pe_op op_fmodA (pe_callTy cr_int1 (by rfl) T.n_int (by decide +kernel) (pa_cons (pe_ix ix_seq (pv 0) pe_int (fun _ _ => rfl)) pa_nil)) (pv 1)))
      (pss_cons (ps_asg (pe_op op_fdivA (pe_callTy cr_int1 (by rfl) T.n_int (by decide +kernel) (pa_cons (pe_ix ix_seq (pv 0) pe_int (fun _ _ => rfl)) pa_nil)) (pv 1)) (pg_sub (pv 0) pe_int set_list))
      (pss_one (ps_ret (pv 2))))) pss_nil)
      (pss_cons (ps_set (i := 3) nd rfl (Or.inl rfl) (pe_ix ix_seq (pv 0) pe_int (fun _ _ => rfl)))
      (pss_cons (ps_asg (pe_op op_plus (pv 3) pe_int) (pg_sub (pv 0) pe_int set_list))
      (pss_cons (ps_set (i := 4) nd rfl (Or.inl rfl) (pe_op op_plus (pe_op op_times pe_int (pv 3)) pe_int))
      (pss_cons (ps_if (pt_cmpR (op_neA hr.units) (pe_ix ix_seq (pv 0) pe_int (fun _ _ => rfl)) (pe_lst pa_nil) (nomark _)) (pss_one (ps_set (i := 4) nd rfl (Or.inl rfl) (pe_ix ix_seq (pe_ix ix_seq (pv 0) pe_int (fun _ _ => rfl)) (pe_op op_fmodA (pe_callTy cr_int1 (by rfl) T.n_int (by decide +kernel) (pa_cons (pv 3) pa_nil)) (pe_callB cr_len (by rfl) T.n_len (by decide +kernel) (pa_cons (pe_ix ix_seq (pv 0) pe_int (fun _ _ => rfl)) pa_nil))) (fun _ _ => rfl)))) pss_nil)
      (pss_cons (ps_if (PW.pt (pw_and (pt_cmpR op_ltA (pv 3) (pe_callB cr_len (by rfl) T.n_len (by decide +kernel) (pa_cons (pe_ix ix_seq (pv 0) pe_int (fun _ _ => rfl)) pa_nil)) (nomark _)) (pw_and1 (pt_cmpR op_geA (pe_callB cr_abs (by rfl) T.n_abs (by decide +kernel) (pa_cons (pv 4) pa_nil)) (pe_op op_powA pe_int pe_int) (nomark _))))) (pss_cons (ps_set (i := 5) nd rfl (Or.inl rfl) (pe_op op_plus (pe_op op_times pe_int (pe_op op_minus (pe_callB cr_abs (by rfl) T.n_abs (by decide +kernel) (pa_cons (pv 4) pa_nil)) (pe_op op_powA pe_int pe_int))) (pe_callTy cr_int1 (by rfl) T.n_int (by decide +kernel) (pa_cons (pe_cmpR op_ltA (pv 4) pe_int (nomark _)) pa_nil))))
      (pss_cons (ps_asg (pe_op op_fdivA (pe_callTy cr_int1 (by rfl) T.n_int (by decide +kernel) (pa_cons (pv 5) pa_nil)) (pv 1)) (pg_sub (pv 0) pe_int set_list))
      (pss_one (ps_ret (pe_op op_fmodA (pe_callTy cr_int1 (by rfl) T.n_int (by decide +kernel) (pa_cons (pv 5) pa_nil)) (pv 1)))))) pss_nil)
      (pss_cons (ps_set (i := 6) nd rfl (Or.inl rfl) (pe_op op_fmodA (pe_callTy cr_int1 (by rfl) T.n_int (by decide +kernel) (pa_cons (pe_op op_powA (pe_op op_plus (pe_op op_plus (pe_op op_fmodA (pe_callTy cr_int1 (by rfl) T.n_int (by decide +kernel) (pa_cons (pv 4) pa_nil)) pe_int) (pe_op op_times pe_int (pv 3))) pe_int) pe_int) pa_nil)) pe_int))
      (pss_cons (ps_set (i := 6) nd rfl (Or.inl rfl) (pe_op op_fmodA (pe_callTy cr_int1 (by rfl) T.n_int (by decide +kernel) (pa_cons (pe_op op_powA (pe_op op_plus (pe_op op_plus (pe_op op_times (pv 6) (pe_op op_plus (pe_op op_times pe_int (pv 3)) pe_int)) (pe_op op_times (pe_op op_times pe_int (pv 3)) (pv 3))) pe_int) pe_int) pa_nil)) pe_int))
      (pss_one (ps_ret (pe_op op_fmodA (pe_callTy cr_int1 (by rfl) T.n_int (by decide +kernel) (pa_cons (pe_op op_fdivA (pv 6) pe_int) pa_nil)) (pv 1))))))))))))
theorem d_law_gcd {P : Program} {w : World} {K : Fg} {mg : Str → Option Value} {base : Heap} {cs : Cs} (T : Txt P K mg base cs)  {f : Addr} {cdv : Value} {A : Around} {outer : List Env} {s : Shared} {H : Hp} {E : XK} (hr : Room 0 (A.deeper (envOfC "_law_gcd" (defScope s_law_gcd) s.heap.objs.size f cdv))) (hG : A.guards = some []) :
    PSs (cxOf CX0 P w K mg base N_law_gcd "_law_gcd" (defScope s_law_gcd) f cdv A outer s H E).nox (defBody s_law_gcd) (t_law_gcd K cs) := by
  have nd : N_law_gcd.Nodup := sc_law_gcd.nd
  exact (pss_cons (ps_par (i := 0) (j := 1) rfl nd rfl rfl (by decide) rfl rfl (pa_cons (pe_callB cr_abs (by rfl) T.n_abs (by decide +kernel) (pa_cons (pv 0) pa_nil)) (pa_cons (pe_callB cr_abs (by rfl) T.n_abs (by decide +kernel) (pa_cons (pv 1) pa_nil)) pa_nil)) (by rfl))
      (pss_cons (ps_while PassesOwn.never (pt_cmpR (op_neA hr.units) (pv 1) pe_int (nomark _)) (pss_one (ps_par (i := 0) (j := 1) rfl nd rfl rfl (by decide) rfl rfl (pa_cons (pv 1) (pa_cons (pe_op op_fmodA (pe_callTy cr_int1 (by rfl) T.n_int (by decide +kernel) (pa_cons (pv 0) pa_nil)) (pv 1)) pa_nil)) (by rfl))))
      (pss_one (ps_ret (pv 0)))))
theorem d_law_sign {P : Program} {w : World} {K : Fg} {mg : Str → Option Value} {base : Heap} {cs : Cs} (T : Txt P K mg base cs)  {f : Addr} {cdv : Value} {A : Around} {outer : List Env} {s : Shared} {H : Hp} {E : XK} (hr : Room 0 (A.deeper (envOfC "_law_sign" (defScope s_law_sign) s.heap.objs.size f cdv))) (hG : A.guards = some []) :
    PSs (cxOf CX0 P w K mg base N_law_sign "_law_sign" (defScope s_law_sign) f cdv A outer s H E).nox (defBody s_law_sign) (t_law_sign K cs) := by
  have nd : N_law_sign.Nodup := sc_law_sign.nd
  exact (pss_one (ps_ret (pe_op op_minus (pe_callTy cr_int1 (by rfl) T.n_int (by decide +kernel) (pa_cons (pe_cmpR op_gtA (pv 0) pe_int (nomark _)) pa_nil)) (pe_callTy cr_int1 (by rfl) T.n_int (by decide +kernel) (pa_cons (pe_cmpR op_ltA (pv 0) pe_int (nomark _)) pa_nil)))))
theorem d_law_heard_rest {P : Program} {w : World} {K : Fg} {mg : Str → Option Value} {base : Heap} {cs : Cs} (T : Txt P K mg base cs) {f : Addr} {cdv : Value} {A : Around} {outer : List Env} {s : Shared} {H : Hp} {E : XK} (hr : Room 0 (A.deeper (envOfC "_law_heard" (defScope s_law_heard) s.heap.objs.size f cdv))) :
    PSs (cxOf CX0 P w K mg base N_law_heard "_law_heard" (defScope s_law_heard) f cdv A outer s H E).nox ((defBody s_law_heard).drop 2) (t_law_heard_rest K cs) := by
  have nd : N_law_heard.Nodup := sc_law_heard.nd
  exact (pss_cons (ps_if (pt_tru (pe_callB cr_isB (by rfl) T.n_isinstance (by decide +kernel) (pa_cons (pv 1) (pa_cons (pe_glob (v := .ref _) (by rfl) T.m_BadValue rfl) pa_nil)))) (pss_one (ps_ret (pe_tup (pa_cons pe_str (pa_cons (pe_att (pv 1)) pa_nil))))) pss_nil)
      (pss_cons (ps_if (pt_tru (pe_callB cr_isB (by rfl) T.n_isinstance (by decide +kernel) (pa_cons (pv 1) (pa_cons (pe_glob (v := .ref _) (by rfl) T.m_BadShape rfl) pa_nil)))) (pss_one (ps_ret (pe_tup (pa_cons pe_str (pa_cons (pe_att (pv 1)) pa_nil))))) pss_nil)
      (pss_one (ps_ret (pe_ifExp (pt_cmpR op_isNA (pv 1) pe_non (nomark _)) pe_non (pe_tup (pa_cons pe_str pa_nil)))))))
theorem tk_law_heard {X : Cx} {cs : Cs} (T : Txt X.prog X.K X.mg X.base cs) : Taker X "_law_heard" s_law_heard N_law_heard "ask" (TTh X.K (.ref cs.c_CutError) (lamN X) N_law_heard (t_law_heard_rest X.K cs)) :=
  ⟨T.a_law_heard, sc_law_heard, rfl, Or.inl rfl, fun g cdg => gives_heard sc_law_heard.nd rfl rfl rfl rfl rfl T.m_CutError (by decide) (by decide) (by decide) fun s H hr => d_law_heard_rest T hr⟩
theorem d_Shape_eq {P : Program} {w : World} {K : Fg} {mg : Str → Option Value} {base : Heap} {cs : Cs} (T : Txt P K mg base cs)  {f : Addr} {cdv : Value} {A : Around} {outer : List Env} {s : Shared} {H : Hp} {E : XK} (hr : Room 0 (A.deeper (envOfC "Shape.__eq__" (defScope s_Shape_eq) s.heap.objs.size f cdv))) (hG : A.guards = some []) :
    PSs (cxOf CX0 P w K mg base N_Shape_eq "Shape.__eq__" (defScope s_Shape_eq) f cdv A outer s H E).nox (defBody s_Shape_eq) (t_Shape_eq K cs) := by
  have nd : N_Shape_eq.Nodup := sc_Shape_eq.nd
  exact (pss_cons (ps_if (pt_not (pt_tru (pe_callB cr_isB (by rfl) T.n_isinstance (by decide +kernel) (pa_cons (pv 1) (pa_cons (pe_glob (v := .ref _) (by rfl) T.m_Shape rfl) pa_nil))))) (pss_one (ps_ret pe_bl)) pss_nil)
      (pss_one (ps_ret (pe_cmpR (op_eqA hr.units) (pe_tup (pa_cons (pe_att (pv 0)) (pa_cons (pe_att (pv 0)) (pa_cons (pe_att (pv 0)) pa_nil)))) (pe_tup (pa_cons (pe_att (pv 1)) (pa_cons (pe_att (pv 1)) (pa_cons (pe_att (pv 1)) pa_nil)))) (nomark _)))))
theorem d_is_within {P : Program} {w : World} {K : Fg} {mg : Str → Option Value} {base : Heap} {cs : Cs} (T : Txt P K mg base cs) (h_is_integer : Has P w K mg base 1 "is_integer" s_is_integer P_is_integer (sp_is_integer K cs)) {f : Addr} {cdv : Value} {A : Around} {outer : List Env} {s : Shared} {H : Hp} {E : XK} (hr : Room 1 (A.deeper (envOfC "is_within" (defScope s_is_within) s.heap.objs.size f cdv))) (hG : A.guards = some []) :
    PSs (cxOf CX0 P w K mg base N_is_within "is_within" (defScope s_is_within) f cdv A outer s H E).nox (defBody s_is_within) (t_is_within K cs) := by
  have nd : N_is_within.Nodup := sc_is_within.nd
  exact (pss_cons (ps_if (pt_not (pt_tru (pe_callH h_is_integer hr (by decide) hG (pa_cons (pv 0) pa_nil)))) (pss_one (ps_ret pe_bl)) pss_nil)
      (pss_one (ps_ret (pe_and (pe_or (pe_cmpR op_isNA (pv 1) pe_non (nomark _)) (pe_one (pe_cmpR op_geA (pv 0) (pv 1) (nomark _)))) (pe_one (pe_or (pe_cmpR op_isNA (pv 2) pe_non (nomark _)) (pe_one (pe_cmpR op_leA (pv 0) (pv 2) (nomark _)))))))))
theorem d_plane_of {P : Program} {w : World} {K : Fg} {mg : Str → Option Value} {base : Heap} {cs : Cs} (T : Txt P K mg base cs) (h_gcd_of : Has P w K mg base 1 "gcd_of" s_gcd_of P_gcd_of (sp_gcd_of K cs)) {f : Addr} {cdv : Value} {A : Around} {outer : List Env} {s : Shared} {H : Hp} {E : XK} (hr : Room 1 (A.deeper (envOfC "plane_of" (defScope s_plane_of) s.heap.objs.size f cdv))) (hG : A.guards = some []) :
    PSs (cxOf CX0 P w K mg base N_plane_of "plane_of" (defScope s_plane_of) f cdv A outer s H E).nox (defBody s_plane_of) (t_plane_of K cs) := by
  have nd : N_plane_of.Nodup := sc_plane_of.nd
  exact (pss_cons (ps_set (i := 2) nd rfl (Or.inr rfl) (pe_callH h_gcd_of hr (by decide) hG (pa_cons (pe_lst (StX.pa_star (pv 0) (StX.pa_star (pv 1) pa_nil))) pa_nil)))
      (pss_cons (ps_set (i := 2) nd rfl (Or.inr rfl) (pe_ifExp (pt_cmpR op_gtA (pe_ix ix_seq (pe_lc (own := [("part", 3)]) rfl nd (pi_seq (pv 0)) (blkOk_by (own := [("part", 3)]) (N := N_plane_of) (sc := defScope s_plane_of) (by decide +kernel)) (fun _ _ _ _ _ => (pg_name (i := 3) nd rfl (Or.inl rfl))) (fun _ _ _ _ _ => (pts_one (pt_cmpR (op_neA hr.units) (pv 3) pe_int (nomark _)))) (fun _ _ _ _ _ => (pv 3))) pe_int (fun _ _ => rfl)) pe_int (nomark _)) (pv 2) (pe_un un_neg (pv 2))))
      (pss_one (ps_ret (pe_tup (pa_cons (pe_callTy cr_tupOf (by rfl) T.n_tuple (by decide +kernel) (pa_cons (pe_lc (own := [("part", 3)]) rfl nd (pi_seq (pv 0)) (blkOk_by (own := [("part", 3)]) (N := N_plane_of) (sc := defScope s_plane_of) (by decide +kernel)) (fun _ _ _ _ _ => (pg_name (i := 3) nd rfl (Or.inl rfl))) (fun _ _ _ _ _ => pts_nil) (fun _ _ _ _ _ => (pe_op op_fdivA (pv 3) (pv 2)))) pa_nil)) (pa_cons (pe_callTy cr_tupOf (by rfl) T.n_tuple (by decide +kernel) (pa_cons (pe_lc (own := [("part", 3)]) rfl nd (pi_seq (pv 1)) (blkOk_by (own := [("part", 3)]) (N := N_plane_of) (sc := defScope s_plane_of) (by decide +kernel)) (fun _ _ _ _ _ => (pg_name (i := 3) nd rfl (Or.inl rfl))) (fun _ _ _ _ _ => pts_nil) (fun _ _ _ _ _ => (pe_op op_fdivA (pv 3) (pv 2)))) pa_nil)) pa_nil)))))))
theorem d_is_word {P : Program} {w : World} {K : Fg} {mg : Str → Option Value} {base : Heap} {cs : Cs} (T : Txt P K mg base cs) (h_is_listed : Has P w K mg base 1 "is_listed" s_is_listed P_is_listed (sp_is_listed K cs)) {f : Addr} {cdv : Value} {A : Around} {outer : List Env} {s : Shared} {H : Hp} {E : XK} (hr : Room 1 (A.deeper (envOfC "is_word" (defScope s_is_word) s.heap.objs.size f cdv))) (hG : A.guards = some []) :
    PSs (cxOf CX0 P w K mg base N_is_word "is_word" (defScope s_is_word) f cdv A outer s H E).nox (defBody s_is_word) (t_is_word K cs) := by
  have nd : N_is_word.Nodup := sc_is_word.nd
  exact (pss_cons (ps_if (PW.pt (pw_or (pt_not (pt_tru (pe_callH h_is_listed hr (by decide) hG (pa_cons (pv 0) pa_nil)))) (pw_or (pt_cmpR (op_neA hr.units) (pe_callB cr_len (by rfl) T.n_len (by decide +kernel) (pa_cons (pv 0) pa_nil)) pe_int (nomark _)) (pw_or1 (pt_not (pt_tru (pe_callB cr_isA (by rfl) T.n_isinstance (by decide +kernel) (pa_cons (pe_ix ix_seq (pv 0) pe_int (fun _ _ => rfl)) (pa_cons (pe_bltn (v := .ty "str") (by rfl) T.n_str (by decide +kernel) rfl) pa_nil))))))))) (pss_one (ps_ret pe_bl)) pss_nil)
      (pss_one (ps_ret (pe_or (pe_cmpR op_in_seq (pe_ix ix_seq (pv 0) pe_int (fun _ _ => rfl)) (pe_glob (v := .ref _) (by rfl) T.g_ENDS rfl) rfl) (pe_or (pe_cmpR op_in_seq (pe_ix ix_seq (pv 0) pe_int (fun _ _ => rfl)) (pe_glob (v := .ref _) (by rfl) T.g_ALONE rfl) rfl) (pe_one (pe_cmpR op_in_seq (pe_ix ix_seq (pv 0) pe_int (fun _ _ => rfl)) (pe_glob (v := .ref _) (by rfl) T.g_PAIRS rfl) rfl)))))))
theorem d_law_pick {P : Program} {w : World} {K : Fg} {mg : Str → Option Value} {base : Heap} {cs : Cs} (T : Txt P K mg base cs) (h_law_draw : Has P w K mg base 1 "_law_draw" s_law_draw P_law_draw (sp_law_draw K cs)) {f : Addr} {cdv : Value} {A : Around} {outer : List Env} {s : Shared} {H : Hp} {E : XK} (hr : Room 1 (A.deeper (envOfC "_law_pick" (defScope s_law_pick) s.heap.objs.size f cdv))) (hG : A.guards = some []) :
    PSs (cxOf CX0 P w K mg base N_law_pick "_law_pick" (defScope s_law_pick) f cdv A outer s H E).nox (defBody s_law_pick) (t_law_pick K cs) := by
  have nd : N_law_pick.Nodup := sc_law_pick.nd
  exact (pss_one (ps_ret (pe_ix ix_seq (pv 1) (pe_callH h_law_draw hr (by decide) hG (pa_cons (pv 0) (pa_cons (pe_callB cr_len (by rfl) T.n_len (by decide +kernel) (pa_cons (pv 1) pa_nil)) pa_nil))) (fun _ _ => rfl))))
theorem d_law_plane {P : Program} {w : World} {K : Fg} {mg : Str → Option Value} {base : Heap} {cs : Cs} (T : Txt P K mg base cs) (h_law_gcd : Has P w K mg base 1 "_law_gcd" s_law_gcd P_law_gcd (sp_law_gcd K cs)) (h_law_sign : Has P w K mg base 1 "_law_sign" s_law_sign P_law_sign (sp_law_sign K cs)) {f : Addr} {cdv : Value} {A : Around} {outer : List Env} {s : Shared} {H : Hp} {E : XK} (hr : Room 1 (A.deeper (envOfC "_law_plane" (defScope s_law_plane) s.heap.objs.size f cdv))) (hG : A.guards = some []) :
    PSs (cxOf CX0 P w K mg base N_law_plane "_law_plane" (defScope s_law_plane) f cdv A outer s H E).nox (defBody s_law_plane) (t_law_plane K cs) := by
  have nd : N_law_plane.Nodup := sc_law_plane.nd
  exact (pss_cons (ps_set (i := 2) nd rfl (Or.inr rfl) pe_int)
      (pss_cons (ps_for PassesOwn.never rfl (pi_seq (pe_op op_plus (pe_callTy cr_listOf (by rfl) T.n_list (by decide +kernel) (pa_cons (pv 0) pa_nil)) (pe_callTy cr_listOf (by rfl) T.n_list (by decide +kernel) (pa_cons (pv 1) pa_nil)))) (pg_name (i := 3) nd rfl (Or.inl rfl)) (pss_one (ps_set (i := 2) nd rfl (Or.inr rfl) (pe_callH h_law_gcd hr (by decide) hG (pa_cons (pv 2) (pa_cons (pv 3) pa_nil))))))
      (pss_cons (ps_set (i := 2) nd rfl (Or.inr rfl) (pe_op op_times (pv 2) (pe_callH h_law_sign hr (by decide) hG (pa_cons (pe_ix ix_seq (pe_lc (own := [("part", 3)]) rfl nd (pi_seq (pv 0)) (blkOk_by (own := [("part", 3)]) (N := N_law_plane) (sc := defScope s_law_plane) (by decide +kernel)) (fun _ _ _ _ _ => (pg_name (i := 3) nd rfl (Or.inl rfl))) (fun _ _ _ _ _ => (pts_one (pt_cmpR (op_neA hr.units) (pv 3) pe_int (nomark _)))) (fun _ _ _ _ _ => (pv 3))) pe_int (fun _ _ => rfl)) pa_nil))))
      (pss_one (ps_ret (pe_tup (pa_cons (pe_callTy cr_tupOf (by rfl) T.n_tuple (by decide +kernel) (pa_cons (pe_lc (own := [("part", 3)]) rfl nd (pi_seq (pv 0)) (blkOk_by (own := [("part", 3)]) (N := N_law_plane) (sc := defScope s_law_plane) (by decide +kernel)) (fun _ _ _ _ _ => (pg_name (i := 3) nd rfl (Or.inl rfl))) (fun _ _ _ _ _ => pts_nil) (fun _ _ _ _ _ => (pe_op op_fdivA (pv 3) (pv 2)))) pa_nil)) (pa_cons (pe_callTy cr_tupOf (by rfl) T.n_tuple (by decide +kernel) (pa_cons (pe_lc (own := [("part", 3)]) rfl nd (pi_seq (pv 1)) (blkOk_by (own := [("part", 3)]) (N := N_law_plane) (sc := defScope s_law_plane) (by decide +kernel)) (fun _ _ _ _ _ => (pg_name (i := 3) nd rfl (Or.inl rfl))) (fun _ _ _ _ _ => pts_nil) (fun _ _ _ _ _ => (pe_op op_fdivA (pv 3) (pv 2)))) pa_nil)) pa_nil))))))))
theorem d_are_integers {P : Program} {w : World} {K : Fg} {mg : Str → Option Value} {base : Heap} {cs : Cs} (T : Txt P K mg base cs) (h_is_listed : Has P w K mg base 1 "is_listed" s_is_listed P_is_listed (sp_is_listed K cs)) (h_is_within : Has P w K mg base 2 "is_within" s_is_within P_is_within (sp_is_within K cs)) {f : Addr} {cdv : Value} {A : Around} {outer : List Env} {s : Shared} {H : Hp} {E : XK} (hr : Room 2 (A.deeper (envOfC "are_integers" (defScope s_are_integers) s.heap.objs.size f cdv))) (hG : A.guards = some []) :
    PSs (cxOf CX0 P w K mg base N_are_integers "are_integers" (defScope s_are_integers) f cdv A outer s H E).nox (defBody s_are_integers) (t_are_integers K cs) := by
  have nd : N_are_integers.Nodup := sc_are_integers.nd
  exact (pss_one (ps_ret (pe_and (pe_callH h_is_listed hr (by decide) hG (pa_cons (pv 0) pa_nil)) (pe_and (pe_cmpR (op_eqA hr.units) (pe_callB cr_len (by rfl) T.n_len (by decide +kernel) (pa_cons (pv 0) pa_nil)) (pv 1) (nomark _)) (pe_one (pe_allA T.n_all (pa_cons (pe_lc (own := [("part", 3)]) rfl nd (pi_seq (pv 0)) (blkOk_by (own := [("part", 3)]) (N := N_are_integers) (sc := defScope s_are_integers) (by decide +kernel)) (fun _ _ _ _ _ => (pg_name (i := 3) nd rfl (Or.inl rfl))) (fun _ _ _ _ _ => pts_nil) (fun _ _ _ _ _ => (pe_callH h_is_within hr (by decide) hG (pa_cons (pv 3) (pa_cons (pe_un un_neg (pv 2)) (pa_cons (pv 2) pa_nil)))))) pa_nil)))))))
theorem d_need_shape {P : Program} {w : World} {K : Fg} {mg : Str → Option Value} {base : Heap} {cs : Cs} (T : Txt P K mg base cs) (h_BadShape : HasE P w K mg base 1 s_BadShape_init cs.c_BadShape ["part"]) {f : Addr} {cdv : Value} {A : Around} {outer : List Env} {s : Shared} {H : Hp} {E : XK} (hr : Room 2 (A.deeper (envOfC "need_shape" (defScope s_need_shape) s.heap.objs.size f cdv))) (hG : A.guards = some []) :
    PSs (cxOf (L2.CX P w) P w K mg base N_need_shape "need_shape" (defScope s_need_shape) f cdv A outer s H E) (defBody s_need_shape) (t_need_shape K cs E) := by
  have nd : N_need_shape.Nodup := sc_need_shape.nd
  exact (pss_one (ps_if (pt_not (pt_tru (pe_callB cr_isB (by rfl) T.n_isinstance (by decide +kernel) (pa_cons (pv 0) (pa_cons (pe_glob (v := .ref _) (by rfl) T.m_Shape rfl) pa_nil))))) (pss_one (ps_raiseX h_BadShape takesX bn_BadShape hr (by decide) T.m_BadShape (pa_cons (pv 1) pa_nil))) pss_nil))
theorem d_law_planes {P : Program} {w : World} {K : Fg} {mg : Str → Option Value} {base : Heap} {cs : Cs} (T : Txt P K mg base cs) (h_law_plane : Has P w K mg base 2 "_law_plane" s_law_plane P_law_plane (sp_law_plane K cs)) {f : Addr} {cdv : Value} {A : Around} {outer : List Env} {s : Shared} {H : Hp} {E : XK} (hr : Room 2 (A.deeper (envOfC "_law_planes" (defScope s_law_planes) s.heap.objs.size f cdv))) (hG : A.guards = some []) :
    PSs (cxOf CX0 P w K mg base N_law_planes "_law_planes" (defScope s_law_planes) f cdv A outer s H E).nox (defBody s_law_planes) (t_law_planes P w K cs) := by
  have nd : N_law_planes.Nodup := sc_law_planes.nd
  exact (pss_one (ps_ret (pe_callB (SetH.cr_srtP (by rfl) hr.units) (by rfl) T.n_sorted (by decide +kernel) (pa_cons (pe_callTy (SetH.cr_setP (by rfl) hr.units) (by rfl) T.n_set (by decide +kernel) (pa_cons (pe_lc (own := [("step", 1)]) rfl nd (pi_seq (pe_dget (u1 hr.units) (pv 0) pe_str (fun _ _ => rfl))) (blkOk_by (own := [("step", 1)]) (N := N_law_planes) (sc := defScope s_law_planes) (by decide +kernel)) (fun _ _ _ _ _ => (pg_name (i := 1) nd rfl (Or.inl rfl))) (fun _ _ _ _ _ => (pts_one (pt_cmpR (op_eqA hr.units) (pe_ix ix_seq (pv 1) pe_int (fun _ _ => rfl)) pe_str (nomark _)))) (fun _ _ _ _ _ => (pe_callH h_law_plane hr (by decide) hG (pa_cons (pe_ix ix_seq (pv 1) pe_int (fun _ _ => rfl)) (pa_cons (pe_ix ix_seq (pv 1) pe_int (fun _ _ => rfl)) pa_nil))))) pa_nil)) pa_nil))))
theorem d_law_half {P : Program} {w : World} {K : Fg} {mg : Str → Option Value} {base : Heap} {cs : Cs} (T : Txt P K mg base cs) (h_law_draw : Has P w K mg base 1 "_law_draw" s_law_draw P_law_draw (sp_law_draw K cs)) (h_law_pick : Has P w K mg base 2 "_law_pick" s_law_pick P_law_pick (sp_law_pick K cs)) {f : Addr} {cdv : Value} {A : Around} {outer : List Env} {s : Shared} {H : Hp} {E : XK} (hr : Room 2 (A.deeper (envOfC "_law_half" (defScope s_law_half) s.heap.objs.size f cdv))) (hG : A.guards = some []) :
    PSs (cxOf CX0 P w K mg base N_law_half "_law_half" (defScope s_law_half) f cdv A outer s H E).nox (defBody s_law_half) (t_law_half K cs) := by
  have nd : N_law_half.Nodup := sc_law_half.nd
  exact (pss_cons (ps_set (i := 3) nd rfl (Or.inl rfl) (pe_ix ix_seq (pe_lst (pa_cons (pe_lst (pa_cons (pe_tup (pa_cons pe_int pa_nil)) (pa_cons (pe_tup (pa_cons pe_int pa_nil)) (pa_cons (pe_tup (pa_cons pe_int pa_nil)) (pa_cons (pe_tup (pa_cons pe_int pa_nil)) (pa_cons (pe_tup (pa_cons pe_int pa_nil)) pa_nil)))))) (pa_cons (pe_lst (pa_cons (pe_tup (pa_cons pe_int (pa_cons pe_int pa_nil))) (pa_cons (pe_tup (pa_cons pe_int (pa_cons pe_int pa_nil))) (pa_cons (pe_tup (pa_cons pe_int (pa_cons pe_int pa_nil))) (pa_cons (pe_tup (pa_cons pe_int (pa_cons (pe_un un_neg pe_int) pa_nil))) (pa_cons (pe_tup (pa_cons pe_int (pa_cons pe_int pa_nil))) (pa_cons (pe_tup (pa_cons (pe_un un_neg pe_int) (pa_cons pe_int pa_nil))) (pa_cons (pe_tup (pa_cons pe_int (pa_cons (pe_un un_neg pe_int) pa_nil))) (pa_cons (pe_tup (pa_cons pe_int (pa_cons pe_int pa_nil))) pa_nil))))))))) (pa_cons (pe_lst (pa_cons (pe_tup (pa_cons pe_int (pa_cons pe_int (pa_cons pe_int pa_nil)))) (pa_cons (pe_tup (pa_cons pe_int (pa_cons pe_int (pa_cons pe_int pa_nil)))) (pa_cons (pe_tup (pa_cons pe_int (pa_cons pe_int (pa_cons pe_int pa_nil)))) (pa_cons (pe_tup (pa_cons pe_int (pa_cons pe_int (pa_cons pe_int pa_nil)))) (pa_cons (pe_tup (pa_cons pe_int (pa_cons pe_int (pa_cons pe_int pa_nil)))) (pa_cons (pe_tup (pa_cons pe_int (pa_cons (pe_un un_neg pe_int) (pa_cons pe_int pa_nil)))) (pa_cons (pe_tup (pa_cons pe_int (pa_cons pe_int (pa_cons pe_int pa_nil)))) (pa_cons (pe_tup (pa_cons pe_int (pa_cons (pe_un un_neg pe_int) (pa_cons pe_int pa_nil)))) pa_nil))))))))) pa_nil)))) (pe_op op_minus (pv 1) pe_int) (fun _ _ => rfl)))
      (pss_cons (ps_asg (pe_tup (pa_cons (pe_callH h_law_pick hr (by decide) hG (pa_cons (pv 0) (pa_cons (pv 3) pa_nil))) (pa_cons (pe_callH h_law_pick hr (by decide) hG (pa_cons (pv 0) (pa_cons (pe_lst (pa_cons pe_int (pa_cons (pe_un un_neg pe_int) (pa_cons (pe_un un_neg pe_int) (pa_cons pe_int (pa_cons pe_int pa_nil)))))) pa_nil))) pa_nil))) (pg_tup rfl (pgs_cons (pg_name (i := 4) nd rfl (Or.inl rfl)) (pgs_cons (pg_name (i := 5) nd rfl (Or.inr rfl)) pgs_nil))))
      (pss_cons (ps_if (pt_cmpR (op_eqA hr.units) (pe_callH h_law_draw hr (by decide) hG (pa_cons (pv 0) (pa_cons pe_int pa_nil))) pe_int (nomark _)) (pss_cons (ps_set (i := 4) nd rfl (Or.inl rfl) (pe_callTy cr_tupOf (by rfl) T.n_tuple (by decide +kernel) (pa_cons (pe_op op_plus (pe_lst (pa_cons (pe_op op_minus pe_int (pe_callH h_law_draw hr (by decide) hG (pa_cons (pv 0) (pa_cons pe_int pa_nil)))) pa_nil)) (pe_lc (own := [("at", 7)]) rfl nd (pi_range1 rfl T.n_range (pa_cons (pe_op op_minus (pv 1) pe_int) pa_nil)) (blkOk_by (own := [("at", 7)]) (N := N_law_half) (sc := defScope s_law_half) (by decide +kernel)) (fun _ _ _ _ _ => (pg_name (i := 7) nd rfl (Or.inl rfl))) (fun _ _ _ _ _ => pts_nil) (fun _ _ _ _ _ => (pe_callH h_law_pick hr (by decide) hG (pa_cons (pv 0) (pa_cons (pe_lst (pa_cons pe_int (pa_cons (pe_op op_minus pe_int (pe_callH h_law_draw hr (by decide) hG (pa_cons (pv 0) (pa_cons pe_int pa_nil)))) pa_nil))) pa_nil)))))) pa_nil)))
      (pss_one (ps_set (i := 4) nd rfl (Or.inl rfl) (pe_ifExp (pt_cmpR (op_neA hr.units) (pe_ix ix_seq (pv 4) pe_int (fun _ _ => rfl)) pe_int (nomark _)) (pv 4) (pe_op op_plus (pe_tup (pa_cons pe_int pa_nil)) (pe_slice sl_cut (pv 4) (po_some pe_int) po_none)))))) pss_nil)
      (pss_cons (ps_set (i := 6) nd rfl (Or.inl rfl) (pe_op op_plus (pe_lst (pa_cons (pe_op op_minus (pe_callH h_law_draw hr (by decide) hG (pa_cons (pv 0) (pa_cons pe_int pa_nil))) pe_int) pa_nil)) (pe_lc (own := [("at", 7)]) rfl nd (pi_range1 rfl T.n_range (pa_cons (pv 2) pa_nil)) (blkOk_by (own := [("at", 7)]) (N := N_law_half) (sc := defScope s_law_half) (by decide +kernel)) (fun _ _ _ _ _ => (pg_name (i := 7) nd rfl (Or.inl rfl))) (fun _ _ _ _ _ => pts_nil) (fun _ _ _ _ _ => (pe_callH h_law_pick hr (by decide) hG (pa_cons (pv 0) (pa_cons (pe_lst (pa_cons pe_int (pa_cons pe_int (pa_cons pe_int (pa_cons (pe_un un_neg pe_int) (pa_cons pe_int pa_nil)))))) pa_nil)))))))
      (pss_one (ps_ret (pe_tup (pa_cons pe_str (pa_cons (pe_callTy cr_tupOf (by rfl) T.n_tuple (by decide +kernel) (pa_cons (pe_lc (own := [("part", 8)]) rfl nd (pi_seq (pv 4)) (blkOk_by (own := [("part", 8)]) (N := N_law_half) (sc := defScope s_law_half) (by decide +kernel)) (fun _ _ _ _ _ => (pg_name (i := 8) nd rfl (Or.inl rfl))) (fun _ _ _ _ _ => pts_nil) (fun _ _ _ _ _ => (pe_op op_times (pv 5) (pv 8)))) pa_nil)) (pa_cons (pe_callTy cr_tupOf (by rfl) T.n_tuple (by decide +kernel) (pa_cons (pv 6) pa_nil)) pa_nil))))))))))
theorem d_is_half {P : Program} {w : World} {K : Fg} {mg : Str → Option Value} {base : Heap} {cs : Cs} (T : Txt P K mg base cs) (h_are_integers : Has P w K mg base 3 "are_integers" s_are_integers P_are_integers (sp_are_integers K cs)) (h_is_listed : Has P w K mg base 1 "is_listed" s_is_listed P_is_listed (sp_is_listed K cs)) {f : Addr} {cdv : Value} {A : Around} {outer : List Env} {s : Shared} {H : Hp} {E : XK} (hr : Room 3 (A.deeper (envOfC "is_half" (defScope s_is_half) s.heap.objs.size f cdv))) (hG : A.guards = some []) :
    PSs (cxOf CX0 P w K mg base N_is_half "is_half" (defScope s_is_half) f cdv A outer s H E).nox (defBody s_is_half) (t_is_half K cs) := by
  have nd : N_is_half.Nodup := sc_is_half.nd
  exact (pss_cons (ps_if (PW.pt (pw_or (pt_not (pt_tru (pe_callH h_is_listed hr (by decide) hG (pa_cons (pv 0) pa_nil)))) (pw_or (pt_cmpR (op_neA hr.units) (pe_callB cr_len (by rfl) T.n_len (by decide +kernel) (pa_cons (pv 0) pa_nil)) pe_int (nomark _)) (pw_or (pt_not (pt_tru (pe_callB cr_isA (by rfl) T.n_isinstance (by decide +kernel) (pa_cons (pe_ix ix_seq (pv 0) pe_int (fun _ _ => rfl)) (pa_cons (pe_bltn (v := .ty "str") (by rfl) T.n_str (by decide +kernel) rfl) pa_nil))))) (pw_or1 (pt_cmpR (op_neA hr.units) (pe_ix ix_seq (pv 0) pe_int (fun _ _ => rfl)) pe_str (nomark _))))))) (pss_one (ps_ret pe_bl)) pss_nil)
      (pss_cons (ps_if (PW.pt (pw_or (pt_not (pt_tru (pe_callH h_are_integers hr (by decide) hG (pa_cons (pe_ix ix_seq (pv 0) pe_int (fun _ _ => rfl)) (pa_cons (pv 1) (pa_cons (pe_gint T.g_MOST_INTEGER) pa_nil)))))) (pw_or1 (pt_not (pt_tru (pe_callH h_are_integers hr (by decide) hG (pa_cons (pe_ix ix_seq (pv 0) pe_int (fun _ _ => rfl)) (pa_cons (pe_op op_plus pe_int (pv 2)) (pa_cons (pe_gint T.g_MOST_INTEGER) pa_nil))))))))) (pss_one (ps_ret pe_bl)) pss_nil)
      (pss_one (ps_ret (pe_anyA T.n_any (pa_cons (pe_lc (own := [("part", 3)]) rfl nd (pi_seq (pe_ix ix_seq (pv 0) pe_int (fun _ _ => rfl))) (blkOk_by (own := [("part", 3)]) (N := N_is_half) (sc := defScope s_is_half) (by decide +kernel)) (fun _ _ _ _ _ => (pg_name (i := 3) nd rfl (Or.inl rfl))) (fun _ _ _ _ _ => pts_nil) (fun _ _ _ _ _ => (pe_cmpR (op_neA hr.units) (pv 3) pe_int (nomark _)))) pa_nil))))))
theorem d_planes_of {P : Program} {w : World} {K : Fg} {mg : Str → Option Value} {base : Heap} {cs : Cs} (T : Txt P K mg base cs) (h_need_shape : HasXD P w K mg base 3 "need_shape" P_need_shape [.str "shape"] (sp_need_shape K cs)) {f : Addr} {cdv : Value} {A : Around} {outer : List Env} {s : Shared} {H : Hp} {E : XK} (hr : Room 3 (A.deeper (envOfC "planes_of" (defScope s_planes_of) s.heap.objs.size f cdv))) (hG : A.guards = some []) :
    PSs (cxOf (L2.CX P w) P w K mg base N_planes_of "planes_of" (defScope s_planes_of) f cdv A outer s H E) (defBody s_planes_of) (t_planes_of K cs E) := by
  have nd : N_planes_of.Nodup := sc_planes_of.nd
  exact (pss_cons (ps_expr (pe_callXDd h_need_shape passX hr (by decide) hG (pa_cons (pv 0) pa_nil)))
      (pss_one (ps_ret (pe_att (pv 0)))))
theorem d_law_plain {P : Program} {w : World} {K : Fg} {mg : Str → Option Value} {base : Heap} {cs : Cs} (T : Txt P K mg base cs) (h_law_draw : Has P w K mg base 1 "_law_draw" s_law_draw P_law_draw (sp_law_draw K cs)) (h_law_half : Has P w K mg base 3 "_law_half" s_law_half P_law_half (sp_law_half K cs)) (h_law_pick : Has P w K mg base 2 "_law_pick" s_law_pick P_law_pick (sp_law_pick K cs)) {f : Addr} {cdv : Value} {A : Around} {outer : List Env} {s : Shared} {H : Hp} {E : XK} (hr : Room 3 (A.deeper (envOfC "_law_plain" (defScope s_law_plain) s.heap.objs.size f cdv))) (hG : A.guards = some []) :
    PSs (cxOf CX0 P w K mg base N_law_plain "_law_plain" (defScope s_law_plain) f cdv A outer s H E).nox (defBody s_law_plain) (t_law_plain K cs) := by
  have nd : N_law_plain.Nodup := sc_law_plain.nd
  exact (pss_cons (ps_set (i := 4) nd rfl (Or.inl rfl) (pe_lst (pa_cons (pe_callH h_law_half hr (by decide) hG (pa_cons (pv 0) (pa_cons (pv 1) (pa_cons (pv 2) pa_nil)))) pa_nil)))
      (pss_cons (ps_for PassesOwn.never rfl (pi_range1 rfl T.n_range (pa_cons (pe_callH h_law_draw hr (by decide) hG (pa_cons (pv 0) (pa_cons (pv 3) pa_nil))) pa_nil)) (pg_name (i := 5) nd rfl (Or.inl rfl)) (pss_cons (ps_asg (pe_callH h_law_pick hr (by decide) hG (pa_cons (pv 0) (pa_cons (pv 4) pa_nil))) (pg_tup rfl (pgs_cons (pg_name (i := 6) nd rfl (Or.inl rfl)) (pgs_cons (pg_name (i := 7) nd rfl (Or.inl rfl)) (pgs_cons (pg_name (i := 8) nd rfl (Or.inl rfl)) pgs_nil)))))
      (pss_cons (ps_set (i := 9) nd rfl (Or.inl rfl) (pe_callH h_law_draw hr (by decide) hG (pa_cons (pv 0) (pa_cons pe_int pa_nil))))
      (pss_one (ps_if (pt_cmpR (op_eqA hr.units) (pv 9) pe_int (nomark _)) (pss_one (ps_expr (pe_bm PySem.F.plainAttrs_list PySem.F.slot_list_append PySem.F.type_list_append mt_append (pv 4) (pa_cons (pe_tup (pa_cons pe_str (pa_cons (pe_callTy cr_tupOf (by rfl) T.n_tuple (by decide +kernel) (pa_cons (pe_lc (own := [("part", 12)]) rfl nd (pi_seq (pv 7)) (blkOk_by (own := [("part", 12)]) (N := N_law_plain) (sc := defScope s_law_plain) (by decide +kernel)) (fun _ _ _ _ _ => (pg_name (i := 12) nd rfl (Or.inl rfl))) (fun _ _ _ _ _ => pts_nil) (fun _ _ _ _ _ => (pe_un un_neg (pv 12)))) pa_nil)) (pa_cons (pe_callTy cr_tupOf (by rfl) T.n_tuple (by decide +kernel) (pa_cons (pe_lc (own := [("part", 12)]) rfl nd (pi_seq (pv 8)) (blkOk_by (own := [("part", 12)]) (N := N_law_plain) (sc := defScope s_law_plain) (by decide +kernel)) (fun _ _ _ _ _ => (pg_name (i := 12) nd rfl (Or.inl rfl))) (fun _ _ _ _ _ => pts_nil) (fun _ _ _ _ _ => (pe_un un_neg (pv 12)))) pa_nil)) pa_nil)))) pa_nil)))) (pss_one (ps_if (pt_cmpR (op_eqA hr.units) (pv 9) pe_int (nomark _)) (pss_one (ps_expr (pe_bm PySem.F.plainAttrs_list PySem.F.slot_list_append PySem.F.type_list_append mt_append (pv 4) (pa_cons (pe_tup (pa_cons pe_str (pa_cons (pv 7) (pa_cons (pe_callTy cr_tupOf (by rfl) T.n_tuple (by decide +kernel) (pa_cons (pe_op op_plus (pe_lst (pa_cons (pe_op op_plus (pe_op op_plus (pe_ix ix_seq (pv 8) pe_int (fun _ _ => rfl)) pe_int) (pe_callH h_law_draw hr (by decide) hG (pa_cons (pv 0) (pa_cons pe_int pa_nil)))) pa_nil)) (pe_callTy cr_listOf (by rfl) T.n_list (by decide +kernel) (pa_cons (pe_slice sl_cut (pv 8) (po_some pe_int) po_none) pa_nil))) pa_nil)) pa_nil)))) pa_nil)))) (pss_one (ps_expr (pe_bm PySem.F.plainAttrs_list PySem.F.slot_list_append PySem.F.type_list_append mt_append (pv 4) (pa_cons (pe_callH h_law_half hr (by decide) hG (pa_cons (pv 0) (pa_cons (pv 1) (pa_cons (pv 2) pa_nil)))) pa_nil)))))))))))
      (pss_cons (ps_set (i := 10) nd rfl (Or.inl rfl) (pe_slice sl_cut (pv 4) po_none (po_some pe_int)))
      (pss_cons (ps_for PassesOwn.never rfl (pi_seq (pe_slice sl_cut (pv 4) (po_some pe_int) po_none)) (pg_name (i := 11) nd rfl (Or.inl rfl)) (pss_cons (ps_set (i := 10) nd rfl (Or.inl rfl) (pe_op op_plus (pe_op op_plus (pe_op op_plus (pv 10) (pe_lst (pa_cons (pv 11) pa_nil))) (pe_ifExp (pt_cmpR (op_eqA hr.units) (pe_callH h_law_draw hr (by decide) hG (pa_cons (pv 0) (pa_cons pe_int pa_nil))) pe_int (nomark _)) (pe_lst (pa_cons (pe_tup (pa_cons pe_str pa_nil)) pa_nil)) (pe_lst pa_nil))) (pe_lst (pa_cons (pe_tup (pa_cons (pe_callH h_law_pick hr (by decide) hG (pa_cons (pv 0) (pa_cons (pe_lst (pa_cons pe_str (pa_cons pe_str (pa_cons pe_str (pa_cons pe_str (pa_cons pe_str (pa_cons pe_str pa_nil))))))) pa_nil))) pa_nil)) pa_nil))))
      (pss_one (ps_if (pt_cmpR (op_eqA hr.units) (pe_callH h_law_draw hr (by decide) hG (pa_cons (pv 0) (pa_cons pe_int pa_nil))) pe_int (nomark _)) (pss_one (ps_expr (pe_bm PySem.F.plainAttrs_list PySem.F.slot_list_append PySem.F.type_list_append mt_append (pv 10) (pa_cons (pe_tup (pa_cons (pe_callH h_law_pick hr (by decide) hG (pa_cons (pv 0) (pa_cons (pe_lst (pa_cons pe_str (pa_cons pe_str (pa_cons pe_str (pa_cons pe_str (pa_cons pe_str pa_nil)))))) pa_nil))) pa_nil)) pa_nil)))) pss_nil))))
      (pss_one (ps_ret (pe_disp (pps_cons pe_str (pv 1) (pps_cons pe_str (pv 2) (pps_cons pe_str (pv 10) pps_nil))) rfl rfl (by intro z; cases z) (by decide))))))))
theorem d_are_steps {P : Program} {w : World} {K : Fg} {mg : Str → Option Value} {base : Heap} {cs : Cs} (T : Txt P K mg base cs) (h_is_half : Has P w K mg base 4 "is_half" s_is_half P_is_half (sp_is_half K cs)) (h_is_word : Has P w K mg base 2 "is_word" s_is_word P_is_word (sp_is_word K cs)) (h_taken_by : Has P w K mg base 1 "taken_by" s_taken_by P_taken_by (sp_taken_by K cs)) {f : Addr} {cdv : Value} {A : Around} {outer : List Env} {s : Shared} {H : Hp} {E : XK} (hr : Room 4 (A.deeper (envOfC "are_steps" (defScope s_are_steps) s.heap.objs.size f cdv))) (hG : A.guards = some []) :
    PSs (cxOf CX0 P w K mg base N_are_steps "are_steps" (defScope s_are_steps) f cdv A outer s H E).nox (defBody s_are_steps) (t_are_steps K cs) := by
  have nd : N_are_steps.Nodup := sc_are_steps.nd
  exact (pss_cons (ps_set (i := 3) nd rfl (Or.inl rfl) pe_int)
      (pss_cons (ps_for PassesOwn.never rfl (pi_seq (pv 0)) (pg_name (i := 4) nd rfl (Or.inl rfl)) (pss_cons (ps_if (PW.pt (pw_and (pt_not (pt_tru (pe_callH h_is_half hr (by decide) hG (pa_cons (pv 4) (pa_cons (pv 1) (pa_cons (pv 2) pa_nil)))))) (pw_and1 (pt_not (pt_tru (pe_callH h_is_word hr (by decide) hG (pa_cons (pv 4) pa_nil))))))) (pss_one (ps_ret pe_bl)) pss_nil)
      (pss_cons (ps_set (i := 5) nd rfl (Or.inl rfl) (pe_callH h_taken_by hr (by decide) hG (pa_cons (pe_ix ix_seq (pv 4) pe_int (fun _ _ => rfl)) pa_nil)))
      (pss_cons (ps_if (pt_cmpR op_ltA (pv 3) (pv 5) (nomark _)) (pss_one (ps_ret pe_bl)) pss_nil)
      (pss_one (ps_set (i := 3) nd rfl (Or.inl rfl) (pe_op op_plus (pe_op op_minus (pv 3) (pv 5)) pe_int)))))))
      (pss_one (ps_ret (pe_cmpR (op_eqA hr.units) (pv 3) pe_int (nomark _))))))
theorem d_Shape_init {P : Program} {w : World} {K : Fg} {mg : Str → Option Value} {base : Heap} {cs : Cs} (T : Txt P K mg base cs) (h_BadShape : HasE P w K mg base 1 s_BadShape_init cs.c_BadShape ["part"]) (h_TooMany : HasE P w K mg base 1 s_TooMany_init cs.c_TooMany ["what", "most"]) (h_are_steps : Has P w K mg base 5 "are_steps" s_are_steps P_are_steps (sp_are_steps K cs)) (h_is_listed : Has P w K mg base 1 "is_listed" s_is_listed P_is_listed (sp_is_listed K cs)) (h_is_within : Has P w K mg base 2 "is_within" s_is_within P_is_within (sp_is_within K cs)) (h_plane_of : Has P w K mg base 2 "plane_of" s_plane_of P_plane_of (sp_plane_of K cs)) {f : Addr} {cdv : Value} {A : Around} {outer : List Env} {s : Shared} {H : Hp} {E : XK} (hr : Room 5 (A.deeper (envOfC "Shape.__init__" (defScope s_Shape_init) s.heap.objs.size f cdv))) (hG : A.guards = some []) :
    PSs (cxOf (L2.CX P w) P w K mg base N_Shape_init "Shape.__init__" (defScope s_Shape_init) f cdv A outer s H E) (defBody s_Shape_init) (t_Shape_init P w K cs E) := by
  have nd : N_Shape_init.Nodup := sc_Shape_init.nd
  exact (pss_cons (ps_if (pt_not (pt_tru (pe_callH h_is_within hr (by decide) hG (pa_cons (pv 1) (pa_cons pe_int (pa_cons pe_int pa_nil)))))) (pss_one (ps_raiseX h_BadShape takesX bn_BadShape hr (by decide) T.m_BadShape (pa_cons pe_str pa_nil))) pss_nil)
      (pss_cons (ps_if (pt_not (pt_tru (pe_callH h_is_within hr (by decide) hG (pa_cons (pv 2) (pa_cons pe_int (pa_cons (pe_gint T.g_MOST_SLIDERS) pa_nil)))))) (pss_one (ps_raiseX h_BadShape takesX bn_BadShape hr (by decide) T.m_BadShape (pa_cons pe_str pa_nil))) pss_nil)
      (pss_cons (ps_if (pt_not (pt_tru (pe_callH h_is_listed hr (by decide) hG (pa_cons (pv 3) pa_nil)))) (pss_one (ps_raiseX h_BadShape takesX bn_BadShape hr (by decide) T.m_BadShape (pa_cons pe_str pa_nil))) pss_nil)
      (pss_cons (ps_if (pt_cmpR op_gtA (pe_callB cr_len (by rfl) T.n_len (by decide +kernel) (pa_cons (pv 3) pa_nil)) (pe_gint T.g_MOST_STEPS) (nomark _)) (pss_one (ps_raiseX h_TooMany takesX bn_TooMany hr (by decide) T.m_TooMany (pa_cons pe_str (pa_cons (pe_gint T.g_MOST_STEPS) pa_nil)))) pss_nil)
      (pss_cons (ps_if (pt_not (pt_tru (pe_callH h_are_steps hr (by decide) hG (pa_cons (pv 3) (pa_cons (pv 1) (pa_cons (pv 2) pa_nil)))))) (pss_one (ps_raiseX h_BadShape takesX bn_BadShape hr (by decide) T.m_BadShape (pa_cons pe_str pa_nil))) pss_nil)
      (pss_cons (ps_fld (pv 0) (pv 1) (by rfl))
      (pss_cons (ps_fld (pv 0) (pv 2) (by rfl))
      (pss_cons (ps_fld (pv 0) (pe_callTy cr_tupOf (by rfl) T.n_tuple (by decide +kernel) (pa_cons (pe_lc (own := [("step", 5)]) rfl nd (pi_seq (pv 3)) (blkOk_by (own := [("step", 5)]) (N := N_Shape_init) (sc := defScope s_Shape_init) (by decide +kernel)) (fun _ _ _ _ _ => (pg_name (i := 5) nd rfl (Or.inl rfl))) (fun _ _ _ _ _ => pts_nil) (fun _ _ _ _ _ => (pe_callTy cr_tupOf (by rfl) T.n_tuple (by decide +kernel) (pa_cons (pe_lc (own := [("part", 6)]) rfl nd (pi_seq (pv 5)) (blkOk_by (own := [("part", 6)]) (N := N_Shape_init) (sc := relS _ (defScope s_Shape_init)) (by decide +kernel)) (fun _ _ _ _ _ => (pg_name (i := 6) nd rfl (Or.inl rfl))) (fun _ _ _ _ _ => pts_nil) (fun _ _ _ _ _ => (pe_ifExp (pt_tru (pe_callH h_is_listed hr (by decide) hG (pa_cons (pv 6) pa_nil))) (pe_callTy cr_tupOf (by rfl) T.n_tuple (by decide +kernel) (pa_cons (pv 6) pa_nil)) (pv 6)))) pa_nil)))) pa_nil)) (by rfl))
      (pss_cons (ps_setLc (i := 4) (own := [("step", 5)]) rfl nd rfl rfl (sw_true rfl rfl rfl (by decide +kernel)) (pi_seq (pe_att (pv 0))) (blkOk_by (own := [("step", 5)]) (N := N_Shape_init) (sc := defScope s_Shape_init) (by decide +kernel)) (fun _ _ _ _ _ => (pg_name (i := 5) nd rfl (Or.inl rfl))) (fun _ _ _ _ _ => (pts_one (pt_cmpR (op_eqA hr.units) (pe_ix ix_seq (pv 5) pe_int (fun _ _ => rfl)) pe_str (nomark _)))) (fun _ _ _ _ _ => (pv 5)))
      (pss_one (ps_fld (pv 0) (pe_callTy cr_tupOf (by rfl) T.n_tuple (by decide +kernel) (pa_cons (pe_callB (cr_sortD hr.units) (by rfl) T.n_sorted (by decide +kernel) (pa_cons (pe_callTy (cr_listP (by rfl)) (by rfl) T.n_list (by decide +kernel) (pa_cons (pe_dcP (own := [("word", 7), ("normal", 8), ("offset", 9)]) (u8 hr.units) rfl nd (pi_seq (pv 4)) (blkOk_by (own := [("word", 7), ("normal", 8), ("offset", 9)]) (N := N_Shape_init) (sc := defScope s_Shape_init) (by decide +kernel)) (fun _ _ _ _ _ => (pg_tup rfl (pgs_cons (pg_name (i := 7) nd rfl (Or.inl rfl)) (pgs_cons (pg_name (i := 8) nd rfl (Or.inl rfl)) (pgs_cons (pg_name (i := 9) nd rfl (Or.inl rfl)) pgs_nil))))) (fun _ _ _ _ _ => pts_nil) (fun _ _ _ _ _ => (pe_callH h_plane_of hr (by decide) hG (pa_cons (pv 8) (pa_cons (pv 9) pa_nil)))) (fun _ _ _ _ _ => pe_bl)) pa_nil)) pa_nil)) pa_nil)) (by rfl))))))))))))
theorem d_half {P : Program} {w : World} {K : Fg} {mg : Str → Option Value} {base : Heap} {cs : Cs} (T : Txt P K mg base cs) (h_BadValue : HasE P w K mg base 1 s_BadValue_init cs.c_BadValue ["part"]) (h_Shape : HasI P w K mg base 6 cs.c_Shape "Shape.__init__" s_Shape_init ["self", "dimension", "sliders", "steps"] (sp_Shape K cs)) (h_are_integers : Has P w K mg base 3 "are_integers" s_are_integers P_are_integers (sp_are_integers K cs)) (h_is_listed : Has P w K mg base 1 "is_listed" s_is_listed P_is_listed (sp_is_listed K cs)) {f : Addr} {cdv : Value} {A : Around} {outer : List Env} {s : Shared} {H : Hp} {E : XK} (hr : Room 7 (A.deeper (envOfC "half" (defScope s_half) s.heap.objs.size f cdv))) (hG : A.guards = some []) :
    PSs (cxOf (L2.CX P w) P w K mg base N_half "half" (defScope s_half) f cdv A outer s H E) (defBody s_half) (t_half K cs E) := by
  have nd : N_half.Nodup := sc_half.nd
  exact (pss_cons (ps_if (PW.pt (pw_or (pt_not (pt_tru (pe_callH h_is_listed hr (by decide) hG (pa_cons (pv 0) pa_nil)))) (pw_or (pt_not (pt_chain op_leA op_leA pe_int (pe_callB cr_len (by rfl) T.n_len (by decide +kernel) (pa_cons (pv 0) pa_nil)) pe_int)) (pw_or1 (pt_not (pt_tru (pe_callH h_are_integers hr (by decide) hG (pa_cons (pv 0) (pa_cons (pe_callB cr_len (by rfl) T.n_len (by decide +kernel) (pa_cons (pv 0) pa_nil)) (pa_cons (pe_gint T.g_MOST_INTEGER) pa_nil)))))))))) (pss_one (ps_raiseX h_BadValue takesX bn_BadValue hr (by decide) T.m_BadValue (pa_cons pe_str pa_nil))) pss_nil)
      (pss_cons (ps_if (pt_not (pt_tru (pe_anyA T.n_any (pa_cons (pe_lc (own := [("part", 2)]) rfl nd (pi_seq (pv 0)) (blkOk_by (own := [("part", 2)]) (N := N_half) (sc := defScope s_half) (by decide +kernel)) (fun _ _ _ _ _ => (pg_name (i := 2) nd rfl (Or.inl rfl))) (fun _ _ _ _ _ => pts_nil) (fun _ _ _ _ _ => (pe_cmpR (op_neA hr.units) (pv 2) pe_int (nomark _)))) pa_nil)))) (pss_one (ps_raiseX h_BadValue takesX bn_BadValue hr (by decide) T.m_BadValue (pa_cons pe_str pa_nil))) pss_nil)
      (pss_cons (ps_if (PW.pt (pw_or (pt_not (pt_tru (pe_callH h_is_listed hr (by decide) hG (pa_cons (pv 1) pa_nil)))) (pw_or (pt_not (pt_chain op_leA op_leA pe_int (pe_callB cr_len (by rfl) T.n_len (by decide +kernel) (pa_cons (pv 1) pa_nil)) pe_int)) (pw_or1 (pt_not (pt_tru (pe_callH h_are_integers hr (by decide) hG (pa_cons (pv 1) (pa_cons (pe_callB cr_len (by rfl) T.n_len (by decide +kernel) (pa_cons (pv 1) pa_nil)) (pa_cons (pe_gint T.g_MOST_INTEGER) pa_nil)))))))))) (pss_one (ps_raiseX h_BadValue takesX bn_BadValue hr (by decide) T.m_BadValue (pa_cons pe_str pa_nil))) pss_nil)
      (pss_one (ps_ret (pe_mkI h_Shape passX kwi_Shape_3_ (perm_rel _) hr (by decide) hG T.m_Shape (pa_cons (pe_callB cr_len (by rfl) T.n_len (by decide +kernel) (pa_cons (pv 0) pa_nil)) (pa_cons (pe_op op_minus (pe_callB cr_len (by rfl) T.n_len (by decide +kernel) (pa_cons (pv 1) pa_nil)) pe_int) (pa_cons (pe_lst (pa_cons (pe_tup (pa_cons pe_str (pa_cons (pv 0) (pa_cons (pv 1) pa_nil)))) pa_nil)) pa_nil)))))))))
theorem d_law_made {P : Program} {w : World} {K : Fg} {mg : Str → Option Value} {base : Heap} {cs : Cs} (T : Txt P K mg base cs) (h_Shape : HasI P w K mg base 6 cs.c_Shape "Shape.__init__" s_Shape_init ["self", "dimension", "sliders", "steps"] (sp_Shape K cs)) {f : Addr} {cdv : Value} {A : Around} {outer : List Env} {s : Shared} {H : Hp} {E : XK} (hr : Room 7 (A.deeper (envOfC "_law_made" (defScope s_law_made) s.heap.objs.size f cdv))) (hG : A.guards = some []) :
    PSs (cxOf CX0 P w K mg base N_law_made "_law_made" (defScope s_law_made) f cdv A outer s H E).nox (defBody s_law_made) (t_law_made K cs) := by
  have nd : N_law_made.Nodup := sc_law_made.nd
  exact (pss_one (ps_ret (pe_mkI h_Shape passX0 kwi_Shape_3_ (perm_rel _) hr (by decide) hG T.m_Shape (pa_cons (pe_dget (u1 hr.units) (pv 0) pe_str (fun _ _ => rfl)) (pa_cons (pe_dget (u1 hr.units) (pv 0) pe_str (fun _ _ => rfl)) (pa_cons (pe_dget (u1 hr.units) (pv 0) pe_str (fun _ _ => rfl)) pa_nil))))))
theorem d_law {P : Program} {w : World} {K : Fg} {mg : Str → Option Value} {base : Heap} {cs : Cs} (T : Txt P K mg base cs) (h_eq : HasM P w K mg base 1 cs.f_eq (sp_eq K cs)) (h_half : HasX P w K mg base 8 "half" s_half P_half (sp_half K cs)) (h_law_draw : Has P w K mg base 1 "_law_draw" s_law_draw P_law_draw (sp_law_draw K cs)) (h_law_half : Has P w K mg base 3 "_law_half" s_law_half P_law_half (sp_law_half K cs)) (h_law_made : Has P w K mg base 8 "_law_made" s_law_made P_law_made (sp_law_made K cs)) (h_law_pen : Has P w K mg base 1 "_law_pen" s_law_pen P_law_pen (sp_law_pen K cs)) (h_law_pick : Has P w K mg base 2 "_law_pick" s_law_pick P_law_pick (sp_law_pick K cs)) (h_law_plain : Has P w K mg base 4 "_law_plain" s_law_plain P_law_plain (sp_law_plain K cs)) (h_law_plane : Has P w K mg base 2 "_law_plane" s_law_plane P_law_plane (sp_law_plane K cs)) (h_law_planes : Has P w K mg base 3 "_law_planes" s_law_planes P_law_planes (sp_law_planes K cs)) (h_planes_of : HasX P w K mg base 4 "planes_of" s_planes_of P_planes_of (sp_planes_of K cs)) (hPT : (cs.p_law, lamQ "law") ∈ Tn.T) {f : Addr} {A : Around} {outer : List Env} {s : Shared} {H : Hp} {E : XK} (hr : Room 10 (A.deeper (envOfC "law" (defScope s_law) s.heap.objs.size f (.ref cs.k_law)))) (hG : A.guards = some []) :
    PSs (cxOf CX0 P w K mg base N_law "law" (defScope s_law) f (.ref cs.k_law) A outer s H E).nox (defBody s_law) (t_law K cs) := by
  have nd : N_law.Nodup := sc_law.nd
  have hTB := T.tb_law
  exact (pss_cons (ps_set (i := 1) nd rfl (Or.inr rfl) (pe_callH h_law_pen hr (by decide) hG (pa_cons (pv 0) pa_nil)))
      (pss_cons (ps_for PassesOwn.never rfl (pi_range1 rfl T.n_range (pa_cons pe_int pa_nil)) (pg_name (i := 2) nd rfl (Or.inl rfl)) (pss_cons (ps_par (i := 3) (j := 4) rfl nd rfl rfl (by decide) rfl rfl (pa_cons (pe_op op_plus pe_int (pe_callH h_law_draw hr (by decide) hG (pa_cons (pv 1) (pa_cons pe_int pa_nil)))) (pa_cons (pe_callH h_law_draw hr (by decide) hG (pa_cons (pv 1) (pa_cons pe_int pa_nil))) pa_nil)) (by rfl))
      (pss_cons (ps_set (i := 5) nd rfl (Or.inl rfl) (pe_callH h_law_plain hr (by decide) hG (pa_cons (pv 1) (pa_cons (pv 3) (pa_cons (pv 4) (pa_cons pe_int pa_nil))))))
      (pss_cons (ps_set (i := 6) nd rfl (Or.inr rfl) (pe_callH h_law_pick hr (by decide) hG (pa_cons (pv 1) (pa_cons (pe_lst (pa_cons pe_int (pa_cons pe_int (pa_cons pe_int (pa_cons pe_int pa_nil))))) pa_nil))))
      (pss_cons (ps_asg (pe_lc (own := [("step", 16)]) rfl nd (pi_seq (pe_dget (u1 hr.units) (pv 5) pe_str (fun _ _ => rfl))) (blkOk_by (own := [("step", 16)]) (N := N_law) (sc := defScope s_law) (by decide +kernel)) (fun _ _ _ _ _ => (pg_name (i := 16) nd rfl (Or.inl rfl))) (fun _ _ _ _ _ => pts_nil) (fun _ _ _ _ _ => (pe_ifExp (PW.pt (pw_and (pt_cmpR (op_eqO h_eq hr (by decide) hG) (pe_ix ix_seq (pv 16) pe_int (fun _ _ => rfl)) pe_str (nomark _)) (pw_and1 (pt_cmpR (op_eqO h_eq hr (by decide) hG) (pe_callH h_law_draw hr (by decide) hG (pa_cons (pv 1) (pa_cons pe_int pa_nil))) pe_int (nomark _))))) (pe_tup (pa_cons pe_str (pa_cons (pe_callTy cr_tupOf (by rfl) T.n_tuple (by decide +kernel) (pa_cons (pe_lc (own := [("part", 17)]) rfl nd (pi_seq (pe_ix ix_seq (pv 16) pe_int (fun _ _ => rfl))) (blkOk_by (own := [("part", 17)]) (N := N_law) (sc := relS _ (defScope s_law)) (by decide +kernel)) (fun _ _ _ _ _ => (pg_name (i := 17) nd rfl (Or.inl rfl))) (fun _ _ _ _ _ => pts_nil) (fun _ _ _ _ _ => (pe_op op_times (pv 6) (pv 17)))) pa_nil)) (pa_cons (pe_callTy cr_tupOf (by rfl) T.n_tuple (by decide +kernel) (pa_cons (pe_lc (own := [("part", 17)]) rfl nd (pi_seq (pe_ix ix_seq (pv 16) pe_int (fun _ _ => rfl))) (blkOk_by (own := [("part", 17)]) (N := N_law) (sc := relS _ (defScope s_law)) (by decide +kernel)) (fun _ _ _ _ _ => (pg_name (i := 17) nd rfl (Or.inl rfl))) (fun _ _ _ _ _ => pts_nil) (fun _ _ _ _ _ => (pe_op op_times (pv 6) (pv 17)))) pa_nil)) pa_nil)))) (pv 16)))) (pg_sub (pv 5) pe_str (set_dict (u1 hr.units))))
      (pss_cons (ps_asg (pe_tup (pa_cons (pe_callH h_law_made hr (by decide) hG (pa_cons (pv 5) pa_nil)) (pa_cons (pe_callTy cr_tupOf (by rfl) T.n_tuple (by decide +kernel) (pa_cons (pe_callH h_law_planes hr (by decide) hG (pa_cons (pv 5) pa_nil)) pa_nil)) pa_nil))) (pg_tup rfl (pgs_cons (pg_name (i := 7) nd rfl (Or.inr rfl)) (pgs_cons (pg_name (i := 8) nd rfl (Or.inl rfl)) pgs_nil))))
      (pss_cons (ps_if (pt_cmpR (op_neO h_eq hr (by decide) hG) (pe_callB (cr_repr2 T.sysm hG hr.units) (by rfl) T.n_repr (by decide +kernel) (pa_cons (pe_lst (pa_cons (pe_att (pv 7)) (pa_cons (pe_callX h_planes_of passX0 hr (by decide) hG (pa_cons (pv 7) pa_nil)) (pa_cons (pe_callXK0 (ks := ["shape"]) h_planes_of passX0 kw_planes_of_0_shape (perm_rel [0]) hr (by decide) hG (pk_cons (pv 7) pk_nil)) pa_nil)))) pa_nil)) (pe_callB (cr_repr2 T.sysm hG hr.units) (by rfl) T.n_repr (by decide +kernel) (pa_cons (pe_op op_times (pe_lst (pa_cons (pv 8) pa_nil)) pe_int) pa_nil)) (nomark _)) (pss_one (ps_ret pe_bl)) pss_nil)
      (pss_cons (ps_asg (pe_callH h_law_half hr (by decide) hG (pa_cons (pv 1) (pa_cons (pv 3) (pa_cons (pv 4) pa_nil)))) (pg_tup rfl (pgs_cons (pg_name (i := 9) nd rfl (Or.inl rfl)) (pgs_cons (pg_name (i := 10) nd rfl (Or.inr rfl)) (pgs_cons (pg_name (i := 11) nd rfl (Or.inl rfl)) pgs_nil)))))
      (pss_cons (ps_set (i := 12) nd rfl (Or.inl rfl) (pe_callXK0 (ks := ["offset", "normal"]) h_half passX0 kw_half_0_offset_normal (perm_rel [1, 0]) hr (by decide) hG (pk_cons (pe_callTy cr_listOf (by rfl) T.n_list (by decide +kernel) (pa_cons (pv 11) pa_nil)) (pk_cons (pe_callTy cr_listOf (by rfl) T.n_list (by decide +kernel) (pa_cons (pv 10) pa_nil)) pk_nil))))
      (pss_cons (ps_if (PW.pt (pw_or (pt_cmpR (op_neO h_eq hr (by decide) hG) (pv 12) (pe_callX h_half passX0 hr (by decide) hG (pa_cons (pv 10) (pa_cons (pv 11) pa_nil))) (nomark _)) (pw_or (pt_cmpR (op_neO h_eq hr (by decide) hG) (pe_att (pv 12)) (pe_tup (pa_cons (pe_tup (pa_cons pe_str (pa_cons (pv 10) (pa_cons (pv 11) pa_nil)))) pa_nil)) (nomark _)) (pw_or (pt_cmpR (op_neO h_eq hr (by decide) hG) (pe_att (pv 12)) (pe_tup (pa_cons (pe_callH h_law_plane hr (by decide) hG (pa_cons (pv 10) (pa_cons (pv 11) pa_nil))) pa_nil)) (nomark _)) (pw_or1 (pt_cmpR (op_neO h_eq hr (by decide) hG) (pe_tup (pa_cons (pe_att (pv 12)) (pa_cons (pe_att (pv 12)) pa_nil))) (pe_tup (pa_cons (pv 3) (pa_cons (pv 4) pa_nil))) (nomark _))))))) (pss_one (ps_ret pe_bl)) pss_nil)
      (pss_cons (ps_set (i := 13) nd rfl (Or.inl rfl) (pe_callX h_half passX0 hr (by decide) hG (pa_cons (pe_lc (own := [("part", 17)]) rfl nd (pi_seq (pv 10)) (blkOk_by (own := [("part", 17)]) (N := N_law) (sc := defScope s_law) (by decide +kernel)) (fun _ _ _ _ _ => (pg_name (i := 17) nd rfl (Or.inl rfl))) (fun _ _ _ _ _ => pts_nil) (fun _ _ _ _ _ => (pe_un un_neg (pv 17)))) (pa_cons (pe_lc (own := [("part", 17)]) rfl nd (pi_seq (pv 11)) (blkOk_by (own := [("part", 17)]) (N := N_law) (sc := defScope s_law) (by decide +kernel)) (fun _ _ _ _ _ => (pg_name (i := 17) nd rfl (Or.inl rfl))) (fun _ _ _ _ _ => pts_nil) (fun _ _ _ _ _ => (pe_un un_neg (pv 17)))) pa_nil))))
      (pss_cons (ps_if (PW.pt (pw_or (pt_cmpR (op_neO h_eq hr (by decide) hG) (pe_att (pv 13)) (pe_att (pv 12)) (nomark _)) (pw_or (pt_cmpR (op_eqO h_eq hr (by decide) hG) (pv 13) (pv 12) (nomark _)) (pw_or1 (pt_cmpR (op_neO h_eq hr (by decide) hG) (pe_att (pe_callX h_half passX0 hr (by decide) hG (pa_cons (pe_lc (own := [("part", 17)]) rfl nd (pi_seq (pv 10)) (blkOk_by (own := [("part", 17)]) (N := N_law) (sc := defScope s_law) (by decide +kernel)) (fun _ _ _ _ _ => (pg_name (i := 17) nd rfl (Or.inl rfl))) (fun _ _ _ _ _ => pts_nil) (fun _ _ _ _ _ => (pe_op op_times pe_int (pv 17)))) (pa_cons (pe_lc (own := [("part", 17)]) rfl nd (pi_seq (pv 11)) (blkOk_by (own := [("part", 17)]) (N := N_law) (sc := defScope s_law) (by decide +kernel)) (fun _ _ _ _ _ => (pg_name (i := 17) nd rfl (Or.inl rfl))) (fun _ _ _ _ _ => pts_nil) (fun _ _ _ _ _ => (pe_op op_times pe_int (pv 17)))) pa_nil)))) (pe_att (pv 12)) (nomark _)))))) (pss_one (ps_ret pe_bl)) pss_nil)
      (pss_cons (ps_set (i := 14) nd rfl (Or.inr rfl) (pe_callH h_law_pick hr (by decide) hG (pa_cons (pv 1) (pa_cons (pe_lst (pa_cons pe_non (pa_cons pe_int (pa_cons (pe_lst pa_nil) (pa_cons (pe_op op_times (pe_lst (pa_cons pe_int pa_nil)) (pv 3)) (pa_cons (pe_op op_times (pe_lst (pa_cons pe_int pa_nil)) pe_int) (pa_cons (pe_op op_times (pe_lst (pa_cons pe_bl pa_nil)) (pv 3)) (pa_cons (pe_lst (pa_cons pe_str pa_nil)) (pa_cons (pe_lst (pa_cons (pe_op op_plus (pe_op op_powA pe_int pe_int) pe_int) pa_nil)) (pa_cons pe_dnewK pa_nil)))))))))) pa_nil))))
      (pss_cons (ps_set (i := 15) nd rfl (Or.inr rfl) (pe_callH h_law_pick hr (by decide) hG (pa_cons (pv 1) (pa_cons (pe_lst (pa_cons pe_non (pa_cons pe_int (pa_cons (pe_lst pa_nil) (pa_cons (pe_op op_times (pe_lst (pa_cons pe_int pa_nil)) pe_int) (pa_cons (pe_lst (pa_cons pe_bl pa_nil)) (pa_cons (pe_lst (pa_cons pe_non pa_nil)) (pa_cons (pe_lst (pa_cons (pe_op op_minus (pe_un un_neg (pe_op op_powA pe_int pe_int)) pe_int) pa_nil)) (pa_cons pe_str pa_nil))))))))) pa_nil))))
      (pss_one (ps_if (pt_cmpR (op_neO h_eq hr (by decide) hG) (pe_lst (pa_cons (pe_lamH (k := 8) (tk_law_heard T) (lamAt_of hTB rfl hPT) (hr.mono (by decide)) hG (lamP_by (sc := defScope s_law) (N := N_law) (by decide +kernel)) (fun _ _ _ _ _ _ _ hr hG hx => (pe_callX h_half hx hr (by decide) hG (pa_cons (pv 14) (pa_cons (pv 15) pa_nil))))) (pa_cons (pe_lamH1 (k := 8) (b := "a1") rfl rfl (tk_law_heard T) (lamAt_of hTB rfl hPT) (hr.mono (by decide)) hG (lamP_by (sc := defScope s_law) (N := N_law) (by decide +kernel)) pe_int (fun _ _ _ _ _ _ _ hr hG hx => (pe_callX h_half hx hr (by decide) hG (pa_cons (pv 10) (pa_cons (pv 15) pa_nil))))) (pa_cons (pe_lamH1 (k := 8) (b := "a2") rfl rfl (tk_law_heard T) (lamAt_of hTB rfl hPT) (hr.mono (by decide)) hG (lamP_by (sc := defScope s_law) (N := N_law) (by decide +kernel)) pe_int (fun _ _ _ _ _ _ _ hr hG hx => (pe_callX h_planes_of hx hr (by decide) hG (pa_cons (pe_callH h_law_pick hr (by decide) hG (pa_cons (pv 1) (pa_cons (pe_lst (pa_cons pe_non (pa_cons pe_int (pa_cons (pe_att (pv 7)) (pa_cons (pe_att (pv 7)) pa_nil))))) pa_nil))) pa_nil)))) pa_nil)))) (pe_lst (pa_cons (pe_tup (pa_cons pe_str (pa_cons pe_str pa_nil))) (pa_cons (pe_tup (pa_cons pe_str (pa_cons pe_str pa_nil))) (pa_cons (pe_tup (pa_cons pe_str (pa_cons pe_str pa_nil))) pa_nil)))) (nomark _)) (pss_one (ps_ret pe_bl)) pss_nil))))))))))))))))
      (pss_one (ps_ret (pe_and (pe_cmpR (op_eqO h_eq hr (by decide) hG) (pe_att (pe_callX h_half passX0 hr (by decide) hG (pa_cons (pe_lst (pa_cons (pe_un un_neg pe_int) (pa_cons pe_int pa_nil))) (pa_cons (pe_lst (pa_cons pe_int (pa_cons pe_int pa_nil))) pa_nil)))) (pe_tup (pa_cons (pe_tup (pa_cons (pe_tup (pa_cons pe_int (pa_cons (pe_un un_neg pe_int) pa_nil))) (pa_cons (pe_tup (pa_cons (pe_un un_neg pe_int) (pa_cons pe_int pa_nil))) pa_nil))) pa_nil)) (nomark _)) (pe_one (pe_cmpR (op_eqO h_eq hr (by decide) hG) (pe_att (pe_callX h_half passX0 hr (by decide) hG (pa_cons (pe_lst (pa_cons pe_int (pa_cons (pe_un un_neg pe_int) pa_nil))) (pa_cons (pe_lst (pa_cons pe_int pa_nil)) pa_nil)))) (pe_tup (pa_cons (pe_tup (pa_cons (pe_tup (pa_cons pe_int (pa_cons pe_int pa_nil))) (pa_cons (pe_tup (pa_cons (pe_un un_neg pe_int) pa_nil)) pa_nil))) pa_nil)) (nomark _))))))))
end K04
namespace K04
open PySem PySem.Spec PyProof.Rows L2 NdefX PySem.HandSPX PySem.DLx LamX StX DL
variable [Tn]
/-! walks: what any value is -/
def isBl : DV → Bool
  | .bl _ => true
  | _ => false
abbrev KT (t : String) (i b s l u : Bool) : Prop := kitB t "int" = some i ∧ kitB t "bool" = some b ∧ kitB t "str" = some s ∧ kitL t ["list", "tuple"] = some l ∧ kitB t "tuple" = some u
theorem kt_non : KT "NoneType" false false false false false := by decide +kernel
theorem kt_bl : KT "bool" true true false false false := by decide +kernel
theorem kt_int : KT "int" true false false false false := by decide +kernel
theorem kt_str : KT "str" false false true false false := by decide +kernel
theorem kt_dic : KT "dict" false false false false false := by decide +kernel
theorem kt_tup : KT "tuple" false false false true true := by decide +kernel
theorem kt_lst : KT "list" false false false true false := by decide +kernel
def isTup : DV → Bool
  | .tup _ => true
  | _ => false
theorem ty_gd : ∀ {d : DV}, gd d = true → ∃ t, tyD d = some t ∧ KT t (isInt d || isBl d) (isBl d) (isStr d) (listed d) (isTup d)
  | .non, _ => ⟨"NoneType", rfl, kt_non⟩
  | .bl _, _ => ⟨"bool", rfl, kt_bl⟩
  | .int _, _ => ⟨"int", rfl, kt_int⟩
  | .str _, _ => ⟨"str", rfl, kt_str⟩
  | .dic _ _, _ => ⟨"dict", rfl, kt_dic⟩
  | .tup _, _ => ⟨"tuple", rfl, kt_tup⟩
  | .lst _, _ => ⟨"list", rfl, kt_lst⟩
  | .ty _, h => by simp [gd] at h
  | .adr _, h => by simp [gd] at h
  | .ins _ _ _, h => by simp [gd] at h
  | .exc _ _ _, h => by simp [gd] at h
theorem listed_is : ∀ {d : DV}, listed d = true → d = .lst (seqOf d) ∨ d = .tup (seqOf d)
  | .lst _, _ => .inl rfl
  | .tup _, _ => .inr rfl
  | .non, h => by simp [listed] at h
  | .bl _, h => by simp [listed] at h
  | .int _, h => by simp [listed] at h
  | .str _, h => by simp [listed] at h
  | .dic _ _, h => by simp [listed] at h
  | .ty _, h => by simp [listed] at h
  | .adr _, h => by simp [listed] at h
  | .ins _ _ _, h => by simp [listed] at h
  | .exc _ _ _, h => by simp [listed] at h
theorem gd_seq : ∀ {d : DV}, gd d = true → (seqOf d).length ≤ 1000 ∧ ∀ x ∈ seqOf d, gd x = true
  | .lst ds, h => by
    have h' : ds.length ≤ 1000 ∧ gdL ds = true := by simpa [gd] using h
    exact ⟨h'.1, fun x hx => gdL_mem h'.2 hx⟩
  | .tup ds, h => by
    have h' : ds.length ≤ 1000 ∧ gdL ds = true := by simpa [gd] using h
    exact ⟨h'.1, fun x hx => gdL_mem h'.2 hx⟩
  | .non, h => ⟨Nat.zero_le _, fun x hx => by simp [seqOf] at hx⟩
  | .bl _, h => ⟨Nat.zero_le _, fun x hx => by simp [seqOf] at hx⟩
  | .int _, h => ⟨Nat.zero_le _, fun x hx => by simp [seqOf] at hx⟩
  | .str _, h => ⟨Nat.zero_le _, fun x hx => by simp [seqOf] at hx⟩
  | .dic _ _, h => ⟨Nat.zero_le _, fun x hx => by simp [seqOf] at hx⟩
  | .ty _, h => by simp [gd] at h
  | .adr _, h => by simp [gd] at h
  | .ins _ _ _, h => by simp [gd] at h
  | .exc _ _ _, h => by simp [gd] at h
section
variable {K : Fg} {Z : Xt} {cs : Cs} {Γ : List SA} {O : Own} {n : Nat} {te : TE}
theorem w_isTe {c : String} {k : DV → Nat → Prop} (h : W K Z te Γ O n fun d n1 => ∃ t b, tyD d = some t ∧ kitB t c = some b ∧ k (.bl b) n1) : W K Z (tCB (rIsA K) (tCons te (tCons (tC (.ty c)) tNil))) Γ O n k :=
  w_cb (wa_cons (h.mono fun d n1 ⟨t, b, h1, h2, q⟩ => wa_cons (w_ty (wa_nil (cw_isTy h1 h2 q)))))
theorem w_lenS {i : Nat} {d : DV} {xs : List DV} {k : DV → Nat → Prop} (h : Γ[i]? = some (.is d)) (hd : d = .lst xs ∨ d = .tup xs) (q : k (.int (xs.length : Int)) n) : W K Z (tCB (rLenA K) (tCons (tVar i) tNil)) Γ O n k := by
  refine w_cb (wa_cons (w_var h (wa_nil ?_)))
  rcases hd with rfl | rfl
  · exact cw_lenL q
  · exact cw_lenT q
theorem w_ixS {i : Nat} {j : Int} {d x : DV} {xs : List DV} {k : DV → Nat → Prop} (h : Γ[i]? = some (.is d)) (hd : d = .lst xs ∨ d = .tup xs) (hx : atI xs j = some x) (q : k x n) : W K Z (tOp (rIx K) (tVar i) (tC (.int j))) Γ O n k := by
  refine w_op (w_var h (w_int ?_))
  rcases hd with rfl | rfl
  · exact ow_ixL hx q
  · exact ow_ixT hx q
theorem brB {b : Bool} {A B : Prop} (h1 : b = true → A) (h2 : b = false → B) : (b = true → A) ∧ (b = false → B) := ⟨h1, h2⟩
theorem brM {b : Bool} {A B : Prop} (h1 : b = false → A) (h2 : b = true → B) : ((!b) = true → A) ∧ ((!b) = false → B) := ⟨fun h => h1 (by simpa using h), fun h => h2 (by simpa using h)⟩
theorem rd_is_integer (Z : Xt) (d : DV) (hp : gd d = true) : WS K Z (t_is_integer K cs) (slotsD N_is_integer [d]) [] 0 (ED fun r => r = .bl (isInt d)) := by
  show WS K Z (t_is_integer K cs) [.is d] [] 0 _
  unfold t_is_integer
  obtain ⟨t, h1, h2, h3, _⟩ := ty_gd hp
  refine ws_ret (w_and (w_isTe (w_var rfl ⟨t, _, h1, h2, _, rfl, fun hb => ?_, fun hb => ?_⟩)))
  · refine w_not (w_isTe (w_var rfl ⟨t, _, h1, h3, _, rfl, ?_⟩))
    cases d <;> first | rfl | simp [isInt, isBl] at hb
  · show DV.bl false = _
    cases d <;> first | rfl | simp [isInt, isBl] at hb
theorem rd_is_listed (Z : Xt) (d : DV) (hp : gd d = true) : WS K Z (t_is_listed K cs) (slotsD N_is_listed [d]) [] 0 (ED fun r => r = .bl (listed d)) := by
  show WS K Z (t_is_listed K cs) [.is d] [] 0 _
  unfold t_is_listed
  obtain ⟨t, h1, _, _, _, h2, _⟩ := ty_gd hp
  exact ws_ret (w_isT2 (w_var rfl ⟨t, _, h1, h2, rfl⟩))
theorem within_not {d : DV} {lo hi : Int} (h : isInt d = false) : within d lo hi = false := by
  cases d <;> first | rfl | simp [isInt] at h
theorem rd_is_within (Z : Xt) (p : DV × Int × Int) (hp : gd p.1 = true) : WS K Z (t_is_within K cs) (slotsD N_is_within [p.1, .int p.2.1, .int p.2.2]) [] 0 (ED fun r => r = .bl (within p.1 p.2.1 p.2.2)) := by
  obtain ⟨d, lo, hi⟩ := p
  have hp : gd d = true := hp
  show WS K Z (t_is_within K cs) [.is d, .is (.int lo), .is (.int hi)] [] 0 _
  unfold t_is_within
  refine ws_seq (ws_if (wt_not (wt_tru (w_call (wa_cons (w_var rfl (wa_nil ⟨d, rfl, hp, ?_⟩)))))))
  rintro _ rfl
  refine .inr (.inl ⟨_, rfl, ?_⟩)
  refine brM (fun h => ?_) (fun h => ?_)
  · exact ws_ret (w_bl (by rw [within_not h]))
  · obtain ⟨i, rfl⟩ : ∃ i, d = .int i := by
      cases d <;> first | exact ⟨_, rfl⟩ | simp [isInt] at h
    refine ws_next (ws_ret (w_and (w_or (w_op (w_var rfl (w_non (ow_isN ⟨false, rfl, brF (w_op (w_var rfl (w_var rfl (ow_ge ⟨_, rfl, br (fun h1 => ?_) (fun h1 => ?_)⟩))))⟩)))))))
    · refine w_or (w_op (w_var rfl (w_non (ow_isN ⟨false, rfl, brF (w_op (w_var rfl (w_var rfl (ow_le ?_))))⟩))))
      simp [within, h1]
    · simp [within, h1]
theorem rd_are_integers (Z : Xt) (p : DV × Int × Int) (hp : gd p.1 = true) : WS K Z (t_are_integers K cs) (slotsD N_are_integers [p.1, .int p.2.1, .int p.2.2]) [] 0 (ED fun r => r = .bl (intsOk p.1 p.2.1 p.2.2)) := by
  obtain ⟨d, m, b⟩ := p
  have hp : gd d = true := hp
  show WS K Z (t_are_integers K cs) [.is d, .is (.int m), .is (.int b), .no] [] 0 _
  unfold t_are_integers
  refine ws_ret (w_and (w_call (wa_cons (w_var rfl (wa_nil ⟨d, rfl, hp, ?_⟩)))))
  rintro _ rfl
  refine ⟨_, rfl, fun h => ?_, fun h => ?_⟩
  · have hd := listed_is h
    obtain ⟨gl, gm⟩ := gd_seq hp
    refine w_and (w_op (w_lenS rfl hd (w_var rfl (ow_eqI ⟨_, rfl, br (fun h1 => ?_) (fun h1 => ?_)⟩))))
    · refine w_cb (wa_cons (w_of_wl (wl_lcF (α := DV) (sw_seq (w_var rfl ⟨seqOf d, hd, seqOf d, id, fun x => .bl (within x (-b) b), by simp, by omega, fun x hx => ?_, wa_nil ?_⟩)))))
      · refine gw_name (by simp) (w_call (wa_cons (w_var rfl (wa_cons (w_un (w_var rfl (uw_neg (wa_cons (w_var rfl (wa_nil ⟨(x, -b, b), rfl, gm x hx, ?_⟩)))))))))) 
        rintro _ rfl
        exact ⟨rfl, rfl⟩
      · have e : (seqOf d).map (fun x => DV.bl (within x (-b) b)) = ((seqOf d).map fun x => within x (-b) b).map DV.bl := by rw [List.map_map]; rfl
        rw [e]
        refine cw_all ?_
        simp [intsOk, h, h1, List.all_map]
    · show DV.bl false = _
      simp [intsOk, h1]
  · show DV.bl false = _
    simp [intsOk, h]
theorem gF_take {a : List Int} {i : Nat} {z : Int} (h : a[i]? = some z) : gF (a.take (i + 1)) = ((Nat.gcd (gF (a.take i)).natAbs z.natAbs : Nat) : Int) := by
  unfold gF
  rw [List.take_add_one, h, List.foldl_append]
  rfl
theorem rd_gcd_of (Z : Xt) (a : List Int) (hp : a.length ≤ 1000) : WS K Z (t_gcd_of K cs) (slotsD N_gcd_of [.lst (a.map DV.int)]) [] 0 (ED fun d => d = .int (gF a)) := by
  show WS K Z (t_gcd_of K cs) [.is (.lst (a.map DV.int)), .no, .no] [] 0 _
  unfold t_gcd_of
  refine ws_seq (ws_asg (w_int ?_))
  refine ws_seq (ws_for (vs := [2]) (sw_seq (w_var rfl ⟨_, .inl rfl, fun i Γ O n => ∃ x, Γ = [.is (.lst (a.map DV.int)), .is (.int (gF (a.take i))), x], ⟨_, rfl⟩, ?_, ?_⟩)))
  · rintro i x _ O n hx ⟨y, rfl⟩
    rw [List.getElem?_map] at hx
    cases hi : a[i]? with
    | none => rw [hi] at hx; cases hx
    | some z =>
      rw [hi] at hx
      cases hx
      refine gw_name (by simp) (ws_asg ?_)
      refine w_cb (wa_cons (w_var rfl (wa_cons (w_var rfl (wa_nil (cw_gcd ?_))))))
      exact ⟨.is (.int z), by rw [gF_take hi]; rfl⟩
  · rintro _ O n ⟨x, rfl⟩
    rw [List.length_map, List.take_length]
    exact ws_ret (w_var rfl rfl)
theorem rd_taken_by (Z : Xt) (T1 : KTup K cs.g_PAIRS PAIRS) (T2 : KTup K cs.g_ALONE ALONE) (s : Str) : WS K Z (t_taken_by K cs) (slotsD N_taken_by [.str s]) [] 0 (ED fun r => r = .int (takes s)) := by
  show WS K Z (t_taken_by K cs) [.is (.str s)] [] 0 _
  unfold t_taken_by
  refine ws_ret (w_if (wt_test (w_op (w_var rfl (w_ktup T1 (ow_inS (ns := PAIRS) (.inl rfl) ⟨_, rfl, br (fun h => ?_) (fun h => ?_)⟩))))))
  · exact w_int (by unfold takes; rw [if_pos h])
  · refine w_if (wt_test (w_op (w_var rfl (w_ktup T2 (ow_inS (ns := ALONE) (.inl rfl) ⟨_, rfl, br (fun h1 => ?_) (fun h1 => ?_)⟩)))))
    · exact w_int (by unfold takes; rw [if_neg h, if_pos h1])
    · exact w_int (by unfold takes; rw [if_neg h, if_neg h1])
end
end K04
namespace K04
open PySem PySem.Spec PyProof.Rows L2 NdefX PySem.HandSPX PySem.DLx LamX StX DL
variable [Tn]
/-! walks: words, halves, steps, planes -/
theorem isStr_is : ∀ {d : DV}, isStr d = true → d = .str (strOf d)
  | .str _, _ => rfl
  | .non, h => by simp [isStr] at h
  | .bl _, h => by simp [isStr] at h
  | .int _, h => by simp [isStr] at h
  | .tup _, h => by simp [isStr] at h
  | .lst _, h => by simp [isStr] at h
  | .dic _ _, h => by simp [isStr] at h
  | .ty _, h => by simp [isStr] at h
  | .adr _, h => by simp [isStr] at h
  | .ins _ _ _, h => by simp [isStr] at h
  | .exc _ _ _, h => by simp [isStr] at h
theorem isInt_is : ∀ {d : DV}, isInt d = true → d = .int (intOf d)
  | .int _, _ => rfl
  | .str _, h => by simp [isInt] at h
  | .non, h => by simp [isInt] at h
  | .bl _, h => by simp [isInt] at h
  | .tup _, h => by simp [isInt] at h
  | .lst _, h => by simp [isInt] at h
  | .dic _ _, h => by simp [isInt] at h
  | .ty _, h => by simp [isInt] at h
  | .adr _, h => by simp [isInt] at h
  | .ins _ _ _, h => by simp [isInt] at h
  | .exc _ _ _, h => by simp [isInt] at h
theorem within_is {d : DV} {lo hi : Int} (h : within d lo hi = true) : d = .int (intOf d) ∧ lo ≤ intOf d ∧ intOf d ≤ hi := by
  cases d with
  | int i => simp [within] at h; exact ⟨rfl, h.1, h.2⟩
  | _ => simp [within] at h
theorem atI_zero {α : Type} {x : α} {l : List α} : atI (x :: l) 0 = some x := atI_nat (i := 0) rfl
theorem len1 {α : Type} : ∀ {l : List α}, l.length = 1 → ∃ a, l = [a]
  | [a], _ => ⟨a, rfl⟩
  | [], h => by simp at h
  | _ :: _ :: _, h => by simp at h
theorem len3 {α : Type} : ∀ {l : List α}, l.length = 3 → ∃ a b c, l = [a, b, c]
  | [a, b, c], _ => ⟨a, b, c, rfl⟩
  | [], h => by simp at h
  | [_], h => by simp at h
  | [_, _], h => by simp at h
  | _ :: _ :: _ :: _ :: _, h => by simp at h
theorem wordOk_len {d : DV} (h : (seqOf d).length ≠ 1) : wordOk d = false := by
  unfold wordOk
  split
  · next a e => rw [e] at h; simp at h
  · simp
theorem wordOk_one {d a : DV} (hl : listed d = true) (h : seqOf d = [a]) : wordOk d = (isStr a && wordS (strOf a)) := by
  unfold wordOk
  rw [h, hl]; rfl
theorem halfOk_len {d : DV} {n k : Int} (h : (seqOf d).length ≠ 3) : halfOk d n k = false := by
  unfold halfOk
  split
  · next a b c e => rw [e] at h; simp at h
  · simp
theorem halfOk_one {d a b c : DV} {n k : Int} (hl : listed d = true) (h : seqOf d = [a, b, c]) : halfOk d n k = (isStr a && decide (strOf a = "half") && (intsOk b n MI && intsOk c (1 + k) MI && (seqOf b).any fun x => !decide (intOf x = 0))) := by
  unfold halfOk
  rw [h, hl]; rfl
theorem intsOk_is {d : DV} {m b : Int} (h : intsOk d m b = true) : listed d = true ∧ ((seqOf d).length : Int) = m ∧ ∀ x ∈ seqOf d, x = .int (intOf x) ∧ -b ≤ intOf x ∧ intOf x ≤ b := by
  simp only [intsOk, Bool.and_eq_true, decide_eq_true_eq, List.all_eq_true] at h
  exact ⟨h.1, h.2.1, fun x hx => within_is (h.2.2 x hx)⟩
section
variable {K : Fg} {cs : Cs}
/-- the module's tuples of words -/
structure Words (K : Fg) (cs : Cs) : Prop where
  e : KTup K cs.g_ENDS ENDS
  a : KTup K cs.g_ALONE ALONE
  p : KTup K cs.g_PAIRS PAIRS
theorem rd_is_word (T : Words K cs) (Z : Xt) (d : DV) (hp : gd d = true) : WS K Z (t_is_word K cs) (slotsD N_is_word [d]) [] 0 (ED fun r => r = .bl (wordOk d)) := by
  show WS K Z (t_is_word K cs) [.is d] [] 0 _
  unfold t_is_word
  refine ws_seq (ws_if (wt_or (wt_not (wt_tru (w_call (wa_cons (w_var rfl (wa_nil ⟨d, rfl, hp, ?_⟩))))))))
  rintro _ rfl
  refine .inr (.inl ⟨_, rfl, ?_⟩)
  refine brM (fun h => ?_) (fun h => ?_)
  · exact brT (ws_ret (w_bl (by simp [wordOk, h])))
  · have hd := listed_is h
    refine wt_or (wt_test (w_op (w_lenS rfl hd (w_int (ow_neI ⟨_, rfl, ?_⟩)))))
    refine brN (fun hn => ?_) (fun hn => ?_)
    · exact brT (ws_ret (w_bl (by rw [wordOk_len (by omega)])))
    · obtain ⟨a, ha⟩ := len1 (l := seqOf d) (by omega)
      have ga : gd a = true := (gd_seq hp).2 a (by rw [ha]; simp)
      rw [ha] at hd
      obtain ⟨t, h1, _, _, h4, _⟩ := ty_gd ga
      refine wt_not (wt_tru (w_isTe (w_ixS rfl hd rfl ⟨t, _, h1, h4, .inr (.inl ⟨_, rfl, ?_⟩)⟩)))
      refine brM (fun hs => ?_) (fun hs => ?_)
      · exact ws_ret (w_bl (by rw [wordOk_one h ha, hs]; rfl))
      · have es := isStr_is hs
        have ew : wordOk d = wordS (strOf a) := by rw [wordOk_one h ha, hs]; rfl
        rw [ew]
        revert es
        generalize strOf a = s
        intro es
        subst es
        refine ws_next (ws_ret (w_or (w_op (w_ixS rfl hd rfl (w_ktup T.e (ow_inS (ns := ENDS) (.inl rfl) ⟨_, rfl, br (fun q => ?_) (fun q => ?_)⟩))))))
        · simp [wordS, q]
        · refine w_or (w_op (w_ixS rfl hd rfl (w_ktup T.a (ow_inS (ns := ALONE) (.inl rfl) ⟨_, rfl, br (fun q2 => ?_) (fun q2 => ?_)⟩))))
          · simp [wordS, q2]
          · refine w_op (w_ixS rfl hd rfl (w_ktup T.p (ow_inS (ns := PAIRS) (.inl rfl) ?_)))
            simp only [wordS, q, q2, decide_false, Bool.false_or]
theorem any_ints {xs : List DV} (h : ∀ x ∈ xs, x = .int (intOf x)) : xs.map (fun x => DV.bl (!decide (intOf x = 0))) = (xs.map fun x => !decide (intOf x = 0)).map DV.bl := by rw [List.map_map]; rfl
theorem rd_is_half (Z : Xt) (p : DV × Int × Int) (hp : gd p.1 = true) : WS K Z (t_is_half K cs) (slotsD N_is_half [p.1, .int p.2.1, .int p.2.2]) [] 0 (ED fun r => r = .bl (halfOk p.1 p.2.1 p.2.2)) := by
  obtain ⟨d, n, k⟩ := p
  have hp : gd d = true := hp
  show WS K Z (t_is_half K cs) [.is d, .is (.int n), .is (.int k), .no] [] 0 (ED fun r => r = .bl (halfOk d n k))
  unfold t_is_half
  refine ws_seq (ws_if (wt_or (wt_not (wt_tru (w_call (wa_cons (w_var rfl (wa_nil ⟨d, rfl, hp, ?_⟩))))))))
  rintro _ rfl
  refine .inr (.inl ⟨_, rfl, ?_⟩)
  refine brM (fun h => ?_) (fun h => ?_)
  · exact brT (ws_ret (w_bl (by simp [halfOk, h])))
  · have hd := listed_is h
    refine wt_or (wt_test (w_op (w_lenS rfl hd (w_int (ow_neI ⟨_, rfl, ?_⟩)))))
    refine brN (fun hn => ?_) (fun hn => ?_)
    · exact brT (ws_ret (w_bl (by rw [halfOk_len (by omega)])))
    · obtain ⟨a, b, c, ha⟩ := len3 (l := seqOf d) (by omega)
      obtain ⟨_, gm⟩ := gd_seq hp
      have ga : gd a = true := gm a (by rw [ha]; simp)
      have gb : gd b = true := gm b (by rw [ha]; simp)
      have gc : gd c = true := gm c (by rw [ha]; simp)
      rw [ha] at hd
      have eh := halfOk_one (n := n) (k := k) h ha
      rw [eh]
      obtain ⟨t, h1, _, _, h4, _⟩ := ty_gd ga
      refine wt_or (wt_not (wt_tru (w_isTe (w_ixS rfl hd rfl ⟨t, _, h1, h4, .inr (.inl ⟨_, rfl, ?_⟩)⟩))))
      refine brM (fun hs => ?_) (fun hs => ?_)
      · exact brT (ws_ret (w_bl (by rw [hs]; rfl)))
      · have es := isStr_is hs
        rw [hs, Bool.true_and]
        revert es
        generalize strOf a = s
        intro es
        subst es
        refine wt_test (w_op (w_ixS rfl hd rfl (w_str (ow_neS ⟨_, rfl, ?_⟩))))
        refine brN (fun q => ?_) (fun q => ?_)
        · exact ws_ret (w_bl (by simp [q]))
        · subst q
          have e1 : decide (("half" : Str) = "half") = true := by simp
          rw [e1, Bool.true_and]
          refine ws_next (ws_seq (ws_if (wt_or (wt_not (wt_tru (w_call (wa_cons (w_ixS rfl hd rfl (wa_cons (w_var rfl (wa_cons (w_int (wa_nil ⟨(b, n, MI), rfl, gb, ?_⟩)))))))))))))
          rintro _ rfl
          refine .inr (.inl ⟨_, rfl, ?_⟩)
          refine brM (fun hb => ?_) (fun hb => ?_)
          · exact brT (ws_ret (w_bl (by rw [hb]; rfl)))
          · refine wt_not (wt_tru (w_call (wa_cons (w_ixS rfl hd rfl (wa_cons (w_op (w_int (w_var rfl (ow_plusI (wa_cons (w_int (wa_nil ⟨(c, 1 + k, MI), rfl, gc, ?_⟩))))))))))))
            rintro _ rfl
            refine .inr (.inl ⟨_, rfl, ?_⟩)
            refine brM (fun hc => ?_) (fun hc => ?_)
            · exact ws_ret (w_bl (by rw [hc, hb]; rfl))
            · rw [hb, hc]
              obtain ⟨i1, _, i3⟩ := intsOk_is hb
              have hb2 := listed_is i1
              have bl := (gd_seq gb).1
              refine ws_next (ws_ret (w_cb (wa_cons (w_of_wl (wl_lcF (α := DV) (sw_seq (w_ixS rfl hd rfl ⟨seqOf b, hb2, seqOf b, id, fun x => .bl (!decide (intOf x = 0)), by simp, by omega, fun x hx => ?_, wa_nil ?_⟩)))))))
              · have ex := (i3 x hx).1
                refine gw_name (by simp) (w_op (w_var rfl (w_int ?_)))
                show OW K (rNeA K) x (.int 0) _
                rw [ex]
                exact ow_neI ⟨rfl, rfl⟩
              · rw [any_ints fun x hx => (i3 x hx).1]
                refine cw_any ?_
                simp [List.any_map]
theorem step_head {n k : Int} {d : DV} (h : stepOk n k d = true) : listed d = true ∧ ∃ r, seqOf d = .str (headS d) :: r := by
  unfold stepOk at h
  rcases (Bool.or_eq_true _ _).mp h with h | h
  · have hl : listed d = true := by
      cases q : listed d with
      | true => rfl
      | false => simp [halfOk, q] at h
    have h3 : (seqOf d).length = 3 := by
      refine Classical.byContradiction fun z => ?_
      rw [halfOk_len z] at h; cases h
    obtain ⟨a, b, c, e⟩ := len3 h3
    rw [halfOk_one hl e] at h
    simp only [Bool.and_eq_true] at h
    refine ⟨hl, [b, c], ?_⟩
    unfold headS
    rw [e]
    show _ = DV.str (strOf a) :: _
    rw [← isStr_is h.1.1]
  · have hl : listed d = true := by
      cases q : listed d with
      | true => rfl
      | false => simp [wordOk, q] at h
    have h3 : (seqOf d).length = 1 := by
      refine Classical.byContradiction fun z => ?_
      rw [wordOk_len z] at h; cases h
    obtain ⟨a, e⟩ := len1 h3
    rw [wordOk_one hl e] at h
    simp only [Bool.and_eq_true] at h
    refine ⟨hl, [], ?_⟩
    unfold headS
    rw [e]
    show _ = DV.str (strOf a) :: _
    rw [← isStr_is h.1]
theorem rd_are_steps (Z : Xt) (p : DV × Int × Int) (hp : gd p.1 = true ∧ listed p.1 = true) : WS K Z (t_are_steps K cs) (slotsD N_are_steps [p.1, .int p.2.1, .int p.2.2]) [] 0 (ED fun r => r = .bl (goSteps p.2.1 p.2.2 0 (seqOf p.1))) := by
  obtain ⟨d, n, k⟩ := p
  obtain ⟨hg, hl⟩ := hp
  have hg : gd d = true := hg
  have hd := listed_is (show listed d = true from hl)
  obtain ⟨gl, gm⟩ := gd_seq hg
  show WS K Z (t_are_steps K cs) [.is d, .is (.int n), .is (.int k), .no, .no, .no] [] 0 (ED fun r => r = .bl (goSteps n k 0 (seqOf d)))
  unfold t_are_steps
  refine ws_seq (ws_asg (w_int ?_))
  refine ws_seq (ws_for (vs := [4]) (sw_seq (w_var rfl ⟨seqOf d, hd, fun i Γ O _ => ∃ (m : Int) (x y : SA), Γ = [.is d, .is (.int n), .is (.int k), .is (.int m), x, y] ∧ goSteps n k 0 (seqOf d) = goSteps n k m ((seqOf d).drop i), ⟨0, .no, .no, rfl, rfl⟩, ?_, ?_⟩)))
  · rintro i x _ O n' hx ⟨m, u, v, rfl, hm⟩
    have hi : i < (seqOf d).length := (List.getElem?_eq_some_iff.mp hx).1
    have ex : (seqOf d)[i] = x := (List.getElem?_eq_some_iff.mp hx).2
    have gx : gd x = true := gm x (List.mem_of_getElem? hx)
    rw [List.drop_eq_getElem_cons hi, ex] at hm
    refine gw_name (by simp) ?_
    have rest : stepOk n k x = true → WS K Z (tSeq (tAsg (tCall (sp_taken_by K cs) [] E0 (tCons (tOp (rIx K) (tVar 4) (tC (.int 0))) tNil)) (gName 5))
    (tSeq (tIfS (tTest (tOp rLt (tVar 3) (tVar 5))) (tRet (tC (.bl false))) tNext)
    (tAsg (tOp (rPlus K) (tOp rMinus (tVar 3) (tVar 5)) (tC (.int 1))) (gName 3)))) [.is d, .is (.int n), .is (.int k), .is (.int m), .is x, v] O n'
      { nx := fun Γ O _ => ∃ (m : Int) (x y : SA), Γ = [.is d, .is (.int n), .is (.int k), .is (.int m), x, y] ∧ goSteps n k 0 (seqOf d) = goSteps n k m ((seqOf d).drop (i + 1)), ct := fun Γ O _ => ∃ (m : Int) (x y : SA), Γ = [.is d, .is (.int n), .is (.int k), .is (.int m), x, y] ∧ goSteps n k 0 (seqOf d) = goSteps n k m ((seqOf d).drop (i + 1)),
        bk := fun Γ O m => WS K Z (tRet (tOp (rEqA K) (tVar 3) (tC (.int 1)))) Γ O m (ED fun r => r = .bl (goSteps n k 0 (seqOf d))), rt := fun r _ _ => r = .bl (goSteps n k 0 (seqOf d)) } := fun hs => by
      obtain ⟨hl, r, er⟩ := step_head hs
      have hd := listed_is hl
      rw [er] at hd
      refine ws_seq (ws_asg (w_call (wa_cons (w_ixS rfl hd atI_zero (wa_nil ⟨headS x, rfl, trivial, ?_⟩)))))
      rintro _ rfl
      refine ws_seq (ws_if (wt_test (w_op (w_var rfl (w_var rfl (ow_lt ⟨_, rfl, ?_⟩))))))
      refine br (fun h => ?_) (fun h => ?_)
      · refine ws_ret (w_bl ?_)
        rw [hm]
        simp [goSteps, h]
      · refine ws_next (ws_asg (w_op (w_op (w_var rfl (w_var rfl (ow_minus (w_int (ow_plusI ?_))))))))
        refine ⟨_, _, _, rfl, ?_⟩
        rw [hm]
        simp [goSteps, h, hs]
    refine ws_seq (ws_if (wt_and (wt_not (wt_tru (w_call (wa_cons (w_var rfl (wa_cons (w_var rfl (wa_cons (w_var rfl (wa_nil ⟨(x, n, k), rfl, gx, ?_⟩))))))))))))
    rintro _ rfl
    refine .inr (.inl ⟨_, rfl, ?_⟩)
    refine brM (fun h => ?_) (fun h => ?_)
    · refine wt_not (wt_tru (w_call (wa_cons (w_var rfl (wa_nil ⟨x, rfl, gx, ?_⟩)))))
      rintro _ rfl
      refine .inr (.inl ⟨_, rfl, ?_⟩)
      refine brM (fun h2 => ?_) (fun h2 => ?_)
      · refine ws_ret (w_bl ?_)
        have h : halfOk x n k = false := h
        rw [hm]
        simp [goSteps, stepOk, h, h2]
      · exact ws_next (rest (by simp [stepOk, h2]))
    · have h : halfOk x n k = true := h
      exact brF (ws_next (rest (by simp [stepOk, h])))
  · rintro _ O n' ⟨m, u, v, rfl, hm⟩
    rw [List.drop_length] at hm
    refine ws_ret (w_op (w_var rfl (w_int (ow_eqI ?_))))
    rw [hm]; rfl
theorem gF_go : ∀ (l : List Int) (g : Int), (l.foldl (fun g x => ((Nat.gcd g.natAbs x.natAbs : Nat) : Int)) g) ∣ g ∧ ∀ x ∈ l, (l.foldl (fun g x => ((Nat.gcd g.natAbs x.natAbs : Nat) : Int)) g) ∣ x
  | [], g => ⟨Int.dvd_refl g, fun x hx => by simp at hx⟩
  | y :: l, g => by
    obtain ⟨h1, h2⟩ := gF_go l ((Nat.gcd g.natAbs y.natAbs : Nat) : Int)
    have d1 : ((Nat.gcd g.natAbs y.natAbs : Nat) : Int) ∣ g := Int.ofNat_dvd_left.mpr (Nat.gcd_dvd_left _ _)
    have d2 : ((Nat.gcd g.natAbs y.natAbs : Nat) : Int) ∣ y := Int.ofNat_dvd_left.mpr (Nat.gcd_dvd_right _ _)
    refine ⟨Int.dvd_trans h1 d1, fun x hx => ?_⟩
    rcases List.mem_cons.mp hx with rfl | hx
    · exact Int.dvd_trans h1 d2
    · exact h2 x hx
theorem gF_dvd {l : List Int} {x : Int} (h : x ∈ l) : gF l ∣ x := (gF_go l 0).2 x h
theorem gF_le {l : List Int} {x : Int} (h : x ∈ l) (h0 : x ≠ 0) : gF l ≠ 0 ∧ (gF l).natAbs ≤ x.natAbs := by
  have hd := gF_dvd h
  refine ⟨fun z => h0 ?_, ?_⟩
  · rw [z] at hd; exact Int.zero_dvd.mp hd
  · exact Nat.le_of_dvd (by omega) (Int.natAbs_dvd_natAbs.mpr hd)
theorem rd_plane_of (Z : Xt) (p : List Int × List Int) (hp : p.1.length ≤ 300 ∧ p.2.length ≤ 300 ∧ (∃ x ∈ p.1, x ≠ 0) ∧ ∀ x ∈ p.1, x.natAbs ≤ 1000000) : WS K Z (t_plane_of K cs) (slotsD N_plane_of [.tup (p.1.map DV.int), .tup (p.2.map DV.int)]) [] 0 (ED fun r => r = pkD (plF p.1 p.2)) := by
  obtain ⟨a, b⟩ := p
  obtain ⟨la, lb, ⟨x, hx, x0⟩, ba⟩ := hp
  have la : a.length ≤ 300 := la
  have lb : b.length ≤ 300 := lb
  have hx : x ∈ a := hx
  have ba : ∀ x ∈ a, x.natAbs ≤ 1000000 := ba
  have hg := gF_le (l := a ++ b) (List.mem_append_left b hx) x0
  show WS K Z (t_plane_of K cs) [.is (.tup (a.map DV.int)), .is (.tup (b.map DV.int)), .no, .no] [] 0 (ED fun r => r = pkD (plF a b))
  unfold t_plane_of
  refine ws_seq (ws_asg (w_call (wa_cons (w_of_wl (wl_lst (wa_star (w_var rfl ⟨_, .inr rfl, wa_star (w_var rfl ⟨_, .inr rfl, wa_nil ⟨by simp; omega, wa_nil ⟨a ++ b, ?_, by simp; omega, ?_⟩⟩⟩)⟩)))))))
  · simp
  · rintro _ rfl
    let S := a.filter fun x => !decide (x = 0)
    have hS : S ≠ [] := fun z => by
      have : x ∈ S := List.mem_filter.mpr ⟨hx, by simp [x0]⟩
      rw [z] at this; cases this
    refine ws_seq (ws_asg (w_if (wt_test (w_op (w_op (w_of_wl (wl_lc (sw_seq (w_var rfl ⟨a.map DV.int, .inr rfl, by simp; omega, fun i acc m => acc = ((a.take i).filter fun x => !decide (x = 0)).map DV.int ∧ m = 0, ⟨rfl, rfl⟩, ?_, ?_⟩)))))))))
    · rintro i y acc m hy ⟨rfl, rfl⟩
      rw [List.getElem?_map] at hy
      cases hi : a[i]? with
      | none => rw [hi] at hy; cases hy
      | some z =>
        rw [hi] at hy
        cases hy
        have et : a.take (i + 1) = a.take i ++ [z] := by rw [List.take_add_one, hi]; rfl
        refine gw_name (by simp) (wt_test (w_op (w_var rfl (w_int (ow_neI ⟨_, rfl, ?_⟩)))))
        refine ⟨fun h => w_var rfl ?_, fun h => ?_⟩
        · refine ⟨?_, rfl⟩
          rw [et, List.filter_append, List.map_append]
          simp [h]
        · refine ⟨?_, rfl⟩
          rw [et, List.filter_append, List.map_append]
          simp [h]
    · rintro acc m ⟨rfl, rfl⟩
      rw [List.length_map, List.take_length]
      obtain ⟨s, S', eS⟩ : ∃ s S', S = s :: S' := by
        cases e : S with
        | nil => exact absurd e hS
        | cons s S' => exact ⟨s, S', rfl⟩
      have eS2 : (a.filter fun x => !decide (x = 0)) = s :: S' := eS
      rw [eS2]
      refine w_int (ow_ixL (d := .int s) atI_zero (w_int (ow_gt ⟨_, rfl, ?_⟩)))
      have fin : ∀ g : Int, g ≠ 0 → g.natAbs ≤ 1000000 → (if 0 < s then gF (a ++ b) else -gF (a ++ b)) = g → WS K Z (tRet (tTup (tCons (tCB (rTupOf K) (tCons (tLc (iSeq K (tVar 0)) (gName 3) tYes (tOp rFdiv (tVar 3) (tVar 2)) [3]) tNil)) (tCons (tCB (rTupOf K) (tCons (tLc (iSeq K (tVar 1)) (gName 3) tYes (tOp rFdiv (tVar 3) (tVar 2)) [3]) tNil)) tNil))))
          [.is (.tup (a.map DV.int)), .is (.tup (b.map DV.int)), .is (.int g), .no] [] 0 (ED fun r => r = pkD (plF a b)) := fun g g0 gb eg => by
        have g9 : g.natAbs < 2 ^ 9000 := nle (b := 9000) (show g.natAbs < 2 ^ 20 by omega) (by decide)
        refine ws_ret (w_tup (wa_cons (w_cb (wa_cons (w_of_wl (wl_lcF (α := Int) (sw_seq (w_var rfl ⟨a.map DV.int, .inr rfl, a, DV.int, fun x => .int (x.fdiv g), rfl, by omega, fun y _ => gw_name (by simp) (w_op (w_var rfl (w_var rfl (ow_fdiv g0 g9 ⟨rfl, rfl⟩)))), wa_nil (cw_tupL ?_)⟩)))))))) 
        refine wa_cons (w_cb (wa_cons (w_of_wl (wl_lcF (α := Int) (sw_seq (w_var rfl ⟨b.map DV.int, .inr rfl, b, DV.int, fun x => .int (x.fdiv g), rfl, by omega, fun y _ => gw_name (by simp) (w_op (w_var rfl (w_var rfl (ow_fdiv g0 g9 ⟨rfl, rfl⟩)))), wa_nil (cw_tupL (wa_nil ?_))⟩))))))
        refine ⟨by simp, ?_⟩
        unfold plF pkD
        rw [eS2]
        show _ = DV.tup [.tup ((a.map fun x => x.fdiv (if 0 < s then gF (a ++ b) else -gF (a ++ b))).map DV.int), .tup ((b.map fun x => x.fdiv (if 0 < s then gF (a ++ b) else -gF (a ++ b))).map DV.int)]
        rw [eg, List.map_map, List.map_map]
        rfl
      refine br (fun h => ?_) (fun h => ?_)
      · exact w_var rfl (fin _ hg.1 (Nat.le_trans hg.2 (ba x hx)) (if_pos h))
      · exact w_un (w_var rfl (uw_neg (fin _ (by have := hg.1; omega) (by have := hg.2; have := ba x hx; omega) (if_neg h))))
end
end K04
namespace K04
open PySem PySem.Spec PyProof.Rows L2 NdefX PySem.HandSPX PySem.DLx LamX StX DL
variable [Tn]
/-! walks: Shape -/
/-- facts of the classes -/
structure Fct (K : Fg) (cs : Cs) : Prop where
  cl : Cls K cs.c_Shape
  na : ∀ f ∈ FLD, NoAttr K cs.c_Shape f
  ins : InsC K cs.c_Shape
  kS : PySem.W.kitOne K (.ref cs.c_Shape) (.ref cs.c_Shape) = some true
  kL : PySem.W.kitOne K (.type "list") (.ref cs.c_Shape) = some false
  eq : PySem.W.findIn K (.ref cs.c_Shape) "__eq__" = some (some (.ref cs.f_eq))
  ne : PySem.W.findIn K (.ref cs.c_Shape) "__ne__" = some (some (.builtin "object.__ne__"))
  mo : PySem.W.mroIn K cs.c_Shape (.type "object") = some true
  nfS : PySem.W.notFirst K cs.c_Shape (.ref cs.c_Shape) = true
  nfL : PySem.W.notFirst K cs.c_Shape (.type "list") = true
  kD : ∀ t ∈ (["NoneType", "bool", "int", "str", "dict", "tuple", "list"] : List String), PySem.W.kitOne K (.type t) (.ref cs.c_Shape) = some false
  xS : XfC K cs.c_BadShape
  xV : XfC K cs.c_BadValue
  xT : XfC K cs.c_TooMany
  cS : ExcC K cs.c_BadShape
  cV : ExcC K cs.c_BadValue
  cT : ExcC K cs.c_TooMany
  kSS : PySem.W.kitOne K (.ref cs.c_BadShape) (.ref cs.c_BadShape) = some true
  kSV : PySem.W.kitOne K (.ref cs.c_BadShape) (.ref cs.c_BadValue) = some false
  kST : PySem.W.kitOne K (.ref cs.c_BadShape) (.ref cs.c_TooMany) = some false
  kVS : PySem.W.kitOne K (.ref cs.c_BadValue) (.ref cs.c_BadShape) = some false
  kVV : PySem.W.kitOne K (.ref cs.c_BadValue) (.ref cs.c_BadValue) = some true
  kVT : PySem.W.kitOne K (.ref cs.c_BadValue) (.ref cs.c_TooMany) = some false
  kTS : PySem.W.kitOne K (.ref cs.c_TooMany) (.ref cs.c_BadShape) = some false
  kTV : PySem.W.kitOne K (.ref cs.c_TooMany) (.ref cs.c_BadValue) = some false
  kTT : PySem.W.kitOne K (.ref cs.c_TooMany) (.ref cs.c_TooMany) = some true
  k0S : PySem.W.kitOne K (.type "NoneType") (.ref cs.c_BadShape) = some false
  k0V : PySem.W.kitOne K (.type "NoneType") (.ref cs.c_BadValue) = some false
  k0T : PySem.W.kitOne K (.type "NoneType") (.ref cs.c_TooMany) = some false
  fS : PySem.W.findIn K (.ref cs.c_BadShape) "part" = some none
  fV : PySem.W.findIn K (.ref cs.c_BadValue) "part" = some none
  fw : PySem.W.findIn K (.ref cs.c_TooMany) "what" = some none
  fm : PySem.W.findIn K (.ref cs.c_TooMany) "most" = some none
  mS : PySem.W.exmOne K (.ref cs.c_BadShape) (.ref cs.c_CutError) = some true
  mV : PySem.W.exmOne K (.ref cs.c_BadValue) (.ref cs.c_CutError) = some true
  mT : PySem.W.exmOne K (.ref cs.c_TooMany) (.ref cs.c_CutError) = some true
/-! data of steps -/
theorem goSteps_all {n k : Int} : ∀ {xs : List DV} {m : Int}, goSteps n k m xs = true → ∀ x ∈ xs, stepOk n k x = true
  | x :: xs, m, h, y, hy => by
    simp only [goSteps, Bool.and_eq_true] at h
    rcases List.mem_cons.mp hy with rfl | hy
    · exact h.1
    · exact goSteps_all h.2.2 y hy
theorem half_form {n k : Int} {d : DV} (h : halfOk d n k = true) : ∃ b c : List Int, fixS d = .tup [.str "half", .tup (b.map DV.int), .tup (c.map DV.int)] ∧ (b.length : Int) = n ∧ (c.length : Int) = 1 + k ∧ (∃ x ∈ b, x ≠ 0) ∧ ∀ x ∈ b, x.natAbs ≤ 1000000 := by
  have hl : listed d = true := by
    cases q : listed d with
    | true => rfl
    | false => simp [halfOk, q] at h
  have h3 : (seqOf d).length = 3 := by
    refine Classical.byContradiction fun z => ?_
    rw [halfOk_len z] at h; cases h
  obtain ⟨a, b, c, e⟩ := len3 h3
  rw [halfOk_one hl e] at h
  simp only [Bool.and_eq_true, decide_eq_true_eq, List.any_eq_true] at h
  obtain ⟨⟨h1, h2⟩, ⟨h4, h5⟩, x, hx, h6⟩ := h
  obtain ⟨b1, b2, b3⟩ := intsOk_is h4
  obtain ⟨c1, c2, c3⟩ := intsOk_is h5
  have eb : (seqOf b) = ((seqOf b).map intOf).map DV.int := by
    rw [List.map_map]
    exact (List.map_id _).symm.trans (List.map_congr_left fun x hx => (b3 x hx).1)
  have ec : (seqOf c) = ((seqOf c).map intOf).map DV.int := by
    rw [List.map_map]
    exact (List.map_id _).symm.trans (List.map_congr_left fun x hx => (c3 x hx).1)
  refine ⟨(seqOf b).map intOf, (seqOf c).map intOf, ?_, by rw [List.length_map]; exact b2, by rw [List.length_map]; exact c2, ⟨intOf x, List.mem_map.mpr ⟨x, hx, rfl⟩, by simpa using h6⟩, ?_⟩
  · have f2 : ∀ {y : DV}, listed y = true → fixPart y = .tup (seqOf y) := fun {y} hy => by
      rcases listed_is hy with q | q
      · rw [q]; rfl
      · rw [q]; rfl
    unfold fixS
    rw [e]
    show DV.tup [fixPart a, fixPart b, fixPart c] = _
    rw [f2 b1, f2 c1, ← eb, ← ec, isStr_is h1, h2]
    rfl
  · intro y hy
    obtain ⟨z, hz, rfl⟩ := List.mem_map.mp hy
    have := (b3 z hz).2
    unfold MI at this
    omega
theorem word_form {d : DV} (h : wordOk d = true) : ∃ s : Str, fixS d = .tup [.str s] ∧ wordS s = true := by
  have hl : listed d = true := by
    cases q : listed d with
    | true => rfl
    | false => simp [wordOk, q] at h
  have h3 : (seqOf d).length = 1 := by
    refine Classical.byContradiction fun z => ?_
    rw [wordOk_len z] at h; cases h
  obtain ⟨a, e⟩ := len1 h3
  rw [wordOk_one hl e] at h
  simp only [Bool.and_eq_true] at h
  refine ⟨strOf a, ?_, h.2⟩
  unfold fixS
  rw [e]
  show DV.tup [fixPart a] = _
  rw [isStr_is h.1]
  rfl
theorem no_half {s : Str} (h : wordS s = true) : s ≠ "half" := fun z => by
  subst z
  revert h
  decide +kernel
theorem headS_fix (s : Str) (r : List DV) : headS (.tup (.str s :: r)) = s := rfl
theorem step_form {n k : Int} {d : DV} (h : stepOk n k d = true) : (∃ b c : List Int, fixS d = .tup [.str "half", .tup (b.map DV.int), .tup (c.map DV.int)] ∧ (b.length : Int) = n ∧ (c.length : Int) = 1 + k ∧ (∃ x ∈ b, x ≠ 0) ∧ ∀ x ∈ b, x.natAbs ≤ 1000000) ∨ ∃ s : Str, fixS d = .tup [.str s] ∧ wordS s = true := by
  unfold stepOk at h
  rcases (Bool.or_eq_true _ _).mp h with h | h
  · exact .inl (half_form h)
  · exact .inr (word_form h)
theorem intsD_of (l : List Int) : intsD (.tup (l.map DV.int)) = l := by
  unfold intsD
  show (l.map DV.int).map intOf = l
  rw [List.map_map]
  exact (List.map_congr_left fun x _ => rfl).trans (List.map_id _)
theorem plS_of (b c : List Int) : plS (.tup [.str "half", .tup (b.map DV.int), .tup (c.map DV.int)]) = plF b c := by
  unfold plS
  show plF (intsD (.tup (b.map DV.int))) (intsD (.tup (c.map DV.int))) = _
  rw [intsD_of, intsD_of]
theorem pyInts (l : List Int) : pyL (l.map DV.int) = l.map PyData.int := by
  rw [pyL_map]; rfl
theorem py_pkD (p : PK2) : DL.py (pkD p) = .tuple [.tuple (p.1.map PyData.int), .tuple (p.2.map PyData.int)] := by
  unfold pkD
  simp only [DL.py, DL.pyL, pyInts]
theorem pl_pkD (p : PK2) : Pl 2 (pkD p) := by
  refine pl_tup fun d hd => ?_
  rcases List.mem_cons.mp hd with rfl | hd
  · exact pl_intsT _
  · rw [List.mem_singleton] at hd; subst hd; exact pl_intsT _
section
variable {K : Fg} {cs : Cs}
theorem rd_Shape_eq (T : Fct K cs) (Z : Xt) (a : Two) (hp : twoP a) : WS K Z (t_Shape_eq K cs) (slotsD N_Shape_eq (twoA cs.c_Shape a)) [] 0 (ED (twoR a)) := by
  obtain ⟨⟨n, k, s, pl⟩, y⟩ := a
  unfold t_Shape_eq
  have nD := T.na "dimension" (by decide +kernel)
  have nS := T.na "sliders" (by decide +kernel)
  have nT := T.na "steps" (by decide +kernel)
  cases y with
  | inr l =>
    show WS K Z _ [.is (insD cs.c_Shape (n, k, s, pl)), .is (.lst l)] [] 0 (ED fun d => d = .bl false)
    exact ws_seq (ws_if (wt_not (wt_tru (w_cb (wa_cons (w_var rfl (wa_cons (w_adr (wa_nil (cw_isDC (t := "list") rfl T.kL (.inr (.inl ⟨false, rfl, brT (ws_ret (w_bl rfl))⟩)))))))))))) 
  | inl b =>
    obtain ⟨n', k', s', pl'⟩ := b
    obtain ⟨h1, h2⟩ := hp
    show WS K Z _ [.is (insD cs.c_Shape (n, k, s, pl)), .is (insD cs.c_Shape (n', k', s', pl'))] [] 0 (ED fun d => d = .bl (PyData.eqv (DL.py (keyD (n, k, s, pl))) (DL.py (keyD (n', k', s', pl')))))
    refine ws_seq (ws_if (wt_not (wt_tru (w_cb (wa_cons (w_var rfl (wa_cons (w_adr (wa_nil (cw_isIC T.ins T.kS (.inr (.inl ⟨true, rfl, brF (ws_next ?_)⟩))))))))))))
    refine ws_ret (w_op (w_tup (wa_cons (w_attI (w_var rfl ⟨_, _, _, .int n, rfl, T.cl, nD, rfl, wa_cons (w_attI (w_var rfl ⟨_, _, _, .int k, rfl, T.cl, nS, rfl, wa_cons (w_attI (w_var rfl ⟨_, _, _, .tup s, rfl, T.cl, nT, rfl, wa_nil ⟨by simp, ?_⟩⟩))⟩))⟩)))))
    refine w_tup (wa_cons (w_attI (w_var rfl ⟨_, _, _, .int n', rfl, T.cl, nD, rfl, wa_cons (w_attI (w_var rfl ⟨_, _, _, .int k', rfl, T.cl, nS, rfl, wa_cons (w_attI (w_var rfl ⟨_, _, _, .tup s', rfl, T.cl, nT, rfl, wa_nil ⟨by simp, ?_⟩⟩))⟩))⟩)))
    exact ow_eqD h1 h2 rfl
theorem fixPart_lst : ∀ {d : DV}, listed d = true → fixPart d = .tup (seqOf d)
  | .lst _, _ => rfl
  | .tup _, _ => rfl
  | .non, h => by simp [listed] at h
  | .bl _, h => by simp [listed] at h
  | .int _, h => by simp [listed] at h
  | .str _, h => by simp [listed] at h
  | .dic _ _, h => by simp [listed] at h
  | .ty _, h => by simp [listed] at h
  | .adr _, h => by simp [listed] at h
  | .ins _ _ _, h => by simp [listed] at h
  | .exc _ _ _, h => by simp [listed] at h
theorem fixPart_no : ∀ {d : DV}, listed d = false → fixPart d = d
  | .lst _, h => by simp [listed] at h
  | .tup _, h => rfl
  | .non, _ => rfl
  | .bl _, _ => rfl
  | .int _, _ => rfl
  | .str _, _ => rfl
  | .dic _ _, _ => rfl
  | .ty _, _ => rfl
  | .adr _, _ => rfl
  | .ins _ _ _, _ => rfl
  | .exc _ _ _, _ => rfl
theorem rd_Shape_init (P : Program) (w : World) (T : Fct K cs) (E : XK) (x : Arg3) (hp : gd x.1 = true ∧ gd x.2.1 = true ∧ gd x.2.2 = true) :
    WS K ⟨E, fun D ns ds _ => (shE x).map (erX cs) = some (D, ns, ds)⟩ (t_Shape_init P w K cs E) [.own 0, .is x.1, .is x.2.1, .is x.2.2, .no, .no, .no, .no, .no, .no] [some (.i cs.c_Shape [] [])] 0
      { nx := fun _ O _ => ∃ ns ds, O[0]? = some (some (.i cs.c_Shape ns ds)) ∧ (shE x = none ∧ ns = FLD ∧ ds = shF x), rt := fun d O _ => False } := by
  obtain ⟨d, kk, s⟩ := x
  obtain ⟨gn, gk, gs⟩ := hp
  have gn : gd d = true := gn
  have gk : gd kk = true := gk
  have gs : gd s = true := gs
  show WS K _ _ [.own 0, .is d, .is kk, .is s, .no, .no, .no, .no, .no, .no] _ 0 _
  have nD := T.na "dimension" (by decide +kernel)
  have nS := T.na "sliders" (by decide +kernel)
  have nT := T.na "steps" (by decide +kernel)
  have nP := T.na "planes" (by decide +kernel)
  unfold t_Shape_init
  refine ws_seq (ws_if (wt_not (wt_tru (w_call (wa_cons (w_var rfl (wa_cons (w_int (wa_cons (w_int (wa_nil ⟨(d, 1, 3), rfl, gn, ?_⟩)))))))))))
  rintro _ rfl
  refine .inr (.inl ⟨_, rfl, ?_⟩)
  refine brM (fun h1 => ?_) (fun h1 => ws_next ?_)
  · exact ws_raise (by decide) (wa_cons (w_str (wa_nil ⟨rfl, by have h1 : within d 1 3 = false := h1; simp [shE, h1, erX]⟩)))
  have h1 : within d 1 3 = true := h1
  refine ws_seq (ws_if (wt_not (wt_tru (w_call (wa_cons (w_var rfl (wa_cons (w_int (wa_cons (w_int (wa_nil ⟨(kk, 0, 2), rfl, gk, ?_⟩)))))))))))
  rintro _ rfl
  refine .inr (.inl ⟨_, rfl, ?_⟩)
  refine brM (fun h2 => ?_) (fun h2 => ws_next ?_)
  · exact ws_raise (by decide) (wa_cons (w_str (wa_nil ⟨rfl, by have h2 : within kk 0 2 = false := h2; simp [shE, h1, h2, erX]⟩)))
  have h2 : within kk 0 2 = true := h2
  refine ws_seq (ws_if (wt_not (wt_tru (w_call (wa_cons (w_var rfl (wa_nil ⟨s, rfl, gs, ?_⟩)))))))
  rintro _ rfl
  refine .inr (.inl ⟨_, rfl, ?_⟩)
  refine brM (fun h3 => ?_) (fun h3 => ws_next ?_)
  · exact ws_raise (by decide) (wa_cons (w_str (wa_nil ⟨rfl, by simp [shE, h1, h2, h3, erX]⟩)))
  have hd := listed_is h3
  obtain ⟨gl, gm⟩ := gd_seq gs
  refine ws_seq (ws_if (wt_test (w_op (w_lenS rfl hd (w_int (ow_gt ⟨_, rfl, ?_⟩))))))
  refine br (fun h4 => ?_) (fun h4 => ws_next ?_)
  · exact ws_raise (by decide) (wa_cons (w_str (wa_cons (w_int (wa_nil ⟨rfl, by have h4 : 60 < (seqOf s).length := (by omega); simp [shE, h1, h2, h3, h4, erX]⟩)))))
  have h4 : ¬ 60 < (seqOf s).length := by omega
  obtain ⟨ed, d1, d2⟩ := within_is h1
  obtain ⟨ek, k1, k2⟩ := within_is h2
  have gok : shE (d, kk, s) = if goSteps (intOf d) (intOf kk) 0 (seqOf s) = false then some (.sh "steps") else none := by simp [shE, h1, h2, h3, h4]
  revert ed ek d1 d2 k1 k2 gok
  generalize hn : intOf d = n
  generalize hk : intOf kk = k
  intro ed d1 d2 ek k1 k2 gok
  refine ws_seq (ws_if (wt_not (wt_tru (w_call (wa_cons (w_var rfl (wa_cons (w_var rfl (wa_cons (w_var rfl (wa_nil ⟨(s, n, k), by rw [ed, ek], ⟨gs, h3⟩, ?_⟩)))))))))))
  rintro _ rfl
  refine .inr (.inl ⟨_, rfl, ?_⟩)
  refine brM (fun h5 => ?_) (fun h5 => ws_next ?_)
  · exact ws_raise (by decide) (wa_cons (w_str (wa_nil ⟨rfl, by show (shE (d, kk, s)).map (erX cs) = _; have h5 : goSteps n k 0 (seqOf s) = false := h5; rw [gok, if_pos h5]; rfl⟩)))
  have h5 : goSteps n k 0 (seqOf s) = true := h5
  have all := goSteps_all h5
  have gok : shE (d, kk, s) = none := by rw [gok, h5]; rfl
  refine ws_seq (ws_ost T.cl nD rfl rfl (by simp) (by decide) (w_var rfl ?_))
  refine ws_seq (ws_ost T.cl nS rfl rfl (by decide +kernel) (by decide) (w_var rfl ?_))
  -- steps as tuples
  refine ws_seq (ws_ost T.cl nT rfl rfl (by decide +kernel) (by decide) (w_cb (wa_cons (w_of_wl (wl_lcF (α := DV) (sw_seq (w_var rfl ⟨seqOf s, hd, seqOf s, id, fixS, by simp, by omega, fun x hx => ?_, wa_nil (cw_tupL ?_)⟩)))))))
  · obtain ⟨xl, _⟩ := step_head (all x hx)
    have xd := listed_is xl
    obtain ⟨xg, xm⟩ := gd_seq (gm x hx)
    refine gw_name (by simp) (w_cb (wa_cons (w_of_wl (wl_lcF (α := DV) (sw_seq (w_var rfl ⟨seqOf x, xd, seqOf x, id, fixPart, by simp, by omega, fun y hy => ?_, wa_nil (cw_tupL ⟨rfl, rfl⟩)⟩))))))
    refine gw_name (by simp) (w_if (wt_tru (w_call (wa_cons (w_var rfl (wa_nil ⟨y, rfl, xm y hy, ?_⟩))))))
    rintro _ rfl
    refine .inr (.inl ⟨_, rfl, fun hy2 => ?_, fun hy2 => ?_⟩)
    · refine w_cb (wa_cons (w_var rfl (wa_nil ?_)))
      show CW K (rTupOf K) [y] _
      have ey := fixPart_lst hy2
      rcases listed_is hy2 with q | q
      · rw [q]; exact cw_tupL ⟨rfl, rfl⟩
      · rw [q]; exact cw_tupT ⟨rfl, rfl⟩
    · exact w_var rfl ⟨(fixPart_no hy2).symm, rfl⟩
  -- halves
  show WS K _ _ [.own 0, .is d, .is kk, .is s, .no, .no, .no, .no, .no, .no] [some (.i cs.c_Shape ["dimension", "sliders", "steps"] [d, kk, .tup ((seqOf s).map fixS)])] 0 _
  have hT : ∀ y ∈ (seqOf s).map fixS, (∃ b c : List Int, y = .tup [.str "half", .tup (b.map DV.int), .tup (c.map DV.int)] ∧ (b.length : Int) = n ∧ (c.length : Int) = 1 + k ∧ (∃ x ∈ b, x ≠ 0) ∧ ∀ x ∈ b, x.natAbs ≤ 1000000) ∨ ∃ s : Str, y = .tup [.str s] ∧ wordS s = true := fun y hy => by
    obtain ⟨x, hx, rfl⟩ := List.mem_map.mp hy
    exact step_form (all x hx)
  have lT : ((seqOf s).map fixS).length ≤ 60 := by rw [List.length_map]; omega
  have eF : shF (d, kk, s) = [d, kk, .tup ((seqOf s).map fixS), plD ((seqOf s).map fixS)] := rfl
  revert hT lT eF
  generalize (seqOf s).map fixS = L
  intro hT lT eF
  refine ws_seq (ws_asg (w_of_wl (wl_lc (sw_seq (w_attOwn T.cl nT rfl rfl rfl ⟨L, .inr rfl, by omega, fun i acc m => acc = (L.take i).filter isHalfS ∧ m = 0, ⟨rfl, rfl⟩, ?_, ?_⟩)))))
  · rintro i y acc m hy ⟨rfl, rfl⟩
    have et : L.take (i + 1) = L.take i ++ [y] := by rw [List.take_add_one, hy]; rfl
    obtain ⟨st, r, ey⟩ : ∃ (st : Str) (r : List DV), y = .tup (.str st :: r) := by
      rcases hT y (List.mem_of_getElem? hy) with ⟨b, c, e, _⟩ | ⟨st, e, _⟩
      · exact ⟨_, _, e⟩
      · exact ⟨_, _, e⟩
    refine gw_name (by simp) (wt_test (w_op (w_ixS (xs := .str st :: r) rfl (.inr ey) atI_zero (w_str (ow_eqS ⟨_, rfl, ?_⟩)))))
    have eh : isHalfS y = decide (st = "half") := by rw [ey]; rfl
    rw [← eh]
    refine ⟨fun h => w_var rfl ⟨?_, rfl⟩, fun h => ⟨?_, rfl⟩⟩
    · rw [et, List.filter_append]; simp [h]
    · rw [et, List.filter_append]; simp [h]
  · rintro acc m ⟨rfl, rfl⟩
    rw [List.take_length]
    have hH : ∀ y ∈ L.filter isHalfS, ∃ b c : List Int, y = .tup [.str "half", .tup (b.map DV.int), .tup (c.map DV.int)] ∧ (b.length : Int) = n ∧ (c.length : Int) = 1 + k ∧ (∃ x ∈ b, x ≠ 0) ∧ ∀ x ∈ b, x.natAbs ≤ 1000000 := fun y hy => by
      obtain ⟨y1, y2⟩ := List.mem_filter.mp hy
      rcases hT y y1 with h | ⟨st, e, hw⟩
      · exact h
      · subst e
        exact absurd (of_decide_eq_true (show decide (st = "half") = true from y2)) (no_half hw)
    have lH : (L.filter isHalfS).length ≤ 60 := Nat.le_trans (List.length_filter_le _ _) lT
    have eP : plD L = .tup (((((L.filter isHalfS).map plS).foldl putK2 []).map pkD).mergeSort (PySem.W.dataLe false DL.py)) := rfl
    rw [eF, eP]
    clear eF eP
    revert hH lH
    generalize L.filter isHalfS = H
    intro hH lH
    show WS K _ _ [.own 0, .is d, .is kk, .is s, .is (.lst H), .no, .no, .no, .no, .no] [some (.i cs.c_Shape ["dimension", "sliders", "steps"] [d, kk, .tup L])] 0 _
    refine ws_ost T.cl nP rfl rfl (by decide +kernel) (by decide) (w_cb (wa_cons (w_of_wl (wl_cb (wa_cons (w_of_wl (wl_listDc (sw_seq (w_var rfl ⟨H, .inl rfl, by omega, fun i acc m => acc = ((H.take i).map plS).foldl putK2 [] ∧ m = 0, ⟨rfl, rfl⟩, ?_, ?_⟩)))))))))
    · rintro i y acc m hy ⟨rfl, rfl⟩
      obtain ⟨b, c, rfl, lb, lc, nz, bb⟩ := hH y (List.mem_of_getElem? hy)
      refine gw_tup rfl (gws_cons (gw_name (by simp) (gws_cons (gw_name (by simp) (gws_cons (gw_name (by simp) (gws_nil ?_)))))))
      refine w_call (wa_cons (w_var rfl (wa_cons (w_var rfl (wa_nil ⟨(b, c), rfl, ⟨?_, ?_, nz, bb⟩, ?_⟩)))))
      · show b.length ≤ 300; omega
      · show c.length ≤ 300; omega
      · rintro _ rfl
        refine ⟨_, rfl, ?_, rfl⟩
        rw [List.take_add_one, hy, List.map_append, List.foldl_append]
        show _ = putK2 _ (plS _)
        rw [plS_of]
    · rintro acc m ⟨rfl, rfl⟩
      rw [List.take_length]
      refine wa_nil (cwl_sorted ?_ ?_ ?_ ?_ (wa_nil (cw_tupL ?_)))
      · intro y hy
        obtain ⟨p, _, rfl⟩ := List.mem_map.mp hy
        exact (pl_pkD p).py
      · rw [List.map_map]
        refine PySem.W.AllAlike.of fun p q => ?_
        show PySem.W.alike (DL.py (pkD p)) (DL.py (pkD q)) = true
        rw [py_pkD, py_pkD]
        simp [PySem.W.alike, PySem.W.alikeAll, PySem.W.alike_ints]
      · rw [List.map_map]
        exact PySem.W.Sortable.tuples fun p => ⟨_, _, py_pkD p⟩
      · intro y hy
        obtain ⟨p, _, rfl⟩ := List.mem_map.mp hy
        exact Nat.le_trans (pl_pkD p).dep (by decide)
      · exact ⟨_, _, rfl, gok, rfl, rfl⟩
end
end K04
namespace K04
open PySem PySem.Spec PyProof.Rows L2 NdefX PySem.HandSPX PySem.DLx LamX StX DL
variable [Tn]
/-! walks: the law's pen, halves, what is bent, what leaves one -/
theorem cut_to {ds : List DV} {j : Nat} (h : j ≤ ds.length) : DL.cutD ds none (some (j : Int)) = ds.take j := by
  unfold DL.cutD
  rw [HT.sIx_nat, HT.sIx_none, Nat.min_eq_left h]
  rfl
theorem cut_from {ds : List DV} {j : Nat} (h : j ≤ ds.length) : DL.cutD ds (some (j : Int)) none = ds.drop j := by
  unfold DL.cutD
  rw [HT.sIx_nat, HT.sIx_none, Nat.min_eq_left h]
  exact List.take_of_length_le (by simp)
abbrev tI (a : List Int) : DV := .tup (a.map DV.int)
def pool : Nat → List (List Int)
  | 1 => [[1], [1], [2], [3], [7]]
  | 2 => [[1, 0], [0, 1], [1, 1], [1, -1], [2, 1], [-1, 2], [5, -3], [2, 7]]
  | 3 => [[1, 0, 0], [0, 1, 0], [0, 0, 1], [1, 1, 1], [1, 1, 0], [1, -1, 2], [0, 1, 1], [4, -5, 3]]
  | _ => []
theorem pool_ok (n : Nat) : ∀ a ∈ pool n, a.length = n ∧ (∃ x ∈ a, x ≠ 0) ∧ ∀ x ∈ a, -1002 ≤ x ∧ x ≤ 1002 := by
  match n with
  | 1 => decide
  | 2 => decide
  | 3 => decide
  | 0 => intro a h; cases h
  | n + 4 => intro a h; cases h
/-- a normal before it is turned -/
def NOk (n : Nat) (a : List Int) : Prop := a.length = n ∧ (∃ x ∈ a, x ≠ 0) ∧ ∀ x ∈ a, -1002 ≤ x ∧ x ≤ 1002
section
variable {K : Fg} {cs : Cs}
theorem body_pen {vs : List V} {H : Hp} {Q : VK} {E : XK} (h : sp_law_pen K cs vs H Q E) : t_law_pen K cs { nx := fun _ H' => Q .non H', rt := Q } (L2.start N_law_pen vs) H := by
  obtain ⟨M, a, ns, rfl, hq, hl, ex, tb, c⟩ := h
  have S := enter (K := K) (Z := ⟨C8.E0, fun _ _ _ _ => False⟩) (N := N_law_pen) (M := M) (H := H) (vs := [.ref a]) (ds := [.adr a]) ex tb (.cons (.adr a) .nil) xok_no
  have w : WL K ⟨C8.E0, fun _ _ _ _ => False⟩ (tLst (tCons (tLc (iSeq K (scr K a (ns.map V.int))) (gName 1) tYes (tCB rInt1 (tCons (tVar 1) tNil)) [1]) (tCons (tC (.int 0)) (tCons (tC (.int 0)) tNil)))) (slotsD N_law_pen [.adr a]) [] 0 fun ds _ => ds = [.lst ((ns.take 63).map DV.int), .int 0, .int 0] := by
    refine wl_lst (wa_cons (w_of_wl (wl_lcF (α := Int) (sw_seq (w_of_wl (wl_scr rfl ⟨_, .inl rfl, ns.take 63, DV.int, DV.int, rfl, ?_, fun x _ => ?_, ?_⟩))))))
    · rw [List.length_take]; omega
    · exact gw_name (by simp) (w_cb (wa_cons (w_var rfl (wa_nil (cw_intI ⟨rfl, rfl⟩)))))
    · exact wa_cons (w_int (wa_cons (w_int (wa_nil ⟨by simp, rfl⟩))))
  have fin := w none [] _ M H _ S Q fun p us M' H' ds n' e1 S1 h1 h2 _ _ _ h5 h6 hd => by
    subst hd
    refine c p M' H' e1 S1.gr S1.ex S1.tb h1 h2 ⟨us, ns.take 63, 0, 0, h5, h6, ?_, by decide, by decide, by decide⟩
    rw [List.length_take]; omega
  exact fin hq
theorem body_draw {vs : List V} {H : Hp} {Q : VK} {E : XK} (h : sp_law_draw K cs vs H Q E) : t_law_draw K cs { nx := fun _ H' => Q .non H', rt := Q } (L2.start N_law_draw vs) H :=
  body_own h fun Z m n cells at_ left hp hn hl h0 h1 h2 => rd_draw (c1 := 143845) (c2 := 15249) (c3 := 4625) (c4 := 91443) (by decide) (by decide) (by decide) (by decide) m n cells at_ left hp.1 hp.2 hn hl h0 h1 h2
theorem small {m : Int} (h : m.natAbs < 2 ^ 20) : m.natAbs < 2 ^ 9000 := nle (b := 9000) h (by decide)
theorem ways {x : DV} (h : x ∈ ([.int 1, .int (-1), .int (-1), .int 1, .int 2] : List DV)) : ∃ w : Int, x = .int w ∧ (w = 1 ∨ w = -1 ∨ w = 2) := by
  simp only [List.mem_cons, List.not_mem_nil, or_false] at h
  rcases h with rfl | rfl | rfl | rfl | rfl
  · exact ⟨1, rfl, .inl rfl⟩
  · exact ⟨-1, rfl, .inr (.inl rfl)⟩
  · exact ⟨-1, rfl, .inr (.inl rfl)⟩
  · exact ⟨1, rfl, .inl rfl⟩
  · exact ⟨2, rfl, .inr (.inr rfl)⟩
theorem offs {x : DV} (h : x ∈ ([.int 0, .int 0, .int 1, .int (-1), .int 2] : List DV)) : ∃ w : Int, x = .int w ∧ -4 ≤ w ∧ w ≤ 4 := by
  simp only [List.mem_cons, List.not_mem_nil, or_false] at h
  rcases h with rfl | rfl | rfl | rfl | rfl <;> exact ⟨_, rfl, by decide, by decide⟩
theorem rd_law_half (Z : Xt) (p : Nat × Nat) (n : Nat) (hp : 1 ≤ p.1 ∧ p.1 ≤ 3 ∧ p.2 ≤ 2) (hn : n + 11 ≤ 1000000) : WS K Z (t_law_half K cs) (slotsP N_law_half [.int (p.1 : Int), .int (p.2 : Int)]) [] n (EP (n + 11) fun d => ∃ a b, d = encT (.half a b) ∧ HOk p.1 p.2 4 a b) := by
  obtain ⟨N, k⟩ := p
  obtain ⟨n1, n3, k2⟩ := hp
  have n1 : 1 ≤ N := n1
  have n3 : N ≤ 3 := n3
  have k2 : k ≤ 2 := k2
  show WS K Z (t_law_half K cs) [.pen, .is (.int (N : Int)), .is (.int (k : Int)), .no, .no, .no, .no, .no, .no] [] n (EP (n + 11) fun d => ∃ a b, d = encT (.half a b) ∧ HOk N k 4 a b)
  unfold t_law_half
  have hix : atI [DV.lst ((pool 1).map tI), .lst ((pool 2).map tI), .lst ((pool 3).map tI)] ((N : Int) - 1) = some (.lst ((pool N).map tI)) := by
    have h : N = 1 ∨ N = 2 ∨ N = 3 := by omega
    rcases h with rfl | rfl | rfl <;> rfl
  have hpne : pool N ≠ [] ∧ (pool N).length ≤ 8 := by
    have h : N = 1 ∨ N = 2 ∨ N = 3 := by omega
    rcases h with rfl | rfl | rfl <;> decide
  refine ws_seq (ws_asg ?_)
  repeat' first
    | walk_at "dl2"
    | walk_at "len"
  refine ow_ixL hix ?_
  refine ws_seq (ws_asgG (w_tup (wa_cons (w_pick rfl (w_var rfl ⟨_, rfl, by simpa using hpne.1, by have := hpne.2; simp; omega, by omega, fun x hx => ?_⟩)))))
  obtain ⟨a, ha, rfl⟩ := List.mem_map.mp hx
  refine wa_cons (w_pick rfl ?_)
  repeat' first
    | walk_at "dl2"
    | walk_at "len"
  refine ⟨_, rfl, by simp, by simp, by omega, fun y hy => ?_⟩
  obtain ⟨way, rfl, hw⟩ := ways hy
  refine wa_nil ⟨by simp, xg_tup rfl (xgs_cons (xg_name (xgs_cons (xg_name (xgs_nil ?_)))))⟩
  have aok : NOk N a := pool_ok N a ha
  refine ws_cut (fun Γ O m => ∃ (a : List Int) (x : SA), Γ = [.pen, .is (.int (N : Int)), .is (.int (k : Int)), .is (.lst ((pool N).map tI)), .is (tI a), .is (.int way), .no, x, .no] ∧ O = [] ∧ NOk N a ∧ m ≤ n + 8) ?_ ?_
  · refine ws_if (wt_test (w_op (w_callP rfl (wa_cons (w_int (wa_nil ⟨11, rfl, ⟨by decide, small (by decide)⟩, by omega, ?_⟩))))))
    rintro _ ⟨r, rfl, _, _⟩
    refine w_int (ow_eqI ⟨_, rfl, br (fun _ => ?_) (fun _ => ?_)⟩)
    · refine ws_seq (ws_asg (w_cb (wa_cons (w_of_wl (wl_op (w_of_wl (wl_lst (wa_cons (w_op (w_int (w_callP rfl (wa_cons (w_int (wa_nil ⟨2000, rfl, ⟨by decide, small (by decide)⟩, by omega, ?_⟩)))))))))))))) 
      rintro _ ⟨r1, rfl, r0, r9⟩
      refine ow_minus (wa_nil ⟨by simp, ?_⟩)
      refine w_of_wl (wl_lc (sw_rng1 (wa_cons (w_op (w_var rfl (w_int (ow_minus (wa_nil ⟨_, rfl, by omega, by omega, ?_⟩))))))))
      have ej : ((N : Int) - 1).toNat = N - 1 := by omega
      rw [ej]
      refine ⟨by rw [rngD_length]; omega, fun i acc m => ∃ l : List Int, acc = l.map DV.int ∧ l.length = i ∧ (∀ x ∈ l, -1002 ≤ x ∧ x ≤ 1002) ∧ m ≤ n + 4 + 2 * i, ⟨[], rfl, rfl, fun x hx => (nomatch hx), by omega⟩, ?_, ?_⟩
      · rintro i y acc m hy ⟨l, rfl, rfl, lb, hm⟩
        obtain ⟨hi, rfl⟩ := rngD_get hy
        refine gw_name (by simp) (wt_yes ⟨fun _ => ?_, fun z => nomatch z⟩)
        refine w_pick rfl (w_of_wl (wl_lst (wa_cons (w_int (wa_cons (w_op (w_int (w_callP rfl (wa_cons (w_int (wa_nil ⟨2000, rfl, ⟨by decide, small (by decide)⟩, by omega, ?_⟩)))))))))))
        rintro _ ⟨r2, rfl, _, _⟩
        refine ow_minus (wa_nil ⟨by simp, _, rfl, by simp, by simp, by omega, fun y hy => ?_⟩)
        simp only [List.mem_cons, List.not_mem_nil, or_false] at hy
        rcases hy with rfl | rfl
        · refine ⟨l ++ [1], by simp, by simp, fun x hx => ?_, by omega⟩
          rcases List.mem_append.mp hx with hx | hx
          · exact lb x hx
          · rw [List.mem_singleton.mp hx]; decide
        · refine ⟨l ++ [1000 - r2], by simp, by simp, fun x hx => ?_, by omega⟩
          rcases List.mem_append.mp hx with hx | hx
          · exact lb x hx
          · rw [List.mem_singleton.mp hx]; omega
      · rintro acc m ⟨l, rfl, hl, lb, hm⟩
        rw [rngD_length] at hl hm
        refine owl_cat (by simp; omega) (wa_nil (cw_tupL ?_))
        -- the first part is not 0
        show WS K Z _ [.pen, .is (.int (N : Int)), .is (.int (k : Int)), .is (.lst ((pool N).map tI)), .is (tI ((997 - r1) :: l)), .is (.int way), .no, .no, .no] [] m _
        refine ws_asg (w_if (wt_test (w_op (w_ixS (xs := ((997 - r1) :: l).map DV.int) rfl (.inr rfl) atI_zero (w_int (ow_neI ⟨_, rfl, brN (fun h => ?_) (fun h => ?_)⟩))))))
        · refine w_var rfl ⟨(997 - r1) :: l, .no, rfl, rfl, ⟨by simp; omega, ⟨997 - r1, by simp, h⟩, fun x hx => ?_⟩, by omega⟩
          rcases List.mem_cons.mp hx with rfl | hx
          · omega
          · exact lb x hx
        · refine w_op (w_tup (wa_cons (w_int (wa_nil ⟨by simp, w_slT (w_var rfl ⟨_, rfl, wo_some (w_int ⟨1, rfl, wo_none ?_⟩)⟩)⟩))))
          rw [show (1 : Int) = ((1 : Nat) : Int) from rfl, cut_from (by simp)]
          refine ow_catT (by simp; omega) ⟨1 :: l, .no, by simp, rfl, ⟨by simp; omega, ⟨1, by simp, by decide⟩, fun x hx => ?_⟩, by omega⟩
          rcases List.mem_cons.mp hx with rfl | hx
          · decide
          · exact lb x hx
    · exact ws_next ⟨a, .no, rfl, rfl, aok, by omega⟩
  · rintro _ _ m ⟨a, x7, rfl, rfl, ⟨al, ⟨x0, hx0, hx0n⟩, ab⟩, hm⟩
    refine ws_seq (ws_asg (w_of_wl (wl_op (w_of_wl (wl_lst (wa_cons (w_op (w_callP rfl (wa_cons (w_int (wa_nil ⟨7, rfl, ⟨by decide, small (by decide)⟩, by omega, ?_⟩)))))))))))
    rintro _ ⟨r1, rfl, r0, r9⟩
    refine w_int (ow_minus (wa_nil ⟨by simp, ?_⟩))
    refine w_of_wl (wl_lc (sw_rng1 (wa_cons (w_var rfl (wa_nil ⟨_, rfl, by omega, by omega, ?_⟩)))))
    have ej : (k : Int).toNat = k := by omega
    rw [ej]
    refine ⟨by rw [rngD_length]; omega, fun i acc m => ∃ l : List Int, acc = l.map DV.int ∧ l.length = i ∧ (∀ x ∈ l, -4 ≤ x ∧ x ≤ 4) ∧ m ≤ n + 9 + i, ⟨[], rfl, rfl, fun x hx => (nomatch hx), by omega⟩, ?_, ?_⟩
    · rintro i y acc m hy ⟨l, rfl, rfl, lb, hm⟩
      obtain ⟨hi, rfl⟩ := rngD_get hy
      refine gw_name (by simp) (wt_yes ⟨fun _ => ?_, fun z => nomatch z⟩)
      refine w_pick rfl ?_
      repeat' first
        | walk_at "dl2"
        | walk_at "len"
      refine ⟨_, rfl, by simp, by simp, by omega, fun y hy => ?_⟩
      obtain ⟨w, rfl, w1, w2⟩ := offs hy
      refine ⟨l ++ [w], by simp, by simp, fun x hx => ?_, by omega⟩
      rcases List.mem_append.mp hx with hx | hx
      · exact lb x hx
      · rw [List.mem_singleton.mp hx]; exact ⟨w1, w2⟩
    · rintro acc m ⟨l, rfl, hl, lb, hm⟩
      rw [rngD_length] at hl hm
      refine owl_cat (by simp; omega) ?_
      refine ws_ret (w_tup (wa_cons (w_str (wa_cons (w_cb (wa_cons (w_of_wl (wl_lcF (α := Int) (sw_seq (w_var rfl ⟨_, .inr rfl, a, DV.int, fun x => .int (way * x), rfl, by omega, fun y _ => gw_name (by simp) (w_op (w_var rfl (w_var rfl (ow_timesI ?_ ⟨rfl, rfl⟩)))), wa_nil (cw_tupL ?_)⟩)))))))))) 
      · exact mul_okL (by rcases hw with rfl | rfl | rfl <;> decide) (by rcases hw with rfl | rfl | rfl <;> decide)
      · refine wa_cons (w_cb (wa_cons (w_var rfl (wa_nil (cw_tupL (wa_nil ⟨by simp, by omega, a.map (way * ·), (r1 - 3) :: l, ?_, ?_⟩))))))
        · show _ = DV.tup [.str "half", .tup ((a.map (way * ·)).map DV.int), .tup (((r1 - 3) :: l).map DV.int)]
          rw [List.map_map]
          rfl
        · refine ⟨by rw [List.length_map]; exact al, by simp; omega, ⟨way * x0, List.mem_map.mpr ⟨x0, hx0, rfl⟩, ?_⟩, fun x hx => ?_, fun x hx => ?_⟩
          · rcases hw with rfl | rfl | rfl <;> omega
          · obtain ⟨y, hy, rfl⟩ := List.mem_map.mp hx
            have := ab y hy
            rcases hw with rfl | rfl | rfl <;> constructor <;> omega
          · rcases List.mem_cons.mp hx with rfl | hx
            · omega
            · exact lb x hx
end
end K04
namespace K04
open PySem PySem.Spec PyProof.Rows L2 NdefX PySem.HandSPX PySem.DLx LamX StX DL
variable [Tn]
/-! walk: the law's plain shapes -/
abbrev HV : Type := List Int × List Int
def encH (h : HV) : DV := encT (.half h.1 h.2)
theorem HOk.le {n k : Nat} {w w' : Int} {a b : List Int} (h : HOk n k w a b) (hw : w ≤ w') : HOk n k w' a b := ⟨h.la, h.lb, h.nz, h.ba, fun x hx => by have := h.bb x hx; omega⟩
theorem HOk.neg {n k : Nat} {w : Int} {a b : List Int} (h : HOk n k w a b) : HOk n k w (a.map (- ·)) (b.map (- ·)) := by
  obtain ⟨x0, hx0, hx⟩ := h.nz
  refine ⟨by rw [List.length_map]; exact h.la, by rw [List.length_map]; exact h.lb, ⟨-x0, List.mem_map.mpr ⟨x0, hx0, rfl⟩, by omega⟩, fun x hx => ?_, fun x hx => ?_⟩
  · obtain ⟨y, hy, rfl⟩ := List.mem_map.mp hx
    have := h.ba y hy
    omega
  · obtain ⟨y, hy, rfl⟩ := List.mem_map.mp hx
    have := h.bb y hy
    omega
theorem runS_append : ∀ (l r : List St) (m : Int), runS m (l ++ r) = (runS m l).bind fun m' => runS m' r
  | [], r, m => rfl
  | s :: l, r, m => by
    rw [List.cons_append]
    simp only [runS]
    split
    · rfl
    · exact runS_append l r _
theorem tk_h : takes "half" = 0 := by decide +kernel
theorem tk_half (a b : List Int) : takes (St.hd (.half a b)) = 0 := by
  show takes "half" = 0
  decide +kernel
abbrev PW : List Str := ["and", "and", "or", "or", "less", "either"]
theorem pw_in {x : DV} (h : x ∈ PW.map DV.str) : ∃ w, x = .str w ∧ takes w = 2 ∧ wordS w = true := by
  obtain ⟨w, hw, rfl⟩ := List.mem_map.mp h
  refine ⟨w, rfl, ?_⟩
  have all : ∀ w ∈ PW, takes w = 2 ∧ wordS w = true := by decide +kernel
  exact all w hw
theorem aw_in {x : DV} (h : x ∈ ALONE.map DV.str) : ∃ w, x = .str w ∧ takes w = 1 ∧ wordS w = true := by
  obtain ⟨w, hw, rfl⟩ := List.mem_map.mp h
  refine ⟨w, rfl, ?_⟩
  have all : ∀ w ∈ ALONE, takes w = 1 ∧ wordS w = true := by decide +kernel
  exact all w hw
theorem tk_not : takes "not" = 1 ∧ wordS "not" = true := by decide +kernel
def tB_law_plain (K : Fg) (cs : Cs) (fin : TS) : TS :=
    (tSeq (tAsg (tLst (tCons (tCall (sp_law_half K cs) [] E0 (tCons (tVar 0) (tCons (tVar 1) (tCons (tVar 2) tNil)))) tNil)) (gName 4))
    (tSeq (tFor (iRng1 (tCons (tCall (sp_law_draw K cs) [] E0 (tCons (tVar 0) (tCons (tVar 3) tNil))) tNil)) (gName 5) (tSeq (tAsg (tCall (sp_law_pick K cs) [] E0 (tCons (tVar 0) (tCons (tVar 4) tNil))) (gTup K 3 (gCons (gName 6) (gCons (gName 7) (gCons (gName 8) gNil)))))
    (tSeq (tAsg (tCall (sp_law_draw K cs) [] E0 (tCons (tVar 0) (tCons (tC (.int 8)) tNil))) (gName 9))
    (tIfS (tTest (tOp (rEqA K) (tVar 9) (tC (.int 0)))) (tDrop (tBM K "list" rAppend (tVar 4) (tCons (tTup (tCons (tC (.str "half")) (tCons (tCB (rTupOf K) (tCons (tLc (iSeq K (tVar 7)) (gName 12) tYes (tUn (rU fun i => .int (-i)) (tVar 12)) [12]) tNil)) (tCons (tCB (rTupOf K) (tCons (tLc (iSeq K (tVar 8)) (gName 12) tYes (tUn (rU fun i => .int (-i)) (tVar 12)) [12]) tNil)) tNil)))) tNil))) (tIfS (tTest (tOp (rEqA K) (tVar 9) (tC (.int 1)))) (tDrop (tBM K "list" rAppend (tVar 4) (tCons (tTup (tCons (tC (.str "half")) (tCons (tVar 7) (tCons (tCB (rTupOf K) (tCons (tOp (rPlus K) (tLst (tCons (tOp (rPlus K) (tOp (rPlus K) (tOp (rIx K) (tVar 8) (tC (.int 0))) (tC (.int 1))) (tCall (sp_law_draw K cs) [] E0 (tCons (tVar 0) (tCons (tC (.int 3)) tNil)))) tNil)) (tCB (rListOf K) (tCons (tSl (rCut K) (tVar 8) (tPart (tC (.int 1))) tNoPart) tNil))) tNil)) tNil)))) tNil))) (tDrop (tBM K "list" rAppend (tVar 4) (tCons (tCall (sp_law_half K cs) [] E0 (tCons (tVar 0) (tCons (tVar 1) (tCons (tVar 2) tNil)))) tNil))))))))
    (tSeq (tAsg (tSl (rCut K) (tVar 4) tNoPart (tPart (tC (.int 1)))) (gName 10))
    (tSeq (tFor (iSeq K (tSl (rCut K) (tVar 4) (tPart (tC (.int 1))) tNoPart)) (gName 11) (tSeq (tAsg (tOp (rPlus K) (tOp (rPlus K) (tOp (rPlus K) (tVar 10) (tLst (tCons (tVar 11) tNil))) (tIf (tTest (tOp (rEqA K) (tCall (sp_law_draw K cs) [] E0 (tCons (tVar 0) (tCons (tC (.int 4)) tNil))) (tC (.int 0)))) (tLst (tCons (tTup (tCons (tC (.str "not")) tNil)) tNil)) (tLst tNil))) (tLst (tCons (tTup (tCons (tCall (sp_law_pick K cs) [] E0 (tCons (tVar 0) (tCons (tLst (tCons (tC (.str "and")) (tCons (tC (.str "and")) (tCons (tC (.str "or")) (tCons (tC (.str "or")) (tCons (tC (.str "less")) (tCons (tC (.str "either")) tNil))))))) tNil))) tNil)) tNil))) (gName 10))
    (tIfS (tTest (tOp (rEqA K) (tCall (sp_law_draw K cs) [] E0 (tCons (tVar 0) (tCons (tC (.int 4)) tNil))) (tC (.int 0)))) (tDrop (tBM K "list" rAppend (tVar 10) (tCons (tTup (tCons (tCall (sp_law_pick K cs) [] E0 (tCons (tVar 0) (tCons (tLst (tCons (tC (.str "not")) (tCons (tC (.str "closed")) (tCons (tC (.str "inside")) (tCons (tC (.str "skin")) (tCons (tC (.str "solid")) tNil)))))) tNil))) tNil)) tNil))) tNext)))
    fin))))
theorem tB_is (K : Fg) (cs : Cs) : t_law_plain K cs = tB_law_plain K cs (tRet (tDisp [((tC (.str "n")), (tVar 1)), ((tC (.str "k")), (tVar 2)), ((tC (.str "steps")), (tVar 10))])) := rfl
/-- what stands before the dict is made -/
abbrev EPl (n N k : Nat) : KE := { nx := fun _ _ _ => False, rt := fun _ _ _ => False, bk := fun Γ O m => m ≤ n + 110 ∧ ∃ d1 d2 d3, Γ[1]? = some (.is d1) ∧ Γ[2]? = some (.is d2) ∧ Γ[10]? = some (.is d3) ∧ ∃ l : List St, [d1, d2, d3] = [.int (N : Int), .int (k : Int), .lst (l.map encT)] ∧ Good N k l ∧ l.length ≤ 30 }
theorem ws_brkX {K : Fg} {Z : Xt} {Γ : List SA} {O : Own} {n : Nat} {E : KE} (q : E.bk Γ O n) : WS K Z (fun D σ H => D.bk σ H) Γ O n E := fun pn As H0 M H σ D S s => s.bk As M H σ Γ O n (List.prefix_refl _) (Evl.Ex.refl M) S q
section
variable {K : Fg} {cs : Cs}
theorem rd_law_plain (Z : Xt) (p : Nat × Nat) (n : Nat) (hp : 1 ≤ p.1 ∧ p.1 ≤ 3 ∧ p.2 ≤ 2) (hn : n + 110 ≤ 1000000) : WS K Z (tB_law_plain K cs fun D σ H => D.bk σ H) (slotsP N_law_plain [.int (p.1 : Int), .int (p.2 : Int), .int 6]) [] n (EPl n p.1 p.2) := by
  obtain ⟨N, k⟩ := p
  have hp : 1 ≤ N ∧ N ≤ 3 ∧ k ≤ 2 := hp
  show WS K Z (tB_law_plain K cs fun D σ H => D.bk σ H) [.pen, .is (.int (N : Int)), .is (.int (k : Int)), .is (.int 6), .no, .no, .no, .no, .no, .no, .no, .no, .no] [] n (EPl n N k)
  unfold tB_law_plain
  refine ws_seq (ws_asgOwn (wl_lst (wa_cons (w_callP rfl (wa_cons (w_var rfl (wa_cons (w_var rfl (wa_nil ⟨(N, k), rfl, hp, by omega, ?_⟩)))))))))
  rintro _ ⟨a, b, rfl, hab⟩
  refine wa_nil ⟨by simp, ?_⟩
  show WS K Z _ [.pen, .is (.int (N : Int)), .is (.int (k : Int)), .is (.int 6), .own 0, .no, .no, .no, .no, .no, .no, .no, .no] [some (.l [encT (.half a b)])] (n + 11) _
  refine ws_cut (fun Γ O m => ∃ (hs : List HV) (x5 x6 x7 x8 x9 x12 : SA), Γ = [.pen, .is (.int (N : Int)), .is (.int (k : Int)), .is (.int 6), .own 0, x5, x6, x7, x8, x9, .no, .no, x12] ∧ O = [some (.l (hs.map encH))] ∧ 1 ≤ hs.length ∧ hs.length ≤ 6 ∧ (∀ h ∈ hs, HOk N k 20 h.1 h.2) ∧ m ≤ n + 77) ?_ ?_
  · refine ws_for (vs := [5]) (sw_rng1 (wa_cons (w_callP rfl (wa_cons (w_var rfl (wa_nil ⟨6, rfl, ⟨by decide, small (by decide)⟩, by omega, ?_⟩))))))
    rintro _ ⟨r, rfl, r0, r5⟩
    refine wa_nil ⟨r, rfl, by omega, by omega, fun i Γ O m => ∃ (hs : List HV) (x5 x6 x7 x8 x9 x12 : SA), Γ = [.pen, .is (.int (N : Int)), .is (.int (k : Int)), .is (.int 6), .own 0, x5, x6, x7, x8, x9, .no, .no, x12] ∧ O = [some (.l (hs.map encH))] ∧ hs.length = i + 1 ∧ (∀ h ∈ hs, HOk N k (4 + 3 * (i : Int)) h.1 h.2) ∧ m ≤ n + 12 + 13 * i,
      ⟨[(a, b)], .no, .no, .no, .no, .no, .no, rfl, rfl, rfl, fun h hh => by rw [List.mem_singleton.mp hh]; exact hab.le (by omega), by omega⟩, ?_, ?_⟩
    · rintro i x _ _ m hx ⟨hs, x5, x6, x7, x8, x9, x12, rfl, rfl, hl, hb, hm⟩
      obtain ⟨hi, rfl⟩ := rngD_get hx
      have hi4 : i ≤ 4 := by omega
      have push : ∀ (c d : List Int), HOk N k (4 + 3 * ((i + 1 : Nat) : Int)) c d → ∀ (m' : Nat) (y5 y6 y7 y8 y9 y12 : SA), m' ≤ n + 12 + 13 * (i + 1) → ∃ (hs' : List HV) (z5 z6 z7 z8 z9 z12 : SA), [SA.pen, .is (.int (N : Int)), .is (.int (k : Int)), .is (.int 6), .own 0, y5, y6, y7, y8, y9, .no, .no, y12] = [SA.pen, .is (.int (N : Int)), .is (.int (k : Int)), .is (.int 6), .own 0, z5, z6, z7, z8, z9, .no, .no, z12] ∧
          [some (OV.l (hs.map encH ++ [encT (.half c d)]))] = [some (OV.l (hs'.map encH))] ∧ hs'.length = (i + 1) + 1 ∧ (∀ h ∈ hs', HOk N k (4 + 3 * ((i + 1 : Nat) : Int)) h.1 h.2) ∧ m' ≤ n + 12 + 13 * (i + 1) := fun c d ho m' y5 y6 y7 y8 y9 y12 hm' => by
        refine ⟨hs ++ [(c, d)], y5, y6, y7, y8, y9, y12, rfl, by simp [encH], by simp [hl], fun h hh => ?_, hm'⟩
        rcases List.mem_append.mp hh with hh | hh
        · exact (hb h hh).le (by omega)
        · rw [List.mem_singleton.mp hh]; exact ho
      refine gw_name (by simp) (ws_seq (ws_asgG (w_pickOwn rfl rfl rfl (fun z => by have e : (hs.map encH).length = 0 := (by rw [z]; rfl); rw [List.length_map] at e; omega) (by simp; omega) (by omega) fun y hy => ?_)))
      obtain ⟨⟨c, d⟩, hcd, rfl⟩ := List.mem_map.mp hy
      have ho : HOk N k (4 + 3 * (i : Int)) c d := hb _ hcd
      have lc : c.length = N := ho.la
      have ld : d.length = 1 + k := ho.lb
      refine xg_tup rfl (xgs_cons (xg_name (xgs_cons (xg_name (xgs_cons (xg_name (xgs_nil ?_)))))))
      show WS K Z _ [.pen, .is (.int (N : Int)), .is (.int (k : Int)), .is (.int 6), .own 0, .is (.int (0 + (i : Int))), .is (.str "half"), .is (tI c), .is (tI d), x9, .no, .no, x12] _ _ _
      refine ws_seq (ws_asg (w_callP rfl (wa_cons (w_int (wa_nil ⟨8, rfl, ⟨by decide, small (by decide)⟩, by omega, ?_⟩)))))
      rintro _ ⟨w, rfl, w0, w8⟩
      refine ws_if (wt_test (w_op (w_var rfl (w_int (ow_eqI ⟨_, rfl, br (fun _ => ?_) (fun _ => ?_)⟩)))))
      · -- turned about
        refine ws_append rfl rfl (by simp; omega) (w_tup (wa_cons (w_str (wa_cons (w_cb (wa_cons (w_of_wl (wl_lcF (α := Int) (sw_seq (w_var rfl ⟨_, .inr rfl, c, DV.int, fun x => .int (-x), rfl, by omega, fun y _ => gw_name (by simp) (w_un (w_var rfl (uw_neg ⟨rfl, rfl⟩))), wa_nil (cw_tupL ?_)⟩))))))))))
        refine wa_cons (w_cb (wa_cons (w_of_wl (wl_lcF (α := Int) (sw_seq (w_var rfl ⟨_, .inr rfl, d, DV.int, fun x => .int (-x), rfl, by omega, fun y _ => gw_name (by simp) (w_un (w_var rfl (uw_neg ⟨rfl, rfl⟩))), wa_nil (cw_tupL (wa_nil ⟨by simp, ?_⟩))⟩))))))
        have e : DV.tup [.str "half", .tup (c.map fun x => DV.int (-x)), .tup (d.map fun x => DV.int (-x))] = encT (.half (c.map (- ·)) (d.map (- ·))) := by
          show _ = DV.tup [.str "half", .tup ((c.map (- ·)).map DV.int), .tup ((d.map (- ·)).map DV.int)]
          rw [List.map_map, List.map_map]; rfl
        rw [e]
        exact push _ _ (ho.neg.le (by omega)) _ _ _ _ _ _ _ (by omega)
      · refine ws_if (wt_test (w_op (w_var rfl (w_int (ow_eqI ⟨_, rfl, br (fun _ => ?_) (fun _ => ?_)⟩)))))
        · -- moved
          obtain ⟨d0, dt, ed⟩ : ∃ d0 dt, d = d0 :: dt := by
            cases hd : d with
            | nil => rw [hd] at ld; simp at ld; omega
            | cons d0 dt => exact ⟨d0, dt, rfl⟩
          subst ed
          have ld : dt.length = k := by simp at ld; omega
          refine ws_append rfl rfl (by simp; omega) (w_tup (wa_cons (w_str (wa_cons (w_var rfl (wa_cons (w_cb (wa_cons (w_of_wl (wl_op (w_of_wl (wl_lst (wa_cons (w_op (w_op (w_ixS (xs := (d0 :: dt).map DV.int) rfl (.inr rfl) atI_zero (w_int (ow_plusI (w_callP rfl (wa_cons (w_int (wa_nil ⟨3, rfl, ⟨by decide, small (by decide)⟩, by omega, ?_⟩))))))))))))))))))))))
          rintro _ ⟨r1, rfl, r10, r13⟩
          refine ow_plusI (wa_nil ⟨by simp, w_of_wl (wl_cb (wa_cons (w_slT (w_var rfl ⟨_, rfl, wo_some (w_int ⟨1, rfl, wo_none ?_⟩)⟩))))⟩)
          rw [show (1 : Int) = ((1 : Nat) : Int) from rfl, cut_from (by simp)]
          refine wa_nil (cwl_listT (owl_cat (by simp; omega) (wa_nil (cw_tupL (wa_nil ⟨by simp, ?_⟩)))))
          have e : DV.tup [.str "half", tI c, .tup ([DV.int (d0 + ((1 : Nat) : Int) + r1)] ++ List.drop 1 (List.map DV.int (d0 :: dt)))] = encT (.half c ((d0 + 1 + r1) :: dt)) := rfl
          rw [e]
          refine push _ _ ⟨ho.la, by simp; omega, ho.nz, ho.ba, fun x hx => ?_⟩ _ _ _ _ _ _ _ (by omega)
          rcases List.mem_cons.mp hx with rfl | hx
          · have : -(4 + 3 * (i : Int)) ≤ d0 ∧ d0 ≤ 4 + 3 * (i : Int) := ho.bb d0 (by simp)
            omega
          · have : -(4 + 3 * (i : Int)) ≤ x ∧ x ≤ 4 + 3 * (i : Int) := ho.bb x (by simp [hx])
            omega
        · refine ws_append rfl rfl (by simp; omega) (w_callP rfl (wa_cons (w_var rfl (wa_cons (w_var rfl (wa_nil ⟨(N, k), rfl, hp, by omega, ?_⟩))))))
          rintro _ ⟨c', d', rfl, ho'⟩
          exact push _ _ (ho'.le (by omega)) _ _ _ _ _ _ _ (by omega)
    · rintro _ _ m ⟨hs, x5, x6, x7, x8, x9, x12, rfl, rfl, hl, hb, hm⟩
      rw [rngD_length] at hl hb hm
      exact ⟨hs, x5, x6, x7, x8, x9, x12, rfl, rfl, by omega, by omega, fun h hh => (hb h hh).le (by omega), by omega⟩
  · rintro _ _ m ⟨hs, x5, x6, x7, x8, x9, x12, rfl, rfl, h1, h5, hb, hm⟩
    obtain ⟨h0, ht, eh⟩ : ∃ h0 ht, hs = h0 :: ht := by
      cases hs with
      | nil => simp at h1
      | cons h0 ht => exact ⟨h0, ht, rfl⟩
    subst eh
    have lt : ht.length ≤ 5 := by simp at h5; omega
    refine ws_freeze (i := 4) (j := 0) rfl rfl ?_
    refine ws_seq (ws_asgOwn (wl_slL (w_var rfl ⟨_, rfl, wo_none (wo_some (w_int ⟨1, rfl, ?_⟩))⟩)))
    rw [show (1 : Int) = ((1 : Nat) : Int) from rfl, cut_to (by simp)]
    show WS K Z _ [.pen, .is (.int (N : Int)), .is (.int (k : Int)), .is (.int 6), .is (.lst ((h0 :: ht).map encH)), x5, x6, x7, x8, x9, .own 1, .no, x12] [none, some (.l [encH h0])] m _
    refine ws_seq (ws_for (vs := [11]) (sw_seq (w_of_wl (wl_slL (w_var rfl ⟨_, rfl, wo_some (w_int ⟨1, rfl, wo_none ?_⟩)⟩)))))
    rw [show (1 : Int) = ((1 : Nat) : Int) from rfl, cut_from (by simp)]
    refine ⟨ht.map encH, .inl rfl, fun i Γ O m' => ∃ (l : List St) (j : Nat) (x11 : SA), Γ = [.pen, .is (.int (N : Int)), .is (.int (k : Int)), .is (.int 6), .is (.lst ((h0 :: ht).map encH)), x5, x6, x7, x8, x9, .own j, x11, x12] ∧ O[j]? = some (some (.l (l.map encT))) ∧ (∀ s ∈ l, SOk N k s) ∧ runS 0 l = some 1 ∧ l.length ≤ 1 + 4 * i ∧ m' ≤ n + 77 + 4 * i,
      ⟨[.half h0.1 h0.2], 1, .no, rfl, rfl, fun s hs => by rw [List.mem_singleton.mp hs]; exact hb h0 (by simp), ?_, by simp, by omega⟩, ?_, ?_⟩
    · simp [runS, tk_half]
    · rintro i x _ O m' hx ⟨l, j, x11, rfl, hO, hs, hr, hl, hm'⟩
      rw [List.getElem?_map] at hx
      cases hi : ht[i]? with
      | none => rw [hi] at hx; cases hx
      | some h =>
      rw [hi] at hx
      cases hx
      have hlt : i < ht.length := (List.getElem?_eq_some_iff.mp hi).1
      have hh : HOk N k 20 h.1 h.2 := hb h (by simp [List.mem_of_getElem? hi])
      refine gw_name (by simp) (ws_seq (ws_freeze (i := 10) rfl hO ?_))
      show WS K Z _ [.pen, .is (.int (N : Int)), .is (.int (k : Int)), .is (.int 6), .is (.lst ((h0 :: ht).map encH)), x5, x6, x7, x8, x9, .is (.lst (l.map encT)), .is (encH h), x12] _ _ _
      -- what comes of it
      have fin : ∀ (mid : List St) (w : Str) (m2 : Nat) (O2 : Own), (mid = [] ∨ mid = [.word "not"]) → takes w = 2 → wordS w = true → m2 ≤ n + 77 + 4 * i + 2 → WS K Z (tIfS (tTest (tOp (rEqA K) (tCall (sp_law_draw K cs) [] E0 (tCons (tVar 0) (tCons (tC (.int 4)) tNil))) (tC (.int 0)))) (tDrop (tBM K "list" rAppend (tVar 10) (tCons (tTup (tCons (tCall (sp_law_pick K cs) [] E0 (tCons (tVar 0) (tCons (tLst (tCons (tC (.str "not")) (tCons (tC (.str "closed")) (tCons (tC (.str "inside")) (tCons (tC (.str "skin")) (tCons (tC (.str "solid")) tNil)))))) tNil))) tNil)) tNil))) tNext)
          [.pen, .is (.int (N : Int)), .is (.int (k : Int)), .is (.int 6), .is (.lst ((h0 :: ht).map encH)), x5, x6, x7, x8, x9, .own O2.length, .is (encH h), x12] (O2 ++ [some (.l ((l.map encT ++ [encH h] ++ mid.map encT) ++ [DV.tup [.str w]]))]) m2
          { nx := fun Γ O m' => ∃ (l : List St) (j : Nat) (x11 : SA), Γ = [.pen, .is (.int (N : Int)), .is (.int (k : Int)), .is (.int 6), .is (.lst ((h0 :: ht).map encH)), x5, x6, x7, x8, x9, .own j, x11, x12] ∧ O[j]? = some (some (.l (l.map encT))) ∧ (∀ s ∈ l, SOk N k s) ∧ runS 0 l = some 1 ∧ l.length ≤ 1 + 4 * (i + 1) ∧ m' ≤ n + 77 + 4 * (i + 1),
            ct := fun Γ O m' => ∃ (l : List St) (j : Nat) (x11 : SA), Γ = [.pen, .is (.int (N : Int)), .is (.int (k : Int)), .is (.int 6), .is (.lst ((h0 :: ht).map encH)), x5, x6, x7, x8, x9, .own j, x11, x12] ∧ O[j]? = some (some (.l (l.map encT))) ∧ (∀ s ∈ l, SOk N k s) ∧ runS 0 l = some 1 ∧ l.length ≤ 1 + 4 * (i + 1) ∧ m' ≤ n + 77 + 4 * (i + 1),
            bk := fun Γ1 O1 n1 => WS K Z (fun D σ H => D.bk σ H) Γ1 O1 n1 (EPl n N k),
            rt := fun _ _ _ => False } := fun mid w m2 O2 hmid tw ww hm2 => by
        let l2 : List St := l ++ [.half h.1 h.2] ++ mid ++ [.word w]
        have e2 : (l.map encT ++ [encH h] ++ mid.map encT) ++ [DV.tup [.str w]] = l2.map encT := by simp [l2, encH, encT]
        have s2 : ∀ s ∈ l2, SOk N k s := fun s hs2 => by
          simp only [l2, List.mem_append, List.mem_singleton] at hs2
          rcases hs2 with ((h1 | h1) | h1) | h1
          · exact hs s h1
          · rw [h1]; exact hh
          · rcases hmid with z | z
            · rw [z] at h1; cases h1
            · rw [z, List.mem_singleton] at h1; rw [h1]; exact tk_not.2
          · rw [h1]; exact ww
        have r2 : runS 0 l2 = some 1 := by
          simp only [l2]
          rw [runS_append, runS_append, runS_append, hr]
          rcases hmid with z | z
          · rw [z]; simp [runS, St.hd, tk_h, tw]
          · rw [z]; simp [runS, St.hd, tk_h, tw, tk_not.1]
        have len2 : l2.length ≤ 1 + 4 * i + 3 := by
          simp only [l2, List.length_append, List.length_singleton]
          rcases hmid with z | z <;> rw [z] <;> simp <;> omega
        rw [e2]
        refine ws_if (wt_test (w_op (w_callP rfl (wa_cons (w_int (wa_nil ⟨4, rfl, ⟨by decide, small (by decide)⟩, by omega, ?_⟩))))))
        rintro _ ⟨r, rfl, _, _⟩
        refine w_int (ow_eqI ⟨_, rfl, br (fun _ => ?_) (fun _ => ?_)⟩)
        · refine ws_append rfl own_last (by simp; omega) (w_tup (wa_cons (w_pick rfl ?_)))
          repeat' first
            | walk_at "dl2"
            | walk_at "len"
          refine ⟨ALONE.map DV.str, rfl, by simp, by simp, by omega, fun y hy => ?_⟩
          obtain ⟨v, rfl, tv, wv⟩ := aw_in hy
          refine wa_nil ⟨by simp, l2 ++ [.word v], O2.length, _, rfl, ?_, fun s hs3 => ?_, ?_, by simp; omega, by omega⟩
          · rw [own_set own_last]; simp [encT]
          · rcases List.mem_append.mp hs3 with h1 | h1
            · exact s2 s h1
            · rw [List.mem_singleton.mp h1]; exact wv
          · rw [runS_append, r2]; simp [runS, St.hd, tv]
        · exact ws_next ⟨l2, O2.length, _, rfl, own_last, s2, r2, by omega, by omega⟩
      have tail : ∀ (mid : List St) (m2 : Nat) (O2 : Own), (mid = [] ∨ mid = [.word "not"]) → m2 ≤ n + 77 + 4 * i + 1 → WL K Z (tLst (tCons (tTup (tCons (tCall (sp_law_pick K cs) [] E0 (tCons (tVar 0) (tCons (tLst (tCons (tC (.str "and")) (tCons (tC (.str "and")) (tCons (tC (.str "or")) (tCons (tC (.str "or")) (tCons (tC (.str "less")) (tCons (tC (.str "either")) tNil))))))) tNil))) tNil)) tNil))
          [.pen, .is (.int (N : Int)), .is (.int (k : Int)), .is (.int 6), .is (.lst ((h0 :: ht).map encH)), x5, x6, x7, x8, x9, .is (.lst (l.map encT)), .is (encH h), x12] O2 m2 fun ds m3 => ∃ w, ds = [DV.tup [.str w]] ∧ takes w = 2 ∧ wordS w = true ∧ m3 ≤ n + 77 + 4 * i + 2 := fun mid m2 O2 _ hm2 => by
        refine wl_lst (wa_cons (w_tup (wa_cons (w_pick rfl ?_))))
        repeat' first
          | walk_at "dl2"
          | walk_at "len"
        refine ⟨PW.map DV.str, rfl, by simp, by simp, by omega, fun y hy => ?_⟩
        obtain ⟨v, rfl, tv, wv⟩ := pw_in hy
        exact wa_nil ⟨by simp, wa_nil ⟨by simp, v, rfl, tv, wv, by omega⟩⟩
      have lm : (l.map encT).length ≤ 17 := by simp; omega
      refine ws_asgOwn (wl_op (w_of_wl (wl_op (w_of_wl (wl_op (w_var rfl (w_of_wl (wl_lst (wa_cons (w_var rfl (wa_nil ⟨by simp, owl_cat (by simp; omega) ?_⟩))))))))))) 
      refine w_if (wt_test (w_op (w_callP rfl (wa_cons (w_int (wa_nil ⟨4, rfl, ⟨by decide, small (by decide)⟩, by omega, ?_⟩))))))
      rintro _ ⟨r, rfl, _, _⟩
      refine w_int (ow_eqI ⟨_, rfl, br (fun _ => ?_) (fun _ => ?_)⟩)
      · refine w_of_wl (wl_lst (wa_cons (w_tup (wa_cons (w_str (wa_nil ⟨by simp, wa_nil ⟨by simp, owl_cat (by simp; omega) ?_⟩⟩))))))
        refine w_of_wl ((tail [.word "not"] _ _ (.inr rfl) (by omega)).mono fun ds m3 ⟨w, e, tw, ww, hm3⟩ => ?_)
        subst e
        exact owl_cat (by simp; omega) (fin [.word "not"] w _ _ (.inr rfl) tw ww hm3)
      · refine w_of_wl (wl_lst (wa_nil ⟨by simp, owl_cat (by simp; omega) ?_⟩))
        refine w_of_wl ((tail [] _ _ (.inl rfl) (by omega)).mono fun ds m3 ⟨w, e, tw, ww, hm3⟩ => ?_)
        subst e
        exact owl_cat (by simp; omega) (fin [] w _ _ (.inl rfl) tw ww hm3)
    · rintro _ O m' ⟨l, j, x11, rfl, hO, hs, hr, hl, hm'⟩
      rw [List.length_map] at hl hm'
      refine ws_freeze (i := 10) rfl hO ?_
      exact ws_brkX ⟨by omega, _, _, _, rfl, rfl, rfl, l, rfl, ⟨hs, hr⟩, by omega⟩
end
end K04
namespace K04
open PySem PySem.Spec PyProof.Rows L2 NdefX PySem.HandSPX PySem.DLx LamX StX DL
variable [Tn]
/-! the law's steps as data: what Shape makes of them, what repr shows -/
theorem headS_enc (s : St) : headS (encT s) = s.hd := by cases s <;> rfl
theorem headS_encL (s : St) : headS (encL s) = s.hd := by cases s <;> rfl
theorem fixS_encT (s : St) : fixS (encT s) = encT s := by cases s <;> rfl
theorem fixS_encL (s : St) : fixS (encL s) = encT s := by cases s <;> rfl
theorem fix_encT (l : List St) : (l.map encT).map fixS = l.map encT := by
  rw [List.map_map]
  exact List.map_congr_left fun s _ => fixS_encT s
theorem fix_encL (l : List St) : (l.map encL).map fixS = l.map encT := by
  rw [List.map_map]
  exact List.map_congr_left fun s _ => fixS_encL s
/-- whether a part is of one kind or another -/
theorem intsOk_of {d : DV} {l : List Int} {m b : Int} (hd : d = .tup (l.map DV.int) ∨ d = .lst (l.map DV.int)) (hl : (l.length : Int) = m) (hb : ∀ x ∈ l, -b ≤ x ∧ x ≤ b) : intsOk d m b = true := by
  have hs : seqOf d = l.map DV.int := by rcases hd with rfl | rfl <;> rfl
  have hli : listed d = true := by rcases hd with rfl | rfl <;> rfl
  unfold intsOk
  rw [hs, hli, List.length_map, hl]
  simp only [Bool.true_and, decide_true, List.all_eq_true, List.mem_map]
  rintro _ ⟨x, hx, rfl⟩
  have := hb x hx
  simp [within, this.1, this.2]
theorem any_of {d : DV} {l : List Int} (hd : d = .tup (l.map DV.int) ∨ d = .lst (l.map DV.int)) (h : ∃ x ∈ l, x ≠ 0) : (seqOf d).any (fun x => !decide (intOf x = 0)) = true := by
  have hs : seqOf d = l.map DV.int := by rcases hd with rfl | rfl <;> rfl
  obtain ⟨x, hx, h0⟩ := h
  rw [hs, List.any_eq_true]
  exact ⟨.int x, List.mem_map.mpr ⟨x, hx, rfl⟩, by simp [intOf, h0]⟩
theorem word_ok {d : DV} {s : Str} (hl : listed d = true) (hs : seqOf d = [.str s]) (h : wordS s = true) (n k : Int) : stepOk n k d = true := by
  have : wordOk d = true := by rw [wordOk_one hl hs]; exact h
  unfold stepOk
  rw [this, Bool.or_true]
theorem half_ok {d b c : DV} {N k : Nat} {a e : List Int} (hl : listed d = true) (hs : seqOf d = [.str "half", b, c]) (hb : b = .tup (a.map DV.int) ∨ b = .lst (a.map DV.int)) (hc : c = .tup (e.map DV.int) ∨ c = .lst (e.map DV.int)) (h : BOk N k a e) : stepOk N k d = true := by
  have : halfOk d N k = true := by
    rw [halfOk_one hl hs, intsOk_of hb (by rw [h.la]) (fun x hx => by have := h.ba x hx; unfold MI; omega), intsOk_of hc (by rw [h.lb]; omega) (fun x hx => by have := h.bb x hx; unfold MI; omega), any_of hb h.nz]
    decide +kernel
  unfold stepOk
  rw [this, Bool.true_or]
theorem ok_encT {N k : Nat} : ∀ {s : St}, TOk N k s → stepOk N k (encT s) = true
  | .half _ _, h => half_ok rfl rfl (.inl rfl) (.inl rfl) h
  | .word _, h => word_ok rfl rfl h _ _
theorem ok_encL {N k : Nat} : ∀ {s : St}, TOk N k s → stepOk N k (encL s) = true
  | .half _ _, h => half_ok rfl rfl (.inr rfl) (.inr rfl) h
  | .word _, h => word_ok rfl rfl h _ _
theorem go_enc {N k : Nat} {f : St → DV} (hh : ∀ s, headS (f s) = s.hd) (ho : ∀ s, TOk N k s → stepOk N k (f s) = true) : ∀ (l : List St) (m : Int), (∀ s ∈ l, TOk N k s) → goSteps N k m (l.map f) = decide (runS m l = some 1)
  | [], m, _ => by simp [goSteps, runS]
  | s :: l, m, h => by
    have ih := go_enc hh ho l (m + 1 - takes s.hd) fun x hx => h x (by simp [hx])
    simp only [List.map_cons, goSteps]
    rw [ho s (h s (by simp)), hh]
    by_cases hm : m < takes s.hd
    · rw [show runS m (s :: l) = none from if_pos hm]
      simp [hm]
    · rw [show runS m (s :: l) = runS (m + 1 - takes s.hd) l from if_neg hm, ← ih, show m - takes s.hd + 1 = m + 1 - takes s.hd by omega]
      simp [hm]
theorem shE_ok {N k : Nat} {s : DV} (h1 : 1 ≤ N) (h3 : N ≤ 3) (h2 : k ≤ 2) (hl : listed s = true) (h60 : (seqOf s).length ≤ 60) (hg : goSteps N k 0 (seqOf s) = true) : shE (.int N, .int k, s) = none := by
  have w1 : within (.int (N : Int)) 1 3 = true := by simp [within]; omega
  have w2 : within (.int (k : Int)) 0 2 = true := by simp [within]; omega
  have h60' : ¬ 60 < (seqOf s).length := by omega
  unfold shE
  simp only [w1, w2, hl]
  simp [h60', intOf, hg]
/-! what is good data -/
theorem gd_ints {l : List Int} (h : l.length ≤ 1000) : gdL (l.map DV.int) = true := gdL_all fun d hd => by
  obtain ⟨x, _, rfl⟩ := List.mem_map.mp hd
  rfl
theorem gd_tup {ds : List DV} (h : ds.length ≤ 1000) (hm : ∀ d ∈ ds, gd d = true) : gd (.tup ds) = true := by
  simp only [gd, Bool.and_eq_true, decide_eq_true_eq]; exact ⟨h, gdL_all hm⟩
theorem gd_lst {ds : List DV} (h : ds.length ≤ 1000) (hm : ∀ d ∈ ds, gd d = true) : gd (.lst ds) = true := by
  simp only [gd, Bool.and_eq_true, decide_eq_true_eq]; exact ⟨h, gdL_all hm⟩
theorem gd_tI {l : List Int} (h : l.length ≤ 1000) : gd (.tup (l.map DV.int)) = true := gd_tup (by simpa using h) fun d hd => by
  obtain ⟨x, _, rfl⟩ := List.mem_map.mp hd
  rfl
theorem gd_lI {l : List Int} (h : l.length ≤ 1000) : gd (.lst (l.map DV.int)) = true := gd_lst (by simpa using h) fun d hd => by
  obtain ⟨x, _, rfl⟩ := List.mem_map.mp hd
  rfl
theorem gd_3 {a b c : DV} (ha : gd a = true) (hb : gd b = true) (hc : gd c = true) : ∀ d ∈ [a, b, c], gd d = true := fun d hd => by
  simp only [List.mem_cons, List.not_mem_nil, or_false] at hd
  rcases hd with rfl | rfl | rfl <;> assumption
theorem gd_encT {N k : Nat} (hN : N ≤ 3) (hk : k ≤ 2) : ∀ {s : St}, TOk N k s → gd (encT s) = true
  | .half a b, h => gd_tup (by simp) (gd_3 rfl (gd_tI (by rw [h.la]; omega)) (gd_tI (by rw [h.lb]; omega)))
  | .word s, _ => by simp [encT, gd, gdL]
theorem gd_encL {N k : Nat} (hN : N ≤ 3) (hk : k ≤ 2) : ∀ {s : St}, TOk N k s → gd (encL s) = true
  | .half a b, h => gd_lst (by simp) (gd_3 rfl (gd_lI (by rw [h.la]; omega)) (gd_lI (by rw [h.lb]; omega)))
  | .word s, _ => by simp [encL, gd, gdL]
theorem gd_ls {N k : Nat} (hN : N ≤ 3) (hk : k ≤ 2) {l : List St} (hl : l.length ≤ 1000) (h : ∀ s ∈ l, TOk N k s) : gd (.lst (l.map encT)) = true := gd_lst (by simpa using hl) fun d hd => by
  obtain ⟨s, hs, rfl⟩ := List.mem_map.mp hd
  exact gd_encT hN hk (h s hs)
theorem gd_lsL {N k : Nat} (hN : N ≤ 3) (hk : k ≤ 2) {l : List St} (hl : l.length ≤ 1000) (h : ∀ s ∈ l, TOk N k s) : gd (.lst (l.map encL)) = true := gd_lst (by simpa using hl) fun d hd => by
  obtain ⟨s, hs, rfl⟩ := List.mem_map.mp hd
  exact gd_encL hN hk (h s hs)
theorem gd_tsT {N k : Nat} (hN : N ≤ 3) (hk : k ≤ 2) {l : List St} (hl : l.length ≤ 1000) (h : ∀ s ∈ l, TOk N k s) : gd (.tup (l.map encT)) = true := gd_tup (by simpa using hl) fun d hd => by
  obtain ⟨s, hs, rfl⟩ := List.mem_map.mp hd
  exact gd_encT hN hk (h s hs)
/-! shapes of the data, sizes -/
theorem pl_str {m : Nat} {s : Str} (h : (DL.py (.str s)).canLay0 = true) : Pl m (.str s) := ⟨rfl, h, by simp [DL.py, PyData.depth]⟩
abbrev WD : List Str := ENDS ++ ALONE ++ PAIRS ++ (["half"] : List Str)
theorem wd_of {s : Str} (h : wordS s = true) : s ∈ WD := by
  simp only [wordS, Bool.or_eq_true, decide_eq_true_eq] at h
  unfold WD
  simp only [List.mem_append]
  rcases h with h | h | h
  · exact .inl (.inl (.inl h))
  · exact .inl (.inl (.inr h))
  · exact .inl (.inr h)
theorem wd_lay : ∀ s ∈ WD, (DL.py (.str s)).canLay0 = true ∧ (DL.py (.str s)).showable = true ∧ (DL.py (.str s)).hasDict = false ∧ (DL.py (.str s)).leavesShort 300 = true ∧ (DL.py (.str s)).weight ≤ 80 := by decide +kernel
theorem pl_wd {m : Nat} {s : Str} (h : s ∈ WD) : Pl m (.str s) := pl_str (wd_lay s h).1
theorem sh_wd {s : Str} (h : s ∈ WD) : Sh 80 (.str s) := ⟨(wd_lay s h).2.1, (wd_lay s h).2.2.1, (wd_lay s h).2.2.2.1, (wd_lay s h).2.2.2.2⟩
theorem sh_small {i : Int} (h : i.natAbs < 2 ^ 20) : Sh 21 (.int i) := by
  have q := sh_int (i := i) (Nat.lt_of_lt_of_le h (by decide))
  refine ⟨q.sh, q.nd, q.lv, ?_⟩
  have hl : i.natAbs.log2 < 20 := by
    by_cases h0 : i.natAbs = 0
    · rw [h0]; decide
    · exact (Nat.log2_lt h0).mpr h
  simp only [DL.py, PyData.weight]
  split <;> omega
theorem sh_3 {w : Nat} {a b c : DV} (ha : Sh w a) (hb : Sh w b) (hc : Sh w c) : ∀ d ∈ [a, b, c], Sh w d := fun d hd => by
  simp only [List.mem_cons, List.not_mem_nil, or_false] at hd
  rcases hd with rfl | rfl | rfl <;> assumption
theorem pl_3 {m : Nat} {a b c : DV} (ha : Pl m a) (hb : Pl m b) (hc : Pl m c) : ∀ d ∈ [a, b, c], Pl m d := fun d hd => by
  simp only [List.mem_cons, List.not_mem_nil, or_false] at hd
  rcases hd with rfl | rfl | rfl <;> assumption
theorem half_in : ("half" : Str) ∈ WD := by decide +kernel
theorem pl_encT {N k : Nat} : ∀ {s : St}, TOk N k s → Pl 2 (encT s)
  | .half a b, h => pl_tup (pl_3 (pl_wd half_in) (pl_intsT _) (pl_intsT _))
  | .word s, h => pl_tup fun d hd => by rw [List.mem_singleton] at hd; subst hd; exact pl_wd (wd_of h)
theorem pl_encL {N k : Nat} : ∀ {s : St}, TOk N k s → Pl 2 (encL s)
  | .half a b, h => pl_lst (pl_3 (pl_wd half_in) (pl_ints _) (pl_ints _))
  | .word s, h => pl_lst fun d hd => by rw [List.mem_singleton] at hd; subst hd; exact pl_wd (wd_of h)
theorem sh_ints {l : List Int} (hl : l.length ≤ 3) (hb : ∀ x ∈ l, -1000000 ≤ x ∧ x ≤ 1000000) : Sh 80 (.tup (l.map DV.int)) ∧ Sh 80 (.lst (l.map DV.int)) := by
  have h : ∀ d ∈ l.map DV.int, Sh 21 d := fun d hd => by
    obtain ⟨x, hx, rfl⟩ := List.mem_map.mp hd
    have := hb x hx
    exact sh_small (by omega)
  exact ⟨(sh_tup h).le (by rw [List.length_map]; omega), (sh_lst h).le (by rw [List.length_map]; omega)⟩
theorem sh_encT {N k : Nat} (hN : N ≤ 3) (hk : k ≤ 2) : ∀ {s : St}, TOk N k s → Sh 300 (encT s)
  | .half a b, h => (sh_tup (sh_3 (sh_wd half_in) (sh_ints (by rw [h.la]; omega) h.ba).1 (sh_ints (by rw [h.lb]; omega) fun x hx => by have := h.bb x hx; omega).1)).le (by simp)
  | .word s, h => (sh_tup (w := 80) fun d hd => by rw [List.mem_singleton] at hd; subst hd; exact sh_wd (wd_of h)).le (by simp)
theorem sh_encL {N k : Nat} (hN : N ≤ 3) (hk : k ≤ 2) : ∀ {s : St}, TOk N k s → Sh 300 (encL s)
  | .half a b, h => (sh_lst (sh_3 (sh_wd half_in) (sh_ints (by rw [h.la]; omega) h.ba).2 (sh_ints (by rw [h.lb]; omega) fun x hx => by have := h.bb x hx; omega).2)).le (by simp)
  | .word s, h => (sh_lst (w := 80) fun d hd => by rw [List.mem_singleton] at hd; subst hd; exact sh_wd (wd_of h)).le (by simp)
mutual
theorem pyX_py : ∀ {d : DV}, isPy d = true → pyX d = DL.py d ∧ isX d = true
  | .non, _ => ⟨rfl, rfl⟩
  | .bl _, _ => ⟨rfl, rfl⟩
  | .int _, _ => ⟨rfl, rfl⟩
  | .str _, _ => ⟨rfl, rfl⟩
  | .tup ds, h => by
    obtain ⟨a, b⟩ := pyXL_py (ds := ds) (by simpa [isPy] using h)
    exact ⟨by simp only [pyX, DL.py, a], by simpa [isX] using b⟩
  | .lst ds, h => by
    obtain ⟨a, b⟩ := pyXL_py (ds := ds) (by simpa [isPy] using h)
    exact ⟨by simp only [pyX, DL.py, a], by simpa [isX] using b⟩
  | .ty _, h => by simp [isPy] at h
  | .adr _, h => by simp [isPy] at h
  | .ins _ _ _, h => by simp [isPy] at h
  | .dic _ _, h => by simp [isPy] at h
  | .exc _ _ _, h => by simp [isPy] at h
theorem pyXL_py : ∀ {ds : List DV}, isPyL ds = true → pyXL ds = pyL ds ∧ isXL ds = true
  | [], _ => ⟨rfl, rfl⟩
  | d :: ds, h => by
    have h' : isPy d = true ∧ isPyL ds = true := by simpa [isPyL] using h
    obtain ⟨a, b⟩ := pyX_py h'.1
    obtain ⟨a', b'⟩ := pyXL_py h'.2
    exact ⟨by simp only [pyXL, pyL, a, a'], by simp only [isXL, b, b', Bool.and_self]⟩
end
theorem shw_of {m w : Nat} {d : DV} (p : Pl m d) (h : Sh w d) (hm : m ≤ 60) (hw : w ≤ 50000) : Shw d := by
  obtain ⟨e, x⟩ := pyX_py p.py
  obtain ⟨a, _, c, f⟩ := showOk_of p h hm hw
  exact ⟨x, by rw [e]; exact a, by rw [e]; exact c, by rw [e]; exact f⟩
theorem pl_ls {N k : Nat} {l : List St} (h : ∀ s ∈ l, TOk N k s) : Pl 3 (.tup (l.map encT)) := pl_tup fun d hd => by
  obtain ⟨s, hs, rfl⟩ := List.mem_map.mp hd
  exact pl_encT (h s hs)
theorem shw_L {N k : Nat} (hN : N ≤ 3) (hk : k ≤ 2) {l : List St} (hl : l.length ≤ 30) (h : ∀ s ∈ l, TOk N k s) : Shw (.lst (l.map encL)) := by
  refine shw_of (pl_lst (m := 2) fun d hd => ?_) (sh_lst (w := 300) fun d hd => ?_) (by decide) (by rw [List.length_map]; omega)
  · obtain ⟨s, hs, rfl⟩ := List.mem_map.mp hd
    exact pl_encL (h s hs)
  · obtain ⟨s, hs, rfl⟩ := List.mem_map.mp hd
    exact sh_encL hN hk (h s hs)
theorem shw_3 {N k : Nat} (hN : N ≤ 3) (hk : k ≤ 2) {l : List St} (hl : l.length ≤ 30) (h : ∀ s ∈ l, TOk N k s) : Shw (.lst [.int (N : Int), .int (k : Int), .tup (l.map encT)]) := by
  refine shw_of (pl_lst (pl_3 (m := 3) (pl_int _) (pl_int _) (pl_ls h))) (sh_lst (w := 9500) (sh_3 ((sh_small (by omega)).le (by decide)) ((sh_small (by omega)).le (by decide)) ((sh_tup (w := 300) fun d hd => ?_).le (by rw [List.length_map]; omega)))) (by decide) (by simp)
  obtain ⟨s, hs, rfl⟩ := List.mem_map.mp hd
  exact sh_encT hN hk (h s hs)
theorem shp_key {N k : Nat} {l : List St} (h : ∀ s ∈ l, TOk N k s) (n k' : Int) : shp (key3 n k' (l.map encT)) = true :=
  (pl_tup (pl_3 (m := 3) (pl_int _) (pl_int _) (pl_ls h))).shp
theorem eqvAll_refl : ∀ {ds : List DV}, (∀ d ∈ ds, PyData.eqv (DL.py d) (DL.py d) = true) → PyData.eqvAll (pyL ds) (pyL ds) = true
  | [], _ => by simp [pyL, PyData.eqvAll]
  | d :: ds, h => by simp only [pyL, PyData.eqvAll, Bool.and_eq_true]; exact ⟨h d (by simp), eqvAll_refl fun x hx => h x (by simp [hx])⟩
theorem eqv_encT (s : St) : PyData.eqv (DL.py (encT s)) (DL.py (encT s)) = true := by
  have hi : ∀ l : List Int, PyData.eqv (DL.py (.tup (l.map DV.int))) (DL.py (.tup (l.map DV.int))) = true := fun l => (eqv_tup DV.int eqv_int l l).mpr rfl
  have hs : ∀ s : Str, PyData.eqv (DL.py (.str s)) (DL.py (.str s)) = true := fun s => by simp [DL.py, PyData.eqv]
  cases s with
  | half a b =>
    show PyData.eqvAll (pyL [.str "half", .tup (a.map DV.int), .tup (b.map DV.int)]) (pyL [.str "half", .tup (a.map DV.int), .tup (b.map DV.int)]) = true
    refine eqvAll_refl fun d hd => ?_
    simp only [List.mem_cons, List.not_mem_nil, or_false] at hd
    rcases hd with rfl | rfl | rfl
    · exact hs _
    · exact hi _
    · exact hi _
  | word w =>
    show PyData.eqvAll (pyL [.str w]) (pyL [.str w]) = true
    refine eqvAll_refl fun d hd => ?_
    rw [List.mem_singleton] at hd; subst hd; exact hs _
theorem eqv_key (n k : Int) (l : List St) : PyData.eqv (DL.py (key3 n k (l.map encT))) (DL.py (key3 n k (l.map encT))) = true := by
  show PyData.eqvAll (pyL [.int n, .int k, .tup (l.map encT)]) (pyL [.int n, .int k, .tup (l.map encT)]) = true
  refine eqvAll_refl fun d hd => ?_
  simp only [List.mem_cons, List.not_mem_nil, or_false] at hd
  rcases hd with rfl | rfl | rfl
  · exact (eqv_int _ _).mpr rfl
  · exact (eqv_int _ _).mpr rfl
  · show PyData.eqvAll (pyL (l.map encT)) (pyL (l.map encT)) = true
    refine eqvAll_refl fun d hd => ?_
    obtain ⟨s, _, rfl⟩ := List.mem_map.mp hd
    exact eqv_encT s
theorem eqvAll_len : ∀ {a b : List PyData}, PyData.eqvAll a b = true → a.length = b.length
  | [], [], _ => rfl
  | [], _ :: _, h => by simp [PyData.eqvAll] at h
  | _ :: _, [], h => by simp [PyData.eqvAll] at h
  | x :: a, y :: b, h => by
    simp only [PyData.eqvAll, Bool.and_eq_true] at h
    simp [eqvAll_len h.2]
theorem pyL_len : ∀ ds : List DV, (pyL ds).length = ds.length
  | [] => rfl
  | d :: ds => by simp [pyL, pyL_len ds]
theorem neqv_key (n k : Int) (l l' : List St) (h : l.length ≠ l'.length) : PyData.eqv (DL.py (key3 n k (l.map encT))) (DL.py (key3 n k (l'.map encT))) = false := by
  cases e : PyData.eqv (DL.py (key3 n k (l.map encT))) (DL.py (key3 n k (l'.map encT))) with
  | false => rfl
  | true =>
    exfalso
    have e1 : PyData.eqvAll (pyL [.int n, .int k, .tup (l.map encT)]) (pyL [.int n, .int k, .tup (l'.map encT)]) = true := e
    simp only [pyL, PyData.eqvAll, Bool.and_eq_true] at e1
    have e2 : PyData.eqvAll (pyL (l.map encT)) (pyL (l'.map encT)) = true := e1.2.2.1
    have := eqvAll_len e2
    rw [pyL_len, pyL_len, List.length_map, List.length_map] at this
    exact h this
section
variable {K : Fg} {cs : Cs} {Γ : List SA} {O : Own} {n : Nat}
theorem wa_mono {Z : Xt} {ta : TA} {k k' : List DV → Nat → Prop} (h : WA K Z ta Γ O n k) (hk : ∀ d n, k d n → k' d n) : WA K Z ta Γ O n k' := fun pn As H0 M H σ S Q c => h pn As H0 M H σ S Q fun vs M' H' ds n' e1 S1 r q => c vs M' H' ds n' e1 S1 r (hk ds n' q)
/-! what heard says -/
theorem rest_E (T : Fct K cs) {k : DV → Nat → Prop} {m : Nat} {e : Er} {C : Addr} {ns : List Str} {ds : List DV} (he : erX cs e = (C, ns, ds)) (q : k (erD e) m) : PySem.W.exmOne K (.ref C) (.ref cs.c_CutError) = some true ∧ WS K Z0 (t_law_heard_rest K cs) (.no :: .is (.exc C ns ds) :: .no :: List.replicate 0 .no) [] 0 { nx := fun _ _ _ => k .non m, rt := fun d _ _ => k d m } := by
  cases e with
  | va w =>
    cases he
    refine ⟨T.mV, ?_⟩
    show WS K Z0 (t_law_heard_rest K cs) [.no, .is (.exc cs.c_BadValue ["part"] [.str w]), .no] [] 0 _
    unfold t_law_heard_rest
    refine ws_seq (ws_if (wt_tru (w_cb (wa_cons (w_var rfl (wa_cons (w_adr (wa_nil (cw_isXC T.cV T.kVV (.inr (.inl ⟨true, rfl, brT ?_⟩)))))))))))
    exact ws_ret (w_tup (wa_cons (w_str (wa_cons (w_attE (w_var rfl ⟨_, _, _, .str w, rfl, T.xV, T.fV, rfl, wa_nil ⟨by simp, q⟩⟩))))))
  | sh w =>
    cases he
    refine ⟨T.mS, ?_⟩
    show WS K Z0 (t_law_heard_rest K cs) [.no, .is (.exc cs.c_BadShape ["part"] [.str w]), .no] [] 0 _
    unfold t_law_heard_rest
    refine ws_seq (ws_if (wt_tru (w_cb (wa_cons (w_var rfl (wa_cons (w_adr (wa_nil (cw_isXC T.cS T.kSV (.inr (.inl ⟨false, rfl, brF (ws_next ?_)⟩)))))))))))
    refine ws_seq (ws_if (wt_tru (w_cb (wa_cons (w_var rfl (wa_cons (w_adr (wa_nil (cw_isXC T.cS T.kSS (.inr (.inl ⟨true, rfl, brT ?_⟩)))))))))))
    exact ws_ret (w_tup (wa_cons (w_str (wa_cons (w_attE (w_var rfl ⟨_, _, _, .str w, rfl, T.xS, T.fS, rfl, wa_nil ⟨by simp, q⟩⟩))))))
  | ma =>
    cases he
    refine ⟨T.mT, ?_⟩
    show WS K Z0 (t_law_heard_rest K cs) [.no, .is (.exc cs.c_TooMany ["most", "what"] [.int 60, .str "steps"]), .no] [] 0 _
    unfold t_law_heard_rest
    refine ws_seq (ws_if (wt_tru (w_cb (wa_cons (w_var rfl (wa_cons (w_adr (wa_nil (cw_isXC T.cT T.kTV (.inr (.inl ⟨false, rfl, brF (ws_next ?_)⟩)))))))))))
    refine ws_seq (ws_if (wt_tru (w_cb (wa_cons (w_var rfl (wa_cons (w_adr (wa_nil (cw_isXC T.cT T.kTS (.inr (.inl ⟨false, rfl, brF (ws_next ?_)⟩)))))))))))
    exact ws_ret (w_if (wt_test (w_op (w_var rfl (w_non (ow_isN ⟨false, rfl, brF (w_tup (wa_cons (w_str (wa_nil ⟨by simp, q⟩))))⟩))))))
theorem rest_0 (T : Fct K cs) {k : DV → Nat → Prop} {m : Nat} (q : k .non m) : WS K Z0 (t_law_heard_rest K cs) (.no :: .is .non :: .no :: List.replicate 0 .no) [] 0 { nx := fun _ _ _ => k .non m, rt := fun d _ _ => k d m } := by
  show WS K Z0 (t_law_heard_rest K cs) [.no, .is .non, .no] [] 0 _
  unfold t_law_heard_rest
  refine ws_seq (ws_if (wt_tru (w_cb (wa_cons (w_var rfl (wa_cons (w_adr (wa_nil (cw_isDC (t := "NoneType") rfl T.k0V (.inr (.inl ⟨false, rfl, brF (ws_next ?_)⟩)))))))))))
  refine ws_seq (ws_if (wt_tru (w_cb (wa_cons (w_var rfl (wa_cons (w_adr (wa_nil (cw_isDC (t := "NoneType") rfl T.k0S (.inr (.inl ⟨false, rfl, brF (ws_next ?_)⟩)))))))))))
  exact ws_ret (w_if (wt_test (w_op (w_var rfl (w_non (ow_isN ⟨true, rfl, brT (w_non q)⟩))))))
/-- heard(lambda: ..) -/
theorem w_hd (T : Fct K cs) {Z : Xt} {t : XK → TE} {k : DV → Nat → Prop} (h : ∀ E : XK, W K ⟨E, fun C ns ds n1 => ∃ e, erX cs e = (C, ns, ds) ∧ k (erD e) n1⟩ (t E) (Γ.map noOwn) [] n fun _ n1 => k .non n1) : W K Z (tLamH (TTh K (.ref cs.c_CutError) (lamQ "law") N_law_heard (t_law_heard_rest K cs)) t) Γ O n k :=
  w_heard (mm := 0) (hN := rfl) (ker := fun C ns ds n1 => ∃ e, erX cs e = (C, ns, ds) ∧ k (erD e) n1) (fun E => (h E).mono fun _ _ q => rest_0 T q) fun C ns ds n1 ⟨e, he, q⟩ => rest_E T he q
theorem map_some {o : Option Er} {C : Addr} {ns : List Str} {ds : List DV} (h : o.map (erX cs) = some (C, ns, ds)) : ∃ e, o = some e ∧ erX cs e = (C, ns, ds) := by
  cases o with
  | none => cases h
  | some e => exact ⟨e, rfl, Option.some.inj h⟩
/-- heard(lambda: f(..)) -/
theorem w_hF (T : Fct K cs) {Z : Xt} {α : Type} {pre : α → Prop} {args : α → List DV} {res : α → DV → Prop} {Ef : α → Option Er} {ta : TA} {k : DV → Nat → Prop} (hres : ∀ a r, pre a → res a r → Ef a = none)
    (h : ∀ Z : Xt, WA K Z ta (Γ.map noOwn) [] n fun ds n1 => ∃ a, ds = args a ∧ pre a ∧ k (hearD (Ef a)) n1) : W K Z (tLamH (TTh K (.ref cs.c_CutError) (lamQ "law") N_law_heard (t_law_heard_rest K cs)) (fun E => tCall (spX K pre args res (fun a C ns ds => (Ef a).map (erX cs) = some (C, ns, ds))) [] E ta)) Γ O n k :=
  w_hd T fun E => w_callX (Z := ⟨E, fun C ns ds n1 => ∃ e, erX cs e = (C, ns, ds) ∧ k (erD e) n1⟩) (wa_mono (h _) fun ds n1 ⟨a, ea, hp, q⟩ => ⟨a, ea, hp, fun C ns es he => by
    obtain ⟨e, e1, e2⟩ := map_some he
    rw [e1] at q
    exact ⟨e, e2, q⟩, fun d hd => by
    rw [hres a d hp hd] at q
    exact q⟩)
/-- Shape(..) that is not refused -/
theorem w_mkS {E : XK} {ta : TA} {k : DV → Nat → Prop} (h : WA K ⟨E, fun _ _ _ _ => False⟩ ta Γ O n fun ds n1 => ∃ x : Arg3, ds = [x.1, x.2.1, x.2.2] ∧ gd x.1 = true ∧ gd x.2.1 = true ∧ gd x.2.2 = true ∧ shE x = none ∧ k (madeD cs.c_Shape x) n1) :
    W K ⟨E, fun _ _ _ _ => False⟩ (tMkI cs.c_Shape 3 0 (sp_Shape K cs) (perm (0 :: List.map (· + 1) [0, 1, 2])) E ta tNil) Γ O n k :=
  w_mkI (wa_mono h fun ds n1 ⟨x, e, g1, g2, g3, he, q⟩ => wa_nil ⟨by rw [e]; rfl, rfl, x, by rw [e]; rfl, ⟨g1, g2, g3⟩, fun D ns es h2 => (by rw [he] at h2; cases h2), fun ns ds ⟨_, h4, h5⟩ => by rw [h4, h5]; exact q⟩)
/-- Shape(..), whatever comes of it -/
theorem w_mkE {E : XK} {kx : Addr → List Str → List DV → Nat → Prop} {ta : TA} {k : DV → Nat → Prop} (h : WA K ⟨E, kx⟩ ta Γ O n fun ds n1 => ∃ x : Arg3, ds = [x.1, x.2.1, x.2.2] ∧ gd x.1 = true ∧ gd x.2.1 = true ∧ gd x.2.2 = true ∧ (∀ C ns es, (shE x).map (erX cs) = some (C, ns, es) → kx C ns es n1) ∧ (shE x = none → k (madeD cs.c_Shape x) n1)) :
    W K ⟨E, kx⟩ (tMkI cs.c_Shape 3 0 (sp_Shape K cs) (perm (0 :: List.map (· + 1) [0, 1, 2])) E ta tNil) Γ O n k :=
  w_mkI (wa_mono h fun ds n1 ⟨x, e, g1, g2, g3, he, q⟩ => wa_nil ⟨by rw [e]; rfl, rfl, x, by rw [e]; rfl, ⟨g1, g2, g3⟩, he, fun ns ds ⟨h3, h4, h5⟩ => by rw [h4, h5]; exact q h3⟩)
end
end K04
namespace K04
open PySem PySem.Spec PyProof.Rows L2 NdefX PySem.HandSPX PySem.DLx LamX StX DL
variable [Tn]
/-! own planes; half, planes_of, made -/
section
variable {K : Fg} {cs : Cs}
theorem rd_law_gcd (Z : Xt) (a : Int × Int) (hp : True) : WS K Z (t_law_gcd K cs) (slotsD N_law_gcd [.int a.1, .int a.2]) [] 0 (ED fun d => d = .int ((Nat.gcd a.1.natAbs a.2.natAbs : Nat) : Int)) := by
  obtain ⟨t, b⟩ := a
  show WS K Z (t_law_gcd K cs) [.is (.int t), .is (.int b)] [] 0 _
  unfold t_law_gcd
  have ea : ∀ i : Int, (if i < 0 then -i else i) = ((i.natAbs : Nat) : Int) := fun i => by split <;> omega
  refine ws_seq (ws_par ?_)
  walk_at "dl"
  refine ⟨_, _, rfl, ?_⟩
  rw [ea, ea]
  refine ws_seq (ws_while ⟨fun m Γ O n => ∃ x y : Nat, Γ = [.is (.int (x : Int)), .is (.int (y : Int))] ∧ O = [] ∧ m = y ∧ Nat.gcd x y = Nat.gcd t.natAbs b.natAbs, ⟨_, _, _, rfl, rfl, rfl, rfl⟩, ?_⟩)
  rintro m _ _ n ⟨x, y, rfl, rfl, rfl, hg⟩
  walk_at "dl"
  refine brN (fun h => ?_) (fun h => ?_)
  · have hy : m ≠ 0 := fun z => h (by omega)
    refine ws_par ?_
    walk_at "dl"
    refine ow_fmod (by omega) ?_
    walk_at "dl"
    refine ⟨_, _, rfl, x % m, Nat.mod_lt _ (by omega), m, x % m, ?_, rfl, rfl, ?_⟩
    · rw [Int.fmod_eq_emod_of_nonneg _ (by omega)]; rfl
    · rw [← hg, Nat.gcd_comm x m, Nat.gcd_rec m x, Nat.gcd_comm]
  · have hy : m = 0 := by omega
    subst hy
    refine ws_ret ?_
    walk_at "dl"
    show DV.int (x : Int) = _
    rw [← hg, Nat.gcd_zero_right]
theorem rd_law_sign (Z : Xt) (x : Int) (hp : x ≠ 0) : WS K Z (t_law_sign K cs) (slotsD N_law_sign [.int x]) [] 0 (ED fun d => d = .int (if 0 < x then 1 else -1)) := by
  show WS K Z (t_law_sign K cs) [.is (.int x)] [] 0 _
  unfold t_law_sign
  refine ws_ret ?_
  walk_at "dl"
  by_cases h : 0 < x
  · simp [h, show ¬ x < 0 by omega]
  · simp [h, show x < 0 by omega]
/-- the parts of a plane, over a number -/
theorem ret_plane (Z : Xt) {a b : List Int} {g : Int} {s : Int} {S : List Int} (x3 : SA) (la : a.length ≤ 300) (lb : b.length ≤ 300) (g0 : g ≠ 0) (gb : g.natAbs ≤ 1000000) (eS : (a.filter fun x => !decide (x = 0)) = s :: S) (eg : (if 0 < s then gF (a ++ b) else -gF (a ++ b)) = g) :
    WS K Z (tRet (tTup (tCons (tCB (rTupOf K) (tCons (tLc (iSeq K (tVar 0)) (gName 3) tYes (tOp rFdiv (tVar 3) (tVar 2)) [3]) tNil)) (tCons (tCB (rTupOf K) (tCons (tLc (iSeq K (tVar 1)) (gName 3) tYes (tOp rFdiv (tVar 3) (tVar 2)) [3]) tNil)) tNil))))
      [.is (.tup (a.map DV.int)), .is (.tup (b.map DV.int)), .is (.int g), x3] [] 0 (ED fun r => r = pkD (plF a b)) := by
  have g9 : g.natAbs < 2 ^ 9000 := nle (b := 9000) (show g.natAbs < 2 ^ 20 by omega) (by decide)
  refine ws_ret (w_tup (wa_cons (w_cb (wa_cons (w_of_wl (wl_lcF (α := Int) (sw_seq (w_var rfl ⟨a.map DV.int, .inr rfl, a, DV.int, fun x => .int (x.fdiv g), rfl, by omega, fun y _ => gw_name (by simp) (w_op (w_var rfl (w_var rfl (ow_fdiv g0 g9 ⟨rfl, rfl⟩)))), wa_nil (cw_tupL ?_)⟩)))))))) 
  refine wa_cons (w_cb (wa_cons (w_of_wl (wl_lcF (α := Int) (sw_seq (w_var rfl ⟨b.map DV.int, .inr rfl, b, DV.int, fun x => .int (x.fdiv g), rfl, by omega, fun y _ => gw_name (by simp) (w_op (w_var rfl (w_var rfl (ow_fdiv g0 g9 ⟨rfl, rfl⟩)))), wa_nil (cw_tupL (wa_nil ?_))⟩))))))
  refine ⟨by simp, ?_⟩
  unfold plF pkD
  rw [eS]
  show _ = DV.tup [.tup ((a.map fun x => x.fdiv (if 0 < s then gF (a ++ b) else -gF (a ++ b))).map DV.int), .tup ((b.map fun x => x.fdiv (if 0 < s then gF (a ++ b) else -gF (a ++ b))).map DV.int)]
  rw [eg, List.map_map, List.map_map]
  rfl
theorem rd_law_plane (Z : Xt) (p : (Nat × Nat) × List Int × List Int) (hp : p.1.1 ≤ 3 ∧ p.1.2 ≤ 2 ∧ BOk p.1.1 p.1.2 p.2.1 p.2.2) : WS K Z (t_law_plane K cs) (slotsD N_law_plane [.tup (p.2.1.map DV.int), .tup (p.2.2.map DV.int)]) [] 0 (ED fun r => r = pkD (plF p.2.1 p.2.2)) := by
  obtain ⟨⟨N, k⟩, a, b⟩ := p
  obtain ⟨hN, hk, B⟩ := hp
  have hN : N ≤ 3 := hN
  have hk : k ≤ 2 := hk
  have B : BOk N k a b := B
  have la : a.length ≤ 300 := by rw [B.la]; omega
  have lb : b.length ≤ 300 := by rw [B.lb]; omega
  obtain ⟨x, hx, x0⟩ := B.nz
  have hg := gF_le (l := a ++ b) (List.mem_append_left b hx) x0
  have hb := B.ba x hx
  show WS K Z (t_law_plane K cs) [.is (.tup (a.map DV.int)), .is (.tup (b.map DV.int)), .no, .no] [] 0 (ED fun r => r = pkD (plF a b))
  unfold t_law_plane
  refine ws_seq (ws_asg (w_int (ws_seq (ws_for (vs := [3]) (sw_seq (w_of_wl (wl_op (w_of_wl (wl_cb (wa_cons (w_var rfl (wa_nil (cwl_listT ?_))))))))))))) 
  refine w_of_wl (wl_cb (wa_cons (w_var rfl (wa_nil (cwl_listT (owl_cat (by simp; omega) ?_))))))
  refine ⟨(a ++ b).map DV.int, .inl (by rw [List.map_append]), fun i Γ O m => ∃ x3 : SA, Γ = [.is (.tup (a.map DV.int)), .is (.tup (b.map DV.int)), .is (.int (gF ((a ++ b).take i))), x3] ∧ O = [] ∧ m = 0, ⟨_, rfl, rfl, rfl⟩, ?_, ?_⟩
  · rintro i y _ _ m hy ⟨x3, rfl, rfl, rfl⟩
    rw [List.getElem?_map] at hy
    cases hi : (a ++ b)[i]? with
    | none => rw [hi] at hy; cases hy
    | some z =>
      rw [hi] at hy
      cases hy
      refine gw_name (by simp) (ws_asg (w_call (wa_cons (w_var rfl (wa_cons (w_var rfl (wa_nil ⟨(gF ((a ++ b).take i), z), rfl, True.intro, ?_⟩)))))))
      rintro _ rfl
      exact ⟨.is (.int z), by rw [gF_take hi]; rfl, rfl, rfl⟩
  rintro _ _ m ⟨x3, rfl, rfl, rfl⟩
  rw [List.length_map, List.take_length]
  let S := a.filter fun x => !decide (x = 0)
  obtain ⟨s, S', eS⟩ : ∃ s S', S = s :: S' := by
    cases e : S with
    | nil =>
      have : x ∈ S := List.mem_filter.mpr ⟨hx, by simp [x0]⟩
      rw [e] at this; cases this
    | cons s S' => exact ⟨s, S', rfl⟩
  have eS2 : (a.filter fun x => !decide (x = 0)) = s :: S' := eS
  have s0 : s ≠ 0 := by
    have h : s ∈ (a.filter fun x => !decide (x = 0)) := by rw [eS2]; simp
    simpa using (List.mem_filter.mp h).2
  refine ws_seq (ws_asg (w_op (w_var rfl (w_call (wa_cons (w_op (w_of_wl (wl_lc (sw_seq (w_var rfl ⟨a.map DV.int, .inr rfl, by simp; omega, fun i acc m => acc = ((a.take i).filter fun x => !decide (x = 0)).map DV.int ∧ m = 0, ⟨rfl, rfl⟩, ?_, ?_⟩)))))))))) 
  · rintro i y acc m hy ⟨rfl, rfl⟩
    rw [List.getElem?_map] at hy
    cases hi : a[i]? with
    | none => rw [hi] at hy; cases hy
    | some z =>
      rw [hi] at hy
      cases hy
      have et : a.take (i + 1) = a.take i ++ [z] := by rw [List.take_add_one, hi]; rfl
      refine gw_name (by simp) (wt_test (w_op (w_var rfl (w_int (ow_neI ⟨_, rfl, ?_⟩)))))
      refine ⟨fun h => w_var rfl ?_, fun h => ?_⟩
      · refine ⟨?_, rfl⟩
        rw [et, List.filter_append, List.map_append]
        simp [h]
      · refine ⟨?_, rfl⟩
        rw [et, List.filter_append, List.map_append]
        simp [h]
  · rintro acc m ⟨rfl, rfl⟩
    rw [List.length_map, List.take_length, eS2]
    refine w_int (ow_ixL (d := .int s) atI_zero (wa_nil ⟨s, rfl, s0, ?_⟩))
    rintro _ rfl
    refine ow_timesI (mul_okL (by omega) (by omega)) ?_
    refine ret_plane Z _ la lb ?_ ?_ eS2 ?_
    · split <;> omega
    · split <;> omega
    · split <;> omega
end
end K04
namespace K04
open PySem PySem.Spec PyProof.Rows L2 NdefX PySem.HandSPX PySem.DLx LamX StX DL
variable [Tn]
/-! half, planes_of, made, the planes of a plain -/
section
variable {K : Fg} {cs : Cs}
abbrev ZX (cs : Cs) (E : XK) (o : Option Er) : Xt := ⟨E, fun C ns ds _ => o.map (erX cs) = some (C, ns, ds)⟩
theorem kD_of (T : Fct K cs) {d : DV} (hd : gd d = true) : ∃ t, tyD d = some t ∧ PySem.W.kitOne K (.type t) (.ref cs.c_Shape) = some false := by
  obtain ⟨t, h, _⟩ := ty_gd hd
  refine ⟨t, h, T.kD t ?_⟩
  cases d <;> simp [gd] at hd <;> (cases h; decide)
theorem rd_need_shape (T : Fct K cs) (E : XK) (p : Ob × Str) (hp : okOb p.1) : WS K (ZX cs E (nsE p.2 p.1)) (t_need_shape K cs E) [.is (obD cs.c_Shape p.1), .is (.str p.2)] [] 0 (ED fun r => nsE p.2 p.1 = none ∧ r = .non) := by
  obtain ⟨x, w⟩ := p
  unfold t_need_shape
  cases x with
  | inl a =>
    refine ws_if (wt_not (wt_tru (w_cb (wa_cons (w_var rfl (wa_cons (w_adr (wa_nil (cw_isIC T.ins T.kS (.inr (.inl ⟨true, rfl, brF (ws_next ⟨rfl, rfl⟩)⟩)))))))))))
  | inr d =>
    obtain ⟨t, h1, h2⟩ := kD_of T hp
    refine ws_if (wt_not (wt_tru (w_cb (wa_cons (w_var rfl (wa_cons (w_adr (wa_nil (cw_isDC h1 h2 (.inr (.inl ⟨false, rfl, brT ?_⟩)))))))))))
    exact ws_raise (by decide) (wa_cons (w_var rfl (wa_nil ⟨rfl, rfl⟩)))
theorem rd_planes_of (T : Fct K cs) (E : XK) (p : Ob) (hp : okOb p) : WS K (ZX cs E (nsE "shape" p)) (t_planes_of K cs E) [.is (obD cs.c_Shape p)] [] 0 (ED fun r => ∃ a, p = .inl a ∧ r = a.2.2.2) := by
  unfold t_planes_of
  refine ws_seq (ws_drop (w_callXd (Z := ZX cs E (nsE "shape" p)) [.str "shape"] (fun M => .cons (.str _) .nil) (wa_cons (w_var rfl (wa_nil ⟨(p, "shape"), rfl, hp, fun C ns es he => he, ?_⟩)))))
  rintro _ ⟨h, rfl⟩
  cases p with
  | inl a => exact ws_ret (w_attI (w_var rfl ⟨_, _, _, a.2.2.2, rfl, T.cl, T.na "planes" (by simp), rfl, a, rfl, rfl⟩))
  | inr d => cases h
/-- the steps that are halves, their planes -/
theorem plS_enc (a b : List Int) : plS (encT (.half a b)) = plF a b := plS_of a b
theorem rd_law_planes (P : Program) (w : World) (Z : Xt) (p : (Nat × Nat) × List St) (hp : (1 ≤ p.1.1 ∧ p.1.1 ≤ 3 ∧ p.1.2 ≤ 2) ∧ GoodT p.1.1 p.1.2 p.2 ∧ p.2.length ≤ 30) : WS K Z (t_law_planes P w K cs) [.is (plainD p.1.1 p.1.2 p.2), .no] [] 0 (ED fun r => ∃ ds, r = .lst ds ∧ DV.tup ds = plD (p.2.map encT)) := by
  obtain ⟨⟨N, k⟩, l⟩ := p
  obtain ⟨⟨h1, h3, h2⟩, ⟨sok, run⟩, ll⟩ := hp
  have h3 : N ≤ 3 := h3
  have h2 : k ≤ 2 := h2
  have ll : l.length ≤ 30 := ll
  have sok : ∀ s ∈ l, TOk N k s := sok
  show WS K Z (t_law_planes P w K cs) [.is (plainD N k l), .no] [] 0 (ED fun r => ∃ ds, r = .lst ds ∧ DV.tup ds = plD (l.map encT))
  unfold t_law_planes
  refine ws_ret (w_of_wl (SetH.wl_srtSet (w_of_wl (wl_lc (sw_seq (w_dget (w_var rfl ⟨_, _, .lst (l.map encT), rfl, by rfl, l.map encT, .inl rfl, by simp; omega, fun i acc m => acc = ((((l.map encT).take i).filter isHalfS).map plS).map pkD ∧ m = 0, ⟨rfl, rfl⟩, ?_, ?_⟩)))))))
  · rintro i y acc m hy ⟨rfl, rfl⟩
    have et : (l.map encT).take (i + 1) = (l.map encT).take i ++ [y] := by rw [List.take_add_one, hy]; rfl
    rw [List.getElem?_map] at hy
    cases hi : l[i]? with
    | none => rw [hi] at hy; cases hy
    | some s =>
      rw [hi] at hy
      cases hy
      have hs := sok s (List.mem_of_getElem? hi)
      cases s with
      | half a b =>
        refine gw_name (by simp) (wt_test (w_op (w_ixS (xs := [.str "half", .tup (a.map DV.int), .tup (b.map DV.int)]) rfl (.inr rfl) atI_zero (w_str (ow_eqS ⟨_, rfl, ?_⟩)))))
        rw [show decide (("half" : Str) = "half") = true by simp]
        refine brT (w_call (wa_cons (w_ixS (xs := [.str "half", .tup (a.map DV.int), .tup (b.map DV.int)]) rfl (.inr rfl) rfl (wa_cons (w_ixS (xs := [.str "half", .tup (a.map DV.int), .tup (b.map DV.int)]) rfl (.inr rfl) rfl (wa_nil ⟨((N, k), a, b), rfl, ⟨h3, h2, hs⟩, ?_⟩))))))
        rintro _ rfl
        refine ⟨?_, rfl⟩
        rw [et, List.filter_append, List.map_append, List.map_append, ← plS_enc]
        have : isHalfS (encT (.half a b)) = true := by show decide (("half" : Str) = "half") = true; simp
        simp [this]
      | word v =>
        have hv : v ≠ "half" := no_half hs
        refine gw_name (by simp) (wt_test (w_op (w_ixS (xs := [.str v]) rfl (.inr rfl) atI_zero (w_str (ow_eqS ⟨_, rfl, ?_⟩)))))
        rw [show decide (v = "half") = false by simp [hv]]
        refine brF ⟨?_, rfl⟩
        have : isHalfS (encT (.word v)) = false := by show decide (v = "half") = false; simp [hv]
        rw [et, List.filter_append]
        simp [this]
  · rintro acc m ⟨rfl, rfl⟩
    rw [List.take_length]
    refine ⟨_, rfl, ?_, _, rfl, rfl⟩
    rw [List.length_map]
    exact Nat.lt_of_le_of_lt (List.length_filter_le _ _) (by simp; omega)
/-- whether a row is bad -/
theorem wt_row {Z : Xt} {Γ : List SA} {O : Own} {n : Nat} {i : Nat} {d : DV} {k : Bool → Nat → Prop} (hi : Γ[i]? = some (.is d)) (hg : gd d = true) (q : k (!rowOk d) n) :
    WT K Z (tOr (tNot (tTru K (tCall (sp_is_listed K cs) [] E0 (tCons (tVar i) tNil)))) (tOr (tNot (tTest (tChain rLe rLe (tC (.int 1)) (tCB (rLenA K) (tCons (tVar i) tNil)) (tC (.int 3))))) (tNot (tTru K (tCall (sp_are_integers K cs) [] E0 (tCons (tVar i) (tCons (tCB (rLenA K) (tCons (tVar i) tNil)) (tCons (tC (.int 1000000)) tNil)))))))) Γ O n k := by
  refine wt_or (wt_not (wt_tru (w_call (wa_cons (w_var hi (wa_nil ⟨d, rfl, hg, ?_⟩))))))
  rintro _ rfl
  refine .inr (.inl ⟨_, rfl, ?_⟩)
  refine brM (fun h => ?_) (fun h => ?_)
  · rw [show rowOk d = false by unfold rowOk; rw [h]; rfl] at q; exact q
  have hd := listed_is h
  refine wt_or (wt_not (wt_test (w_chain (w_int (w_lenS hi hd (ow_le ⟨_, rfl, fun h1 => ⟨_, rfl, ?_⟩, fun h1 => w_int (ow_le ⟨_, rfl, ?_⟩)⟩))))))
  · have e : rowOk d = false := by
      have z : ¬ (1 : Int) ≤ ((seqOf d).length : Int) := of_decide_eq_false h1
      unfold rowOk
      rw [h, decide_eq_false (show ¬ 1 ≤ (seqOf d).length by omega)]; rfl
    rw [e] at q
    exact brT q
  have l1 : 1 ≤ (seqOf d).length := by have := of_decide_eq_true h1; omega
  refine brM (fun h3 => ?_) (fun h3 => ?_)
  · have e : rowOk d = false := by
      have z : ¬ ((seqOf d).length : Int) ≤ 3 := of_decide_eq_false h3
      unfold rowOk
      rw [h, decide_eq_false (show ¬ (seqOf d).length ≤ 3 by omega)]; simp
    rw [e] at q
    exact q
  have l3 : (seqOf d).length ≤ 3 := by have := of_decide_eq_true h3; omega
  refine wt_not (wt_tru (w_call (wa_cons (w_var hi (wa_cons (w_lenS hi hd (wa_cons (w_int (wa_nil ⟨(d, ((seqOf d).length : Int), 1000000), rfl, hg, ?_⟩)))))))))
  rintro _ rfl
  refine .inr (.inl ⟨_, rfl, ?_⟩)
  have e : rowOk d = intsOk d (seqOf d).length 1000000 := by
    unfold rowOk MI
    rw [h, decide_eq_true l1, decide_eq_true l3]; rfl
  rw [e] at q
  exact q
/-- a row that is not -/
theorem row_form {d : DV} (h : rowOk d = true) : ∃ a : List Int, (d = .lst (a.map DV.int) ∨ d = .tup (a.map DV.int)) ∧ seqOf d = a.map DV.int ∧ 1 ≤ a.length ∧ a.length ≤ 3 ∧ ∀ x ∈ a, -1000000 ≤ x ∧ x ≤ 1000000 := by
  simp only [rowOk, Bool.and_eq_true, decide_eq_true_eq] at h
  obtain ⟨hl, ⟨h1, h3⟩, hi⟩ := h
  obtain ⟨_, _, hx⟩ := intsOk_is hi
  have e : seqOf d = ((seqOf d).map intOf).map DV.int := by
    rw [List.map_map]
    exact (List.map_id _).symm.trans (List.map_congr_left fun x hm => (hx x hm).1)
  refine ⟨(seqOf d).map intOf, ?_, e, by rw [List.length_map]; exact h1, by rw [List.length_map]; exact h3, fun x hm => ?_⟩
  · rw [← e]; exact listed_is hl
  · obtain ⟨y, hy, rfl⟩ := List.mem_map.mp hm
    exact ⟨(hx y hy).2.1, (hx y hy).2.2⟩
theorem row_ok {d : DV} {a : List Int} (hd : d = .lst (a.map DV.int) ∨ d = .tup (a.map DV.int)) (h1 : 1 ≤ a.length) (h3 : a.length ≤ 3) (hb : ∀ x ∈ a, -1000000 ≤ x ∧ x ≤ 1000000) : rowOk d = true := by
  have hs : seqOf d = a.map DV.int := by rcases hd with rfl | rfl <;> rfl
  have hl : listed d = true := by rcases hd with rfl | rfl <;> rfl
  have hi : intsOk d (seqOf d).length MI = true := intsOk_of hd.symm (by rw [hs, List.length_map]) hb
  simp only [rowOk, Bool.and_eq_true, decide_eq_true_eq]
  exact ⟨hl, ⟨by rw [hs, List.length_map]; exact h1, by rw [hs, List.length_map]; exact h3⟩, hi⟩
/-- a half by hand that is not refused -/
theorem hf_form {n o : DV} (h : hfE n o = none) : ∃ a b : List Int, (n = .lst (a.map DV.int) ∨ n = .tup (a.map DV.int)) ∧ (o = .lst (b.map DV.int) ∨ o = .tup (b.map DV.int)) ∧ seqOf n = a.map DV.int ∧ seqOf o = b.map DV.int ∧ 1 ≤ a.length ∧ a.length ≤ 3 ∧ 1 ≤ b.length ∧ b.length ≤ 3 ∧ BOk a.length (b.length - 1) a b := by
  unfold hfE at h
  split at h
  · cases h
  rename_i r1
  split at h
  · cases h
  rename_i r2
  split at h
  · cases h
  rename_i r3
  obtain ⟨a, a1, a2, a3, a4, a5⟩ := row_form (by simpa using r1)
  obtain ⟨b, b1, b2, b3, b4, b5⟩ := row_form (by simpa using r3)
  refine ⟨a, b, a1, b1, a2, b2, a3, a4, b3, b4, rfl, by omega, ?_, a5, b5⟩
  rw [a2] at r2
  have r4 : ((a.map DV.int).any fun x => !decide (intOf x = 0)) = true := by
    cases hh : ((a.map DV.int).any fun x => !decide (intOf x = 0)) with
    | true => rfl
    | false => exact absurd hh r2
  obtain ⟨y, hy, h0⟩ := List.any_eq_true.mp r4
  obtain ⟨x, hx, rfl⟩ := List.mem_map.mp hy
  exact ⟨x, hx, fun z => by subst z; exact absurd h0 (by decide)⟩
theorem hf_ok {n o : DV} {N k : Nat} {a b : List Int} (hn : n = .lst (a.map DV.int) ∨ n = .tup (a.map DV.int)) (ho : o = .lst (b.map DV.int) ∨ o = .tup (b.map DV.int)) (h1 : 1 ≤ N) (h3 : N ≤ 3) (h2 : k ≤ 2) (B : BOk N k a b) : hfE n o = none := by
  have r1 := row_ok hn (by rw [B.la]; exact h1) (by rw [B.la]; exact h3) B.ba
  have r3 := row_ok ho (by rw [B.lb]; omega) (by rw [B.lb]; omega) B.bb
  have r2 : ((seqOf n).any fun x => !decide (intOf x = 0)) = true := any_of hn.symm B.nz
  unfold hfE
  rw [r1, r2, r3]
  rfl
/-- which shape it is -/
theorem hf_made {n o : DV} {N k : Nat} {a b : List Int} (hn : n = .lst (a.map DV.int) ∨ n = .tup (a.map DV.int)) (ho : o = .lst (b.map DV.int) ∨ o = .tup (b.map DV.int)) (B : BOk N k a b) (C : Addr) : madeD C (hfX n o) = insD C (N, k, [encT (.half a b)], plD [encT (.half a b)]) := by
  have sn : seqOf n = a.map DV.int := by rcases hn with rfl | rfl <;> rfl
  have so : seqOf o = b.map DV.int := by rcases ho with rfl | rfl <;> rfl
  have ef : fixS (.tup [.str "half", n, o]) = encT (.half a b) := by
    show DV.tup [_, fixPart n, fixPart o] = _
    have f1 : fixPart n = .tup (a.map DV.int) := by rcases hn with rfl | rfl <;> rfl
    have f2 : fixPart o = .tup (b.map DV.int) := by rcases ho with rfl | rfl <;> rfl
    rw [f1, f2]; rfl
  unfold madeD shF hfX insD
  show DV.ins C FLD [.int ((seqOf n).length : Int), .int (((seqOf o).length : Int) - 1), .tup [fixS (.tup [.str "half", n, o])], plD [fixS (.tup [.str "half", n, o])]] = _
  rw [ef, sn, so, List.length_map, List.length_map, B.la, B.lb]
  rw [show (((1 + k : Nat) : Int) - 1) = (k : Int) by omega]
theorem hf_sh {n o : DV} (h : hfE n o = none) : shE (hfX n o) = none := by
  obtain ⟨a, b, hn, ho, sn, so, a1, a3, b1, b3, B⟩ := hf_form h
  have e : hfX n o = (.int ((a.length : Nat) : Int), .int ((b.length - 1 : Nat) : Int), .lst [.tup [.str "half", n, o]]) := by
    unfold hfX
    rw [sn, so, List.length_map, List.length_map, show ((b.length : Int) - 1) = ((b.length - 1 : Nat) : Int) by omega]
  rw [e]
  refine shE_ok a1 a3 (by omega) rfl (by simp [seqOf]) ?_
  have so := half_ok (d := .tup [.str "half", n, o]) rfl rfl hn.symm ho.symm B
  show goSteps a.length (b.length - 1 : Nat) 0 [.tup [.str "half", n, o]] = true
  have hh : headS (.tup [.str "half", n, o]) = "half" := rfl
  simp [goSteps, so, hh, tk_h]
theorem rd_half (T : Fct K cs) (E : XK) (p : DV × DV) (hp : gd p.1 = true ∧ gd p.2 = true) : WS K (ZX cs E (hfE p.1 p.2)) (t_half K cs E) [.is p.1, .is p.2, .no] [] 0 (ED fun r => hfE p.1 p.2 = none ∧ r = madeD cs.c_Shape (hfX p.1 p.2)) := by
  obtain ⟨nn, oo⟩ := p
  obtain ⟨g1, g2⟩ := hp
  have g1 : gd nn = true := g1
  have g2 : gd oo = true := g2
  show WS K (ZX cs E (hfE nn oo)) (t_half K cs E) [.is nn, .is oo, .no] [] 0 (ED fun r => hfE nn oo = none ∧ r = madeD cs.c_Shape (hfX nn oo))
  unfold t_half
  refine ws_seq (ws_if (wt_row rfl g1 ?_))
  refine brM (fun h1 => ?_) (fun h1 => ws_next ?_)
  · exact ws_raise (by decide) (wa_cons (w_str (wa_nil ⟨rfl, by simp [hfE, h1, erX]⟩)))
  obtain ⟨a, hn, sn, a1, a3, ab⟩ := row_form h1
  refine ws_seq (ws_if (wt_not (wt_tru (w_cb (wa_cons (w_of_wl (wl_lcF (α := Int) (sw_seq (w_var rfl ⟨a.map DV.int, hn, a, DV.int, fun x => .bl (!decide (x = 0)), rfl, by omega, fun y _ => gw_name (by simp) (w_op (w_var rfl (w_int (ow_neI ⟨rfl, rfl⟩)))), ?_⟩)))))))))
  rw [show a.map (fun x => DV.bl (!decide (x = 0))) = (a.map fun x => !decide (x = 0)).map DV.bl by rw [List.map_map]; rfl]
  refine wa_nil (cw_any (.inr (.inl ⟨_, rfl, ?_⟩)))
  have ea : ((a.map fun x => !decide (x = 0)).any id) = ((seqOf nn).any fun x => !decide (intOf x = 0)) := by
    rw [sn, List.any_map, List.any_map]; rfl
  rw [ea]
  refine brM (fun h2 => ?_) (fun h2 => ws_next ?_)
  · exact ws_raise (by decide) (wa_cons (w_str (wa_nil ⟨rfl, by simp [hfE, h1, h2, erX]⟩)))
  refine ws_seq (ws_if (wt_row rfl g2 ?_))
  refine brM (fun h3 => ?_) (fun h3 => ws_next ?_)
  · exact ws_raise (by decide) (wa_cons (w_str (wa_nil ⟨rfl, by simp [hfE, h1, h2, h3, erX]⟩)))
  obtain ⟨b, ho, so, b1, b3, bb⟩ := row_form h3
  have hf : hfE nn oo = none := by unfold hfE; rw [h1, h2, h3]; rfl
  refine ws_ret (w_mkE (wa_cons (w_lenS rfl hn (wa_cons (w_op (w_lenS rfl ho (w_int (ow_minus (wa_cons (w_of_wl (wl_lst (wa_cons (w_tup (wa_cons (w_str (wa_cons (w_var rfl (wa_cons (w_var rfl (wa_nil ⟨by simp, wa_nil ⟨by simp, ?_⟩⟩))))))))))))))))))))
  refine wa_nil ⟨hfX nn oo, ?_, rfl, rfl, ?_, fun C ns es he => ?_, fun _ => ⟨hf, rfl⟩⟩
  · unfold hfX
    rw [sn, so]
  · refine gd_lst (by simp) ?_
    intro d hd
    rw [List.mem_singleton.mp hd]
    exact gd_tup (by simp) (gd_3 rfl g1 g2)
  · rw [hf_sh hf] at he; cases he
theorem rd_law_made (Z : Xt) (p : (Nat × Nat) × List St) (hp : (1 ≤ p.1.1 ∧ p.1.1 ≤ 3 ∧ p.1.2 ≤ 2) ∧ GoodT p.1.1 p.1.2 p.2 ∧ p.2.length ≤ 30) : WS K Z (t_law_made K cs) [.is (plainD p.1.1 p.1.2 p.2)] [] 0 (ED fun r => r = insD cs.c_Shape (p.1.1, p.1.2, p.2.map encT, plD (p.2.map encT))) := by
  obtain ⟨⟨N, k⟩, l⟩ := p
  obtain ⟨⟨h1, h3, h2⟩, ⟨sok, run⟩, ll⟩ := hp
  have h1 : 1 ≤ N := h1
  have h3 : N ≤ 3 := h3
  have h2 : k ≤ 2 := h2
  have ll : l.length ≤ 30 := ll
  show WS K Z (t_law_made K cs) [.is (plainD N k l)] [] 0 (ED fun r => r = insD cs.c_Shape (N, k, l.map encT, plD (l.map encT)))
  unfold t_law_made
  have se : shE (.int (N : Int), .int (k : Int), .lst (l.map encT)) = none := shE_ok h1 h3 h2 rfl (by simp [seqOf]; omega) (by show goSteps N k 0 (l.map encT) = true; rw [go_enc headS_enc (fun _ => ok_encT) l 0 sok, run]; rfl)
  refine ws_ret (w_mkI0 (wa_cons (w_dget (w_var rfl ⟨_, _, .int (N : Int), rfl, by rfl, ?_⟩))))
  refine wa_cons (w_dget (w_var rfl ⟨_, _, .int (k : Int), rfl, by rfl, ?_⟩))
  refine wa_cons (w_dget (w_var rfl ⟨_, _, .lst (l.map encT), rfl, by rfl, wa_nil (wa_nil ⟨rfl, rfl, (.int (N : Int), .int (k : Int), .lst (l.map encT)), rfl, ⟨rfl, rfl, gd_ls h3 h2 (by omega) sok⟩, fun D ns es he => ?_, fun ns ds ⟨_, e2, e3⟩ => ?_⟩)⟩))
  · rw [se] at he; cases he
  · rw [e2, e3]
    show DV.ins cs.c_Shape FLD [_, _, .tup ((l.map encT).map fixS), plD ((l.map encT).map fixS)] = _
    rw [fix_encT]; rfl
end
end K04
namespace K04
open PySem PySem.Spec PyProof.Rows L2 NdefX PySem.HandSPX PySem.DLx LamX StX DL
variable [Tn]
/-! the law in pieces -/
def t_ask (K : Fg) (cs : Cs) : TS :=
    (tIfS (tTest (tOp (rNeO K cs.f_eq (sp_eq K cs)) (tLst (tCons (tLamH (TTh K (.ref cs.c_CutError) (lamQ "law") N_law_heard (t_law_heard_rest K cs)) (fun E => (tCall (sp_half K cs) [] E (tCons (tVar 14) (tCons (tVar 15) tNil))))) (tCons (fun σ H Q => (tC (.int 0)) σ H fun _ H1 => (tLamH (TTh K (.ref cs.c_CutError) (lamQ "law") N_law_heard (t_law_heard_rest K cs)) (fun E => (tCall (sp_half K cs) [] E (tCons (tVar 10) (tCons (tVar 15) tNil))))) σ H1 Q) (tCons (fun σ H Q => (tC (.int 0)) σ H fun _ H1 => (tLamH (TTh K (.ref cs.c_CutError) (lamQ "law") N_law_heard (t_law_heard_rest K cs)) (fun E => (tCall (sp_planes_of K cs) [] E (tCons (tCall (sp_law_pick K cs) [] E0 (tCons (tVar 1) (tCons (tLst (tCons (tC .non) (tCons (tC (.int 5)) (tCons (tAtt K (tVar 7) "planes") (tCons (tAtt K (tVar 7) "steps") tNil))))) tNil))) tNil)))) σ H1 Q) tNil)))) (tLst (tCons (tTup (tCons (tC (.str "value")) (tCons (tC (.str "normal")) tNil))) (tCons (tTup (tCons (tC (.str "value")) (tCons (tC (.str "offset")) tNil))) (tCons (tTup (tCons (tC (.str "shape")) (tCons (tC (.str "shape")) tNil))) tNil)))))) (tRet (tC (.bl false))) tNext)
def t_bads (K : Fg) (cs : Cs) : TS :=
    (tSeq (tAsg (tCall (sp_law_pick K cs) [] E0 (tCons (tVar 1) (tCons (tLst (tCons (tC .non) (tCons (tC (.int 5)) (tCons (tLst tNil) (tCons (tOp (rTimes K) (tLst (tCons (tC (.int 0)) tNil)) (tVar 3)) (tCons (tOp (rTimes K) (tLst (tCons (tC (.int 1)) tNil)) (tC (.int 4))) (tCons (tOp (rTimes K) (tLst (tCons (tC (.bl true)) tNil)) (tVar 3)) (tCons (tLst (tCons (tC (.str "1")) tNil)) (tCons (tLst (tCons (tOp (rPlus K) (tOp rPow (tC (.int 10)) (tC (.int 6))) (tC (.int 1))) tNil)) (tCons tDNewK tNil)))))))))) tNil))) (gName 14))
    (tSeq (tAsg (tCall (sp_law_pick K cs) [] E0 (tCons (tVar 1) (tCons (tLst (tCons (tC .non) (tCons (tC (.int 5)) (tCons (tLst tNil) (tCons (tOp (rTimes K) (tLst (tCons (tC (.int 0)) tNil)) (tC (.int 4))) (tCons (tLst (tCons (tC (.bl true)) tNil)) (tCons (tLst (tCons (tC .non) tNil)) (tCons (tLst (tCons (tOp rMinus (tUn (rU fun i => .int (-i)) (tOp rPow (tC (.int 10)) (tC (.int 6)))) (tC (.int 1))) tNil)) (tCons (tC (.str "0")) tNil))))))))) tNil))) (gName 15))
    (t_ask K cs)))
def t_less (K : Fg) (cs : Cs) : TS :=
    (tSeq (tAsg (tCall (sp_half K cs) [] E0 (tCons (tLc (iSeq K (tVar 10)) (gName 17) tYes (tUn (rU fun i => .int (-i)) (tVar 17)) [17]) (tCons (tLc (iSeq K (tVar 11)) (gName 17) tYes (tUn (rU fun i => .int (-i)) (tVar 17)) [17]) tNil))) (gName 13))
    (tSeq (tIfS (tOr (tTest (tOp (rNeO K cs.f_eq (sp_eq K cs)) (tAtt K (tVar 13) "planes") (tAtt K (tVar 12) "planes"))) (tOr (tTest (tOp (rEqO K cs.f_eq (sp_eq K cs)) (tVar 13) (tVar 12))) (tTest (tOp (rNeO K cs.f_eq (sp_eq K cs)) (tAtt K (tCall (sp_half K cs) [] E0 (tCons (tLc (iSeq K (tVar 10)) (gName 17) tYes (tOp (rTimes K) (tC (.int 2)) (tVar 17)) [17]) (tCons (tLc (iSeq K (tVar 11)) (gName 17) tYes (tOp (rTimes K) (tC (.int 2)) (tVar 17)) [17]) tNil))) "planes") (tAtt K (tVar 12) "planes"))))) (tRet (tC (.bl false))) tNext)
    (t_bads K cs)))
def t_one (K : Fg) (cs : Cs) : TS :=
    (tSeq (tAsg (tCall (sp_law_half K cs) [] E0 (tCons (tVar 1) (tCons (tVar 3) (tCons (tVar 4) tNil)))) (gTup K 3 (gCons (gName 9) (gCons (gName 10) (gCons (gName 11) gNil)))))
    (tSeq (tAsg (tCallM 0 2 (sp_half K cs) (perm [1, 0]) E0 tNil (tCons (tCB (rListOf K) (tCons (tVar 11) tNil)) (tCons (tCB (rListOf K) (tCons (tVar 10) tNil)) tNil))) (gName 12))
    (tSeq (tIfS (tOr (tTest (tOp (rNeO K cs.f_eq (sp_eq K cs)) (tVar 12) (tCall (sp_half K cs) [] E0 (tCons (tVar 10) (tCons (tVar 11) tNil))))) (tOr (tTest (tOp (rNeO K cs.f_eq (sp_eq K cs)) (tAtt K (tVar 12) "steps") (tTup (tCons (tTup (tCons (tC (.str "half")) (tCons (tVar 10) (tCons (tVar 11) tNil)))) tNil)))) (tOr (tTest (tOp (rNeO K cs.f_eq (sp_eq K cs)) (tAtt K (tVar 12) "planes") (tTup (tCons (tCall (sp_law_plane K cs) [] E0 (tCons (tVar 10) (tCons (tVar 11) tNil))) tNil)))) (tTest (tOp (rNeO K cs.f_eq (sp_eq K cs)) (tTup (tCons (tAtt K (tVar 12) "dimension") (tCons (tAtt K (tVar 12) "sliders") tNil))) (tTup (tCons (tVar 3) (tCons (tVar 4) tNil)))))))) (tRet (tC (.bl false))) tNext)
    (t_less K cs))))
def t_made (K : Fg) (cs : Cs) : TS :=
    (tSeq (tAsg (tTup (tCons (tCall (sp_law_made K cs) [] E0 (tCons (tVar 5) tNil)) (tCons (tCB (rTupOf K) (tCons (tCall (sp_law_planes K cs) [] E0 (tCons (tVar 5) tNil)) tNil)) tNil))) (gTup K 2 (gCons (gName 7) (gCons (gName 8) gNil))))
    (tSeq (tIfS (tTest (tOp (rNeO K cs.f_eq (sp_eq K cs)) (tCB (rRepr2 K) (tCons (tLst (tCons (tAtt K (tVar 7) "planes") (tCons (tCall (sp_planes_of K cs) [] E0 (tCons (tVar 7) tNil)) (tCons (tCallM 0 1 (sp_planes_of K cs) (perm [0]) E0 tNil (tCons (tVar 7) tNil)) tNil)))) tNil)) (tCB (rRepr2 K) (tCons (tOp (rTimes K) (tLst (tCons (tVar 8) tNil)) (tC (.int 3))) tNil)))) (tRet (tC (.bl false))) tNext)
    (t_one K cs)))
def t_make (K : Fg) (cs : Cs) : TS :=
    (tSeq (tPar 3 4 (tCons (tOp (rPlus K) (tC (.int 1)) (tCall (sp_law_draw K cs) [] E0 (tCons (tVar 1) (tCons (tC (.int 3)) tNil)))) (tCons (tCall (sp_law_draw K cs) [] E0 (tCons (tVar 1) (tCons (tC (.int 3)) tNil))) tNil)))
    (tSeq (tAsg (tCall (sp_law_plain K cs) [] E0 (tCons (tVar 1) (tCons (tVar 3) (tCons (tVar 4) (tCons (tC (.int 6)) tNil))))) (gName 5))
    (tSeq (tAsg (tCall (sp_law_pick K cs) [] E0 (tCons (tVar 1) (tCons (tLst (tCons (tC (.int 1)) (tCons (tC (.int 2)) (tCons (tC (.int 30)) (tCons (tC (.int 300)) tNil))))) tNil))) (gName 6))
    (tSeq (tAsg (tLc (iSeq K (tDGet (tVar 5) (tC (.str "steps")))) (gName 16) tYes (tIf (tAnd (tTest (tOp (rEqO K cs.f_eq (sp_eq K cs)) (tOp (rIx K) (tVar 16) (tC (.int 0))) (tC (.str "half")))) (tTest (tOp (rEqO K cs.f_eq (sp_eq K cs)) (tCall (sp_law_draw K cs) [] E0 (tCons (tVar 1) (tCons (tC (.int 2)) tNil))) (tC (.int 0))))) (tTup (tCons (tC (.str "half")) (tCons (tCB (rTupOf K) (tCons (tLc (iSeq K (tOp (rIx K) (tVar 16) (tC (.int 1)))) (gName 17) tYes (tOp (rTimes K) (tVar 6) (tVar 17)) [17]) tNil)) (tCons (tCB (rTupOf K) (tCons (tLc (iSeq K (tOp (rIx K) (tVar 16) (tC (.int 2)))) (gName 17) tYes (tOp (rTimes K) (tVar 6) (tVar 17)) [17]) tNil)) tNil)))) (tVar 16)) [16]) (gSub (tVar 5) (tC (.str "steps")) rSetD))
    (t_made K cs)))))
def t_end (K : Fg) (cs : Cs) : TS := (tRet (tAndV (tOp (rEqO K cs.f_eq (sp_eq K cs)) (tAtt K (tCall (sp_half K cs) [] E0 (tCons (tLst (tCons (tUn (rU fun i => .int (-i)) (tC (.int 2))) (tCons (tC (.int 4)) tNil))) (tCons (tLst (tCons (tC (.int 6)) (tCons (tC (.int 0)) tNil))) tNil))) "planes") (tTup (tCons (tTup (tCons (tTup (tCons (tC (.int 1)) (tCons (tUn (rU fun i => .int (-i)) (tC (.int 2))) tNil))) (tCons (tTup (tCons (tUn (rU fun i => .int (-i)) (tC (.int 3))) (tCons (tC (.int 0)) tNil))) tNil))) tNil))) (tOp (rEqO K cs.f_eq (sp_eq K cs)) (tAtt K (tCall (sp_half K cs) [] E0 (tCons (tLst (tCons (tC (.int 0)) (tCons (tUn (rU fun i => .int (-i)) (tC (.int 3))) tNil))) (tCons (tLst (tCons (tC (.int 9)) tNil)) tNil))) "planes") (tTup (tCons (tTup (tCons (tTup (tCons (tC (.int 0)) (tCons (tC (.int 1)) tNil))) (tCons (tTup (tCons (tUn (rU fun i => .int (-i)) (tC (.int 3))) tNil)) tNil))) tNil)))))
def t_loop (K : Fg) (cs : Cs) : TS := (tSeq (tFor (iRng1 (tCons (tC (.int 8)) tNil)) (gName 2)  (t_make K cs)) (t_end K cs))
theorem t_law_is (K : Fg) (cs : Cs) : t_law K cs = tSeq (tAsg (tCall (sp_law_pen K cs) [] E0 (tCons (tVar 0) tNil)) (gName 1)) (t_loop K cs) := rfl
mutual
theorem eqv_self : ∀ {d : DV}, isPy d = true → PyData.eqv (DL.py d) (DL.py d) = true
  | .non, _ => by simp [DL.py, PyData.eqv]
  | .bl b, _ => by simp [DL.py, PyData.eqv]
  | .int i, _ => by simp [DL.py, PyData.eqv]
  | .str s, _ => by simp [DL.py, PyData.eqv]
  | .tup ds, h => by simp only [DL.py, PyData.eqv]; exact eqvL_self (ds := ds) (by simpa [isPy] using h)
  | .lst ds, h => by simp only [DL.py, PyData.eqv]; exact eqvL_self (ds := ds) (by simpa [isPy] using h)
  | .ty _, h => by simp [isPy] at h
  | .adr _, h => by simp [isPy] at h
  | .ins _ _ _, h => by simp [isPy] at h
  | .dic _ _, h => by simp [isPy] at h
  | .exc _ _ _, h => by simp [isPy] at h
theorem eqvL_self : ∀ {ds : List DV}, isPyL ds = true → PyData.eqvAll (pyL ds) (pyL ds) = true
  | [], _ => by simp [pyL, PyData.eqvAll]
  | d :: ds, h => by
    have h' : isPy d = true ∧ isPyL ds = true := by simpa [isPyL] using h
    simp only [pyL, PyData.eqvAll, Bool.and_eq_true]
    exact ⟨eqv_self h'.1, eqvL_self h'.2⟩
end
theorem same_pl {m : Nat} {d : DV} (h : Pl m d) (hm : m ≤ 64 := by decide) : shp d = true ∧ PyData.eqv (DL.py d) (DL.py d) = true := ⟨h.shp hm, eqv_self h.py⟩
theorem cells16 {l : List SA} (h : l.length = 16) : ∃ a b c d e f g i j k m n o p q r : SA, l = [a, b, c, d, e, f, g, i, j, k, m, n, o, p, q, r] := by
  match l, h with
  | [a, b, c, d, e, f, g, i, j, k, m, n, o, p, q, r], _ => exact ⟨a, b, c, d, e, f, g, i, j, k, m, n, o, p, q, r, rfl⟩
/-! planes of a half and of its multiples -/
theorem gF_mul (c : Int) : ∀ (l : List Int) (g : Int), (l.map (c * ·)).foldl (fun g x => ((Nat.gcd g.natAbs x.natAbs : Nat) : Int)) ((c.natAbs : Int) * g) = (c.natAbs : Int) * l.foldl (fun g x => ((Nat.gcd g.natAbs x.natAbs : Nat) : Int)) g
  | [], g => rfl
  | x :: l, g => by
    rw [List.map_cons, List.foldl_cons, List.foldl_cons, ← gF_mul c l]
    congr 1
    rw [Int.natAbs_mul, Int.natAbs_mul, Int.natAbs_natCast, Nat.gcd_mul_left]
    exact Int.natCast_mul _ _
theorem gF_scale (c : Int) (l : List Int) : gF (l.map (c * ·)) = (c.natAbs : Int) * gF l := by
  have z := gF_mul c l 0
  rw [Int.mul_zero] at z
  exact z
theorem plF_scale {a b : List Int} {c : Int} (c0 : c ≠ 0) (nz : ∃ x ∈ a, x ≠ 0) : plF (a.map (c * ·)) (b.map (c * ·)) = plF a b := by
  obtain ⟨x, hx, x0⟩ := nz
  obtain ⟨s, S, eS⟩ : ∃ s S, (a.filter fun x => !decide (x = 0)) = s :: S := by
    cases e : (a.filter fun x => !decide (x = 0)) with
    | nil =>
      have : x ∈ (a.filter fun x => !decide (x = 0)) := List.mem_filter.mpr ⟨hx, by simp [x0]⟩
      rw [e] at this; cases this
    | cons s S => exact ⟨s, S, rfl⟩
  have s0 : s ≠ 0 := by
    have h : s ∈ (a.filter fun x => !decide (x = 0)) := by rw [eS]; simp
    simpa using (List.mem_filter.mp h).2
  have eS2 : ((a.map (c * ·)).filter fun x => !decide (x = 0)) = (c * s) :: S.map (c * ·) := by
    rw [List.filter_map]
    have e : (a.filter ((fun x => !decide (x = 0)) ∘ (c * ·))) = a.filter fun x => !decide (x = 0) := List.filter_congr fun y _ => by
      show (!decide (c * y = 0)) = !decide (y = 0)
      have : c * y = 0 ↔ y = 0 := ⟨fun h => (Int.mul_eq_zero.mp h).resolve_left c0, fun h => by rw [h, Int.mul_zero]⟩
      simp [this]
    rw [e, eS]; rfl
  have hg := gF_le (l := a ++ b) (List.mem_append_left b hx) x0
  have eg : gF (a.map (c * ·) ++ b.map (c * ·)) = (c.natAbs : Int) * gF (a ++ b) := by rw [← List.map_append, gF_scale]
  have g0 : 0 ≤ gF (a ++ b) := by
    have : ∀ (l : List Int) (g : Int), 0 ≤ g → 0 ≤ l.foldl (fun g x => ((Nat.gcd g.natAbs x.natAbs : Nat) : Int)) g := by
      intro l
      induction l with
      | nil => exact fun g h => h
      | cons y l ih => exact fun g _ => ih _ (Int.natCast_nonneg _)
    exact this _ 0 (by omega)
  unfold plF
  rw [eS, eS2, eg]
  show ((a.map (c * ·)).map (fun x => x.fdiv (if 0 < c * s then (c.natAbs : Int) * gF (a ++ b) else -((c.natAbs : Int) * gF (a ++ b)))), (b.map (c * ·)).map (fun x => x.fdiv (if 0 < c * s then (c.natAbs : Int) * gF (a ++ b) else -((c.natAbs : Int) * gF (a ++ b))))) =
    (a.map (fun x => x.fdiv (if 0 < s then gF (a ++ b) else -gF (a ++ b))), b.map (fun x => x.fdiv (if 0 < s then gF (a ++ b) else -gF (a ++ b))))
  have ed : (if 0 < c * s then (c.natAbs : Int) * gF (a ++ b) else -((c.natAbs : Int) * gF (a ++ b))) = c * (if 0 < s then gF (a ++ b) else -gF (a ++ b)) := by
    rcases Int.lt_or_gt_of_ne c0 with hc | hc <;> rcases Int.lt_or_gt_of_ne s0 with hs | hs
    · rw [if_pos (Int.mul_pos_of_neg_of_neg hc hs), if_neg (by omega), show (c.natAbs : Int) = -c by omega, Int.neg_mul, Int.mul_neg]
    · rw [if_neg (by have := Int.mul_neg_of_neg_of_pos hc hs; omega), if_pos hs, show (c.natAbs : Int) = -c by omega, Int.neg_mul, Int.neg_neg]
    · rw [if_neg (by have := Int.mul_neg_of_pos_of_neg hc hs; omega), if_neg (by omega), show (c.natAbs : Int) = c by omega, Int.mul_neg]
    · rw [if_pos (Int.mul_pos hc hs), if_pos hs, show (c.natAbs : Int) = c by omega]
  rw [ed]
  have dv : ∀ y ∈ a ++ b, (c * y).fdiv (c * (if 0 < s then gF (a ++ b) else -gF (a ++ b))) = y.fdiv (if 0 < s then gF (a ++ b) else -gF (a ++ b)) := fun y hy => by
    have d0 : (if 0 < s then gF (a ++ b) else -gF (a ++ b)) ≠ 0 := by have := hg.1; split <;> omega
    have dd : (if 0 < s then gF (a ++ b) else -gF (a ++ b)) ∣ y := by
      split
      · exact gF_dvd hy
      · exact Int.neg_dvd.mpr (gF_dvd hy)
    obtain ⟨q, hq⟩ := dd
    generalize (if 0 < s then gF (a ++ b) else -gF (a ++ b)) = d at d0 hq ⊢
    subst hq
    rw [← Int.mul_assoc, Int.mul_fdiv_cancel_left _ (Int.mul_ne_zero c0 d0), Int.mul_fdiv_cancel_left _ d0]
  rw [List.map_map, List.map_map]
  exact Prod.ext (List.map_congr_left fun y hy => dv y (List.mem_append_left b hy)) (List.map_congr_left fun y hy => dv y (List.mem_append_right a hy))
theorem plF_neg {a b : List Int} (nz : ∃ x ∈ a, x ≠ 0) : plF (a.map (- ·)) (b.map (- ·)) = plF a b := by
  have z := plF_scale (b := b) (c := -1) (by decide) nz
  have e : ∀ l : List Int, l.map ((-1) * ·) = l.map (- ·) := fun l => List.map_congr_left fun x _ => by show -1 * x = -x; omega
  rw [e, e] at z
  exact z
/-- the parts of a plane are no greater than the half's -/
theorem plF_bd {N k : Nat} {a b : List Int} (B : BOk N k a b) : (plF a b).1.length = N ∧ (plF a b).2.length = 1 + k ∧ (∀ x ∈ (plF a b).1, -1000000 ≤ x ∧ x ≤ 1000000) ∧ ∀ x ∈ (plF a b).2, -1000000 ≤ x ∧ x ≤ 1000000 := by
  obtain ⟨x, hx, x0⟩ := B.nz
  have hg := gF_le (l := a ++ b) (List.mem_append_left b hx) x0
  unfold plF
  dsimp only
  have d0 : (if 0 < (a.filter fun x => !decide (x = 0)).headD 0 then gF (a ++ b) else -gF (a ++ b)) ≠ 0 := by have := hg.1; split <;> omega
  have dd : ∀ y ∈ a ++ b, (if 0 < (a.filter fun x => !decide (x = 0)).headD 0 then gF (a ++ b) else -gF (a ++ b)) ∣ y := fun y hy => by
    split
    · exact gF_dvd hy
    · exact Int.neg_dvd.mpr (gF_dvd hy)
  generalize (if 0 < (a.filter fun x => !decide (x = 0)).headD 0 then gF (a ++ b) else -gF (a ++ b)) = d at d0 dd ⊢
  have bd : ∀ y ∈ a ++ b, -1000000 ≤ y ∧ y ≤ 1000000 → -1000000 ≤ y.fdiv d ∧ y.fdiv d ≤ 1000000 := fun y hy h => by
    obtain ⟨q, rfl⟩ := dd y hy
    rw [Int.mul_fdiv_cancel_left _ d0]
    have h1 : (d * q).natAbs = d.natAbs * q.natAbs := Int.natAbs_mul d q
    have h2 : q.natAbs ≤ d.natAbs * q.natAbs := Nat.le_mul_of_pos_left _ (by omega)
    have h3 : (d * q).natAbs ≤ 1000000 := by omega
    omega
  refine ⟨by rw [List.length_map]; exact B.la, by rw [List.length_map]; exact B.lb, fun y hy => ?_, fun y hy => ?_⟩
  · obtain ⟨z, hz, rfl⟩ := List.mem_map.mp hy
    exact bd z (List.mem_append_left b hz) (B.ba z hz)
  · obtain ⟨z, hz, rfl⟩ := List.mem_map.mp hy
    exact bd z (List.mem_append_right a hz) (B.bb z hz)
theorem HOk.scale {n k : Nat} {w : Int} {a b : List Int} (h : HOk n k w a b) (hw : w ≤ 20) {c : Int} (c0 : c ≠ 0) (hc : c.natAbs ≤ 300) : BOk n k (a.map (c * ·)) (b.map (c * ·)) := by
  have bd : ∀ x : Int, x.natAbs ≤ 2004 → -1000000 ≤ c * x ∧ c * x ≤ 1000000 := fun x hx => by
    have h1 : (c * x).natAbs = c.natAbs * x.natAbs := Int.natAbs_mul c x
    have h2 : c.natAbs * x.natAbs ≤ 300 * 2004 := Nat.mul_le_mul hc hx
    omega
  refine ⟨by rw [List.length_map]; exact h.la, by rw [List.length_map]; exact h.lb, ?_, fun y hy => ?_, fun y hy => ?_⟩
  · obtain ⟨x, hx, x0⟩ := h.nz
    exact ⟨c * x, List.mem_map.mpr ⟨x, hx, rfl⟩, Int.mul_ne_zero c0 x0⟩
  · obtain ⟨x, hx, rfl⟩ := List.mem_map.mp hy
    have := h.ba x hx
    exact bd x (by omega)
  · obtain ⟨x, hx, rfl⟩ := List.mem_map.mp hy
    have := h.bb x hx
    exact bd x (by omega)
theorem HOk.wide {n k : Nat} {w : Int} {a b : List Int} (h : HOk n k w a b) (hw : w ≤ 20) : BOk n k a b :=
  ⟨h.la, h.lb, h.nz, fun x hx => by have := h.ba x hx; omega, fun x hx => by have := h.bb x hx; omega⟩
theorem BOk.neg {n k : Nat} {a b : List Int} (h : BOk n k a b) : BOk n k (a.map (- ·)) (b.map (- ·)) := by
  refine ⟨by rw [List.length_map]; exact h.la, by rw [List.length_map]; exact h.lb, ?_, fun y hy => ?_, fun y hy => ?_⟩
  · obtain ⟨x, hx, x0⟩ := h.nz
    exact ⟨-x, List.mem_map.mpr ⟨x, hx, rfl⟩, by omega⟩
  · obtain ⟨x, hx, rfl⟩ := List.mem_map.mp hy
    have := h.ba x hx
    omega
  · obtain ⟨x, hx, rfl⟩ := List.mem_map.mp hy
    have := h.bb x hx
    omega
theorem SOk.wide {n k : Nat} : ∀ {s : St}, SOk n k s → TOk n k s
  | .half _ _, h => HOk.wide (w := 20) h (by decide)
  | .word _, h => h
/-- how steps run hangs on their words alone -/
theorem runS_hd : ∀ {l l' : List St} (m : Int), l.map St.hd = l'.map St.hd → runS m l = runS m l'
  | [], [], _, _ => rfl
  | [], _ :: _, _, h => by simp at h
  | _ :: _, [], _, h => by simp at h
  | s :: l, s' :: l', m, h => by
    simp only [List.map_cons, List.cons.injEq] at h
    simp only [runS, h.1]
    split
    · rfl
    · exact runS_hd _ h.2
/-! planes of steps, told -/
theorem fold_len : ∀ (ks acc : List PK2), (ks.foldl putK2 acc).length ≤ acc.length + ks.length
  | [], acc => by simp
  | k :: ks, acc => by
    have h1 : (putK2 acc k).length ≤ acc.length + 1 := by unfold putK2; split <;> simp
    have h2 := fold_len ks (putK2 acc k)
    rw [List.foldl_cons, List.length_cons]
    omega
theorem pls_of {N k : Nat} {l : List St} (h : ∀ s ∈ l, TOk N k s) : (plsF (l.map encT)).length ≤ l.length ∧ ∀ p ∈ plsF (l.map encT), ∃ a b, BOk N k a b ∧ p = plF a b := by
  unfold plsF
  refine ⟨?_, fun p hp => ?_⟩
  · refine Nat.le_trans (fold_len _ []) ?_
    rw [List.length_nil, Nat.zero_add, List.length_map]
    exact Nat.le_trans (List.length_filter_le _ _) (by rw [List.length_map]; omega)
  · obtain ⟨d, hd, rfl⟩ := List.mem_map.mp (((SetH.fold_put _ [] List.nodup_nil).2 p).mp hp |>.resolve_left (fun z => nomatch z))
    obtain ⟨h1, h2⟩ := List.mem_filter.mp hd
    obtain ⟨s, hs, rfl⟩ := List.mem_map.mp h1
    have ht := h s hs
    cases s with
    | half a b => exact ⟨a, b, ht, plS_of a b⟩
    | word v => exact absurd (of_decide_eq_true (show decide (v = "half") = true from h2)) (no_half ht)
theorem plD_all {N k : Nat} (hN : N ≤ 3) (hk : k ≤ 2) {l : List St} (hl : l.length ≤ 30) (h : ∀ s ∈ l, TOk N k s) : ∃ ds : List DV, plD (l.map encT) = .tup ds ∧ ds.length ≤ 30 ∧ ∀ d ∈ ds, Pl 2 d ∧ Sh 300 d ∧ gd d = true := by
  obtain ⟨h1, h2⟩ := pls_of h
  refine ⟨_, rfl, by rw [List.length_mergeSort, List.length_map]; omega, fun d hd => ?_⟩
  obtain ⟨p, hp, rfl⟩ := List.mem_map.mp (List.mem_mergeSort.mp hd)
  obtain ⟨a, b, B, rfl⟩ := h2 p hp
  obtain ⟨b1, b2, b3, b4⟩ := plF_bd B
  refine ⟨pl_pkD _, ?_, ?_⟩
  · refine (sh_tup (w := 80) fun d hd => ?_).le (by simp)
    rcases List.mem_cons.mp hd with rfl | hd
    · exact (sh_ints (by omega) b3).1
    · rw [List.mem_singleton.mp hd]; exact (sh_ints (by omega) b4).1
  · refine gd_tup (by simp) fun d hd => ?_
    rcases List.mem_cons.mp hd with rfl | hd
    · exact gd_tI (by omega)
    · rw [List.mem_singleton.mp hd]; exact gd_tI (by omega)
theorem plD_pl {N k : Nat} (hN : N ≤ 3) (hk : k ≤ 2) {l : List St} (hl : l.length ≤ 30) (h : ∀ s ∈ l, TOk N k s) : Pl 3 (plD (l.map encT)) ∧ Sh 9500 (plD (l.map encT)) ∧ gd (plD (l.map encT)) = true := by
  obtain ⟨ds, e, hl, ha⟩ := plD_all hN hk hl h
  rw [e]
  exact ⟨pl_tup fun d hd => (ha d hd).1, (sh_tup (w := 300) fun d hd => (ha d hd).2.1).le (by omega), gd_tup (by omega) fun d hd => (ha d hd).2.2⟩
theorem shw_pls {N k : Nat} (hN : N ≤ 3) (hk : k ≤ 2) {l : List St} (hl : l.length ≤ 30) (h : ∀ s ∈ l, TOk N k s) : Shw (.lst [plD (l.map encT), plD (l.map encT), plD (l.map encT)]) := by
  obtain ⟨p1, p2, _⟩ := plD_pl hN hk hl h
  exact shw_of (pl_lst (pl_3 p1 p1 p1)) (sh_lst (w := 9500) (sh_3 p2 p2 p2)) (by decide) (by simp)
theorem plD_one (a b : List Int) : plD [encT (.half a b)] = .tup [pkD (plF a b)] := by
  have e : plsF [encT (.half a b)] = [plF a b] := by
    unfold plsF
    have : isHalfS (encT (.half a b)) = true := by show decide (("half" : Str) = "half") = true; simp
    rw [List.filter_cons_of_pos this, List.filter_nil]
    show [plS (encT (.half a b))].foldl putK2 [] = _
    rw [show plS (encT (.half a b)) = plF a b from plS_of a b]
    simp [putK2]
  unfold plD
  rw [e]
  simp
/-! the shape of one half -/
def hS (n k : Nat) (a b : List Int) : Sh4 := ((n : Int), (k : Int), [encT (.half a b)], plD [encT (.half a b)])
theorem hS_okS {N k : Nat} {a b : List Int} (hN : N ≤ 3) (hk : k ≤ 2) (B : BOk N k a b) : okS (hS N k a b) := ⟨by simp [hS], fun t ht => by
  rw [List.mem_singleton.mp ht]
  exact gd_encT (s := .half a b) hN hk B⟩
theorem shp_h {N k : Nat} {a b : List Int} (B : BOk N k a b) : shp (keyD (hS N k a b)) = true := shp_key (N := N) (k := k) (l := [.half a b]) (fun s hs => by rw [List.mem_singleton.mp hs]; exact B) _ _
theorem neq_neg {N k : Nat} {a b : List Int} (B : BOk N k a b) : PyData.eqv (DL.py (keyD (hS N k (a.map (- ·)) (b.map (- ·))))) (DL.py (keyD (hS N k a b))) = false := by
  cases e : PyData.eqv (DL.py (keyD (hS N k (a.map (- ·)) (b.map (- ·))))) (DL.py (keyD (hS N k a b))) with
  | false => rfl
  | true =>
    exfalso
    have z : PyData.eqvAll (pyL ((a.map (- ·)).map DV.int)) (pyL (a.map DV.int)) = true := by
      simp only [keyD, hS, key3, encT, DL.py, pyL, PyData.eqv, PyData.eqvAll, Bool.and_eq_true] at e
      exact e.2.2.1.1.2.1
    have z2 := (eqvAll_map DV.int eqv_int _ _).mp z
    obtain ⟨x, hx, x0⟩ := B.nz
    obtain ⟨i, hi, ex⟩ := List.getElem_of_mem hx
    have z3 := congrArg (fun l => l[i]?) z2
    simp only [List.getElem?_map, List.getElem?_eq_getElem hi, Option.map_some, Option.some.injEq] at z3
    omega
theorem all_in {l : List DV} {p : DV → Bool} (h : l.all p = true) {d : DV} (hd : d ∈ l) : p d = true := List.all_eq_true.mp h d hd
end K04
namespace K04
open PySem PySem.Spec PyProof.Rows L2 NdefX PySem.HandSPX PySem.DLx LamX StX DL
variable [Tn]
/-! the law, piece by piece -/
section
variable {K : Fg} {cs : Cs} {Γ : List SA} {O : Own} {n : Nat}
theorem w_dfl {Z : Xt} {t : TE} {k : DV → Nat → Prop} (h : W K Z t Γ O n k) : W K Z (fun σ H Q => (tC (.int 0)) σ H fun _ H1 => t σ H1 Q) Γ O n k := h
theorem ne_same {fe : Addr} {spq : Sp} {d : DV} {k : DV → Prop} (h : shp d = true ∧ PyData.eqv (DL.py d) (DL.py d) = true) (q : k (.bl false)) : OW K (rNeO K fe spq) d d k := ow_neOd (ow_neD h.1 h.1 (by rw [h.2]; exact q))
abbrev Z3 : Xt := ⟨E0, fun _ _ _ _ => False⟩
abbrev KB (a : Addr) (i : Nat) : KE := { nx := fun Γ O m => ∃ r : List SA, Γ = .is (.adr a) :: .pen :: r ∧ r.length = 16 ∧ m ≤ 200 * (i + 1), ct := fun Γ O m => ∃ r : List SA, Γ = .is (.adr a) :: .pen :: r ∧ r.length = 16 ∧ m ≤ 200 * (i + 1), bk := fun _ _ _ => False, rt := fun d _ _ => d = .bl true }
theorem flat_rep (m : Nat) (d : DV) : (List.replicate m [d]).flatten = List.replicate m d := by
  induction m with
  | zero => rfl
  | succ m ih => rw [List.replicate_succ, List.flatten_cons, ih]; rfl
/-- [d] * j -/
theorem w_rpL {Z : Xt} {d : DV} {j : Int} {te tj : TE} {k : DV → Nat → Prop} (h : W K Z te Γ O n fun x n1 => x = d ∧ W K Z tj Γ O n1 fun y n2 => y = .int j ∧ 0 ≤ j ∧ j ≤ 1000 ∧ k (.lst (List.replicate j.toNat d)) n2) : W K Z (tOp (rTimes K) (tLst (tCons te tNil)) tj) Γ O n k :=
  w_of_wl (wl_op (w_of_wl (wl_lst (wa_cons (h.mono fun x n1 ⟨e, h2⟩ => wa_nil ⟨by simp, h2.mono fun y n2 ⟨e2, j0, j1, q⟩ => by
    subst e e2
    exact owl_rep (by omega) (by omega) (by simp; omega) (by rw [flat_rep]; exact q)⟩)))))
/-- half(..) that is not refused -/
theorem w_half {Z : Xt} {E1 : XK} {ta : TA} {k : DV → Nat → Prop} (h : WA K Z ta Γ O n fun ds n1 => ∃ (nn oo : DV) (N kk : Nat) (a b : List Int), ds = [nn, oo] ∧ (nn = .lst (a.map DV.int) ∨ nn = .tup (a.map DV.int)) ∧ (oo = .lst (b.map DV.int) ∨ oo = .tup (b.map DV.int)) ∧ 1 ≤ N ∧ N ≤ 3 ∧ kk ≤ 2 ∧ BOk N kk a b ∧ k (insD cs.c_Shape (hS N kk a b)) n1) :
    W K Z (tCall (sp_half K cs) [] E1 ta) Γ O n k :=
  w_callX0 (wa_mono h fun ds n1 ⟨nn, oo, N, kk, a, b, e, hn, ho, h1, h3, h2, B, q⟩ => by
    have hf := hf_ok hn ho h1 h3 h2 B
    refine ⟨(nn, oo), e, ⟨?_, ?_⟩, fun C ns es z => (by rw [hf] at z; cases z), fun d ⟨_, ed⟩ => ?_⟩
    · rcases hn with rfl | rfl
      · exact gd_lI (by rw [B.la]; omega)
      · exact gd_tI (by rw [B.la]; omega)
    · rcases ho with rfl | rfl
      · exact gd_lI (by rw [B.lb]; omega)
      · exact gd_tI (by rw [B.lb]; omega)
    · rw [ed, hf_made hn ho B]; exact q)
/-! what is refused -/
def badN (d : DV) : Bool := gd d && (!rowOk d || !((seqOf d).any fun x => !decide (intOf x = 0)))
def badO (d : DV) : Bool := gd d && !rowOk d
theorem hf_bad {d o : DV} (h : badN d = true) : gd d = true ∧ hfE d o = some (.va "normal") := by
  simp only [badN, Bool.and_eq_true, Bool.or_eq_true, Bool.not_eq_true'] at h
  obtain ⟨h1, h2⟩ := h
  refine ⟨h1, ?_⟩
  unfold hfE
  by_cases hr : rowOk d = false
  · rw [if_pos hr]
  · rw [if_neg hr, if_pos (h2.resolve_left hr)]
theorem hf_off {N k : Nat} {a b : List Int} {d : DV} (h1 : 1 ≤ N) (h3 : N ≤ 3) (B : BOk N k a b) (h : badO d = true) : gd d = true ∧ hfE (.tup (a.map DV.int)) d = some (.va "offset") := by
  simp only [badO, Bool.and_eq_true, Bool.not_eq_true'] at h
  refine ⟨h.1, ?_⟩
  unfold hfE
  rw [if_neg (by rw [row_ok (.inr rfl) (by rw [B.la]; exact h1) (by rw [B.la]; exact h3) B.ba]; simp), if_neg (by rw [any_of (d := .tup (a.map DV.int)) (.inl rfl) B.nz]; simp), if_pos h.2]
abbrev exp3 : List DV := [.tup [.str "value", .str "normal"], .tup [.str "value", .str "offset"], .tup [.str "shape", .str "shape"]]
theorem exp3_ok : shp (.lst exp3) = true ∧ PyData.eqv (DL.py (.lst exp3)) (DL.py (.lst exp3)) = true := ⟨by decide +kernel, eqv_self (by decide +kernel)⟩
theorem rd_ask (T : Fct K cs) (a : Addr) {i N k : Nat} (h1 : 1 ≤ N) (h3 : N ≤ 3) (h2 : k ≤ 2) (hn : n ≤ 200 * i + 160) (hi : i ≤ 7) {l : List St} (sok : ∀ s ∈ l, TOk N k s) (ll : l.length ≤ 30) {an bn : List Int} (B : BOk N k an bn) {bad non : DV} (hb : badN bad = true) (ho : badO non = true) (x2 x3 x4 x5 x6 x8 x9 x11 x12 x13 x16 x17 : SA) :
    WS K Z3 (t_ask K cs) [.is (.adr a), .pen, x2, x3, x4, x5, x6, .is (insD cs.c_Shape ((N : Int), (k : Int), l.map encT, plD (l.map encT))), x8, x9, .is (.tup (an.map DV.int)), x11, x12, x13, .is bad, .is non, x16, x17] O n (KB a i) := by
  obtain ⟨g1, e1⟩ := hf_bad (o := non) hb
  obtain ⟨g2, e2⟩ := hf_off h1 h3 B ho
  have gN : gd (.tup (an.map DV.int)) = true := gd_tI (by rw [B.la]; omega)
  obtain ⟨_, _, gp⟩ := plD_pl h3 h2 ll sok
  have gs : gd (.tup (l.map encT)) = true := gd_tsT h3 h2 (by omega) sok
  unfold t_ask
  refine ws_if (wt_test (w_op (w_of_wl (wl_lst (wa_cons (w_hF T (Ef := fun p : DV × DV => hfE p.1 p.2) (fun _ _ _ h => h.1) fun Z => wa_cons (w_var rfl (wa_cons (w_var rfl (wa_nil ⟨(bad, non), rfl, ⟨g1, g2⟩, ?_⟩)))))))))) 
  show WA K Z3 _ _ _ _ _
  rw [show hfE (bad, non).1 (bad, non).2 = some (.va "normal") from e1]
  refine wa_cons (w_dfl (w_hF T (Ef := fun p : DV × DV => hfE p.1 p.2) (fun _ _ _ h => h.1) fun Z => wa_cons (w_var rfl (wa_cons (w_var rfl (wa_nil ⟨(.tup (an.map DV.int), non), rfl, ⟨gN, g2⟩, ?_⟩))))))
  rw [show hfE (DV.tup (an.map DV.int), non).1 (DV.tup (an.map DV.int), non).2 = some (.va "offset") from e2]
  refine wa_cons (w_dfl (w_hF T (Ef := nsE "shape") (fun p r hp ⟨a4, e, _⟩ => by subst e; rfl) fun Z => wa_cons (w_pick rfl (w_of_wl (wl_lst ?_)))))
  refine wa_cons (w_non (wa_cons (w_int (wa_cons (w_attI (w_var rfl ⟨_, _, _, plD (l.map encT), rfl, T.cl, T.na "planes" (by simp), rfl, ?_⟩))))))
  refine wa_cons (w_attI (w_var rfl ⟨_, _, _, .tup (l.map encT), rfl, T.cl, T.na "steps" (by simp), rfl, wa_nil ⟨by simp, _, rfl, by simp, by simp, by omega, fun x hx => ?_⟩⟩))
  have gx : gd x = true := by
    simp only [List.mem_cons, List.not_mem_nil, or_false] at hx
    rcases hx with rfl | rfl | rfl | rfl
    · rfl
    · rfl
    · exact gp
    · exact gs
  refine wa_nil ⟨.inr x, rfl, gx, ?_⟩
  refine wa_nil ⟨by simp, w_of_wl (wl_lst ?_)⟩
  repeat' first
    | walk_at "dl2"
    | walk_at "len"
  exact ne_same (d := .lst exp3) exp3_ok ⟨_, rfl, brF (ws_next ⟨_, rfl, rfl, by omega⟩)⟩
theorem rd_bads (T : Fct K cs) (a : Addr) {i N k : Nat} (h1 : 1 ≤ N) (h3 : N ≤ 3) (h2 : k ≤ 2) (hn : n ≤ 200 * i + 156) (hi : i ≤ 7) {l : List St} (sok : ∀ s ∈ l, TOk N k s) (ll : l.length ≤ 30) {an bn : List Int} (B : BOk N k an bn) (x2 x4 x5 x6 x8 x9 x11 x12 x13 x14 x15 x16 x17 : SA) :
    WS K Z3 (t_bads K cs) [.is (.adr a), .pen, x2, .is (.int (N : Int)), x4, x5, x6, .is (insD cs.c_Shape ((N : Int), (k : Int), l.map encT, plD (l.map encT))), x8, x9, .is (.tup (an.map DV.int)), x11, x12, x13, x14, x15, x16, x17] O n (KB a i) := by
  unfold t_bads
  refine ws_seq (ws_asg (w_pick rfl (w_of_wl (wl_lst (wa_cons (w_non (wa_cons (w_int (wa_cons (w_of_wl (wl_lst (wa_nil ⟨by simp, ?_⟩)))))))))))) 
  refine wa_cons (w_rpL (d := .int 0) (j := (N : Int)) (w_int ⟨rfl, w_var rfl ⟨rfl, by omega, by omega, ?_⟩⟩))
  refine wa_cons (w_rpL (d := .int 1) (j := 4) (w_int ⟨rfl, w_int ⟨rfl, by decide, by decide, ?_⟩⟩))
  refine wa_cons (w_rpL (d := .bl true) (j := (N : Int)) (w_bl ⟨rfl, w_var rfl ⟨rfl, by omega, by omega, ?_⟩⟩))
  refine wa_cons (w_of_wl (wl_lst (wa_cons (w_str (wa_nil ⟨by simp, ?_⟩)))))
  refine wa_cons (w_of_wl (wl_lst (wa_cons (w_op (w_op (w_int (w_int (ow_pow ⟨by decide, by decide, by decide⟩ (w_int (ow_plusI (wa_nil ⟨by simp, ?_⟩)))))))))))
  refine wa_cons (w_dnew (wa_nil ⟨by simp, _, rfl, by simp, by simp, by omega, fun bad hb => ?_⟩))
  have hb : badN bad = true := by
    obtain rfl | rfl | rfl : N = 1 ∨ N = 2 ∨ N = 3 := by omega
    · exact all_in (by decide +kernel) hb
    · exact all_in (by decide +kernel) hb
    · exact all_in (by decide +kernel) hb
  refine ws_seq (ws_asg (w_pick rfl (w_of_wl (wl_lst (wa_cons (w_non (wa_cons (w_int (wa_cons (w_of_wl (wl_lst (wa_nil ⟨by simp, ?_⟩)))))))))))) 
  refine wa_cons (w_rpL (d := .int 0) (j := 4) (w_int ⟨rfl, w_int ⟨rfl, by decide, by decide, ?_⟩⟩))
  refine wa_cons (w_of_wl (wl_lst (wa_cons (w_bl (wa_nil ⟨by simp, ?_⟩)))))
  refine wa_cons (w_of_wl (wl_lst (wa_cons (w_non (wa_nil ⟨by simp, ?_⟩)))))
  refine wa_cons (w_of_wl (wl_lst (wa_cons (w_op (w_un (w_op (w_int (w_int (ow_pow ⟨by decide, by decide, by decide⟩ (uw_neg (w_int (ow_minus (wa_nil ⟨by simp, ?_⟩))))))))))))) 
  refine wa_cons (w_str (wa_nil ⟨by simp, _, rfl, by simp, by simp, by omega, fun non ho => ?_⟩))
  have ho : badO non = true := all_in (by decide +kernel) ho
  exact rd_ask T a h1 h3 h2 (by omega) hi sok ll B hb ho _ _ _ _ _ _ _ _ _ _ _ _
theorem pl_one (p : PK2) : shp (.tup [pkD p]) = true ∧ PyData.eqv (DL.py (.tup [pkD p])) (DL.py (.tup [pkD p])) = true := same_pl (m := 3) (pl_tup fun d hd => by rw [List.mem_singleton.mp hd]; exact pl_pkD _)
theorem lk_pl {N k : Nat} {a b : List Int} {p : PK2} (e : plF a b = p) : (FLD.zip [DV.int (N : Int), .int (k : Int), .tup [encT (.half a b)], plD [encT (.half a b)]]).lookup ("planes" : Str) = some (DV.tup [pkD p]) := by
  rw [← e, ← plD_one]; rfl
theorem rd_less (T : Fct K cs) (a : Addr) {i N k : Nat} (h1 : 1 ≤ N) (h3 : N ≤ 3) (h2 : k ≤ 2) (hn : n ≤ 200 * i + 156) (hi : i ≤ 7) {l : List St} (sok : ∀ s ∈ l, TOk N k s) (ll : l.length ≤ 30) {an bn : List Int} (ho : HOk N k 4 an bn) (x2 x4 x5 x6 x8 x9 x13 x14 x15 x16 x17 : SA) :
    WS K Z3 (t_less K cs) [.is (.adr a), .pen, x2, .is (.int (N : Int)), x4, x5, x6, .is (insD cs.c_Shape ((N : Int), (k : Int), l.map encT, plD (l.map encT))), x8, x9, .is (.tup (an.map DV.int)), .is (.tup (bn.map DV.int)), .is (insD cs.c_Shape (hS N k an bn)), x13, x14, x15, x16, x17] O n (KB a i) := by
  have B : BOk N k an bn := ho.wide (by decide)
  have B2 : BOk N k (an.map (2 * ·)) (bn.map (2 * ·)) := ho.scale (by decide) (by decide) (by decide)
  have la : an.length ≤ 3 := by rw [B.la]; exact h3
  have lb : bn.length ≤ 3 := by rw [B.lb]; omega
  unfold t_less
  refine ws_seq (ws_asg (w_half (wa_cons (w_of_wl (wl_lcF (α := Int) (sw_seq (w_var rfl ⟨an.map DV.int, .inr rfl, an, DV.int, fun x => .int (-x), rfl, by omega, fun y _ => gw_name (by simp) (w_un (w_var rfl (uw_neg ⟨rfl, rfl⟩))), ?_⟩)))))))
  refine wa_cons (w_of_wl (wl_lcF (α := Int) (sw_seq (w_var rfl ⟨bn.map DV.int, .inr rfl, bn, DV.int, fun x => .int (-x), rfl, by omega, fun y _ => gw_name (by simp) (w_un (w_var rfl (uw_neg ⟨rfl, rfl⟩))), ?_⟩))))
  refine wa_nil ⟨_, _, N, k, an.map (- ·), bn.map (- ·), rfl, .inl (by rw [List.map_map]; rfl), .inl (by rw [List.map_map]; rfl), h1, h3, h2, B.neg, ?_⟩
  refine ws_seq (ws_if (wt_or (wt_test (w_op (w_attI (w_var rfl ⟨_, _, _, .tup [pkD (plF an bn)], rfl, T.cl, T.na "planes" (by simp), lk_pl (plF_neg B.nz), ?_⟩))))))
  refine w_attI (w_var rfl ⟨_, _, _, .tup [pkD (plF an bn)], rfl, T.cl, T.na "planes" (by simp), lk_pl rfl, ne_same (pl_one _) ⟨_, rfl, brF ?_⟩⟩)
  refine wt_or (wt_test (w_op (w_var rfl (w_var rfl ?_))))
  refine ow_insEq ((hS N k (an.map (- ·)) (bn.map (- ·)), .inl (hS N k an bn)) : Two) T.eq (tyD_ins T.ins) T.nfS rfl ⟨shp_h B.neg, shp_h B⟩ fun d hd => ⟨false, ?_, ⟨_, rfl, brF ?_⟩⟩
  · have hd : d = .bl (PyData.eqv (DL.py (keyD (hS N k (an.map (- ·)) (bn.map (- ·))))) (DL.py (keyD (hS N k an bn)))) := hd
    rw [hd, neq_neg B]
  refine wt_test (w_op (w_attI (w_half (wa_cons (w_of_wl (wl_lcF (α := Int) (sw_seq (w_var rfl ⟨an.map DV.int, .inr rfl, an, DV.int, fun x => .int (2 * x), rfl, by omega, fun y _ => gw_name (by simp) (w_op (w_int (w_var rfl (ow_timesI (mul_okL (by decide) (by decide)) ⟨rfl, rfl⟩)))), ?_⟩))))))))
  refine wa_cons (w_of_wl (wl_lcF (α := Int) (sw_seq (w_var rfl ⟨bn.map DV.int, .inr rfl, bn, DV.int, fun x => .int (2 * x), rfl, by omega, fun y _ => gw_name (by simp) (w_op (w_int (w_var rfl (ow_timesI (mul_okL (by decide) (by decide)) ⟨rfl, rfl⟩)))), ?_⟩))))
  refine wa_nil ⟨_, _, N, k, an.map (2 * ·), bn.map (2 * ·), rfl, .inl (by rw [List.map_map]; rfl), .inl (by rw [List.map_map]; rfl), h1, h3, h2, B2, ?_⟩
  refine ⟨_, _, _, .tup [pkD (plF an bn)], rfl, T.cl, T.na "planes" (by simp), lk_pl (plF_scale (by decide) B.nz), ?_⟩
  refine w_attI (w_var rfl ⟨_, _, _, .tup [pkD (plF an bn)], rfl, T.cl, T.na "planes" (by simp), lk_pl rfl, ne_same (pl_one _) ⟨_, rfl, brF (ws_next ?_)⟩⟩)
  exact rd_bads T a h1 h3 h2 hn hi sok ll B _ _ _ _ _ _ _ _ _ _ _ _ _
end
end K04
namespace K04
open PySem PySem.Spec PyProof.Rows L2 NdefX PySem.HandSPX PySem.DLx LamX StX DL
variable [Tn]
section
variable {K : Fg} {cs : Cs} {Γ : List SA} {O : Own} {n : Nat}
theorem rd_one (T : Fct K cs) (a : Addr) {i N k : Nat} (h1 : 1 ≤ N) (h3 : N ≤ 3) (h2 : k ≤ 2) (hn : n ≤ 200 * i + 145) (hi : i ≤ 7) {l : List St} (sok : ∀ s ∈ l, TOk N k s) (ll : l.length ≤ 30) (x2 x5 x6 x8 x9 x10 x11 x12 x13 x14 x15 x16 x17 : SA) :
    WS K Z3 (t_one K cs) [.is (.adr a), .pen, x2, .is (.int (N : Int)), .is (.int (k : Int)), x5, x6, .is (insD cs.c_Shape ((N : Int), (k : Int), l.map encT, plD (l.map encT))), x8, x9, x10, x11, x12, x13, x14, x15, x16, x17] O n (KB a i) := by
  unfold t_one
  refine ws_seq (ws_asgG (w_callP rfl (wa_cons (w_var rfl (wa_cons (w_var rfl (wa_nil ⟨(N, k), rfl, ⟨h1, h3, h2⟩, by omega, ?_⟩)))))))
  rintro _ ⟨an, bn, rfl, ho⟩
  have B : BOk N k an bn := ho.wide (by decide)
  have la : an.length ≤ 3 := by rw [B.la]; exact h3
  have lb : bn.length ≤ 3 := by rw [B.lb]; omega
  show XG K Z3 _ (.tup [.str "half", .tup (an.map DV.int), .tup (bn.map DV.int)]) _ _ _ _
  refine xg_tup rfl (xgs_cons (xg_name (xgs_cons (xg_name (xgs_cons (xg_name (xgs_nil ?_)))))))
  have hf : hfE (.lst (an.map DV.int)) (.lst (bn.map DV.int)) = none := hf_ok (.inl rfl) (.inl rfl) h1 h3 h2 B
  refine ws_seq (ws_asg (w_callKX0 (mm := 2) (ix := [1, 0]) (wa_cons (w_of_wl (wl_cb (wa_cons (w_var rfl (wa_nil (cwl_listT ?_)))))))))
  refine wa_cons (w_of_wl (wl_cb (wa_cons (w_var rfl (wa_nil (cwl_listT (wa_nil ⟨rfl, (.lst (an.map DV.int), .lst (bn.map DV.int)), rfl, ⟨gd_lI (by omega), gd_lI (by omega)⟩, fun C ns es z => (by rw [show hfE (DV.lst (an.map DV.int), DV.lst (bn.map DV.int)).1 (DV.lst (an.map DV.int), DV.lst (bn.map DV.int)).2 = none from hf] at z; cases z), ?_⟩)))))))
  rintro _ ⟨_, rfl⟩
  rw [show madeD cs.c_Shape (hfX (DV.lst (an.map DV.int), DV.lst (bn.map DV.int)).1 (DV.lst (an.map DV.int), DV.lst (bn.map DV.int)).2) = insD cs.c_Shape (hS N k an bn) from hf_made (.inl rfl) (.inl rfl) B _]
  refine ws_seq (ws_if (wt_or (wt_test (w_op (w_var rfl (w_half (wa_cons (w_var rfl (wa_cons (w_var rfl (wa_nil ⟨_, _, N, k, an, bn, rfl, .inr rfl, .inr rfl, h1, h3, h2, B, ?_⟩)))))))))))
  refine ow_insNe ((hS N k an bn, .inl (hS N k an bn)) : Two) T.eq T.ne T.mo (tyD_ins T.ins) T.nfS rfl ⟨shp_h B, shp_h B⟩ fun d hd => ⟨true, ?_, ⟨_, rfl, brF ?_⟩⟩
  · have hd : d = .bl (PyData.eqv (DL.py (keyD (hS N k an bn))) (DL.py (keyD (hS N k an bn)))) := hd
    have e := eqv_key (N : Int) (k : Int) [.half an bn]
    rw [hd]
    exact congrArg DV.bl e
  refine wt_or (wt_test (w_op (w_attI (w_var rfl ⟨_, _, _, .tup [encT (.half an bn)], rfl, T.cl, T.na "steps" (by simp), rfl, ?_⟩))))
  refine w_tup (wa_cons (w_tup (wa_cons (w_str (wa_cons (w_var rfl (wa_cons (w_var rfl (wa_nil ⟨by simp, wa_nil ⟨by simp, ?_⟩⟩))))))))) 
  refine ne_same (d := .tup [encT (.half an bn)]) (same_pl (m := 3) (pl_tup fun d hd => by rw [List.mem_singleton.mp hd]; exact pl_encT (s := .half an bn) B)) ⟨_, rfl, brF ?_⟩
  refine wt_or (wt_test (w_op (w_attI (w_var rfl ⟨_, _, _, .tup [pkD (plF an bn)], rfl, T.cl, T.na "planes" (by simp), lk_pl rfl, ?_⟩))))
  refine w_tup (wa_cons (w_call (wa_cons (w_var rfl (wa_cons (w_var rfl (wa_nil ⟨((N, k), an, bn), rfl, ⟨h3, h2, B⟩, ?_⟩)))))))
  rintro _ rfl
  refine wa_nil ⟨by simp, ne_same (pl_one _) ⟨_, rfl, brF ?_⟩⟩
  refine wt_test (w_op (w_tup (wa_cons (w_attI (w_var rfl ⟨_, _, _, .int (N : Int), rfl, T.cl, T.na "dimension" (by simp), rfl, wa_cons (w_attI (w_var rfl ⟨_, _, _, .int (k : Int), rfl, T.cl, T.na "sliders" (by simp), rfl, wa_nil ⟨by simp, ?_⟩⟩))⟩)))))
  refine w_tup (wa_cons (w_var rfl (wa_cons (w_var rfl (wa_nil ⟨by simp, ?_⟩)))))
  refine ne_same (d := .tup [.int (N : Int), .int (k : Int)]) (same_pl (m := 3) (pl_tup fun d hd => ?_)) ⟨_, rfl, brF (ws_next ?_)⟩
  · rcases List.mem_cons.mp hd with rfl | hd
    · exact pl_int _
    · rw [List.mem_singleton.mp hd]; exact pl_int _
  exact rd_less T a h1 h3 h2 (by omega) hi sok ll ho _ _ _ _ _ _ _ _ _ _ _
theorem rd_made (T : Fct K cs) (a : Addr) {i N k : Nat} (h1 : 1 ≤ N) (h3 : N ≤ 3) (h2 : k ≤ 2) (hn : n ≤ 200 * i + 145) (hi : i ≤ 7) {l : List St} (go : GoodT N k l) (ll : l.length ≤ 30) (x2 x6 x7 x8 x9 x10 x11 x12 x13 x14 x15 x16 x17 : SA) :
    WS K Z3 (t_made K cs) [.is (.adr a), .pen, x2, .is (.int (N : Int)), .is (.int (k : Int)), .is (plainD N k l), x6, x7, x8, x9, x10, x11, x12, x13, x14, x15, x16, x17] O n (KB a i) := by
  unfold t_made
  have sok := go.1
  refine ws_seq (ws_asgG (w_tup (wa_cons (w_call (wa_cons (w_var rfl (wa_nil ⟨((N, k), l), rfl, ⟨⟨h1, h3, h2⟩, go, ll⟩, ?_⟩)))))))
  rintro _ rfl
  refine wa_cons (w_cb (wa_cons (w_call (wa_cons (w_var rfl (wa_nil ⟨((N, k), l), rfl, ⟨⟨h1, h3, h2⟩, go, ll⟩, ?_⟩))))))
  rintro _ ⟨ds, rfl, eds⟩
  refine wa_nil (cw_tupL ?_)
  rw [eds]
  refine wa_nil ⟨by simp, xg_tup rfl (xgs_cons (xg_name (xgs_cons (xg_name (xgs_nil ?_)))))⟩
  have okm : okOb (.inl ((N : Int), (k : Int), l.map encT, plD (l.map encT))) := ⟨by show (l.map encT).length ≤ 60; rw [List.length_map]; omega, fun t ht => by
    obtain ⟨s, hs, rfl⟩ := List.mem_map.mp (show t ∈ l.map encT from ht)
    exact gd_encT h3 h2 (sok s hs)⟩
  have sh := shw_pls h3 h2 ll sok
  refine ws_seq (ws_if (wt_test (w_op (w_cb (wa_cons (w_of_wl (wl_lst (wa_cons (w_attI (w_var rfl ⟨_, _, _, plD (l.map encT), rfl, T.cl, T.na "planes" (by simp), rfl, ?_⟩))))))))))
  refine wa_cons (w_callX0 (wa_cons (w_var rfl (wa_nil ⟨.inl ((N : Int), (k : Int), l.map encT, plD (l.map encT)), rfl, okm, fun C ns es z => (by cases z), ?_⟩))))
  rintro _ ⟨a4, e4, rfl⟩
  cases e4
  refine wa_cons (w_callKX0 (mm := 1) (ix := [0]) (wa_cons (w_var rfl (wa_nil ⟨rfl, .inl ((N : Int), (k : Int), l.map encT, plD (l.map encT)), rfl, okm, fun C ns es z => (by cases z), ?_⟩))))
  rintro _ ⟨a4, e4, rfl⟩
  cases e4
  refine wa_nil ⟨by simp, wa_nil (cw_repr2 sh ?_)⟩
  refine w_cb (wa_cons (w_of_wl (wl_op (w_of_wl (wl_lst (wa_cons (w_var rfl (wa_nil ⟨by simp, w_int (owl_rep (by decide) (by decide) (by simp) ?_)⟩))))))))
  rw [flat_rep]
  refine wa_nil (cw_repr2 sh ?_)
  refine ow_neOd (ow_neS ⟨_, rfl, brN (fun h => absurd rfl h) fun _ => ws_next ?_⟩)
  exact rd_one T a h1 h3 h2 hn hi sok ll _ _ _ _ _ _ _ _ _ _ _ _ _
theorem times_in {x : DV} (h : x ∈ ([.int 1, .int 2, .int 30, .int 300] : List DV)) : ∃ w : Int, x = .int w ∧ w ≠ 0 ∧ w.natAbs ≤ 300 := by
  simp only [List.mem_cons, List.not_mem_nil, or_false] at h
  rcases h with rfl | rfl | rfl | rfl
  · exact ⟨1, rfl, by decide, by decide⟩
  · exact ⟨2, rfl, by decide, by decide⟩
  · exact ⟨30, rfl, by decide, by decide⟩
  · exact ⟨300, rfl, by decide, by decide⟩
theorem rd_make (T : Fct K cs) (a : Addr) {i : Nat} (hn : n ≤ 200 * i) (hi : i ≤ 7) (x2 x3 x4 x5 x6 x7 x8 x9 x10 x11 x12 x13 x14 x15 x16 x17 : SA) :
    WS K Z3 (t_make K cs) [.is (.adr a), .pen, x2, x3, x4, x5, x6, x7, x8, x9, x10, x11, x12, x13, x14, x15, x16, x17] O n (KB a i) := by
  unfold t_make
  refine ws_seq (ws_par (wa_cons (w_op (w_int (w_callP rfl (wa_cons (w_int (wa_nil ⟨3, rfl, ⟨by decide, small (by decide)⟩, by omega, ?_⟩))))))))
  rintro _ ⟨r1, rfl, r10, r13⟩
  refine ow_plusI (wa_cons (w_callP rfl (wa_cons (w_int (wa_nil ⟨3, rfl, ⟨by decide, small (by decide)⟩, by omega, ?_⟩)))))
  rintro _ ⟨r2, rfl, r20, r23⟩
  refine wa_nil ⟨_, _, rfl, ?_⟩
  obtain ⟨N, hN⟩ : ∃ N : Nat, 1 + r1 = (N : Int) := ⟨(1 + r1).toNat, by omega⟩
  obtain ⟨k, rfl⟩ : ∃ k : Nat, r2 = (k : Int) := ⟨r2.toNat, by omega⟩
  have h1 : 1 ≤ N := by omega
  have h3 : N ≤ 3 := by omega
  have h2 : k ≤ 2 := by omega
  rw [hN]
  show WS K Z3 _ [.is (.adr a), .pen, x2, .is (.int (N : Int)), .is (.int (k : Int)), x5, x6, x7, x8, x9, x10, x11, x12, x13, x14, x15, x16, x17] O _ _
  refine ws_seq (ws_asgPd rfl (wa_cons (w_var rfl (wa_cons (w_var rfl (wa_cons (w_int (wa_nil ⟨(N, k), rfl, ⟨h1, h3, h2⟩, by omega, ?_⟩))))))))
  rintro _ ⟨l, rfl, ⟨sok, run⟩, l30⟩
  show WS K Z3 _ [.is (.adr a), .pen, x2, .is (.int (N : Int)), .is (.int (k : Int)), .own O.length, x6, x7, x8, x9, x10, x11, x12, x13, x14, x15, x16, x17] _ _ _
  refine ws_seq (ws_asg (w_pick rfl (w_of_wl (wl_lst (wa_cons (w_int (wa_cons (w_int (wa_cons (w_int (wa_cons (w_int (wa_nil ⟨by simp, _, rfl, by simp, by simp, by omega, fun x hx => ?_⟩)))))))))))))
  obtain ⟨w, rfl, w0, w3⟩ := times_in hx
  have wb : -(2 ^ 64) < w ∧ w < 2 ^ 64 := by omega
  show WS K Z3 _ [.is (.adr a), .pen, x2, .is (.int (N : Int)), .is (.int (k : Int)), .own O.length, .is (.int w), x7, x8, x9, x10, x11, x12, x13, x14, x15, x16, x17] _ _ _
  refine ws_seq (ws_asgG (w_of_wl (wl_lc (sw_seq (w_dgetOwn (x := .lst (l.map encT)) rfl own_last (by rfl) ⟨l.map encT, .inl rfl, by simp; omega, fun j acc m => ∃ l2 : List St, acc = l2.map encT ∧ l2.map St.hd = (l.take j).map St.hd ∧ (∀ s ∈ l2, TOk N k s) ∧ m ≤ n + 1 + 1 + 110 + 1 + j ∧ j ≤ l.length, ⟨[], rfl, rfl, fun s hs => (nomatch hs), by omega, by omega⟩, ?_, ?_⟩)))))
  · rintro j y acc m hy ⟨l2, rfl, hh, h2ok, hm, hj⟩
    rw [List.getElem?_map] at hy
    cases hs : l[j]? with
    | none => rw [hs] at hy; cases hy
    | some s =>
      rw [hs] at hy
      cases hy
      have hjl : j < l.length := (List.getElem?_eq_some_iff.mp hs).1
      have sk := sok s (List.mem_of_getElem? hs)
      have et : l.take (j + 1) = l.take j ++ [s] := by rw [List.take_add_one, hs]; rfl
      have fin : ∀ (s' : St) (m' : Nat), s'.hd = s.hd → TOk N k s' → m' ≤ m + 1 → ∃ l3 : List St, l2.map encT ++ [encT s'] = l3.map encT ∧ l3.map St.hd = (l.take (j + 1)).map St.hd ∧ (∀ s ∈ l3, TOk N k s) ∧ m' ≤ n + 1 + 1 + 110 + 1 + (j + 1) ∧ j + 1 ≤ l.length := fun s' m' e ok hm' => by
        refine ⟨l2 ++ [s'], by simp, by rw [et, List.map_append, List.map_append, hh]; simp [e], fun t ht => ?_, by omega, hjl⟩
        rcases List.mem_append.mp ht with ht | ht
        · exact h2ok t ht
        · rw [List.mem_singleton.mp ht]; exact ok
      refine gw_name (by simp) (wt_yes ⟨fun _ => ?_, fun z => nomatch z⟩)
      cases s with
      | word v =>
        have hv : v ≠ "half" := no_half sk
        refine w_if (wt_and (wt_test (w_op (w_ixS (xs := [.str v]) rfl (.inr rfl) atI_zero (w_str (ow_eqOd (ow_eqS ⟨_, rfl, ?_⟩)))))))
        rw [show decide (v = "half") = false by simp [hv]]
        refine brF (brF (w_var rfl ?_))
        exact fin (.word v) m rfl sk (by omega)
      | half p q =>
        have lp : p.length ≤ 3 := by rw [sk.la]; exact h3
        have lq : q.length ≤ 3 := by rw [sk.lb]; omega
        refine w_if (wt_and (wt_test (w_op (w_ixS (xs := [.str "half", .tup (p.map DV.int), .tup (q.map DV.int)]) rfl (.inr rfl) atI_zero (w_str (ow_eqOd (ow_eqS ⟨_, rfl, ?_⟩)))))))
        rw [show decide (("half" : Str) = "half") = true by simp]
        refine brT (wt_test (w_op (w_callP rfl (wa_cons (w_int (wa_nil ⟨2, rfl, ⟨by decide, small (by decide)⟩, by omega, ?_⟩))))))
        rintro _ ⟨r, rfl, _, _⟩
        refine w_int (ow_eqOd (ow_eqI ⟨_, rfl, br (fun _ => ?_) fun _ => ?_⟩))
        · refine w_tup (wa_cons (w_str (wa_cons (w_cb (wa_cons (w_of_wl (wl_lcF (α := Int) (sw_seq (w_ixS (xs := [.str "half", .tup (p.map DV.int), .tup (q.map DV.int)]) rfl (.inr rfl) rfl ⟨p.map DV.int, .inr rfl, p, DV.int, fun x => .int (w * x), rfl, by omega, fun y _ => gw_name (by simp) (w_op (w_var rfl (w_var rfl (ow_timesI (mul_okL wb.1 wb.2) ⟨rfl, rfl⟩)))), wa_nil (cw_tupL ?_)⟩)))))))))
          refine wa_cons (w_cb (wa_cons (w_of_wl (wl_lcF (α := Int) (sw_seq (w_ixS (xs := [.str "half", .tup (p.map DV.int), .tup (q.map DV.int)]) rfl (.inr rfl) rfl ⟨q.map DV.int, .inr rfl, q, DV.int, fun x => .int (w * x), rfl, by omega, fun y _ => gw_name (by simp) (w_op (w_var rfl (w_var rfl (ow_timesI (mul_okL wb.1 wb.2) ⟨rfl, rfl⟩)))), wa_nil (cw_tupL (wa_nil ⟨by simp, ?_⟩))⟩))))))
          have e : DV.tup [.str "half", .tup (p.map fun x => DV.int (w * x)), .tup (q.map fun x => DV.int (w * x))] = encT (.half (p.map (w * ·)) (q.map (w * ·))) := by
            show _ = DV.tup [.str "half", .tup ((p.map (w * ·)).map DV.int), .tup ((q.map (w * ·)).map DV.int)]
            rw [List.map_map, List.map_map]; rfl
          rw [e]
          exact fin (.half (p.map (w * ·)) (q.map (w * ·))) _ rfl (HOk.scale sk (by decide) w0 w3) (by omega)
        · exact w_var rfl (fin (.half p q) _ rfl (HOk.wide sk (by decide)) (by omega))
  · rintro acc m ⟨l2, rfl, hh, h2ok, hm, _⟩
    rw [List.length_map] at hh hm
    rw [List.take_length] at hh
    have l2l : l2.length = l.length := by have := congrArg List.length hh; simpa using this
    refine xg_setD (l := 2) rfl own_last rfl (by decide +kernel) (by decide) ?_
    refine ws_freezeD (i := 5) (j := O.length) rfl (own_set own_last) ?_
    show WS K Z3 _ [.is (.adr a), .pen, x2, .is (.int (N : Int)), .is (.int (k : Int)), .is (plainD N k l2), .is (.int w), x7, x8, x9, x10, x11, x12, x13, x14, x15, x16, x17] _ _ _
    exact rd_made T a h1 h3 h2 (by omega) hi ⟨h2ok, by rw [runS_hd 0 hh]; exact run⟩ (by omega) _ _ _ _ _ _ _ _ _ _ _ _ _
theorem rd_end (T : Fct K cs) (Z : Xt) (Γ : List SA) (m : Nat) (hm : m ≤ 900000) : WS K Z (t_end K cs) Γ O m { nx := fun _ _ _ => False, rt := fun d _ _ => d = .bl true } := by
  have B1 : BOk 2 1 [-2, 4] [6, 0] := ⟨rfl, rfl, ⟨-2, by simp, by decide⟩, by decide, by decide⟩
  have B2 : BOk 2 0 [0, -3] [9] := ⟨rfl, rfl, ⟨-3, by simp, by decide⟩, by decide, by decide⟩
  have e1 : plF [-2, 4] [6, 0] = ([1, -2], [-3, 0]) := by decide +kernel
  have e2 : plF [0, -3] [9] = ([0, 1], [-3]) := by decide +kernel
  have eq : ∀ {fe : Addr} {spq : Sp} {p : PK2} {q : DV → Prop}, q (.bl true) → OW K (rEqO K fe spq) (.tup [pkD p]) (.tup [pkD p]) q := fun {fe spq p q} h => ow_eqOd (ow_eqD (pl_one p).1 (pl_one p).1 (by rw [(pl_one p).2]; exact h))
  unfold t_end
  refine ws_ret (w_and (w_op (w_attI (w_half (wa_cons (w_of_wl (wl_lst (wa_cons (w_un (w_int (uw_neg (wa_cons (w_int (wa_nil ⟨by simp, ?_⟩))))))))))))))
  refine wa_cons (w_of_wl (wl_lst (wa_cons (w_int (wa_cons (w_int (wa_nil ⟨by simp, ?_⟩)))))))
  refine wa_nil ⟨_, _, 2, 1, [-2, 4], [6, 0], rfl, .inl rfl, .inl rfl, by decide, by decide, by decide, B1, _, _, _, .tup [pkD ([1, -2], [-3, 0])], rfl, T.cl, T.na "planes" (by simp), lk_pl e1, ?_⟩
  repeat' first
    | walk_at "dl2"
    | walk_at "len"
  refine eq (p := ([1, -2], [-3, 0])) ⟨_, rfl, fun _ => ?_, fun z => nomatch z⟩
  refine w_op (w_attI (w_half (wa_cons (w_of_wl (wl_lst (wa_cons (w_int (wa_cons (w_un (w_int (uw_neg (wa_nil ⟨by simp, ?_⟩))))))))))))
  refine wa_cons (w_of_wl (wl_lst (wa_cons (w_int (wa_nil ⟨by simp, ?_⟩)))))
  refine wa_nil ⟨_, _, 2, 0, [0, -3], [9], rfl, .inl rfl, .inl rfl, by decide, by decide, by decide, B2, _, _, _, .tup [pkD ([0, 1], [-3])], rfl, T.cl, T.na "planes" (by simp), lk_pl e2, ?_⟩
  repeat' first
    | walk_at "dl2"
    | walk_at "len"
  exact eq (p := ([0, 1], [-3])) rfl
theorem rd_loop (T : Fct K cs) (a : Addr) : WS K Z3 (t_loop K cs) (.is (.adr a) :: .pen :: List.replicate 16 .no) [] 0 { nx := fun _ _ _ => False, rt := fun d _ _ => d = .bl true } := by
  unfold t_loop
  refine ws_seq (ws_for (vs := [2]) (sw_rng1 (wa_cons (w_int (wa_nil ⟨8, rfl, by decide, by decide, fun i Γ O m => ∃ r : List SA, Γ = .is (.adr a) :: .pen :: r ∧ r.length = 16 ∧ m ≤ 200 * i, ⟨_, rfl, rfl, by omega⟩, ?_, ?_⟩)))))
  · rintro i y _ O m hy ⟨r, rfl, hr, hm⟩
    obtain ⟨hi, rfl⟩ := rngD_get hy
    have hi : i < 8 := hi
    obtain ⟨x2, x3, x4, x5, x6, x7, x8, x9, x10, x11, x12, x13, x14, x15, x16, x17, rfl⟩ := cells16 hr
    exact gw_name (by simp) (ws_mono (rd_make T a (i := i) hm (by omega) _ _ _ _ _ _ _ _ _ _ _ _ _ _ _ _) (fun _ _ _ h => h) (fun _ _ _ h => h) (fun _ _ _ h => h.elim) (fun _ _ _ h => h))
  · rintro _ O m ⟨r, rfl, hr, hm⟩
    exact rd_end T _ _ _ (by rw [rngD_length] at hm; have : (8 : Int).toNat = 8 := rfl; omega)
end
end K04
namespace K04
open PySem PySem.Spec PyProof.Rows L2 NdefX PySem.HandSPX PySem.DLx LamX StX DL
variable [Tn]
section
variable {P : Program} {w : World} {K : Fg} {mg : Str → Option Value} {base : Heap} {cs : Cs}
/-! the law's body; every def keeps its promise -/
theorem body_law (F : Fct K cs) {vs : List V} {H : Hp} {Q : VK} {E : XK} (h : sp_law K cs vs H Q E) : t_law K cs { nx := fun _ H' => Q .non H', rt := Q } (L2.start N_law vs) H := by
  obtain ⟨a, ns, rfl, hq, hl, tabs, c⟩ := h
  rw [t_law_is]
  refine ⟨.ref a, rfl, fun _ => none, a, ns, rfl, hq, hl, (fun b o h => nomatch h), ⟨tabs, fun _ _ => rfl⟩, fun p M' H' e1 gr ex tb hp hpH pen => ?_⟩
  have S2 : Sta K Z3 (some p) [] ⟨H', fun _ => False, M'⟩ M' H' ((L2.start N_law [.ref a]).set 1 (some (.ref p))) (.is (.adr a) :: .pen :: List.replicate 16 .no) [] 0 := by
    refine ⟨⟨ex, Gr.refl, tb, fun q hq => by cases hq; exact ⟨hp, pen⟩⟩, fun j b ds h => by simp at h, fun b hb => by simp at hb, fun b hb => hb.elim, List.nodup_nil, rfl, rfl, fun i s hi => ?_, Evl.Ex.refl _, xok_no⟩
    match i, hi with
    | 0, hi => cases hi; exact ⟨.ref a, rfl, .adr a⟩
    | 1, hi => cases hi; exact ⟨p, rfl, rfl⟩
    | i + 2, hi =>
      have hs : s = .no := by
        have hi : (List.replicate 16 SA.no)[i]? = some s := hi
        rw [List.getElem?_replicate] at hi
        split at hi
        · exact (Option.some.inj hi).symm
        · cases hi
      subst hs
      exact True.intro
  refine rd_loop F a (some p) [] ⟨H', fun _ => False, M'⟩ M' H' _ { nx := _, rt := Q } S2 ⟨fun _ _ _ _ _ _ _ _ _ _ q => q.elim, ?_, fun _ _ _ _ _ _ _ _ _ _ q => q.elim, fun _ _ _ _ _ _ _ _ _ _ q => q.elim⟩
  intro As v M3 H3 σ3 Γ3 O3 d n3 _ _ _ r3 hd
  have hd : d = .bl true := hd
  subst hd
  cases r3
  exact c H3
theorem len_D {α : Type} {pre : α → Prop} {args : α → List DV} {res : α → DV → Prop} {m : Nat} (hm : ∀ a, (args a).length = m) (vs : List V) (H : Hp) (Q : VK) (E : XK) (h : spD K pre args res vs H Q E) : vs.length = m := by
  obtain ⟨M, a, _, _, _, r, _⟩ := h
  exact r.length.trans (hm a)
theorem len_P {α : Type} {pre : α → Prop} {args : α → List DV} {cost : α → Nat} {res : α → DV → Prop} {m : Nat} (hm : ∀ a, (args a).length + 1 = m) (vs : List V) (H : Hp) (Q : VK) (E : XK) (h : spP K pre args cost res vs H Q E) : vs.length = m := by
  obtain ⟨p, us, M, n, a, _, rfl, _, _, _, _, _, r, _⟩ := h
  exact (congrArg (· + 1) r.length).trans (hm a)
theorem len_I {α : Type} {C : Addr} {pre : α → Prop} {args : α → List DV} {res : α → List Str → List DV → Prop} {err : α → Addr → List Str → List DV → Prop} {m : Nat} (hm : ∀ a, (args a).length + 1 = m) (vs : List V) (H : Hp) (Q : VK) (E : XK) (h : spI K C pre args res err vs H Q E) : vs.length = m := by
  obtain ⟨M, x, a, dx, us, _, rfl, _, _, _, _, _, r, _⟩ := h
  exact (congrArg (· + 1) r.length).trans (hm x)
theorem words (T : Txt P K mg base cs) : Words K cs := ⟨T.k_ENDS, T.k_ALONE, T.k_PAIRS⟩
theorem len_X {α : Type} {pre : α → Prop} {args : α → List DV} {res : α → DV → Prop} {err : α → Addr → List Str → List DV → Prop} {m : Nat} (hm : ∀ a, (args a).length = m) (vs : List V) (H : Hp) (Q : VK) (E : XK) (h : spX K pre args res err vs H Q E) : vs.length = m := by
  obtain ⟨M, a, _, _, _, r, _⟩ := h
  exact r.length.trans (hm a)
theorem ok_is_integer (T : Txt P K mg base cs) : Has P w K mg base 1 "is_integer" s_is_integer P_is_integer (sp_is_integer K cs) :=
  T.a_is_integer.has sc_is_integer (len_D fun _ => rfl) fun f cdv A outer s H vs Q E hr hG h => ⟨t_is_integer K cs, d_is_integer T  hr hG, body_D h (fun Z a hp => rd_is_integer Z a hp)⟩
theorem ok_is_listed (T : Txt P K mg base cs) : Has P w K mg base 1 "is_listed" s_is_listed P_is_listed (sp_is_listed K cs) :=
  T.a_is_listed.has sc_is_listed (len_D fun _ => rfl) fun f cdv A outer s H vs Q E hr hG h => ⟨t_is_listed K cs, d_is_listed T  hr hG, body_D h (fun Z a hp => rd_is_listed Z a hp)⟩
theorem ok_gcd_of (T : Txt P K mg base cs) : Has P w K mg base 1 "gcd_of" s_gcd_of P_gcd_of (sp_gcd_of K cs) :=
  T.a_gcd_of.has sc_gcd_of (len_D fun _ => rfl) fun f cdv A outer s H vs Q E hr hG h => ⟨t_gcd_of K cs, d_gcd_of T  hr hG, body_D h (fun Z a hp => rd_gcd_of Z a hp)⟩
theorem ok_taken_by (T : Txt P K mg base cs) : Has P w K mg base 1 "taken_by" s_taken_by P_taken_by (sp_taken_by K cs) :=
  T.a_taken_by.has sc_taken_by (len_D fun _ => rfl) fun f cdv A outer s H vs Q E hr hG h => ⟨t_taken_by K cs, d_taken_by T  hr hG, body_D h (fun Z a hp => rd_taken_by Z T.k_PAIRS T.k_ALONE a)⟩
theorem ok_is_within (T : Txt P K mg base cs) : Has P w K mg base 2 "is_within" s_is_within P_is_within (sp_is_within K cs) :=
  T.a_is_within.has sc_is_within (len_D fun _ => rfl) fun f cdv A outer s H vs Q E hr hG h => ⟨t_is_within K cs, d_is_within T (ok_is_integer T) hr hG, body_D h (fun Z a hp => rd_is_within Z a hp)⟩
theorem ok_plane_of (T : Txt P K mg base cs) : Has P w K mg base 2 "plane_of" s_plane_of P_plane_of (sp_plane_of K cs) :=
  T.a_plane_of.has sc_plane_of (len_D fun _ => rfl) fun f cdv A outer s H vs Q E hr hG h => ⟨t_plane_of K cs, d_plane_of T (ok_gcd_of T) hr hG, body_D h (fun Z a hp => rd_plane_of Z a hp)⟩
theorem ok_is_word (T : Txt P K mg base cs) : Has P w K mg base 2 "is_word" s_is_word P_is_word (sp_is_word K cs) :=
  T.a_is_word.has sc_is_word (len_D fun _ => rfl) fun f cdv A outer s H vs Q E hr hG h => ⟨t_is_word K cs, d_is_word T (ok_is_listed T) hr hG, body_D h (fun Z a hp => rd_is_word (words T) Z a hp)⟩
theorem ok_are_integers (T : Txt P K mg base cs) : Has P w K mg base 3 "are_integers" s_are_integers P_are_integers (sp_are_integers K cs) :=
  T.a_are_integers.has sc_are_integers (len_D fun _ => rfl) fun f cdv A outer s H vs Q E hr hG h => ⟨t_are_integers K cs, d_are_integers T (ok_is_listed T) (ok_is_within T) hr hG, body_D h (fun Z a hp => rd_are_integers Z a hp)⟩
theorem ok_is_half (T : Txt P K mg base cs) : Has P w K mg base 4 "is_half" s_is_half P_is_half (sp_is_half K cs) :=
  T.a_is_half.has sc_is_half (len_D fun _ => rfl) fun f cdv A outer s H vs Q E hr hG h => ⟨t_is_half K cs, d_is_half T (ok_are_integers T) (ok_is_listed T) hr hG, body_D h (fun Z a hp => rd_is_half Z a hp)⟩
theorem ok_are_steps (T : Txt P K mg base cs) : Has P w K mg base 5 "are_steps" s_are_steps P_are_steps (sp_are_steps K cs) :=
  T.a_are_steps.has sc_are_steps (len_D fun _ => rfl) fun f cdv A outer s H vs Q E hr hG h => ⟨t_are_steps K cs, d_are_steps T (ok_is_half T) (ok_is_word T) (ok_taken_by T) hr hG, body_D h (fun Z a hp => rd_are_steps Z a hp)⟩
theorem ok_BadShape (T : Txt P K mg base cs) : HasE P w K mg base 1 s_BadShape_init cs.c_BadShape ["part"] := err1 T.e_BadShape sc_BadShape_init rfl (fun env => ⟨_, rfl⟩) (by decide) (by decide)
theorem ok_BadValue (T : Txt P K mg base cs) : HasE P w K mg base 1 s_BadValue_init cs.c_BadValue ["part"] := err1 T.e_BadValue sc_BadValue_init rfl (fun env => ⟨_, rfl⟩) (by decide) (by decide)
theorem ok_TooMany (T : Txt P K mg base cs) : HasE P w K mg base 1 s_TooMany_init cs.c_TooMany ["what", "most"] := err2 T.e_TooMany sc_TooMany_init rfl (fun env => ⟨_, rfl⟩) (by decide) (by decide) (by decide) (by decide)
theorem ok_Shape (T : Txt P K mg base cs) (F : Fct K cs) {fi : Addr} {fd : FuncData} (M : Mk K cs.c_Shape fi) (Fn : Fun K "__init__" "Shape.__init__" s_Shape_init fi fd) (bi : Binds K fd P_Shape_init []) : HasI P w K mg base 6 cs.c_Shape "Shape.__init__" s_Shape_init ["self", "dimension", "sliders", "steps"] (sp_Shape K cs) :=
  hasI_of M Fn bi sc_Shape_init (len_I fun _ => rfl) fun cdv A outer s H vs Q E hr hG h => ⟨t_Shape_init P w K cs E, d_Shape_init T (ok_BadShape T) (ok_TooMany T) (ok_are_steps T) (ok_is_listed T) (ok_is_within T) (ok_plane_of T) hr hG, body_I (by decide) h (fun x hp => rd_Shape_init P w F E x hp)⟩
theorem ok_eq (T : Txt P K mg base cs) (F : Fct K cs) {fd : FuncData} (Fn : Fun K "__eq__" "Shape.__eq__" s_Shape_eq cs.f_eq fd) (fn : PySem.W.isFn K (.ref cs.f_eq) = true) (bi : Binds K fd P_Shape_eq []) : HasM P w K mg base 1 cs.f_eq (sp_eq K cs) :=
  hasM_of Fn fn bi sc_Shape_eq (len_D fun a => by obtain ⟨a, b⟩ := a; cases b <;> rfl) fun cdv A outer s H vs Q E hr hG h => ⟨t_Shape_eq K cs, (d_Shape_eq T hr hG).nox, body_D h (fun Z a hp => rd_Shape_eq F Z a hp)⟩
/-- how Shape stands -/
structure Shp (P : Program) (K : Fg) (mg : Str → Option Value) (cs : Cs) : Prop where
  ex : ∃ fi fdi fde, Mk K cs.c_Shape fi ∧ Fun K "__init__" "Shape.__init__" s_Shape_init fi fdi ∧ Binds K fdi P_Shape_init [] ∧ Fun K "__eq__" "Shape.__eq__" s_Shape_eq cs.f_eq fde ∧ PySem.W.isFn K (.ref cs.f_eq) = true ∧ Binds K fde P_Shape_eq []
theorem ok_Sh (T : Txt P K mg base cs) (F : Fct K cs) (S : Shp P K mg cs) : HasI P w K mg base 6 cs.c_Shape "Shape.__init__" s_Shape_init ["self", "dimension", "sliders", "steps"] (sp_Shape K cs) := by
  obtain ⟨fi, fdi, fde, a, b, c, _⟩ := S.ex
  exact ok_Shape T F a b c
theorem ok_Eq (T : Txt P K mg base cs) (F : Fct K cs) (S : Shp P K mg cs) : HasM P w K mg base 1 cs.f_eq (sp_eq K cs) := by
  obtain ⟨fi, fdi, fde, _, _, _, a, b, c⟩ := S.ex
  exact ok_eq T F a b c
theorem ok_law_pen (T : Txt P K mg base cs) : Has P w K mg base 1 "_law_pen" s_law_pen P_law_pen (sp_law_pen K cs) :=
  T.a_law_pen.has sc_law_pen (fun vs H Q E h => by obtain ⟨M, a, ns, rfl, _⟩ := h; rfl) fun f cdv A outer s H vs Q E hr hG h => ⟨t_law_pen K cs, d_law_pen T  hr hG, body_pen h⟩
theorem ok_law_draw (T : Txt P K mg base cs) : Has P w K mg base 1 "_law_draw" s_law_draw P_law_draw (sp_law_draw K cs) :=
  T.a_law_draw.has sc_law_draw (len_P fun _ => rfl) fun f cdv A outer s H vs Q E hr hG h => ⟨t_law_draw K cs, d_law_draw T  hr hG, body_draw h⟩
theorem ok_law_gcd (T : Txt P K mg base cs) : Has P w K mg base 1 "_law_gcd" s_law_gcd P_law_gcd (sp_law_gcd K cs) :=
  T.a_law_gcd.has sc_law_gcd (len_D fun _ => rfl) fun f cdv A outer s H vs Q E hr hG h => ⟨t_law_gcd K cs, d_law_gcd T  hr hG, body_D h (fun Z a hp => rd_law_gcd Z a hp)⟩
theorem ok_law_sign (T : Txt P K mg base cs) : Has P w K mg base 1 "_law_sign" s_law_sign P_law_sign (sp_law_sign K cs) :=
  T.a_law_sign.has sc_law_sign (len_D fun _ => rfl) fun f cdv A outer s H vs Q E hr hG h => ⟨t_law_sign K cs, d_law_sign T  hr hG, body_D h (fun Z a hp => rd_law_sign Z a hp)⟩
theorem ok_law_pick (T : Txt P K mg base cs) : Has P w K mg base 2 "_law_pick" s_law_pick P_law_pick (sp_law_pick K cs) :=
  T.a_law_pick.has sc_law_pick (fun vs H Q E h => by obtain ⟨p, a, us, M, n, rfl, _⟩ := h; rfl) fun f cdv A outer s H vs Q E hr hG h => ⟨t_law_pick K cs, d_law_pick T (ok_law_draw T) hr hG, body_pick h⟩
theorem ok_law_plane (T : Txt P K mg base cs) : Has P w K mg base 2 "_law_plane" s_law_plane P_law_plane (sp_law_plane K cs) :=
  T.a_law_plane.has sc_law_plane (len_D fun _ => rfl) fun f cdv A outer s H vs Q E hr hG h => ⟨t_law_plane K cs, d_law_plane T (ok_law_gcd T) (ok_law_sign T) hr hG, body_D h (fun Z a hp => rd_law_plane Z a hp)⟩
theorem ok_need_shape (T : Txt P K mg base cs) (F : Fct K cs) : HasXD P w K mg base 3 "need_shape" P_need_shape [.str "shape"] (sp_need_shape K cs) :=
  T.a_need_shape.hasXD sc_need_shape (len_X fun _ => rfl) fun f cdv A outer s H vs Q E hr hG h => ⟨t_need_shape K cs E, d_need_shape T (ok_BadShape T) hr hG, body_X h (fun a hp => rd_need_shape F E a hp)⟩
theorem ok_law_planes (T : Txt P K mg base cs) : Has P w K mg base 3 "_law_planes" s_law_planes P_law_planes (sp_law_planes K cs) :=
  T.a_law_planes.has sc_law_planes (len_D fun _ => rfl) fun f cdv A outer s H vs Q E hr hG h => ⟨t_law_planes P w K cs, d_law_planes T (ok_law_plane T) hr hG, body_D h (fun Z a hp => rd_law_planes P w Z a hp)⟩
theorem ok_law_half (T : Txt P K mg base cs) : Has P w K mg base 3 "_law_half" s_law_half P_law_half (sp_law_half K cs) :=
  T.a_law_half.has sc_law_half (len_P fun _ => rfl) fun f cdv A outer s H vs Q E hr hG h => ⟨t_law_half K cs, d_law_half T (ok_law_draw T) (ok_law_pick T) hr hG, body_P h (fun Z a n hp hn => rd_law_half Z a n hp hn)⟩
theorem ok_planes_of (T : Txt P K mg base cs) (F : Fct K cs) : HasX P w K mg base 4 "planes_of" s_planes_of P_planes_of (sp_planes_of K cs) :=
  T.a_planes_of.hasX sc_planes_of (len_X fun _ => rfl) fun f cdv A outer s H vs Q E hr hG h => ⟨t_planes_of K cs E, d_planes_of T (ok_need_shape T F) hr hG, body_X h (fun a hp => rd_planes_of F E a hp)⟩
theorem ok_law_plain (T : Txt P K mg base cs) : Has P w K mg base 4 "_law_plain" s_law_plain P_law_plain (sp_law_plain K cs) :=
  T.a_law_plain.has sc_law_plain (fun vs H Q E h => by obtain ⟨p, us, M, n, a, _, rfl, _, _, _, _, _, r, _⟩ := h; exact congrArg (· + 1) r.length) fun f cdv A outer s H vs Q E hr hG h => ⟨t_law_plain K cs, d_law_plain T (ok_law_draw T) (ok_law_half T) (ok_law_pick T) hr hG, by rw [tB_is]; exact body_Pd (t := tB_law_plain K cs) rfl (by decide +kernel) (by decide +kernel) (by decide +kernel) h (fun Z a n hp hn => rd_law_plain Z a n hp hn) (fun _ _ => rfl)⟩
theorem ok_half (T : Txt P K mg base cs) (F : Fct K cs) (S : Shp P K mg cs) : HasX P w K mg base 8 "half" s_half P_half (sp_half K cs) :=
  T.a_half.hasX sc_half (len_X fun _ => rfl) fun f cdv A outer s H vs Q E hr hG h => ⟨t_half K cs E, d_half T (ok_BadValue T) (ok_Sh T F S) (ok_are_integers T) (ok_is_listed T) hr hG, body_X h (fun a hp => rd_half F E a hp)⟩
theorem ok_law_made (T : Txt P K mg base cs) (F : Fct K cs) (S : Shp P K mg cs) : Has P w K mg base 8 "_law_made" s_law_made P_law_made (sp_law_made K cs) :=
  T.a_law_made.has sc_law_made (len_D fun _ => rfl) fun f cdv A outer s H vs Q E hr hG h => ⟨t_law_made K cs, d_law_made T (ok_Sh T F S) hr hG, body_D h (fun Z a hp => rd_law_made Z a hp)⟩
/-- the law's readings, all that it calls being there -/
theorem d_lawAll (T : Txt P K mg base cs) (F : Fct K cs) (S : Shp P K mg cs) (hPT : (cs.p_law, lamQ "law") ∈ Tn.T) {f : Addr} {A : Around} {outer : List Env} {s : Shared} {H : Hp} {E : XK} (hr : Room 10 (A.deeper (envOfC "law" (defScope s_law) s.heap.objs.size f (.ref cs.k_law)))) (hG : A.guards = some []) :
    PSs (cxOf CX0 P w K mg base N_law "law" (defScope s_law) f (.ref cs.k_law) A outer s H E).nox (defBody s_law) (t_law K cs) := d_law T (ok_Eq T F S) (ok_half T F S) (ok_law_draw T) (ok_law_half T) (ok_law_made T F S) (ok_law_pen T) (ok_law_pick T) (ok_law_plain T) (ok_law_plane T) (ok_law_planes T) (ok_planes_of T F) hPT hr hG
end
end K04
namespace K04
open PySem PySem.Spec PyProof.Rows L2 NdefX PySem.HandSPX PySem.DLx LamX StX DL
section
variable {P : Program} {w : World} {K : Fg} {mg : Str → Option Value}
/-- all that the end asks of the text -/
structure Rdy (P : Program) (K : Fg) (mg : Str → Option Value) (cs : Cs) : Prop where
  txt : ∀ base : Heap, (∃ o, base.get? sysModules = some o) → TabB base mg cs.k_law cs.p_law → Txt P K mg base cs
  fct : Fct K cs
  law : AtC K mg "law" s_law P_law cs.k_law
  made : Mk K cs.c_Shape cs.f_init
  ini : MethT K "__init__" "Shape.__init__" s_Shape_init P_Shape_init cs.f_init
  eq : MethT K "__eq__" "Shape.__eq__" s_Shape_eq P_Shape_eq cs.f_eq
  fn : PySem.W.isFn K (.ref cs.f_eq) = true
  tab : LawT K cs.k_law cs.p_law
theorem law_F {n : Nat} (hn : n ≤ 100000) (R : ∃ cs, Rdy P K mg cs) {fa : Addr} (hmg : mg "law" = some (.ref fa)) :
    ∃ (fd : FuncData) (sp : Sp) (c T : Addr) (o : Obj) (e : Value) (dd : Option Addr) (vs : Array Value) (sl : Array (Option Value)), K.lookup fa = some o ∧ o.data = .func fd ∧ fd.code = .ref c ∧ K.lookup c = some ⟨e, dd, .fields vs, sl⟩ ∧ vs[11]? = some (.ref T) ∧
        K.lookup T = none ∧ PySem.W.codeHdIn K c T = true ∧ (∀ (s : Shared) (u : Value), BindsTo s fd ⟨[u], []⟩ [("script", u)]) ∧
        (∀ (H : Hp) (a : Addr) (ns : List Int), ns.length ≤ n → H T = some (.tbl #[]) → SqL K H a (ns.map V.int) → sp [.ref a] H (fun v _ => v = .bl true) fun _ _ _ => False) ∧
        ∀ base : Heap, K.In base → base.Ns mainGlobals mg → (∃ o, base.get? sysModules = some o) → TabB base mg c T → FnG P w K mg base CX0 11 fa fd ["script"] sp := by
  obtain ⟨cs, hT, F, A, hM, ⟨fdi, hFn, hbi⟩, ⟨fde, hFe, hbe⟩, hfn, L⟩ := R
  have S : Shp P K mg cs := ⟨_, fdi, fde, hM, hFn, hbi, hFe, hfn, hbe⟩
  letI : Tn := ⟨[(cs.p_law, lamQ "law")], fun p hp q hq _ => by rw [List.mem_singleton] at hp hq; rw [hp, hq]⟩
  obtain ⟨f, oc, od, kV, doc, pm, an, ct, osl, lk, hc, kp, hm, bi⟩ := A.ex
  rw [hm] at hmg
  cases hmg
  obtain ⟨e, dd, vs, sl, l1, l2⟩ := L.tab
  refine ⟨_, sp_law K cs, cs.k_law, cs.p_law, _, e, dd, vs, sl, lk, rfl, rfl, l1, l2, L.no, L.hd, fun s u => .of_eq rfl, ?_, ?_⟩
  · intro H a ns hl ht hS
    exact ⟨a, ns, rfl, hS, by omega, fun p hp => by rw [List.mem_singleton.mp hp]; exact LamX.TabS.nil ht, fun _ => rfl⟩
  · intro base hK hN hs tb
    have T := hT base hs tb
    exact fnG_at lk hc sc_law (fun vs H Q E h => by obtain ⟨a, ns, rfl, _⟩ := h; rfl) fun A outer s H vs Q E hr hG h =>
      ⟨t_law K cs, (d_lawAll T F S (List.mem_singleton.mpr rfl) hr hG).nox, body_law F h⟩
theorem txt_mk {c_CutError c_BadInput c_Refused c_BadShape c_BadValue c_TooMany c_Shape f_init f_eq g_ALONE g_ENDS g_PAIRS k_law p_law : Addr} (a_is_integer : At K mg "is_integer" s_is_integer P_is_integer)
    (a_is_within : At K mg "is_within" s_is_within P_is_within)
    (a_is_listed : At K mg "is_listed" s_is_listed P_is_listed)
    (a_are_integers : At K mg "are_integers" s_are_integers P_are_integers)
    (a_gcd_of : At K mg "gcd_of" s_gcd_of P_gcd_of)
    (a_plane_of : At K mg "plane_of" s_plane_of P_plane_of)
    (a_is_half : At K mg "is_half" s_is_half P_is_half)
    (a_is_word : At K mg "is_word" s_is_word P_is_word)
    (a_taken_by : At K mg "taken_by" s_taken_by P_taken_by)
    (a_are_steps : At K mg "are_steps" s_are_steps P_are_steps)
    (a_need_shape : AtD K mg "need_shape" s_need_shape P_need_shape [.str "shape"])
    (a_half : At K mg "half" s_half P_half)
    (a_planes_of : At K mg "planes_of" s_planes_of P_planes_of)
    (a_law_pen : At K mg "_law_pen" s_law_pen P_law_pen)
    (a_law_draw : At K mg "_law_draw" s_law_draw P_law_draw)
    (a_law_pick : At K mg "_law_pick" s_law_pick P_law_pick)
    (a_law_gcd : At K mg "_law_gcd" s_law_gcd P_law_gcd)
    (a_law_sign : At K mg "_law_sign" s_law_sign P_law_sign)
    (a_law_plane : At K mg "_law_plane" s_law_plane P_law_plane)
    (a_law_planes : At K mg "_law_planes" s_law_planes P_law_planes)
    (a_law_half : At K mg "_law_half" s_law_half P_law_half)
    (a_law_plain : At K mg "_law_plain" s_law_plain P_law_plain)
    (a_law_made : At K mg "_law_made" s_law_made P_law_made)
    (a_law_heard : At K mg "_law_heard" s_law_heard P_law_heard)
    (a_law : AtC K mg "law" s_law P_law k_law)
    (n_abs : mg "abs" = none)
    (n_all : mg "all" = none)
    (n_any : mg "any" = none)
    (n_bool : mg "bool" = none)
    (n_int : mg "int" = none)
    (n_isinstance : mg "isinstance" = none)
    (n_len : mg "len" = none)
    (n_list : mg "list" = none)
    (n_range : mg "range" = none)
    (n_repr : mg "repr" = none)
    (n_set : mg "set" = none)
    (n_sorted : mg "sorted" = none)
    (n_str : mg "str" = none)
    (n_tuple : mg "tuple" = none)
    (m_gcd : mg "gcd" = some (.builtin "math.gcd"))
    (m_CutError : mg "CutError" = some (.ref c_CutError))
    (m_BadInput : mg "BadInput" = some (.ref c_BadInput))
    (m_Refused : mg "Refused" = some (.ref c_Refused))
    (m_BadShape : mg "BadShape" = some (.ref c_BadShape))
    (m_BadValue : mg "BadValue" = some (.ref c_BadValue))
    (m_TooMany : mg "TooMany" = some (.ref c_TooMany))
    (m_Shape : mg "Shape" = some (.ref c_Shape))
    (e_BadShape : ErrT P K mg s_BadShape_init c_BadShape ["part"])
    (e_BadValue : ErrT P K mg s_BadValue_init c_BadValue ["part"])
    (e_TooMany : ErrT P K mg s_TooMany_init c_TooMany ["what", "most"])
    (qg_ALONE : mg "ALONE" = some (.ref g_ALONE))
    (k_ALONE : KTup K g_ALONE ["not", "closed", "inside", "skin", "solid"])
    (qg_ENDS : mg "ENDS" = some (.ref g_ENDS))
    (k_ENDS : KTup K g_ENDS ["all", "none"])
    (g_MOST_INTEGER : ∃ t, mg "MOST_INTEGER" = some (.int 1000000 t))
    (g_MOST_SLIDERS : ∃ t, mg "MOST_SLIDERS" = some (.int 2 t))
    (g_MOST_STEPS : ∃ t, mg "MOST_STEPS" = some (.int 60 t))
    (qg_PAIRS : mg "PAIRS" = some (.ref g_PAIRS))
    (k_PAIRS : KTup K g_PAIRS ["and", "or", "less", "either"])
    (cl : Cls K c_Shape)
    (na_dimension : NoAttr K c_Shape "dimension")
    (na_sliders : NoAttr K c_Shape "sliders")
    (na_steps : NoAttr K c_Shape "steps")
    (na_planes : NoAttr K c_Shape "planes")
    (ins : InsC K c_Shape)
    (eqS : PySem.W.findIn K (.ref c_Shape) "__eq__" = some (some (.ref f_eq)))
    (neS : PySem.W.findIn K (.ref c_Shape) "__ne__" = some (some (.builtin "object.__ne__")))
    (moS : PySem.W.mroIn K c_Shape (.type "object") = some true)
    (mkS : Mk K c_Shape f_init)
    (iniM : MethT K "__init__" "Shape.__init__" s_Shape_init P_Shape_init f_init)
    (eqM : MethT K "__eq__" "Shape.__eq__" s_Shape_eq P_Shape_eq f_eq)
    (fnE : PySem.W.isFn K (.ref f_eq) = true)
    (tab : LawT K k_law p_law)
    (ic_Shape : PySem.W.isClsIn K c_Shape = true)
    (ty_Shape : PySem.W.typeIn K (.ref c_Shape) = some (.type "type"))
    (ic_BadShape : PySem.W.isClsIn K c_BadShape = true)
    (ty_BadShape : PySem.W.typeIn K (.ref c_BadShape) = some (.type "type"))
    (ic_BadValue : PySem.W.isClsIn K c_BadValue = true)
    (ty_BadValue : PySem.W.typeIn K (.ref c_BadValue) = some (.type "type"))
    (ic_TooMany : PySem.W.isClsIn K c_TooMany = true)
    (ty_TooMany : PySem.W.typeIn K (.ref c_TooMany) = some (.type "type"))
    (ic_CutError : PySem.W.isClsIn K c_CutError = true)
    (ty_CutError : PySem.W.typeIn K (.ref c_CutError) = some (.type "type"))
    (s_SV : PySem.W.subIn K (.ref c_BadShape) (.ref c_BadValue) = some false)
    (ne_SV : c_BadShape ≠ c_BadValue)
    (s_ST : PySem.W.subIn K (.ref c_BadShape) (.ref c_TooMany) = some false)
    (ne_ST : c_BadShape ≠ c_TooMany)
    (s_VS : PySem.W.subIn K (.ref c_BadValue) (.ref c_BadShape) = some false)
    (ne_VS : c_BadValue ≠ c_BadShape)
    (s_VT : PySem.W.subIn K (.ref c_BadValue) (.ref c_TooMany) = some false)
    (ne_VT : c_BadValue ≠ c_TooMany)
    (s_TS : PySem.W.subIn K (.ref c_TooMany) (.ref c_BadShape) = some false)
    (ne_TS : c_TooMany ≠ c_BadShape)
    (s_TV : PySem.W.subIn K (.ref c_TooMany) (.ref c_BadValue) = some false)
    (ne_TV : c_TooMany ≠ c_BadValue)
    (s_S_C : PySem.W.subIn K (.ref c_BadShape) (.ref c_CutError) = some true)
    (s_V_C : PySem.W.subIn K (.ref c_BadValue) (.ref c_CutError) = some true)
    (s_T_C : PySem.W.subIn K (.ref c_TooMany) (.ref c_CutError) = some true)
    (x_C : PySem.W.subIn K (.ref c_CutError) (.type "BaseException") = some true) : ∃ cs, Rdy P K mg cs := by
  let cs : Cs := ⟨c_CutError, c_BadInput, c_Refused, c_BadShape, c_BadValue, c_TooMany, c_Shape, f_init, f_eq, g_ALONE, g_ENDS, g_PAIRS, k_law, p_law⟩
  have F : Fct K cs := {
    cl := cl
    na := fun f hf => by
      simp only [FLD, List.mem_cons, List.not_mem_nil, or_false] at hf
      rcases hf with rfl | rfl | rfl | rfl
      · exact na_dimension
      · exact na_sliders
      · exact na_steps
      · exact na_planes
    ins := ins
    kS := kit_same
    kL := kit_sub (fun z => nomatch z) ic_Shape ty_Shape sub_list
    eq := eqS
    ne := neS
    mo := moS
    nfS := nf_same
    nfL := nf_sub sub_list
    kD := kit_prim ic_Shape ty_Shape
    xS := e_BadShape.xf
    xV := e_BadValue.xf
    xT := e_TooMany.xf
    cS := e_BadShape.exc
    cV := e_BadValue.exc
    cT := e_TooMany.exc
    kSS := kit_same
    kSV := kit_sub (ref_ne ne_SV) ic_BadValue ty_BadValue s_SV
    kST := kit_sub (ref_ne ne_ST) ic_TooMany ty_TooMany s_ST
    kVS := kit_sub (ref_ne ne_VS) ic_BadShape ty_BadShape s_VS
    kVV := kit_same
    kVT := kit_sub (ref_ne ne_VT) ic_TooMany ty_TooMany s_VT
    kTS := kit_sub (ref_ne ne_TS) ic_BadShape ty_BadShape s_TS
    kTV := kit_sub (ref_ne ne_TV) ic_BadValue ty_BadValue s_TV
    kTT := kit_same
    k0S := kit_sub (fun z => nomatch z) ic_BadShape ty_BadShape sub_none
    k0V := kit_sub (fun z => nomatch z) ic_BadValue ty_BadValue sub_none
    k0T := kit_sub (fun z => nomatch z) ic_TooMany ty_TooMany sub_none
    fS := e_BadShape.no _ (by simp)
    fV := e_BadValue.no _ (by simp)
    fw := e_TooMany.no _ (by simp)
    fm := e_TooMany.no _ (by simp)
    mS := exm_mk x_C ic_CutError ty_CutError s_S_C
    mV := exm_mk x_C ic_CutError ty_CutError s_V_C
    mT := exm_mk x_C ic_CutError ty_CutError s_T_C }
  exact ⟨cs, fun base sysm tb_law => ⟨a_is_integer, a_is_within, a_is_listed, a_are_integers, a_gcd_of, a_plane_of, a_is_half, a_is_word, a_taken_by, a_are_steps, a_need_shape, a_half, a_planes_of, a_law_pen, a_law_draw, a_law_pick, a_law_gcd, a_law_sign, a_law_plane, a_law_planes, a_law_half, a_law_plain, a_law_made, a_law_heard, a_law, n_abs, n_all, n_any, n_bool, n_int, n_isinstance, n_len, n_list, n_range, n_repr, n_set, n_sorted, n_str, n_tuple, m_gcd, m_CutError, m_BadInput, m_Refused, m_BadShape, m_BadValue, m_TooMany, m_Shape, e_BadShape, e_BadValue, e_TooMany, tb_law, qg_ALONE, k_ALONE, qg_ENDS, k_ENDS, g_MOST_INTEGER, g_MOST_SLIDERS, g_MOST_STEPS, qg_PAIRS, k_PAIRS, sysm⟩, F, a_law, mkS, iniM, eqM, fnE, tab⟩
theorem law_walk {l : PySem.W.OpenLaw} {q : Program} {loose : List Str} {XP : (Str → Option Value) → Heap → Prop} {YP : World → Heap → Prop} {d : DefRec} {K : Params → Fg} (hn : l.most = some 63) (hdf : d.params.defaults = []) (hrec : ((recsOf q).any fun e => e.name == d.name) = true) (hY : ∀ (w : World) (h : Heap), YP w h → (K w.params).In h) (hd : d.name = "law")
    (him : PyProof.Rows.importsNone q = true) (T : ∀ (w : World) (mg : Str → Option Value) (h : Heap), (K w.params).In h → h.Ns mainGlobals mg → XP mg h → ∃ cs, Rdy l.prog (K w.params) mg cs) :
    PySem.W.WalkO q loose XP YP l.row.toRowW d [] (fun f vs => PySem.call f vs) :=
  walkT (n := 63) (k := 11) (x := "script") (CX := CX0) him hn (by decide) hdf ⟨rfl, by decide, by decide⟩ hrec hY (fun w mg fa h KX G LX hmg => law_F (w := w) (by decide) (T w mg h KX G LX) (by rw [← hd]; exact hmg)) fun _ _ _ _ z => z
end
end K04
open PySem PySem.W PyProof.Rows in
set_option maxRecDepth 100000 in
set_option maxHeartbeats 0 in
set_option pp.maxSteps 400 in
set_option pp.deepTerms false in
theorem PySem.Challenge.cw_slidercuts_k04_whole_planes_of_halves_holds : PySem.Challenge.rw_slidercuts_k04_whole_planes_of_halves.Holds := by
  w_on; o_law; k_head; (case hw => w_witness2)
  k_fill
  refine K04.law_walk (l := PySem.Challenge.rw_slidercuts_k04_whole_planes_of_halves) rfl rfl ?hrec (fun w h Y => PySem.W.km_in_of Y) rfl (by kernel_rfl) ?T
  (case hrec => kernel_rfl)
  case T =>
    intro w mg h KX G LX
    refine' K04.txt_mk ?a_is_integer ?a_is_within ?a_is_listed ?a_are_integers ?a_gcd_of ?a_plane_of ?a_is_half ?a_is_word ?a_taken_by ?a_are_steps ?a_need_shape ?a_half ?a_planes_of ?a_law_pen ?a_law_draw ?a_law_pick ?a_law_gcd ?a_law_sign ?a_law_plane ?a_law_planes ?a_law_half ?a_law_plain ?a_law_made ?a_law_heard ?a_law ?n_abs ?n_all ?n_any ?n_bool ?n_int ?n_isinstance ?n_len ?n_list ?n_range ?n_repr ?n_set ?n_sorted ?n_str ?n_tuple ?m_gcd ?m_CutError ?m_BadInput ?m_Refused ?m_BadShape ?m_BadValue ?m_TooMany ?m_Shape ?e_BadShape ?e_BadValue ?e_TooMany ?qg_ALONE ?k_ALONE ?qg_ENDS ?k_ENDS ?g_MOST_INTEGER ?g_MOST_SLIDERS ?g_MOST_STEPS ?qg_PAIRS ?k_PAIRS ?cl ?na_dimension ?na_sliders ?na_steps ?na_planes ?ins ?eqS ?neS ?moS ?mkS ?iniM ?eqM ?fnE ?tab ?ic_Shape ?ty_Shape ?ic_BadShape ?ty_BadShape ?ic_BadValue ?ty_BadValue ?ic_TooMany ?ty_TooMany ?ic_CutError ?ty_CutError ?s_SV ?ne_SV ?s_ST ?ne_ST ?s_VS ?ne_VS ?s_VT ?ne_VT ?s_TS ?ne_TS ?s_TV ?ne_TV ?s_S_C ?s_V_C ?s_T_C ?x_C
    (case m_gcd => refine' PySem.W.mg_of KX G ?a; (case a => k_is))
    (case m_CutError => refine' PySem.W.mg_of KX G ?a; (case a => k_is))
    (case m_BadInput => refine' PySem.W.mg_of KX G ?a; (case a => k_is))
    (case m_Refused => refine' PySem.W.mg_of KX G ?a; (case a => k_is))
    (case m_BadShape => refine' PySem.W.mg_of KX G ?a; (case a => k_is))
    (case m_BadValue => refine' PySem.W.mg_of KX G ?a; (case a => k_is))
    (case m_TooMany => refine' PySem.W.mg_of KX G ?a; (case a => k_is))
    (case m_Shape => refine' PySem.W.mg_of KX G ?a; (case a => k_is))
    (case eqS => k_is)
    (case mkS => refine' L2.Mk.mk ?a ?b ?c ?d; (case b => k_is); (case a => k_is); (case c => k_is); (case d => k_is))
    (case a_is_integer => refine' DL.at_mk KX G ?a ?l ?c ?k (fun _ _ _ _ _ _ us hl => match us, hl with | [_], _ => rfl); (case a => k_is); (case l => k_is); (case c => k_is); (case k => k_is))
    (case a_is_within => refine' DL.at_mk KX G ?a ?l ?c ?k (fun _ _ _ _ _ _ us hl => match us, hl with | [_, _, _], _ => rfl); (case a => k_is); (case l => k_is); (case c => k_is); (case k => k_is))
    (case a_is_listed => refine' DL.at_mk KX G ?a ?l ?c ?k (fun _ _ _ _ _ _ us hl => match us, hl with | [_], _ => rfl); (case a => k_is); (case l => k_is); (case c => k_is); (case k => k_is))
    (case a_are_integers => refine' DL.at_mk KX G ?a ?l ?c ?k (fun _ _ _ _ _ _ us hl => match us, hl with | [_, _, _], _ => rfl); (case a => k_is); (case l => k_is); (case c => k_is); (case k => k_is))
    (case a_gcd_of => refine' DL.at_mk KX G ?a ?l ?c ?k (fun _ _ _ _ _ _ us hl => match us, hl with | [_], _ => rfl); (case a => k_is); (case l => k_is); (case c => k_is); (case k => k_is))
    (case a_plane_of => refine' DL.at_mk KX G ?a ?l ?c ?k (fun _ _ _ _ _ _ us hl => match us, hl with | [_, _], _ => rfl); (case a => k_is); (case l => k_is); (case c => k_is); (case k => k_is))
    (case a_is_half => refine' DL.at_mk KX G ?a ?l ?c ?k (fun _ _ _ _ _ _ us hl => match us, hl with | [_, _, _], _ => rfl); (case a => k_is); (case l => k_is); (case c => k_is); (case k => k_is))
    (case a_is_word => refine' DL.at_mk KX G ?a ?l ?c ?k (fun _ _ _ _ _ _ us hl => match us, hl with | [_], _ => rfl); (case a => k_is); (case l => k_is); (case c => k_is); (case k => k_is))
    (case a_taken_by => refine' DL.at_mk KX G ?a ?l ?c ?k (fun _ _ _ _ _ _ us hl => match us, hl with | [_], _ => rfl); (case a => k_is); (case l => k_is); (case c => k_is); (case k => k_is))
    (case a_are_steps => refine' DL.at_mk KX G ?a ?l ?c ?k (fun _ _ _ _ _ _ us hl => match us, hl with | [_, _, _], _ => rfl); (case a => k_is); (case l => k_is); (case c => k_is); (case k => k_is))
    (case a_need_shape => refine' DL.atd_mk KX G ?a ?l ?c ?k ?lT ?hv 1 rfl (fun _ _ _ _ _ _ _ us its hl h2 => match us, its, hl, h2 with | [_, _], [_], _, _ => ⟨_, rfl, rfl⟩) (fun _ _ _ _ _ _ _ us its hl h2 => match us, its, hl, h2 with | [_], [_], _, _ => ⟨_, rfl, rfl⟩); (case a => k_is); (case l => k_is); (case c => k_is); (case k => k_is); (case lT => k_is); (case hv => exact .cons ⟨_, rfl⟩ .nil))
    (case a_half => refine' DL.at_mk KX G ?a ?l ?c ?k (fun _ _ _ _ _ _ us hl => match us, hl with | [_, _], _ => rfl); (case a => k_is); (case l => k_is); (case c => k_is); (case k => k_is))
    (case a_planes_of => refine' DL.at_mk KX G ?a ?l ?c ?k (fun _ _ _ _ _ _ us hl => match us, hl with | [_], _ => rfl); (case a => k_is); (case l => k_is); (case c => k_is); (case k => k_is))
    (case a_law_pen => refine' DL.at_mk KX G ?a ?l ?c ?k (fun _ _ _ _ _ _ us hl => match us, hl with | [_], _ => rfl); (case a => k_is); (case l => k_is); (case c => k_is); (case k => k_is))
    (case a_law_draw => refine' DL.at_mk KX G ?a ?l ?c ?k (fun _ _ _ _ _ _ us hl => match us, hl with | [_, _], _ => rfl); (case a => k_is); (case l => k_is); (case c => k_is); (case k => k_is))
    (case a_law_pick => refine' DL.at_mk KX G ?a ?l ?c ?k (fun _ _ _ _ _ _ us hl => match us, hl with | [_, _], _ => rfl); (case a => k_is); (case l => k_is); (case c => k_is); (case k => k_is))
    (case a_law_gcd => refine' DL.at_mk KX G ?a ?l ?c ?k (fun _ _ _ _ _ _ us hl => match us, hl with | [_, _], _ => rfl); (case a => k_is); (case l => k_is); (case c => k_is); (case k => k_is))
    (case a_law_sign => refine' DL.at_mk KX G ?a ?l ?c ?k (fun _ _ _ _ _ _ us hl => match us, hl with | [_], _ => rfl); (case a => k_is); (case l => k_is); (case c => k_is); (case k => k_is))
    (case a_law_plane => refine' DL.at_mk KX G ?a ?l ?c ?k (fun _ _ _ _ _ _ us hl => match us, hl with | [_, _], _ => rfl); (case a => k_is); (case l => k_is); (case c => k_is); (case k => k_is))
    (case a_law_planes => refine' DL.at_mk KX G ?a ?l ?c ?k (fun _ _ _ _ _ _ us hl => match us, hl with | [_], _ => rfl); (case a => k_is); (case l => k_is); (case c => k_is); (case k => k_is))
    (case a_law_half => refine' DL.at_mk KX G ?a ?l ?c ?k (fun _ _ _ _ _ _ us hl => match us, hl with | [_, _, _], _ => rfl); (case a => k_is); (case l => k_is); (case c => k_is); (case k => k_is))
    (case a_law_plain => refine' DL.at_mk KX G ?a ?l ?c ?k (fun _ _ _ _ _ _ us hl => match us, hl with | [_, _, _, _], _ => rfl); (case a => k_is); (case l => k_is); (case c => k_is); (case k => k_is))
    (case a_law_made => refine' DL.at_mk KX G ?a ?l ?c ?k (fun _ _ _ _ _ _ us hl => match us, hl with | [_], _ => rfl); (case a => k_is); (case l => k_is); (case c => k_is); (case k => k_is))
    (case a_law_heard => refine' DL.at_mk KX G ?a ?l ?c ?k (fun _ _ _ _ _ _ us hl => match us, hl with | [_], _ => rfl); (case a => k_is); (case l => k_is); (case c => k_is); (case k => k_is))
    (case a_law => refine' DL.atc_mk KX G ?a ?l ?c ?k (fun _ _ _ _ _ _ us hl => match us, hl with | [_], _ => rfl); (case a => k_is); (case l => k_is); (case c => k_is); (case k => k_is))
    (case n_abs => refine' PySem.W.mg_none_of KX G ?a; (case a => k_is))
    (case n_all => refine' PySem.W.mg_none_of KX G ?a; (case a => k_is))
    (case n_any => refine' PySem.W.mg_none_of KX G ?a; (case a => k_is))
    (case n_bool => refine' PySem.W.mg_none_of KX G ?a; (case a => k_is))
    (case n_int => refine' PySem.W.mg_none_of KX G ?a; (case a => k_is))
    (case n_isinstance => refine' PySem.W.mg_none_of KX G ?a; (case a => k_is))
    (case n_len => refine' PySem.W.mg_none_of KX G ?a; (case a => k_is))
    (case n_list => refine' PySem.W.mg_none_of KX G ?a; (case a => k_is))
    (case n_range => refine' PySem.W.mg_none_of KX G ?a; (case a => k_is))
    (case n_repr => refine' PySem.W.mg_none_of KX G ?a; (case a => k_is))
    (case n_set => refine' PySem.W.mg_none_of KX G ?a; (case a => k_is))
    (case n_sorted => refine' PySem.W.mg_none_of KX G ?a; (case a => k_is))
    (case n_str => refine' PySem.W.mg_none_of KX G ?a; (case a => k_is))
    (case n_tuple => refine' PySem.W.mg_none_of KX G ?a; (case a => k_is))
    (case e_BadShape =>
      refine' DL.err_mk ?lC ?hbm ?sa ?exC ?tyC ?kC ?ga ?gg ?hd ?ha ?hn ?ht ?hm ?no ?mr ?ve ?ini ?i ?tI ?lf ?cd ?lc ?hv ?hf ?lcc ?top ?sup ?stat rfl rfl rfl rfl
      (case lC => k_is); (case hbm => rfl); (case sa => k_is); (case exC => k_is); (case tyC => k_is); (case kC => k_is); (case ga => k_is); (case gg => k_is); (case hd => k_is); (case ha => k_is); (case hn => k_is); (case ht => k_is); (case hm => k_is); (case mr => k_is); (case ve => k_is)
      (case no => refine' List.forall_mem_cons.mpr ⟨?_, fun _ z => nomatch z⟩; k_is)
      (case ini => kernel_rfl); (case i => k_is); (case tI => k_is); (case lf => k_is); (case cd => k_is); (case lc => k_is); (case hv => rfl); (case hf => kernel_rfl); (case lcc => k_is); (case top => kernel_rfl)
      (case sup => refine' PySem.W.mg_none_of KX G ?a; (case a => k_is)); (case stat => k_is))
    (case e_BadValue =>
      refine' DL.err_mk ?lC ?hbm ?sa ?exC ?tyC ?kC ?ga ?gg ?hd ?ha ?hn ?ht ?hm ?no ?mr ?ve ?ini ?i ?tI ?lf ?cd ?lc ?hv ?hf ?lcc ?top ?sup ?stat rfl rfl rfl rfl
      (case lC => k_is); (case hbm => rfl); (case sa => k_is); (case exC => k_is); (case tyC => k_is); (case kC => k_is); (case ga => k_is); (case gg => k_is); (case hd => k_is); (case ha => k_is); (case hn => k_is); (case ht => k_is); (case hm => k_is); (case mr => k_is); (case ve => k_is)
      (case no => refine' List.forall_mem_cons.mpr ⟨?_, fun _ z => nomatch z⟩; k_is)
      (case ini => kernel_rfl); (case i => k_is); (case tI => k_is); (case lf => k_is); (case cd => k_is); (case lc => k_is); (case hv => rfl); (case hf => kernel_rfl); (case lcc => k_is); (case top => kernel_rfl)
      (case sup => refine' PySem.W.mg_none_of KX G ?a; (case a => k_is)); (case stat => k_is))
    (case e_TooMany =>
      refine' DL.err_mk ?lC ?hbm ?sa ?exC ?tyC ?kC ?ga ?gg ?hd ?ha ?hn ?ht ?hm ?no ?mr ?ve ?ini ?i ?tI ?lf ?cd ?lc ?hv ?hf ?lcc ?top ?sup ?stat rfl rfl rfl rfl
      (case lC => k_is); (case hbm => rfl); (case sa => k_is); (case exC => k_is); (case tyC => k_is); (case kC => k_is); (case ga => k_is); (case gg => k_is); (case hd => k_is); (case ha => k_is); (case hn => k_is); (case ht => k_is); (case hm => k_is); (case mr => k_is); (case ve => k_is)
      (case no => refine' List.forall_mem_cons.mpr ⟨?_, List.forall_mem_cons.mpr ⟨?_, fun _ z => nomatch z⟩⟩; k_is; k_is)
      (case ini => kernel_rfl); (case i => k_is); (case tI => k_is); (case lf => k_is); (case cd => k_is); (case lc => k_is); (case hv => rfl); (case hf => kernel_rfl); (case lcc => k_is); (case top => kernel_rfl)
      (case sup => refine' PySem.W.mg_none_of KX G ?a; (case a => k_is)); (case stat => k_is))
    (case qg_ALONE => refine' PySem.W.mg_of KX G ?a; (case a => k_is))
    (case k_ALONE => refine' DL.ktup_mk ?lk_ALONE ?hk_ALONE ?zk_ALONE; (case lk_ALONE => k_is); (case hk_ALONE => repeat' constructor); (case zk_ALONE => decide))
    (case qg_ENDS => refine' PySem.W.mg_of KX G ?a; (case a => k_is))
    (case k_ENDS => refine' DL.ktup_mk ?lk_ENDS ?hk_ENDS ?zk_ENDS; (case lk_ENDS => k_is); (case hk_ENDS => repeat' constructor); (case zk_ENDS => decide))
    (case g_MOST_INTEGER => exact DL.loose_int LX (List.mem_singleton.mpr rfl))
    (case g_MOST_SLIDERS => refine' DL.gint_mk KX G ?a; (case a => k_is))
    (case g_MOST_STEPS => refine' DL.gint_mk KX G ?a; (case a => k_is))
    (case qg_PAIRS => refine' PySem.W.mg_of KX G ?a; (case a => k_is))
    (case k_PAIRS => refine' DL.ktup_mk ?lk_PAIRS ?hk_PAIRS ?zk_PAIRS; (case lk_PAIRS => k_is); (case hk_PAIRS => repeat' constructor); (case zk_PAIRS => decide))
    (case cl => refine' L2.Cls.mk ?pg ?hd ?po ?sa; (case pg => k_is); (case hd => k_is); (case po => k_is); (case sa => k_is))
    (case na_dimension => show PySem.W.findIn _ _ _ = _; k_is)
    (case na_sliders => show PySem.W.findIn _ _ _ = _; k_is)
    (case na_steps => show PySem.W.findIn _ _ _ = _; k_is)
    (case na_planes => show PySem.W.findIn _ _ _ = _; k_is)
    (case ins => refine' DL.insC_mk ?pg ?hd ?po ?sa ?ha ?hn ?ht ?hm; (case pg => k_is); (case hd => k_is); (case po => k_is); (case sa => k_is); (case ha => k_is); (case hn => k_is); (case ht => k_is); (case hm => k_is))
    (case neS => k_is)
    (case moS => k_is)
    (case iniM => refine' DL.meth_mk ?l ?c ?k (fun _ _ _ _ _ _ us hl => match us, hl with | [_, _, _, _], _ => rfl); (case l => k_is); (case c => k_is); (case k => k_is))
    (case eqM => refine' DL.meth_mk ?l ?c ?k (fun _ _ _ _ _ _ us hl => match us, hl with | [_, _], _ => rfl); (case l => k_is); (case c => k_is); (case k => k_is))
    (case fnE => k_is)
    (case ic_Shape => k_is)
    (case ty_Shape => k_is)
    (case ic_BadShape => k_is)
    (case ty_BadShape => k_is)
    (case ic_BadValue => k_is)
    (case ty_BadValue => k_is)
    (case ic_TooMany => k_is)
    (case ty_TooMany => k_is)
    (case ic_CutError => k_is)
    (case ty_CutError => k_is)
    (case s_SV => k_is)
    (case ne_SV => decide)
    (case s_ST => k_is)
    (case ne_ST => decide)
    (case s_VS => k_is)
    (case ne_VS => decide)
    (case s_VT => k_is)
    (case ne_VT => decide)
    (case s_TS => k_is)
    (case ne_TS => decide)
    (case s_TV => k_is)
    (case ne_TV => decide)
    (case s_S_C => k_is)
    (case s_V_C => k_is)
    (case s_T_C => k_is)
    (case x_C => k_is)
    (case tab => refine' DL.lawT_mk ?ltab ?htab ?notab ?hdtab; (case ltab => k_is); (case htab => rfl); (case notab => first | kernel_rfl | rfl); (case hdtab => kernel_rfl))
