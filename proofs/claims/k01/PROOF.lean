import PyProof.Rows.All
import Wide.All
import OpenK.AllK
import Wide.FinOn
import PyProof.EqAt
import PyProof.EqKinds
import PyProof.TupleCall
import HandS.Base
import HandS.Call
import HandS.List
import HandS.Comp
import HandS.Ends
import HandS.Iter
import HandS.Text
import HandS.Words
import HandS.WordsList
import HandS.More
import HandS.Wide
import HandS.Style
import HandS.Conv
import HandS.NoneIn
import HandS.IsInst
import HandS.FStr
import HandS.Slots
import HandS.SlotsOwn
import HandS.ClsMeth
import HandS.Exc
import HandS.Defaults
import HandS.MakeKw
import HandS.Lambda
import KE.KCallOwn
import KE.KFmtOwn
import PyProof.InstEq
import KE.OsMirror
import PyProof.ReprRoads
import HandS.FStrTup
import HandS.Codes
import HandS.Deep
import HandS.MakeKwOnly
import HandS.Dict
import KE.KEqNest
import PyProof.NeKinds
import KE.GoesEnum
import HandS.DictSub
import HandS.ExcCtx
import HandS.HotCalls
import HandS.ExcInit
import HandS.ExcIs
import HandS.ExcField
import KE.KExcInit
import PyProof.ExcBaseAll.ValueError
import PyProof.ExcBaseAll.ArithmeticError
import KE.KTryMore
import HandS.Hot
import HandS.EndTab
import HandS.TupAny
import HandS.TupMul
import HandS.TryMany
import HandS.ExcValue
import HandS.Head0
import HandS.Head1
import HandS.Head2
import HandS.HeadEnd
import HandS.HeadHook1
import HandS.HeadHook2
import HandS.HeadNt
import PyProof.ExcBaseAll.LookupError
import PySem.Challenge.RW_viewlots_k01_limits_and_errors
set_option Elab.async false
set_option linter.all false
set_option maxRecDepth 100000
set_option maxHeartbeats 4000000
namespace VL
open PySem L2

/-! ## Data: what a value is, seen whole -/
inductive D where
  | non
  | bl (b : Bool)
  | int (i : Int)
  | str (x : Str)
  | lst (xs : List D)
  | tup (xs : List D)
  | obj (C : Addr) (xs : List D)
  | tok
  | ptr (a : Addr)
  | dct
  | tg (φ : Hp → Prop) (a : Addr)

/-- three ints in a list, whatever they are: where draws come from -/
def CaskP (c : Addr) (h : Heap) : Prop := ∃ (its : List Value) (n : Nat) (i j k : Int), Vals [V.int i, V.int j, V.int k] its ∧ h.get? c = some { cls := .type "list", data := .seq its.toArray n }
def caskO (c : Addr) : HO := .ext (CaskP c)

/-! ## Heaps that grow: nothing that is tracked changes, but tables of code objects -/
def NT : HO → Prop
  | .tbl _ => False
  | _ => True
def Pl : HO → Prop
  | .tbl _ => False
  | .ext _ => False
  | _ => True
structure ExN (H H' : Hp) : Prop where
  k : ∀ a o, H a = some o → NT o → H' a = some o
  th : ∀ a o, H a = some o → ∃ o', H' a = some o'
theorem ExN.refl (H : Hp) : ExN H H := ⟨fun _ _ h _ => h, fun _ o h => ⟨o, h⟩⟩
theorem ExN.trans {H H1 H2 : Hp} (a : ExN H H1) (b : ExN H1 H2) : ExN H H2 := ⟨fun x o h n => b.k x o (a.k x o h n) n, fun x o h => let ⟨o1, h1⟩ := a.th x o h; b.th x o1 h1⟩
mutual
inductive At (K : PySem.W.Frag) (H : Hp) : V → D → Prop
  | non : At K H .non .non
  | bl (b : Bool) : At K H (.bl b) (.bl b)
  | int (i : Int) : At K H (.int i) (.int i)
  | str (x : Str) : At K H (.str x) (.str x)
  | lst {a : Addr} {vs : List V} {ds : List D} : SqL K H a vs → AtL K H vs ds → At K H (.ref a) (.lst ds)
  | tup {a : Addr} {vs : List V} {ds : List D} : SqT K H a vs → AtL K H vs ds → At K H (.ref a) (.tup ds)
  | obj {a C dx : Addr} {vs : List V} {ds : List D} : SlX.Slt H a C dx (vs.map some) → AtL K H vs ds → At K H (.ref a) (.obj C ds)
  | tok {c : Addr} : H c = some (caskO c) → At K H (.ref c) .tok
  | ptr (a : Addr) : At K H (.ref a) (.ptr a)
  | dct {a : Addr} : H a = some (.dK []) → At K H (.ref a) .dct
  | tg {φ : Hp → Prop} (a : Addr) : (∀ H', ExN H H' → φ H') → At K H (.ref a) (.tg φ a)
inductive AtL (K : PySem.W.Frag) (H : Hp) : List V → List D → Prop
  | nil : AtL K H [] []
  | cons {v : V} {vs : List V} {d : D} {ds : List D} : At K H v d → AtL K H vs ds → AtL K H (v :: vs) (d :: ds)
end

/-! ## Heaps that grow: nothing that is tracked changes, but tables of code objects -/
/-- the tables of code objects that may grow, with the name that their codes bear -/
class Tb where
  T : List (Addr × Str)
theorem pl_nt {o : HO} (h : Pl o) : NT o := by
  cases o <;> first | exact True.intro | exact h
structure Ex [Tb] (H H' : Hp) : Prop extends ExN H H' where
  t : ∀ p ∈ Tb.T, LamX.TabS H p.1 p.2 → LamX.TabS H' p.1 p.2
instance exCoe [Tb] {H H' : Hp} : Coe (Ex H H') (ExN H H') := ⟨Ex.toExN⟩
theorem ExN.of {H H' : Hp} (e : ∀ a o, H a = some o → H' a = some o) : ExN H H' := ⟨fun a o h _ => e a o h, fun a o h => ⟨o, e a o h⟩⟩
theorem ExN.back {H H' : Hp} {p : Addr} (e : ExN H H') (h : H' p = none) : H p = none := by
  cases h1 : H p with
  | none => rfl
  | some o =>
    obtain ⟨o', h2⟩ := e.th p o h1
    rw [h2] at h
    cases h
theorem Ex.refl [Tb] (H : Hp) : Ex H H := ⟨ExN.refl H, fun _ _ h => h⟩
theorem Ex.trans [Tb] {H H1 H2 : Hp} (a : Ex H H1) (b : Ex H1 H2) : Ex H H2 := ⟨a.toExN.trans b.toExN, fun p hp h => b.t p hp (a.t p hp h)⟩
theorem Ex.of [Tb] {H H' : Hp} (e : ∀ a o, H a = some o → H' a = some o) : Ex H H' := ⟨ExN.of e, fun p _ h => h.ext e⟩
theorem Ex.new [Tb] {H : Hp} {p : Addr} {o : HO} (h : H p = none) : Ex H (upd H p o) := Ex.of fun a u e => by
  rw [upd_ne (ne_of_none e h)]
  exact e
theorem codeO_pl {c : Addr} {q : Str} {o : HO} (h : LamX.CodeO c q = o) : ¬ Pl o := fun z => by
  rw [← h] at z
  exact z
/-- an own list is written -/
theorem Ex.mut [Tb] {H H' : Hp} {p : Addr} {o u : HO} (e : Ex H H') (h : H p = none) (hu : H' p = some u) (pu : Pl u) : Ex H (upd H' p o) := by
  refine ⟨⟨fun a u ha n => ?_, fun a u ha => ?_⟩, fun q hq t => ?_⟩
  · rw [upd_ne (ne_of_none ha h)]
    exact e.k a u ha n
  · rw [upd_ne (ne_of_none ha h)]
    exact e.th a u ha
  · obtain ⟨ps, h1, h2, h3⟩ := e.t q hq t
    obtain ⟨ps0, g1, _⟩ := t
    refine ⟨ps, by rw [upd_ne (ne_of_none g1 h)]; exact h1, h2, fun pos cv hc => ?_⟩
    obtain ⟨c, e1, e2⟩ := h3 pos cv hc
    refine ⟨c, e1, ?_⟩
    rw [upd_ne fun z => ?_]
    · exact e2
    · rw [z, hu] at e2
      exact codeO_pl (Option.some.inj e2).symm pu
theorem Ex.back [Tb] {H H' : Hp} {p : Addr} (e : Ex H H') (h : H' p = none) : H p = none := e.toExN.back h
theorem ex_rd {H H' : Hp} {a : Addr} {u : HO} (e : ExN H H') (h : Rd H a u) (n : NT u) : Rd H' a u := by
  rcases h with h | ⟨o, h⟩
  · exact Or.inl (e.k a _ h n)
  · exact Or.inr ⟨o, e.k a _ h True.intro⟩
theorem ex_l {K : PySem.W.Frag} {H H' : Hp} {a : Addr} {xs : List V} (e : ExN H H') (h : SqL K H a xs) : SqL K H' a xs := by
  rcases h with h | h
  · exact Or.inl (ex_rd e h True.intro)
  · exact Or.inr h
theorem ex_t {K : PySem.W.Frag} {H H' : Hp} {a : Addr} {xs : List V} (e : ExN H H') (h : SqT K H a xs) : SqT K H' a xs := by
  rcases h with h | h
  · exact Or.inl (ex_rd e h True.intro)
  · exact Or.inr h
theorem ex_s {H H' : Hp} {a C dx : Addr} {vs : List (Option V)} (e : ExN H H') (h : SlX.Slt H a C dx vs) : SlX.Slt H' a C dx vs := by
  rcases h with ⟨h, q⟩ | ⟨h, q⟩
  · exact Or.inl ⟨e.k _ _ h True.intro, q⟩
  · exact Or.inr ⟨e.k _ _ h True.intro, e.k _ _ q True.intro⟩
mutual
theorem At.mono {K : PySem.W.Frag} {H H' : Hp} (e : ExN H H') : ∀ {v : V} {d : D}, At K H v d → At K H' v d
  | _, _, .non => .non
  | _, _, .bl b => .bl b
  | _, _, .int i => .int i
  | _, _, .str x => .str x
  | _, _, .lst h t => .lst (ex_l e h) (AtL.mono e t)
  | _, _, .tup h t => .tup (ex_t e h) (AtL.mono e t)
  | _, _, .obj h t => .obj (ex_s e h) (AtL.mono e t)
  | _, _, .tok h => .tok (e.k _ _ h True.intro)
  | _, _, .ptr a => .ptr a
  | _, _, .dct h => .dct (e.k _ _ h True.intro)
  | _, _, .tg a h => .tg a fun H'' e' => h H'' (e.trans e')
theorem AtL.mono {K : PySem.W.Frag} {H H' : Hp} (e : ExN H H') : ∀ {vs : List V} {ds : List D}, AtL K H vs ds → AtL K H' vs ds
  | _, _, .nil => .nil
  | _, _, .cons h t => .cons (At.mono e h) (AtL.mono e t)
end
section
variable {K : PySem.W.Frag} {H : Hp}
theorem AtL.length : ∀ {vs : List V} {ds : List D}, AtL K H vs ds → vs.length = ds.length
  | _, _, .nil => rfl
  | _, _, .cons _ t => by rw [List.length_cons, List.length_cons, AtL.length t]
theorem AtL.get : ∀ {vs : List V} {ds : List D} {i : Nat} {d : D}, AtL K H vs ds → ds[i]? = some d → ∃ v, vs[i]? = some v ∧ At K H v d
  | _, _, _, _, .nil, e => by simp at e
  | _, _, 0, _, .cons h _, e => by
    simp at e
    subst e
    exact ⟨_, rfl, h⟩
  | _, _, i + 1, d, .cons _ t, e => by
    obtain ⟨v, h1, h2⟩ := AtL.get (i := i) (d := d) t (by simpa using e)
    exact ⟨v, by simpa using h1, h2⟩
theorem AtL.get' : ∀ {vs : List V} {ds : List D} {i : Nat} {v : V}, AtL K H vs ds → vs[i]? = some v → ∃ d, ds[i]? = some d ∧ At K H v d
  | _, _, _, _, .nil, e => by simp at e
  | _, _, 0, _, .cons h _, e => by
    simp at e
    subst e
    exact ⟨_, rfl, h⟩
  | _, _, i + 1, v, .cons _ t, e => by
    obtain ⟨d, h1, h2⟩ := AtL.get' (i := i) (v := v) t (by simpa using e)
    exact ⟨d, by simpa using h1, h2⟩
theorem AtL.append : ∀ {vs us : List V} {ds es : List D}, AtL K H vs ds → AtL K H us es → AtL K H (vs ++ us) (ds ++ es)
  | _, _, _, _, .nil, s => s
  | _, _, _, _, .cons h t, s => .cons h (AtL.append t s)
theorem AtL.take : ∀ {vs : List V} {ds : List D} (n : Nat), AtL K H vs ds → AtL K H (vs.take n) (ds.take n)
  | _, _, 0, _ => by simpa using AtL.nil
  | _, _, _ + 1, .nil => .nil
  | _, _, n + 1, .cons h t => .cons h (AtL.take n t)
theorem AtL.drop : ∀ {vs : List V} {ds : List D} (n : Nat), AtL K H vs ds → AtL K H (vs.drop n) (ds.drop n)
  | _, _, 0, r => r
  | _, _, _ + 1, .nil => .nil
  | _, _, n + 1, .cons _ t => AtL.drop n t
theorem AtL.set : ∀ {vs : List V} {ds : List D} {v : V} {d : D} (i : Nat), AtL K H vs ds → At K H v d → AtL K H (vs.set i v) (ds.set i d)
  | _, _, _, _, _, .nil, _ => .nil
  | _, _, _, _, 0, .cons _ t, q => .cons q t
  | _, _, _, _, i + 1, .cons h t, q => .cons h (AtL.set i t q)
theorem At.inv_int {v : V} {i : Int} (h : At K H v (.int i)) : v = .int i := by cases h; rfl
theorem At.inv_bl {v : V} {b : Bool} (h : At K H v (.bl b)) : v = .bl b := by cases h; rfl
theorem At.inv_non {v : V} (h : At K H v .non) : v = .non := by cases h; rfl
theorem At.inv_str {v : V} {x : Str} (h : At K H v (.str x)) : v = .str x := by cases h; rfl
theorem At.inv_tup {v : V} {ds : List D} (h : At K H v (.tup ds)) : ∃ a vs, v = .ref a ∧ SqT K H a vs ∧ AtL K H vs ds := by
  cases h with
  | tup h t => exact ⟨_, _, rfl, h, t⟩
theorem At.inv_lst {v : V} {ds : List D} (h : At K H v (.lst ds)) : ∃ a vs, v = .ref a ∧ SqL K H a vs ∧ AtL K H vs ds := by
  cases h with
  | lst h t => exact ⟨_, _, rfl, h, t⟩
theorem At.inv_obj {v : V} {C : Addr} {ds : List D} (h : At K H v (.obj C ds)) : ∃ a dx vs, v = .ref a ∧ SlX.Slt H a C dx (vs.map some) ∧ AtL K H vs ds := by
  cases h with
  | obj h t => exact ⟨_, _, _, rfl, h, t⟩
theorem At.inv_ptr {v : V} {a : Addr} (h : At K H v (.ptr a)) : v = .ref a := by cases h; rfl
theorem At.inv_tok {v : V} (h : At K H v .tok) : ∃ c, v = .ref c ∧ H c = some (caskO c) := by
  cases h with
  | tok h => exact ⟨_, rfl, h⟩
end

/-! ## The heap without some objects -/
def hide (S : List Addr) (H : Hp) : Hp := fun a => if a ∈ S then none else H a
theorem hide_in {S : List Addr} {H : Hp} {a : Addr} (h : a ∈ S) : hide S H a = none := if_pos h
theorem hide_out {S : List Addr} {H : Hp} {a : Addr} (h : a ∉ S) : hide S H a = H a := if_neg h
theorem hide_exN {S : List Addr} {H H' : Hp} (e : ExN H H') : ExN (hide S H) (hide S H') := by
  refine ⟨fun a o h n => ?_, fun a o h => ?_⟩
  · by_cases q : a ∈ S
    · rw [hide_in q] at h
      cases h
    · rw [hide_out q] at h ⊢
      exact e.k a o h n
  · by_cases q : a ∈ S
    · rw [hide_in q] at h
      cases h
    · rw [hide_out q] at h ⊢
      exact e.th a o h
theorem hide_ex [Tb] {S : List Addr} {H H' : Hp} (e : Ex H H') : ExN (hide S H) (hide S H') := hide_exN e.toExN
theorem hide_le {S : List Addr} {H : Hp} : ExN (hide S H) H := ExN.of fun a o h => by
  by_cases q : a ∈ S
  · rw [hide_in q] at h
    cases h
  · rwa [hide_out q] at h
theorem hide_sub {S T : List Addr} {H : Hp} (s : ∀ a ∈ S, a ∈ T) : ExN (hide T H) (hide S H) := ExN.of fun a o h => by
  by_cases q : a ∈ T
  · rw [hide_in q] at h
    cases h
  · rw [hide_out q] at h
    rw [hide_out fun z => q (s a z)]
    exact h
theorem hide_upd {S : List Addr} {H : Hp} {p : Addr} {o : HO} (h : p ∈ S) : hide S (upd H p o) = hide S H := by
  funext a
  by_cases q : a ∈ S
  · rw [hide_in q, hide_in q]
  · rw [hide_out q, hide_out q, upd_ne fun z => q (by rw [z]; exact h)]
/-- what is hidden is tracked, and is no table and none of a foreign kind; the tables are as they should be -/
structure Trk [Tb] (S : List Addr) (H : Hp) : Prop where
  tr : ∀ a ∈ S, ∃ o, H a = some o ∧ Pl o
  tb : ∀ p ∈ Tb.T, LamX.TabS H p.1 p.2
instance [Tb] {S : List Addr} {H : Hp} : CoeFun (Trk S H) (fun _ => ∀ a ∈ S, ∃ o, H a = some o ∧ Pl o) := ⟨Trk.tr⟩
theorem Trk.mono [Tb] {S : List Addr} {H H' : Hp} (t : Trk S H) (e : Ex H H') : Trk S H' := ⟨fun a ha => let ⟨o, q, n⟩ := t.tr a ha; ⟨o, e.k a o q (pl_nt n), n⟩, fun p hp => e.t p hp (t.tb p hp)⟩
theorem tabS_upd {H : Hp} {P p : Addr} {q : Str} {o u : HO} (t : LamX.TabS H P q) (hu : H p = some u) (pu : Pl u) : LamX.TabS (upd H p o) P q := by
  obtain ⟨ps, h1, h2, h3⟩ := t
  have ne : P ≠ p := fun z => by
    rw [z, hu] at h1
    cases h1
    exact pu
  refine ⟨ps, by rw [upd_ne ne]; exact h1, h2, fun pos cv hc => ?_⟩
  obtain ⟨c, e1, e2⟩ := h3 pos cv hc
  refine ⟨c, e1, ?_⟩
  rw [upd_ne fun z => ?_]
  · exact e2
  · rw [z, hu] at e2
    exact codeO_pl (Option.some.inj e2).symm pu
/-- a new object, out of all that is hidden -/
theorem hide_new [Tb] {S : List Addr} {H : Hp} {p : Addr} (t : Trk S H) (h : H p = none) : p ∉ S := fun z => by
  obtain ⟨u, q, _⟩ := t.tr p z
  rw [h] at q
  cases q

/-! ## The frame's names -/
inductive Ent where
  | un
  | dat (d : D)
  | own (ds : List D)
abbrev Rho := List Ent

structure EnvOk [Tb] (K : PySem.W.Frag) (S : List Addr) (H : Hp) (σ : L2.St) (ρ : Rho) : Prop where
  len : σ.length = ρ.length
  trk : Trk S H
  dat : ∀ (i : Nat) (d : D), ρ[i]? = some (.dat d) → ∃ v, σ[i]? = some (some v) ∧ At K (hide S H) v d
  own : ∀ (i : Nat) (ds : List D), ρ[i]? = some (.own ds) → ∃ p vs, σ[i]? = some (some (.ref p)) ∧ p ∈ S ∧ H p = some (.lst vs) ∧ AtL K (hide S H) vs ds
  sep : ∀ (i j : Nat) (ds es : List D) (p : Addr), ρ[i]? = some (.own ds) → ρ[j]? = some (.own es) → σ[i]? = some (some (.ref p)) → σ[j]? = some (some (.ref p)) → i = j
section
variable [Tb]
variable {K : PySem.W.Frag} {S : List Addr} {H H' : Hp} {σ : L2.St} {ρ : Rho}
theorem EnvOk.mono (E : EnvOk K S H σ ρ) (e : Ex H H') : EnvOk K S H' σ ρ :=
  ⟨E.len, E.trk.mono e, fun i d h => let ⟨v, q, r⟩ := E.dat i d h; ⟨v, q, r.mono (hide_ex e)⟩,
    fun i ds h => let ⟨p, vs, q, r, t, u⟩ := E.own i ds h; ⟨p, vs, q, r, e.k _ _ t True.intro, u.mono (hide_ex e)⟩, E.sep⟩
theorem ent_set {ρ : Rho} {i j : Nat} {e x : Ent} (h : (ρ.set i e)[j]? = some x) : (j = i ∧ x = e) ∨ (j ≠ i ∧ ρ[j]? = some x) := by
  by_cases q : j = i
  · subst q
    rw [List.getElem?_set] at h
    split at h
    · split at h
      · exact .inl ⟨rfl, (Option.some.inj h).symm⟩
      · cases h
    · rename_i z
      exact absurd rfl z
  · rw [List.getElem?_set_ne (Ne.symm q)] at h
    exact .inr ⟨q, h⟩
theorem get_lt {α : Type} {l : List α} {i : Nat} {x : α} (h : l[i]? = some x) : i < l.length := (List.getElem?_eq_some_iff.mp h).1
theorem set_lt {ρ : Rho} {i : Nat} {e x : Ent} (h : (ρ.set i e)[i]? = some x) : i < ρ.length := by
  have := get_lt h
  simpa using this
/-- a name is stored: data -/
theorem EnvOk.store (E : EnvOk K S H σ ρ) {i : Nat} {v : V} {d : D} (a : At K (hide S H) v d) : EnvOk K S H (σ.set i (some v)) (ρ.set i (.dat d)) := by
  refine ⟨by simp [E.len], E.trk, fun j x h => ?_, fun j ds h => ?_, fun j l ds es p h1 h2 h3 h4 => ?_⟩
  · rcases ent_set h with ⟨rfl, q⟩ | ⟨ne, q⟩
    · cases q
      exact ⟨v, List.getElem?_set_self (by rw [E.len]; exact set_lt h), a⟩
    · obtain ⟨u, h1, h2⟩ := E.dat j x q
      exact ⟨u, by rw [List.getElem?_set_ne (Ne.symm ne)]; exact h1, h2⟩
  · rcases ent_set h with ⟨rfl, q⟩ | ⟨ne, q⟩
    · cases q
    · obtain ⟨p, vs, h1, h2, h3, h4⟩ := E.own j ds q
      exact ⟨p, vs, by rw [List.getElem?_set_ne (Ne.symm ne)]; exact h1, h2, h3, h4⟩
  · rcases ent_set h1 with ⟨rfl, q⟩ | ⟨ne, q⟩
    · cases q
    · rcases ent_set h2 with ⟨rfl, r⟩ | ⟨me, r⟩
      · cases r
      · rw [List.getElem?_set_ne (Ne.symm ne)] at h3
        rw [List.getElem?_set_ne (Ne.symm me)] at h4
        exact E.sep j l ds es p q r h3 h4
/-- an object that came new is hidden too -/
theorem EnvOk.hid (E : EnvOk K S H σ ρ) (e : Ex H H') {p : Addr} {o : HO} (hn : H p = none) (hp : H' p = some o) (po : Pl o := by exact True.intro) : p ∉ S ∧ EnvOk K (p :: S) H' σ ρ := by
  have np : p ∉ S := hide_new E.trk hn
  have k : ExN (hide S H) (hide (p :: S) H') := by
   have key : ∀ a u, hide S H a = some u → hide (p :: S) H' a = H' a ∧ H a = some u := fun a u h => by
    have ha : a ∉ S := fun z => by
      rw [hide_in z] at h
      cases h
    rw [hide_out ha] at h
    have ne : a ≠ p := fun z => by
      rw [z, hn] at h
      cases h
    exact ⟨hide_out (by simp [ne, ha]), h⟩
   exact ⟨fun a u h n => let ⟨k1, k2⟩ := key a u h; k1.trans (e.k a u k2 n), fun a u h => let ⟨k1, k2⟩ := key a u h; let ⟨o', k3⟩ := e.th a u k2; ⟨o', k1.trans k3⟩⟩
  refine ⟨np, E.len, ⟨fun a ha => ?_, fun p hp => e.t p hp (E.trk.tb p hp)⟩, fun i d h => ?_, fun i ds h => ?_, E.sep⟩
  · rcases List.mem_cons.mp ha with q | q
    · exact ⟨o, by rw [q]; exact hp, po⟩
    · obtain ⟨u, q, n⟩ := E.trk.tr a q
      exact ⟨u, e.k _ _ q (pl_nt n), n⟩
  · obtain ⟨v, q, r⟩ := E.dat i d h
    exact ⟨v, q, r.mono k⟩
  · obtain ⟨q, vs, h1, h2, h3, h4⟩ := E.own i ds h
    exact ⟨q, vs, h1, List.mem_cons_of_mem _ h2, e.k _ _ h3 True.intro, h4.mono k⟩
/-- a name is stored: a new list of one's own -/
theorem EnvOk.storeOwn (E : EnvOk K S H σ ρ) (e : Ex H H') {i : Nat} {p : Addr} {vs : List V} {ds : List D} (hn : H p = none) (hp : H' p = some (.lst vs)) (a : AtL K (hide (p :: S) H') vs ds) :
    EnvOk K (p :: S) H' (σ.set i (some (.ref p))) (ρ.set i (.own ds)) := by
  obtain ⟨np, un⟩ := E.hid e hn hp
  refine ⟨by simp [E.len], un.trk, fun j x h => ?_, fun j es h => ?_, fun j l es fs q h1 h2 h3 h4 => ?_⟩
  · rcases ent_set h with ⟨rfl, q⟩ | ⟨ne, q⟩
    · cases q
    · obtain ⟨u, h1, h2⟩ := un.dat j x q
      exact ⟨u, by rw [List.getElem?_set_ne (Ne.symm ne)]; exact h1, h2⟩
  · rcases ent_set h with ⟨rfl, q⟩ | ⟨ne, q⟩
    · cases q
      exact ⟨p, vs, List.getElem?_set_self (by rw [E.len]; exact set_lt h), List.mem_cons_self, hp, a⟩
    · obtain ⟨p', vs', h1, h2, h3, h4⟩ := un.own j es q
      exact ⟨p', vs', by rw [List.getElem?_set_ne (Ne.symm ne)]; exact h1, h2, h3, h4⟩
  · have old : ∀ {m : Nat} {gs : List D}, m ≠ i → ρ[m]? = some (.own gs) → (σ.set i (some (.ref p)))[m]? = some (some (.ref p)) → False := fun {m gs} ne r z => by
      obtain ⟨p', vs', k1, k2, _, _⟩ := E.own m gs r
      rw [List.getElem?_set_ne (Ne.symm ne), k1] at z
      cases z
      exact np k2
    rcases ent_set h1 with ⟨rfl, r⟩ | ⟨ne, r⟩
    · rcases ent_set h2 with ⟨rfl, t⟩ | ⟨me, t⟩
      · rfl
      · rw [List.getElem?_set_self (by rw [E.len]; exact set_lt h1)] at h3
        cases h3
        exact (old me t h4).elim
    · rcases ent_set h2 with ⟨rfl, t⟩ | ⟨me, t⟩
      · rw [List.getElem?_set_self (by rw [E.len]; exact set_lt h2)] at h4
        cases h4
        exact (old ne r h3).elim
      · rw [List.getElem?_set_ne (Ne.symm ne)] at h3
        rw [List.getElem?_set_ne (Ne.symm me)] at h4
        exact E.sep j l es fs q r t h3 h4
end
end VL

set_option Elab.async false
set_option linter.all false
set_option maxRecDepth 100000
set_option maxHeartbeats 4000000
namespace VL
variable [Tb]
open PySem L2

/-! ## Judgements -/
def tE (K : PySem.W.Frag) (ρ : Rho) (k : D → Prop) : TE := fun σ H Q => ∃ S, EnvOk K S H σ ρ ∧ ∀ v H2 d, Ex H H2 → At K (hide S H2) v d → k d → Q v H2
def tT (K : PySem.W.Frag) (ρ : Rho) (k : Bool → Prop) : TT := fun σ H Q => ∃ S, EnvOk K S H σ ρ ∧ ∀ b H2, Ex H H2 → k b → Q b H2
def tA (K : PySem.W.Frag) (ρ : Rho) (k : List D → Prop) : TA := fun σ H Q => ∃ S, EnvOk K S H σ ρ ∧ ∀ vs H2 ds, Ex H H2 → AtL K (hide S H2) vs ds → k ds → Q vs H2
/-- a list, perhaps one of the frame's own, to be read -/
def tL (K : PySem.W.Frag) (ρ : Rho) (k : List D → Prop) : TE := fun σ H Q => ∃ S, EnvOk K S H σ ρ ∧ ∀ a H2 vs ds, Ex H H2 → SqL K H2 a vs → AtL K (hide S H2) vs ds → k ds → Q (.ref a) H2
/-- a new list -/
def tN (K : PySem.W.Frag) (ρ : Rho) (k : List D → Prop) : TE := fun σ H Q => ∃ S, EnvOk K S H σ ρ ∧ ∀ p H2 vs ds, H p = none → Ex H H2 → H2 p = some (.lst vs) → AtL K (hide (p :: S) H2) vs ds → k ds → Q (.ref p) H2
def XE (X : Cx) (e : Expr) (ρ : Rho) (k : D → Prop) : Prop := PE X e (tE X.K ρ k)
def XT (X : Cx) (e : Expr) (ρ : Rho) (k : Bool → Prop) : Prop := PT X e (tT X.K ρ k)
def XW (X : Cx) (e : Expr) (ρ : Rho) (k : Bool → Prop) : Prop := PW X e (tT X.K ρ k)
def XA (X : Cx) (es : List Expr) (ρ : Rho) (k : List D → Prop) : Prop := PA X es (tA X.K ρ k)
def XL (X : Cx) (e : Expr) (ρ : Rho) (k : List D → Prop) : Prop := PE X e (tL X.K ρ k)
def XN (X : Cx) (e : Expr) (ρ : Rho) (k : List D → Prop) : Prop := PE X e (tN X.K ρ k)

/-! any reading that holds -/
def aE (X : Cx) (e : Expr) : TE := fun σ H Q => ∃ t, PE X e t ∧ t σ H Q
def aT (X : Cx) (e : Expr) : TT := fun σ H Q => ∃ t, PT X e t ∧ t σ H Q
def aW (X : Cx) (e : Expr) : TT := fun σ H Q => ∃ t, PW X e t ∧ t σ H Q
def aA (X : Cx) (es : List Expr) : TA := fun σ H Q => ∃ t, PA X es t ∧ t σ H Q
def aS (X : Cx) (st : Stmt) : TS := fun D σ H => ∃ t, PS X st t ∧ t D σ H
def aSs (X : Cx) (st : List Stmt) : TS := fun D σ H => ∃ t, PSs X st t ∧ t D σ H
section
variable {X : Cx} {e : Expr} {es : List Expr} {st : Stmt} {sts : List Stmt}
theorem anyE : PE X e (aE X e) := ⟨fun pins s σ H Q I ⟨_, h, q⟩ => h.run pins s σ H Q I q⟩
theorem anyT : PT X e (aT X e) := ⟨fun pins s σ H Q I ⟨_, h, q⟩ => h.run pins s σ H Q I q⟩
theorem anyW : PW X e (aW X e) := ⟨fun wh pins s σ H Q I ⟨_, h, q⟩ => h.run wh pins s σ H Q I q⟩
theorem anyA : PA X es (aA X es) := ⟨fun pos pins s σ H Q I ⟨_, h, q⟩ => h.run pos pins s σ H Q I q⟩
theorem anyS : PS X st (aS X st) := ⟨fun pins s σ H D I ⟨_, h, q⟩ => h.run pins s σ H D I q⟩
theorem anySs : PSs X sts (aSs X sts) := ⟨fun pins s σ H D I ⟨_, h, q⟩ => h.run pins s σ H D I q⟩
theorem impE {t t' : TE} (h : PE X e t) (i : ∀ σ H Q, t' σ H Q → t σ H Q) : PE X e t' := ⟨fun pins s σ H Q I q => h.run pins s σ H Q I (i _ _ _ q)⟩
theorem impT {t t' : TT} (h : PT X e t) (i : ∀ σ H Q, t' σ H Q → t σ H Q) : PT X e t' := ⟨fun pins s σ H Q I q => h.run pins s σ H Q I (i _ _ _ q)⟩
theorem impW {t t' : TT} (h : PW X e t) (i : ∀ σ H Q, t' σ H Q → t σ H Q) : PW X e t' := ⟨fun wh pins s σ H Q I q => h.run wh pins s σ H Q I (i _ _ _ q)⟩
theorem impA {t t' : TA} (h : PA X es t) (i : ∀ σ H Q, t' σ H Q → t σ H Q) : PA X es t' := ⟨fun pos pins s σ H Q I q => h.run pos pins s σ H Q I (i _ _ _ q)⟩
theorem impS {t t' : TS} (h : PS X st t) (i : ∀ D σ H, t' D σ H → t D σ H) : PS X st t' := ⟨fun pins s σ H D I q => h.run pins s σ H D I (i _ _ _ q)⟩
theorem impSs {t t' : TS} (h : PSs X sts t) (i : ∀ D σ H, t' D σ H → t D σ H) : PSs X sts t' := ⟨fun pins s σ H D I q => h.run pins s σ H D I (i _ _ _ q)⟩
end

section
variable {X : Cx} {ρ : Rho} {a b c e : Expr} {es : List Expr} {pos : Pos} {k : D → Prop} {kb : Bool → Prop} {kl : List D → Prop}
/-! ## use: from a judgement, a step of a reading -/
theorem useE {S : List Addr} {H : Hp} {σ : L2.St} {Q : VK} (h : XE X e ρ k) (E : EnvOk X.K S H σ ρ) (q : ∀ v H2 d, Ex H H2 → At X.K (hide S H2) v d → k d → Q v H2) : aE X e σ H Q := ⟨_, h, S, E, q⟩
theorem useT {S : List Addr} {H : Hp} {σ : L2.St} {Q : Bool → Hp → Prop} (h : XT X e ρ kb) (E : EnvOk X.K S H σ ρ) (q : ∀ v H2, Ex H H2 → kb v → Q v H2) : aT X e σ H Q := ⟨_, h, S, E, q⟩
theorem useW {S : List Addr} {H : Hp} {σ : L2.St} {Q : Bool → Hp → Prop} (h : XW X e ρ kb) (E : EnvOk X.K S H σ ρ) (q : ∀ v H2, Ex H H2 → kb v → Q v H2) : aW X e σ H Q := ⟨_, h, S, E, q⟩
theorem useA {S : List Addr} {H : Hp} {σ : L2.St} {Q : List V → Hp → Prop} (h : XA X es ρ kl) (E : EnvOk X.K S H σ ρ) (q : ∀ v H2 d, Ex H H2 → AtL X.K (hide S H2) v d → kl d → Q v H2) : aA X es σ H Q := ⟨_, h, S, E, q⟩
theorem useL {S : List Addr} {H : Hp} {σ : L2.St} {Q : VK} (h : XL X e ρ kl) (E : EnvOk X.K S H σ ρ) (q : ∀ p H2 vs ds, Ex H H2 → SqL X.K H2 p vs → AtL X.K (hide S H2) vs ds → kl ds → Q (.ref p) H2) : aE X e σ H Q := ⟨_, h, S, E, q⟩

theorem XE.imp {k' : D → Prop} (h : XE X e ρ k) (i : ∀ d, k d → k' d) : XE X e ρ k' := impE h fun _ _ _ ⟨S, E, q⟩ => ⟨S, E, fun v H2 d e a kd => q v H2 d e a (i d kd)⟩

/-! ## names, constants -/
theorem xe_var (i : Nat) {x : Str} {d : D} (hd : ρ[i]? = some (.dat d)) (h : k d) (hN : X.N[i]? = some x := by rfl) (hv : Vis X.env.scope x := by first | exact Or.inl rfl | exact Or.inr (Or.inl rfl) | exact Or.inr (Or.inr rfl))
    (h1 : (x == ("__debug__" : Str)) = false := by decide) (h2 : (x == ("__classdict__" : Str)) = false := by decide) : XE X (.Name x pos) ρ k :=
  impE (pe_var hN hv h1 h2) fun σ H Q ⟨S, E, q⟩ => by
    obtain ⟨v, e, a⟩ := E.dat i d hd
    exact ⟨v, e, q v H d (Ex.refl H) a h⟩
theorem xe_int {i : Int} {j : Nat} (h : k (.int i)) : XE X (.Constant (.int i) j pos) ρ k := impE pe_int fun σ H Q ⟨S, E, q⟩ => q _ _ _ (Ex.refl H) (.int i) h
theorem xe_bl {b : Bool} {j : Nat} (h : k (.bl b)) : XE X (.Constant (.bool b) j pos) ρ k := impE pe_bl fun σ H Q ⟨S, E, q⟩ => q _ _ _ (Ex.refl H) (.bl b) h
theorem xe_non {j : Nat} (h : k .non) : XE X (.Constant .none j pos) ρ k := impE pe_non fun σ H Q ⟨S, E, q⟩ => q _ _ _ (Ex.refl H) .non h
theorem xe_str {x : Str} {j : Nat} (h : k (.str x)) : XE X (.Constant (.str x) j pos) ρ k := impE pe_str fun σ H Q ⟨S, E, q⟩ => q _ _ _ (Ex.refl H) (.str x) h
/-- a module's constant that is plain -/
theorem xe_glob {x : Str} {u : Value} {v : V} {d : D} (hm : X.mg x = some u) (r : RelV v u) (hd : ∀ H, At X.K H v d) (h : k d) (hg : Gl X x := by rfl) (hdb : (x == ("__debug__" : Str)) = false := by decide) : XE X (.Name x pos) ρ k := impE (pe_glob hg hm r hdb) fun σ H Q ⟨S, E, q⟩ => q _ _ _ (Ex.refl H) (hd _) h

/-! ## operators on two ints -/
theorem xe_opI {op : Operator} {C : Int → Int → Prop} {g : Int → Int → V} (f : Int → Int → D) (ho : OpR X (binaryOp op) (rI C g)) (hg : ∀ i j H, At X.K H (g i j) (f i j))
    (h : XE X a ρ fun x => ∃ i, x = .int i ∧ XE X b ρ fun y => ∃ j, y = .int j ∧ C i j ∧ k (f i j)) : XE X (.BinOp a op b pos) ρ k :=
  impE (pe_op ho anyE anyE) fun σ H Q ⟨S, E, q⟩ => useE h E fun x H1 d e1 a1 ⟨i, hi, hb⟩ => useE hb (E.mono e1) fun y H2 d2 e2 a2 ⟨j, hj, hc, hk⟩ => by
    subst hi hj
    exact ⟨i, j, a1.inv_int, a2.inv_int, hc, q _ _ _ (e1.trans e2) (hg i j _) hk⟩
theorem xe_opI0 {op : Operator} {g : Int → Int → V} (f : Int → Int → D) (ho : OpR X (binaryOp op) (rI0 g)) (hg : ∀ i j H, At X.K H (g i j) (f i j))
    (h : XE X a ρ fun x => ∃ i, x = .int i ∧ XE X b ρ fun y => ∃ j, y = .int j ∧ k (f i j)) : XE X (.BinOp a op b pos) ρ k :=
  impE (pe_op ho anyE anyE) fun σ H Q ⟨S, E, q⟩ => useE h E fun x H1 d e1 a1 ⟨i, hi, hb⟩ => useE hb (E.mono e1) fun y H2 d2 e2 a2 ⟨j, hj, hk⟩ => by
    subst hi hj
    exact ⟨i, j, a1.inv_int, a2.inv_int, q _ _ _ (e1.trans e2) (hg i j _) hk⟩
theorem xe_add (h : XE X a ρ fun x => ∃ i, x = .int i ∧ XE X b ρ fun y => ∃ j, y = .int j ∧ k (.int (i + j))) : XE X (.BinOp a .Add b pos) ρ k := xe_opI0 (fun i j => .int (i + j)) op_add (fun _ _ _ => .int _) h
theorem xe_sub (h : XE X a ρ fun x => ∃ i, x = .int i ∧ XE X b ρ fun y => ∃ j, y = .int j ∧ k (.int (i - j))) : XE X (.BinOp a .Sub b pos) ρ k := xe_opI0 (fun i j => .int (i - j)) op_sub (fun _ _ _ => .int _) h
/-- a product: one factor small, or both of together less than a million bits -/
def MulOk (i j : Int) : Prop := CMul i j ∨ CMulW i j
theorem op_mulX {X : Cx} : OpR X (binaryOp .Mult) (rI MulOk fun i j => .int (i * j)) := opI fun _ _ _ _ _ _ _ hc q => PyProof.Rows.mul_int q (hc.elim (fun h => h.ok) fun h => h.ok)
theorem xe_mul (h : XE X a ρ fun x => ∃ i, x = .int i ∧ XE X b ρ fun y => ∃ j, y = .int j ∧ MulOk i j ∧ k (.int (i * j))) : XE X (.BinOp a .Mult b pos) ρ k := xe_opI (fun i j => .int (i * j)) op_mulX (fun _ _ _ => .int _) h
theorem xe_div (h : XE X a ρ fun x => ∃ i, x = .int i ∧ XE X b ρ fun y => ∃ j, y = .int j ∧ CDivW i j ∧ k (.int (i / j))) : XE X (.BinOp a .FloorDiv b pos) ρ k := xe_opI (fun i j => .int (i / j)) op_fdivW (fun _ _ _ => .int _) h
theorem xe_mod (h : XE X a ρ fun x => ∃ i, x = .int i ∧ XE X b ρ fun y => ∃ j, y = .int j ∧ 0 < j ∧ k (.int (i % j))) : XE X (.BinOp a .Mod b pos) ρ k := xe_opI (fun i j => .int (i % j)) op_mod (fun _ _ _ => .int _) h
theorem xe_pow (h : XE X a ρ fun x => ∃ i, x = .int i ∧ XE X b ρ fun y => ∃ j, y = .int j ∧ CPow i j ∧ k (.int (i ^ j.toNat))) : XE X (.BinOp a .Pow b pos) ρ k := xe_opI (fun i j => .int (i ^ j.toNat)) op_pow (fun _ _ _ => .int _) h
theorem xe_neg (h : XE X a ρ fun x => ∃ i, x = .int i ∧ k (.int (-i))) : XE X (.UnaryOp .USub a pos) ρ k :=
  impE (pe_un un_neg anyE) fun σ H Q ⟨S, E, q⟩ => useE h E fun x H1 d e1 a1 ⟨i, hi, hk⟩ => by
    subst hi
    exact ⟨i, a1.inv_int, q _ _ _ e1 (.int _) hk⟩

/-! ## comparisons of two ints, as values and as tests -/
theorem xe_cmpI {op : CmpOp} {p : Int → Int → Bool} (ho : OpR X (compareOp op) (rI0 fun i j => .bl (p i j))) (hm : behindInMarks op b = false)
    (h : XE X a ρ fun x => ∃ i, x = .int i ∧ XE X b ρ fun y => ∃ j, y = .int j ∧ k (.bl (p i j))) : XE X (.Compare a [op] [b] pos) ρ k :=
  impE (pe_cmpR ho anyE anyE hm) fun σ H Q ⟨S, E, q⟩ => useE h E fun x H1 d e1 a1 ⟨i, hi, hb⟩ => useE hb (E.mono e1) fun y H2 d2 e2 a2 ⟨j, hj, hk⟩ => by
    subst hi hj
    exact ⟨i, j, a1.inv_int, a2.inv_int, q _ _ _ (e1.trans e2) (.bl _) hk⟩
theorem xt_cmpI {op : CmpOp} {p : Int → Int → Bool} (ho : OpR X (compareOp op) (rI0 fun i j => .bl (p i j))) (hm : behindInMarks op b = false)
    (h : XE X a ρ fun x => ∃ i, x = .int i ∧ XE X b ρ fun y => ∃ j, y = .int j ∧ kb (p i j)) : XT X (.Compare a [op] [b] pos) ρ kb :=
  impT (pt_cmpR ho anyE anyE hm) fun σ H Q ⟨S, E, q⟩ => useE h E fun x H1 d e1 a1 ⟨i, hi, hb⟩ => useE hb (E.mono e1) fun y H2 d2 e2 a2 ⟨j, hj, hk⟩ => by
    subst hi hj
    exact ⟨i, j, a1.inv_int, a2.inv_int, _, rfl, q _ _ (e1.trans e2) hk⟩
theorem xe_lt (h : XE X a ρ fun x => ∃ i, x = .int i ∧ XE X b ρ fun y => ∃ j, y = .int j ∧ k (.bl (decide (i < j)))) : XE X (.Compare a [.Lt] [b] pos) ρ k := xe_cmpI (p := fun i j => decide (i < j)) op_lt (nomark _) h
theorem xe_le (h : XE X a ρ fun x => ∃ i, x = .int i ∧ XE X b ρ fun y => ∃ j, y = .int j ∧ k (.bl (decide (i ≤ j)))) : XE X (.Compare a [.LtE] [b] pos) ρ k := xe_cmpI (p := fun i j => decide (i ≤ j)) op_le (nomark _) h
theorem xe_gt (h : XE X a ρ fun x => ∃ i, x = .int i ∧ XE X b ρ fun y => ∃ j, y = .int j ∧ k (.bl (decide (j < i)))) : XE X (.Compare a [.Gt] [b] pos) ρ k := xe_cmpI (p := fun i j => decide (j < i)) op_gt (nomark _) h
theorem xe_ge (h : XE X a ρ fun x => ∃ i, x = .int i ∧ XE X b ρ fun y => ∃ j, y = .int j ∧ k (.bl (decide (j ≤ i)))) : XE X (.Compare a [.GtE] [b] pos) ρ k := xe_cmpI (p := fun i j => decide (j ≤ i)) op_ge (nomark _) h
theorem xt_lt (h : XE X a ρ fun x => ∃ i, x = .int i ∧ XE X b ρ fun y => ∃ j, y = .int j ∧ kb (decide (i < j))) : XT X (.Compare a [.Lt] [b] pos) ρ kb := xt_cmpI (p := fun i j => decide (i < j)) op_lt (nomark _) h
theorem xt_le (h : XE X a ρ fun x => ∃ i, x = .int i ∧ XE X b ρ fun y => ∃ j, y = .int j ∧ kb (decide (i ≤ j))) : XT X (.Compare a [.LtE] [b] pos) ρ kb := xt_cmpI (p := fun i j => decide (i ≤ j)) op_le (nomark _) h
theorem xt_gt (h : XE X a ρ fun x => ∃ i, x = .int i ∧ XE X b ρ fun y => ∃ j, y = .int j ∧ kb (decide (j < i))) : XT X (.Compare a [.Gt] [b] pos) ρ kb := xt_cmpI (p := fun i j => decide (j < i)) op_gt (nomark _) h
theorem xt_ge (h : XE X a ρ fun x => ∃ i, x = .int i ∧ XE X b ρ fun y => ∃ j, y = .int j ∧ kb (decide (j ≤ i))) : XT X (.Compare a [.GtE] [b] pos) ρ kb := xt_cmpI (p := fun i j => decide (j ≤ i)) op_ge (nomark _) h
/-! == and != of plain values -/
def scalD : D → D → Bool
  | .non, .non => true | .non, .int _ => true | .int _, .non => true | .non, .bl _ => true | .bl _, .non => true | .non, .str _ => true | .str _, .non => true
  | .int _, .int _ => true | .bl _, .bl _ => true | .str _, .str _ => true
  | .int _, .str _ => true | .str _, .int _ => true | .bl _, .str _ => true | .str _, .bl _ => true
  | _, _ => false
def sameD : D → D → Bool
  | .non, .non => true | .int i, .int j => decide (i = j) | .bl i, .bl j => decide (i = j) | .str i, .str j => decide (i = j)
  | _, _ => false
theorem scal_of {K : PySem.W.Frag} {H1 H2 : Hp} {x y : V} {d d2 : D} (hs : scalD d d2 = true) (h1 : At K H1 x d) (h2 : At K H2 y d2) : scal x y = true ∧ decide (x = y) = sameD d d2 := by
  cases h1 <;> cases h2 <;> first
    | exact absurd (show false = true from hs) Bool.false_ne_true
    | (refine ⟨rfl, ?_⟩; simp [sameD])
theorem xe_eq (h : XE X a ρ fun x => XE X b ρ fun y => scalD x y = true ∧ k (.bl (sameD x y))) : XE X (.Compare a [.Eq] [b] pos) ρ k :=
  impE (pe_cmpR op_eq anyE anyE (nomark _)) fun σ H Q ⟨S, E, q⟩ => useE h E fun x H1 d e1 a1 hb => useE hb (E.mono e1) fun y H2 d2 e2 a2 ⟨hs, hk⟩ => by
    obtain ⟨z1, z2⟩ := scal_of hs a1 a2
    refine ⟨z1, ?_⟩
    rw [z2]
    exact q _ _ _ (e1.trans e2) (.bl _) hk
theorem xe_ne (h : XE X a ρ fun x => XE X b ρ fun y => scalD x y = true ∧ k (.bl (!sameD x y))) : XE X (.Compare a [.NotEq] [b] pos) ρ k :=
  impE (pe_cmpR op_ne anyE anyE (nomark _)) fun σ H Q ⟨S, E, q⟩ => useE h E fun x H1 d e1 a1 hb => useE hb (E.mono e1) fun y H2 d2 e2 a2 ⟨hs, hk⟩ => by
    obtain ⟨z1, z2⟩ := scal_of hs a1 a2
    refine ⟨z1, ?_⟩
    rw [z2]
    exact q _ _ _ (e1.trans e2) (.bl _) hk
theorem xt_eq (h : XE X a ρ fun x => XE X b ρ fun y => scalD x y = true ∧ kb (sameD x y)) : XT X (.Compare a [.Eq] [b] pos) ρ kb :=
  impT (pt_cmpR op_eq anyE anyE (nomark _)) fun σ H Q ⟨S, E, q⟩ => useE h E fun x H1 d e1 a1 hb => useE hb (E.mono e1) fun y H2 d2 e2 a2 ⟨hs, hk⟩ => by
    obtain ⟨z1, z2⟩ := scal_of hs a1 a2
    refine ⟨z1, ?_⟩
    rw [z2]
    exact ⟨_, rfl, q _ _ (e1.trans e2) hk⟩
theorem xt_ne (h : XE X a ρ fun x => XE X b ρ fun y => scalD x y = true ∧ kb (!sameD x y)) : XT X (.Compare a [.NotEq] [b] pos) ρ kb :=
  impT (pt_cmpR op_ne anyE anyE (nomark _)) fun σ H Q ⟨S, E, q⟩ => useE h E fun x H1 d e1 a1 hb => useE hb (E.mono e1) fun y H2 d2 e2 a2 ⟨hs, hk⟩ => by
    obtain ⟨z1, z2⟩ := scal_of hs a1 a2
    refine ⟨z1, ?_⟩
    rw [z2]
    exact ⟨_, rfl, q _ _ (e1.trans e2) hk⟩
/-! is None -/
def isNonD : D → Bool
  | .non => true
  | _ => false
theorem non_of {K : PySem.W.Frag} {H : Hp} {x : V} {d : D} (h : At K H x d) : decide (x = .non) = isNonD d := by
  cases h <;> simp [isNonD]
theorem xe_isN {j pos'} (h : XE X a ρ fun x => k (.bl (isNonD x))) : XE X (.Compare a [.Is] [.Constant .none j pos'] pos) ρ k :=
  impE (pe_cmp (pc_isN anyE) rfl) fun σ H Q ⟨S, E, q⟩ => useE h E fun x H1 d e1 a1 hk => by
    show Q (.bl (decide (x = .non))) H1
    rw [non_of a1]
    exact q _ _ _ e1 (.bl _) hk
theorem xe_notN {j pos'} (h : XE X a ρ fun x => k (.bl (!isNonD x))) : XE X (.Compare a [.IsNot] [.Constant .none j pos'] pos) ρ k :=
  impE (pe_cmp (pc_notN anyE) rfl) fun σ H Q ⟨S, E, q⟩ => useE h E fun x H1 d e1 a1 hk => by
    show Q (.bl (!decide (x = .non))) H1
    rw [non_of a1]
    exact q _ _ _ e1 (.bl _) hk

/-! ## tests -/
theorem xt_val (h : XE X e ρ fun x => ∃ b, x = .bl b ∧ kb b) (he : ∀ whole, isTrue e X.env whole = (do let v ← whole; standAt e.pos; holding [v] (truthy v)) := by intro _; rfl) : XT X e ρ kb :=
  impT (pt_val anyE he) fun σ H Q ⟨S, E, q⟩ => useE h E fun x H1 d e1 a1 ⟨b, hb, hk⟩ => by
    subst hb
    exact ⟨b, a1.inv_bl, q _ _ e1 hk⟩
theorem xt_isN {j pos'} (h : XE X a ρ fun x => kb (isNonD x)) : XT X (.Compare a [.Is] [.Constant .none j pos'] pos) ρ kb :=
  impT (pt_cmp (pc_isN anyE) rfl) fun σ H Q ⟨S, E, q⟩ => useE h E fun x H1 d e1 a1 hk => by
    show ∃ c, V.bl (decide (x = .non)) = .bl c ∧ Q c H1
    rw [non_of a1]
    exact ⟨_, rfl, q _ _ e1 hk⟩
theorem xt_notN {j pos'} (h : XE X a ρ fun x => kb (!isNonD x)) : XT X (.Compare a [.IsNot] [.Constant .none j pos'] pos) ρ kb :=
  impT (pt_cmp (pc_notN anyE) rfl) fun σ H Q ⟨S, E, q⟩ => useE h E fun x H1 d e1 a1 hk => by
    show ∃ c, V.bl (!decide (x = .non)) = .bl c ∧ Q c H1
    rw [non_of a1]
    exact ⟨_, rfl, q _ _ e1 hk⟩
theorem xt_not (h : XT X a ρ fun b => kb (!b)) : XT X (.UnaryOp .Not a pos) ρ kb := impT (pt_not anyT) fun σ H Q ⟨S, E, q⟩ => useT h E fun b H1 e1 hk => q _ _ e1 hk
theorem xw_and1 (h : XT X a ρ kb) : XW X (.BoolOp .And [a] pos) ρ kb := pw_and1 h
theorem xw_or1 (h : XT X a ρ kb) : XW X (.BoolOp .Or [a] pos) ρ kb := pw_or1 h
theorem xw_and {rest : List Expr} (h : XT X a ρ fun c => if c = true then XW X (.BoolOp .And (b :: rest) pos) ρ kb else kb false) : XW X (.BoolOp .And (a :: b :: rest) pos) ρ kb :=
  impW (pw_and anyT anyW) fun σ H Q ⟨S, E, q⟩ => useT h E fun c H1 e1 hk => by
    cases c with
    | true => exact useW hk (E.mono e1) fun c2 H2 e2 h2 => q _ _ (e1.trans e2) h2
    | false => exact q _ _ e1 hk
theorem xw_or {rest : List Expr} (h : XT X a ρ fun c => if c = true then kb true else XW X (.BoolOp .Or (b :: rest) pos) ρ kb) : XW X (.BoolOp .Or (a :: b :: rest) pos) ρ kb :=
  impW (pw_or anyT anyW) fun σ H Q ⟨S, E, q⟩ => useT h E fun c H1 e1 hk => by
    cases c with
    | false => exact useW hk (E.mono e1) fun c2 H2 e2 h2 => q _ _ (e1.trans e2) h2
    | true => exact q _ _ e1 hk
theorem XW.t (h : XW X e ρ kb) : XT X e ρ kb := PW.pt h
/-! and, or, not as values, of truth values -/
theorem xe_one {op} (h : XE X a ρ k) : XE X (.BoolOp op [a] pos) ρ k := pe_one h
theorem xe_and {rest : List Expr} (h : XE X a ρ fun x => ∃ c, x = .bl c ∧ if c = true then XE X (.BoolOp .And (b :: rest) pos) ρ k else k (.bl false)) : XE X (.BoolOp .And (a :: b :: rest) pos) ρ k :=
  impE (pe_and anyE anyE) fun σ H Q ⟨S, E, q⟩ => useE h E fun x H1 d e1 a1 ⟨c, hc, hk⟩ => by
    subst hc
    refine ⟨c, a1.inv_bl, ?_⟩
    cases c with
    | true => exact useE hk (E.mono e1) fun c2 H2 d2 e2 a2 h2 => q _ _ _ (e1.trans e2) a2 h2
    | false => exact q _ _ _ e1 (.bl _) hk
theorem xe_or {rest : List Expr} (h : XE X a ρ fun x => ∃ c, x = .bl c ∧ if c = true then k (.bl true) else XE X (.BoolOp .Or (b :: rest) pos) ρ k) : XE X (.BoolOp .Or (a :: b :: rest) pos) ρ k :=
  impE (pe_or anyE anyE) fun σ H Q ⟨S, E, q⟩ => useE h E fun x H1 d e1 a1 ⟨c, hc, hk⟩ => by
    subst hc
    refine ⟨c, a1.inv_bl, ?_⟩
    cases c with
    | false => exact useE hk (E.mono e1) fun c2 H2 d2 e2 a2 h2 => q _ _ _ (e1.trans e2) a2 h2
    | true => exact q _ _ _ e1 (.bl _) hk
theorem xe_not (h : XE X a ρ fun x => ∃ c, x = .bl c ∧ k (.bl (!c))) : XE X (.UnaryOp .Not a pos) ρ k :=
  impE (pe_not anyE) fun σ H Q ⟨S, E, q⟩ => useE h E fun x H1 d e1 a1 ⟨c, hc, hk⟩ => by
    subst hc
    exact ⟨c, a1.inv_bl, q _ _ _ e1 (.bl _) hk⟩
theorem xe_if {c : Expr} (h : XT X c ρ fun t => if t = true then XE X a ρ k else XE X b ρ k) : XE X (.IfExp c a b pos) ρ k :=
  impE (pe_ifExp anyT anyE anyE) fun σ H Q ⟨S, E, q⟩ => useT h E fun t H1 e1 hk => by
    cases t with
    | true => exact useE hk (E.mono e1) fun c2 H2 d2 e2 a2 h2 => q _ _ _ (e1.trans e2) a2 h2
    | false => exact useE hk (E.mono e1) fun c2 H2 d2 e2 a2 h2 => q _ _ _ (e1.trans e2) a2 h2

/-! ## arguments, displays -/
theorem xa_nil (h : kl []) : XA X [] ρ kl := impA pa_nil fun σ H Q ⟨S, E, q⟩ => q _ _ _ (Ex.refl H) .nil h
theorem xa_cons (h : XE X e ρ fun x => XA X es ρ fun xs => kl (x :: xs)) (hs : starEach (e :: es) X.env = (false, eval e X.env) :: starEach es X.env := by rfl) : XA X (e :: es) ρ kl :=
  impA (pa_cons anyE anyA hs) fun σ H Q ⟨S, E, q⟩ => useE h E fun x H1 d e1 a1 hk => useA hk (E.mono e1) fun xs H2 ds e2 a2 hk2 =>
    q _ _ _ (e1.trans e2) (.cons (a1.mono (hide_ex e2)) a2) hk2
theorem sz_of {n : Nat} (h : n ≤ 100000) : n ≤ sizeLine := Nat.le_trans h (by decide)
theorem sz_lt {n : Nat} (h : n < 100000) : n < sizeLine := Nat.lt_of_lt_of_le h (by decide)
theorem xe_tup {x1} (h : XA X es ρ fun ds => ds.length ≤ 100000 ∧ k (.tup ds)) : XE X (.Tuple es x1 pos) ρ k :=
  impE (pe_tup anyA) fun σ H Q ⟨S, E, q⟩ => useA h E fun vs H1 ds e1 a1 ⟨hl, hk⟩ => ⟨sz_of (by rw [a1.length]; exact hl), fun p hp => by
    have E1 := E.mono e1
    have np := hide_new E1.trk hp
    refine q _ _ _ (e1.trans (Ex.new hp)) (.tup (SqT.of ?_) (a1.mono (hide_ex (Ex.new hp)))) hk
    rw [hide_out np]
    exact upd_same⟩
theorem xn_lst (h : XA X es ρ fun ds => ds.length ≤ 100000 ∧ kl ds) : XN X (.List es pos) ρ kl :=
  impE (pe_lst anyA) fun σ H Q ⟨S, E, q⟩ => useA h E fun vs H1 ds e1 a1 ⟨hl, hk⟩ => ⟨sz_of (by rw [a1.length]; exact hl), fun p hp => by
    have E1 := E.mono e1
    have np := hide_new E1.trk hp
    refine q p _ vs ds (e1.back hp) (e1.trans (Ex.new hp)) upd_same (a1.mono <| ExN.of fun x o hx => ?_) hk
    have hxS : x ∉ S := fun z => by
      rw [hide_in z] at hx
      cases hx
    rw [hide_out hxS] at hx
    have ne : x ≠ p := ne_of_none hx hp
    rw [hide_out (by simp [ne, hxS]), upd_ne ne]
    exact hx⟩
/-- a new list, as data -/
theorem XN.data (h : XN X e ρ fun ds => k (.lst ds)) : XE X e ρ k := impE h fun σ H Q ⟨S, E, q⟩ => ⟨S, E, fun p H2 vs ds hn e2 hp a hk => by
  have np := hide_new E.trk hn
  refine q _ _ _ e2 (.lst (SqL.of ?_) (a.mono (hide_sub fun x hx => List.mem_cons_of_mem _ hx))) hk
  rw [hide_out np]
  exact hp⟩
/-- .. to be read -/
theorem XE.rd (h : XE X e ρ fun d => ∃ ds, d = .lst ds ∧ kl ds) : XL X e ρ kl := impE h fun σ H Q ⟨S, E, q⟩ => ⟨S, E, fun v H2 d e2 a ⟨ds, hd, hk⟩ => by
  subst hd
  obtain ⟨p, vs, rfl, h1, h2⟩ := a.inv_lst
  exact q p H2 vs ds e2 (ex_l hide_le h1) h2 hk⟩
theorem XN.rd (h : XN X e ρ kl) : XL X e ρ kl := XE.rd (XN.data (impE h fun σ H Q ⟨S, E, q⟩ => ⟨S, E, fun p H2 vs ds hn e2 hp a hk => q p H2 vs ds hn e2 hp a ⟨ds, rfl, hk⟩⟩))
/-- a name that holds a list of the frame's own -/
theorem xl_own (i : Nat) {x : Str} {ds : List D} (hd : ρ[i]? = some (.own ds)) (h : kl ds) (hN : X.N[i]? = some x := by rfl) (hv : Vis X.env.scope x := by first | exact Or.inl rfl | exact Or.inr (Or.inl rfl) | exact Or.inr (Or.inr rfl))
    (h1 : (x == ("__debug__" : Str)) = false := by decide) (h2 : (x == ("__classdict__" : Str)) = false := by decide) : XL X (.Name x pos) ρ kl :=
  impE (pe_var hN hv h1 h2) fun σ H Q ⟨S, E, q⟩ => by
    obtain ⟨p, vs, e1, hS, hp, a⟩ := E.own i ds hd
    exact ⟨.ref p, e1, q p H vs ds (Ex.refl H) (SqL.of hp) a h⟩
end
end VL

set_option Elab.async false
set_option linter.all false
set_option maxRecDepth 100000
set_option maxHeartbeats 4000000
namespace VL
variable [Tb]
open PySem L2

/-! ## Statements -/
structure J where
  nx : Rho → Prop
  rt : D → Prop
  bk : Rho → Prop := fun _ => False
  ct : Rho → Prop := fun _ => False
/-- S0, H0: what was hidden, what was tracked, when the block began -/
def StOk (K : PySem.W.Frag) (S0 : List Addr) (H0 H : Hp) (σ : L2.St) (ρ : Rho) : Prop :=
  ∃ S, (∀ a ∈ S0, a ∈ S) ∧ (∀ a ∈ S, a ∈ S0 ∨ H0 a = none) ∧ (∀ (i : Nat) (ds : List D) (p : Addr), ρ[i]? = some (.own ds) → σ[i]? = some (some (.ref p)) → H0 p = none) ∧ Ex H0 H ∧ EnvOk K S H σ ρ
structure Fit (K : PySem.W.Frag) (S0 : List Addr) (H0 : Hp) (j : J) (E : Ends) : Prop where
  nx : ∀ σ H ρ, StOk K S0 H0 H σ ρ → j.nx ρ → E.nx σ H
  rt : ∀ v H d, Ex H0 H → At K (hide S0 H) v d → j.rt d → E.rt v H
  bk : ∀ σ H ρ, StOk K S0 H0 H σ ρ → j.bk ρ → E.bk σ H
  ct : ∀ σ H ρ, StOk K S0 H0 H σ ρ → j.ct ρ → E.ct σ H
def tS (K : PySem.W.Frag) (S0 : List Addr) (H0 : Hp) (ρ : Rho) (j : J) : TS := fun E σ H => StOk K S0 H0 H σ ρ ∧ Fit K S0 H0 j E
def XS (X : Cx) (st : Stmt) (ρ : Rho) (j : J) : Prop := ∀ S0 H0, Trk S0 H0 → PS X st (tS X.K S0 H0 ρ j)
def XB (X : Cx) (sts : List Stmt) (ρ : Rho) (j : J) : Prop := ∀ S0 H0, Trk S0 H0 → PSs X sts (tS X.K S0 H0 ρ j)
section
variable {K : PySem.W.Frag} {S0 : List Addr} {H0 H H' : Hp} {σ : L2.St} {ρ : Rho} {j : J} {En : Ends}
theorem StOk.mono (h : StOk K S0 H0 H σ ρ) (e : Ex H H') : StOk K S0 H0 H' σ ρ :=
  let ⟨S, h1, h2, h3, h4, h5⟩ := h
  ⟨S, h1, h2, h3, h4.trans e, h5.mono e⟩
theorem StOk.store {i : Nat} {v : V} {d : D} {S : List Addr} (h1 : ∀ a ∈ S0, a ∈ S) (h2 : ∀ a ∈ S, a ∈ S0 ∨ H0 a = none) (h3 : ∀ (i : Nat) (ds : List D) (p : Addr), ρ[i]? = some (.own ds) → σ[i]? = some (some (.ref p)) → H0 p = none)
    (h4 : Ex H0 H) (E : EnvOk K S H σ ρ) (a : At K (hide S H) v d) : StOk K S0 H0 H (σ.set i (some v)) (ρ.set i (.dat d)) := by
  refine ⟨S, h1, h2, fun l ds p k1 k2 => ?_, h4, E.store a⟩
  rcases ent_set k1 with ⟨rfl, q⟩ | ⟨ne, q⟩
  · cases q
  · rw [List.getElem?_set_ne (Ne.symm ne)] at k2
    exact h3 l ds p q k2
/-- the world ahead of a loop: all but the frame's own lists -/
theorem StOk.base (tr : Trk S0 H0) {S : List Addr} (h1 : ∀ a ∈ S0, a ∈ S) (h2 : ∀ a ∈ S, a ∈ S0 ∨ H0 a = none) (h3 : ∀ (i : Nat) (ds : List D) (p : Addr), ρ[i]? = some (.own ds) → σ[i]? = some (some (.ref p)) → H0 p = none)
    (h4 : Ex H0 H) (E : EnvOk K S H σ ρ) : ∃ H1, StOk K S0 H1 H σ ρ ∧ Ex H0 H1 ∧ (∀ p, H1 p = none → H0 p = none) ∧ ∀ (H' : Hp) (S' : List Addr), (∀ a ∈ S', a ∈ S0 ∨ H1 a = none) → Ex H1 H' → ExN (hide S H) (hide S' H') := by
  let H1 : Hp := fun a => if a ∈ S ∧ a ∉ S0 then none else H a
  have out : ∀ a o, H0 a = some o → ¬ (a ∈ S ∧ a ∉ S0) := fun a o h z => by
    rcases h2 a z.1 with q | q
    · exact z.2 q
    · rw [h] at q
      cases q
  have at1 : ∀ a, ¬ (a ∈ S ∧ a ∉ S0) → H1 a = H a := fun a z => if_neg z
  have e01 : Ex H0 H1 := by
    refine ⟨⟨fun a o h n => (at1 a (out a o h)).trans (h4.k a o h n), fun a o h => ?_⟩, fun p hp t => ?_⟩
    · obtain ⟨o', h'⟩ := h4.th a o h
      exact ⟨o', (at1 a (out a o h)).trans h'⟩
    · obtain ⟨ps, g1, g2, g3⟩ := h4.t p hp t
      obtain ⟨ps0, g0, _⟩ := t
      refine ⟨ps, (at1 p.1 (out p.1 _ g0)).trans g1, g2, fun pos cv hc => ?_⟩
      obtain ⟨c, c1, c2⟩ := g3 pos cv hc
      refine ⟨c, c1, (at1 c fun z => ?_).trans c2⟩
      obtain ⟨o, o1, o2⟩ := E.trk.tr c z.1
      rw [c2] at o1
      exact codeO_pl (Option.some.inj o1) o2
  have n10 : ∀ p, H1 p = none → H0 p = none := fun p h => e01.back h
  have e1 : Ex H1 H := Ex.of fun a o h => by
    have h' : (if a ∈ S ∧ a ∉ S0 then none else H a) = some o := h
    by_cases q : a ∈ S ∧ a ∉ S0
    · rw [if_pos q] at h'
      cases h'
    · rwa [if_neg q] at h'
  have sn : ∀ a ∈ S, a ∈ S0 ∨ H1 a = none := fun a ha => by
    by_cases q : a ∈ S0
    · exact .inl q
    · exact .inr (if_pos ⟨ha, q⟩)
  refine ⟨H1, ⟨S, h1, sn, fun i ds p k1 k2 => ?_, e1, E⟩, e01, n10, fun H' S' hs e' => ?_⟩
  · obtain ⟨p', vs, q1, q2, _, _⟩ := E.own i ds k1
    rw [k2] at q1
    cases q1
    have n0 := h3 i ds p k1 k2
    rcases sn p q2 with q | q
    · obtain ⟨o, r, _⟩ := tr.tr p q
      rw [n0] at r
      cases r
    · exact q
  · have key : ∀ a o, hide S H a = some o → H1 a = some o ∧ hide S' H' a = H' a := fun a o h => by
      have ha : a ∉ S := fun z => by
        rw [hide_in z] at h
        cases h
      rw [hide_out ha] at h
      have k1 : H1 a = some o := (at1 a fun z => ha z.1).trans h
      refine ⟨k1, hide_out fun z => ?_⟩
      rcases hs a z with q | q
      · exact ha (h1 a q)
      · rw [k1] at q
        cases q
    refine ⟨fun a o h n => ?_, fun a o h => ?_⟩
    · obtain ⟨k1, k2⟩ := key a o h
      exact k2.trans (e'.k a o k1 n)
    · obtain ⟨k1, k2⟩ := key a o h
      obtain ⟨o', k3⟩ := e'.th a o k1
      exact ⟨o', k2.trans k3⟩
theorem StOk.weaken {H1 : Hp} (e : Ex H0 H1) (n : ∀ p, H1 p = none → H0 p = none) (h : StOk K S0 H1 H σ ρ) : StOk K S0 H0 H σ ρ :=
  let ⟨S, h1, h2, h3, h4, h5⟩ := h
  ⟨S, h1, fun a ha => (h2 a ha).imp_right (n a), fun i ds p a b => n p (h3 i ds p a b), e.trans h4, h5⟩
theorem Fit.weaken {H1 : Hp} (e : Ex H0 H1) (n : ∀ p, H1 p = none → H0 p = none) (f : Fit K S0 H0 j En) : Fit K S0 H1 j En :=
  ⟨fun σ H ρ h => f.nx σ H ρ (h.weaken e n), fun v H d h => f.rt v H d (e.trans h), fun σ H ρ h => f.bk σ H ρ (h.weaken e n), fun σ H ρ h => f.ct σ H ρ (h.weaken e n)⟩
end

section
variable {X : Cx} {ρ : Rho} {j : J} {st : Stmt} {rest sts : List Stmt} {e : Expr} {pos : Pos}
theorem xb_nil (h : j.nx ρ) : XB X [] ρ j := fun S0 H0 tr => impSs pss_nil fun En σ H ⟨ok, f⟩ => f.nx σ H ρ ok h
theorem xb_cons (h : XS X st ρ { j with nx := fun ρ' => XB X rest ρ' j }) : XB X (st :: rest) ρ j := fun S0 H0 tr =>
  impSs (pss_cons anyS anySs) fun En σ H ⟨ok, f⟩ => ⟨_, h S0 H0 tr, ok, ⟨fun σ' H' ρ' ok' hb => ⟨_, hb S0 H0 tr, ok', f⟩, f.rt, f.bk, f.ct⟩⟩
theorem XS.imp {j' : J} (h : XS X st ρ j) (n : ∀ ρ, j.nx ρ → j'.nx ρ) (r : ∀ d, j.rt d → j'.rt d) (b : ∀ ρ, j.bk ρ → j'.bk ρ) (c : ∀ ρ, j.ct ρ → j'.ct ρ) : XS X st ρ j' := fun S0 H0 tr =>
  impS (h S0 H0 tr) fun En σ H ⟨ok, f⟩ => ⟨ok, ⟨fun σ H ρ o k => f.nx σ H ρ o (n ρ k), fun v H d o a k => f.rt v H d o a (r d k), fun σ H ρ o k => f.bk σ H ρ o (b ρ k), fun σ H ρ o k => f.ct σ H ρ o (c ρ k)⟩⟩
theorem XB.imp {j' : J} (h : XB X sts ρ j) (n : ∀ ρ, j.nx ρ → j'.nx ρ) (r : ∀ d, j.rt d → j'.rt d) (b : ∀ ρ, j.bk ρ → j'.bk ρ) (c : ∀ ρ, j.ct ρ → j'.ct ρ) : XB X sts ρ j' := fun S0 H0 tr =>
  impSs (h S0 H0 tr) fun En σ H ⟨ok, f⟩ => ⟨ok, ⟨fun σ H ρ o k => f.nx σ H ρ o (n ρ k), fun v H d o a k => f.rt v H d o a (r d k), fun σ H ρ o k => f.bk σ H ρ o (b ρ k), fun σ H ρ o k => f.ct σ H ρ o (c ρ k)⟩⟩
/-- name = e -/
theorem xs_set (i : Nat) {x : Str} {pos' : Pos} (h : XE X e ρ fun d => j.nx (ρ.set i (.dat d))) (hN : X.N.Nodup) (hi : X.N[i]? = some x := by rfl) (hx : Loc X.env.scope x := by first | exact Or.inl rfl | exact Or.inr rfl)
    (hs : swapsWith e (some (.Name x pos')) pos.line X.env = pure false := by rfl) (hf : X.fn x = true ∨ X.env.scope.names.lookup x = some .local := by first | exact .inl rfl | exact .inr rfl) :
    XS X (.Assign [.Name x pos'] e pos) ρ j := fun S0 H0 tr =>
  impS (ps_set hN hi hx anyE hs hf) fun En σ H ⟨⟨S, h1, h2, h3, h4, E⟩, f⟩ => useE h E fun v H2 d e2 a hk =>
    f.nx _ _ _ (StOk.store h1 h2 h3 (h4.trans e2) (E.mono e2) a) hk
/-- name = a new list, the frame's own -/
theorem xs_setN (i : Nat) {x : Str} {pos' : Pos} (h : XN X e ρ fun ds => j.nx (ρ.set i (.own ds))) (hN : X.N.Nodup) (hi : X.N[i]? = some x := by rfl) (hx : Loc X.env.scope x := by first | exact Or.inl rfl | exact Or.inr rfl)
    (hs : swapsWith e (some (.Name x pos')) pos.line X.env = pure false := by rfl) (hf : X.fn x = true ∨ X.env.scope.names.lookup x = some .local := by first | exact .inl rfl | exact .inr rfl) :
    XS X (.Assign [.Name x pos'] e pos) ρ j := fun S0 H0 tr =>
  impS (ps_set hN hi hx anyE hs hf) fun En σ H ⟨⟨S, h1, h2, h3, h4, E⟩, f⟩ => ⟨_, h, S, E, fun p H2 vs ds hn e2 hp a hk => by
    refine f.nx _ _ _ ⟨p :: S, fun b hb => List.mem_cons_of_mem _ (h1 b hb), fun b hb => ?_, fun l ds' q k1 k2 => ?_, h4.trans e2, E.storeOwn e2 hn hp a⟩ hk
    · rcases List.mem_cons.mp hb with z | z
      · rw [z]
        exact .inr (h4.back hn)
      · exact h2 b z
    · rcases ent_set k1 with ⟨rfl, r⟩ | ⟨ne, r⟩
      · have hl : l < σ.length := by rw [E.len]; exact set_lt k1
        rw [List.getElem?_set_self hl] at k2
        cases k2
        exact h4.back hn
      · rw [List.getElem?_set_ne (Ne.symm ne)] at k2
        exact h3 l ds' q r k2⟩
/-- the frame's own list becomes data: it isn't written any more -/
theorem xb_data (i : Nat) {ds : List D} (hi : ρ[i]? = some (.own ds)) (h : XB X sts (ρ.set i (.dat (.lst ds))) j) : XB X sts ρ j := fun S0 H0 tr =>
  impSs (h S0 H0 tr) fun En σ H ⟨⟨S, h1, h2, h3, h4, E⟩, f⟩ => by
    obtain ⟨p, vs, g1, g2, g3, g4⟩ := E.own i ds hi
    have n0 := h3 i ds p hi g1
    have npS0 : p ∉ S0 := fun z => by
      obtain ⟨o, r, _⟩ := tr.tr p z
      rw [n0] at r
      cases r
    refine ⟨⟨S.filter (fun a => decide (a ≠ p)), fun a ha => ?_, fun a ha => h2 a (List.mem_filter.mp ha).1, fun l es q k1 k2 => ?_, h4, ?_⟩, f⟩
    · exact List.mem_filter.mpr ⟨h1 a ha, by simpa using fun z => npS0 (by rw [← z]; exact ha)⟩
    · rcases ent_set k1 with ⟨rfl, r⟩ | ⟨ne, r⟩
      · cases r
      · exact h3 l es q r k2
    · have sub : ExN (hide S H) (hide (S.filter (fun a => decide (a ≠ p))) H) := hide_sub fun a ha => (List.mem_filter.mp ha).1
      have out : p ∉ S.filter (fun a => decide (a ≠ p)) := fun z => by simpa using (List.mem_filter.mp z).2
      have hil : i < ρ.length := get_lt hi
      refine ⟨by simp [E.len], ⟨fun a ha => E.trk.tr a (List.mem_filter.mp ha).1, E.trk.tb⟩, fun l d k => ?_, fun l es k => ?_, fun l m es fs q k1 k2 k3 k4 => ?_⟩
      · rcases ent_set k with ⟨rfl, r⟩ | ⟨ne, r⟩
        · cases r
          refine ⟨_, g1, .lst (SqL.of ?_) (g4.mono sub)⟩
          rw [hide_out out]
          exact g3
        · obtain ⟨v, r1, r2⟩ := E.dat l d r
          exact ⟨v, r1, r2.mono sub⟩
      · rcases ent_set k with ⟨rfl, r⟩ | ⟨ne, r⟩
        · cases r
        · obtain ⟨q, us, r1, r2, r3, r4⟩ := E.own l es r
          refine ⟨q, us, r1, List.mem_filter.mpr ⟨r2, ?_⟩, r3, r4.mono sub⟩
          have : q ≠ p := fun z => by
            rw [z] at r1
            exact ne (E.sep l i es ds p r hi r1 g1)
          simpa using this
      · rcases ent_set k1 with ⟨rfl, r⟩ | ⟨ne, r⟩
        · cases r
        · rcases ent_set k2 with ⟨rfl, r'⟩ | ⟨ne', r'⟩
          · cases r'
          · exact E.sep l m es fs q r r' k3 k4
theorem xs_ret (h : XE X e ρ j.rt) : XS X (.Return (some e) pos) ρ j := fun S0 H0 tr =>
  impS (ps_ret anyE) fun En σ H ⟨⟨S, h1, h2, h3, h4, E⟩, f⟩ => useE h E fun v H2 d e2 a hk => f.rt v H2 d (h4.trans e2) (a.mono (hide_sub h1)) hk
theorem xs_retN (h : j.rt .non) : XS X (.Return none pos) ρ j := fun S0 H0 tr =>
  impS ps_retN fun En σ H ⟨⟨S, h1, h2, h3, h4, E⟩, f⟩ => f.rt .non H .non h4 .non h
theorem xs_if {c : Expr} {p q : List Stmt} (h : XT X c ρ fun b => if b = true then XB X p ρ j else XB X q ρ j) : XS X (.If c p q pos) ρ j := fun S0 H0 tr =>
  impS (ps_if anyT anySs anySs) fun En σ H ⟨⟨S, h1, h2, h3, h4, E⟩, f⟩ => useT h E fun b H2 e2 hk => by
    have ok : StOk X.K S0 H0 H2 σ ρ := ⟨S, h1, h2, h3, h4.trans e2, E.mono e2⟩
    cases b with
    | true => exact ⟨_, hk S0 H0 tr, ok, f⟩
    | false => exact ⟨_, hk S0 H0 tr, ok, f⟩
theorem xs_pass (h : j.nx ρ) : XS X (.Pass pos) ρ j := fun S0 H0 tr => impS ps_pass fun En σ H ⟨ok, f⟩ => f.nx σ H ρ ok h
theorem xs_break (h : j.bk ρ) : XS X (.Break pos) ρ j := fun S0 H0 tr => impS ps_break fun En σ H ⟨ok, f⟩ => f.bk σ H ρ ok h
theorem xs_cont (h : j.ct ρ) : XS X (.Continue pos) ρ j := fun S0 H0 tr => impS ps_continue fun En σ H ⟨ok, f⟩ => f.ct σ H ρ ok h
theorem xs_expr (h : XE X e ρ fun _ => j.nx ρ) (hs : swapsWith e none pos.line X.env = pure false := by rfl) : XS X (.Expr e pos) ρ j := fun S0 H0 tr =>
  impS (ps_expr anyE hs) fun En σ H ⟨⟨S, h1, h2, h3, h4, E⟩, f⟩ => useE h E fun v H2 d e2 a hk => f.nx σ H2 ρ ⟨S, h1, h2, h3, h4.trans e2, E.mono e2⟩ hk
/-- a raise, where the way can't be -/
theorem xs_never (h : False) : XS X st ρ j := h.elim
theorem xb_never (h : False) : XB X sts ρ j := h.elim
end

section
variable {X : Cx} {ρ : Rho} {j : J} {a b c : Expr} {pos : Pos}
/-- x, y = a, b -/
theorem xs_par (i l : Nat) {x y : Str} {px py pt : Pos} {kt k2 pt2} (hc : X.calm = true) (hN : X.N.Nodup)
    (h : XE X a ρ fun d => XE X b ρ fun d' => j.nx ((ρ.set i (.dat d)).set l (.dat d')))
    (hw : swappedStores [.Tuple [.Name x px, .Name y py] kt pt] (.Tuple [a, b] k2 pt2) X.env = pure (some [x, y]))
    (hi : X.N[i]? = some x := by rfl) (hl : X.N[l]? = some y := by rfl) (hil : i ≠ l := by decide)
    (hx : X.env.scope.names.lookup x = some .local := by rfl) (hy : X.env.scope.names.lookup y = some .local := by rfl)
    (hs : swapsWithSole [.Tuple [.Name x px, .Name y py] kt pt] (.Tuple [a, b] k2 pt2) pos.line X.env = pure false := by rfl)
    (s1 : starEach [a, b] X.env = (false, eval a X.env) :: starEach [b] X.env := by rfl) (s2 : starEach [b] X.env = (false, eval b X.env) :: starEach [] X.env := by rfl) :
    XS X (.Assign [.Tuple [.Name x px, .Name y py] kt pt] (.Tuple [a, b] k2 pt2) pos) ρ j := fun S0 H0 tr =>
  impS (ps_par hc hN hi hl hil hx hy (pa_cons anyE (pa_cons anyE pa_nil s2) s1) hw hs) fun En σ H ⟨⟨S, h1, h2, h3, h4, E⟩, f⟩ =>
    useE h E fun v H1 d e1 a1 hb => useE hb (E.mono e1) fun u H2 d' e2 a2 hk => ⟨v, u, rfl, by
      have E2 := (E.mono e1).mono e2
      have ok1 := E2.store (i := i) (a1.mono (hide_ex e2))
      refine f.nx _ _ _ ⟨S, h1, h2, fun m es q k1 k2 => ?_, h4.trans (e1.trans e2), ok1.store (i := l) a2⟩ hk
      rcases ent_set k1 with ⟨rfl, r⟩ | ⟨ne, r⟩
      · cases r
      · rcases ent_set r with ⟨rfl, r'⟩ | ⟨ne', r'⟩
        · cases r'
        · rw [List.getElem?_set_ne (Ne.symm ne), List.getElem?_set_ne (Ne.symm ne')] at k2
          exact h3 m es q r' k2⟩
end
end VL

set_option Elab.async false
set_option linter.all false
set_option maxRecDepth 100000
set_option maxHeartbeats 4000000
namespace VL
variable [Tb]
open PySem L2

/-! ## Defs -/
abbrev Con := List D → (D → Prop) → Prop
def spC (K : PySem.W.Frag) (n : Nat) (C : Con) : Sp := fun vs H Q _ => ∃ S ds k, vs.length = n ∧ Trk S H ∧ AtL K (hide S H) vs ds ∧ C ds k ∧ ∀ v H2 d, Ex H H2 → At K (hide S H2) v d → k d → Q v H2
def startR (n : Nat) (ds : List D) : Rho := ds.map .dat ++ List.replicate (n - ds.length) .un
section
variable {K : PySem.W.Frag} {S : List Addr} {H : Hp}
theorem start_ok (tr : Trk S H) {N : List Str} {vs : List V} {ds : List D} (hl : vs.length ≤ N.length) (a : AtL K (hide S H) vs ds) : StOk K S H H (L2.start N vs) (startR N.length ds) := by
  have el := a.length
  have noown : ∀ (i : Nat) (es : List D), ¬ (startR N.length ds)[i]? = some (.own es) := fun i es h => by
    unfold startR at h
    by_cases hi : i < ds.length
    · rw [List.getElem?_append_left (by simpa using hi), List.getElem?_map] at h
      cases q : ds[i]? with
      | none => rw [q] at h; cases h
      | some d => rw [q] at h; cases h
    · rw [List.getElem?_append_right (by simpa using hi), List.getElem?_replicate] at h
      split at h <;> cases h
  refine ⟨S, fun _ h => h, fun _ h => .inl h, fun i es p h => absurd h (noown i es), Ex.refl H, ?_, tr, fun i d h => ?_, fun i es h => absurd h (noown i es), fun i j es fs p h => absurd h (noown i es)⟩
  · unfold startR L2.start
    simp [el]
  · unfold startR at h
    by_cases hi : i < ds.length
    · rw [List.getElem?_append_left (by simpa using hi), List.getElem?_map] at h
      cases q : ds[i]? with
      | none => rw [q] at h; cases h
      | some d' =>
        rw [q] at h
        cases h
        obtain ⟨v, hv, r⟩ := a.get q
        refine ⟨v, ?_, r⟩
        unfold L2.start
        rw [List.getElem?_append_left (by simpa [el] using hi), List.getElem?_map, hv]
        rfl
    · rw [List.getElem?_append_right (by simpa using hi), List.getElem?_replicate] at h
      split at h <;> cases h
end
section
variable {P : Program} {w : World} {K : PySem.W.Frag} {mg : Str → Option Value} {base : Heap}
/-- a def by its body -/
theorem xdef {x qual : Str} {st : Stmt} {f : Addr} {fd : FuncData} {N ps : List Str} {n : Nat} {C : Con} (F : Fun K x qual st f fd) (Sc : FnScope N ps (defScope st))
    (body : ∀ (ds : List D) (k : D → Prop), ds.length = ps.length → C ds k → ∀ (cdv : Value) (A : Around) (outer : List Env) (s : Shared) (H : Hp) (E : XK), Room n (A.deeper (PyProof.Rows.envOfC qual (defScope st) s.heap.objs.size f cdv)) →
      XB (cxOf CX0 P w K mg base N qual (defScope st) f cdv A outer s H E).nox (defBody st) (startR N.length ds) { nx := fun _ => k .non, rt := k }) : FnOk P w K mg base CX0 (n + 1) f fd ps (spC K ps.length C) := by
  have hpl : ps.length ≤ N.length := by
    have := congrArg List.length Sc.pre
    rw [List.length_take] at this
    omega
  refine F.ok Sc (fun vs H Q E h => ?_) fun cdv A outer s H vs Q E hr h => ?_
  · obtain ⟨_, _, _, hl, _⟩ := h
    exact hl
  · obtain ⟨S, ds, k, hl, tr, a, hc, q⟩ := h
    have hb := body ds k (by rw [← a.length]; exact hl) hc cdv A outer s H E hr
    refine ⟨_, hb S H tr, start_ok tr (by omega) a, ⟨fun σ' H' ρ' ok hn => ?_, fun v H' d e at_ hk => q v H' d e at_ hk, fun _ _ _ _ z => z.elim, fun _ _ _ _ z => z.elim⟩⟩
    obtain ⟨_, _, _, _, e, _⟩ := ok
    exact q .non H' .non e .non hn
/-- what callers know of a def: its name, its parameters, its contract; k: how deep it calls -/
structure Fn (P : Program) (w : World) (K : PySem.W.Frag) (mg : Str → Option Value) (base : Heap) (k : Nat) (x : Str) (ps : List Str) (C : Con) : Prop where
  ex : ∃ f fd, mg x = some (.ref f) ∧ PySem.W.keepIn K (.ref f) = true ∧ Binds K fd ps [] ∧ FnOk P w K mg base CX0 k f fd ps (spC K ps.length C)
theorem Fn.mono {j k : Nat} {x : Str} {ps : List Str} {C : Con} (F : Fn P w K mg base j x ps C) (h : j ≤ k) : Fn P w K mg base k x ps C :=
  let ⟨f, fd, h1, h2, h3, h4⟩ := F.ex
  ⟨f, fd, h1, h2, h3, h4.mono h⟩
theorem Fn.imp {k : Nat} {x : Str} {ps : List Str} {C C' : Con} (F : Fn P w K mg base k x ps C) (h : ∀ ds k, ds.length = ps.length → C' ds k → C ds k) : Fn P w K mg base k x ps C' :=
  let ⟨f, fd, h1, h2, h3, h4⟩ := F.ex
  ⟨f, fd, h1, h2, h3, h4.imp fun vs H Q E ⟨S, ds, k, hl, tr, a, hc, q⟩ => ⟨S, ds, k, hl, tr, a, h ds k (by rw [← a.length]; exact hl) hc, q⟩⟩
end
section
variable {X : Cx} {ρ : Rho} {e : Expr} {es : List Expr} {pos p : Pos} {k : D → Prop}
theorem xe_call {n m : Nat} {x : Str} {ps : List Str} {C : Con} (F : Fn X.prog X.w X.K X.mg X.base n x ps C) (hr : Room m X.A) (h : XA X (e :: es) ρ fun ds => ds.length = ps.length ∧ C ds k) (hnm : n ≤ m := by decide) (hg : Gl X x := by rfl)
    (hdb : (x == ("__debug__" : Str)) = false := by decide) (he : starEach (e :: es) X.env = (false, eval e X.env) :: starEach es X.env := by rfl) (hpl : (backTo pos (starEach es X.env)).any (·.1) = false := by rfl) :
    XE X (.Call (.Name x p) (e :: es) [] pos) ρ k := by
  obtain ⟨f, fd, h1, h2, h3, h4⟩ := F.ex
  refine impE (pe_call h4 (hr.mono hnm) hg h1 h2 h3 .nil pass0 anyA hdb he hpl) fun σ H Q ⟨S, E, q⟩ => useA h E fun vs H1 ds e1 a1 ⟨hl, hc⟩ => ?_
  rw [List.append_nil]
  exact ⟨S, ds, k, by rw [a1.length]; exact hl, (E.mono e1).trk, a1, hc, fun v H2 d e2 a2 hk => q v H2 d (e1.trans e2) a2 hk⟩
/-- a def without parameters -/
theorem xe_call0 {n m : Nat} {x : Str} {C : Con} (F : Fn X.prog X.w X.K X.mg X.base n x [] C) (hr : Room m X.A) (h : C [] k) (hnm : n ≤ m := by decide) (hg : Gl X x := by rfl) (hdb : (x == ("__debug__" : Str)) = false := by decide) :
    XE X (.Call (.Name x p) [] [] pos) ρ k := by
  obtain ⟨f, fd, h1, h2, h3, h4⟩ := F.ex
  exact impE (pe_call0 h4 (hr.mono hnm) hg h1 h2 h3 .nil pass0 hdb) fun σ H Q ⟨S, E, q⟩ => ⟨S, [], k, rfl, E.trk, .nil, h, fun v H2 d e2 a2 hk => q v H2 d e2 a2 hk⟩
end

/-! ## Subscripts, built-ins -/
section
variable {X : Cx} {ρ : Rho} {a b c e : Expr} {es : List Expr} {pos p : Pos} {k : D → Prop} {kb : Bool → Prop} {kl : List D → Prop}
theorem atI_at {K : PySem.W.Frag} {H : Hp} {vs : List V} {ds : List D} {i : Int} {d : D} (a : AtL K H vs ds) (h : atI ds i = some d) : ∃ v, atI vs i = some v ∧ At K H v d := by
  unfold atI at h ⊢
  rw [a.length]
  cases q : ixN ds.length i with
  | none => rw [q] at h; cases h
  | some j =>
    rw [q] at h
    obtain ⟨v, h1, h2⟩ := a.get (i := j) (d := d) h
    exact ⟨v, h1, h2⟩
/-- t[i] -/
theorem xe_ixT (h : XE X a ρ fun x => ∃ ds, x = .tup ds ∧ XE X b ρ fun y => ∃ i, y = .int i ∧ ∃ d, atI ds i = some d ∧ k d) (hs : PlainIx b := by exact fun _ _ => rfl) : XE X (.Subscript a b pos) ρ k :=
  impE (pe_ix ix_tup anyE anyE hs) fun σ H Q ⟨S, E, q⟩ => useE h E fun x H1 d e1 a1 ⟨ds, hd, hb⟩ => useE hb (E.mono e1) fun y H2 d2 e2 a2 ⟨i, hi, r, hr, hk⟩ => by
    subst hd hi
    obtain ⟨p, vs, rfl, h1, h2⟩ := a1.inv_tup
    obtain ⟨v, g1, g2⟩ := atI_at h2 hr
    exact ⟨p, vs, i, v, rfl, a2.inv_int, ex_t hide_le (ex_t (hide_ex e2) h1), g1, q v H2 r (e1.trans e2) (g2.mono (hide_ex e2)) hk⟩
/-- l[i] -/
theorem xe_ixL (h : XL X a ρ fun ds => XE X b ρ fun y => ∃ i, y = .int i ∧ ∃ d, atI ds i = some d ∧ k d) (hs : PlainIx b := by exact fun _ _ => rfl) : XE X (.Subscript a b pos) ρ k :=
  impE (pe_ix ix_list anyE anyE hs) fun σ H Q ⟨S, E, q⟩ => useL h E fun p H1 vs ds e1 h1 h2 hb => useE hb (E.mono e1) fun y H2 d2 e2 a2 ⟨i, hi, r, hr, hk⟩ => by
    subst hi
    obtain ⟨v, g1, g2⟩ := atI_at h2 hr
    exact ⟨p, vs, i, v, rfl, a2.inv_int, ex_l e2 h1, g1, q v H2 r (e1.trans e2) (g2.mono (hide_ex e2)) hk⟩
/-- a built-in's call, one argument of data -/
theorem xe_cb1 {x : Str} {id : String} {r : List V → Hp → VK → Prop} (hc : CallR X (.builtin id) r) (hm : X.mg x = none) (hv : bootBuiltins x = some (.builtin id)) {R : D → D → Prop}
    (hr : ∀ v d d' H S Q, At X.K (hide S H) v d → R d d' → (∀ v2, At X.K (hide S H) v2 d' → Q v2 H) → r [v] H Q) (h : XE X a ρ fun d => ∃ d', R d d' ∧ k d') (hg : Gl X x := by rfl) (hn : x ≠ "__name__" := by decide) (hdb : (x == ("__debug__" : Str)) = false := by decide)
    (he : starEach (a :: []) X.env = (false, eval a X.env) :: starEach [] X.env := by rfl) : XE X (.Call (.Name x p) [a] [] pos) ρ k :=
  impE (pe_callB hc hg hm hv (pa_cons anyE pa_nil he) hn hdb he rfl) fun σ H Q ⟨S, E, q⟩ => useE h E fun v H1 d e1 a1 ⟨d', hR, hk⟩ => hr v d d' H1 S Q a1 hR fun v2 a2 => q v2 H1 d' e1 a2 hk
theorem xe_ct1 {x : Str} {T : String} {r : List V → Hp → VK → Prop} (hc : CallR X (.type T) r) (hm : X.mg x = none) (hv : bootBuiltins x = some (.type T)) {R : D → D → Prop}
    (hr : ∀ v d d' H S Q, At X.K (hide S H) v d → R d d' → (∀ v2, At X.K (hide S H) v2 d' → Q v2 H) → r [v] H Q) (h : XE X a ρ fun d => ∃ d', R d d' ∧ k d') (hg : Gl X x := by rfl) (hn : x ≠ "__name__" := by decide) (hdb : (x == ("__debug__" : Str)) = false := by decide)
    (he : starEach (a :: []) X.env = (false, eval a X.env) :: starEach [] X.env := by rfl) : XE X (.Call (.Name x p) [a] [] pos) ρ k :=
  impE (pe_callTy hc hg hm hv (pa_cons anyE pa_nil he) hn hdb he rfl) fun σ H Q ⟨S, E, q⟩ => useE h E fun v H1 d e1 a1 ⟨d', hR, hk⟩ => hr v d d' H1 S Q a1 hR fun v2 a2 => q v2 H1 d' e1 a2 hk
theorem xe_abs (hm : X.mg "abs" = none) (h : XE X a ρ fun d => ∃ i, d = .int i ∧ k (.int (if i < 0 then -i else i))) (hg : Gl X "abs" := by rfl)
    (he : starEach (a :: []) X.env = (false, eval a X.env) :: starEach [] X.env := by rfl) : XE X (.Call (.Name "abs" p) [a] [] pos) ρ k :=
  xe_cb1 (R := fun d d' => ∃ i, d = .int i ∧ d' = .int (if i < 0 then -i else i)) call_abs hm (by decide +kernel) (fun v d d' H S Q a1 ⟨i, h1, h2⟩ q => by
    subst h1 h2
    exact ⟨i, by rw [a1.inv_int], q _ (.int _)⟩) (h.imp fun d ⟨i, h1, h2⟩ => ⟨_, ⟨i, h1, rfl⟩, h2⟩) hg (by decide) (by decide) he
/-- int(n) -/
theorem xe_intI (hm : X.mg "int" = none) (h : XE X a ρ fun d => ∃ i, d = .int i ∧ k (.int i)) (hg : Gl X "int" := by rfl)
    (he : starEach (a :: []) X.env = (false, eval a X.env) :: starEach [] X.env := by rfl) : XE X (.Call (.Name "int" p) [a] [] pos) ρ k :=
  xe_ct1 (R := fun d d' => ∃ i, d = .int i ∧ d' = .int i) call_int1 hm (by decide +kernel) (fun v d d' H S Q a1 ⟨i, h1, h2⟩ q => by
    subst h1 h2
    exact .inl ⟨i, by rw [a1.inv_int], q _ (.int _)⟩) (h.imp fun d ⟨i, h1, h2⟩ => ⟨_, ⟨i, h1, rfl⟩, h2⟩) hg (by decide) (by decide) he
theorem xe_strI (hm : X.mg "str" = none) (h : XE X a ρ fun d => ∃ i, d = .int i ∧ i.natAbs.log2 < 1920 ∧ k (.str (toString i))) (hg : Gl X "str" := by rfl)
    (he : starEach (a :: []) X.env = (false, eval a X.env) :: starEach [] X.env := by rfl) : XE X (.Call (.Name "str" p) [a] [] pos) ρ k :=
  xe_ct1 (R := fun d d' => ∃ i, d = .int i ∧ i.natAbs.log2 < 1920 ∧ d' = .str (toString i)) call_str_int hm (by decide +kernel) (fun v d d' H S Q a1 ⟨i, h1, h0, h2⟩ q => by
    subst h1 h2
    exact ⟨i, by rw [a1.inv_int], h0, q _ (.str _)⟩) (h.imp fun d ⟨i, h1, h0, h2⟩ => ⟨_, ⟨i, h1, h0, rfl⟩, h2⟩) hg (by decide) (by decide) he
/-- two arguments -/
theorem xe_cb2 {x : Str} {id : String} {r : List V → Hp → VK → Prop} (hc : CallR X (.builtin id) r) (hm : X.mg x = none) (hv : bootBuiltins x = some (.builtin id)) {R : D → D → D → Prop}
    (hr : ∀ v u d d2 d' H S Q, At X.K (hide S H) v d → At X.K (hide S H) u d2 → R d d2 d' → (∀ v2, At X.K (hide S H) v2 d' → Q v2 H) → r [v, u] H Q) (h : XE X a ρ fun d => XE X b ρ fun d2 => ∃ d', R d d2 d' ∧ k d') (hg : Gl X x := by rfl) (hn : x ≠ "__name__" := by decide) (hdb : (x == ("__debug__" : Str)) = false := by decide)
    (he : starEach (a :: b :: []) X.env = (false, eval a X.env) :: starEach [b] X.env := by rfl) (he2 : starEach (b :: []) X.env = (false, eval b X.env) :: starEach [] X.env := by rfl) (hpl : (backTo pos (starEach [b] X.env)).any (·.1) = false := by rfl) : XE X (.Call (.Name x p) [a, b] [] pos) ρ k :=
  impE (pe_callB hc hg hm hv (pa_cons anyE (pa_cons anyE pa_nil he2) he) hn hdb he hpl) fun σ H Q ⟨S, E, q⟩ => useE h E fun v H1 d e1 a1 hb => useE hb (E.mono e1) fun u H2 d2 e2 a2 ⟨d', hR, hk⟩ =>
    hr v u d d2 d' H2 S Q (a1.mono (hide_ex e2)) a2 hR fun v2 a3 => q v2 H2 d' (e1.trans e2) a3 hk
theorem xe_max (hc : X.calm = true) (hm : X.mg "max" = none) (h : XE X a ρ fun x => ∃ i, x = .int i ∧ XE X b ρ fun y => ∃ j, y = .int j ∧ k (.int (if j > i then j else i))) (hg : Gl X "max" := by rfl)
    (he : starEach (a :: b :: []) X.env = (false, eval a X.env) :: starEach [b] X.env := by rfl) (he2 : starEach (b :: []) X.env = (false, eval b X.env) :: starEach [] X.env := by rfl) (hpl : (backTo pos (starEach [b] X.env)).any (·.1) = false := by rfl) : XE X (.Call (.Name "max" p) [a, b] [] pos) ρ k :=
  xe_cb2 (R := fun d d2 d' => ∃ i j, d = .int i ∧ d2 = .int j ∧ d' = .int (if j > i then j else i)) (call_max2 hc) hm (by decide +kernel) (fun v u d d2 d' H S Q a1 a2 ⟨i, j, h1, h2, h3⟩ q => by
    subst h1 h2 h3
    exact ⟨i, j, by rw [a1.inv_int, a2.inv_int], q _ (.int _)⟩) (h.imp fun d ⟨i, h1, h2⟩ => h2.imp fun d2 ⟨j, h3, h4⟩ => ⟨_, ⟨i, j, h1, h3, rfl⟩, h4⟩) hg (by decide) (by decide) he he2 hpl
theorem xe_min (hc : X.calm = true) (hm : X.mg "min" = none) (h : XE X a ρ fun x => ∃ i, x = .int i ∧ XE X b ρ fun y => ∃ j, y = .int j ∧ k (.int (if j < i then j else i))) (hg : Gl X "min" := by rfl)
    (he : starEach (a :: b :: []) X.env = (false, eval a X.env) :: starEach [b] X.env := by rfl) (he2 : starEach (b :: []) X.env = (false, eval b X.env) :: starEach [] X.env := by rfl) (hpl : (backTo pos (starEach [b] X.env)).any (·.1) = false := by rfl) : XE X (.Call (.Name "min" p) [a, b] [] pos) ρ k :=
  xe_cb2 (R := fun d d2 d' => ∃ i j, d = .int i ∧ d2 = .int j ∧ d' = .int (if j < i then j else i)) (call_min2 hc) hm (by decide +kernel) (fun v u d d2 d' H S Q a1 a2 ⟨i, j, h1, h2, h3⟩ q => by
    subst h1 h2 h3
    exact ⟨i, j, by rw [a1.inv_int, a2.inv_int], q _ (.int _)⟩) (h.imp fun d ⟨i, h1, h2⟩ => h2.imp fun d2 ⟨j, h3, h4⟩ => ⟨_, ⟨i, j, h1, h3, rfl⟩, h4⟩) hg (by decide) (by decide) he he2 hpl
/-- len of a tuple, of a list -/
theorem xe_lenT (hm : X.mg "len" = none) (h : XE X a ρ fun x => ∃ ds, x = .tup ds ∧ k (.int ds.length)) (hg : Gl X "len" := by rfl)
    (he : starEach (a :: []) X.env = (false, eval a X.env) :: starEach [] X.env := by rfl) : XE X (.Call (.Name "len" p) [a] [] pos) ρ k :=
  xe_cb1 (R := fun d d' => ∃ ds, d = .tup ds ∧ d' = .int ds.length) call_len_seq hm (by decide +kernel) (fun v d d' H S Q a1 ⟨ds, h1, h2⟩ q => by
    subst h1 h2
    obtain ⟨p, vs, rfl, g1, g2⟩ := a1.inv_tup
    refine ⟨p, vs, rfl, .inr (ex_t hide_le g1), ?_⟩
    rw [g2.length]
    exact q _ (.int _)) (h.imp fun d ⟨i, h1, h2⟩ => ⟨_, ⟨i, h1, rfl⟩, h2⟩) hg (by decide) (by decide) he
theorem xe_lenL (hm : X.mg "len" = none) (h : XL X a ρ fun ds => k (.int ds.length)) (hg : Gl X "len" := by rfl)
    (he : starEach (a :: []) X.env = (false, eval a X.env) :: starEach [] X.env := by rfl) : XE X (.Call (.Name "len" p) [a] [] pos) ρ k :=
  impE (pe_callB call_len_seq hg hm (by decide +kernel) (pa_cons anyE pa_nil he) (by decide) (by decide) he rfl) fun σ H Q ⟨S, E, q⟩ => useL h E fun p H1 vs ds e1 h1 h2 hk => by
    refine ⟨p, vs, rfl, .inl h1, ?_⟩
    rw [h2.length]
    exact q _ _ _ e1 (.int _) hk
theorem xe_lenS (hm : X.mg "len" = none) (h : XE X a ρ fun x => ∃ z, x = .str z ∧ z.length ≤ sizeLine ∧ k (.int z.length)) (hg : Gl X "len" := by rfl)
    (he : starEach (a :: []) X.env = (false, eval a X.env) :: starEach [] X.env := by rfl) : XE X (.Call (.Name "len" p) [a] [] pos) ρ k :=
  xe_cb1 (R := fun d d' => ∃ z, d = .str z ∧ z.length ≤ sizeLine ∧ d' = .int z.length) call_len_str hm (by decide +kernel) (fun v d d' H S Q a1 ⟨ds, h1, h0, h2⟩ q => by
    subst h1 h2
    exact ⟨ds, by rw [a1.inv_str], h0, q _ (.int _)⟩) (h.imp fun d ⟨i, h1, h0, h2⟩ => ⟨_, ⟨i, h1, h0, rfl⟩, h2⟩) hg (by decide) (by decide) he
/-- tuple(list) -/
theorem xe_tupL (hm : X.mg "tuple" = none) (h : XL X a ρ fun ds => k (.tup ds)) (hg : Gl X "tuple" := by rfl)
    (he : starEach (a :: []) X.env = (false, eval a X.env) :: starEach [] X.env := by rfl) : XE X (.Call (.Name "tuple" p) [a] [] pos) ρ k :=
  impE (pe_callTy call_tuple_of hg hm (by decide +kernel) (pa_cons anyE pa_nil he) (by decide) (by decide) he rfl) fun σ H Q ⟨S, E, q⟩ => useL h E fun p H1 vs ds e1 h1 h2 hk =>
    ⟨p, vs, rfl, .inl ⟨h1, fun l hl => by
      have np := hide_new (E.mono e1).trk hl
      refine q _ _ _ (e1.trans (Ex.new hl)) (.tup (SqT.of ?_) (h2.mono (hide_ex (Ex.new hl)))) hk
      rw [hide_out np]
      exact upd_same⟩⟩
/-- all(list of truth values) -/
theorem bls_of {K : PySem.W.Frag} {H : Hp} : ∀ {vs : List V} {bs : List Bool}, AtL K H vs (bs.map D.bl) → vs = bs.map V.bl
  | [], [], _ => rfl
  | _ :: _, [], h => by cases h
  | [], _ :: _, h => by cases h
  | v :: vs, b :: bs, h => by
    cases h with
    | cons h t =>
      rw [h.inv_bl, bls_of t]
      rfl
theorem xe_all (hc : X.calm = true) (hm : X.mg "all" = none) (h : XL X a ρ fun ds => ∃ bs : List Bool, ds = bs.map D.bl ∧ k (.bl (bs.all id))) (hg : Gl X "all" := by rfl)
    (he : starEach (a :: []) X.env = (false, eval a X.env) :: starEach [] X.env := by rfl) : XE X (.Call (.Name "all" p) [a] [] pos) ρ k :=
  impE (pe_callB (cr_all hc) hg hm (by decide +kernel) (pa_cons anyE pa_nil he) (by decide) (by decide) he rfl) fun σ H Q ⟨S, E, q⟩ => useL h E fun p H1 vs ds e1 h1 h2 ⟨bs, hb, hk⟩ => by
    subst hb
    have ev := bls_of h2
    subst ev
    exact ⟨p, bs, rfl, h1, q _ _ _ e1 (.bl _) hk⟩
end

/-! ## Lists of the frame's own: append, a store -/
section
variable {K : PySem.W.Frag} {S0 S : List Addr} {H0 H : Hp} {σ : L2.St} {ρ : Rho}
theorem StOk.write {i : Nat} {ds es : List D} {p : Addr} {us : List V} (tr : Trk S0 H0) (h1 : ∀ a ∈ S0, a ∈ S) (h2 : ∀ a ∈ S, a ∈ S0 ∨ H0 a = none) (h3 : ∀ (i : Nat) (ds : List D) (p : Addr), ρ[i]? = some (.own ds) → σ[i]? = some (some (.ref p)) → H0 p = none)
    (h4 : Ex H0 H) (E : EnvOk K S H σ ρ) (hi : ρ[i]? = some (.own ds)) (hp : σ[i]? = some (some (.ref p))) (pS : p ∈ S) (a : AtL K (hide S H) us es) : StOk K S0 H0 (upd H p (.lst us)) σ (ρ.set i (.own es)) := by
  have n0 := h3 i ds p hi hp
  obtain ⟨p', vs0, w1, _, w3, _⟩ := E.own i ds hi
  rw [hp] at w1
  cases w1
  have eq : hide S (upd H p (.lst us)) = hide S H := hide_upd pS
  refine ⟨S, h1, h2, fun l fs q k1 k2 => ?_, h4.mut n0 w3 True.intro, by simp [E.len], ⟨fun b hb => ?_, fun q hq => tabS_upd (E.trk.tb q hq) w3 True.intro⟩, fun l d k => ?_, fun l fs k => ?_, fun l m fs gs q k1 k2 k3 k4 => ?_⟩
  · rcases ent_set k1 with ⟨rfl, r⟩ | ⟨ne, r⟩
    · exact h3 l ds q hi k2
    · exact h3 l fs q r k2
  · by_cases z : b = p
    · exact ⟨.lst us, by rw [z]; exact upd_same, True.intro⟩
    · obtain ⟨o, q, n⟩ := E.trk.tr b hb
      exact ⟨o, by rw [upd_ne z]; exact q, n⟩
  · rcases ent_set k with ⟨rfl, r⟩ | ⟨ne, r⟩
    · cases r
    · rw [eq]
      exact E.dat l d r
  · rw [eq]
    rcases ent_set k with ⟨rfl, r⟩ | ⟨ne, r⟩
    · cases r
      exact ⟨p, us, hp, pS, upd_same, a⟩
    · obtain ⟨q, vs, r1, r2, r3, r4⟩ := E.own l fs r
      have : q ≠ p := fun z => by
        rw [z] at r1
        exact ne (E.sep l i fs ds p r hi r1 hp)
      exact ⟨q, vs, r1, r2, by rw [upd_ne this]; exact r3, r4⟩
  · have fix : ∀ {m : Nat} {gs : List D}, (ρ.set i (.own es))[m]? = some (.own gs) → ∃ gs', ρ[m]? = some (.own gs') := fun {m gs} k => by
      rcases ent_set k with ⟨rfl, r⟩ | ⟨ne, r⟩
      · exact ⟨_, hi⟩
      · exact ⟨_, r⟩
    obtain ⟨_, r1⟩ := fix k1
    obtain ⟨_, r2⟩ := fix k2
    exact E.sep l m _ _ q r1 r2 k3 k4
end
section
variable {X : Cx} {ρ : Rho} {j : J} {e ix : Expr} {pos apos cpos p : Pos}
/-- name.append(e) -/
theorem xs_app (i : Nat) {x : Str} {ds : List D} (hi : ρ[i]? = some (.own ds)) (h : XE X e ρ fun d => ds.length < 100000 ∧ j.nx (ρ.set i (.own (ds ++ [d])))) (hN : X.N[i]? = some x := by rfl)
    (hv : Vis X.env.scope x := by first | exact Or.inl rfl | exact Or.inr (Or.inl rfl) | exact Or.inr (Or.inr rfl)) (h1' : (x == ("__debug__" : Str)) = false := by decide) (h2' : (x == ("__classdict__" : Str)) = false := by decide)
    (he : starEach (e :: []) X.env = (false, eval e X.env) :: starEach [] X.env := by rfl) (hs : swapsWith (.Call (.Attribute (.Name x p) "append" apos) [e] [] cpos) none pos.line X.env = pure false := by rfl)
    (hfew : ((backTo cpos (starEach [e] X.env)).all (fun x => !x.1) && (backToKw cpos (keywordEach [] X.env)).all (fun x => x.1.isSome) && decide (([e] : List Expr).length + ([] : List Keyword).length + (if ([] : List Keyword).isEmpty then 0 else 1) < 30)) = true := by rfl)
    (hline : (apos.endLine == cpos.line) = true := by rfl) :
    XS X (.Expr (.Call (.Attribute (.Name x p) "append" apos) [e] [] cpos) pos) ρ j := fun S0 H0 tr =>
  impS (ps_expr (pe_bm PySem.F.plainAttrs_list PySem.F.slot_list_append PySem.F.type_list_append mt_append (pe_var hN hv h1' h2') (pa_cons anyE pa_nil he) (hfew := hfew) (hline := hline) (hs := he)) hs) fun En σ H ⟨⟨S, h1, h2, h3, h4, E⟩, f⟩ => by
    obtain ⟨q, vs, g1, g2, g3, g4⟩ := E.own i ds hi
    refine ⟨_, g1, .inl ⟨rfl, vs, SqL.of g3⟩, useE h E fun v H2 d e2 a2 ⟨hl, hk⟩ => ⟨q, vs, v, rfl, rfl, e2.k _ _ g3 True.intro, sz_lt (by rw [g4.length]; exact hl), ?_⟩⟩
    exact f.nx _ _ _ (StOk.write tr h1 h2 h3 (h4.trans e2) (E.mono e2) hi g1 g2 ((g4.mono (hide_ex e2)).append (.cons a2 .nil))) hk
/-- name[ix] = e -/
theorem xs_put (i : Nat) {x : Str} {ds : List D} (hi : ρ[i]? = some (.own ds)) (h : XE X e ρ fun d => XE X ix ρ fun y => ∃ n : Nat, y = .int n ∧ n < ds.length ∧ j.nx (ρ.set i (.own (ds.set n d)))) (hN : X.N[i]? = some x := by rfl)
    (hv : Vis X.env.scope x := by first | exact Or.inl rfl | exact Or.inr (Or.inl rfl) | exact Or.inr (Or.inr rfl)) (h1' : (x == ("__debug__" : Str)) = false := by decide) (h2' : (x == ("__classdict__" : Str)) = false := by decide)
    (ha : ∀ v, assign (.Subscript (.Name x p) ix apos) X.env v = (do
      let ov ← holding [v] (eval (.Name x p) X.env)
      let iv ← holding [v, ov] (eval ix X.env)
      standAt apos
      holding [v, ov, iv] (setItem ov iv v)
      release [v, ov, iv] []) := by intro _; rfl)
    (hs : swapsWithSole [.Subscript (.Name x p) ix apos] e pos.line X.env = pure false := by rfl) (hw : swappedStores [.Subscript (.Name x p) ix apos] e X.env = pure none := by rfl)
    (h1 : (assignEach [.Subscript (.Name x p) ix apos] X.env).map (·.2) = [assign (.Subscript (.Name x p) ix apos) X.env] := by rfl) :
    XS X (.Assign [.Subscript (.Name x p) ix apos] e pos) ρ j := fun S0 H0 tr =>
  impS (ps_asg anyE (pg_sub (pe_var hN hv h1' h2') anyE set_list ha) hs hw h1) fun En σ H ⟨⟨S, h1, h2, h3, h4, E⟩, f⟩ => useE h E fun v H2 d e2 a2 hb => by
    obtain ⟨q, vs, g1, g2, g3, g4⟩ := (E.mono e2).own i ds hi
    refine ⟨_, g1, useE hb (E.mono e2) fun y H3 d3 e3 a3 ⟨n, hn, hl, hk⟩ => ?_⟩
    subst hn
    refine ⟨q, vs, _, n, rfl, a3.inv_int, e3.k _ _ g3 True.intro, ?_, ?_⟩
    · unfold ixN
      rw [if_pos (by omega), if_pos (by rw [g4.length]; omega)]
      simp
    · exact f.nx _ _ _ (StOk.write tr h1 h2 h3 (h4.trans (e2.trans e3)) ((E.mono e2).mono e3) hi g1 g2 ((g4.mono (hide_ex e3)).set n (a2.mono (hide_ex e3)))) hk
end
end VL

set_option Elab.async false
set_option linter.all false
set_option maxRecDepth 100000
set_option maxHeartbeats 4000000
namespace VL
variable [Tb]
open PySem L2

/-! ## Loops -/
section
variable {X : Cx} {ρ : Rho} {j : J} {c it e : Expr} {body : List Stmt} {pos p p2 : Pos}
/-- while: W a word of what is left to do and of the names -/
theorem xs_while (W : Nat → Rho → Prop) (h0 : ∃ m, W m ρ) (h : ∀ m ρ', W m ρ' → XT X c ρ' fun b => if b = true then XB X body ρ' { nx := fun ρ2 => ∃ m', m' < m ∧ W m' ρ2, rt := j.rt, bk := j.nx, ct := fun ρ2 => ∃ m', m' < m ∧ W m' ρ2 } else j.nx ρ')
    (hp : PassesOwn (model X.prog X.w) X.A X.env X.xe := by exact PassesOwn.never) : XS X (.While c body [] pos) ρ j := fun S0 H0 tr =>
  impS (ps_while hp anyT anySs) fun En σ H ⟨ok, f⟩ => by
    obtain ⟨m0, w0⟩ := h0
    refine ⟨fun m σ' H' => ∃ ρ', StOk X.K S0 H0 H' σ' ρ' ∧ W m ρ', ⟨m0, ρ, ok, w0⟩, ?_⟩
    rintro m σ' H' ⟨ρ', ⟨S, h1, h2, h3, h4, E⟩, hw⟩
    refine useT (h m ρ' hw) E fun b H2 e2 hk => ?_
    have ok2 : StOk X.K S0 H0 H2 σ' ρ' := ⟨S, h1, h2, h3, h4.trans e2, E.mono e2⟩
    cases b with
    | true =>
      refine ⟨fun σ3 H3 => ∃ m', m' < m ∧ ∃ ρ3, StOk X.K S0 H0 H3 σ3 ρ3 ∧ W m' ρ3, fun σ3 H3 ⟨m', hm, r⟩ => ⟨m', hm, r⟩, _, hk S0 H0 tr, ok2, ⟨?_, f.rt, f.nx, ?_⟩⟩
      · rintro σ3 H3 ρ3 ok3 ⟨m', hm, hw'⟩
        exact ⟨m', hm, ρ3, ok3, hw'⟩
      · rintro σ3 H3 ρ3 ok3 ⟨m', hm, hw'⟩
        exact ⟨m', hm, ρ3, ok3, hw'⟩
    | false => exact f.nx σ' H2 ρ' ok2 hk
/-- for name in range(e) -/
theorem xs_forR (i : Nat) {x : Str} (h : XE X e ρ fun d => ∃ n : Int, d = .int n ∧ (-(2 ^ 62) ≤ n ∧ n < 2 ^ 62) ∧ ∃ W : Nat → Rho → Prop, W 0 ρ ∧
      (∀ (m : Nat) ρ', (m : Int) < n → W m ρ' → XB X body (ρ'.set i (.dat (.int m))) { nx := W (m + 1), rt := j.rt, bk := j.nx, ct := W (m + 1) }) ∧ ∀ ρ', W n.toNat ρ' → j.nx ρ') (hm : X.mg "range" = none) (hN : X.N.Nodup)
    (hc : X.calm = true := by rfl) (hg : Gl X "range" := by rfl) (hi : X.N[i]? = some x := by rfl) (hx : Loc X.env.scope x := by first | exact Or.inl rfl | exact Or.inr rfl) (hf : X.fn x = true ∨ X.env.scope.names.lookup x = some .local := by first | exact .inl rfl | exact .inr rfl)
    (he : starEach (e :: []) X.env = (false, eval e X.env) :: starEach [] X.env := by rfl) (he2 : starEach [e] X.env = [(false, eval e X.env)] := by rfl) (hp : PassesOwn (model X.prog X.w) X.A X.env X.xe := by exact PassesOwn.never)
    (hs : ∀ y, foldedSetIterable (.Call (.Name "range" p) [e] [] p2) X.env y = pure y := by intro _; rfl) {px : Pos} :
    XS X (.For (.Name x px) (.Call (.Name "range" p) [e] [] p2) body [] pos) ρ j := fun S0 H0 tr =>
  impS (ps_for hp hc (pi_range1 hg hm (pa_cons anyE pa_nil he) he2) (pg_name hN hi hx hf) anySs hs) fun En σ H ⟨⟨S, h1, h2, h3, h4, E⟩, f⟩ => useE h E fun v H1 d e1 a1 ⟨n, hn, hb, W, w0, hw, hd⟩ => by
    subst hn
    have ok1 : StOk X.K S0 H0 H1 σ ρ := ⟨S, h1, h2, h3, h4.trans e1, E.mono e1⟩
    refine ⟨n, by rw [a1.inv_int], hb.1, hb.2, for_range (lo := 0) (n := n.toNat) (fun m σ' H' => ∃ ρ', StOk X.K S0 H0 H' σ' ρ' ∧ W m ρ') ⟨ρ, ok1, w0⟩ ?_ ?_⟩
    · rintro m σ' H' hm ⟨ρ', ⟨S', k1, k2, k3, k4, E'⟩, w'⟩
      have e0 : (0 : Int) + (m : Int) = (m : Int) := Int.zero_add _
      rw [e0]
      refine ⟨_, hw m ρ' (by omega) w' S0 H0 tr, StOk.store k1 k2 k3 k4 E' (.int _), ⟨?_, f.rt, f.nx, ?_⟩⟩
      · exact fun σ3 H3 ρ3 ok3 hw3 => ⟨ρ3, ok3, hw3⟩
      · exact fun σ3 H3 ρ3 ok3 hw3 => ⟨ρ3, ok3, hw3⟩
    · rintro σ' H' ⟨ρ', ok', w'⟩
      exact f.nx σ' H' ρ' ok' (hd ρ' w')
/-- for target in a list that stands still; the target by its own rule -/
theorem xs_forL (i : Nat) {x : Str} (h : XE X it ρ fun d => ∃ ds, d = .lst ds ∧ ∃ W : Nat → Rho → Prop, W 0 ρ ∧
      (∀ (m : Nat) d ρ', ds[m]? = some d → W m ρ' → XB X body (ρ'.set i (.dat d)) { nx := W (m + 1), rt := j.rt, bk := j.nx, ct := W (m + 1) }) ∧ ∀ ρ', W ds.length ρ' → j.nx ρ') (hN : X.N.Nodup)
    (hc : X.calm = true := by rfl) (hi : X.N[i]? = some x := by rfl) (hx : Loc X.env.scope x := by first | exact Or.inl rfl | exact Or.inr rfl) (hf : X.fn x = true ∨ X.env.scope.names.lookup x = some .local := by first | exact .inl rfl | exact .inr rfl)
    (hp : PassesOwn (model X.prog X.w) X.A X.env X.xe := by exact PassesOwn.never)
    (hs : ∀ y, foldedSetIterable it X.env y = pure y := by intro _; rfl) {px : Pos} :
    XS X (.For (.Name x px) it body [] pos) ρ j := fun S0 H0 tr =>
  impS (ps_for hp hc (pi_list anyE) (pg_name hN hi hx hf) anySs hs) fun En σ H ⟨⟨S, h1, h2, h3, h4, E⟩, f⟩ => useE h E fun v H1 d e1 a1 ⟨ds, hd, W, w0, hw, hd2⟩ => by
    subst hd
    obtain ⟨a, vs, rfl, g1, g2⟩ := a1.inv_lst
    obtain ⟨H2, ok2, x1, x2, x3⟩ := StOk.base tr h1 h2 h3 (h4.trans e1) (E.mono e1)
    have f2 := f.weaken x1 x2
    have tr2 : Trk S0 H2 := tr.mono x1
    refine ⟨a, rfl, ⟨vs, ex_l hide_le g1⟩, for_list (K := X.K) (a := a) (xs := vs) (fun m σ' H' => ∃ ρ', StOk X.K S0 H2 H' σ' ρ' ∧ W m ρ') ⟨ρ, ok2, w0⟩ ?_ ?_ ?_⟩
    · rintro m σ' H' _ ⟨ρ', ⟨S', k1, k2, k3, k4, E'⟩, w'⟩
      exact ex_l hide_le (ex_l (x3 H' S' k2 k4) g1)
    · rintro m y σ' H' hm ⟨ρ', ⟨S', k1, k2, k3, k4, E'⟩, w'⟩
      obtain ⟨d, q1, q2⟩ := g2.get' hm
      refine ⟨_, hw m d ρ' q1 w' S0 H2 tr2, StOk.store k1 k2 k3 k4 E' (q2.mono (x3 H' S' k2 k4)), ⟨?_, f2.rt, f2.nx, ?_⟩⟩
      · exact fun σ3 H3 ρ3 ok3 hw3 => ⟨ρ3, ok3, hw3⟩
      · exact fun σ3 H3 ρ3 ok3 hw3 => ⟨ρ3, ok3, hw3⟩
    · rintro σ' H' ⟨ρ', ok', w'⟩
      rw [g2.length] at w'
      exact f2.nx σ' H' ρ' ok' (hd2 ρ' w')
end

/-! ## Comprehensions: one for, its name in a slot of its own -/
section
variable {K : PySem.W.Frag} {S : List Addr} {H : Hp} {σ : L2.St} {ρ : Rho}
theorem EnvOk.wipe1 (E : EnvOk K S H σ ρ) (i : Nat) : EnvOk K S H (σ.set i none) (ρ.set i .un) := by
  refine ⟨by simp [E.len], E.trk, fun j x h => ?_, fun j ds h => ?_, fun j l ds es p h1 h2 h3 h4 => ?_⟩
  · rcases ent_set h with ⟨rfl, q⟩ | ⟨ne, q⟩
    · cases q
    · obtain ⟨u, h1, h2⟩ := E.dat j x q
      exact ⟨u, by rw [List.getElem?_set_ne (Ne.symm ne)]; exact h1, h2⟩
  · rcases ent_set h with ⟨rfl, q⟩ | ⟨ne, q⟩
    · cases q
    · obtain ⟨p, vs, h1, h2, h3, h4⟩ := E.own j ds q
      exact ⟨p, vs, by rw [List.getElem?_set_ne (Ne.symm ne)]; exact h1, h2, h3, h4⟩
  · rcases ent_set h1 with ⟨rfl, q⟩ | ⟨ne, q⟩
    · cases q
    · rcases ent_set h2 with ⟨rfl, r⟩ | ⟨me, r⟩
      · cases r
      · rw [List.getElem?_set_ne (Ne.symm ne)] at h3
        rw [List.getElem?_set_ne (Ne.symm me)] at h4
        exact E.sep j l ds es p q r h3 h4
end
theorem wipe_again (σ : L2.St) (i : Nat) (x : V) : wipe ((wipe σ [i]).set i (some x)) [i] = wipe σ [i] := by
  show ((σ.set i none).set i (some x)).set i none = σ.set i none
  simp
/-- the state of a comprehension: the list at Dl holds acc, all else grew -/
def Cw (K : PySem.W.Frag) (S : List Addr) (H : Hp) (W : Nat → List D → Prop) (Dl : Addr) (i : Nat) (H' : Hp) : Prop := H Dl = none ∧ Ex H H' ∧ ∃ vs acc, H' Dl = some (.lst vs) ∧ AtL K (hide (Dl :: S) H') vs acc ∧ W i acc
section
variable {X : Cx} {ρ : Rho} {elt it e : Expr} {scope : Scope} {pos p p2 px : Pos} {kl : List D → Prop}
/-- one turn without a test -/
theorem cw_turn {K : PySem.W.Frag} {S : List Addr} {H H' : Hp} {W : Nat → List D → Prop} {Dl : Addr} {m : Nat} {σ2 : L2.St} {te : TE} {kd : List D → D → Prop} (p : Cw K S H W Dl m H')
    (tr : Trk S H) (hstep : ∀ acc, W m acc → ∀ Q : VK, (∀ v H4 d, Ex H' H4 → At K (hide (Dl :: S) H4) v d → acc.length < 100000 ∧ W (m + 1) (acc ++ [d]) → Q v H4) → te σ2 H' Q) :
    te σ2 H' fun y H4 => ∃ acc, H4 Dl = some (.lst acc) ∧ acc.length < sizeLine ∧ Cw K S H W Dl (m + 1) (upd H4 Dl (.lst (acc ++ [y]))) := by
  obtain ⟨p1, p2, vs, acc, p3, p4, p5⟩ := p
  refine hstep acc p5 _ fun v H4 d e4 a4 ⟨hl, hw⟩ => ⟨vs, e4.k _ _ p3 True.intro, sz_lt (by rw [p4.length]; exact hl), p1, (p2.trans e4).mut p1 (e4.k _ _ p3 True.intro) True.intro, vs ++ [v], acc ++ [d], upd_same, ?_, hw⟩
  rw [hide_upd List.mem_cons_self]
  exact (p4.mono (hide_ex e4)).append (.cons a4 .nil)
theorem at_hid {K : PySem.W.Frag} {S : List Addr} {H : Hp} {p : Addr} {v : V} {d : D} (hn : H p = none) (h : At K (hide S H) v d) : At K (hide (p :: S) H) v d := h.mono <| ExN.of fun a o q => by
  have ha : a ∉ S := fun z => by
    rw [hide_in z] at q
    cases q
  rw [hide_out ha] at q
  have ne : a ≠ p := ne_of_none q hn
  rw [hide_out (by simp [ne, ha])]
  exact q
theorem atL_hid {K : PySem.W.Frag} {S : List Addr} {H : Hp} {p : Addr} {v : List V} {d : List D} (hn : H p = none) (h : AtL K (hide S H) v d) : AtL K (hide (p :: S) H) v d := h.mono <| ExN.of fun a o q => by
  have ha : a ∉ S := fun z => by
    rw [hide_in z] at q
    cases q
  rw [hide_out ha] at q
  have ne : a ≠ p := ne_of_none q hn
  rw [hide_out (by simp [ne, ha])]
  exact q
/-- the context of the element -/
abbrev Blk (X : Cx) (scope : Scope) (k : Cx → Prop) : Prop := ∀ (s : Shared) (H : Hp) (C : Addr) (cl : List (Str × Addr)) (fp : List Addr), k (X.blk s H scope (compEnvC scope cl C X.env) fp)
def cE (X : Cx) (scope : Scope) (elt : Expr) : TE := fun σ H Q => Blk X scope fun Y => aE Y elt σ H Q
/-- what a comprehension over range(e) reads -/
theorem rd_lcR (i : Nat) {W : Nat → List D → Prop} {n : Int} (h : XE X e ρ fun d => d = .int n ∧ (-(2 ^ 62) ≤ n ∧ n < 2 ^ 62) ∧ W 0 [] ∧ ∀ acc, W n.toNat acc → kl acc)
    (he : Blk X scope fun Y => ∀ (m : Nat) acc, (m : Int) < n → W m acc → XE Y elt ((ρ.set i .un).set i (.dat (.int m))) fun d => acc.length < 100000 ∧ W (m + 1) (acc ++ [d])) (σ : L2.St) (H : Hp) (Q : VK) (z : tN X.K ρ kl σ H Q) :
    tLc (iRng1 (tCons (aE X e) tNil)) (gName i) tYes (cE X scope elt) [i] σ H Q := by
  obtain ⟨S, E, q⟩ := z
  refine useE h E fun v H1 d e1 a1 ⟨hd, hb, w0, hend⟩ => ?_
  · subst hd
    refine ⟨n, by rw [a1.inv_int], hb.1, hb.2, fun Dl hD => ?_⟩
    have E1 := E.mono e1
    have nD := hide_new E1.trk hD
    refine lc_range (lo := 0) (n := n.toNat) (g := gName i) (tt := tYes) (te := cE X scope elt) (vs := [i]) (σ := σ) (Qd := fun H' => Q (.ref Dl) H') (Cw X.K S H1 W Dl) ⟨hD, Ex.new hD, [], [], upd_same, .nil, w0⟩ ?_ ?_
    · rintro m H2 hm' p
      have e0 : (0 : Int) + (m : Int) = (m : Int) := Int.zero_add _
      rw [e0]
      refine ⟨wipe_again σ i _, ?_⟩
      show cE X scope elt ((wipe σ [i]).set i (some (.int m))) H2 fun y H4 => ∃ acc, H4 Dl = some (.lst acc) ∧ acc.length < sizeLine ∧ Cw X.K S H1 W Dl (m + 1) (upd H4 Dl (.lst (acc ++ [y])))
      refine cw_turn p E1.trk (kd := fun _ _ => True) fun acc hw Q' q' s H' C cl fp => ?_
      obtain ⟨p1, p2, vs, acc', p3, p4, p5⟩ := p
      have E2 : EnvOk X.K (Dl :: S) H2 (wipe σ [i]) (ρ.set i .un) := (E1.hid p2 hD p3).2.wipe1 i
      exact useE (he s H' C cl fp m acc (by omega) hw) (E2.store (.int _)) fun v3 H4 d3 e4 a4 hk => q' v3 H4 d3 e4 a4 hk
    · rintro H2 ⟨p1, p2, vs, acc, p3, p4, p5⟩
      exact q Dl H2 vs acc (e1.back hD) (e1.trans p2) p3 p4 (hend acc p5)
/-- [elt for name in range(e)] -/
theorem xn_lcR (i : Nat) {x : Str} {W : Nat → List D → Prop} {n : Int} (h : XE X e ρ fun d => d = .int n ∧ (-(2 ^ 62) ≤ n ∧ n < 2 ^ 62) ∧ W 0 [] ∧ ∀ acc, W n.toNat acc → kl acc)
    (he : Blk X scope fun Y => ∀ (m : Nat) acc, (m : Int) < n → W m acc → XE Y elt ((ρ.set i .un).set i (.dat (.int m))) fun d => acc.length < 100000 ∧ W (m + 1) (acc ++ [d])) (hm : X.mg "range" = none) (hN : X.N.Nodup)
    (hB : blkC X.N X.env.scope scope [(x, i)] = true := by first | decide +kernel | rfl) (hc : X.calm = true := by rfl) (hg : Gl X "range" := by rfl) (hi : X.N[i]? = some x := by rfl)
    (hx : Blk X scope fun Y => L2.Loc Y.env.scope x := by first | exact fun _ _ _ _ _ => Or.inl rfl | exact fun _ _ _ _ _ => Or.inr rfl)
    (hf : Blk X scope fun Y => Y.fn x = true ∨ Y.env.scope.names.lookup x = some .local := by first | exact fun _ _ _ _ _ => Or.inr rfl | exact fun _ _ _ _ _ => Or.inl rfl)
    (hs1 : starEach (e :: []) X.env = (false, eval e X.env) :: starEach [] X.env := by rfl) (hs2 : starEach [e] X.env = [(false, eval e X.env)] := by rfl)
    (hs : ∀ y, foldedSetIterable (.Call (.Name "range" p) [e] [] p2) X.env y = pure y := by intro _; rfl) :
    XN X (.ListComp elt [⟨.Name x px, .Call (.Name "range" p) [e] [] p2, [], 0⟩] scope pos) ρ kl :=
  impE (pe_lc (own := [(x, i)]) (g := gName i) (tt := tYes) (te := cE X scope elt) hc hN (pi_range1 hg hm (pa_cons anyE pa_nil hs1) hs2) (blkOk_by hB)
    (fun s H C cl fp => pg_name hN hi (hx s H C cl fp) (hf s H C cl fp)) (fun _ _ _ _ _ => pts_nil) (fun s H C cl fp => impE anyE fun σ H Q q => q s _ C cl fp) hs) fun σ H Q z => rd_lcR i h he σ H Q z
/-- name = a comprehension, on one line -/
theorem xs_ofN (l : Nat) {st : Stmt} {tl : TE} {j : J} (hps : PS X st (tAsg tl (gName l))) (hrd : ∀ σ H Q, tN X.K ρ kl σ H Q → tl σ H Q) (h : ∀ ds, kl ds → j.nx (ρ.set l (.dat (.lst ds)))) : XS X st ρ j := fun S0 H0 tr =>
  impS hps fun En σ H ⟨⟨S, h1, h2, h3, h4, E⟩, f⟩ => hrd σ H _ ⟨S, E, fun p H2 vs ds hn e2 hp a hk => by
    have np := hide_new E.trk hn
    have at_ : At X.K (hide S H2) (.ref p) (.lst ds) := .lst (SqL.of (by rw [hide_out np]; exact hp)) (a.mono (hide_sub fun x hx => List.mem_cons_of_mem _ hx))
    exact f.nx _ _ _ (StOk.store h1 h2 h3 (h4.trans e2) (E.mono e2) at_) (h ds hk)⟩
theorem xs_lcR (l i : Nat) {x y : Str} {py spos : Pos} {j : J} {W : Nat → List D → Prop} {n : Int} (h : XE X e ρ fun d => d = .int n ∧ (-(2 ^ 62) ≤ n ∧ n < 2 ^ 62) ∧ W 0 [] ∧ ∀ acc, W n.toNat acc → j.nx (ρ.set l (.dat (.lst acc))))
    (he : Blk X scope fun Y => ∀ (m : Nat) acc, (m : Int) < n → W m acc → XE Y elt ((ρ.set i .un).set i (.dat (.int m))) fun d => acc.length < 100000 ∧ W (m + 1) (acc ++ [d])) (hm : X.mg "range" = none) (hN : X.N.Nodup)
    (hB : blkC X.N X.env.scope scope [(x, i)] = true := by first | decide +kernel | rfl) (hc : X.calm = true := by rfl) (hg : Gl X "range" := by rfl) (hi : X.N[i]? = some x := by rfl) (hy : X.N[l]? = some y := by rfl) (hyl : X.env.scope.names.lookup y = some .local := by rfl)
    (hsw : swapsWith (.ListComp elt [⟨.Name x px, .Call (.Name "range" p) [e] [] p2, [], 0⟩] scope pos) (some (.Name y py)) spos.line X.env = pure true := by rfl)
    (hx : Blk X scope fun Y => L2.Loc Y.env.scope x := by first | exact fun _ _ _ _ _ => Or.inl rfl | exact fun _ _ _ _ _ => Or.inr rfl)
    (hf : Blk X scope fun Y => Y.fn x = true ∨ Y.env.scope.names.lookup x = some .local := by first | exact fun _ _ _ _ _ => Or.inr rfl | exact fun _ _ _ _ _ => Or.inl rfl)
    (hs1 : starEach (e :: []) X.env = (false, eval e X.env) :: starEach [] X.env := by rfl) (hs2 : starEach [e] X.env = [(false, eval e X.env)] := by rfl)
    (hs : ∀ y, foldedSetIterable (.Call (.Name "range" p) [e] [] p2) X.env y = pure y := by intro _; rfl) :
    XS X (.Assign [.Name y py] (.ListComp elt [⟨.Name x px, .Call (.Name "range" p) [e] [] p2, [], 0⟩] scope pos) spos) ρ j :=
  xs_ofN l (ps_setLc (own := [(x, i)]) (g := gName i) (tt := tYes) (te := cE X scope elt) hc hN hy hyl hsw (pi_range1 hg hm (pa_cons anyE pa_nil hs1) hs2) (blkOk_by hB)
    (fun s H C cl fp => pg_name hN hi (hx s H C cl fp) (hf s H C cl fp)) (fun _ _ _ _ _ => pts_nil) (fun s H C cl fp => impE anyE fun σ H Q q => q s _ C cl fp) hs) (fun σ H Q z => rd_lcR i h he σ H Q z) fun ds hk => hk
end
end VL

set_option Elab.async false
set_option linter.all false
set_option maxRecDepth 100000
set_option maxHeartbeats 4000000
namespace VL
variable [Tb]
open PySem L2

/-! ## More comprehensions: over lists and tuples that stand still -/
section
variable {X : Cx} {ρ : Rho} {elt it e : Expr} {scope : Scope} {pos p p2 px : Pos} {kl : List D → Prop}
theorem xn_lcL (i : Nat) {x : Str} {W : Nat → List D → Prop} {ds : List D} (h : XL X it ρ fun es => es = ds ∧ W 0 [] ∧ ∀ acc, W ds.length acc → kl acc)
    (he : Blk X scope fun Y => ∀ (m : Nat) d acc, ds[m]? = some d → W m acc → XE Y elt ((ρ.set i .un).set i (.dat d)) fun d' => acc.length < 100000 ∧ W (m + 1) (acc ++ [d'])) (hN : X.N.Nodup)
    (hB : blkC X.N X.env.scope scope [(x, i)] = true := by first | decide +kernel | rfl) (hc : X.calm = true := by rfl) (hi : X.N[i]? = some x := by rfl)
    (hx : Blk X scope fun Y => L2.Loc Y.env.scope x := by first | exact fun _ _ _ _ _ => Or.inl rfl | exact fun _ _ _ _ _ => Or.inr rfl)
    (hf : Blk X scope fun Y => Y.fn x = true ∨ Y.env.scope.names.lookup x = some .local := by first | exact fun _ _ _ _ _ => Or.inr rfl | exact fun _ _ _ _ _ => Or.inl rfl)
    (hs : ∀ y, foldedSetIterable it X.env y = pure y := by intro _; rfl) :
    XN X (.ListComp elt [⟨.Name x px, it, [], 0⟩] scope pos) ρ kl := by
  refine impE (pe_lc (own := [(x, i)]) (g := gName i) (tt := tYes) (te := cE X scope elt) hc hN (pi_list anyE) (blkOk_by hB)
    (fun s H C cl fp => pg_name hN hi (hx s H C cl fp) (hf s H C cl fp)) (fun _ _ _ _ _ => pts_nil) (fun s H C cl fp => impE anyE fun σ H Q q => q s _ C cl fp) hs) fun σ H Q ⟨S, E, q⟩ => useL h E fun a H1 vs0 es e1 hL a1 ⟨hd, w0, hend⟩ => ?_
  subst hd
  refine ⟨a, rfl, ⟨vs0, hL⟩, fun Dl hD => ?_⟩
  have E1 := E.mono e1
  refine lc_list (K := X.K) (a := a) (xs := vs0) (g := gName i) (tt := tYes) (te := cE X scope elt) (vs := [i]) (σ := σ) (Qd := fun H' => Q (.ref Dl) H') (Cw X.K S H1 W Dl) ⟨hD, Ex.new hD, [], [], upd_same, .nil, w0⟩ (fun m H2 _ p => ex_l p.2.1 hL) ?_ ?_
  · rintro m x0 H2 hm' p
    obtain ⟨d, hd, ad⟩ := a1.get' hm'
    refine ⟨wipe_again σ i _, ?_⟩
    show cE X scope elt ((wipe σ [i]).set i (some x0)) H2 fun y H4 => ∃ acc, H4 Dl = some (.lst acc) ∧ acc.length < sizeLine ∧ Cw X.K S H1 W Dl (m + 1) (upd H4 Dl (.lst (acc ++ [y])))
    refine cw_turn p E1.trk (kd := fun _ _ => True) fun acc hw Q' q' s H' C cl fp => ?_
    obtain ⟨p1, p2, vs, acc', p3, p4, p5⟩ := p
    have E2 : EnvOk X.K (Dl :: S) H2 (wipe σ [i]) (ρ.set i .un) := (E1.hid p2 hD p3).2.wipe1 i
    refine useE (he s H' C cl fp m d acc hd hw) (E2.store ?_) fun v3 H4 d3 e4 a4 hk => q' v3 H4 d3 e4 a4 hk
    exact (at_hid hD ad).mono (hide_ex p2)
  · rintro H2 ⟨p1, p2, vs, acc, p3, p4, p5⟩
    rw [a1.length] at p5
    exact q Dl H2 vs acc (e1.back hD) (e1.trans p2) p3 p4 (hend acc p5)
theorem xn_lcT (i : Nat) {x : Str} {W : Nat → List D → Prop} {ds : List D} (h : XE X it ρ fun z => z = .tup ds ∧ W 0 [] ∧ ∀ acc, W ds.length acc → kl acc)
    (he : Blk X scope fun Y => ∀ (m : Nat) d acc, ds[m]? = some d → W m acc → XE Y elt ((ρ.set i .un).set i (.dat d)) fun d' => acc.length < 100000 ∧ W (m + 1) (acc ++ [d'])) (hN : X.N.Nodup)
    (hB : blkC X.N X.env.scope scope [(x, i)] = true := by first | decide +kernel | rfl) (hc : X.calm = true := by rfl) (hi : X.N[i]? = some x := by rfl)
    (hx : Blk X scope fun Y => L2.Loc Y.env.scope x := by first | exact fun _ _ _ _ _ => Or.inl rfl | exact fun _ _ _ _ _ => Or.inr rfl)
    (hf : Blk X scope fun Y => Y.fn x = true ∨ Y.env.scope.names.lookup x = some .local := by first | exact fun _ _ _ _ _ => Or.inr rfl | exact fun _ _ _ _ _ => Or.inl rfl)
    (hs : ∀ y, foldedSetIterable it X.env y = pure y := by intro _; rfl) :
    XN X (.ListComp elt [⟨.Name x px, it, [], 0⟩] scope pos) ρ kl := by
  refine impE (pe_lc (own := [(x, i)]) (g := gName i) (tt := tYes) (te := cE X scope elt) hc hN (pi_tup anyE) (blkOk_by hB)
    (fun s H C cl fp => pg_name hN hi (hx s H C cl fp) (hf s H C cl fp)) (fun _ _ _ _ _ => pts_nil) (fun s H C cl fp => impE anyE fun σ H Q q => q s _ C cl fp) hs) fun σ H Q ⟨S, E, q⟩ => useE h E fun v H1 z e1 az ⟨hd, w0, hend⟩ => ?_
  subst hd
  obtain ⟨a, vs0, rfl, hL, a1⟩ := az.inv_tup
  have hL := ex_t hide_le hL
  refine ⟨a, rfl, ⟨vs0, hL⟩, fun Dl hD => ?_⟩
  have E1 := E.mono e1
  refine lc_tup (K := X.K) (a := a) (xs := vs0) (g := gName i) (tt := tYes) (te := cE X scope elt) (vs := [i]) (σ := σ) (Qd := fun H' => Q (.ref Dl) H') (Cw X.K S H1 W Dl) ⟨hD, Ex.new hD, [], [], upd_same, .nil, w0⟩ (fun m H2 _ p => ex_t p.2.1 hL) ?_ ?_
  · rintro m x0 H2 hm' p
    obtain ⟨d, hd, ad⟩ := a1.get' hm'
    refine ⟨wipe_again σ i _, ?_⟩
    show cE X scope elt ((wipe σ [i]).set i (some x0)) H2 fun y H4 => ∃ acc, H4 Dl = some (.lst acc) ∧ acc.length < sizeLine ∧ Cw X.K S H1 W Dl (m + 1) (upd H4 Dl (.lst (acc ++ [y])))
    refine cw_turn p E1.trk (kd := fun _ _ => True) fun acc hw Q' q' s H' C cl fp => ?_
    obtain ⟨p1, p2, vs, acc', p3, p4, p5⟩ := p
    have E2 : EnvOk X.K (Dl :: S) H2 (wipe σ [i]) (ρ.set i .un) := (E1.hid p2 hD p3).2.wipe1 i
    refine useE (he s H' C cl fp m d acc hd hw) (E2.store ?_) fun v3 H4 d3 e4 a4 hk => q' v3 H4 d3 e4 a4 hk
    exact (at_hid hD ad).mono (hide_ex p2)
  · rintro H2 ⟨p1, p2, vs, acc, p3, p4, p5⟩
    rw [a1.length] at p5
    exact q Dl H2 vs acc (e1.back hD) (e1.trans p2) p3 p4 (hend acc p5)
end

/-! ## Targets: names, tuples of targets -/
def Kept (ρ ρ' : Rho) (σ σ' : L2.St) : Prop := ∀ (i : Nat) (ds : List D) (p : Addr), ρ'[i]? = some (.own ds) → σ'[i]? = some (some (.ref p)) → ρ[i]? = some (.own ds) ∧ σ[i]? = some (some (.ref p))
theorem Kept.refl (ρ : Rho) (σ : L2.St) : Kept ρ ρ σ σ := fun _ _ _ a b => ⟨a, b⟩
theorem Kept.trans {a b c : Rho} {x y z : L2.St} (h : Kept a b x y) (g : Kept b c y z) : Kept a c x z := fun i ds p u v => let ⟨q, r⟩ := g i ds p u v; h i ds p q r
theorem Kept.set {ρ : Rho} {σ : L2.St} {i : Nat} {d : D} {v : V} : Kept ρ (ρ.set i (.dat d)) σ (σ.set i (some v)) := fun l ds p k1 k2 => by
  rcases ent_set k1 with ⟨rfl, q⟩ | ⟨ne, q⟩
  · cases q
  · rw [List.getElem?_set_ne (Ne.symm ne)] at k2
    exact ⟨q, k2⟩
def tG (K : PySem.W.Frag) (ρ : Rho) (d : D) (k : Rho → Prop) : TG := fun v σ H Q => ∃ S, EnvOk K S H σ ρ ∧ At K (hide S H) v d ∧ ∀ σ' ρ', EnvOk K S H σ' ρ' → Kept ρ ρ' σ σ' → k ρ' → Q σ' H
def tGs (K : PySem.W.Frag) (ρ : Rho) (ds : List D) (k : Rho → Prop) : TGs := fun vs σ H Q => ∃ S, EnvOk K S H σ ρ ∧ AtL K (hide S H) vs ds ∧ ∀ σ' ρ', EnvOk K S H σ' ρ' → Kept ρ ρ' σ σ' → k ρ' → Q σ' H
def XG (X : Cx) (tg : Expr) (d : D) (ρ : Rho) (k : Rho → Prop) : Prop := PG X tg (tG X.K ρ d k)
def XGs (X : Cx) (tgs : List Expr) (ds : List D) (ρ : Rho) (k : Rho → Prop) : Prop := PGs X tgs (tGs X.K ρ ds k)
def aG (X : Cx) (tg : Expr) : TG := fun v σ H Q => ∃ t, PG X tg t ∧ t v σ H Q
def aGs (X : Cx) (tgs : List Expr) : TGs := fun v σ H Q => ∃ t, PGs X tgs t ∧ t v σ H Q
section
variable {X : Cx} {ρ : Rho} {tg e : Expr} {es : List Expr} {pos : Pos} {k : Rho → Prop} {j : J}
theorem anyG : PG X tg (aG X tg) := ⟨fun pins s σ H v u Q I r ⟨_, h, q⟩ => h.run pins s σ H v u Q I r q⟩
theorem anyGs : PGs X es (aGs X es) := ⟨fun pins s σ H v u Q I r ⟨_, h, q⟩ => h.run pins s σ H v u Q I r q⟩
theorem impG {t t' : TG} (h : PG X tg t) (i : ∀ v σ H Q, t' v σ H Q → t v σ H Q) : PG X tg t' := ⟨fun pins s σ H v u Q I r q => h.run pins s σ H v u Q I r (i _ _ _ _ q)⟩
theorem impGs {t t' : TGs} (h : PGs X es t) (i : ∀ v σ H Q, t' v σ H Q → t v σ H Q) : PGs X es t' := ⟨fun pins s σ H v u Q I r q => h.run pins s σ H v u Q I r (i _ _ _ _ q)⟩
theorem xg_name (i : Nat) {x : Str} {d : D} (h : k (ρ.set i (.dat d))) (hN : X.N.Nodup) (hi : X.N[i]? = some x := by rfl) (hx : Loc X.env.scope x := by first | exact Or.inl rfl | exact Or.inr rfl)
    (hf : X.fn x = true ∨ X.env.scope.names.lookup x = some .local := by first | exact .inl rfl | exact .inr rfl) : XG X (.Name x pos) d ρ k :=
  impG (pg_name hN hi hx hf) fun v σ H Q ⟨S, E, a, q⟩ => q _ _ (E.store a) Kept.set h
theorem xgs_nil (h : k ρ) : XGs X [] [] ρ k := impGs pgs_nil fun vs σ H Q ⟨S, E, a, q⟩ => by
  cases a
  exact ⟨rfl, q _ _ E (Kept.refl _ _) h⟩
theorem xgs_cons {d : D} {ds : List D} (h : XG X e d ρ fun ρ' => XGs X es ds ρ' k) (hs : (assignEach (e :: es) X.env).map (·.2) = assign e X.env :: (assignEach es X.env).map (·.2) := by rfl) : XGs X (e :: es) (d :: ds) ρ k :=
  impGs (pgs_cons anyG anyGs hs) fun vs σ H Q ⟨S, E, a, q⟩ => by
    cases a with
    | cons a1 a2 => exact ⟨_, _, rfl, _, h, S, E, a1, fun σ' ρ' E' k' h' => ⟨_, h', S, E', a2, fun σ2 ρ2 E2 k2 h2 => q σ2 ρ2 E2 (k'.trans k2) h2⟩⟩
theorem xg_tup {ds : List D} {n : Nat} (h : XGs X es ds ρ k) (hl : ds.length = n) (hc : X.calm = true := by rfl) (hn : (assignEach es X.env).length = n := by rfl) (hst : (assignEach es X.env).findIdx? (·.1) = none := by rfl) {kk : Nat} :
    XG X (.Tuple es kk pos) (.tup ds) ρ k := impG (pg_tup hc anyGs hn hst) fun v σ H Q ⟨S, E, a, q⟩ => by
  obtain ⟨p, vs, rfl, h1, h2⟩ := a.inv_tup
  exact ⟨p, vs, rfl, ex_t hide_le h1, by rw [h2.length]; exact hl, _, h, S, E, h2, q⟩
theorem xg_lst {ds : List D} {n : Nat} (h : XGs X es ds ρ k) (hl : ds.length = n) (hc : X.calm = true := by rfl) (hn : (assignEach es X.env).length = n := by rfl) (hst : (assignEach es X.env).findIdx? (·.1) = none := by rfl) {kk : Nat} :
    XG X (.Tuple es kk pos) (.lst ds) ρ k := impG (pg_unl hc anyGs hn hst) fun v σ H Q ⟨S, E, a, q⟩ => by
  obtain ⟨p, vs, rfl, h1, h2⟩ := a.inv_lst
  exact ⟨p, vs, rfl, ex_l hide_le h1, by rw [h2.length]; exact hl, _, h, S, E, h2, q⟩
/-- target = e -/
theorem xs_asg (h : XE X e ρ fun d => XG X tg d ρ j.nx) (hs : swapsWithSole [tg] e pos.line X.env = pure false := by rfl) (hw : swappedStores [tg] e X.env = pure none := by rfl) (h1 : (assignEach [tg] X.env).map (·.2) = [assign tg X.env] := by rfl) :
    XS X (.Assign [tg] e pos) ρ j := fun S0 H0 tr =>
  impS (ps_asg anyE anyG hs hw h1) fun En σ H ⟨⟨S, h1, h2, h3, h4, E⟩, f⟩ => useE h E fun v H2 d e2 a2 hk => ⟨_, hk, S, E.mono e2, a2, fun σ' ρ' E' kp hn =>
    f.nx _ _ _ ⟨S, h1, h2, fun i ds p u w => let ⟨q, r⟩ := kp i ds p u w; h3 i ds p q r, h4.trans e2, E'⟩ hn⟩
/-- name op= e, ints -/
theorem xs_augI (i : Nat) {x : Str} {op : Operator} {C : Int → Int → Prop} {f : Int → Int → Int} (ho : OpR X (inplaceOp op) (rI C fun a b => .int (f a b))) {a : Int} {px : Pos} (hi0 : ρ[i]? = some (.dat (.int a))) (h : XE X e ρ fun d => ∃ b, d = .int b ∧ C a b ∧ j.nx (ρ.set i (.dat (.int (f a b))))) (hN : X.N.Nodup)
    (hi : X.N[i]? = some x := by rfl) (hx : Loc X.env.scope x := by first | exact Or.inl rfl | exact Or.inr rfl) (hf : X.fn x = true ∨ X.env.scope.names.lookup x = some .local := by first | exact .inl rfl | exact .inr rfl) :
    XS X (.AugAssign (.Name x px) op e pos) ρ j := fun S0 H0 tr =>
  impS (ps_aug hN hi hx anyE (ti := rI C fun a b => .int (f a b)) (fun pins s σ H x y v u Q I rx ry q => ho pins s σ H x y v u Q I rx ry q) hf) fun En σ H ⟨⟨S, h1, h2, h3, h4, E⟩, fi⟩ => by
    obtain ⟨v, ev, av⟩ := E.dat i _ hi0
    refine ⟨v, ev, useE h E fun u H2 d e2 a2 ⟨b, hb, hc, hk⟩ => ?_⟩
    subst hb
    exact ⟨a, b, av.inv_int, a2.inv_int, hc, fi.nx _ _ _ (StOk.store h1 h2 h3 (h4.trans e2) (E.mono e2) (.int _)) hk⟩
theorem iop_mulX {X : Cx} : OpR X (inplaceOp .Mult) (rI MulOk fun i j => .int (i * j)) := opI fun _ _ _ _ _ _ _ hc q => PyProof.Rows.imul_int q (hc.elim (fun h => h.ok) fun h => h.ok)
theorem iop_addX {X : Cx} : OpR X (inplaceOp .Add) (rI (fun _ _ => True) fun i j => .int (i + j)) := opI fun _ _ _ _ _ _ _ _ q => PyProof.Rows.iadd_int q
end
end VL

set_option Elab.async false
set_option linter.all false
set_option maxRecDepth 100000
set_option maxHeartbeats 4000000
namespace VL
variable [Tb]
open PySem L2

/-! ## isinstance -/
def tyD : D → Option String
  | .non => some "NoneType" | .bl _ => some "bool" | .int _ => some "int" | .str _ => some "str" | .lst _ => some "list" | .tup _ => some "tuple" | .dct => some "dict"
  | _ => none
theorem tyx_of {K : PySem.W.Frag} {S : List Addr} {H : Hp} {v : V} {d : D} {T : String} (h : At K (hide S H) v d) (e : tyD d = some T) : TyX K H v (.type T) := by
  cases h with
  | non => cases e; exact .base .non
  | bl b => cases e; exact .base (.bl b)
  | int i => cases e; exact .base (.int i)
  | str x => cases e; exact .base (.str x)
  | lst h t =>
    cases e
    rcases ex_l hide_le h with (q | ⟨o, q⟩) | ⟨o, its, n, q, c, _⟩
    · exact .base (.lst q)
    · exact .base (.frz q)
    · exact .kList q c
  | tup h t =>
    cases e
    rcases ex_t hide_le h with (q | ⟨o, q⟩) | ⟨o, its, n, q, c, _⟩
    · exact .base (.tup q)
    · exact .fTuple q
    · exact .kTuple q c
  | obj h t => cases e
  | tok h => cases e
  | ptr a => cases e
  | dct h => cases e; exact .base (.dK (hide_le.k _ _ h True.intro))
  | tg a h => cases e
section
variable {X : Cx} {ρ : Rho} {a b c e : Expr} {pos p p2 : Pos} {k : D → Prop} {kb : Bool → Prop} {kl : List D → Prop} {j : J}
/-- isinstance(a, T), T a built-in type, the value no instance of one's own -/
theorem xe_isi (hm : X.mg "isinstance" = none) {T : Str} {tn : String} (hmT : X.mg T = none) (hT : bootBuiltins T = some (.type tn)) (h : XE X a ρ fun d => ∃ t, tyD d = some t ∧ ∃ b, kitB t tn = some b ∧ k (.bl b))
    (hg : Gl X "isinstance" := by rfl) (hgT : Gl X T := by rfl) (hnT : T ≠ "__name__" := by decide) (hdT : (T == ("__debug__" : Str)) = false := by decide)
    (he : starEach (a :: .Name T p2 :: []) X.env = (false, eval a X.env) :: starEach [.Name T p2] X.env := by rfl) (he2 : starEach (.Name T p2 :: []) X.env = (false, eval (.Name T p2) X.env) :: starEach [] X.env := by rfl) (hpl : (backTo pos (starEach [.Name T p2] X.env)).any (·.1) = false := by rfl) :
    XE X (.Call (.Name "isinstance" p) [a, .Name T p2] [] pos) ρ k :=
  impE (pe_callB call_isi hg hm (by decide +kernel) (pa_cons anyE (pa_cons (pe_bltn hgT hmT hT (v := .ty tn) rfl hnT hdT) pa_nil he2) he) (by decide) (by decide) he hpl) fun σ H Q ⟨S, E, q⟩ => useE h E fun v H1 d e1 a1 ⟨t, ht, b, hb, hk⟩ =>
    ⟨v, .ty tn, .type t, .type tn, b, rfl, .ty tn, tyx_of a1 ht, kit_ty hb, q _ _ _ e1 (.bl b) hk⟩
/-- isinstance(a, C), C a class of the text; the value plain -/
theorem xe_isiC (hm : X.mg "isinstance" = none) {x : Str} {C : Addr} (hmC : X.mg x = some (.ref C)) (h : XE X a ρ fun d => ∃ t, tyD d = some t ∧ ∃ b, PySem.W.kitOne X.K (.type t) (.ref C) = some b ∧ k (.bl b))
    (hg : Gl X "isinstance" := by rfl) (hgT : Gl X x := by rfl) (hdT : (x == ("__debug__" : Str)) = false := by decide)
    (he : starEach (a :: .Name x p2 :: []) X.env = (false, eval a X.env) :: starEach [.Name x p2] X.env := by rfl) (he2 : starEach (.Name x p2 :: []) X.env = (false, eval (.Name x p2) X.env) :: starEach [] X.env := by rfl) (hpl : (backTo pos (starEach [.Name x p2] X.env)).any (·.1) = false := by rfl) :
    XE X (.Call (.Name "isinstance" p) [a, .Name x p2] [] pos) ρ k :=
  impE (pe_callB call_isi hg hm (by decide +kernel) (pa_cons anyE (pa_cons (pe_glob hgT hmC (v := .ref C) rfl hdT) pa_nil he2) he) (by decide) (by decide) he hpl) fun σ H Q ⟨S, E, q⟩ => useE h E fun v H1 d e1 a1 ⟨t, ht, b, hb, hk⟩ =>
    ⟨v, .ref C, .type t, .ref C, b, rfl, .own C, tyx_of a1 ht, hb, q _ _ _ e1 (.bl b) hk⟩
/-- isinstance(a, C); the value an instance of one's own -/
theorem xe_isiO (hm : X.mg "isinstance" = none) {x : Str} {C : Addr} (hmC : X.mg x = some (.ref C)) (h : XE X a ρ fun d => ∃ C' ds b, d = .obj C' ds ∧ SlX.SCls X.K C' ∧ SlX.SIsi X.K C' ∧ PySem.W.kitOne X.K (.ref C') (.ref C) = some b ∧ k (.bl b))
    (hg : Gl X "isinstance" := by rfl) (hgT : Gl X x := by rfl) (hdT : (x == ("__debug__" : Str)) = false := by decide)
    (he : starEach (a :: .Name x p2 :: []) X.env = (false, eval a X.env) :: starEach [.Name x p2] X.env := by rfl) (he2 : starEach (.Name x p2 :: []) X.env = (false, eval (.Name x p2) X.env) :: starEach [] X.env := by rfl) (hpl : (backTo pos (starEach [.Name x p2] X.env)).any (·.1) = false := by rfl) :
    XE X (.Call (.Name "isinstance" p) [a, .Name x p2] [] pos) ρ k :=
  impE (pe_callB (SlX.call_isiSl (.ref C)) hg hm (by decide +kernel) (pa_cons anyE (pa_cons (pe_glob hgT hmC (v := .ref C) rfl hdT) pa_nil he2) he) (by decide) (by decide) he hpl) fun σ H Q ⟨S, E, q⟩ => useE h E fun v H1 d e1 a1 ⟨C', ds, b, hd, sc, si, hb, hk⟩ => by
    subst hd
    obtain ⟨a, dx, vs, rfl, h1, h2⟩ := a1.inv_obj
    exact ⟨a, C', dx, vs.map some, .ref C, b, rfl, rfl, fun w r => r, ex_s hide_le h1, sc, si, hb, q _ _ _ e1 (.bl b) hk⟩
/-- isinstance(a, T), T a built-in type; the value an instance of one's own -/
theorem xe_isiOB (hm : X.mg "isinstance" = none) {T : Str} {tn : String} (hmT : X.mg T = none) (hT : bootBuiltins T = some (.type tn)) (h : XE X a ρ fun d => ∃ C' ds b, d = .obj C' ds ∧ SlX.SCls X.K C' ∧ SlX.SIsi X.K C' ∧ PySem.W.kitOne X.K (.ref C') (.type tn) = some b ∧ k (.bl b))
    (hg : Gl X "isinstance" := by rfl) (hgT : Gl X T := by rfl) (hnT : T ≠ "__name__" := by decide) (hdT : (T == ("__debug__" : Str)) = false := by decide)
    (he : starEach (a :: .Name T p2 :: []) X.env = (false, eval a X.env) :: starEach [.Name T p2] X.env := by rfl) (he2 : starEach (.Name T p2 :: []) X.env = (false, eval (.Name T p2) X.env) :: starEach [] X.env := by rfl) (hpl : (backTo pos (starEach [.Name T p2] X.env)).any (·.1) = false := by rfl) :
    XE X (.Call (.Name "isinstance" p) [a, .Name T p2] [] pos) ρ k :=
  impE (pe_callB (SlX.call_isiSl (.type tn)) hg hm (by decide +kernel) (pa_cons anyE (pa_cons (pe_bltn hgT hmT hT (v := .ty tn) rfl hnT hdT) pa_nil he2) he) (by decide) (by decide) he hpl) fun σ H Q ⟨S, E, q⟩ => useE h E fun v H1 d e1 a1 ⟨C', ds, b, hd, sc, si, hb, hk⟩ => by
    subst hd
    obtain ⟨a, dx, vs, rfl, h1, h2⟩ := a1.inv_obj
    exact ⟨a, C', dx, vs.map some, .ty tn, b, rfl, rfl, fun w r => r, ex_s hide_le h1, sc, si, hb, q _ _ _ e1 (.bl b) hk⟩

/-! ## a <= b <= c -/
theorem xe_lele (h : XE X a ρ fun x => ∃ i, x = .int i ∧ XE X b ρ fun y => ∃ j, y = .int j ∧ if i ≤ j then XE X c ρ fun z => ∃ l, z = .int l ∧ k (.bl (decide (j ≤ l))) else k (.bl false))
    (hm : lastMarks [.LtE, .LtE] [b, c] = false := by with_unfolding_all rfl) : XE X (.Compare a [.LtE, .LtE] [b, c] pos) ρ k :=
  impE (pe_chain op_le op_le anyE anyE anyE hm) fun σ H Q ⟨S, E, q⟩ => useE h E fun x H1 d e1 a1 ⟨i, hi, hb⟩ => useE hb (E.mono e1) fun y H2 d2 e2 a2 ⟨j, hj, hc⟩ => by
    subst hi hj
    refine ⟨i, j, a1.inv_int, a2.inv_int, _, rfl, ?_⟩
    by_cases z : i ≤ j
    · rw [if_pos z] at hc
      rw [if_pos (decide_eq_true z)]
      exact useE hc ((E.mono e1).mono e2) fun w H3 d3 e3 a3 ⟨l, hl, hk⟩ => by
        subst hl
        exact ⟨j, l, a2.inv_int, a3.inv_int, q _ _ _ ((e1.trans e2).trans e3) (.bl _) hk⟩
    · rw [if_neg z] at hc
      rw [if_neg (by simpa using z)]
      exact q _ _ _ (e1.trans e2) (.bl false) hc
theorem xt_lele (h : XE X a ρ fun x => ∃ i, x = .int i ∧ XE X b ρ fun y => ∃ j, y = .int j ∧ if i ≤ j then XE X c ρ fun z => ∃ l, z = .int l ∧ kb (decide (j ≤ l)) else kb false)
    (hm : lastMarks [.LtE, .LtE] [b, c] = false := by with_unfolding_all rfl) : XT X (.Compare a [.LtE, .LtE] [b, c] pos) ρ kb :=
  impT (pt_chain op_le op_le anyE anyE anyE hm) fun σ H Q ⟨S, E, q⟩ => useE h E fun x H1 d e1 a1 ⟨i, hi, hb⟩ => useE hb (E.mono e1) fun y H2 d2 e2 a2 ⟨j, hj, hc⟩ => by
    subst hi hj
    refine ⟨i, j, a1.inv_int, a2.inv_int, _, rfl, ?_⟩
    by_cases z : i ≤ j
    · rw [if_pos z] at hc
      rw [if_pos (decide_eq_true z)]
      exact useE hc ((E.mono e1).mono e2) fun w H3 d3 e3 a3 ⟨l, hl, hk⟩ => by
        subst hl
        exact ⟨j, l, a2.inv_int, a3.inv_int, _, rfl, q _ _ ((e1.trans e2).trans e3) hk⟩
    · rw [if_neg z] at hc
      rw [if_neg (by simpa using z)]
      exact ⟨_, rfl, q _ _ (e1.trans e2) hc⟩

/-! ## texts -/
theorem xe_addS (h : XE X a ρ fun x => ∃ s, x = .str s ∧ XE X b ρ fun y => ∃ t, y = .str t ∧ s.length + t.length ≤ sizeLine ∧ k (.str (s ++ t))) : XE X (.BinOp a .Add b pos) ρ k :=
  impE (pe_op op_add_str anyE anyE) fun σ H Q ⟨S, E, q⟩ => useE h E fun x H1 d e1 a1 ⟨i, hi, hb⟩ => useE hb (E.mono e1) fun y H2 d2 e2 a2 ⟨j, hj, hc, hk⟩ => by
    subst hi hj
    exact ⟨i, j, a1.inv_str, a2.inv_str, hc, q _ _ _ (e1.trans e2) (.str _) hk⟩
theorem strs_of {K : PySem.W.Frag} {H : Hp} : ∀ {vs : List V} {ys : List Str}, AtL K H vs (ys.map D.str) → vs = ys.map V.str
  | [], [], _ => rfl
  | _ :: _, [], h => by cases h
  | [], _ :: _, h => by cases h
  | v :: vs, b :: bs, h => by
    cases h with
    | cons h t =>
      rw [h.inv_str, strs_of t]
      rfl
/-- sep.join(list of texts) -/
theorem xe_join {apos : Pos} (h : XE X a ρ fun x => ∃ s, x = .str s ∧ XL X b ρ fun ds => ∃ ys : List Str, ds = ys.map D.str ∧ (ys.map (·.length)).sum + ys.length * s.length ≤ 16777216 ∧ k (.str (Txt.join s ys)))
    (hs : starEach [b] X.env = [(false, eval b X.env)] := by rfl) (hbase : attributeBase a "join" X.env (eval a X.env) = eval a X.env := by rfl) (hline : (apos.endLine == pos.line) = true := by rfl) :
    XE X (.Call (.Attribute a "join" apos) [b] [] pos) ρ k :=
  impE (pe_join anyE anyE hs hbase hline) fun σ H Q ⟨S, E, q⟩ => useE h E fun x H1 d e1 a1 ⟨s, hs, hb⟩ => by
    subst hs
    have ex := a1.inv_str
    subst ex
    exact ⟨⟨s, rfl⟩, useL hb (E.mono e1) fun p H2 vs ds e2 h1 h2 ⟨ys, hy, hz, hk⟩ => by
      subst hy
      have ev := strs_of h2
      subst ev
      exact ⟨s, p, ys, rfl, rfl, .inl h1, hz, q _ _ _ (e1.trans e2) (.str _) hk⟩⟩
/-- f-string parts -/
def fmtD : D → Option Str
  | .str y => some y
  | .int i => some (toString i)
  | _ => none
theorem xe_fmt (h : XE X a ρ fun d => (∃ y, d = .str y ∧ y.length ≤ sizeLine ∧ k (.str y)) ∨ ∃ i, d = .int i ∧ i.natAbs.log2 < 1920 ∧ k (.str (toString i))) : XE X (.FormattedValue a (-1) none pos) ρ k :=
  impE (pe_fmt anyE) fun σ H Q ⟨S, E, q⟩ => useE h E fun x H1 d e1 a1 hd => by
    rcases hd with ⟨y, rfl, hy, hk⟩ | ⟨i, rfl, hi, hk⟩
    · exact .inl ⟨y, a1.inv_str, hy, q _ _ _ e1 (.str _) hk⟩
    · exact .inr ⟨i, a1.inv_int, hi, q _ _ _ e1 (.str _) hk⟩
/-- f-strings: the parts one behind the other -/
def XJ (X : Cx) : List Expr → Str → Rho → (D → Prop) → Prop
  | [], acc, ρ, k => k (.str acc)
  | e :: es, acc, ρ, k => XE X e ρ fun d => ∃ y, d = .str y ∧ (acc ++ y).length ≤ sizeLine ∧ XJ X es (acc ++ y) ρ k
theorem pj_any : ∀ es : List Expr, PJ X es (es.map (aE X))
  | [] => .nil
  | _ :: es => .cons anyE (pj_any es)
theorem xj_use {S : List Addr} {σ : L2.St} {Q : VK} : ∀ {es : List Expr} {acc : Str} {H : Hp}, XJ X es acc ρ k → EnvOk X.K S H σ ρ → (∀ v H2 d, Ex H H2 → At X.K (hide S H2) v d → k d → Q v H2) → tJs (es.map (aE X)) acc σ H fun out H1 => Q (.str out) H1
  | [], acc, H, h, E, q => q _ _ _ (Ex.refl H) (.str acc) h
  | e :: es, acc, H, h, E, q => useE h E fun v H1 d e1 a1 ⟨y, hy, hz, hk⟩ => by
      subst hy
      exact ⟨y, a1.inv_str, hz, xj_use hk (E.mono e1) fun v2 H2 d2 e2 a2 h2 => q v2 H2 d2 (e1.trans e2) a2 h2⟩
theorem xe_joined {v1 v2 : Expr} {rest : List Expr} (h : XJ X (v1 :: v2 :: rest) Str.empty ρ k) : XE X (.JoinedStr (v1 :: v2 :: rest) pos) ρ k :=
  impE (pe_joined (pj_any _)) fun σ H Q ⟨S, E, q⟩ => xj_use h E q
/-- name.extend(a new list) -/
theorem xs_ext (i : Nat) {x : Str} {apos cpos : Pos} {ds : List D} (hi : ρ[i]? = some (.own ds)) (h : XN X e ρ fun es => ds.length + es.length ≤ 100000 ∧ j.nx (ρ.set i (.own (ds ++ es)))) (hN : X.N[i]? = some x := by rfl)
    (hv : Vis X.env.scope x := by first | exact Or.inl rfl | exact Or.inr (Or.inl rfl) | exact Or.inr (Or.inr rfl)) (h1' : (x == ("__debug__" : Str)) = false := by decide) (h2' : (x == ("__classdict__" : Str)) = false := by decide)
    (he : starEach (e :: []) X.env = (false, eval e X.env) :: starEach [] X.env := by rfl) (hs : swapsWith (.Call (.Attribute (.Name x p) "extend" apos) [e] [] cpos) none pos.line X.env = pure false := by rfl)
    (hfew : ((backTo cpos (starEach [e] X.env)).all (fun x => !x.1) && (backToKw cpos (keywordEach [] X.env)).all (fun x => x.1.isSome) && decide (([e] : List Expr).length + ([] : List Keyword).length + (if ([] : List Keyword).isEmpty then 0 else 1) < 30)) = true := by rfl)
    (hline : (apos.endLine == cpos.line) = true := by rfl) :
    XS X (.Expr (.Call (.Attribute (.Name x p) "extend" apos) [e] [] cpos) pos) ρ j := fun S0 H0 tr =>
  impS (ps_expr (pe_bm PySem.F.plainAttrs_list PySem.F.slot_list_extend PySem.F.type_list_extend mt_extend (pe_var hN hv h1' h2') (pa_cons anyE pa_nil he) (hfew := hfew) (hline := hline) (hs := he)) hs) fun En σ H ⟨⟨S, h1, h2, h3, h4, E⟩, f⟩ => by
    obtain ⟨q, vs, g1, g2, g3, g4⟩ := E.own i ds hi
    refine ⟨_, g1, .inl ⟨rfl, vs, SqL.of g3⟩, _, h, S, E, fun b H2 us es hn e2 hp a2 ⟨hl, hk⟩ => ⟨q, b, vs, us, rfl, rfl, e2.k _ _ g3 True.intro, hp, sz_of (by rw [g4.length, a2.length]; exact hl), ?_⟩⟩
    have a3 : AtL X.K (hide S H2) us es := a2.mono (hide_sub fun x hx => List.mem_cons_of_mem _ hx)
    exact f.nx _ _ _ (StOk.write tr h1 h2 h3 (h4.trans e2) (E.mono e2) hi g1 g2 ((g4.mono (hide_ex e2)).append a3)) hk

/-! ## new lists: slices, sums -/
def cutD (xs : List D) (lo hi : Option Int) : List D := (xs.drop (HT.sIx xs.length 0 lo)).take (HT.sIx xs.length xs.length hi - HT.sIx xs.length 0 lo)
theorem cut_of {K : PySem.W.Frag} {H : Hp} {vs : List V} {ds : List D} {lo hi : Option Int} (a : AtL K H vs ds) : AtL K H (cutV vs lo hi) (cutD ds lo hi) := by
  unfold cutV cutD
  rw [a.length]
  exact (a.drop _).take _
theorem newL {K : PySem.W.Frag} {S : List Addr} {H1 : Hp} {p : Addr} {vs us : List V} {ds : List D} (tr : Trk S H1) (hp : H1 p = none) (a : AtL K (hide S H1) us ds) : AtL K (hide (p :: S) (upd H1 p (.lst vs))) us ds := a.mono <| ExN.of fun x o hx => by
  have hxS : x ∉ S := fun z => by
    rw [hide_in z] at hx
    cases hx
  rw [hide_out hxS] at hx
  have ne : x ≠ p := ne_of_none hx hp
  rw [hide_out (by simp [ne, hxS]), upd_ne ne]
  exact hx
theorem xn_cutTo {i : Int} {cj : Nat} {cp : Pos} (h : XL X a ρ fun ds => kl (cutD ds none (some i))) : XN X (.Subscript a (.Slice none (some (.Constant (.int i) cj cp)) none p2) pos) ρ kl :=
  impE (pe_slice sl_list anyE po_none (po_some pe_int)) fun σ H Q ⟨S, E, q⟩ => useL h E fun p H1 vs ds e1 h1 h2 hk => ⟨i, rfl, p, vs, rfl, h1, fun r hr => q r _ _ _ (e1.back hr) (e1.trans (Ex.new hr)) upd_same (newL (E.mono e1).trk hr (cut_of h2)) hk⟩
/-- both new -/
theorem xn_cat (h : XN X a ρ fun ds => XN X b ρ fun es => ds.length + es.length ≤ 100000 ∧ kl (ds ++ es)) : XN X (.BinOp a .Add b pos) ρ kl :=
  impE (pe_op op_cat anyE anyE) fun σ H Q ⟨S, E, q⟩ => ⟨_, h, S, E, fun p H1 vs ds hn1 e1 hp1 a1 hb => ⟨_, hb, p :: S, (E.hid e1 hn1 hp1).2, fun r H2 us es hn2 e2 hp2 a2 ⟨hl, hk⟩ => by
    have a1' : AtL X.K (hide S H2) vs ds := (a1.mono (hide_ex e2)).mono (hide_sub fun x hx => List.mem_cons_of_mem _ hx)
    have a2' : AtL X.K (hide S H2) us es := a2.mono (hide_sub fun x hx => List.mem_cons_of_mem _ (List.mem_cons_of_mem _ hx))
    refine ⟨p, r, vs, us, rfl, rfl, e2.k _ _ hp1 True.intro, hp2, sz_of (by rw [a1.length, a2.length]; exact hl), fun z hz => q z _ _ _ ((e1.trans e2).back hz) ((e1.trans e2).trans (Ex.new hz)) upd_same (newL (E.mono (e1.trans e2)).trk hz (a1'.append a2')) hk⟩⟩⟩
end
end VL

set_option Elab.async false
set_option linter.all false
set_option maxRecDepth 100000
set_option maxHeartbeats 4000000
namespace VL
variable [Tb]
open PySem L2

/-! ## Keyword calls -/
def pick {α : Type} (is : List Nat) (l : List α) : List α := is.filterMap fun i => l[i]?
theorem vals_pick {vs : List V} {us : List Value} (r : Vals vs us) : ∀ is : List Nat, Vals (pick is vs) (pick is us)
  | [] => .nil
  | i :: is => by
    unfold pick
    rw [List.filterMap_cons, List.filterMap_cons]
    cases e : vs[i]? with
    | none =>
      have e2 : us[i]? = none := by
        rw [List.getElem?_eq_none_iff] at e ⊢
        rw [← r.length]
        exact e
      rw [e2]
      exact vals_pick r is
    | some v =>
      obtain ⟨u, hu, rv⟩ := r.get e
      rw [hu]
      exact .cons rv (vals_pick r is)
theorem AtL.pick {K : PySem.W.Frag} {H : Hp} {vs : List V} {ds : List D} (a : AtL K H vs ds) : ∀ is : List Nat, AtL K H (pick is vs) (pick is ds)
  | [] => .nil
  | i :: is => by
    unfold VL.pick
    rw [List.filterMap_cons, List.filterMap_cons]
    cases e : ds[i]? with
    | none =>
      have e2 : vs[i]? = none := by
        rw [List.getElem?_eq_none_iff] at e ⊢
        rw [a.length]
        exact e
      rw [e2]
      exact a.pick is
    | some d =>
      obtain ⟨v, hv, av⟩ := a.get e
      rw [hv]
      exact .cons av (a.pick is)
structure FnK (P : Program) (w : World) (K : PySem.W.Frag) (mg : Str → Option Value) (base : Heap) (k : Nat) (x : Str) (ps ks : List Str) (is : List Nat) (C : Con) : Prop where
  ex : ∃ f fd, mg x = some (.ref f) ∧ PySem.W.keepIn K (.ref f) = true ∧ (∀ (s : Shared) (ws : List Value), K.In s.heap → ws.length = ks.length → BindsTo s fd ⟨[], ks.zip ws⟩ (ps.zip (pick is ws))) ∧ FnOk P w K mg base CX0 k f fd ps (spC K ps.length C)
def XK' (X : Cx) (kws : List Keyword) (ρ : Rho) (k : List D → Prop) : Prop := PK X kws (tA X.K ρ k)
def aK (X : Cx) (kws : List Keyword) : TA := fun σ H Q => ∃ t, PK X kws t ∧ t σ H Q
section
variable {X : Cx} {ρ : Rho} {a b c e : Expr} {kws : List Keyword} {pos p p2 : Pos} {k : D → Prop} {kb : Bool → Prop} {kl : List D → Prop} {j : J}
theorem anyK : PK X kws (aK X kws) := ⟨fun pos pins s σ H Q I ⟨_, h, q⟩ => h.run pos pins s σ H Q I q⟩
theorem impK {t t' : TA} (h : PK X kws t) (i : ∀ σ H Q, t' σ H Q → t σ H Q) : PK X kws t' := ⟨fun pos pins s σ H Q I q => h.run pos pins s σ H Q I (i _ _ _ q)⟩
theorem xk_nil (h : kl []) : XK' X [] ρ kl := impK pk_nil fun σ H Q ⟨S, E, q⟩ => q [] H [] (Ex.refl H) .nil h
theorem xk_cons {nm : Option Str} {kpos : Pos} (h : XE X e ρ fun d => XK' X kws ρ fun ds => kl (d :: ds)) : XK' X (⟨nm, e, kpos⟩ :: kws) ρ kl :=
  impK (pk_cons anyE anyK) fun σ H Q ⟨S, E, q⟩ => useE h E fun v H1 d e1 a1 hb => ⟨_, hb, S, E.mono e1, fun vs H2 ds e2 a2 hk => q (v :: vs) H2 (d :: ds) (e1.trans e2) (.cons (a1.mono (hide_ex e2)) a2) hk⟩
/-- f(k = e, ..) -/
theorem xe_kw {n m : Nat} {x : Str} {ps ks : List Str} {is : List Nat} {C : Con} (F : FnK X.prog X.w X.K X.mg X.base n x ps ks is C) (hr : Room m X.A) (h : XK' X kws ρ fun ds => ds.length = ks.length ∧ (pick is ds).length = ps.length ∧ C (pick is ds) k) (hnm : n ≤ m := by decide) (hg : Gl X x := by rfl)
    (hall : (backToKw pos (keywordEach kws X.env)).all (·.1.isSome) = true := by rfl) (hks : (backToKw pos (keywordEach kws X.env)).filterMap (·.1) = ks := by rfl)
    (hdb : (x == ("__debug__" : Str)) = false := by decide) (hpl : ((backTo pos (starEach [] X.env)).any (·.1) || (backToKw pos (keywordEach kws X.env)).any (·.1.isNone)) = false := by rfl) :
    XE X (.Call (.Name x p) [] kws pos) ρ k := by
  obtain ⟨f, fd, h1, h2, h3, h4⟩ := F.ex
  refine ⟨fun pins s σ H Q I ⟨S, E, q⟩ => ?_⟩
  refine wpAny_Call_Name_kw (ld_glob I hg h1 ?_ hdb)
  refine PySem.W.callWith_KW0 (h₀ := X.base) I.ok.mod.kin h2 hall ?_ hpl
  refine thn (anyK.run pos pins s σ H (fun vs H2 => ∃ ds, Ex H H2 ∧ AtL X.K (hide S H2) vs ds ∧ ds.length = ks.length ∧ (pick is ds).length = ps.length ∧ C (pick is ds) k) I ⟨_, h, S, E, fun vs H2 ds e2 a2 hk => ⟨ds, e2, a2, hk⟩⟩) fun ws s2 ⟨zs, H2, I2, rz, ds, e2, a2, l1, l2, hc⟩ => ⟨I2.kIn, ?_⟩
  rw [hks]
  have lw : ws.length = ks.length := by rw [← rz.length, a2.length]; exact l1
  have ap := a2.pick is
  refine wpAny_call (codeAny_mono (h4.run X.A X.stack s2 H2 ⟨[], ks.zip ws⟩ (pick is ws) (pick is zs) Q (fun _ _ _ => False) (hr.mono hnm) I2.env0 (h3 s2 ws I2.kIn lw) (vals_pick rz is) ⟨S, pick is ds, k, by rw [ap.length]; exact l2, (E.mono e2).trk, ap, hc, fun v H3 d e3 a3 hk => q v H3 d (e2.trans e3) a3 hk⟩) fun r s' hq => ?_)
  cases r with
  | error e => exact (show False from hq).elim
  | ok fl =>
    cases fl with
    | ret u => exact I2.after hq
    | next => exact False.elim hq
    | brk => exact False.elim hq
    | cont => exact False.elim hq

/-! ## == and != of data -/
mutual
def pyD : D → Option PyData
  | .non => some .none | .bl b => some (.bool b) | .int i => some (.int i) | .str x => some (.str x)
  | .lst xs => (pyL xs).map .list | .tup xs => (pyL xs).map .tuple
  | .obj _ _ => none | .tok => none | .ptr _ => none | .dct => none | .tg _ _ => none
def pyL : List D → Option (List PyData)
  | [] => some []
  | d :: ds => match pyD d, pyL ds with
    | some x, some xs => some (x :: xs)
    | _, _ => none
end
mutual
theorem dp_of {K : PySem.W.Frag} {S : List Addr} {H : Hp} : ∀ {v : V} {d : D} {y : PyData}, At K (hide S H) v d → pyD d = some y → Dp K H v y
  | _, _, _, .non, e => by cases (Option.some.inj (by simpa [pyD] using e)); exact .non
  | _, _, _, .bl b, e => by
    unfold pyD at e
    cases e
    exact .bl b
  | _, _, _, .int i, e => by
    unfold pyD at e
    cases e
    exact .int i
  | _, _, _, .str x, e => by
    unfold pyD at e
    cases e
    exact .str x
  | _, _, _, .lst (ds := ds) h t, e => by
    unfold pyD at e
    cases q : pyL ds with
    | none => rw [q] at e; cases e
    | some ys =>
      rw [q] at e
      cases e
      exact .lst (ex_l hide_le h) (dpl_of t q)
  | _, _, _, .tup (ds := ds) h t, e => by
    unfold pyD at e
    cases q : pyL ds with
    | none => rw [q] at e; cases e
    | some ys =>
      rw [q] at e
      cases e
      exact .tup (ex_t hide_le h) (dpl_of t q)
  | _, _, _, .obj h t, e => by
    unfold pyD at e
    cases e
  | _, _, _, .tok h, e => by
    unfold pyD at e
    cases e
  | _, _, _, .ptr a, e => by
    unfold pyD at e
    cases e
  | _, _, _, .dct h, e => by
    unfold pyD at e
    cases e
  | _, _, _, .tg a h, e => by
    unfold pyD at e
    cases e
theorem dpl_of {K : PySem.W.Frag} {S : List Addr} {H : Hp} : ∀ {vs : List V} {ds : List D} {ys : List PyData}, AtL K (hide S H) vs ds → pyL ds = some ys → DpAll K H vs ys
  | _, _, _, .nil, e => by
    unfold pyL at e
    cases e
    exact .nil
  | _, _, _, .cons (d := d) (ds := ds) h t, e => by
    unfold pyL at e
    cases q1 : pyD d with
    | none => rw [q1] at e; cases e
    | some x =>
      cases q2 : pyL ds with
      | none => rw [q1, q2] at e; cases e
      | some xs =>
        rw [q1, q2] at e
        cases e
        exact .cons (dp_of h q1) (dpl_of t q2)
end
/-- what == asks of both sides -/
def EqD (x y : D) (r : Bool) : Prop := ∃ d e, pyD x = some d ∧ pyD y = some e ∧ SeqAt.shaped d = true ∧ SeqAt.shaped e = true ∧ PyData.eqv d e = r
theorem xe_eqD {n : Nat} (hr : Room n X.A) (h : XE X a ρ fun x => XE X b ρ fun y => ∃ r, EqD x y r ∧ k (.bl r)) : XE X (.Compare a [.Eq] [b] pos) ρ k :=
  impE (pe_cmpR (op_eqD hr.units) anyE anyE (nomark _)) fun σ H Q ⟨S, E, q⟩ => useE h E fun x H1 d e1 a1 hb => useE hb (E.mono e1) fun y H2 d2 e2 a2 ⟨r, ⟨u, w, p1, p2, s1, s2, er⟩, hk⟩ => by
    subst er
    exact ⟨u, w, dp_of (a1.mono (hide_ex e2)) p1, dp_of a2 p2, s1, s2, q _ _ _ (e1.trans e2) (.bl _) hk⟩
theorem xe_neD {n : Nat} (hr : Room n X.A) (h : XE X a ρ fun x => XE X b ρ fun y => ∃ r, EqD x y r ∧ k (.bl (!r))) : XE X (.Compare a [.NotEq] [b] pos) ρ k :=
  impE (pe_cmpR (op_neD hr.units) anyE anyE (nomark _)) fun σ H Q ⟨S, E, q⟩ => useE h E fun x H1 d e1 a1 hb => useE hb (E.mono e1) fun y H2 d2 e2 a2 ⟨r, ⟨u, w, p1, p2, s1, s2, er⟩, hk⟩ => by
    subst er
    exact ⟨u, w, dp_of (a1.mono (hide_ex e2)) p1, dp_of a2 p2, s1, s2, q _ _ _ (e1.trans e2) (.bl _) hk⟩
theorem xt_eqD {n : Nat} (hr : Room n X.A) (h : XE X a ρ fun x => XE X b ρ fun y => ∃ r, EqD x y r ∧ kb r) : XT X (.Compare a [.Eq] [b] pos) ρ kb :=
  impT (pt_cmpR (op_eqD hr.units) anyE anyE (nomark _)) fun σ H Q ⟨S, E, q⟩ => useE h E fun x H1 d e1 a1 hb => useE hb (E.mono e1) fun y H2 d2 e2 a2 ⟨r, ⟨u, w, p1, p2, s1, s2, er⟩, hk⟩ => by
    subst er
    exact ⟨u, w, dp_of (a1.mono (hide_ex e2)) p1, dp_of a2 p2, s1, s2, _, rfl, q _ _ (e1.trans e2) hk⟩
theorem xt_neD {n : Nat} (hr : Room n X.A) (h : XE X a ρ fun x => XE X b ρ fun y => ∃ r, EqD x y r ∧ kb (!r)) : XT X (.Compare a [.NotEq] [b] pos) ρ kb :=
  impT (pt_cmpR (op_neD hr.units) anyE anyE (nomark _)) fun σ H Q ⟨S, E, q⟩ => useE h E fun x H1 d e1 a1 hb => useE hb (E.mono e1) fun y H2 d2 e2 a2 ⟨r, ⟨u, w, p1, p2, s1, s2, er⟩, hk⟩ => by
    subst er
    exact ⟨u, w, dp_of (a1.mono (hide_ex e2)) p1, dp_of a2 p2, s1, s2, _, rfl, q _ _ (e1.trans e2) hk⟩

/-! ## Instances with slots: reads, properties -/
theorem slt_get {K : PySem.W.Frag} {H : Hp} {vs : List V} {ds : List D} {i : Nat} {d : D} (a : AtL K H vs ds) (h : ds[i]? = some d) : ∃ v, (vs.map some)[i]? = some (some v) ∧ At K H v d := by
  obtain ⟨v, h1, h2⟩ := a.get h
  exact ⟨v, by rw [List.getElem?_map, h1]; rfl, h2⟩
theorem xe_slot {f : Str} {C pa : Addr} {i : Nat} (sc : SlX.SCls X.K C) (t : SlX.Slot1 X.K C f pa i) (h : XE X a ρ fun d => ∃ ds d', d = .obj C ds ∧ ds[i]? = some d' ∧ k d') (hb : attributeBase a f X.env (eval a X.env) = eval a X.env := by rfl) :
    XE X (.Attribute a f pos) ρ k :=
  impE (SlX.pe_sl anyE hb) fun σ H Q ⟨S, E, q⟩ => useE h E fun v H1 d e1 a1 ⟨ds, d', hd, hi, hk⟩ => by
    subst hd
    obtain ⟨x, dx, vs, rfl, h1, h2⟩ := a1.inv_obj
    obtain ⟨v, g1, g2⟩ := slt_get h2 hi
    exact ⟨x, C, dx, pa, _, i, v, rfl, ex_s hide_le h1, sc, t, g1, q _ _ _ e1 g2 hk⟩
/-- a property of the class at C -/
structure PropAt (K : PySem.W.Frag) (C : Addr) (f : Str) (pa g : Addr) : Prop where
  at_ : PySem.W.findIn K (.ref C) f = some (some (.ref pa))
  get : PySem.W.specialIn K (.ref pa) "__get__" = some (some (.builtin "property.__get__"))
  tk : PySem.W.takesIn K (.ref pa) = some true
  rc : ∃ rest, PySem.W.recIn K pa "property" = some (.ref g :: rest)
/-- a def of the class, by its address -/
structure FnA (P : Program) (w : World) (K : PySem.W.Frag) (mg : Str → Option Value) (base : Heap) (k : Nat) (g : Addr) (ps : List Str) (C : Con) : Prop where
  ex : ∃ fd, PySem.W.keepIn K (.ref g) = true ∧ Binds K fd ps [] ∧ FnOk P w K mg base CX0 k g fd ps (spC K ps.length C)
theorem FnA.raw {P : Program} {w : World} {K : PySem.W.Frag} {mg : Str → Option Value} {base : Heap} {k : Nat} {g : Addr} {ps : List Str} {C : Con} (F : FnA P w K mg base k g ps C) : FnR P w K mg base CX0 k g (spC K ps.length C) := by
  obtain ⟨fd, h1, h2, h3⟩ := F.ex
  exact (FnOk.raw h3 h2 .nil).imp fun vs H Q E h => by rw [List.append_nil]; exact h
theorem xe_prop {f : Str} {C pa g : Addr} {n m : Nat} {s : Str} {Cn : Con} (sc : SlX.SCls X.K C) (pr : PropAt X.K C f pa g) (F : FnA X.prog X.w X.K X.mg X.base n g [s] Cn) (hr : Room m X.A) (h : XE X a ρ fun d => ∃ ds, d = .obj C ds ∧ Cn [d] k) (hnm : n + 1 ≤ m := by decide)
    (hb : attributeBase a f X.env (eval a X.env) = eval a X.env := by rfl) : XE X (.Attribute a f pos) ρ k :=
  impE (SlX.pe_propSl (E := fun _ _ _ => False) anyE sc pr.at_ pr.get pr.tk pr.rc F.raw (hr.mono hnm) (fun _ _ _ _ h => h) hb) fun σ H Q ⟨S, E, q⟩ => useE h E fun v H1 d e1 a1 ⟨ds, hd, hc⟩ => by
    subst hd
    have a1' := a1
    obtain ⟨x, dx, vs, rfl, h1, h2⟩ := a1.inv_obj
    exact ⟨x, dx, vs.map some, rfl, ex_s hide_le h1, S, _, k, rfl, (E.mono e1).trk, .cons a1' .nil, hc, fun v H2 d2 e2 a2 hk => q v H2 d2 (e1.trans e2) a2 hk⟩

/-! ## C(..) of a class with slots -/
/-- __init__: what it asks of the arguments (it raises nothing then), and stores them in the slots in order -/
def spI (K : PySem.W.Frag) (C : Addr) (n : Nat) (g : List D → List D) (Ok : List D → Prop) : Sp := fun vs H Q _ => ∃ S x dx us ds, vs = .ref x :: us ∧ us.length = n ∧ Trk S H ∧ x ∈ S ∧ dx ∈ S ∧ H x = some (.ins C dx []) ∧ H dx = some (.own x) ∧ dx ≠ x ∧ AtL K (hide S H) us ds ∧ Ok ds ∧
  ∀ H2 ws, Ex (hide [x, dx] H) H2 → AtL K (hide S H2) ws (g ds) → SlX.Slt H2 x C dx (ws.map some) → Q .non H2
structure Mkr (P : Program) (w : World) (K : PySem.W.Frag) (mg : Str → Option Value) (base : Heap) (k : Nat) (x : Str) (C : Addr) (n : Nat) (g : List D → List D) (Ok : List D → Prop) : Prop where
  ex : ∃ f fd ps, mg x = some (.ref C) ∧ Mk K C f ∧ Binds K fd ps [] ∧ FnOk P w K mg base CX0 k f fd ps (spI K C n g Ok)
theorem xe_new {n m N : Nat} {x : Str} {C : Addr} {g : List D → List D} {Ok : List D → Prop} {es : List Expr} (M : Mkr X.prog X.w X.K X.mg X.base n x C N g Ok) (hr : Room m X.A) (h : XA X (e :: es) ρ fun ds => ds.length = N ∧ Ok ds ∧ k (.obj C (g ds))) (hnm : n + 1 ≤ m := by decide) (hg : Gl X x := by rfl)
    (hdb : (x == ("__debug__" : Str)) = false := by decide) (he : starEach (e :: es) X.env = (false, eval e X.env) :: starEach es X.env := by rfl) (hpl : (backTo pos (starEach es X.env)).any (·.1) = false := by rfl) :
    XE X (.Call (.Name x p) (e :: es) [] pos) ρ k := by
  obtain ⟨f, fd, ps, h1, h2, h3, h4⟩ := M.ex
  refine impE (pe_make (E := fun _ _ _ => False) h2 h4 (hr.mono hnm) hg h1 h3 .nil pass0 anyA hdb he hpl) fun σ H Q ⟨S, E, q⟩ => useA h E fun vs H1 ds e1 a1 ⟨hl, hok, hk⟩ => fun y dx hy hdx ne => ?_
  rw [List.append_nil]
  have E1 := E.mono e1
  have ny := hide_new E1.trk hy
  have nd := hide_new E1.trk hdx
  have gy : upd (upd H1 dx (.own y)) y (.ins C dx []) y = some (.ins C dx []) := upd_same
  have gd : upd (upd H1 dx (.own y)) y (.ins C dx []) dx = some (.own y) := by rw [upd_ne ne, upd_same]
  have go : ∀ z, z ≠ y → z ≠ dx → upd (upd H1 dx (.own y)) y (.ins C dx []) z = H1 z := fun z z1 z2 => by rw [upd_ne z1, upd_ne z2]
  have nn : ∀ z u, H1 z = some u → z ≠ y ∧ z ≠ dx := fun z u q => ⟨ne_of_none q hy, ne_of_none q hdx⟩
  refine ⟨y :: dx :: S, y, dx, vs, ds, rfl, by rw [a1.length]; exact hl, ⟨fun z hz => ?_, fun p hp => (E1.trk.tb p hp).ext fun z o hz => by rw [go z (nn z o hz).1 (nn z o hz).2]; exact hz⟩, by simp, by simp, gy, gd, ne, a1.mono <| ExN.of fun z o hz => ?_, hok, fun H2 ws e2 aw sl => ⟨rfl, ?_⟩⟩
  · rcases List.mem_cons.mp hz with w | w
    · exact ⟨.ins C dx [], by rw [w]; exact gy, True.intro⟩
    · rcases List.mem_cons.mp w with w | w
      · exact ⟨.own y, by rw [w]; exact gd, True.intro⟩
      · obtain ⟨o, w2, w3⟩ := E1.trk.tr z w
        obtain ⟨z1, z2⟩ := nn z o w2
        exact ⟨o, by rw [go z z1 z2]; exact w2, w3⟩
  · have zS : z ∉ S := fun w => by
      rw [hide_in w] at hz
      cases hz
    rw [hide_out zS] at hz
    obtain ⟨z1, z2⟩ := nn z o hz
    rw [hide_out (by simp [z1, z2, zS]), go z z1 z2]
    exact hz
  · have e12 : Ex H1 H2 := Ex.trans (Ex.of fun z o hz => by
      obtain ⟨z1, z2⟩ := nn z o hz
      rw [hide_out (by simp [z1, z2]), go z z1 z2]
      exact hz) e2
    refine q (.ref y) H2 _ (e1.trans e12) (.obj (C := C) (dx := dx) (vs := ws) ?_ (aw.mono (hide_sub fun z hz => List.mem_cons_of_mem _ (List.mem_cons_of_mem _ hz)))) hk
    rcases sl with ⟨s1, s2⟩ | ⟨s1, s2⟩
    · exact .inl ⟨by rw [hide_out ny]; exact s1, s2⟩
    · exact .inr ⟨by rw [hide_out ny]; exact s1, by rw [hide_out nd]; exact s2⟩
end
end VL

set_option Elab.async false
set_option linter.all false
set_option maxRecDepth 100000
set_option maxHeartbeats 4000000
namespace VL
variable [Tb]
open PySem L2

/-! ## __init__ of a class with slots: checks that raise nothing, then the stores -/
section
variable {K : PySem.W.Frag} {S0 : List Addr} {H0 H : Hp} {σ : L2.St} {ρ : Rho}
/-- slots, some of them filled -/
inductive AtO (K : PySem.W.Frag) (H : Hp) : List (Option V) → List (Option D) → Prop
  | nil : AtO K H [] []
  | non {vs : List (Option V)} {ds : List (Option D)} : AtO K H vs ds → AtO K H (none :: vs) (none :: ds)
  | has {v : V} {d : D} {vs : List (Option V)} {ds : List (Option D)} : At K H v d → AtO K H vs ds → AtO K H (some v :: vs) (some d :: ds)
def putD (i : Nat) (v : D) (vs : List (Option D)) : List (Option D) := (vs ++ List.replicate (i + 1 - vs.length) none).set i (some v)
theorem AtO.len : ∀ {vs : List (Option V)} {ds : List (Option D)}, AtO K H vs ds → vs.length = ds.length
  | _, _, .nil => rfl
  | _, _, .non t => by rw [List.length_cons, List.length_cons, t.len]
  | _, _, .has _ t => by rw [List.length_cons, List.length_cons, t.len]
theorem AtO.nones : ∀ n : Nat, AtO K H (List.replicate n none) (List.replicate n none)
  | 0 => .nil
  | n + 1 => .non (AtO.nones n)
theorem AtO.app : ∀ {vs us : List (Option V)} {ds es : List (Option D)}, AtO K H vs ds → AtO K H us es → AtO K H (vs ++ us) (ds ++ es)
  | _, _, _, _, .nil, q => q
  | _, _, _, _, .non t, q => .non (t.app q)
  | _, _, _, _, .has h t, q => .has h (t.app q)
theorem AtO.set : ∀ {vs : List (Option V)} {ds : List (Option D)} {v : V} {d : D} (i : Nat), AtO K H vs ds → At K H v d → AtO K H (vs.set i (some v)) (ds.set i (some d))
  | _, _, _, _, _, .nil, _ => .nil
  | _, _, _, _, 0, .non t, q => .has q t
  | _, _, _, _, 0, .has _ t, q => .has q t
  | _, _, _, _, i + 1, .non t, q => .non (t.set i q)
  | _, _, _, _, i + 1, .has h t, q => .has h (t.set i q)
theorem AtO.put {vs : List (Option V)} {ds : List (Option D)} {v : V} {d : D} (i : Nat) (h : AtO K H vs ds) (q : At K H v d) : AtO K H (SlX.putS i v vs) (putD i d ds) := by
  unfold SlX.putS putD
  rw [h.len]
  exact (h.app (AtO.nones _)).set i q
theorem AtO.full : ∀ {vs : List (Option V)} {ds : List D}, AtO K H vs (ds.map some) → ∃ us, vs = us.map some ∧ AtL K H us ds
  | _, [], .nil => ⟨[], rfl, .nil⟩
  | _, d :: ds, .has h t => by
    obtain ⟨us, e, a⟩ := AtO.full t
    exact ⟨_ :: us, by rw [e]; rfl, .cons h a⟩
/-- between the stores: os are in the slots -/
def Sto (K : PySem.W.Frag) (S0 : List Addr) (H0 : Hp) (ρ : Rho) (x C dx : Addr) (os : List (Option D)) (σ : L2.St) (H : Hp) : Prop :=
  ∃ H1 us, StOk K S0 H0 H1 σ ρ ∧ AtO K (hide S0 H1) us os ∧ H1 x = some (.ins C dx []) ∧ H1 dx = some (.own x) ∧ dx ≠ x ∧ ((us = [] ∧ H = H1) ∨ H = SlX.slH H1 x C dx us)
end
def XR (X : Cx) (sts : List Stmt) (ρ : Rho) (S0 : List Addr) (H0 : Hp) (R : L2.St → Hp → Prop) : Prop := PSs X sts fun En σ H => StOk X.K S0 H0 H σ ρ ∧ ∀ σ' H', R σ' H' → En.nx σ' H'
def XQ (X : Cx) (sts : List Stmt) (ρ : Rho) (S0 : List Addr) (H0 : Hp) (x C dx : Addr) (ds : List (Option D)) (R : L2.St → Hp → Prop) : Prop := PSs X sts fun En σ H => Sto X.K S0 H0 ρ x C dx ds σ H ∧ ∀ σ' H', R σ' H' → En.nx σ' H'
section
variable {X : Cx} {ρ : Rho} {S0 : List Addr} {H0 : Hp} {R : L2.St → Hp → Prop} {st : Stmt} {rest sts : List Stmt} {x C dx : Addr} {ds : List (Option D)}
theorem xr_cons (tr : Trk S0 H0) (h : XS X st ρ { nx := fun ρ' => XR X rest ρ' S0 H0 R, rt := fun _ => False }) : XR X (st :: rest) ρ S0 H0 R :=
  impSs (pss_cons anyS anySs) fun En σ H ⟨ok, f⟩ => ⟨_, h S0 H0 tr, ok, ⟨fun σ' H' ρ' ok' hb => ⟨_, hb, ok', f⟩, fun _ _ _ _ _ z => z.elim, fun _ _ _ _ z => z.elim, fun _ _ _ _ z => z.elim⟩⟩
theorem xr_stores (hx : H0 x = some (.ins C dx [])) (hd : H0 dx = some (.own x)) (ne : dx ≠ x) (h : XQ X sts ρ S0 H0 x C dx [] R) : XR X sts ρ S0 H0 R :=
  impSs h fun En σ H ⟨ok, f⟩ => ⟨⟨H, [], ok, .nil, let ⟨_, _, _, _, e, _⟩ := ok; e.k _ _ hx True.intro, let ⟨_, _, _, _, e, _⟩ := ok; e.k _ _ hd True.intro, ne, .inl ⟨rfl, rfl⟩⟩, f⟩
theorem xq_nil (h : ∀ σ H, Sto X.K S0 H0 ρ x C dx ds σ H → R σ H) : XQ X [] ρ S0 H0 x C dx ds R := impSs pss_nil fun En σ H ⟨st, f⟩ => f σ H (h σ H st)
theorem xq_cons (i : Nat) {f sn y : Str} {pa : Addr} {n : Nat} {d : D} {p1 p2 p3 pos : Pos} (h0 : ρ[0]? = some (.dat (.ptr x))) (hi : ρ[i]? = some (.dat d)) (sc : SlX.SCls X.K C) (t : SlX.Slot1 X.K C f pa n)
    (h : XQ X rest ρ S0 H0 x C dx (putD n d ds) R) (hN0 : X.N[0]? = some sn := by rfl) (hNi : X.N[i]? = some y := by rfl)
    (hv0 : Vis X.env.scope sn := by first | exact Or.inl rfl | exact Or.inr (Or.inl rfl) | exact Or.inr (Or.inr rfl)) (hvi : Vis X.env.scope y := by first | exact Or.inl rfl | exact Or.inr (Or.inl rfl) | exact Or.inr (Or.inr rfl))
    (a1 : (sn == ("__debug__" : Str)) = false := by decide) (a2 : (sn == ("__classdict__" : Str)) = false := by decide) (b1 : (y == ("__debug__" : Str)) = false := by decide) (b2 : (y == ("__classdict__" : Str)) = false := by decide)
    (hs : swapsWith (.Name y p3) (some (.Attribute (.Name sn p1) f p2)) pos.line X.env = pure false := by rfl) :
    XQ X (.Assign [.Attribute (.Name sn p1) f p2] (.Name y p3) pos :: rest) ρ S0 H0 x C dx ds R :=
  impSs (pss_cons (SlX.ps_sl (pe_var hN0 hv0 a1 a2) (pe_var hNi hvi b1 b2) hs) h) fun En σ H ⟨⟨H1, us, ⟨S, g1, g2, g3, g4, E⟩, au, gx, gd, ne, hH⟩, fin⟩ => by
    obtain ⟨v, ev, av⟩ := E.dat i d hi
    obtain ⟨s, es, as⟩ := E.dat 0 _ h0
    have e0 := as.inv_ptr
    subst e0
    have ok : StOk X.K S0 H0 H1 σ ρ := ⟨S, g1, g2, g3, g4, E⟩
    have av' : At X.K (hide S0 H1) v d := av.mono (hide_sub g1)
    have slt : SlX.Slt H x C dx us := by
      rcases hH with ⟨z, w⟩ | w
      · rw [w, z]
        exact .inl ⟨gx, rfl⟩
      · rw [w]
        exact SlX.slH_slt ne
    refine ⟨v, ev, _, es, x, C, dx, pa, us, n, rfl, slt, sc, t, ⟨H1, SlX.putS n v us, ok, au.put n av', gx, gd, ne, .inr ?_⟩, fin⟩
    rcases hH with ⟨z, w⟩ | w
    · rw [w]
    · rw [w, SlX.slH_twice ne]
end
section
variable {P : Program} {w : World} {K : PySem.W.Frag} {mg : Str → Option Value} {base : Heap}
/-- __init__ by its body -/
theorem xinit {x qual : Str} {st : Stmt} {f : Addr} {fd : FuncData} {N ps : List Str} {n m : Nat} {C : Addr} {g : List D → List D} {Ok : List D → Prop} (F : Fun K x qual st f fd) (Sc : FnScope N ps (defScope st)) (hm : ps.length = m + 1)
    (body : ∀ (ds : List D), ds.length = m → Ok ds → ∀ (cdv : Value) (A : Around) (outer : List Env) (s : Shared) (H : Hp) (E : XK), Room n (A.deeper (PyProof.Rows.envOfC qual (defScope st) s.heap.objs.size f cdv)) →
      ∀ (x dx : Addr) (S0 : List Addr) (H0 : Hp) (R : L2.St → Hp → Prop), Trk S0 H0 → H0 x = some (.ins C dx []) → H0 dx = some (.own x) → dx ≠ x → (∀ ρ σ H, Sto K S0 H0 ρ x C dx ((g ds).map some) σ H → R σ H) →
      XR (cxOf CX0 P w K mg base N qual (defScope st) f cdv A outer s H E).nox (defBody st) (startR N.length (.ptr x :: ds)) S0 H0 R) : FnOk P w K mg base CX0 (n + 1) f fd ps (spI K C m g Ok) := by
  have hpl : ps.length ≤ N.length := by
    have := congrArg List.length Sc.pre
    rw [List.length_take] at this
    omega
  refine F.ok Sc (fun vs H Q E h => ?_) fun cdv A outer s H vs Q E hr h => ?_
  · obtain ⟨S, x, dx, us, ds, rfl, hl, _⟩ := h
    rw [List.length_cons, hl, hm]
  · obtain ⟨S, x, dx, us, ds, rfl, hl, tr, xS, dS, hx, hd, ne, a, hok, q⟩ := h
    refine ⟨_, body ds (by rw [← a.length]; exact hl) hok cdv A outer s H E hr x dx S H (fun _ H' => Q .non H') tr hx hd ne (fun ρ σ H2 sto => ?_), start_ok tr (by rw [List.length_cons]; omega) (.cons (.ptr x) a), fun σ' H' h => h⟩
    obtain ⟨H1, us2, ⟨S1, g1, g2, g3, g4, E1⟩, aw0, gx, gd, _, hH⟩ := sto
    obtain ⟨ws, e2, aw⟩ := aw0.full
    subst e2
    have hide2 : ∀ vs, hide S (SlX.slH H1 x C dx vs) = hide S H1 := fun vs => by
      unfold SlX.slH
      rw [hide_upd xS, hide_upd dS]
    rcases hH with ⟨z, w⟩ | w
    · rw [w]
      exact q H1 ws ((Ex.of fun b o hb => by
        by_cases hbm : b ∈ [x, dx]
        · rw [hide_in hbm] at hb
          cases hb
        · rwa [hide_out hbm] at hb).trans g4) aw (.inl ⟨gx, z⟩)
    · rw [w]
      have same : ∀ b, b ≠ x → b ≠ dx → SlX.slH H1 x C dx (ws.map some) b = H1 b := fun b b1 b2 => SlX.slH_ne b1 b2
      have inH : ∀ b o, hide [x, dx] H b = some o → H b = some o ∧ b ≠ x ∧ b ≠ dx := fun b o hb => by
        by_cases hbm : b ∈ [x, dx]
        · rw [hide_in hbm] at hb
          cases hb
        · rw [hide_out hbm] at hb
          simp only [List.mem_cons, List.not_mem_nil, or_false, not_or] at hbm
          exact ⟨hb, hbm.1, hbm.2⟩
      refine q _ ws ⟨⟨fun b o hb n => ?_, fun b o hb => ?_⟩, fun p hp t => ?_⟩ (by rw [hide2]; exact aw) (SlX.slH_slt ne)
      · obtain ⟨h1, h2, h3⟩ := inH b o hb
        exact (same b h2 h3).trans (g4.k b o h1 n)
      · obtain ⟨h1, h2, h3⟩ := inH b o hb
        obtain ⟨o', h4⟩ := g4.th b o h1
        exact ⟨o', (same b h2 h3).trans h4⟩
      · obtain ⟨ps0, t1, t2, t3⟩ := t
        obtain ⟨h1, h2, h3⟩ := inH p.1 _ t1
        obtain ⟨ps, u1, u2, u3⟩ := g4.t p hp ⟨ps0, h1, t2, fun pos cv hc => let ⟨c, c1, c2⟩ := t3 pos cv hc; ⟨c, c1, (inH c _ c2).1⟩⟩
        refine ⟨ps, (same _ h2 h3).trans u1, u2, fun pos cv hc => ?_⟩
        obtain ⟨c, c1, c2⟩ := u3 pos cv hc
        refine ⟨c, c1, (same c (fun z => ?_) fun z => ?_).trans c2⟩
        · rw [z, gx] at c2
          exact codeO_pl (Option.some.inj c2).symm True.intro
        · rw [z, gd] at c2
          exact codeO_pl (Option.some.inj c2).symm True.intro
end

/-! ## own == and !=, str -/
structure EqAt (K : PySem.W.Frag) (C g : Addr) : Prop where
  eq : PySem.W.findIn K (.ref C) "__eq__" = some (some (.ref g))
  fn : PySem.W.isFn K (.ref g) = true
  ne : PySem.W.findIn K (.ref C) "__ne__" = some (some (.builtin "object.__ne__"))
  nf : PySem.W.notFirst K C (.ref C) = true
  cm : PySem.W.mroIn K C (.type "object") = some true
section
open PySem.W in
/-- x != y by an own __eq__ -/
theorem ne_own {prog : Program} {w : World} {A : Around} {E : Value → Shared → Prop} {s : Shared} {K : PySem.W.Frag} {x C f : Addr} {ox : Obj} {od : Option Obj} {b tb : Value} {Q : Value → Shared → Prop} (hu : A.units + 1 < cLine) (Xk : K.In s.heap) (I : PySem.W.InstAt s.heap x ox C od)
    (hb : PySem.W.Looks (model prog w) s.heap (typeOf b) tb) (hn : PySem.W.notFirst K C tb = true) (hs : PySem.W.findIn K (.ref C) "__ne__" = some (some (.builtin "object.__ne__"))) (he : PySem.W.findIn K (.ref C) "__eq__" = some (some (.ref f))) (hf : PySem.W.isFn K (.ref f) = true)
    (hm : PySem.W.mroIn K C (.type "object") = some true) (h : wpAny (model prog w) A.in1 (call (.ref f) [.ref x, b]) (fun v s' => ∃ r, v = .bool r ∧ Q (.bool (!r)) s') E s) : wpAny (model prog w) A (richCompare .NotEq (.ref x) b) Q E s := by
  have hcall : wpAny (model prog w) A (call (.builtin "object.__ne__") [.ref x, b]) (fun v s' => ∃ r, v = .bool r ∧ Q v s') E s := by
    refine wpAny_call (codeAny_call_builtin (by decide +kernel) F.cmpEntry_ne (check_slot (i := "object.__ne__") (owner := "object") (n := "__ne__") F.cmpKind_ne F.cmpSplit_ne (I.type.andThen (looks_mroIn Xk hm)) (F.cmpArgs_ne _ _) ?_))
    unfold Builtin.«object.__ne__»
    refine wpAny_bind (m := slotArgs "__ne__" 1 _) (wpAny_pure ?_)
    refine wpAny_bind (m := cRoomFor _ _) (wpAny_cRoomFor (by show A.units + 1 < _; exact hu) ?_)
    refine wpAny_bind (m := callSpecialIfBound? (.ref x) (Str.ofString "__eq__") _) (ifBound_K Xk I he hf (wpAny_mono h (fun r s' hq => ?_) fun _ _ y => y))
    obtain ⟨r, rfl, hq⟩ := hq
    exact wpAny_bind (wpAny_truthy_bool (wpAny_pure ⟨_, rfl, hq⟩))
  have one : wpAny (model prog w) A (tryCompare (.ref x) (cmpInfo .NotEq).2.1 b) (fun r s' => ∃ v, r = some v ∧ Q v s') E s := by
    unfold tryCompare
    refine wpAny_bind ?_
    simp only [callSpecialIfBound?, bindSpecialIfBound?]
    have hs' : PySem.W.findIn K (.ref C) (cmpInfo .NotEq).2.1 = some (some (.builtin "object.__ne__")) := hs
    refine wpAny_holding (wpAny_bind (wpAny_bind (wpAny_bind (I.type.here ((looks_findIn Xk hs').here ?_)))))
    have hbd : ∀ self, bindSpecial (.builtin "object.__ne__") self = pure (.builtin "object.__ne__", [self]) := F.slot_object_ne.bind
    have fin : wpAny (model prog w) A (call (.builtin "object.__ne__") ([.ref x] ++ [b]) >>= fun v => pure (some v)) (fun r s' => wpAny (model prog w) A (match r with | some .notImplemented => pure none | none => pure none | some z => pure (some z)) (fun r s' => ∃ v, r = some v ∧ Q v s') E s') E s := by
      refine wpAny_bind (wpAny_mono hcall (fun v s' h' => ?_) fun _ _ h' => h')
      obtain ⟨r, rfl, hq⟩ := h'
      exact wpAny_pure (wpAny_pure ⟨_, rfl, hq⟩)
    refine wpAny_bind (wpAny_askSetting (wpAny_ite ?_))
    split
    · exact wpAny_bind ((Looks.of_pure (hbd (.ref x))).here (wpAny_pure (by exact fin)))
    · exact wpAny_tryCatch (wpAny_bind ((Looks.of_pure (hbd (.ref x))).here (wpAny_pure (by exact fin))))
  unfold richCompare
  simp only [oneThing_ref]
  refine wpAny_holding (wpAny_bind (wpAny_cRoomFor (Nat.lt_of_succ_lt hu) (wpAny_bind (I.type.here (wpAny_bind (hb.here ?_))))))
  have ends : ∀ {f : Option Value → Sem Value}, (∀ v, f (some v) = pure v) → wpAny (model prog w) A (tryCompare (.ref x) (cmpInfo .NotEq).2.1 b >>= f) Q E s := fun hf2 => wpAny_bind (wpAny_mono one (fun r s2 z2 => by
    obtain ⟨v, rfl, hq⟩ := z2
    rw [hf2]
    exact wpAny_pure hq) fun _ _ y => y)
  split
  · rename_i differ
    have below : PySem.W.subIn K tb (.ref C) = some false := (Bool.or_eq_true_iff.mp hn).elim (fun same => by rw [beq_iff_eq.mp same] at differ; simp at differ) fun z => beq_iff_eq.mp z
    refine wpAny_bind ((looks_subIn Xk below).here ?_)
    simp only [if_false, Bool.false_eq_true]
    exact ends fun _ => rfl
  · refine wpAny_bind (wpAny_pure ?_)
    simp only [if_false, Bool.false_eq_true]
    exact ends fun _ => rfl
end
end VL

set_option Elab.async false
set_option linter.all false
set_option maxRecDepth 100000
set_option maxHeartbeats 4000000
namespace VL
variable [Tb]
open PySem L2

/-! ## own ==, !=, str -/
section
variable {X : Cx} {ρ : Rho} {a b c e : Expr} {pos p p2 : Pos} {k : D → Prop} {kb : Bool → Prop} {kl : List D → Prop} {j : J} {C g : Addr} {n m : Nat} {s1 s2 : Str} {Cn : Con}
def rNeO (C : Addr) (sp : Sp) : R2 := fun x y H Q => ∃ a dx vs b dy ws, x = .ref a ∧ y = .ref b ∧ SlX.Slt H a C dx vs ∧ SlX.Slt H b C dy ws ∧ sp [x, y] H (fun v H' => ∃ r, v = .bl r ∧ Q (.bl (!r)) H') fun _ _ _ => False
theorem op_neO {sp : Sp} (q : EqAt X.K C g) (F : FnR X.prog X.w X.K X.mg X.base CX0 n g sp) (hr : Room (n + 1) X.A) : OpR X (compareOp .NotEq) (rNeO C sp) := by
  intro pins s σ H x y v u Q I rx ry h
  obtain ⟨a, dx, vs, b, dy, ws, rfl, rfl, ha, hb, h⟩ := h
  cases (show v = Value.ref a from rx)
  cases (show u = Value.ref b from ry)
  obtain ⟨sl, od, _, J1, _⟩ := SlX.slt_inst I ha
  obtain ⟨sl', od', _, J2, _⟩ := SlX.slt_inst I hb
  have un := hr.units
  show wpAny _ _ (richCompare .NotEq (.ref a) (.ref b)) _ _ _
  refine ne_own (by omega) I.kIn J1 J2.type q.nf q.ne q.eq q.fn q.cm ?_
  refine wpAny_mono (wpAny_call (SlX.run_at (us := [.ref a, .ref b]) (ws := [.ref a, .ref b]) F hr.in1 I.env0.in1 pass0 I (.cons rfl (.cons rfl .nil)) h)) (fun w s' z => ?_) fun _ _ x => x
  obtain ⟨z', H', I', rz, r, er, qz⟩ := z
  subst er
  cases (show w = Value.bool r from rz)
  exact ⟨r, rfl, .bl (!r), H', I', rfl, qz⟩
theorem sp2 {S : List Addr} {H : Hp} {K : PySem.W.Frag} {x y : V} {d d2 : D} {Q : VK} (E : Trk S H) (a1 : At K (hide S H) x d) (a2 : At K (hide S H) y d2) (hc : Cn [d, d2] k) (q : ∀ v H2 d, Ex H H2 → At K (hide S H2) v d → k d → Q v H2) : spC K 2 Cn [x, y] H Q fun _ _ _ => False :=
  ⟨S, _, k, rfl, E, .cons a1 (.cons a2 .nil), hc, q⟩
theorem xe_neO (q : EqAt X.K C g) (F : FnA X.prog X.w X.K X.mg X.base n g [s1, s2] Cn) (hr : Room m X.A) (h : XE X a ρ fun x => ∃ xs, x = .obj C xs ∧ XE X b ρ fun y => ∃ ys, y = .obj C ys ∧ Cn [x, y] fun r => ∃ t, r = .bl t ∧ k (.bl (!t))) (hnm : n + 1 ≤ m := by decide) : XE X (.Compare a [.NotEq] [b] pos) ρ k :=
  impE (pe_cmpR (op_neO q F.raw (hr.mono hnm)) anyE anyE (nomark _)) fun σ H Q ⟨S, E, qq⟩ => useE h E fun x H1 d e1 a1 ⟨xs, hx, hb⟩ => useE hb (E.mono e1) fun y H2 d2 e2 a2 ⟨ys, hy, hc⟩ => by
    subst hx hy
    obtain ⟨a, dx, vs, rfl, h1, h2⟩ := a1.inv_obj
    obtain ⟨b, dy, ws, rfl, h3, h4⟩ := a2.inv_obj
    exact ⟨a, dx, _, b, dy, _, rfl, rfl, ex_s hide_le (ex_s (hide_ex e2) h1), ex_s hide_le h3, sp2 (E.mono (e1.trans e2)).trk (a1.mono (hide_ex e2)) a2 hc fun v H3 d3 e3 a3 ⟨t, ht, hk⟩ => by
      subst ht
      exact ⟨t, a3.inv_bl, qq _ _ _ ((e1.trans e2).trans e3) (.bl _) hk⟩⟩
theorem xt_neO (q : EqAt X.K C g) (F : FnA X.prog X.w X.K X.mg X.base n g [s1, s2] Cn) (hr : Room m X.A) (h : XE X a ρ fun x => ∃ xs, x = .obj C xs ∧ XE X b ρ fun y => ∃ ys, y = .obj C ys ∧ Cn [x, y] fun r => ∃ t, r = .bl t ∧ kb (!t)) (hnm : n + 1 ≤ m := by decide) : XT X (.Compare a [.NotEq] [b] pos) ρ kb :=
  impT (pt_cmpR (op_neO q F.raw (hr.mono hnm)) anyE anyE (nomark _)) fun σ H Q ⟨S, E, qq⟩ => useE h E fun x H1 d e1 a1 ⟨xs, hx, hb⟩ => useE hb (E.mono e1) fun y H2 d2 e2 a2 ⟨ys, hy, hc⟩ => by
    subst hx hy
    obtain ⟨a, dx, vs, rfl, h1, h2⟩ := a1.inv_obj
    obtain ⟨b, dy, ws, rfl, h3, h4⟩ := a2.inv_obj
    exact ⟨a, dx, _, b, dy, _, rfl, rfl, ex_s hide_le (ex_s (hide_ex e2) h1), ex_s hide_le h3, sp2 (E.mono (e1.trans e2)).trk (a1.mono (hide_ex e2)) a2 hc fun v H3 d3 e3 a3 ⟨t, ht, hk⟩ => by
      subst ht
      exact ⟨t, a3.inv_bl, _, rfl, qq _ _ ((e1.trans e2).trans e3) hk⟩⟩
theorem xe_eqO (q : EqAt X.K C g) (F : FnA X.prog X.w X.K X.mg X.base n g [s1, s2] Cn) (hr : Room m X.A) (h : XE X a ρ fun x => ∃ xs, x = .obj C xs ∧ XE X b ρ fun y => ∃ ys, y = .obj C ys ∧ Cn [x, y] k) (hnm : n ≤ m := by decide) : XE X (.Compare a [.Eq] [b] pos) ρ k :=
  impE (pe_cmpR (SlX.op_own (op := .Eq) (E := fun _ _ _ => False) (fun _ _ => rfl) q.eq q.fn F.raw (hr.mono hnm) pass0) anyE anyE (nomark _)) fun σ H Q ⟨S, E, qq⟩ => useE h E fun x H1 d e1 a1 ⟨xs, hx, hb⟩ => useE hb (E.mono e1) fun y H2 d2 e2 a2 ⟨ys, hy, hc⟩ => by
    subst hx hy
    obtain ⟨a, dx, vs, rfl, h1, h2⟩ := a1.inv_obj
    obtain ⟨b, dy, ws, rfl, h3, h4⟩ := a2.inv_obj
    exact ⟨a, dx, _, b, C, dy, _, rfl, rfl, ex_s hide_le (ex_s (hide_ex e2) h1), ex_s hide_le h3, q.nf, sp2 (E.mono (e1.trans e2)).trk (a1.mono (hide_ex e2)) a2 hc fun v H3 d3 e3 a3 hk => qq _ _ _ ((e1.trans e2).trans e3) a3 hk⟩
/-- str(x) of an own class -/
def rStrO (C : Addr) (sp : Sp) : List V → Hp → VK → Prop := fun xs H Q => ∃ a dx vs, xs = [V.ref a] ∧ SlX.Slt H a C dx vs ∧ sp [.ref a] H (fun z H' => ∃ y, z = .str y ∧ Q z H') fun _ _ _ => False
theorem call_strO {sp : Sp} (hs : PySem.W.findIn X.K (.ref C) "__str__" = some (some (.ref g))) (hf : PySem.W.isFn X.K (.ref g) = true) (F : FnR X.prog X.w X.K X.mg X.base CX0 n g sp) (hr : Room (n + 2) X.A) : CallR X (.type "str") (rStrO C sp) := by
  intro pins s σ H xs us Q I r h
  obtain ⟨a, dx, vs, rfl, hsl, q⟩ := h
  obtain ⟨u, rfl, ru⟩ := r.one
  cases (show u = Value.ref a from ru)
  obtain ⟨sl, od, _, J1, _⟩ := SlX.slt_inst I hsl
  have hr2 : Room n X.A.in1.in1 := (show Room (n + 1) X.A.in1 from Room.in1 hr).in1
  have un := hr2.units
  refine PySem.W.kso_call (by omega) I.kIn J1 hs hf (wpAny_mono (wpAny_call (SlX.run_at (us := [.ref a]) (ws := [.ref a]) F hr2 I.env0.in1.in1 pass0 I (.cons rfl .nil) q)) (fun w s' z => ?_) fun _ _ x => x)
  obtain ⟨z', H', I', rz, y, ey, qz⟩ := z
  subst ey
  obtain ⟨t, e⟩ := (show ∃ t, w = Value.str y t from rz)
  cases e
  exact ⟨.str y, H', I', ⟨t, rfl⟩, qz⟩
theorem xe_strO (hm0 : X.mg "str" = none) (hs : PySem.W.findIn X.K (.ref C) "__str__" = some (some (.ref g))) (hf : PySem.W.isFn X.K (.ref g) = true) (F : FnA X.prog X.w X.K X.mg X.base n g [s1] Cn) (hr : Room m X.A)
    (h : XE X a ρ fun x => ∃ xs, x = .obj C xs ∧ Cn [x] fun r => ∃ y, r = .str y ∧ k r) (hnm : n + 2 ≤ m := by decide) (hg : Gl X "str" := by rfl)
    (he : starEach (a :: []) X.env = (false, eval a X.env) :: starEach [] X.env := by rfl) : XE X (.Call (.Name "str" p) [a] [] pos) ρ k :=
  impE (pe_callTy (call_strO hs hf F.raw (hr.mono hnm)) hg hm0 (by decide +kernel) (pa_cons anyE pa_nil he) (by decide) (by decide) he rfl) fun σ H Q ⟨S, E, q⟩ => useE h E fun x H1 d e1 a1 ⟨xs, hx, hc⟩ => by
    subst hx
    have a1' := a1
    obtain ⟨a, dx, vs, rfl, h1, h2⟩ := a1.inv_obj
    exact ⟨a, dx, _, rfl, ex_s hide_le h1, S, _, _, rfl, (E.mono e1).trk, .cons a1' .nil, hc, fun v H2 d2 e2 a2 ⟨y, hy, hk⟩ => by
      subst hy
      exact ⟨y, a2.inv_str, q _ _ _ (e1.trans e2) a2 hk⟩⟩

/-! ## x, y, z = a, b, c; try -/
theorem xs_par3 (i1 i2 i3 : Nat) {x y z : Str} {px py pz pt : Pos} {kt k2 pt2} (hc : X.calm = true) (hN : X.N.Nodup)
    (h : XE X a ρ fun d1 => XE X b ρ fun d2 => XE X c ρ fun d3 => j.nx (((ρ.set i1 (.dat d1)).set i2 (.dat d2)).set i3 (.dat d3)))
    (hw : swappedStores [.Tuple [.Name x px, .Name y py, .Name z pz] kt pt] (.Tuple [a, b, c] k2 pt2) X.env = pure (some [x, y, z]))
    (h1 : X.N[i1]? = some x := by rfl) (h2 : X.N[i2]? = some y := by rfl) (h3 : X.N[i3]? = some z := by rfl) (h12 : i1 ≠ i2 := by decide) (h13 : i1 ≠ i3 := by decide) (h23 : i2 ≠ i3 := by decide)
    (hx : X.env.scope.names.lookup x = some .local := by rfl) (hy : X.env.scope.names.lookup y = some .local := by rfl) (hz : X.env.scope.names.lookup z = some .local := by rfl)
    (hs : swapsWithSole [.Tuple [.Name x px, .Name y py, .Name z pz] kt pt] (.Tuple [a, b, c] k2 pt2) pos.line X.env = pure false := by rfl)
    (s1 : starEach [a, b, c] X.env = (false, eval a X.env) :: starEach [b, c] X.env := by rfl) (s2 : starEach [b, c] X.env = (false, eval b X.env) :: starEach [c] X.env := by rfl) (s3 : starEach [c] X.env = (false, eval c X.env) :: starEach [] X.env := by rfl) :
    XS X (.Assign [.Tuple [.Name x px, .Name y py, .Name z pz] kt pt] (.Tuple [a, b, c] k2 pt2) pos) ρ j := fun S0 H0 tr =>
  impS (ps_par3 hc hN h1 h2 h3 h12 h13 h23 hx hy hz (pa_cons anyE (pa_cons anyE (pa_cons anyE pa_nil s3) s2) s1) hw hs) fun En σ H ⟨⟨S, g1, g2, g3, g4, E⟩, f⟩ =>
    useE h E fun v1 H1 d1 e1 a1 hb => useE hb (E.mono e1) fun v2 H2 d2 e2 a2 hc => useE hc ((E.mono e1).mono e2) fun v3 H3 d3 e3 a3 hk => ⟨v1, v2, v3, rfl, by
      have E3 := ((E.mono e1).mono e2).mono e3
      have o1 : StOk X.K S0 H0 H3 _ _ := StOk.store (i := i1) g1 g2 g3 (g4.trans ((e1.trans e2).trans e3)) E3 (a1.mono (hide_ex (e2.trans e3)))
      have k1 : Kept ρ (ρ.set i1 (.dat d1)) σ (σ.set i1 (some v1)) := Kept.set
      have k2 : Kept _ ((ρ.set i1 (.dat d1)).set i2 (.dat d2)) _ ((σ.set i1 (some v1)).set i2 (some v2)) := Kept.set
      have k3 : Kept _ (((ρ.set i1 (.dat d1)).set i2 (.dat d2)).set i3 (.dat d3)) _ (((σ.set i1 (some v1)).set i2 (some v2)).set i3 (some v3)) := Kept.set
      have kk := (k1.trans k2).trans k3
      have E4 := ((E3.store (i := i1) (a1.mono (hide_ex (e2.trans e3)))).store (i := i2) (a2.mono (hide_ex e3))).store (i := i3) a3
      exact f.nx _ _ _ ⟨S, g1, g2, fun l ds q u w => let ⟨r, t⟩ := kk l ds q u w; g3 l ds q r t, g4.trans ((e1.trans e2).trans e3), E4⟩ hk⟩
/-- try: a body that raises nothing -/
theorem xs_try {body : List Stmt} {h₀ : ExceptHandler} {hs : List ExceptHandler} (hn : ∀ e s, ¬ X.xe e s) (h : XB X body ρ j) : XS X (.Try body (h₀ :: hs) [] [] pos) ρ j := fun S0 H0 tr => ps_try_never (u := tNext) hn (h S0 H0 tr) pss_nil
end
end VL

set_option Elab.async false
set_option linter.all false
set_option maxRecDepth 100000
set_option maxHeartbeats 4000000
namespace VL
variable [Tb]
open PySem L2

/-! ## Sources of draws: three ints in a list, not told which -/
def Loose : HO → Prop
  | .lst _ => True
  | .ext _ => True
  | _ => False
theorem hok_swap {P : Program} {w : World} {H : Hp} {h : Heap} {c : Addr} {u o : HO} (x : HOk P w H h) (e : H c = some u) (lu : Loose u) (n : ObjOk P w (upd H c o) h c o) : HOk P w (upd H c o) h := fun b v q => by
  by_cases hb : b = c
  · subst hb
    rw [upd_same] at q
    cases q
    exact n
  · rw [upd_ne hb] at q
    refine (x b v q).stay (fun _ _ _ r => r) (fun d r => ?_) (fun d xs r => ?_)
    · have : d ≠ c := fun z => by
        rw [z, e] at r
        cases r
        exact lu
      rw [upd_ne this]
      exact r
    · have : d ≠ c := fun z => by
        rw [z, e] at r
        cases r
        exact lu
      rw [upd_ne this]
      exact r
theorem inv_swap {X : Cx} {pins : List (Addr × Obj)} {σ : L2.St} {H : Hp} {s : Shared} {c : Addr} {u o : HO} (I : Inv X pins σ H s) (e : H c = some u) (lu : Loose u) (n : ObjOk X.prog X.w (upd H c o) s.heap c o) : Inv X pins σ (upd H c o) s := by
  have ne : ∀ b, H b = none → b ≠ c := fun b q z => by
    rw [z, e] at q
    cases q
  have nl : ∀ b v, H b = some v → ¬ Loose v → b ≠ c := fun b v q nv z => by
    rw [z, e] at q
    cases q
    exact nv lu
  refine ⟨I.ok, I.os, I.bare, ⟨fun b ob q n1 n2 n3 => I.base.keep b ob q n1 n2 n3, fun b ob q n1 n2 n3 => I.base.slot b ob q n1 n2 n3, fun b ob q n1 n2 => ?_, fun b ob q n1 => I.base.there b ob q n1, fun b xs q => ?_, fun b ob v q => ?_, fun b ps q => ?_⟩, I.loc, I.cell, ?_, fun x d q => ?_, fun p hp => ?_, hok_swap I.hok e lu n, I.len⟩
  · have := I.base.free b ob q n1 n2
    rw [upd_ne (ne b this)]
    exact this
  · have := I.base.tups b xs q
    rw [upd_ne (nl b _ this fun z => z)]
    exact this
  · have := I.base.frzs b ob v q
    rw [upd_ne (nl b _ this fun z => z)]
    exact this
  · obtain ⟨m, this⟩ := I.base.tbls b ps q
    refine ⟨m, ?_⟩
    rw [upd_ne (nl b _ this fun z => z)]
    exact this
  · rw [upd_ne (ne _ I.free)]
    exact I.free
  · have := I.freeC x d q
    rw [upd_ne (ne _ this)]
    exact this
  · obtain ⟨g1, g2, g3⟩ := I.pin p hp
    exact ⟨g1, by rw [upd_ne (ne _ g2)]; exact g2, g3⟩
theorem upd_twice {H : Hp} {c : Addr} {o o' : HO} : upd (upd H c o) c o' = upd H c o' := by
  funext b
  by_cases z : b = c
  · rw [z, upd_same, upd_same]
  · rw [upd_ne z, upd_ne z, upd_ne z]
theorem upd_id {H : Hp} {c : Addr} {o : HO} (e : H c = some o) : upd H c o = H := by
  funext b
  by_cases z : b = c
  · rw [z, upd_same, e]
  · rw [upd_ne z]
def L3 (i j k : Int) : HO := .lst [.int i, .int j, .int k]
section
variable {X : Cx} {pins : List (Addr × Obj)} {σ : L2.St} {H : Hp} {s : Shared} {c : Addr}
theorem inv_in (I : Inv X pins σ H s) (e : H c = some (caskO c)) : ∃ i j k, Inv X pins σ (upd H c (L3 i j k)) s := by
  obtain ⟨⟨its, n, i, j, k, r, ho⟩, _, _⟩ := I.hok c _ e
  exact ⟨i, j, k, inv_swap I e trivial ⟨by show 3 ≤ sizeLine; decide, its, n, r, ho⟩⟩
theorem inv_out {i j k : Int} (I : Inv X pins σ H s) (e : H c = some (L3 i j k)) : Inv X pins σ (upd H c (caskO c)) s := by
  obtain ⟨_, its, n, r, ho⟩ := I.hok c _ e
  exact inv_swap I e trivial ⟨⟨its, n, i, j, k, r, ho⟩, ⟨_, ho⟩, fun h1 h2 ⟨its, n, i, j, k, r, q⟩ st => ⟨its, n, i, j, k, r, st _ q⟩⟩
end
section
variable {X : Cx} {ρ : Rho} {a b e ix : Expr} {pos p apos : Pos} {k : D → Prop} {j : J}
def rTok : R2 := fun x y H Q => ∃ c, ∃ n : Nat, x = .ref c ∧ y = .int n ∧ H c = some (caskO c) ∧ n < 3 ∧ ∀ i, Q (.int i) H
theorem ix_tok : IxR X rTok := by
  intro value slice pins s σ H x y v u Q I rx ry h hs
  obtain ⟨c, n, rfl, rfl, hc, hn, q⟩ := h
  obtain ⟨i, j, k, I2⟩ := inv_in I hc
  have at3 : ∃ z, atI [V.int i, V.int j, V.int k] (n : Int) = some (.int z) := by
    rcases n with _ | _ | _ | n
    · exact ⟨i, rfl⟩
    · exact ⟨j, rfl⟩
    · exact ⟨k, rfl⟩
    · omega
  obtain ⟨z, hz⟩ := at3
  refine wpAny_mono (ix_list value slice pins s σ _ (.ref c) (.int n) v u (fun v' H' => v' = .int z ∧ H' = upd H c (L3 i j k)) I2 rx ry ⟨c, _, n, .int z, rfl, rfl, SqL.of upd_same, hz, rfl, rfl⟩ hs) (fun w s1 hw => ?_) fun _ _ y => y
  obtain ⟨v', H', I3, r3, rfl, rfl⟩ := hw
  have I4 := inv_out I3 (c := c) (i := i) (j := j) (k := k) upd_same
  rw [upd_twice, upd_id hc] at I4
  exact ⟨.int z, H, I4, r3, q z⟩
def sTok : TSet := fun o i v H Q => ∃ c, ∃ n : Nat, ∃ z, o = .ref c ∧ i = .int n ∧ v = .int z ∧ H c = some (caskO c) ∧ n < 3 ∧ Q H
theorem set_tok : PSet X sTok := by
  intro pins s σ H o i v ov iv u Q I ro ri rv h
  obtain ⟨c, n, z, rfl, rfl, rfl, hc, hn, q⟩ := h
  obtain ⟨i0, j0, k0, I2⟩ := inv_in I hc
  have hset : ∃ i1 j1 k1, ([V.int i0, V.int j0, V.int k0].set n (.int z)) = [V.int i1, V.int j1, V.int k1] := by
    rcases n with _ | _ | _ | n
    · exact ⟨_, _, _, rfl⟩
    · exact ⟨_, _, _, rfl⟩
    · exact ⟨_, _, _, rfl⟩
    · omega
  obtain ⟨i1, j1, k1, e1⟩ := hset
  have hix : ixN ([V.int i0, V.int j0, V.int k0]).length (n : Int) = some n := by
    unfold ixN
    rw [if_pos (by omega), if_pos (by show (n : Int) < 3; omega)]
    simp
  refine wpAny_mono (set_list pins s σ _ (.ref c) (.int n) (.int z) ov iv u (fun H' => H' = upd (upd H c (L3 i0 j0 k0)) c (L3 i1 j1 k1)) I2 ro ri rv ⟨c, _, n, n, rfl, rfl, upd_same, hix, by rw [e1]; rfl⟩) (fun w s1 hw => ?_) fun _ _ y => y
  obtain ⟨H', I3, rfl⟩ := hw
  have I4 := inv_out I3 (c := c) (i := i1) (j := j1) (k := k1) upd_same
  rw [upd_twice, upd_twice, upd_id hc] at I4
  exact ⟨H, I4, q⟩
theorem xe_tokIx (h : XE X a ρ fun x => x = .tok ∧ XE X b ρ fun y => ∃ n : Nat, y = .int n ∧ n < 3 ∧ ∀ i, k (.int i)) (hs : PlainIx b := by exact fun _ _ => rfl) : XE X (.Subscript a b pos) ρ k :=
  impE (pe_ix ix_tok anyE anyE hs) fun σ H Q ⟨S, E, q⟩ => useE h E fun x H1 d e1 a1 ⟨hd, hb⟩ => useE hb (E.mono e1) fun y H2 d2 e2 a2 ⟨n, hn, hl, hk⟩ => by
    subst hd hn
    obtain ⟨c, rfl, hc⟩ := a1.inv_tok
    exact ⟨c, n, rfl, a2.inv_int, e2.k _ _ (hide_le.k _ _ hc True.intro) True.intro, hl, fun i => q _ _ _ (e1.trans e2) (.int i) (hk i)⟩
theorem xg_tok {d : D} {z : Int} {kr : Rho → Prop} (hd : d = .int z) (h : XE X a ρ fun x => x = .tok ∧ XE X b ρ fun y => ∃ n : Nat, y = .int n ∧ n < 3 ∧ kr ρ)
    (ha : ∀ v, assign (.Subscript a b pos) X.env v = (do
      let ov ← holding [v] (eval a X.env)
      let iv ← holding [v, ov] (eval b X.env)
      standAt pos
      holding [v, ov, iv] (setItem ov iv v)
      release [v, ov, iv] []) := by intro _; rfl) : PG X (.Subscript a b pos) fun v σ H Q => ∃ S, EnvOk X.K S H σ ρ ∧ At X.K (hide S H) v d ∧ ∀ H', Ex H H' → kr ρ → Q σ H' :=
  impG (pg_sub anyE anyE set_tok ha) fun v σ H Q ⟨S, E, av, q⟩ => useE h E fun x H1 d1 e1 a1 ⟨hx, hb⟩ => useE hb (E.mono e1) fun y H2 d2 e2 a2 ⟨n, hn, hl, hk⟩ => by
    subst hd hx hn
    obtain ⟨c, rfl, hc⟩ := a1.inv_tok
    exact ⟨c, n, z, rfl, a2.inv_int, av.inv_int, e2.k _ _ (hide_le.k _ _ hc True.intro) True.intro, hl, q _ (e1.trans e2) hk⟩
/-- cask[i] = an int -/
theorem xs_tok (h : XE X e ρ fun d => ∃ z, d = .int z ∧ XE X a ρ fun x => x = .tok ∧ XE X b ρ fun y => ∃ n : Nat, y = .int n ∧ n < 3 ∧ j.nx ρ)
    (ha : ∀ v, assign (.Subscript a b apos) X.env v = (do
      let ov ← holding [v] (eval a X.env)
      let iv ← holding [v, ov] (eval b X.env)
      standAt apos
      holding [v, ov, iv] (setItem ov iv v)
      release [v, ov, iv] []) := by intro _; rfl)
    (hs : swapsWithSole [.Subscript a b apos] e pos.line X.env = pure false := by rfl) (hw : swappedStores [.Subscript a b apos] e X.env = pure none := by rfl)
    (h1 : (assignEach [.Subscript a b apos] X.env).map (·.2) = [assign (.Subscript a b apos) X.env] := by rfl) :
    XS X (.Assign [.Subscript a b apos] e pos) ρ j := fun S0 H0 tr =>
  impS (ps_asg anyE (pg_sub anyE anyE set_tok ha) hs hw h1) fun En σ H ⟨⟨S, g1, g2, g3, g4, E⟩, f⟩ => useE h E fun v H1 d e1 av ⟨z, hz, hx⟩ => useE hx (E.mono e1) fun x H2 d2 e2 a2 ⟨hd, hb⟩ => useE hb ((E.mono e1).mono e2) fun y H3 d3 e3 a3 ⟨n, hn, hl, hk⟩ => by
    subst hz hd hn
    obtain ⟨c, rfl, hc⟩ := a2.inv_tok
    exact ⟨c, n, z, rfl, a3.inv_int, av.inv_int, e3.k _ _ (hide_le.k _ _ hc True.intro) True.intro, hl, f.nx _ _ _ ⟨S, g1, g2, g3, g4.trans ((e1.trans e2).trans e3), E.mono ((e1.trans e2).trans e3)⟩ hk⟩
/-- cask[i], name = divmod(u, v) and the like: a tuple of two ints -/
theorem xs_tok2 (i : Nat) {x : Str} {px pt : Pos} {kt : Nat} (h : XE X e ρ fun d => ∃ z w, d = .tup [.int z, .int w] ∧ XE X a ρ fun x => x = .tok ∧ XE X b ρ fun y => ∃ n : Nat, y = .int n ∧ n < 3 ∧ j.nx (ρ.set i (.dat (.int w)))) (hN : X.N.Nodup)
    (hi : X.N[i]? = some x := by rfl) (hx : Loc X.env.scope x := by first | exact Or.inl rfl | exact Or.inr rfl) (hf : X.fn x = true ∨ X.env.scope.names.lookup x = some .local := by first | exact .inl rfl | exact .inr rfl)
    (ha : ∀ v, assign (.Subscript a b apos) X.env v = (do
      let ov ← holding [v] (eval a X.env)
      let iv ← holding [v, ov] (eval b X.env)
      standAt apos
      holding [v, ov, iv] (setItem ov iv v)
      release [v, ov, iv] []) := by intro _; rfl) (hc : X.calm = true := by rfl)
    (hs : swapsWithSole [.Tuple [.Subscript a b apos, .Name x px] kt pt] e pos.line X.env = pure false := by rfl) (hw : swappedStores [.Tuple [.Subscript a b apos, .Name x px] kt pt] e X.env = pure none := by rfl)
    (h1 : (assignEach [.Tuple [.Subscript a b apos, .Name x px] kt pt] X.env).map (·.2) = [assign (.Tuple [.Subscript a b apos, .Name x px] kt pt) X.env] := by rfl)
    (c1 : (assignEach [.Subscript a b apos, .Name x px] X.env).map (·.2) = assign (.Subscript a b apos) X.env :: (assignEach [.Name x px] X.env).map (·.2) := by rfl) (c2 : (assignEach [.Name x px] X.env).map (·.2) = assign (.Name x px) X.env :: (assignEach [] X.env).map (·.2) := by rfl)
    (hn : (assignEach [.Subscript a b apos, .Name x px] X.env).length = 2 := by rfl) (hst : (assignEach [.Subscript a b apos, .Name x px] X.env).findIdx? (·.1) = none := by rfl) :
    XS X (.Assign [.Tuple [.Subscript a b apos, .Name x px] kt pt] e pos) ρ j := fun S0 H0 tr =>
  impS (ps_asg anyE (pg_tup hc (pgs_cons (pg_sub anyE anyE set_tok ha) (pgs_cons (pg_name hN hi hx hf) pgs_nil c2) c1) hn hst) hs hw h1) fun En σ H ⟨⟨S, g1, g2, g3, g4, E⟩, f⟩ => useE h E fun v H1 d e1 av ⟨z, w, hz, hx⟩ => by
    subst hz
    obtain ⟨t, vs, rfl, ht, av⟩ := av.inv_tup
    cases av with
    | cons av1 av =>
      cases av with
      | cons av2 av =>
        cases av
        refine ⟨t, _, rfl, ex_t hide_le ht, rfl, _, _, rfl, useE hx (E.mono e1) fun x H2 d2 e2 a2 ⟨hd, hb⟩ => useE hb ((E.mono e1).mono e2) fun y H3 d3 e3 a3 ⟨n, hn, hl, hk⟩ => ?_⟩
        subst hd hn
        obtain ⟨c, rfl, hc⟩ := a2.inv_tok
        have e12 := (e1.trans e2).trans e3
        refine ⟨c, n, z, rfl, a3.inv_int, av1.inv_int, e3.k _ _ (hide_le.k _ _ hc True.intro) True.intro, hl, _, _, rfl, rfl, f.nx _ _ _ (StOk.store g1 g2 g3 (g4.trans e12) (E.mono e12) ?_) hk⟩
        rw [av2.inv_int]
        exact .int w
/-- divmod -/
theorem xe_divmod (hm : X.mg "divmod" = none) (h : XE X a ρ fun x => ∃ i, x = .int i ∧ XE X b ρ fun y => ∃ l, y = .int l ∧ CDiv i l ∧ k (.tup [.int (i / l), .int (i % l)])) (hg : Gl X "divmod" := by rfl)
    (he : starEach (a :: b :: []) X.env = (false, eval a X.env) :: starEach [b] X.env := by rfl) (he2 : starEach (b :: []) X.env = (false, eval b X.env) :: starEach [] X.env := by rfl) (hpl : (backTo pos (starEach [b] X.env)).any (·.1) = false := by rfl) :
    XE X (.Call (.Name "divmod" p) [a, b] [] pos) ρ k :=
  impE (pe_callB call_divmod hg hm (by decide +kernel) (pa_cons anyE (pa_cons anyE pa_nil he2) he) (by decide) (by decide) he hpl) fun σ H Q ⟨S, E, q⟩ => useE h E fun x H1 d e1 a1 ⟨i, hi, hb⟩ => useE hb (E.mono e1) fun y H2 d2 e2 a2 ⟨l, hl, hc, hk⟩ => by
    subst hi hl
    refine ⟨i, l, by rw [a1.inv_int, a2.inv_int], hc, fun r hr => ?_⟩
    have nr := hide_new ((E.mono e1).mono e2).trk hr
    refine q _ _ _ ((e1.trans e2).trans (Ex.new hr)) (.tup (SqT.of ?_) (.cons (.int _) (.cons (.int _) .nil))) hk
    rw [hide_out nr]
    exact upd_same
/-- a new list of three ints, from here on a source of draws -/
theorem xe_tok (h : XN X e ρ fun ds => ∃ i l m, ds = [.int i, .int l, .int m] ∧ k .tok) : XE X e ρ k := by
  refine ⟨fun pins s σ H Q I ⟨S, E, q⟩ => ?_⟩
  refine thn ((show PE X e (tN X.K ρ _) from h).run pins s σ H (fun v H' => ∃ p i l m, v = .ref p ∧ H p = none ∧ H' p = some (L3 i l m) ∧ Ex H H' ∧ k .tok) I ⟨S, E, fun p H2 vs ds hn e2 hp a2 ⟨i, l, m, hd, hk⟩ => ?_⟩) fun u s1 ⟨v, H', I1, r1, p, i, l, m, ev, hn, hp, ex, hk⟩ => ?_
  · subst hd
    cases a2 with
    | cons b1 a2 =>
      cases a2 with
      | cons b2 a2 =>
        cases a2 with
        | cons b3 a2 =>
          cases a2
          have := b1.inv_int
          have := b2.inv_int
          have := b3.inv_int
          subst_vars
          exact ⟨p, i, l, m, rfl, hn, hp, e2, hk⟩
  · subst ev
    have np := hide_new E.trk hn
    exact ⟨.ref p, upd H' p (caskO p), inv_out I1 hp, r1, q _ _ _ (ex.mut hn hp True.intro) (.tok (by rw [hide_out np]; exact upd_same)) hk⟩
end
end VL

set_option Elab.async false
set_option linter.all false
namespace VM
/-! ## Integers: divisors, sizes -/
theorem gcd_step (x y : Int) : Int.gcd y (x % y) = Int.gcd x y := by
  have h : x % y = x + (-(x / y)) * y := by
    have := Int.emod_add_mul_ediv x y
    grind
  rw [h, Int.gcd_add_mul_right_right, Int.gcd_comm]
/-- fewer than B bits -/
def Sz (B : Nat) (i : Int) : Prop := i.natAbs < 2 ^ B
theorem Sz.mono {B C : Nat} {i : Int} (h : Sz B i) (l : B ≤ C) : Sz C i := Nat.lt_of_lt_of_le h (Nat.pow_le_pow_right (by decide) l)
theorem Sz.mul {B C : Nat} {i j : Int} (h : Sz B i) (g : Sz C j) : Sz (B + C) (i * j) := by
  unfold Sz at *
  rw [Int.natAbs_mul, Nat.pow_add]
  exact Nat.mul_lt_mul'' h g
theorem Sz.add {B : Nat} {i j : Int} (h : Sz B i) (g : Sz B j) : Sz (B + 1) (i + j) := by
  unfold Sz at *
  have := Int.natAbs_add_le i j
  rw [Nat.pow_succ]
  omega
theorem Sz.neg {B : Nat} {i : Int} (h : Sz B i) : Sz B (-i) := by
  unfold Sz at *
  rw [Int.natAbs_neg]
  exact h
theorem Sz.sub {B : Nat} {i j : Int} (h : Sz B i) (g : Sz B j) : Sz (B + 1) (i - j) := by
  rw [Int.sub_eq_add_neg]
  exact h.add g.neg
theorem Sz.abs {B : Nat} {i : Int} (h : Sz B i) : Sz B (if i < 0 then -i else i) := by
  split
  · exact h.neg
  · exact h
theorem Sz.dvd {B : Nat} {i j : Int} (h : Sz B i) (d : j ∣ i) (n : i ≠ 0) : Sz B j := by
  unfold Sz at *
  have := Nat.le_of_dvd (Int.natAbs_pos.mpr n) (Int.natAbs_dvd_natAbs.mpr d)
  omega
theorem Sz.div {B : Nat} {i j : Int} (h : Sz B i) (d : j ∣ i) : Sz B (i / j) := by
  by_cases n : i = 0
  · subst n
    simp [Sz, Nat.pow_pos]
  · obtain ⟨c, hc⟩ := d
    have hj : j ≠ 0 := fun z => n (by rw [hc, z, Int.zero_mul])
    rw [hc, Int.mul_ediv_cancel_left _ hj]
    exact h.dvd ⟨j, by rw [hc, Int.mul_comm]⟩ n
theorem Sz.of {B : Nat} {i : Int} (h1 : -(2 ^ B : Nat) < i) (h2 : i < (2 ^ B : Nat)) : Sz B i := by
  unfold Sz
  omega
theorem Sz.log {B : Nat} {i : Int} (h : Sz B i) : i.natAbs.log2 ≤ B := by
  by_cases n : i.natAbs = 0
  · rw [n]; exact Nat.zero_le _
  · exact Nat.le_of_lt ((Nat.log2_lt n).mpr h)
theorem Sz.pow {B : Nat} {i : Int} (h : Sz B i) : ∀ e : Nat, Sz (B * e + 1) (i ^ e)
  | 0 => by simp [Sz]
  | e + 1 => by
    have := (Sz.pow h e).mul h
    rw [Int.pow_succ]
    exact this.mono (by rw [Nat.mul_succ]; omega)
/-! ## Fractions in lowest terms -/
theorem low_num (a b : Int) (hb : 0 < b) : a / (Int.gcd a b : Int) = ((a : Rat) / (b : Rat)).num := by
  rw [← Rat.divInt_eq_div, Rat.num_divInt, Int.gcd_comm, Int.sign_eq_one_of_pos hb, Int.one_mul]
theorem low_den (a b : Int) (hb : 0 < b) : b / (Int.gcd a b : Int) = (((a : Rat) / (b : Rat)).den : Int) := by
  rw [← Rat.divInt_eq_div, Rat.den_divInt, if_neg (by omega), Int.gcd_comm]
  rw [Int.natCast_ediv]
  congr 1
  omega
/-- a fraction's two numbers, below 2 ^ B -/
def SzQ (B : Nat) (x : Rat) : Prop := Sz B x.num ∧ Sz B x.den
theorem SzQ.mono {B C : Nat} {x : Rat} (h : SzQ B x) (l : B ≤ C) : SzQ C x := ⟨h.1.mono l, h.2.mono l⟩
theorem szq_div {B : Nat} {a b : Int} (hb : 0 < b) (h1 : Sz B a) (h2 : Sz B b) : SzQ B ((a : Rat) / (b : Rat)) := by
  refine ⟨?_, ?_⟩
  · rw [← low_num a b hb]
    exact h1.div (Int.gcd_dvd_left ..)
  · rw [← low_den a b hb]
    exact h2.div (Int.gcd_dvd_right ..)
theorem ratNz {b : Int} (h : b ≠ 0) : (b : Rat) ≠ 0 := by simpa using h
theorem den_nz (x : Rat) : (x.den : Rat) ≠ 0 := by
  have := x.den_nz
  simpa using this
theorem num_den (x : Rat) : (x.num : Rat) / (x.den : Rat) = x := by
  have := Rat.num_divInt_den x
  rw [Rat.divInt_eq_div] at this
  exact this
theorem num_eq (x : Rat) : (x.num : Rat) = x * (x.den : Rat) := by
  have h := num_den x
  have := den_nz x
  grind
theorem den_pos (x : Rat) : 0 < (x.den : Int) := by
  have := x.den_pos
  omega
theorem gcd_num_den (x : Rat) : Int.gcd x.num x.den = 1 := x.reduced
theorem SzQ.add {B C : Nat} {x y : Rat} (h : SzQ B x) (g : SzQ C y) : SzQ (B + C + 1) (x + y) := by
  have e : x + y = ((x.num * y.den + y.num * x.den : Int) : Rat) / ((x.den * y.den : Int) : Rat) := by
    have h1 := num_eq x
    have h2 := num_eq y
    have h3 := den_nz x
    have h4 := den_nz y
    push_cast
    rw [h1, h2]
    grind
  rw [e]
  refine szq_div (Int.mul_pos (den_pos x) (den_pos y)) ?_ ?_
  · exact (h.1.mul g.2).add ((g.1.mul h.2).mono (by omega))
  · exact (h.2.mul g.2).mono (by omega)
theorem SzQ.mul {B C : Nat} {x y : Rat} (h : SzQ B x) (g : SzQ C y) : SzQ (B + C) (x * y) := by
  have e : x * y = ((x.num * y.num : Int) : Rat) / ((x.den * y.den : Int) : Rat) := by
    have h1 := num_eq x
    have h2 := num_eq y
    have h3 := den_nz x
    have h4 := den_nz y
    push_cast
    rw [h1, h2]
    grind
  rw [e]
  exact szq_div (Int.mul_pos (den_pos x) (den_pos y)) (h.1.mul g.1) (h.2.mul g.2)
theorem SzQ.neg {B : Nat} {x : Rat} (h : SzQ B x) : SzQ B (-x) := ⟨h.1.neg, h.2⟩

/-! ## Triples -/
structure IsTri (x y : Rat) (a b c : Int) : Prop where
  pos : 0 < c
  ea : (a : Rat) = x * c
  eb : (b : Rat) = y * c
  one : Int.gcd (Int.gcd a b) c = 1
theorem tri_dvd {x y : Rat} {a b c a' b' c' : Int} (h : IsTri x y a b c) (pos : 0 < c') (ea : (a' : Rat) = x * c') (eb : (b' : Rat) = y * c') : c ∣ c' := by
  have h0 := ratNz (Int.ne_of_gt h.pos)
  have h0' := ratNz (Int.ne_of_gt pos)
  have e1 : a * c' = a' * c := by
    have h1 := h.ea
    rw [← Rat.intCast_inj]
    push_cast
    grind
  have e2 : b * c' = b' * c := by
    have h1 := h.eb
    rw [← Rat.intCast_inj]
    push_cast
    grind
  have d1 : c ∣ a * c' := ⟨a', by rw [e1, Int.mul_comm]⟩
  have d2 : c ∣ b * c' := ⟨b', by rw [e2, Int.mul_comm]⟩
  have d3 : c ∣ (Int.gcd a b : Int) * c' := by
    have := Int.dvd_coe_gcd d1 d2
    rw [Int.gcd_mul_right, Int.natCast_mul] at this
    have h2 : (c'.natAbs : Int) = c' := by omega
    rwa [h2] at this
  have d4 : c ∣ c * c' := ⟨c', rfl⟩
  have := Int.dvd_coe_gcd d3 d4
  rw [Int.gcd_mul_right, Int.natCast_mul, h.one] at this
  have h2 : (c'.natAbs : Int) = c' := by omega
  rw [h2] at this
  simpa using this
theorem IsTri.uniq {x y : Rat} {a b c a' b' c' : Int} (h : IsTri x y a b c) (g : IsTri x y a' b' c') : a = a' ∧ b = b' ∧ c = c' := by
  have d1 := tri_dvd h g.pos g.ea g.eb
  have d2 := tri_dvd g h.pos h.ea h.eb
  have e : c = c' := Int.dvd_antisymm (Int.le_of_lt h.pos) (Int.le_of_lt g.pos) d1 d2
  subst e
  exact ⟨Rat.intCast_inj.mp (h.ea.trans g.ea.symm), Rat.intCast_inj.mp (h.eb.trans g.eb.symm), rfl⟩
theorem gcd3_ne {a b c : Int} (hc : c ≠ 0) : (Int.gcd (Int.gcd a b) c : Int) ≠ 0 := by
  intro h
  have := Int.gcd_dvd_right (Int.gcd a b : Int) c
  rw [h] at this
  exact hc (Int.zero_dvd.mp this)
theorem tri_made {a b c g : Int} (hc : c ≠ 0) (hg : g = if c > 0 then (Int.gcd (Int.gcd a b) c : Int) else -(Int.gcd (Int.gcd a b) c : Int)) :
    IsTri ((a : Rat) / c) ((b : Rat) / c) (a / g) (b / g) (c / g) ∧ g ∣ a ∧ g ∣ b ∧ g ∣ c := by
  have hn := gcd3_ne (a := a) (b := b) hc
  have ge : (Int.gcd (Int.gcd a b) c : Int) = Int.gcd (Int.gcd a b) c := rfl
  have dc : (Int.gcd (Int.gcd a b) c : Int) ∣ c := Int.gcd_dvd_right ..
  have dab : (Int.gcd (Int.gcd a b) c : Int) ∣ (Int.gcd a b : Int) := Int.gcd_dvd_left ..
  have da : (Int.gcd (Int.gcd a b) c : Int) ∣ a := Int.dvd_trans dab (Int.gcd_dvd_left ..)
  have db : (Int.gcd (Int.gcd a b) c : Int) ∣ b := Int.dvd_trans dab (Int.gcd_dvd_right ..)
  have pos : 0 ≤ (Int.gcd (Int.gcd a b) c : Int) := Int.natCast_nonneg _
  have abs : (g.natAbs : Int) = (Int.gcd (Int.gcd a b) c : Int) := by
    rw [hg]
    split <;> omega
  have dv : ∀ z : Int, (Int.gcd (Int.gcd a b) c : Int) ∣ z → g ∣ z := fun z hz => by
    rw [hg]
    split
    · exact hz
    · exact Int.neg_dvd.mpr hz
  have hga := dv a da
  have hgb := dv b db
  have hgc := dv c dc
  have gn : g ≠ 0 := by
    rw [hg]
    split <;> omega
  have ga := Int.ediv_mul_cancel hga
  have gb := Int.ediv_mul_cancel hgb
  have gc := Int.ediv_mul_cancel hgc
  have cp : 0 < c / g := by
    have hs : 0 < g ↔ 0 < c := by
      rw [hg]
      split <;> omega
    rcases Int.lt_or_gt_of_ne hc with z | z
    · have gneg : g < 0 := by omega
      have : c / g ≠ 0 := fun w => by rw [w] at gc; omega
      have : ¬ c / g < 0 := fun w => by
        have := Int.mul_pos_of_neg_of_neg w gneg
        omega
      omega
    · have gp : 0 < g := hs.mpr z
      have : c / g ≠ 0 := fun w => by rw [w] at gc; omega
      have : ¬ c / g < 0 := fun w => by
        have := Int.mul_neg_of_neg_of_pos w gp
        omega
      omega
  have rc := ratNz hc
  have rg := ratNz gn
  have rcg := ratNz (Int.ne_of_gt cp)
  refine ⟨⟨cp, ?_, ?_, ?_⟩, hga, hgb, hgc⟩
  · have h1 : ((a / g : Int) : Rat) * g = a := by rw [← Rat.intCast_mul, ga]
    have h2 : ((c / g : Int) : Rat) * g = c := by rw [← Rat.intCast_mul, gc]
    grind
  · have h1 : ((b / g : Int) : Rat) * g = b := by rw [← Rat.intCast_mul, gb]
    have h2 : ((c / g : Int) : Rat) * g = c := by rw [← Rat.intCast_mul, gc]
    grind
  · have h1 : Int.gcd (Int.gcd a b) c = Int.gcd (Int.gcd (a / g) (b / g)) (c / g) * g.natAbs := by
      have e1 : Int.gcd a b = Int.gcd (a / g) (b / g) * g.natAbs := by
        rw [← Int.gcd_mul_right, ga, gb]
      have e2 : ((Int.gcd a b : Nat) : Int) = (Int.gcd (a / g) (b / g) : Int) * (g.natAbs : Int) := by rw [e1, Int.natCast_mul]
      have e3 : Int.gcd ((Int.gcd (a / g) (b / g) : Int) * (g.natAbs : Int)) c = Int.gcd ((Int.gcd (a / g) (b / g) : Int) * (g.natAbs : Int)) (c / g * (g.natAbs : Int)) := by
        have : c.natAbs = (c / g * (g.natAbs : Int)).natAbs := by
          rw [Int.natAbs_mul, Int.natAbs_natCast, ← Int.natAbs_mul, gc]
        unfold Int.gcd
        rw [← this]
      rw [e2, e3, Int.gcd_mul_right, Int.natAbs_natCast]
    have h2 : (Int.gcd (Int.gcd a b) c : Int) = g.natAbs := abs.symm
    have h3 : Int.gcd (Int.gcd a b) c = g.natAbs := by omega
    rw [h3] at h1
    have gp : 0 < g.natAbs := Int.natAbs_pos.mpr gn
    have : 1 * g.natAbs = Int.gcd (Int.gcd (a / g) (b / g)) (c / g) * g.natAbs := by rw [Nat.one_mul]; exact h1
    exact (Nat.eq_of_mul_eq_mul_right gp this).symm
theorem IsTri.xe {x y : Rat} {a b c : Int} (h : IsTri x y a b c) : x = (a : Rat) / c := by
  have := h.ea
  have := ratNz (Int.ne_of_gt h.pos)
  grind
theorem IsTri.ye {x y : Rat} {a b c : Int} (h : IsTri x y a b c) : y = (b : Rat) / c := by
  have := h.eb
  have := ratNz (Int.ne_of_gt h.pos)
  grind
/-- a triple's three numbers -/
def Sz3 (B : Nat) (a b c : Int) : Prop := Sz B a ∧ Sz B b ∧ Sz B c
theorem IsTri.szq {x y : Rat} {a b c : Int} {B : Nat} (h : IsTri x y a b c) (s : Sz3 B a b c) : SzQ B x ∧ SzQ B y := by
  rw [h.xe, h.ye]
  exact ⟨szq_div h.pos s.1 s.2.2, szq_div h.pos s.2.1 s.2.2⟩
end VM
namespace VM
/-! ## Scales and moves -/
def sc (n k : Int) : Rat := (n : Rat) ^ k
theorem sc_add {n : Int} (h : n ≠ 0) (k l : Int) : sc n (k + l) = sc n k * sc n l := Rat.zpow_add (ratNz h) k l
theorem sc_zero (n : Int) : sc n 0 = 1 := Rat.zpow_zero _
theorem sc_nat (n : Int) (e : Nat) : sc n e = ((n ^ e : Int) : Rat) := by
  rw [Rat.intCast_pow]
  exact Rat.zpow_natCast _ _
theorem sc_neg {n : Int} (h : n ≠ 0) (k : Int) : sc n (-k) * sc n k = 1 := by
  rw [← sc_add h, show -k + k = 0 by omega, sc_zero]
theorem sc_nonneg {n k : Int} (h : 0 ≤ k) : sc n k = ((n ^ k.toNat : Int) : Rat) := by
  rw [← sc_nat]
  congr 1
  omega
theorem sc_neg_eq {n k : Int} (hn : n ≠ 0) (h : k ≤ 0) : sc n k = 1 / ((n ^ (-k).toNat : Int) : Rat) := by
  have h1 := sc_neg hn (-k)
  have h2 := sc_nonneg (n := n) (k := -k) (by omega)
  rw [h2, show - -k = k by omega] at h1
  have : ((n ^ (-k).toNat : Int) : Rat) ≠ 0 := by
    intro z
    rw [z] at h1
    grind
  grind
theorem pow_pos' {n : Int} (h : 0 < n) (e : Nat) : 0 < n ^ e := Int.pow_pos h
theorem sc_nz {n : Int} (h : n ≠ 0) (k : Int) : sc n k ≠ 0 := fun z => by
  have := sc_neg h k
  rw [z] at this
  grind
theorem sz_small {n : Int} (h1 : 2 ≤ n) (h2 : n ≤ 10) : Sz 4 n := by
  unfold Sz
  omega
theorem szq_sc {n k : Int} (h1 : 2 ≤ n) (h2 : n ≤ 10) : SzQ (4 * k.natAbs + 1) (sc n k) := by
  have p : ∀ e, Sz (4 * e + 1) (n ^ e) := fun e => (sz_small h1 h2).pow e
  by_cases hk : 0 ≤ k
  · rw [sc_nonneg hk]
    have e : k.toNat = k.natAbs := by omega
    rw [e]
    refine ⟨p _, ?_⟩
    rw [Rat.den_intCast]
    exact Sz.of (by have := Nat.pow_pos (n := 4 * k.natAbs + 1) (show 0 < 2 by decide); omega) (by rw [Nat.pow_succ]; have := Nat.pow_pos (n := 4 * k.natAbs) (show 0 < 2 by decide); omega)
  · rw [sc_neg_eq (by omega) (by omega)]
    have e : (-k).toNat = k.natAbs := by omega
    rw [e]
    have q := szq_div (a := 1) (b := n ^ k.natAbs) (B := 4 * k.natAbs + 1) (pow_pos' (by omega) _) (by
      exact Sz.of (by have := Nat.pow_pos (n := 4 * k.natAbs + 1) (show 0 < 2 by decide); omega) (by rw [Nat.pow_succ]; have := Nat.pow_pos (n := 4 * k.natAbs) (show 0 < 2 by decide); omega)) (p _)
    exact q
/-- turned by quarters -/
def rx (q : Int) (x y : Rat) : Rat := if q % 4 = 0 then x else if q % 4 = 1 then -y else if q % 4 = 2 then -x else y
def ry (q : Int) (x y : Rat) : Rat := if q % 4 = 0 then y else if q % 4 = 1 then x else if q % 4 = 2 then -y else -x
theorem four (q : Int) : q % 4 = 0 ∨ q % 4 = 1 ∨ q % 4 = 2 ∨ q % 4 = 3 := by omega
theorem rx_mod (q : Int) (x y : Rat) : rx (q % 4) x y = rx q x y := by
  unfold rx
  rw [Int.emod_emod_of_dvd q (Int.dvd_refl 4)]
theorem ry_mod (q : Int) (x y : Rat) : ry (q % 4) x y = ry q x y := by
  unfold ry
  rw [Int.emod_emod_of_dvd q (Int.dvd_refl 4)]
theorem r_add (p q : Int) (x y : Rat) : rx (p + q) x y = rx p (rx q x y) (ry q x y) ∧ ry (p + q) x y = ry p (rx q x y) (ry q x y) := by
  have e : (p + q) % 4 = (p % 4 + q % 4) % 4 := by omega
  rcases four p with hp | hp | hp | hp <;> rcases four q with hq | hq | hq | hq <;> (rw [hp, hq] at e; unfold rx ry; rw [hp, hq, e]; constructor <;> simp <;> grind)
theorem r_lin (q : Int) (x y z w s : Rat) : rx q (x + s * z) (y + s * w) = rx q x y + s * rx q z w ∧ ry q (x + s * z) (y + s * w) = ry q x y + s * ry q z w := by
  rcases four q with h | h | h | h <;> (unfold rx ry; rw [h]; constructor <;> simp <;> grind)
theorem r_mul (q : Int) (s z w : Rat) : rx q (s * z) (s * w) = s * rx q z w ∧ ry q (s * z) (s * w) = s * ry q z w := by
  rcases four q with h | h | h | h <;> (unfold rx ry; rw [h]; constructor <;> simp <;> grind)
theorem r_zero (x y : Rat) : rx 0 x y = x ∧ ry 0 x y = y := by unfold rx ry; simp
theorem r_one (x y : Rat) : rx 1 x y = -y ∧ ry 1 x y = x := by unfold rx ry; simp
theorem szq_r {B : Nat} {q : Int} {x y : Rat} (h : SzQ B x ∧ SzQ B y) : SzQ B (rx q x y) ∧ SzQ B (ry q x y) := by
  have := h.1.neg
  have := h.2.neg
  unfold rx ry
  constructor <;> (repeat' split) <;> grind
/-- a move: zoom, turn, middle -/
structure Mv where
  k : Int
  q : Int
  x : Rat
  y : Rat
def Mv.then (n : Int) (a b : Mv) : Mv := ⟨a.k + b.k, (a.q + b.q) % 4, a.x + sc n a.k * rx a.q b.x b.y, a.y + sc n a.k * ry a.q b.x b.y⟩
def Mv.back (n : Int) (a : Mv) : Mv := ⟨-a.k, -a.q % 4, -(sc n (-a.k) * rx (-a.q) a.x a.y), -(sc n (-a.k) * ry (-a.q) a.x a.y)⟩
def Mv.plain : Mv := ⟨0, 0, 0, 0⟩
theorem mv_ext {a b : Mv} (h1 : a.k = b.k) (h2 : a.q = b.q) (h3 : a.x = b.x) (h4 : a.y = b.y) : a = b := by
  cases a; cases b
  simp only at h1 h2 h3 h4
  subst h1 h2 h3 h4
  rfl
theorem then_assoc {n : Int} (hn : n ≠ 0) (a b c : Mv) : (a.then n b).then n c = a.then n (b.then n c) := by
  have h := r_add a.q b.q c.x c.y
  have l := r_lin a.q b.x b.y (rx b.q c.x c.y) (ry b.q c.x c.y) (sc n b.k)
  refine mv_ext (Int.add_assoc ..) (by show ((a.q + b.q) % 4 + c.q) % 4 = (a.q + (b.q + c.q) % 4) % 4; omega) ?_ ?_
  · show a.x + sc n a.k * rx a.q b.x b.y + sc n (a.k + b.k) * rx ((a.q + b.q) % 4) c.x c.y = a.x + sc n a.k * rx a.q (b.x + sc n b.k * rx b.q c.x c.y) (b.y + sc n b.k * ry b.q c.x c.y)
    rw [rx_mod, h.1, l.1, sc_add hn]
    grind
  · show a.y + sc n a.k * ry a.q b.x b.y + sc n (a.k + b.k) * ry ((a.q + b.q) % 4) c.x c.y = a.y + sc n a.k * ry a.q (b.x + sc n b.k * rx b.q c.x c.y) (b.y + sc n b.k * ry b.q c.x c.y)
    rw [ry_mod, h.2, l.2, sc_add hn]
    grind
theorem then_plain {n : Int} (a : Mv) (h : 0 ≤ a.q ∧ a.q < 4) : a.then n .plain = a := by
  refine mv_ext (Int.add_zero _) (by show (a.q + 0) % 4 = a.q; omega) ?_ ?_
  · show a.x + sc n a.k * rx a.q 0 0 = a.x
    have : rx a.q 0 0 = 0 := by unfold rx; repeat' split <;> simp
    rw [this]
    grind
  · show a.y + sc n a.k * ry a.q 0 0 = a.y
    have : ry a.q 0 0 = 0 := by unfold ry; repeat' split <;> simp
    rw [this]
    grind
theorem plain_then {n : Int} (a : Mv) (h : 0 ≤ a.q ∧ a.q < 4) : Mv.plain.then n a = a := by
  have r := r_zero a.x a.y
  refine mv_ext (Int.zero_add _) (by show (0 + a.q) % 4 = a.q; omega) ?_ ?_
  · show 0 + sc n 0 * rx 0 a.x a.y = a.x
    rw [sc_zero, r.1]
    grind
  · show 0 + sc n 0 * ry 0 a.x a.y = a.y
    rw [sc_zero, r.2]
    grind
theorem r_inv (q : Int) (x y : Rat) : rx q (rx (-q) x y) (ry (-q) x y) = x ∧ ry q (rx (-q) x y) (ry (-q) x y) = y := by
  have h := r_add q (-q) x y
  have z := r_zero x y
  rw [show q + -q = 0 by omega] at h
  exact ⟨h.1 ▸ z.1, h.2 ▸ z.2⟩
theorem then_back {n : Int} (hn : n ≠ 0) (a : Mv) : a.then n (a.back n) = .plain := by
  have i := r_inv a.q a.x a.y
  have m := r_mul a.q (-(sc n (-a.k))) (rx (-a.q) a.x a.y) (ry (-a.q) a.x a.y)
  have s : sc n a.k * sc n (-a.k) = 1 := by rw [← sc_add hn, show a.k + -a.k = 0 by omega, sc_zero]
  have e1 : -(sc n (-a.k) * rx (-a.q) a.x a.y) = -(sc n (-a.k)) * rx (-a.q) a.x a.y := by grind
  have e2 : -(sc n (-a.k) * ry (-a.q) a.x a.y) = -(sc n (-a.k)) * ry (-a.q) a.x a.y := by grind
  refine mv_ext (by show a.k + -a.k = 0; omega) (by show (a.q + -a.q % 4) % 4 = 0; omega) ?_ ?_
  · show a.x + sc n a.k * rx a.q (-(sc n (-a.k) * rx (-a.q) a.x a.y)) (-(sc n (-a.k) * ry (-a.q) a.x a.y)) = 0
    rw [e1, e2, m.1, i.1]
    grind
  · show a.y + sc n a.k * ry a.q (-(sc n (-a.k) * rx (-a.q) a.x a.y)) (-(sc n (-a.k) * ry (-a.q) a.x a.y)) = 0
    rw [e1, e2, m.2, i.2]
    grind
theorem back_turn (n : Int) (a : Mv) : 0 ≤ (a.back n).q ∧ (a.back n).q < 4 := by
  show 0 ≤ -a.q % 4 ∧ -a.q % 4 < 4
  omega
theorem then_turn (n : Int) (a b : Mv) : 0 ≤ (a.then n b).q ∧ (a.then n b).q < 4 := by
  show 0 ≤ (a.q + b.q) % 4 ∧ (a.q + b.q) % 4 < 4
  omega
theorem back_uniq {n : Int} (hn : n ≠ 0) {a b : Mv} (ha : 0 ≤ a.q ∧ a.q < 4) (hb : 0 ≤ b.q ∧ b.q < 4) (h : a.then n b = .plain) : b.then n a = .plain ∧ b = a.back n := by
  -- the inverse of b
  have h1 : (b.then n (b.back n)) = .plain := then_back hn b
  have e : a = b.back n := by
    have := then_assoc hn a b (b.back n)
    rw [h, h1, then_plain a ha, plain_then _ (back_turn n b)] at this
    exact this.symm
  have h2 : b.then n a = .plain := by rw [e]; exact h1
  refine ⟨h2, ?_⟩
  have := then_assoc hn b a (a.back n)
  rw [h2, then_back hn a, then_plain b hb, plain_then _ (back_turn n a)] at this
  exact this.symm
theorem back_then {n : Int} (hn : n ≠ 0) (a : Mv) (ha : 0 ≤ a.q ∧ a.q < 4) : (a.back n).then n a = .plain := (back_uniq hn ha (back_turn n a) (then_back hn a)).1
theorem back_back {n : Int} (hn : n ≠ 0) (a : Mv) (ha : 0 ≤ a.q ∧ a.q < 4) : (a.back n).back n = a := (back_uniq hn (back_turn n a) ha (back_then hn a ha)).2.symm
theorem back_of_then {n : Int} (hn : n ≠ 0) (a b : Mv) (ha : 0 ≤ a.q ∧ a.q < 4) (hb : 0 ≤ b.q ∧ b.q < 4) : (a.then n b).back n = (b.back n).then n (a.back n) := by
  refine (back_uniq hn (then_turn n a b) (then_turn n _ _) ?_).2.symm
  rw [then_assoc hn a b, ← then_assoc hn b (b.back n) (a.back n), then_back hn b, plain_then _ (back_turn n a), then_back hn a]
/-! ## Bottoms that divide a power -/
def Fit (n : Int) (x y : Rat) : Prop := ∃ (e : Nat) (a b : Int), x * sc n e = a ∧ y * sc n e = b
theorem Fit.more {n : Int} (hn : n ≠ 0) {x y : Rat} {e : Nat} {a b : Int} (h : x * sc n e = a ∧ y * sc n e = b) (f : Nat) : x * sc n (e + f : Nat) = (a * n ^ f : Int) ∧ y * sc n (e + f : Nat) = (b * n ^ f : Int) := by
  have : sc n (e + f : Nat) = sc n e * ((n ^ f : Int) : Rat) := by
    rw [← sc_nat, ← sc_add hn]
    rfl
  rw [this, Rat.intCast_mul, Rat.intCast_mul, ← h.1, ← h.2]
  constructor <;> grind
theorem Fit.add {n : Int} (hn : n ≠ 0) {x y z w : Rat} (h : Fit n x y) (g : Fit n z w) : Fit n (x + z) (y + w) := by
  obtain ⟨e, a, b, h⟩ := h
  obtain ⟨f, c, d, g⟩ := g
  have h' := Fit.more hn h f
  have g' := Fit.more hn g e
  rw [Nat.add_comm f e] at g'
  refine ⟨e + f, a * n ^ f + c * n ^ e, b * n ^ f + d * n ^ e, ?_, ?_⟩
  · rw [Rat.intCast_add, ← h'.1, ← g'.1]; grind
  · rw [Rat.intCast_add, ← h'.2, ← g'.2]; grind
theorem Fit.sc {n : Int} (hn : n ≠ 0) {x y : Rat} (h : Fit n x y) (k : Int) : Fit n (sc n k * x) (sc n k * y) := by
  obtain ⟨e, a, b, h⟩ := h
  have key : ∃ f g : Nat, VM.sc n k * VM.sc n (e + f : Nat) = VM.sc n (e : Nat) * ((n ^ g : Int) : Rat) := by
    by_cases hk : 0 ≤ k
    · refine ⟨0, k.toNat, ?_⟩
      rw [← sc_nat, ← sc_add hn, ← sc_add hn]
      congr 1
      omega
    · refine ⟨k.natAbs, 0, ?_⟩
      rw [← sc_nat, ← sc_add hn, ← sc_add hn]
      congr 1
      omega
  obtain ⟨f, g, key⟩ := key
  refine ⟨e + f, a * n ^ g, b * n ^ g, ?_, ?_⟩
  · rw [Rat.intCast_mul, ← h.1]; grind
  · rw [Rat.intCast_mul, ← h.2]; grind
theorem Fit.r {n : Int} {x y : Rat} (h : Fit n x y) (q : Int) : Fit n (rx q x y) (ry q x y) := by
  obtain ⟨e, a, b, h⟩ := h
  rcases four q with hq | hq | hq | hq
  · exact ⟨e, a, b, by unfold rx; rw [hq]; simpa using h.1, by unfold ry; rw [hq]; simpa using h.2⟩
  · refine ⟨e, -b, a, ?_, ?_⟩
    · unfold rx; rw [hq]; simp; rw [← h.2]; grind
    · unfold ry; rw [hq]; simpa using h.1
  · refine ⟨e, -a, -b, ?_, ?_⟩
    · unfold rx; rw [hq]; simp; rw [← h.1]; grind
    · unfold ry; rw [hq]; simp; rw [← h.2]; grind
  · refine ⟨e, b, -a, ?_, ?_⟩
    · unfold rx; rw [hq]; simpa using h.2
    · unfold ry; rw [hq]; simp; rw [← h.1]; grind
theorem Fit.neg {n : Int} {x y : Rat} (h : Fit n x y) : Fit n (-x) (-y) := by
  obtain ⟨e, a, b, h⟩ := h
  exact ⟨e, -a, -b, by rw [Rat.intCast_neg, ← h.1]; grind, by rw [Rat.intCast_neg, ← h.2]; grind⟩
theorem Fit.dvd {n : Int} {x y : Rat} {a b c : Int} (h : Fit n x y) (hn : n ≠ 0) (pn : 0 < n) (t : IsTri x y a b c) : ∃ e : Nat, c ∣ n ^ e := by
  obtain ⟨e, u, v, h⟩ := h
  refine ⟨e, tri_dvd t (pow_pos' pn e) ?_ ?_ (a' := u) (b' := v)⟩
  · rw [← sc_nat]; exact h.1.symm
  · rw [← sc_nat]; exact h.2.symm
theorem Fit.of_dvd {n : Int} {x y : Rat} {a b c : Int} (t : IsTri x y a b c) {e : Nat} (h : c ∣ n ^ e) : Fit n x y := by
  obtain ⟨d, hd⟩ := h
  refine ⟨e, a * d, b * d, ?_, ?_⟩
  · rw [sc_nat, hd, Rat.intCast_mul, Rat.intCast_mul, t.ea]; grind
  · rw [sc_nat, hd, Rat.intCast_mul, Rat.intCast_mul, t.eb]; grind
end VM
namespace VM
/-! ## Moves done many times -/
def pw (n : Int) (m : Mv) : Nat → Mv
  | 0 => .plain
  | j + 1 => (pw n m j).then n m
theorem plain_turn : 0 ≤ Mv.plain.q ∧ Mv.plain.q < 4 := by decide
theorem pw_turn (n : Int) (m : Mv) : ∀ j, 0 ≤ (pw n m j).q ∧ (pw n m j).q < 4
  | 0 => plain_turn
  | j + 1 => then_turn n _ _
theorem pw_one (n : Int) (m : Mv) (h : 0 ≤ m.q ∧ m.q < 4) : pw n m 1 = m := plain_then m h
theorem pw_comm {n : Int} (hn : n ≠ 0) (m : Mv) (h : 0 ≤ m.q ∧ m.q < 4) : ∀ j, (pw n m j).then n m = m.then n (pw n m j)
  | 0 => by
    show Mv.plain.then n m = m.then n .plain
    rw [plain_then m h, then_plain m h]
  | j + 1 => by
    show ((pw n m j).then n m).then n m = m.then n ((pw n m j).then n m)
    rw [← then_assoc hn, pw_comm hn m h j]
theorem pw_back {n : Int} (hn : n ≠ 0) (m : Mv) (h : 0 ≤ m.q ∧ m.q < 4) : ∀ j, pw n (m.back n) j = (pw n m j).back n
  | 0 => by
    show Mv.plain = Mv.plain.back n
    exact (back_uniq hn plain_turn plain_turn (then_plain .plain plain_turn)).2
  | j + 1 => by
    show (pw n (m.back n) j).then n (m.back n) = ((pw n m j).then n m).back n
    rw [pw_back hn m h j, pw_comm hn m h j, back_of_then hn _ _ h (pw_turn n m j)]
def pz (n : Int) (m : Mv) (z : Int) : Mv := if 0 ≤ z then pw n m z.toNat else pw n (m.back n) (-z).toNat
theorem pz_nat (n : Int) (m : Mv) (j : Nat) : pz n m j = pw n m j := by
  unfold pz
  rw [if_pos (by omega)]
  rfl
theorem pz_turn (n : Int) (m : Mv) (z : Int) : 0 ≤ (pz n m z).q ∧ (pz n m z).q < 4 := by
  unfold pz
  split
  · exact pw_turn ..
  · exact pw_turn ..
theorem pz_succ {n : Int} (hn : n ≠ 0) (m : Mv) (h : 0 ≤ m.q ∧ m.q < 4) (z : Int) : pz n m (z + 1) = (pz n m z).then n m := by
  by_cases hz : 0 ≤ z
  · unfold pz
    rw [if_pos hz, if_pos (by omega), show (z + 1).toNat = z.toNat + 1 by omega]
    rfl
  · have key : (pw n (m.back n) ((-(z + 1)).toNat + 1)).then n m = pw n (m.back n) (-(z + 1)).toNat := by
      show ((pw n (m.back n) (-(z + 1)).toNat).then n (m.back n)).then n m = _
      rw [then_assoc hn, back_then hn m h, then_plain _ (pw_turn ..)]
    have e : (-z).toNat = (-(z + 1)).toNat + 1 := by omega
    by_cases h1 : z + 1 = 0
    · unfold pz
      rw [if_neg hz, h1, if_pos (by omega), e, key, h1]
      rfl
    · unfold pz
      rw [if_neg hz, if_neg (by omega), e, key]
theorem pz_pred {n : Int} (hn : n ≠ 0) (m : Mv) (h : 0 ≤ m.q ∧ m.q < 4) (z : Int) : pz n m (z - 1) = (pz n m z).then n (m.back n) := by
  have e := pz_succ hn m h (z - 1)
  rw [show z - 1 + 1 = z by omega] at e
  rw [e, then_assoc hn, then_back hn, then_plain _ (pz_turn ..)]
theorem pz_zero (n : Int) (m : Mv) : pz n m 0 = .plain := rfl
theorem pz_add {n : Int} (hn : n ≠ 0) (m : Mv) (h : 0 ≤ m.q ∧ m.q < 4) (a b : Int) : pz n m (a + b) = (pz n m a).then n (pz n m b) := by
  have up : ∀ j : Nat, pz n m (a + j) = (pz n m a).then n (pz n m j) := fun j => by
    induction j with
    | zero =>
      show pz n m (a + 0) = (pz n m a).then n .plain
      rw [Int.add_zero, then_plain _ (pz_turn ..)]
    | succ j ih =>
      have e1 : a + ((j + 1 : Nat) : Int) = (a + j) + 1 := by omega
      have e2 : ((j + 1 : Nat) : Int) = (j : Int) + 1 := by omega
      rw [e1, e2, pz_succ hn m h, pz_succ hn m h, ih, then_assoc hn]
  have down : ∀ j : Nat, pz n m (a - j) = (pz n m a).then n (pz n m (-(j : Int))) := fun j => by
    induction j with
    | zero =>
      show pz n m (a - 0) = (pz n m a).then n .plain
      rw [Int.sub_zero, then_plain _ (pz_turn ..)]
    | succ j ih =>
      have e1 : a - ((j + 1 : Nat) : Int) = (a - j) - 1 := by omega
      have e2 : -((j + 1 : Nat) : Int) = -(j : Int) - 1 := by omega
      rw [e1, e2, pz_pred hn m h, pz_pred hn m h, ih, then_assoc hn]
  by_cases hb : 0 ≤ b
  · have := up b.toNat
    rw [show ((b.toNat : Nat) : Int) = b by omega] at this
    exact this
  · have := down (-b).toNat
    rw [show (((-b).toNat : Nat) : Int) = -b by omega, show - -b = b by omega, show a - -b = a + b by omega] at this
    exact this
theorem pz_mul {n : Int} (hn : n ≠ 0) (m : Mv) (h : 0 ≤ m.q ∧ m.q < 4) (a b : Int) : pz n m (a * b) = pz n (pz n m a) b := by
  have hp := pz_turn n m a
  have up : ∀ j : Nat, pz n m (a * j) = pz n (pz n m a) j := fun j => by
    induction j with
    | zero =>
      show pz n m (a * 0) = _
      rw [Int.mul_zero]
      rfl
    | succ j ih =>
      have e1 : a * ((j + 1 : Nat) : Int) = a * j + a := by
        have : ((j + 1 : Nat) : Int) = (j : Int) + 1 := by omega
        rw [this, Int.mul_add, Int.mul_one]
      have e2 : ((j + 1 : Nat) : Int) = (j : Int) + 1 := by omega
      rw [e1, e2, pz_succ hn _ hp, pz_add hn m h, ih]
  have down : ∀ j : Nat, pz n m (a * -(j : Int)) = pz n (pz n m a) (-(j : Int)) := fun j => by
    induction j with
    | zero =>
      show pz n m (a * -0) = _
      rw [show a * -(0 : Int) = 0 by omega]
      rfl
    | succ j ih =>
      have e2 : -((j + 1 : Nat) : Int) = -(j : Int) - 1 := by omega
      have e1 : a * (-(j : Int) - 1) + a = a * -(j : Int) := by
        rw [Int.mul_sub, Int.mul_one]
        omega
      rw [e2, pz_pred hn _ hp, ← ih, ← e1, pz_add hn m h, then_assoc hn, then_back hn, then_plain _ (pz_turn ..)]
  by_cases hb : 0 ≤ b
  · have := up b.toNat
    rw [show ((b.toNat : Nat) : Int) = b by omega] at this
    exact this
  · have := down (-b).toNat
    rw [show (((-b).toNat : Nat) : Int) = -b by omega, show - -b = b by omega] at this
    exact this
theorem pz_neg {n : Int} (hn : n ≠ 0) (m : Mv) (h : 0 ≤ m.q ∧ m.q < 4) (z : Int) : pz n m (-z) = (pz n m z).back n := by
  have e : (pz n m z).then n (pz n m (-z)) = .plain := by
    rw [← pz_add hn m h, show z + -z = 0 by omega]
    rfl
  exact (back_uniq hn (pz_turn ..) (pz_turn ..) e).2
/-! shifts, turns -/
theorem sc1 (n : Int) : sc n 0 = 1 := sc_zero n
theorem pw_flat (n : Int) (x y : Rat) : ∀ j : Nat, pw n ⟨0, 0, x, y⟩ j = ⟨0, 0, (j : Rat) * x, (j : Rat) * y⟩
  | 0 => by
    show Mv.plain = _
    refine mv_ext rfl rfl ?_ ?_ <;> (show (0 : Rat) = _ ; simp)
  | j + 1 => by
    show (pw n ⟨0, 0, x, y⟩ j).then n ⟨0, 0, x, y⟩ = _
    rw [pw_flat n x y j]
    have r := r_zero x y
    refine mv_ext rfl rfl ?_ ?_
    · show (j : Rat) * x + sc n 0 * rx 0 x y = ((j + 1 : Nat) : Rat) * x
      rw [sc1, r.1]
      push_cast
      grind
    · show (j : Rat) * y + sc n 0 * ry 0 x y = ((j + 1 : Nat) : Rat) * y
      rw [sc1, r.2]
      push_cast
      grind
theorem pw_four {n : Int} (q : Int) (x y : Rat) (h : q = 1 ∨ q = 2 ∨ q = 3) : pw n ⟨0, q, x, y⟩ 4 = .plain := by
  rcases h with h | h | h <;> subst h <;> (simp only [pw, Mv.then, Mv.plain, sc1, rx, ry]; refine mv_ext ?_ ?_ ?_ ?_ <;> simp [sc1] <;> grind)
end VM
namespace VM
theorem pw_plain (n : Int) : ∀ j, pw n .plain j = .plain
  | 0 => rfl
  | j + 1 => by
    show (pw n .plain j).then n .plain = .plain
    rw [pw_plain n j, then_plain _ plain_turn]
theorem plain_back {n : Int} (hn : n ≠ 0) : Mv.plain.back n = .plain := (back_uniq hn plain_turn plain_turn (then_plain .plain plain_turn)).2.symm
theorem pz_plain {n : Int} (hn : n ≠ 0) (z : Int) : pz n .plain z = .plain := by
  unfold pz
  rw [plain_back hn, pw_plain, pw_plain]
  split <;> rfl
theorem pz_mod {n : Int} (hn : n ≠ 0) (m : Mv) (hk : m.k = 0) (hq : m.q = 1 ∨ m.q = 2 ∨ m.q = 3) (z : Int) : pz n m z = pw n m (z % 4).toNat := by
  have ht : 0 ≤ m.q ∧ m.q < 4 := by omega
  have four : pz n m 4 = .plain := by
    rw [show (4 : Int) = ((4 : Nat) : Int) by rfl, pz_nat]
    have := pw_four (n := n) m.q m.x m.y hq
    have e : m = ⟨0, m.q, m.x, m.y⟩ := mv_ext hk rfl rfl rfl
    rw [e]
    exact this
  have e : z = 4 * (z / 4) + z % 4 := by omega
  have e2 : pz n m (z % 4) = pw n m (z % 4).toNat := by
    unfold pz
    rw [if_pos (by omega)]
  rw [← e2]
  conv => lhs; rw [e]
  rw [pz_add hn m ht, pz_mul hn m ht, four, pz_plain hn, plain_then _ (pz_turn ..)]
/-! sizes over a common bottom -/
def Rp (n : Int) (e b : Nat) (x : Rat) : Prop := ∃ A : Int, x * sc n e = A ∧ Sz b A
theorem Rp.mono {n : Int} {e b c : Nat} {x : Rat} (h : Rp n e b x) (l : b ≤ c) : Rp n e c x := let ⟨A, h1, h2⟩ := h; ⟨A, h1, h2.mono l⟩
theorem Rp.add {n : Int} {e b : Nat} {x y : Rat} (h : Rp n e b x) (g : Rp n e b y) : Rp n e (b + 1) (x + y) := by
  obtain ⟨A, h1, h2⟩ := h
  obtain ⟨B, g1, g2⟩ := g
  refine ⟨A + B, ?_, h2.add g2⟩
  rw [Rat.intCast_add, ← h1, ← g1]
  grind
theorem Rp.neg {n : Int} {e b : Nat} {x : Rat} (h : Rp n e b x) : Rp n e b (-x) := by
  obtain ⟨A, h1, h2⟩ := h
  refine ⟨-A, ?_, h2.neg⟩
  rw [Rat.intCast_neg, ← h1]
  grind
theorem Rp.r {n : Int} {e b : Nat} {x y : Rat} (h : Rp n e b x) (g : Rp n e b y) (q : Int) : Rp n e b (rx q x y) ∧ Rp n e b (ry q x y) := by
  have := h.neg
  have := g.neg
  unfold rx ry
  constructor <;> (repeat' split) <;> grind
/-- times n to the k, over a greater bottom -/
theorem Rp.sc {n : Int} (n1 : 2 ≤ n) (n2 : n ≤ 10) {e b : Nat} {x : Rat} (h : Rp n e b x) (k : Int) (f : Nat) (hk : -(f : Int) ≤ k) : Rp n (e + f) (b + (4 * (k + f).toNat + 1)) (VM.sc n k * x) := by
  obtain ⟨A, h1, h2⟩ := h
  refine ⟨A * n ^ (k + f).toNat, ?_, h2.mul ((sz_small n1 n2).pow _)⟩
  have e1 : VM.sc n k * VM.sc n (e + f : Nat) = VM.sc n (e : Nat) * ((n ^ (k + f).toNat : Int) : Rat) := by
    rw [← sc_nat, ← sc_add (by omega), ← sc_add (by omega)]
    congr 1
    omega
  rw [Rat.intCast_mul, ← h1]
  grind
theorem Rp.szq {n : Int} (n1 : 2 ≤ n) (n2 : n ≤ 10) {e b B : Nat} {x : Rat} (h : Rp n e b x) (l1 : b ≤ B) (l2 : 4 * e + 1 ≤ B) : SzQ B x := by
  obtain ⟨A, h1, h2⟩ := h
  have p : ((n ^ e : Int) : Rat) ≠ 0 := ratNz (Int.ne_of_gt (pow_pos' (by omega) _))
  have ex : x = (A : Rat) / ((n ^ e : Int) : Rat) := by
    rw [sc_nat] at h1
    grind
  rw [ex]
  exact szq_div (pow_pos' (by omega) _) (h2.mono l1) (((sz_small n1 n2).pow e).mono l2)
theorem Rp.fit {n : Int} {e b : Nat} {x y : Rat} (h : Rp n e b x) (g : Rp n e b y) : Fit n x y := let ⟨A, h1, _⟩ := h; let ⟨B, g1, _⟩ := g; ⟨e, A, B, h1, g1⟩
theorem pw_k (n : Int) (m : Mv) : ∀ j : Nat, (pw n m j).k = j * m.k
  | 0 => by show (0 : Int) = ((0 : Nat) : Int) * m.k; simp
  | j + 1 => by
    show (pw n m j).k + m.k = _
    rw [pw_k n m j]
    push_cast
    rw [Int.add_mul, Int.one_mul]
/-- the middle of a move done j times, j at most J -/
theorem pw_rp {n : Int} (n1 : 2 ≤ n) (n2 : n ≤ 10) {m : Mv} {e b J : Nat} (h : Rp n e b m.x) (g : Rp n e b m.y) : ∀ j : Nat, j ≤ J → Rp n (e + J * m.k.natAbs) (b + (4 * (2 * (J * m.k.natAbs)) + 1) + j) (pw n m j).x ∧ Rp n (e + J * m.k.natAbs) (b + (4 * (2 * (J * m.k.natAbs)) + 1) + j) (pw n m j).y
  | 0, _ => by
    have z : Rp n (e + J * m.k.natAbs) (b + (4 * (2 * (J * m.k.natAbs)) + 1) + 0) (0 : Rat) := ⟨0, by simp, by unfold Sz; simp [Nat.pow_pos]⟩
    exact ⟨z, z⟩
  | j + 1, hj => by
    have ih := pw_rp (J := J) n1 n2 h g j (by omega)
    have r := Rp.r h g (pw n m j).q
    have kj : (pw n m j).k.natAbs ≤ J * m.k.natAbs := by
      rw [pw_k, Int.natAbs_mul, Int.natAbs_natCast]
      exact Nat.mul_le_mul_right _ (by omega)
    have t1 := r.1.sc n1 n2 (pw n m j).k (J * m.k.natAbs) (by omega)
    have t2 := r.2.sc n1 n2 (pw n m j).k (J * m.k.natAbs) (by omega)
    have l : b + (4 * ((pw n m j).k + ((J * m.k.natAbs : Nat) : Int)).toNat + 1) ≤ b + (4 * (2 * (J * m.k.natAbs)) + 1) + j := by omega
    exact ⟨ih.1.add (t1.mono l), ih.2.add (t2.mono l)⟩
end VM
namespace VM
theorem Rp.up {n : Int} (n1 : 2 ≤ n) (n2 : n ≤ 10) {e b : Nat} {x : Rat} (h : Rp n e b x) (f : Nat) : Rp n (e + f) (b + (4 * f + 1)) x := by
  have t := Rp.sc n1 n2 h 0 f (by omega)
  rw [show ((0 : Int) + (f : Int)).toNat = f by omega, show VM.sc n 0 = 1 from sc1 n, Rat.one_mul] at t
  exact t
theorem Rp.to {n : Int} (n1 : 2 ≤ n) (n2 : n ≤ 10) {e b e' b' : Nat} {x : Rat} (h : Rp n e b x) (l1 : e ≤ e') (l2 : b + 4 * (e' - e) + 1 ≤ b') : Rp n e' b' x := by
  have t := h.up n1 n2 (e' - e)
  rw [show e + (e' - e) = e' by omega] at t
  exact t.mono (by omega)
/-- a move over a common bottom -/
structure Rm (n : Int) (c e b : Nat) (m : Mv) : Prop where
  k : m.k.natAbs ≤ c
  q1 : 0 ≤ m.q
  q2 : m.q < 4
  x : Rp n e b m.x
  y : Rp n e b m.y
theorem Rm.back {n : Int} (n1 : 2 ≤ n) (n2 : n ≤ 10) {c e b : Nat} {m : Mv} (h : Rm n c e b m) : Rm n c (e + c) (b + (8 * c + 1)) (m.back n) := by
  have hk := h.k
  have r := Rp.r h.x h.y (-m.q)
  have t1 := r.1.sc n1 n2 (-m.k) c (by omega)
  have t2 := r.2.sc n1 n2 (-m.k) c (by omega)
  refine ⟨?_, (back_turn n m).1, (back_turn n m).2, (t1.mono (by omega)).neg, (t2.mono (by omega)).neg⟩
  show (-m.k).natAbs ≤ _
  omega
theorem Rm.pw {n : Int} (n1 : 2 ≤ n) (n2 : n ≤ 10) {c e b J j : Nat} {m : Mv} (h : Rm n c e b m) (hj : j ≤ J) : Rm n (J * c) (e + J * c) (b + 8 * (J * c) + J + 2) (VM.pw n m j) := by
  have t := pw_rp (J := J) n1 n2 h.x h.y j hj
  have l : J * m.k.natAbs ≤ J * c := Nat.mul_le_mul_left _ h.k
  refine ⟨?_, (pw_turn n m j).1, (pw_turn n m j).2, t.1.to n1 n2 (by omega) (by omega), t.2.to n1 n2 (by omega) (by omega)⟩
  rw [pw_k, Int.natAbs_mul, Int.natAbs_natCast]
  exact Nat.mul_le_mul hj h.k
theorem Rm.pz {n : Int} (n1 : 2 ≤ n) (n2 : n ≤ 10) {c e b J : Nat} {j : Int} {m : Mv} (h : Rm n c e b m) (hj : j.natAbs ≤ J) : Rm n (J * c) (e + c + J * c) (b + 8 * c + 8 * (J * c) + J + 3) (VM.pz n m j) := by
  unfold VM.pz
  split
  · have t := h.pw n1 n2 (J := J) (j := j.toNat) (by omega)
    exact ⟨t.k, t.q1, t.q2, t.x.to n1 n2 (by omega) (by omega), t.y.to n1 n2 (by omega) (by omega)⟩
  · have t := (h.back n1 n2).pw n1 n2 (J := J) (j := (-j).toNat) (by omega)
    exact ⟨t.k, t.q1, t.q2, t.x.mono (by omega), t.y.mono (by omega)⟩
end VM
namespace VM
/-! ## The point that stays -/
theorem sc_pos {n : Int} (h : 0 < n) (k : Int) : 0 < sc n k := by
  have pos : ∀ e : Nat, (0 : Rat) < ((n ^ e : Int) : Rat) := fun e => by
    have := pow_pos' h e
    exact_mod_cast this
  by_cases hk : 0 ≤ k
  · rw [sc_nonneg hk]
    exact pos _
  · rw [sc_neg_eq (by omega) (by omega), Rat.div_def, Rat.one_mul]
    exact Rat.inv_pos.mpr (pos _)
theorem pow_two_le {n : Int} (h : 2 ≤ n) : ∀ e : Nat, 0 < e → 2 ≤ n ^ e
  | 0, z => absurd z (by decide)
  | e + 1, _ => by
    have p := pow_pos' (n := n) (by omega) e
    rw [Int.pow_succ]
    have : 1 * 2 ≤ n ^ e * n := Int.mul_le_mul (by omega) h (by decide) (by omega)
    omega
theorem sc_one {n k : Int} (h : 2 ≤ n) (e : sc n k = 1) : k = 0 := by
  have up : ∀ j : Int, 0 < j → sc n j ≠ 1 := fun j hj q => by
    rw [sc_nonneg (by omega)] at q
    have := pow_two_le h j.toNat (by omega)
    have : n ^ j.toNat = 1 := by exact_mod_cast q
    omega
  by_cases h1 : 0 < k
  · exact absurd e (up k h1)
  · by_cases h2 : k = 0
    · exact h2
    · have := sc_neg (n := n) (by omega) k
      rw [e, Rat.mul_one] at this
      exact absurd this (up (-k) (by omega))
theorem rsq (x : Rat) : 0 ≤ x * x := by
  rcases Rat.le_total (a := 0) (b := x) with h | h
  · exact Rat.mul_nonneg h h
  · have : 0 ≤ -x := by grind
    have := Rat.mul_nonneg this this
    grind
theorem rsq0 {x y : Rat} (h : x * x + y * y = 0) : x = 0 ∧ y = 0 := by
  have hx := rsq x
  have hy := rsq y
  have h1 : x * x = 0 := by grind
  have h2 : y * y = 0 := by grind
  exact ⟨by rcases Rat.mul_eq_zero.mp h1 with h | h <;> exact h, by rcases Rat.mul_eq_zero.mp h2 with h | h <;> exact h⟩
/-- 1 less what a move multiplies by -/
def lsx (n : Int) (m : Mv) : Rat := 1 - sc n m.k * rx m.q 1 0
def lsy (n : Int) (m : Mv) : Rat := -(sc n m.k * ry m.q 1 0)
def Ml (m : Mv) : Prop := m.k ≠ 0 ∨ m.q ≠ 0
theorem ls_nz {n : Int} (hn : 2 ≤ n) {m : Mv} (q1 : 0 ≤ m.q) (q2 : m.q < 4) (h : Ml m) : lsx n m * lsx n m + lsy n m * lsy n m ≠ 0 := fun z => by
  obtain ⟨z1, z2⟩ := rsq0 z
  have p := sc_pos (n := n) (by omega) m.k
  unfold lsx lsy rx ry at *
  have : m.q = 0 ∨ m.q = 1 ∨ m.q = 2 ∨ m.q = 3 := by omega
  rcases this with hq | hq | hq | hq <;> rw [hq] at z1 z2 <;> simp at z1 z2
  · have := sc_one (n := n) (k := m.k) hn (by grind)
    rcases h with h | h <;> contradiction
  · grind
  · grind
  · grind
/-- a point stays with a move -/
def St (n : Int) (m : Mv) (x y : Rat) : Prop := m.x + sc n m.k * rx m.q x y = x ∧ m.y + sc n m.k * ry m.q x y = y
theorem cm (n k q : Int) (x y : Rat) : sc n k * rx q x y = sc n k * rx q 1 0 * x - sc n k * ry q 1 0 * y ∧ sc n k * ry q x y = sc n k * rx q 1 0 * y + sc n k * ry q 1 0 * x := by
  rcases four q with h | h | h | h <;> (unfold rx ry; rw [h]; constructor <;> simp <;> grind)
theorem st_iff {n : Int} {m : Mv} {x y : Rat} : St n m x y ↔ m.x = lsx n m * x - lsy n m * y ∧ m.y = lsx n m * y + lsy n m * x := by
  unfold St lsx lsy
  rw [(cm n m.k m.q x y).1, (cm n m.k m.q x y).2]
  constructor
  · rintro ⟨h1, h2⟩
    constructor <;> grind
  · rintro ⟨h1, h2⟩
    constructor <;> grind
theorem st_at {n : Int} {m : Mv} (h : lsx n m * lsx n m + lsy n m * lsy n m ≠ 0) : St n m ((m.x * lsx n m + m.y * lsy n m) / (lsx n m * lsx n m + lsy n m * lsy n m)) ((m.y * lsx n m - m.x * lsy n m) / (lsx n m * lsx n m + lsy n m * lsy n m)) := by
  rw [st_iff]
  generalize lsx n m = u at *
  generalize lsy n m = v at *
  constructor <;> grind
theorem st_uniq {n : Int} {m : Mv} (h : lsx n m * lsx n m + lsy n m * lsy n m ≠ 0) {x y z w : Rat} (a : St n m x y) (b : St n m z w) : x = z ∧ y = w := by
  rw [st_iff] at a b
  generalize lsx n m = u at *
  generalize lsy n m = v at *
  obtain ⟨a1, a2⟩ := a
  obtain ⟨b1, b2⟩ := b
  have e1 : (u * u + v * v) * (x - z) = 0 := by grind
  have e2 : (u * u + v * v) * (y - w) = 0 := by grind
  constructor
  · rcases Rat.mul_eq_zero.mp e1 with q | q
    · exact absurd q h
    · grind
  · rcases Rat.mul_eq_zero.mp e2 with q | q
    · exact absurd q h
    · grind
/-- the move with a scale about a point -/
theorem st_about (n k q : Int) (x y : Rat) : St n ⟨k, q, x - sc n k * rx q x y, y - sc n k * ry q x y⟩ x y := by
  constructor
  · show x - sc n k * rx q x y + sc n k * rx q x y = x
    grind
  · show y - sc n k * ry q x y + sc n k * ry q x y = y
    grind
theorem St.then {n : Int} (hn : n ≠ 0) {a b : Mv} {x y z w : Rat} (h : b.x + sc n b.k * rx b.q x y = z ∧ b.y + sc n b.k * ry b.q x y = w) : (a.then n b).x + sc n (a.then n b).k * rx (a.then n b).q x y = a.x + sc n a.k * rx a.q z w ∧ (a.then n b).y + sc n (a.then n b).k * ry (a.then n b).q x y = a.y + sc n a.k * ry a.q z w := by
  obtain ⟨h1, h2⟩ := h
  subst h1 h2
  unfold Mv.then
  simp only []
  rw [rx_mod, ry_mod, sc_add hn, (r_add a.q b.q x y).1, (r_add a.q b.q x y).2, (r_lin a.q b.x b.y _ _ _).1, (r_lin a.q b.x b.y _ _ _).2]
  constructor <;> grind
theorem St.pw {n : Int} (hn : n ≠ 0) {m : Mv} {x y : Rat} (h : St n m x y) : ∀ j, St n (pw n m j) x y
  | 0 => by
    unfold St
    show (0 : Rat) + sc n 0 * rx 0 x y = x ∧ (0 : Rat) + sc n 0 * ry 0 x y = y
    rw [sc_zero, (r_zero x y).1, (r_zero x y).2]
    constructor <;> grind
  | j + 1 => by
    have t := St.then hn (a := VM.pw n m j) (b := m) (z := x) (w := y) h
    have ih := St.pw hn h j
    exact ⟨t.1.trans ih.1, t.2.trans ih.2⟩
theorem plain_at (n : Int) (x y : Rat) : Mv.plain.x + sc n Mv.plain.k * rx Mv.plain.q x y = x ∧ Mv.plain.y + sc n Mv.plain.k * ry Mv.plain.q x y = y := by
  show (0 : Rat) + sc n 0 * rx 0 x y = x ∧ (0 : Rat) + sc n 0 * ry 0 x y = y
  rw [sc_zero, (r_zero x y).1, (r_zero x y).2]
  constructor <;> grind
theorem St.back {n : Int} (hn : n ≠ 0) {m : Mv} (q : 0 ≤ m.q ∧ m.q < 4) {x y : Rat} (h : St n m x y) : St n (m.back n) x y := by
  have t := St.then hn (a := m.back n) (b := m) (z := x) (w := y) h
  rw [back_then hn m q, (plain_at n x y).1, (plain_at n x y).2] at t
  exact ⟨t.1.symm, t.2.symm⟩
/-- what stays, moved by another move -/
theorem St.conj {n : Int} (hn : n ≠ 0) {g m : Mv} (q : 0 ≤ g.q ∧ g.q < 4) {x y : Rat} (h : St n m x y) : St n ((g.then n m).then n (g.back n)) (g.x + sc n g.k * rx g.q x y) (g.y + sc n g.k * ry g.q x y) := by
  have t := St.then hn (a := g.back n) (b := g) (x := x) (y := y) ⟨rfl, rfl⟩
  rw [back_then hn g q, (plain_at n x y).1, (plain_at n x y).2] at t
  have u := St.then hn (a := g) (b := m) (z := x) (w := y) h
  exact St.then hn (a := g.then n m) (b := g.back n) (x := g.x + sc n g.k * rx g.q x y) (y := g.y + sc n g.k * ry g.q x y) (z := x) (w := y) ⟨t.1.symm, t.2.symm⟩ |>.imp (fun e => e.trans u.1) (fun e => e.trans u.2)
end VM
namespace VM
/-! ## Orders -/
theorem pw_q (n : Int) (m : Mv) : ∀ j : Nat, (pw n m j).q = (j * m.q) % 4
  | 0 => by show (0 : Int) = ((0 : Nat) : Int) * m.q % 4; simp
  | j + 1 => by
    show ((pw n m j).q + m.q) % 4 = _
    rw [pw_q n m j]
    have e : ((j + 1 : Nat) : Int) * m.q = (j : Int) * m.q + m.q := by
      push_cast
      rw [Int.add_mul, Int.one_mul]
    rw [e]
    omega
theorem pw_two (n : Int) (x y : Rat) : pw n ⟨0, 2, x, y⟩ 2 = .plain := by
  simp only [pw, Mv.then, Mv.plain, sc1, rx, ry]
  refine mv_ext ?_ ?_ ?_ ?_ <;> simp [sc1] <;> grind
def ordO (m : Mv) : Option Nat := if m.k ≠ 0 then none else if m.q = 0 then (if m.x = 0 ∧ m.y = 0 then some 1 else none) else if m.q = 2 then some 2 else some 4
theorem ord_some {n : Int} {m : Mv} (h : 0 ≤ m.q ∧ m.q < 4) {o : Nat} (e : ordO m = some o) : 1 ≤ o ∧ o ≤ 4 ∧ pw n m o = .plain ∧ ∀ j, 1 ≤ j → j < o → pw n m j ≠ .plain := by
  unfold ordO at e
  split at e
  · cases e
  · rename_i hk
    have hk0 : m.k = 0 := by omega
    split at e
    · rename_i hq
      split at e
      · rename_i hz
        cases e
        refine ⟨by decide, by decide, ?_, fun j a b => by omega⟩
        rw [pw_one n m h]
        exact mv_ext hk0 hq hz.1 hz.2
      · cases e
    · rename_i hq
      split at e
      · rename_i h2
        cases e
        refine ⟨by decide, by decide, ?_, fun j a b p => ?_⟩
        · have em : m = ⟨0, 2, m.x, m.y⟩ := mv_ext hk0 h2 rfl rfl
          rw [em]
          exact pw_two n m.x m.y
        · have : j = 1 := by omega
          subst this
          have q := pw_q n m 1
          rw [p, h2] at q
          exact absurd q (by decide)
      · rename_i h2
        cases e
        refine ⟨by decide, by decide, ?_, fun j a b p => ?_⟩
        · have em : m = ⟨0, m.q, m.x, m.y⟩ := mv_ext hk0 rfl rfl rfl
          rw [em]
          exact pw_four m.q m.x m.y (by omega)
        · have q := pw_q n m j
          rw [p] at q
          have q' : (0 : Int) = (j * m.q) % 4 := q
          have : m.q = 1 ∨ m.q = 3 := by omega
          have : j = 1 ∨ j = 2 ∨ j = 3 := by omega
          rcases ‹m.q = 1 ∨ m.q = 3› with hq | hq <;> rcases this with hj | hj | hj <;> (subst hj; rw [hq] at q'; exact absurd q' (by decide))
theorem ord_none {n : Int} {m : Mv} (h : 0 ≤ m.q ∧ m.q < 4) (e : ordO m = none) (j : Nat) (hj : 1 ≤ j) : pw n m j ≠ .plain := fun p => by
  unfold ordO at e
  split at e
  · rename_i hk
    have k := pw_k n m j
    rw [p] at k
    have k' : (0 : Int) = j * m.k := k
    have : (j : Int) * m.k ≠ 0 := Int.mul_ne_zero (by omega) hk
    omega
  · rename_i hk
    have hk0 : m.k = 0 := by omega
    split at e
    · rename_i hq
      split at e
      · cases e
      · rename_i hz
        have em : m = ⟨0, 0, m.x, m.y⟩ := mv_ext hk0 hq rfl rfl
        rw [em, pw_flat] at p
        have jz : (j : Rat) ≠ 0 := by
          intro z
          have : j = 0 := by exact_mod_cast z
          omega
        have ex : (j : Rat) * m.x = 0 := congrArg Mv.x p
        have ey : (j : Rat) * m.y = 0 := congrArg Mv.y p
        rcases Rat.mul_eq_zero.mp ex with z | z
        · exact jz z
        · rcases Rat.mul_eq_zero.mp ey with z' | z'
          · exact jz z'
          · exact hz ⟨z, z'⟩
    · split at e <;> cases e
theorem ord_least {n : Int} {m : Mv} (h : 0 ≤ m.q ∧ m.q < 4) {i : Nat} (i1 : 1 ≤ i) (p : pw n m i = .plain) (l : ∀ j, 1 ≤ j → j < i → pw n m j ≠ .plain) : ordO m = some i := by
  cases e : ordO m with
  | none => exact absurd p (ord_none h e i i1)
  | some o =>
    obtain ⟨o1, _, op, ol⟩ := ord_some (n := n) h e
    have : o = i := by
      rcases Nat.lt_trichotomy o i with z | z | z
      · exact absurd op (l o o1 z)
      · exact z
      · exact absurd p (ol i i1 z)
    rw [this]
theorem ord_over {n : Int} {m : Mv} (h : 0 ≤ m.q ∧ m.q < 4) (l : ∀ j, 1 ≤ j → j ≤ 8 → pw n m j ≠ .plain) : ordO m = none := by
  cases e : ordO m with
  | none => rfl
  | some o =>
    obtain ⟨o1, o4, op, _⟩ := ord_some (n := n) h e
    exact absurd op (l o o1 (by omega))
theorem ord_same {n : Int} {a b : Mv} (ha : 0 ≤ a.q ∧ a.q < 4) (hb : 0 ≤ b.q ∧ b.q < 4) (e : ∀ j, pw n a j = .plain ↔ pw n b j = .plain) : ordO a = ordO b := by
  cases ea : ordO a with
  | none => exact (ord_over (n := n) hb fun j h1 _ p => ord_none ha ea j h1 ((e j).mpr p)).symm
  | some o =>
    obtain ⟨o1, o4, op, ol⟩ := ord_some (n := n) ha ea
    exact (ord_least hb o1 ((e o).mp op) fun j h1 h2 p => ol j h1 h2 ((e j).mpr p)).symm
theorem ord_back {n : Int} (hn : n ≠ 0) {m : Mv} (h : 0 ≤ m.q ∧ m.q < 4) : ordO (m.back n) = ordO m := ord_same (n := n) (back_turn n m) h fun j => by
  rw [pw_back hn m h]
  constructor
  · intro p
    have := back_back hn _ (pw_turn n m j)
    rw [p, plain_back hn] at this
    exact this.symm
  · intro p
    rw [p]
    exact plain_back hn
theorem pw_conj {n : Int} (hn : n ≠ 0) {g m : Mv} (hg : 0 ≤ g.q ∧ g.q < 4) : ∀ j, pw n ((g.then n m).then n (g.back n)) j = (g.then n (pw n m j)).then n (g.back n)
  | 0 => by
    show Mv.plain = (g.then n .plain).then n (g.back n)
    rw [then_plain g hg, then_back hn]
  | j + 1 => by
    show (pw n ((g.then n m).then n (g.back n)) j).then n ((g.then n m).then n (g.back n)) = (g.then n ((pw n m j).then n m)).then n (g.back n)
    rw [pw_conj hn hg j, ← then_assoc hn, ← then_assoc hn, then_assoc hn _ (g.back n) g, back_then hn g hg, then_plain _ (then_turn ..), then_assoc hn g]
theorem ord_conj {n : Int} (hn : n ≠ 0) {g m : Mv} (hg : 0 ≤ g.q ∧ g.q < 4) (hm : 0 ≤ m.q ∧ m.q < 4) : ordO ((g.then n m).then n (g.back n)) = ordO m := ord_same (n := n) (then_turn ..) hm fun j => by
  rw [pw_conj hn hg]
  constructor
  · intro p
    have e : (g.back n).then n (((g.then n (pw n m j)).then n (g.back n)).then n g) = pw n m j := by
      rw [then_assoc hn _ (g.back n) g, back_then hn g hg, then_plain _ (then_turn ..), ← then_assoc hn, back_then hn g hg, plain_then _ (pw_turn ..)]
    rw [p, plain_then g hg, back_then hn g hg] at e
    exact e.symm
  · intro p
    rw [p, then_plain g hg, then_back hn]
end VM
namespace VM
/-! ## Moves that commute -/
instance : DecidableEq Mv := fun a b => decidable_of_iff (a.k = b.k ∧ a.q = b.q ∧ a.x = b.x ∧ a.y = b.y) ⟨fun h => mv_ext h.1 h.2.1 h.2.2.1 h.2.2.2, fun h => by subst h; exact ⟨rfl, rfl, rfl, rfl⟩⟩
def heX (n : Int) (m m' : Mv) : Rat := lsx n m' * m.x - lsy n m' * m.y
def heY (n : Int) (m m' : Mv) : Rat := lsx n m' * m.y + lsy n m' * m.x
theorem then_x (n : Int) (m m' : Mv) : (m.then n m').x = m.x + m'.x - heX n m' m ∧ (m.then n m').y = m.y + m'.y - heY n m' m := by
  unfold Mv.then heX heY lsx lsy
  simp only []
  rw [(cm n m.k m.q m'.x m'.y).1, (cm n m.k m.q m'.x m'.y).2]
  constructor <;> grind
theorem comm_iff (n : Int) (m m' : Mv) : (m.then n m' = m'.then n m) ↔ (heX n m m' = heX n m' m ∧ heY n m m' = heY n m' m) := by
  have a := then_x n m m'
  have b := then_x n m' m
  constructor
  · intro e
    rw [e] at a
    constructor <;> grind
  · rintro ⟨h1, h2⟩
    refine mv_ext ?_ ?_ ?_ ?_
    · show m.k + m'.k = m'.k + m.k
      omega
    · show (m.q + m'.q) % 4 = (m'.q + m.q) % 4
      rw [Int.add_comm]
    · rw [a.1, b.1]
      grind
    · rw [a.2, b.2]
      grind
end VM

set_option Elab.async false
set_option linter.all false
set_option maxRecDepth 100000
set_option maxHeartbeats 4000000
namespace G
variable [VL.Tb]
open PySem L2 VL VM
def top (i : Nat) : Stmt := PySem.Challenge.pw_viewlots_k01_limits_and_errors.main.body.getD i (.Pass ⟨0, 0, 0, 0⟩)
def inner : Stmt → List Stmt
  | .ClassDef _ _ _ b _ _ _ _ _ _ _ => b
  | _ => []
def meth (i j : Nat) : Stmt := (inner (top i)).getD j (.Pass ⟨0, 0, 0, 0⟩)
/-- the built-in names that the text leaves alone -/
structure Bt (mg : Str → Option Value) : Prop where
  isi : mg "isinstance" = none
  int : mg "int" = none
  bool : mg "bool" = none
  tuple : mg "tuple" = none
  str : mg "str" = none
  len : mg "len" = none
  abs : mg "abs" = none
  all : mg "all" = none
  range : mg "range" = none
  max : mg "max" = none
  min : mg "min" = none
  divmod : mg "divmod" = none
theorem mulSz {B C : Nat} {i j : Int} (h : Sz B i) (g : Sz C j) (l : B + C < 1000000 := by omega) : MulOk i j := .inr (by
  have := h.log
  have := g.log
  show i.natAbs.log2 + j.natAbs.log2 < 1000000
  omega)
theorem divSz {B : Nat} {i j : Int} (h : 0 < j) (g : Sz B j) (l : B < 9000 := by omega) : CDivW i j := ⟨h, by have := g.log; omega⟩
local macro_rules | `(tactic| mi_while ["vl var"] []) => `(tactic| first | refine xe_var 0 rfl ?_ | refine xe_var 1 rfl ?_ | refine xe_var 2 rfl ?_ | refine xe_var 3 rfl ?_ | refine xe_var 4 rfl ?_ | refine xe_var 5 rfl ?_ | refine xe_var 6 rfl ?_ | refine xe_var 7 rfl ?_ | refine xe_var 8 rfl ?_ | refine xe_var 9 rfl ?_ | refine xe_var 10 rfl ?_ | refine xe_var 11 rfl ?_ | refine xe_var 12 rfl ?_ | refine xe_var 13 rfl ?_ | refine xe_var 14 rfl ?_ | refine xe_var 15 rfl ?_ | refine xe_var 16 rfl ?_)
local macro_rules | `(tactic| mi_while ["vl exp"] []) => `(tactic| first
  | refine ⟨_, rfl, ?_⟩ | refine ⟨rfl, ?_⟩ | refine ⟨Nat.le_of_ble_eq_true rfl, ?_⟩
  | mi_while ["vl var"] []
  | refine xe_int ?_ | refine xe_str ?_ | refine xe_bl ?_ | refine xe_non ?_
  | refine xe_ixL (XN.rd (xn_lst ?_)) | refine xe_ixT ?_ | refine xe_add ?_ | refine xe_mul ?_ | refine xe_sub ?_ | refine xe_div ?_ | refine xe_mod ?_ | refine xe_neg ?_
  | refine ⟨mulSz (by assumption) (by assumption), ?_⟩ | refine ⟨divSz (by assumption) (by assumption), ?_⟩
  | refine xt_gt ?_ | refine xt_lt ?_ | refine xt_le ?_ | refine xt_ge ?_ | refine xe_gt ?_ | refine xe_lt ?_ | refine xe_le ?_ | refine xe_ge ?_
  | refine xe_if ?_ | refine xe_tup ?_ | refine xa_cons ?_ | refine xa_nil ?_
  | refine XN.data (xn_lst ?_) | refine xn_lst ?_
  | (refine' xe_call ?hF ?hR ?hA ?hN; (case hF => assumption); (case hR => assumption); (case hN => decide)))
local macro_rules | `(tactic| mi_while ["vl set"] []) => `(tactic| first | refine xb_cons (xs_set 0 ?_ (by assumption)) | refine xb_cons (xs_set 1 ?_ (by assumption)) | refine xb_cons (xs_set 2 ?_ (by assumption)) | refine xb_cons (xs_set 3 ?_ (by assumption)) | refine xb_cons (xs_set 4 ?_ (by assumption)) | refine xb_cons (xs_set 5 ?_ (by assumption)) | refine xb_cons (xs_set 6 ?_ (by assumption)) | refine xb_cons (xs_set 7 ?_ (by assumption)) | refine xb_cons (xs_set 8 ?_ (by assumption)) | refine xb_cons (xs_set 9 ?_ (by assumption)) | refine xb_cons (xs_set 10 ?_ (by assumption)) | refine xb_cons (xs_set 11 ?_ (by assumption)) | refine xb_cons (xs_set 12 ?_ (by assumption)))
local macro_rules | `(tactic| mi_while ["vl tg"] []) => `(tactic| first | refine xgs_nil ?_ | refine xgs_cons ?_ | refine xg_tup ?_ rfl | refine xg_lst ?_ rfl | refine xg_name 0 ?_ (by assumption) | refine xg_name 1 ?_ (by assumption) | refine xg_name 2 ?_ (by assumption) | refine xg_name 3 ?_ (by assumption) | refine xg_name 4 ?_ (by assumption) | refine xg_name 5 ?_ (by assumption) | refine xg_name 6 ?_ (by assumption) | refine xg_name 7 ?_ (by assumption) | refine xg_name 8 ?_ (by assumption))
local macro_rules | `(tactic| mi_while ["vl st"] []) => `(tactic| first
  | refine xb_cons (xs_ret ?_)
  | mi_while ["vl set"] []
  | mi_while ["vl tg"] []
  | refine xb_cons (xs_asg (tg := .Tuple _ _ _) ?_)
  | refine xb_nil ?_)
local macro_rules | `(tactic| mi_while ["vl"] []) => `(tactic| repeat (first | mi_while ["vl exp"] [] | mi_while ["vl st"] []))
abbrev triD (a b c : Int) : D := .tup [.int a, .int b, .int c]
abbrev frD (x : Rat) : D := .tup [.int x.num, .int x.den]
abbrev ptD (x y : Rat) : D := .tup [frD x, frD y]
def cShared : Con := fun ds k => ∃ a b : Int, ds = [.int a, .int b] ∧ k (.int (Int.gcd a b))
section
variable {P : Program} {w : World} {K : PySem.W.Frag} {mg : Str → Option Value} {base : Heap} {f : Addr} {fd : FuncData}
/-! made -/
theorem gcd_pos {a b c : Int} (h : 0 < c) : 0 < (Int.gcd (Int.gcd a b) c : Int) := by
  have := gcd3_ne (a := a) (b := b) (c := c) (by omega)
  omega
def cMade : Con := fun ds k => ∃ (a b c : Int) (B : Nat), ds = [.int a, .int b, .int c] ∧ 0 < c ∧ Sz3 B a b c ∧ B < 9000 ∧ ∀ a' b' c', IsTri ((a : Rat) / c) ((b : Rat) / c) a' b' c' → Sz3 B a' b' c' → k (triD a' b' c')
/-! number_of -/
def cNum : Con := fun ds k => ∃ (x y : Rat) (B : Nat), ds = [ptD x y] ∧ SzQ B x ∧ SzQ B y ∧ B < 4400 ∧ ∀ a b c, IsTri x y a b c → Sz3 (B + B) a b c → k (triD a b c)
theorem num_cross (x y : Rat) : ((x.num * y.den : Int) : Rat) / ((x.den * y.den : Int) : Rat) = x ∧ ((y.num * x.den : Int) : Rat) / ((x.den * y.den : Int) : Rat) = y := by
  have h1 := num_eq x
  have h2 := num_eq y
  have h3 := den_nz x
  have h4 := den_nz y
  push_cast
  rw [h1, h2]
  constructor <;> grind
/-! part_of, point_of -/
def cPart : Con := fun ds k => ∃ (a c : Int) (B : Nat), ds = [.int a, .int c] ∧ 0 < c ∧ Sz B c ∧ B < 9000 ∧ k (frD ((a : Rat) / c))
def cPt : Con := fun ds k => ∃ (x y : Rat) (a b c : Int) (B : Nat), ds = [triD a b c] ∧ IsTri x y a b c ∧ Sz B c ∧ B < 9000 ∧ k (ptD x y)
/-! added, times, minus -/
def cAdd : Con := fun ds k => ∃ (x y z w : Rat) (a b c a' b' c' : Int) (B C : Nat), ds = [triD a b c, triD a' b' c'] ∧ IsTri x y a b c ∧ IsTri z w a' b' c' ∧ Sz3 B a b c ∧ Sz3 C a' b' c' ∧ B + C < 8990 ∧ ∀ p q r, IsTri (x + z) (y + w) p q r → Sz3 (B + C + 1) p q r → k (triD p q r)
theorem add_cross {x y z w : Rat} {a b c a' b' c' : Int} (t : IsTri x y a b c) (u : IsTri z w a' b' c') : ((a * c' + a' * c : Int) : Rat) / ((c * c' : Int) : Rat) = x + z ∧ ((b * c' + b' * c : Int) : Rat) / ((c * c' : Int) : Rat) = y + w := by
  have h1 := t.ea
  have h2 := t.eb
  have h3 := u.ea
  have h4 := u.eb
  have h5 := ratNz (Int.ne_of_gt t.pos)
  have h6 := ratNz (Int.ne_of_gt u.pos)
  push_cast
  rw [h1, h2, h3, h4]
  constructor <;> grind
def cTimes : Con := fun ds k => ∃ (x y z w : Rat) (a b c a' b' c' : Int) (B C : Nat), ds = [triD a b c, triD a' b' c'] ∧ IsTri x y a b c ∧ IsTri z w a' b' c' ∧ Sz3 B a b c ∧ Sz3 C a' b' c' ∧ B + C < 8990 ∧ ∀ p q r, IsTri (x * z - y * w) (x * w + y * z) p q r → Sz3 (B + C + 1) p q r → k (triD p q r)
theorem mul_cross {x y z w : Rat} {a b c a' b' c' : Int} (t : IsTri x y a b c) (u : IsTri z w a' b' c') : ((a * a' - b * b' : Int) : Rat) / ((c * c' : Int) : Rat) = x * z - y * w ∧ ((a * b' + b * a' : Int) : Rat) / ((c * c' : Int) : Rat) = x * w + y * z := by
  have h1 := t.ea
  have h2 := t.eb
  have h3 := u.ea
  have h4 := u.eb
  have h5 := ratNz (Int.ne_of_gt t.pos)
  have h6 := ratNz (Int.ne_of_gt u.pos)
  push_cast
  rw [h1, h2, h3, h4]
  constructor <;> grind
def cMinus : Con := fun ds k => ∃ (a b c : Int), ds = [triD a b c] ∧ k (triD (-a) (-b) c)
theorem tri_neg {x y : Rat} {a b c : Int} (t : IsTri x y a b c) : IsTri (-x) (-y) (-a) (-b) c := ⟨t.pos, by rw [Rat.intCast_neg, t.ea]; grind, by rw [Rat.intCast_neg, t.eb]; grind, by have := t.one; rw [Int.gcd_neg, Int.neg_gcd]; exact this⟩
/-! power -/
def cPower : Con := fun ds k => ∃ (n : Int) (e : Nat), ds = [.int n, .int e] ∧ Sz 60 n ∧ e < 2 ^ 61 ∧ k (.int (n ^ e))
theorem mulL {i j : Int} (h : Sz 60 j) : MulOk i j := .inl (.inr (by unfold Sz at h; omega))
end
end G

set_option Elab.async false
set_option linter.all false
set_option maxRecDepth 100000
set_option maxHeartbeats 4000000
namespace G
variable [VL.Tb]
open PySem L2 VL VM
local macro_rules | `(tactic| mi_while ["vl var"] []) => `(tactic| first | refine xe_var 0 rfl ?_ | refine xe_var 1 rfl ?_ | refine xe_var 2 rfl ?_ | refine xe_var 3 rfl ?_ | refine xe_var 4 rfl ?_ | refine xe_var 5 rfl ?_ | refine xe_var 6 rfl ?_ | refine xe_var 7 rfl ?_ | refine xe_var 8 rfl ?_ | refine xe_var 9 rfl ?_ | refine xe_var 10 rfl ?_ | refine xe_var 11 rfl ?_ | refine xe_var 12 rfl ?_ | refine xe_var 13 rfl ?_ | refine xe_var 14 rfl ?_ | refine xe_var 15 rfl ?_ | refine xe_var 16 rfl ?_)
local macro_rules | `(tactic| mi_while ["vl exp"] []) => `(tactic| first
  | refine ⟨_, rfl, ?_⟩ | refine ⟨rfl, ?_⟩ | refine ⟨Nat.le_of_ble_eq_true rfl, ?_⟩
  | mi_while ["vl var"] []
  | refine xe_int ?_ | refine xe_str ?_ | refine xe_bl ?_ | refine xe_non ?_
  | refine xe_ixL (XN.rd (xn_lst ?_)) | refine xe_ixT ?_ | refine xe_add ?_ | refine xe_mul ?_ | refine xe_sub ?_ | refine xe_div ?_ | refine xe_mod ?_ | refine xe_neg ?_
  | refine ⟨mulSz (by assumption) (by assumption), ?_⟩ | refine ⟨divSz (by assumption) (by assumption), ?_⟩
  | refine xt_gt ?_ | refine xt_lt ?_ | refine xt_le ?_ | refine xt_ge ?_ | refine xe_gt ?_ | refine xe_lt ?_ | refine xe_le ?_ | refine xe_ge ?_
  | refine xe_if ?_ | refine xe_tup ?_ | refine xa_cons ?_ | refine xa_nil ?_
  | refine XN.data (xn_lst ?_) | refine xn_lst ?_
  | (refine' xe_call ?hF ?hR ?hA ?hN; (case hF => assumption); (case hR => assumption); (case hN => decide)))
local macro_rules | `(tactic| mi_while ["vl set"] []) => `(tactic| first | refine xb_cons (xs_set 0 ?_ (by assumption)) | refine xb_cons (xs_set 1 ?_ (by assumption)) | refine xb_cons (xs_set 2 ?_ (by assumption)) | refine xb_cons (xs_set 3 ?_ (by assumption)) | refine xb_cons (xs_set 4 ?_ (by assumption)) | refine xb_cons (xs_set 5 ?_ (by assumption)) | refine xb_cons (xs_set 6 ?_ (by assumption)) | refine xb_cons (xs_set 7 ?_ (by assumption)) | refine xb_cons (xs_set 8 ?_ (by assumption)) | refine xb_cons (xs_set 9 ?_ (by assumption)) | refine xb_cons (xs_set 10 ?_ (by assumption)) | refine xb_cons (xs_set 11 ?_ (by assumption)) | refine xb_cons (xs_set 12 ?_ (by assumption)))
local macro_rules | `(tactic| mi_while ["vl tg"] []) => `(tactic| first | refine xgs_nil ?_ | refine xgs_cons ?_ | refine xg_tup ?_ rfl | refine xg_lst ?_ rfl | refine xg_name 0 ?_ (by assumption) | refine xg_name 1 ?_ (by assumption) | refine xg_name 2 ?_ (by assumption) | refine xg_name 3 ?_ (by assumption) | refine xg_name 4 ?_ (by assumption) | refine xg_name 5 ?_ (by assumption) | refine xg_name 6 ?_ (by assumption) | refine xg_name 7 ?_ (by assumption) | refine xg_name 8 ?_ (by assumption))
local macro_rules | `(tactic| mi_while ["vl st"] []) => `(tactic| first
  | refine xb_cons (xs_ret ?_)
  | mi_while ["vl set"] []
  | mi_while ["vl tg"] []
  | refine xb_cons (xs_asg (tg := .Tuple _ _ _) ?_)
  | refine xb_nil ?_)
local macro_rules | `(tactic| mi_while ["vl"] []) => `(tactic| repeat (first | mi_while ["vl exp"] [] | mi_while ["vl st"] []))
section
variable {P : Program} {w : World} {K : PySem.W.Frag} {mg : Str → Option Value} {base : Heap} {f : Addr} {fd : FuncData}
/-! is_integer, is_fraction, is_point -/
theorem kb1 : kitB "int" "int" = some true := by decide +kernel
theorem kb2 : kitB "int" "bool" = some false := by decide +kernel
theorem kb3 : kitB "tuple" "tuple" = some true := by decide +kernel
theorem bo1 : bootBuiltins "int" = some (.type "int") := by decide +kernel
theorem bo2 : bootBuiltins "bool" = some (.type "bool") := by decide +kernel
theorem bo3 : bootBuiltins "tuple" = some (.type "tuple") := by decide +kernel
theorem bo4 : bootBuiltins "str" = some (.type "str") := by decide +kernel
def cIsInt : Con := fun ds k => ∃ i : Int, ds = [.int i] ∧ k (.bl true)
def cIsFr : Con := fun ds k => ∃ (x : Rat), ds = [frD x] ∧ k (.bl true)
def cIsPt : Con := fun ds k => ∃ (x y : Rat), ds = [ptD x y] ∧ k (.bl true)
/-! free_part, fits -/
def cFree : Con := fun ds k => ∃ (c n : Int) (B : Nat), ds = [.int c, .int n] ∧ 0 < c ∧ 0 < n ∧ Sz B c ∧ B < 9000 ∧ ∀ r : Int, (r = 1 ↔ ∃ e : Nat, c ∣ n ^ e) → k (.int r)
theorem free_step {c n g : Int} (hn : 0 < n) (hg : g = Int.gcd c n) : (∃ e : Nat, c / g ∣ n ^ e) ↔ ∃ e : Nat, c ∣ n ^ e := by
  have d1 : g ∣ c := by rw [hg]; exact Int.gcd_dvd_left ..
  have d2 : g ∣ n := by rw [hg]; exact Int.gcd_dvd_right ..
  have hc := Int.ediv_mul_cancel d1
  constructor
  · rintro ⟨e, he⟩
    refine ⟨e + 1, ?_⟩
    rw [← hc, Int.pow_succ]
    exact Int.mul_dvd_mul he d2
  · rintro ⟨e, he⟩
    exact ⟨e, Int.dvd_trans ⟨g, hc.symm⟩ he⟩
theorem free_end {c n : Int} (hc : 0 < c) (hg : Int.gcd c n = 1) : (c = 1 ↔ ∃ e : Nat, c ∣ n ^ e) := by
  constructor
  · intro h
    exact ⟨0, by rw [h]; exact Int.one_dvd _⟩
  · rintro ⟨e, he⟩
    have : Int.gcd c (n ^ e) = 1 := by
      have := Nat.Coprime.pow_right e (show Nat.Coprime c.natAbs n.natAbs from hg)
      show Nat.gcd _ _ = 1
      rw [Int.natAbs_pow]
      exact this
    have d := Int.dvd_coe_gcd (Int.dvd_refl c) he
    rw [this] at d
    exact Int.eq_one_of_dvd_one (by omega) d
def cFits : Con := fun ds k => ∃ (x y : Rat) (a b c n : Int) (B : Nat), ds = [triD a b c, .int n] ∧ IsTri x y a b c ∧ 0 < n ∧ Sz B c ∧ B < 9000 ∧ ∀ t : Bool, (t = true ↔ Fit n x y) → k (.bl t)
end
end G

set_option Elab.async false
set_option linter.all false
set_option maxRecDepth 100000
set_option maxHeartbeats 4000000
namespace G
variable [VL.Tb]
open PySem L2 VL VM
local macro_rules | `(tactic| mi_while ["vl var"] []) => `(tactic| first | refine xe_var 0 rfl ?_ | refine xe_var 1 rfl ?_ | refine xe_var 2 rfl ?_ | refine xe_var 3 rfl ?_ | refine xe_var 4 rfl ?_ | refine xe_var 5 rfl ?_ | refine xe_var 6 rfl ?_ | refine xe_var 7 rfl ?_ | refine xe_var 8 rfl ?_ | refine xe_var 9 rfl ?_ | refine xe_var 10 rfl ?_ | refine xe_var 11 rfl ?_ | refine xe_var 12 rfl ?_ | refine xe_var 13 rfl ?_ | refine xe_var 14 rfl ?_ | refine xe_var 15 rfl ?_ | refine xe_var 16 rfl ?_)
local macro_rules | `(tactic| mi_while ["vl exp"] []) => `(tactic| first
  | refine ⟨_, rfl, ?_⟩ | refine ⟨rfl, ?_⟩ | refine ⟨Nat.le_of_ble_eq_true rfl, ?_⟩
  | mi_while ["vl var"] []
  | refine xe_int ?_ | refine xe_str ?_ | refine xe_bl ?_ | refine xe_non ?_
  | refine xe_ixL (XN.rd (xn_lst ?_)) | refine xe_ixT ?_ | refine xe_add ?_ | refine xe_mul ?_ | refine xe_sub ?_ | refine xe_div ?_ | refine xe_mod ?_ | refine xe_neg ?_
  | refine ⟨mulSz (by assumption) (by assumption), ?_⟩ | refine ⟨divSz (by assumption) (by assumption), ?_⟩
  | refine xt_gt ?_ | refine xt_lt ?_ | refine xt_le ?_ | refine xt_ge ?_ | refine xe_gt ?_ | refine xe_lt ?_ | refine xe_le ?_ | refine xe_ge ?_
  | refine xe_if ?_ | refine xe_tup ?_ | refine xa_cons ?_ | refine xa_nil ?_
  | refine XN.data (xn_lst ?_) | refine xn_lst ?_
  | (refine' xe_call ?hF ?hR ?hA ?hN; (case hF => assumption); (case hR => assumption); (case hN => decide)))
local macro_rules | `(tactic| mi_while ["vl set"] []) => `(tactic| first | refine xb_cons (xs_set 0 ?_ (by assumption)) | refine xb_cons (xs_set 1 ?_ (by assumption)) | refine xb_cons (xs_set 2 ?_ (by assumption)) | refine xb_cons (xs_set 3 ?_ (by assumption)) | refine xb_cons (xs_set 4 ?_ (by assumption)) | refine xb_cons (xs_set 5 ?_ (by assumption)) | refine xb_cons (xs_set 6 ?_ (by assumption)) | refine xb_cons (xs_set 7 ?_ (by assumption)) | refine xb_cons (xs_set 8 ?_ (by assumption)) | refine xb_cons (xs_set 9 ?_ (by assumption)) | refine xb_cons (xs_set 10 ?_ (by assumption)) | refine xb_cons (xs_set 11 ?_ (by assumption)) | refine xb_cons (xs_set 12 ?_ (by assumption)))
local macro_rules | `(tactic| mi_while ["vl tg"] []) => `(tactic| first | refine xgs_nil ?_ | refine xgs_cons ?_ | refine xg_tup ?_ rfl | refine xg_lst ?_ rfl | refine xg_name 0 ?_ (by assumption) | refine xg_name 1 ?_ (by assumption) | refine xg_name 2 ?_ (by assumption) | refine xg_name 3 ?_ (by assumption) | refine xg_name 4 ?_ (by assumption) | refine xg_name 5 ?_ (by assumption) | refine xg_name 6 ?_ (by assumption) | refine xg_name 7 ?_ (by assumption) | refine xg_name 8 ?_ (by assumption))
local macro_rules | `(tactic| mi_while ["vl st"] []) => `(tactic| first
  | refine xb_cons (xs_ret ?_)
  | mi_while ["vl set"] []
  | mi_while ["vl tg"] []
  | refine xb_cons (xs_asg (tg := .Tuple _ _ _) ?_)
  | refine xb_nil ?_)
local macro_rules | `(tactic| mi_while ["vl"] []) => `(tactic| repeat (first | mi_while ["vl exp"] [] | mi_while ["vl st"] []))
structure Cst (mg : Str → Option Value) : Prop where
  mz : ∃ t, mg "MOST_ZOOM" = some (.int 400 t)
  mf : ∃ t, mg "MOST_FACTOR" = some (.int 10 t)
section
variable {P : Program} {w : World} {K : PySem.W.Frag} {mg : Str → Option Value} {base : Heap} {f : Addr} {fd : FuncData} {C : Addr}
/-! scale_of -/
theorem rxi (q : Int) : ∃ a b : Int, rx q 1 0 = (a : Rat) ∧ ry q 1 0 = (b : Rat) ∧ Sz 1 a ∧ Sz 1 b ∧ atI [D.tup [.int 1, .int 0], .tup [.int 0, .int 1], .tup [.int (-1), .int 0], .tup [.int 0, .int (-1)]] (q % 4) = some (.tup [.int a, .int b]) := by
  rcases four q with h | h | h | h <;> unfold rx ry <;> rw [h]
  · exact ⟨1, 0, by simp, by simp, by unfold Sz; decide, by unfold Sz; decide, rfl⟩
  · exact ⟨0, 1, by simp, by simp, by unfold Sz; decide, by unfold Sz; decide, rfl⟩
  · exact ⟨-1, 0, by simp, by simp, by unfold Sz; decide, by unfold Sz; decide, rfl⟩
  · exact ⟨0, -1, by simp, by simp, by unfold Sz; decide, by unfold Sz; decide, rfl⟩
def cScaleOf : Con := fun ds k => ∃ n z q : Int, ds = [.int n, .int z, .int q] ∧ 2 ≤ n ∧ n ≤ 10 ∧ z.natAbs ≤ 1000 ∧ ∀ a b c, IsTri (sc n z * rx q 1 0) (sc n z * ry q 1 0) a b c → Sz3 (4 * z.natAbs + 2) a b c → k (triD a b c)
theorem absN (z : Int) : (if z < 0 then -z else z) = (z.natAbs : Int) := by split <;> omega
abbrev mvT (m : Mv) (a b c : Int) : D := .tup [.int m.k, .int m.q, triD a b c]
def cScale : Con := fun ds k => ∃ (n : Int) (m : Mv) (a b c : Int), ds = [.int n, mvT m a b c] ∧ 2 ≤ n ∧ n ≤ 10 ∧ m.k.natAbs ≤ 1000 ∧ ∀ a b c, IsTri (sc n m.k * rx m.q 1 0) (sc n m.k * ry m.q 1 0) a b c → Sz3 (4 * m.k.natAbs + 2) a b c → k (triD a b c)
theorem cmul (n k q : Int) (x y : Rat) : sc n k * rx q 1 0 * x - sc n k * ry q 1 0 * y = sc n k * rx q x y ∧ sc n k * rx q 1 0 * y + sc n k * ry q 1 0 * x = sc n k * ry q x y := by
  rcases four q with h | h | h | h <;> (unfold rx ry; rw [h]; constructor <;> simp <;> grind)
def cThenMv : Con := fun ds k => ∃ (n : Int) (m m' : Mv) (a b c a' b' c' : Int) (B C : Nat), ds = [.int n, mvT m a b c, mvT m' a' b' c'] ∧ IsTri m.x m.y a b c ∧ IsTri m'.x m'.y a' b' c' ∧ Sz3 B a b c ∧ Sz3 C a' b' c' ∧ 2 ≤ n ∧ n ≤ 10 ∧ m.k.natAbs ≤ 1000 ∧ B + (4 * m.k.natAbs + C + 3) < 8990 ∧
  ∀ p q r, IsTri (m.then n m').x (m.then n m').y p q r → Sz3 (B + (4 * m.k.natAbs + C + 3) + 1) p q r → k (mvT (m.then n m') p q r)
def cBackMv : Con := fun ds k => ∃ (n : Int) (m : Mv) (a b c : Int) (B : Nat), ds = [.int n, mvT m a b c] ∧ IsTri m.x m.y a b c ∧ Sz3 B a b c ∧ 2 ≤ n ∧ n ≤ 10 ∧ m.k.natAbs ≤ 1000 ∧ 4 * m.k.natAbs + B < 8900 ∧
  ∀ p q r, IsTri (m.back n).x (m.back n).y p q r → Sz3 (4 * m.k.natAbs + B + 3) p q r → k (mvT (m.back n) p q r)
end
end G

set_option Elab.async false
set_option linter.all false
set_option maxRecDepth 100000
set_option maxHeartbeats 4000000
namespace G
variable [VL.Tb]
open PySem L2 VL VM
local macro_rules | `(tactic| mi_while ["vl var"] []) => `(tactic| first | refine xe_var 0 rfl ?_ | refine xe_var 1 rfl ?_ | refine xe_var 2 rfl ?_ | refine xe_var 3 rfl ?_ | refine xe_var 4 rfl ?_ | refine xe_var 5 rfl ?_ | refine xe_var 6 rfl ?_ | refine xe_var 7 rfl ?_ | refine xe_var 8 rfl ?_ | refine xe_var 9 rfl ?_ | refine xe_var 10 rfl ?_ | refine xe_var 11 rfl ?_ | refine xe_var 12 rfl ?_ | refine xe_var 13 rfl ?_ | refine xe_var 14 rfl ?_ | refine xe_var 15 rfl ?_ | refine xe_var 16 rfl ?_)
local macro_rules | `(tactic| mi_while ["vl exp"] []) => `(tactic| first
  | refine ⟨_, rfl, ?_⟩ | refine ⟨rfl, ?_⟩ | refine ⟨Nat.le_of_ble_eq_true rfl, ?_⟩
  | mi_while ["vl var"] []
  | refine xe_int ?_ | refine xe_str ?_ | refine xe_bl ?_ | refine xe_non ?_
  | refine xe_ixL (XN.rd (xn_lst ?_)) | refine xe_ixT ?_ | refine xe_add ?_ | refine xe_mul ?_ | refine xe_sub ?_ | refine xe_div ?_ | refine xe_mod ?_ | refine xe_neg ?_
  | refine ⟨mulSz (by assumption) (by assumption), ?_⟩ | refine ⟨divSz (by assumption) (by assumption), ?_⟩
  | refine xt_gt ?_ | refine xt_lt ?_ | refine xt_le ?_ | refine xt_ge ?_ | refine xe_gt ?_ | refine xe_lt ?_ | refine xe_le ?_ | refine xe_ge ?_
  | refine xe_if ?_ | refine xe_tup ?_ | refine xa_cons ?_ | refine xa_nil ?_
  | refine XN.data (xn_lst ?_) | refine xn_lst ?_
  | (refine' xe_call ?hF ?hR ?hA ?hN; (case hF => assumption); (case hR => assumption); (case hN => decide)))
local macro_rules | `(tactic| mi_while ["vl set"] []) => `(tactic| first | refine xb_cons (xs_set 0 ?_ (by assumption)) | refine xb_cons (xs_set 1 ?_ (by assumption)) | refine xb_cons (xs_set 2 ?_ (by assumption)) | refine xb_cons (xs_set 3 ?_ (by assumption)) | refine xb_cons (xs_set 4 ?_ (by assumption)) | refine xb_cons (xs_set 5 ?_ (by assumption)) | refine xb_cons (xs_set 6 ?_ (by assumption)) | refine xb_cons (xs_set 7 ?_ (by assumption)) | refine xb_cons (xs_set 8 ?_ (by assumption)) | refine xb_cons (xs_set 9 ?_ (by assumption)) | refine xb_cons (xs_set 10 ?_ (by assumption)) | refine xb_cons (xs_set 11 ?_ (by assumption)) | refine xb_cons (xs_set 12 ?_ (by assumption)))
local macro_rules | `(tactic| mi_while ["vl tg"] []) => `(tactic| first | refine xgs_nil ?_ | refine xgs_cons ?_ | refine xg_tup ?_ rfl | refine xg_lst ?_ rfl | refine xg_name 0 ?_ (by assumption) | refine xg_name 1 ?_ (by assumption) | refine xg_name 2 ?_ (by assumption) | refine xg_name 3 ?_ (by assumption) | refine xg_name 4 ?_ (by assumption) | refine xg_name 5 ?_ (by assumption) | refine xg_name 6 ?_ (by assumption) | refine xg_name 7 ?_ (by assumption) | refine xg_name 8 ?_ (by assumption))
local macro_rules | `(tactic| mi_while ["vl st"] []) => `(tactic| first
  | refine xb_cons (xs_ret ?_)
  | mi_while ["vl set"] []
  | mi_while ["vl tg"] []
  | refine xb_cons (xs_asg (tg := .Tuple _ _ _) ?_)
  | refine xb_nil ?_)
local macro_rules | `(tactic| mi_while ["vl"] []) => `(tactic| repeat (first | mi_while ["vl exp"] [] | mi_while ["vl st"] []))
section
variable {P : Program} {w : World} {K : PySem.W.Frag} {mg : Str → Option Value} {base : Heap} {f : Addr} {fd : FuncData} {C : Addr}
/-! what makes a view -/
structure VOk (n : Int) (m : Mv) : Prop where
  n1 : 2 ≤ n
  n2 : n ≤ 10
  k1 : -400 ≤ m.k
  k2 : m.k ≤ 400
  q1 : 0 ≤ m.q
  q2 : m.q ≤ 3
  fit : Fit n m.x m.y
  sx : SzQ 4300 m.x
  sy : SzQ 4300 m.y
def cIsFactor : Con := fun ds k => ∃ n : Int, ds = [.int n] ∧ ∀ t : Bool, (t = true ↔ 2 ≤ n ∧ n ≤ 10) → k (.bl t)
def cIsBetween : Con := fun ds k => ∃ v a b : Int, ds = [.int v, .int a, .int b] ∧ ∀ t : Bool, (t = true ↔ a ≤ v ∧ v ≤ b) → k (.bl t)
def cCkF : Con := fun ds k => ∃ n : Int, ds = [.int n] ∧ 2 ≤ n ∧ n ≤ 10 ∧ k .non
abbrev vwD (C : Addr) (n : Int) (m : Mv) : D := .obj C [.int n, ptD m.x m.y, .int m.q, .int m.k]
/-- the arguments in the slots' order -/
def gV : List D → List D
  | [a, b, c, d] => [a, d, c, b]
  | l => l
def OkV (ds : List D) : Prop := ∃ n m, ds = [.int n, .int m.k, .int m.q, ptD m.x m.y] ∧ VOk n m
/-! the class -/
structure Vc (K : PySem.W.Frag) (C : Addr) : Prop where
  sc : SlX.SCls K C
  si : SlX.SIsi K C
  s0 : ∃ p, SlX.Slot1 K C "own_factor" p 0
  s1 : ∃ p, SlX.Slot1 K C "own_zoom" p 3
  s2 : ∃ p, SlX.Slot1 K C "own_turn" p 2
  s3 : ∃ p, SlX.Slot1 K C "own_middle" p 1
  same : PySem.W.kitOne K (.ref C) (.ref C) = some true
/-! a property: a slot's value -/
def cSlot (C : Addr) (i : Nat) : Con := fun ds k => ∃ n m d, ds = [vwD C n m] ∧ [D.int n, ptD m.x m.y, .int m.q, .int m.k][i]? = some d ∧ k d
def cMvOf (C : Addr) : Con := fun ds k => ∃ (n : Int) (m : Mv) (B : Nat), ds = [vwD C n m] ∧ SzQ B m.x ∧ SzQ B m.y ∧ B < 4400 ∧ ∀ a b c, IsTri m.x m.y a b c → Sz3 (B + B) a b c → k (mvT m a b c)
def cMkV (C : Addr) : Con := fun ds k => ∃ (n : Int) (m : Mv) (a b c : Int) (B : Nat), ds = [.int n, mvT m a b c] ∧ IsTri m.x m.y a b c ∧ Sz3 B a b c ∧ B < 9000 ∧ VOk n m ∧ k (vwD C n m)
end
end G

set_option Elab.async false
set_option linter.all false
set_option maxRecDepth 100000
set_option maxHeartbeats 4000000
namespace G
variable [VL.Tb]
open PySem L2 VL VM
local macro_rules | `(tactic| mi_while ["vl var"] []) => `(tactic| first | refine xe_var 0 rfl ?_ | refine xe_var 1 rfl ?_ | refine xe_var 2 rfl ?_ | refine xe_var 3 rfl ?_ | refine xe_var 4 rfl ?_ | refine xe_var 5 rfl ?_ | refine xe_var 6 rfl ?_ | refine xe_var 7 rfl ?_ | refine xe_var 8 rfl ?_ | refine xe_var 9 rfl ?_ | refine xe_var 10 rfl ?_ | refine xe_var 11 rfl ?_ | refine xe_var 12 rfl ?_ | refine xe_var 13 rfl ?_ | refine xe_var 14 rfl ?_ | refine xe_var 15 rfl ?_ | refine xe_var 16 rfl ?_)
local macro_rules | `(tactic| mi_while ["vl exp"] []) => `(tactic| first
  | refine ⟨_, rfl, ?_⟩ | refine ⟨rfl, ?_⟩ | refine ⟨Nat.le_of_ble_eq_true rfl, ?_⟩
  | mi_while ["vl var"] []
  | refine xe_int ?_ | refine xe_str ?_ | refine xe_bl ?_ | refine xe_non ?_
  | refine xe_ixL (XN.rd (xn_lst ?_)) | refine xe_ixT ?_ | refine xe_add ?_ | refine xe_mul ?_ | refine xe_sub ?_ | refine xe_div ?_ | refine xe_mod ?_ | refine xe_neg ?_
  | refine ⟨mulSz (by assumption) (by assumption), ?_⟩ | refine ⟨divSz (by assumption) (by assumption), ?_⟩
  | refine xt_gt ?_ | refine xt_lt ?_ | refine xt_le ?_ | refine xt_ge ?_ | refine xe_gt ?_ | refine xe_lt ?_ | refine xe_le ?_ | refine xe_ge ?_
  | refine xe_if ?_ | refine xe_tup ?_ | refine xa_cons ?_ | refine xa_nil ?_
  | refine XN.data (xn_lst ?_) | refine xn_lst ?_
  | (refine' xe_call ?hF ?hR ?hA ?hN; (case hF => assumption); (case hR => assumption); (case hN => decide)))
local macro_rules | `(tactic| mi_while ["vl set"] []) => `(tactic| first | refine xb_cons (xs_set 0 ?_ (by assumption)) | refine xb_cons (xs_set 1 ?_ (by assumption)) | refine xb_cons (xs_set 2 ?_ (by assumption)) | refine xb_cons (xs_set 3 ?_ (by assumption)) | refine xb_cons (xs_set 4 ?_ (by assumption)) | refine xb_cons (xs_set 5 ?_ (by assumption)) | refine xb_cons (xs_set 6 ?_ (by assumption)) | refine xb_cons (xs_set 7 ?_ (by assumption)) | refine xb_cons (xs_set 8 ?_ (by assumption)) | refine xb_cons (xs_set 9 ?_ (by assumption)) | refine xb_cons (xs_set 10 ?_ (by assumption)) | refine xb_cons (xs_set 11 ?_ (by assumption)) | refine xb_cons (xs_set 12 ?_ (by assumption)))
local macro_rules | `(tactic| mi_while ["vl tg"] []) => `(tactic| first | refine xgs_nil ?_ | refine xgs_cons ?_ | refine xg_tup ?_ rfl | refine xg_lst ?_ rfl | refine xg_name 0 ?_ (by assumption) | refine xg_name 1 ?_ (by assumption) | refine xg_name 2 ?_ (by assumption) | refine xg_name 3 ?_ (by assumption) | refine xg_name 4 ?_ (by assumption) | refine xg_name 5 ?_ (by assumption) | refine xg_name 6 ?_ (by assumption) | refine xg_name 7 ?_ (by assumption) | refine xg_name 8 ?_ (by assumption))
local macro_rules | `(tactic| mi_while ["vl st"] []) => `(tactic| first
  | refine xb_cons (xs_ret ?_)
  | mi_while ["vl set"] []
  | mi_while ["vl tg"] []
  | refine xb_cons (xs_asg (tg := .Tuple _ _ _) ?_)
  | refine xb_nil ?_)
local macro_rules | `(tactic| mi_while ["vl"] []) => `(tactic| repeat (first | mi_while ["vl exp"] [] | mi_while ["vl st"] []))
/-! texts -/
def frS (x : Rat) : Str := if (x.den : Int) = 1 then (toString x.num : Str) else ((toString x.num : Str) ++ "/") ++ (toString (x.den : Int) : Str)
def pgS (n : Int) (m : Mv) : Str := (((("factor " : Str) ++ (toString n : Str)) ++ " zoom " ++ (toString m.k : Str)) ++ " turn " ++ (toString m.q : Str)) ++ " at " ++ ((frS m.x ++ " ") ++ frS m.y)
section
variable {P : Program} {w : World} {K : PySem.W.Frag} {mg : Str → Option Value} {base : Heap} {f : Addr} {fd : FuncData} {C : Addr}
theorem numLen {B : Nat} {i : Int} (h : Sz B i) (l : B < 1920 := by omega) : i.natAbs.log2 < 1920 ∧ ((toString i : Str)).length ≤ 1921 := by
  have := h.log
  exact ⟨by omega, PyProof.Rows.int_text_len_1921 (by omega)⟩
theorem slashLen : (("/" : Str)).length = 1 := rfl
theorem frLen {x : Rat} (h : SzQ 1900 x) : (frS x).length ≤ 3850 := by
  have h1 := (numLen h.1).2
  have h2 := (numLen h.2).2
  unfold frS
  split
  · omega
  · rw [strLen_append, strLen_append, slashLen]
    omega
def cFrText : Con := fun ds k => ∃ x : Rat, ds = [frD x] ∧ SzQ 1900 x ∧ k (.str (frS x))
def cStr (C : Addr) : Con := fun ds k => ∃ n m, ds = [vwD C n m] ∧ VOk n m ∧ SzQ 1900 m.x ∧ SzQ 1900 m.y ∧ k (.str (pgS n m))
theorem joinP (a b c x y : Str) : Txt.join " " ["factor", a, "zoom", b, "turn", c, "at", x, y] = (((("factor " : Str) ++ a) ++ " zoom " ++ b) ++ " turn " ++ c) ++ " at " ++ ((x ++ " ") ++ y) := by
  have e1 : ("factor " : Str) = ("factor" : Str) ++ " " := by decide +kernel
  have e2 : (" zoom " : Str) = (" " : Str) ++ "zoom" ++ " " := by decide +kernel
  have e3 : (" turn " : Str) = (" " : Str) ++ "turn" ++ " " := by decide +kernel
  have e4 : (" at " : Str) = (" " : Str) ++ "at" ++ " " := by decide +kernel
  rw [e1, e2, e3, e4]
  refine Str.ext' ?_
  unfold Txt.join Builtin.Str.glued
  simp only [List.drop_succ_cons, List.drop_zero, List.foldl_cons, List.foldl_nil, List.headD_cons, Str.cps_append, Array.append_assoc]
end
end G

set_option Elab.async false
set_option linter.all false
set_option maxRecDepth 100000
set_option maxHeartbeats 4000000
namespace G
variable [VL.Tb]
open PySem L2 VL VM
local macro_rules | `(tactic| mi_while ["vl var"] []) => `(tactic| first | refine xe_var 0 rfl ?_ | refine xe_var 1 rfl ?_ | refine xe_var 2 rfl ?_ | refine xe_var 3 rfl ?_ | refine xe_var 4 rfl ?_ | refine xe_var 5 rfl ?_ | refine xe_var 6 rfl ?_ | refine xe_var 7 rfl ?_ | refine xe_var 8 rfl ?_ | refine xe_var 9 rfl ?_ | refine xe_var 10 rfl ?_ | refine xe_var 11 rfl ?_ | refine xe_var 12 rfl ?_ | refine xe_var 13 rfl ?_ | refine xe_var 14 rfl ?_ | refine xe_var 15 rfl ?_ | refine xe_var 16 rfl ?_)
local macro_rules | `(tactic| mi_while ["vl exp"] []) => `(tactic| first
  | refine ⟨_, rfl, ?_⟩ | refine ⟨rfl, ?_⟩ | refine ⟨Nat.le_of_ble_eq_true rfl, ?_⟩
  | mi_while ["vl var"] []
  | refine xe_int ?_ | refine xe_str ?_ | refine xe_bl ?_ | refine xe_non ?_
  | refine xe_ixL (XN.rd (xn_lst ?_)) | refine xe_ixT ?_ | refine xe_add ?_ | refine xe_mul ?_ | refine xe_sub ?_ | refine xe_div ?_ | refine xe_mod ?_ | refine xe_neg ?_
  | refine ⟨mulSz (by assumption) (by assumption), ?_⟩ | refine ⟨divSz (by assumption) (by assumption), ?_⟩
  | refine xt_gt ?_ | refine xt_lt ?_ | refine xt_le ?_ | refine xt_ge ?_ | refine xe_gt ?_ | refine xe_lt ?_ | refine xe_le ?_ | refine xe_ge ?_
  | refine xe_if ?_ | refine xe_tup ?_ | refine xa_cons ?_ | refine xa_nil ?_
  | refine XN.data (xn_lst ?_) | refine xn_lst ?_
  | (refine' xe_call ?hF ?hR ?hA ?hN; (case hF => assumption); (case hR => assumption); (case hN => decide)))
local macro_rules | `(tactic| mi_while ["vl set"] []) => `(tactic| first | refine xb_cons (xs_set 0 ?_ (by assumption)) | refine xb_cons (xs_set 1 ?_ (by assumption)) | refine xb_cons (xs_set 2 ?_ (by assumption)) | refine xb_cons (xs_set 3 ?_ (by assumption)) | refine xb_cons (xs_set 4 ?_ (by assumption)) | refine xb_cons (xs_set 5 ?_ (by assumption)) | refine xb_cons (xs_set 6 ?_ (by assumption)) | refine xb_cons (xs_set 7 ?_ (by assumption)) | refine xb_cons (xs_set 8 ?_ (by assumption)) | refine xb_cons (xs_set 9 ?_ (by assumption)) | refine xb_cons (xs_set 10 ?_ (by assumption)) | refine xb_cons (xs_set 11 ?_ (by assumption)) | refine xb_cons (xs_set 12 ?_ (by assumption)))
local macro_rules | `(tactic| mi_while ["vl tg"] []) => `(tactic| first | refine xgs_nil ?_ | refine xgs_cons ?_ | refine xg_tup ?_ rfl | refine xg_lst ?_ rfl | refine xg_name 0 ?_ (by assumption) | refine xg_name 1 ?_ (by assumption) | refine xg_name 2 ?_ (by assumption) | refine xg_name 3 ?_ (by assumption) | refine xg_name 4 ?_ (by assumption) | refine xg_name 5 ?_ (by assumption) | refine xg_name 6 ?_ (by assumption) | refine xg_name 7 ?_ (by assumption) | refine xg_name 8 ?_ (by assumption))
local macro_rules | `(tactic| mi_while ["vl st"] []) => `(tactic| first
  | refine xb_cons (xs_ret ?_)
  | mi_while ["vl set"] []
  | mi_while ["vl tg"] []
  | refine xb_cons (xs_asg (tg := .Tuple _ _ _) ?_)
  | refine xb_nil ?_)
local macro_rules | `(tactic| mi_while ["vl"] []) => `(tactic| repeat (first | mi_while ["vl exp"] [] | mi_while ["vl st"] []))
section
variable {P : Program} {w : World} {K : PySem.W.Frag} {mg : Str → Option Value} {base : Heap} {f : Addr} {fd : FuncData} {C : Addr}
/-! checks -/
def cCkV (C : Addr) : Con := fun ds k => ∃ n m, ds = [vwD C n m] ∧ k .non
/-- the property factor -/
structure Pf (P : Program) (w : World) (K : PySem.W.Frag) (mg : Str → Option Value) (base : Heap) (C : Addr) : Prop where
  ex : ∃ pa g, PropAt K C "factor" pa g ∧ FnA P w K mg base 1 g ["self"] (cSlot C 0)
/-! then, undone -/
def SzM (B : Nat) (m : Mv) : Prop := SzQ B m.x ∧ SzQ B m.y
/-! == of views -/
theorem fr_inj {x y : Rat} (h1 : x.num = y.num) (h2 : (x.den : Int) = y.den) : x = y := Rat.ext h1 (by omega)
def cEq (C : Addr) : Con := fun ds k => ∃ n m n' m', ds = [vwD C n m, vwD C n' m'] ∧ ∀ t : Bool, (t = true ↔ n = n' ∧ m = m') → k (.bl t)
def py4 (n : Int) (m : Mv) : PyData := .tuple [.int n, .int m.k, .int m.q, .tuple [.tuple [.int m.x.num, .int m.x.den], .tuple [.int m.y.num, .int m.y.den]]]
theorem py4_shaped (n : Int) (m : Mv) : SeqAt.shaped (py4 n m) = true := by
  unfold SeqAt.shaped py4
  simp [PyData.canLay0, PyData.canLayAll0, PyData.depth, PyData.depthAll]
theorem py4_eq (n n' : Int) (m m' : Mv) : PyData.eqv (py4 n m) (py4 n' m') = true ↔ n = n' ∧ m = m' := by
  unfold py4
  simp only [PyData.eqv, PyData.eqvAll, Bool.and_true, Bool.and_eq_true, beq_iff_eq]
  constructor
  · rintro ⟨h1, h2, h3, ⟨h4, h5⟩, h6, h7⟩
    exact ⟨h1, mv_ext h2 h3 (fr_inj h4 h5) (fr_inj h6 h7)⟩
  · rintro ⟨h1, h2⟩
    subst h1 h2
    exact ⟨rfl, rfl, rfl, ⟨rfl, rfl⟩, rfl, rfl⟩
end
end G

set_option Elab.async false
set_option linter.all false
set_option maxRecDepth 100000
set_option maxHeartbeats 4000000
namespace G
variable [VL.Tb]
open PySem L2 VL VM
local macro_rules | `(tactic| mi_while ["vl var"] []) => `(tactic| first | refine xe_var 0 rfl ?_ | refine xe_var 1 rfl ?_ | refine xe_var 2 rfl ?_ | refine xe_var 3 rfl ?_ | refine xe_var 4 rfl ?_ | refine xe_var 5 rfl ?_ | refine xe_var 6 rfl ?_ | refine xe_var 7 rfl ?_ | refine xe_var 8 rfl ?_ | refine xe_var 9 rfl ?_ | refine xe_var 10 rfl ?_ | refine xe_var 11 rfl ?_ | refine xe_var 12 rfl ?_ | refine xe_var 13 rfl ?_ | refine xe_var 14 rfl ?_ | refine xe_var 15 rfl ?_ | refine xe_var 16 rfl ?_)
local macro_rules | `(tactic| mi_while ["vl exp"] []) => `(tactic| first
  | refine ⟨_, rfl, ?_⟩ | refine ⟨rfl, ?_⟩ | refine ⟨Nat.le_of_ble_eq_true rfl, ?_⟩
  | mi_while ["vl var"] []
  | refine xe_int ?_ | refine xe_str ?_ | refine xe_bl ?_ | refine xe_non ?_
  | refine xe_ixL (XN.rd (xn_lst ?_)) | refine xe_ixT ?_ | refine xe_add ?_ | refine xe_mul ?_ | refine xe_sub ?_ | refine xe_div ?_ | refine xe_mod ?_ | refine xe_neg ?_
  | refine ⟨mulSz (by assumption) (by assumption), ?_⟩ | refine ⟨divSz (by assumption) (by assumption), ?_⟩
  | refine xt_gt ?_ | refine xt_lt ?_ | refine xt_le ?_ | refine xt_ge ?_ | refine xe_gt ?_ | refine xe_lt ?_ | refine xe_le ?_ | refine xe_ge ?_
  | refine xe_if ?_ | refine xe_tup ?_ | refine xa_cons ?_ | refine xa_nil ?_
  | refine XN.data (xn_lst ?_) | refine xn_lst ?_
  | (refine' xe_call ?hF ?hR ?hA ?hN; (case hF => assumption); (case hR => assumption); (case hN => decide)))
local macro_rules | `(tactic| mi_while ["vl set"] []) => `(tactic| first | refine xb_cons (xs_set 0 ?_ (by assumption)) | refine xb_cons (xs_set 1 ?_ (by assumption)) | refine xb_cons (xs_set 2 ?_ (by assumption)) | refine xb_cons (xs_set 3 ?_ (by assumption)) | refine xb_cons (xs_set 4 ?_ (by assumption)) | refine xb_cons (xs_set 5 ?_ (by assumption)) | refine xb_cons (xs_set 6 ?_ (by assumption)) | refine xb_cons (xs_set 7 ?_ (by assumption)) | refine xb_cons (xs_set 8 ?_ (by assumption)) | refine xb_cons (xs_set 9 ?_ (by assumption)) | refine xb_cons (xs_set 10 ?_ (by assumption)) | refine xb_cons (xs_set 11 ?_ (by assumption)) | refine xb_cons (xs_set 12 ?_ (by assumption)))
local macro_rules | `(tactic| mi_while ["vl tg"] []) => `(tactic| first | refine xgs_nil ?_ | refine xgs_cons ?_ | refine xg_tup ?_ rfl | refine xg_lst ?_ rfl | refine xg_name 0 ?_ (by assumption) | refine xg_name 1 ?_ (by assumption) | refine xg_name 2 ?_ (by assumption) | refine xg_name 3 ?_ (by assumption) | refine xg_name 4 ?_ (by assumption) | refine xg_name 5 ?_ (by assumption) | refine xg_name 6 ?_ (by assumption) | refine xg_name 7 ?_ (by assumption) | refine xg_name 8 ?_ (by assumption))
local macro_rules | `(tactic| mi_while ["vl st"] []) => `(tactic| first
  | refine xb_cons (xs_ret ?_)
  | mi_while ["vl set"] []
  | mi_while ["vl tg"] []
  | refine xb_cons (xs_asg (tg := .Tuple _ _ _) ?_)
  | refine xb_nil ?_)
local macro_rules | `(tactic| mi_while ["vl"] []) => `(tactic| repeat (first | mi_while ["vl exp"] [] | mi_while ["vl st"] []))
section
variable {P : Program} {w : World} {K : PySem.W.Frag} {mg : Str → Option Value} {base : Heap} {f : Addr} {fd : FuncData} {C : Addr}
/-! draws -/
theorem iteB {A B : Prop} (b : Bool) (h1 : A) (h2 : B) : if b = true then A else B := by cases b with
  | true => exact iteT h1
  | false => exact iteF h2
def cDraw : Con := fun ds k => ∃ many : Int, ds = [.tok, .int many] ∧ 0 < many ∧ many < 1073741824 ∧ ∀ r, 0 ≤ r → r < many → k (.int r)
theorem sc__law_draw : FnScope ["cask", "many", "digit"] ["cask", "many"] (defScope (top 34)) := ⟨rfl, rfl, rfl, by decide +kernel, rfl, by decide +kernel, by decide +kernel⟩
theorem ok_draw (F : Fun K "_law_draw" "_law_draw" (top 34) f fd) (B : Bt mg) : FnOk P w K mg base CX0 1 f fd ["cask", "many"] (spC K 2 cDraw) := by
  refine xdef F sc__law_draw fun ds k hl hc cdv A outer s H E hr => ?_
  have nd := sc__law_draw.nd
  obtain ⟨many, rfl, m1, m2, hk⟩ := hc
  refine xb_cons (xs_if (xt_gt (xe_tokIx ?_)))
  mi_while ["vl var"] []
  refine ⟨rfl, xe_int ⟨0, rfl, by decide, fun i => ⟨i, rfl, xe_int ⟨0, rfl, ?_⟩⟩⟩⟩
  by_cases h : 0 < i
  · rw [decide_eq_true h]
    refine iteT ?_
    refine xb_cons (xs_tok2 2 (xe_divmod B.divmod (xe_tokIx ?_)) nd)
    mi_while ["vl var"] []
    refine ⟨rfl, xe_int ⟨0, rfl, by decide, fun j => ⟨j, rfl, ?_⟩⟩⟩
    mi_while ["vl var"] []
    refine ⟨many, rfl, ⟨m1, m2⟩, _, _, rfl, ?_⟩
    mi_while ["vl var"] []
    refine ⟨rfl, xe_int ⟨0, rfl, by decide, ?_⟩⟩
    mi_while ["vl"] []
    exact hk _ (Int.emod_nonneg _ (by omega)) (Int.emod_lt_of_pos _ m1)
  · rw [decide_eq_false h]
    refine iteF (xb_nil ?_)
    refine xb_cons (xs_tok (xe_add (xe_tokIx ?_)))
    mi_while ["vl var"] []
    refine ⟨rfl, xe_int ⟨2, rfl, by decide, fun j => ⟨j, rfl, ?_⟩⟩⟩
    mi_while ["vl"] []
    refine xb_cons (xs_tok (xe_mod (xe_intI B.int (xe_add (xe_mul (xe_tokIx ?_))))))
    mi_while ["vl var"] []
    refine ⟨rfl, xe_int ⟨1, rfl, by decide, fun j => ⟨j, rfl, xe_int ⟨_, rfl, mulL (by unfold Sz; decide), _, rfl, xe_mul (xe_int ⟨_, rfl, xe_tokIx ?_⟩)⟩⟩⟩⟩
    mi_while ["vl var"] []
    refine ⟨rfl, xe_int ⟨2, rfl, by decide, fun j2 => ⟨j2, rfl, .inl (.inl (by decide)), _, rfl, _, rfl, _, rfl, xe_int ⟨_, rfl, by decide, _, rfl, ?_⟩⟩⟩⟩
    mi_while ["vl var"] []
    refine ⟨rfl, xe_int ⟨1, rfl, by decide, ?_⟩⟩
    refine xb_cons (xs_ret (xe_mod (xe_intI B.int (xe_div (xe_tokIx ?_)))))
    mi_while ["vl var"] []
    refine ⟨rfl, xe_int ⟨1, rfl, by decide, fun j3 => ⟨j3, rfl, xe_int ⟨_, rfl, ⟨by decide, by decide +kernel⟩, _, rfl, _, rfl, ?_⟩⟩⟩⟩
    mi_while ["vl var"] []
    exact ⟨many, rfl, m1, hk _ (Int.emod_nonneg _ (by omega)) (Int.emod_lt_of_pos _ m1)⟩
theorem atT {ds : List D} {i : Nat} {d : D} (h : ds[i]? = some d) : atI ds (i : Int) = some d := by
  have := get_lt h
  unfold atI ixN
  rw [if_pos (by omega), if_pos (by omega)]
  simpa using h
def cCask : Con := fun ds k => ∃ (ns : List Int) (at_ : Nat), ds = [.lst (ns.map .int), .int at_] ∧ ns.length ≤ 1000 ∧ k .tok
theorem cut_int (ns : List Int) (lo hi : Option Int) : ∃ ms : List Int, cutD (ns.map D.int) lo hi = ms.map D.int ∧ ms.length ≤ ns.length := by
  unfold cutD
  refine ⟨(ns.drop (HT.sIx ns.length 0 lo)).take (HT.sIx ns.length ns.length hi - HT.sIx ns.length 0 lo), ?_, ?_⟩
  · rw [List.length_map, List.map_take, List.map_drop]
  · rw [List.length_take, List.length_drop]; omega
theorem sc__law_cask : FnScope ["script", "at", "figure", "seed", "each"] ["script", "at"] (defScope (top 33)) := ⟨rfl, rfl, rfl, by decide +kernel, rfl, by decide +kernel, by decide +kernel⟩
theorem ok_cask (F : Fun K "_law_cask" "_law_cask" (top 33) f fd) (B : Bt mg) : FnOk P w K mg base CX0 1 f fd ["script", "at"] (spC K 2 cCask) := by
  refine xdef F sc__law_cask fun ds k hl hc cdv A outer s H E hr => ?_
  have nd := sc__law_cask.nd
  obtain ⟨ns, i, rfl, hns, hk⟩ := hc
  have hrest : ∀ fig : Int, XB (cxOf CX0 P w K mg base ["script", "at", "figure", "seed", "each"] "_law_cask" (defScope (top 33)) f cdv A outer s H E).nox ((defBody (top 33)).drop 1) [.dat (.lst (ns.map .int)), .dat (.int i), .dat (.int fig), .un, .un] { nx := fun _ => k .non, rt := k } := fun fig => by
    show VL.XB _ [_, _, _] _ _
    refine xb_cons (xs_set 3 (xe_add (xe_int ⟨_, rfl, xe_mul (xe_int ⟨_, rfl, ?_⟩)⟩)) nd)
    mi_while ["vl var"] []
    refine ⟨_, rfl, .inl (.inl (by decide)), _, rfl, ?_⟩
    obtain ⟨ms, hms, hlen⟩ := cut_int ns none (some 6)
    refine xb_cons (xs_forL 4 (XN.data (xn_cat (xn_lst ?_))) nd)
    mi_while ["vl"] []
    refine xn_cutTo (XE.rd ?_)
    mi_while ["vl var"] []
    refine ⟨_, rfl, ?_, _, rfl, fun m ρ => ∃ z d, ρ = [.dat (.lst (ns.map .int)), .dat (.int i), .dat (.int fig), .dat (.int z), d], ⟨_, _, rfl⟩, ?_, ?_⟩
    · rw [hms]
      simp
      omega
    · rintro m d ρ hd ⟨z, d0, rfl⟩
      have : ∃ j, d = .int j := by
        rw [hms] at hd
        have hmem := List.mem_of_getElem? hd
        rcases List.mem_append.mp hmem with h | h
        · exact ⟨fig, by simpa using h⟩
        · obtain ⟨j, _, hj⟩ := List.mem_map.mp h
          exact ⟨j, hj.symm⟩
      obtain ⟨j, rfl⟩ := this
      refine xb_cons (xs_set 3 (xe_mod (xe_intI B.int (xe_add (xe_mul ?_)))) nd)
      mi_while ["vl var"] []
      refine ⟨z, rfl, xe_int ⟨_, rfl, mulL (by unfold Sz; decide), _, rfl, ?_⟩⟩
      mi_while ["vl var"] []
      refine ⟨j, rfl, _, rfl, _, rfl, xe_int ⟨_, rfl, by decide, ?_⟩⟩
      exact xb_nil ⟨_, _, rfl⟩
    · rintro ρ ⟨z, d0, rfl⟩
      refine xb_cons (xs_ret (xe_tok (xn_lst (xa_cons (xe_if (xt_ge (xe_abs B.abs ?_)))))))
      mi_while ["vl var"] []
      refine ⟨fig, rfl, _, rfl, xe_pow (xe_int ⟨_, rfl, xe_int ⟨_, rfl, ⟨by decide, by decide, by decide⟩, _, rfl, ?_⟩⟩)⟩
      refine iteB _ ?_ ?_
      · refine xe_abs B.abs ?_
        mi_while ["vl var"] []
        refine ⟨fig, rfl, ?_⟩
        mi_while ["vl"] []
        exact ⟨_, _, _, rfl, hk⟩
      · mi_while ["vl"] []
        exact ⟨_, _, _, rfl, hk⟩
  refine xb_cons (xs_set 2 (xe_if (xt_lt ?_)) nd)
  mi_while ["vl var"] []
  refine ⟨i, rfl, xe_lenL B.len (XE.rd ?_)⟩
  mi_while ["vl var"] []
  refine ⟨_, rfl, _, rfl, ?_⟩
  by_cases h : i < ns.length
  · rw [decide_eq_true (by simpa using h)]
    refine iteT (xe_ixL (XE.rd ?_))
    mi_while ["vl var"] []
    refine ⟨_, rfl, ?_⟩
    mi_while ["vl var"] []
    refine ⟨i, rfl, .int ns[i], atT (by simp [h]), ?_⟩
    exact hrest _
  · rw [decide_eq_false (by simpa using h)]
    refine iteF (xe_add (xe_mul (xe_int ⟨_, rfl, ?_⟩)))
    mi_while ["vl var"] []
    refine ⟨i, rfl, .inl (.inl (by decide)), _, rfl, xe_int ⟨_, rfl, ?_⟩⟩
    exact hrest _
end
end G

set_option Elab.async false
set_option linter.all false
set_option maxRecDepth 100000
set_option maxHeartbeats 4000000
namespace VL
variable [Tb]
open PySem L2

/-! ## Defs where no repr is under way: FnOk, told that the stack has no guard -/
structure FnG (P : Program) (w : World) (K : PySem.W.Frag) (mg : Str → Option Value) (base : Heap) (k : Nat) (f : Addr) (fd : FuncData) (ps : List Str) (sp : Sp) : Prop where
  len : ∀ vs H Q E, sp vs H Q E → vs.length = ps.length
  run : ∀ (A : Around) (outer : List Env) (s : Shared) (H : Hp) (args : Args) (us : List Value) (vs : List V) (Q : VK) (E : XK), A.guards = some [] → Room k A → Env0 P w K mg base A outer s H → BindsTo s fd args (ps.zip us) → Vals vs us → sp vs H Q E →
    codeAny (model P w) A (.call (.ref f) args) (CR CX0 outer P w H s Q E) s
section
variable {P : Program} {w : World} {K : PySem.W.Frag} {mg : Str → Option Value} {base : Heap}
theorem FnG.mono {j k : Nat} {f : Addr} {fd : FuncData} {ps : List Str} {sp : Sp} (F : FnG P w K mg base j f fd ps sp) (h : j ≤ k) : FnG P w K mg base k f fd ps sp :=
  ⟨F.len, fun A outer s H args us vs Q E g hr => F.run A outer s H args us vs Q E g (hr.mono h)⟩
open PySem.Spec PyProof.Rows in
theorem fnG_of {k : Nat} {f : Addr} {name qual : Str} {params : Arguments} {body : List Stmt} {scope : Scope} {dV kV doc pm cdv ct oc : Value} {an od : Option Addr} {osl : Array (Option Value)} {N ps : List Str} {sp : Sp}
    (at_ : K.lookup f = some ⟨oc, od, .func (PySem.W.fnOf name qual params body scope dV kV doc pm an cdv ct), osl⟩) (code : PySem.W.codeIn K cdv qual = true) (S : FnScope N ps scope) (len : ∀ vs H Q E, sp vs H Q E → vs.length = ps.length)
    (hbody : ∀ (A : Around) (outer : List Env) (s : Shared) (H : Hp) (vs : List V) (Q : VK) (E : XK), A.guards = some [] → Room k (A.deeper (PyProof.Rows.envOfC qual scope s.heap.objs.size f cdv)) → sp vs H Q E →
      ∃ t, PSs (cxOf CX0 P w K mg base N qual scope f cdv A outer s H E) body t ∧ t { nx := fun _ H' => Q .non H', rt := Q } (L2.start N vs) H) :
    FnG P w K mg base (k + 1) f (PySem.W.fnOf name qual params body scope dV kV doc pm an cdv ct) ps sp := by
  constructor
  · exact len
  intro A outer s H args us vs Q E gd room env0 bnd rel hsp
  have many := len vs H Q E hsp
  have KX : K.In s.heap := env0.mod.kin.keeps fun b o z => (env0.bs b o z).1
  have noLim : s.heap.NoLimit := env0.mod.nolimit.keeps fun b o z => (env0.bs b o z).1
  have kinds : ∀ y ∈ ps.zip us, scope.names.lookup y.1 = some .local ∨ (scope.names.lookup y.1 = some .cell ∧ ((cellsFrom (s.heap.objs.size + 1) scope.names []).lookup y.1).isSome = true) := by
    rintro ⟨n, v⟩ hy
    have inP : n ∈ ps := (List.of_mem_zip hy).1
    cases S.par n inP with
    | inl z => exact .inl z
    | inr z => exact .inr ⟨z, PySem.W.cellsFrom_some _ _ _ (.inl z)⟩
  refine codeAny_call_function room.depth (KX _ _ at_) rfl S.co S.gen rfl (PySem.W.codeRec_of KX code) (bnd _ _ _ _ ?_)
  refine wpAny_newFunctionEnv_cells S.kind kinds fun ev hev s1 laid => ?_
  subst hev
  refine ⟨noLim.keeps laid.toInCall.keep, codeAny_func ?_⟩
  obtain ⟨t, walk, hq⟩ := hbody A outer s H vs Q E gd (room.deeper _) hsp
  have I0 : Inv (cxOf CX0 P w K mg base N qual scope f cdv A outer s H E) [] (L2.start N vs) H s1 := inv_start S room.hd env0 many rel laid
  have ends : ∀ {σ' : L2.St} {H' : Hp} {v : V} {u : Value} {s' : Shared}, Inv (cxOf CX0 P w K mg base N qual scope f cdv A outer s H E) [] σ' H' s' → RelV v u → Q v H' → CE outer P w H s Q u s' :=
    fun {σ' H' v u s'} J rv q => ⟨v, H', J.os, J.bare, J.base, J.hok, rv, q⟩
  refine wpAny_mono (walk.run [] s1 (L2.start N vs) H _ I0 hq) (fun fl s' out => ?_) fun e s' out => out
  match fl, out with
  | .ret u, ⟨v, σ', H', J, rv, q⟩ => exact ends J rv q
  | .next, ⟨σ', H', J, q⟩ => exact ends (v := .non) (u := .none) J rfl q
  | .brk, ⟨_, _, _, q⟩ => exact q.elim
  | .cont, ⟨_, _, _, q⟩ => exact q.elim
/-- a def by its body, told that no repr is under way -/
theorem xdefG {x qual : Str} {st : Stmt} {f : Addr} {fd : FuncData} {N ps : List Str} {n : Nat} {C : Con} (F : Fun K x qual st f fd) (Sc : FnScope N ps (defScope st))
    (body : ∀ (ds : List D) (k : D → Prop), ds.length = ps.length → C ds k → ∀ (cdv : Value) (A : Around) (outer : List Env) (s : Shared) (H : Hp) (E : XK), A.guards = some [] → Room n (A.deeper (PyProof.Rows.envOfC qual (defScope st) s.heap.objs.size f cdv)) →
      XB (cxOf CX0 P w K mg base N qual (defScope st) f cdv A outer s H E).nox (defBody st) (startR N.length ds) { nx := fun _ => k .non, rt := k }) : FnG P w K mg base (n + 1) f fd ps (spC K ps.length C) := by
  have hpl : ps.length ≤ N.length := by
    have := congrArg List.length Sc.pre
    rw [List.length_take] at this
    omega
  obtain ⟨oc, od, kV, doc, pm, an, cdv, ct, osl, rfl, lk, hcd⟩ := F.ex
  refine fnG_of lk hcd Sc (fun vs H Q E h => ?_) fun A outer s H vs Q E gd hr h => ?_
  · obtain ⟨_, _, _, hl, _⟩ := h
    exact hl
  · obtain ⟨S, ds, k, hl, tr, a, hc, q⟩ := h
    have hb := body ds k (by rw [← a.length]; exact hl) hc cdv A outer s H E gd hr
    refine ⟨_, PSs.nox (hb S H tr), start_ok tr (by omega) a, ⟨fun σ' H' ρ' ok hn => ?_, fun v H' d e at_ hk => q v H' d e at_ hk, fun _ _ _ _ z => z.elim, fun _ _ _ _ z => z.elim⟩⟩
    obtain ⟨_, _, _, _, e, _⟩ := ok
    exact q .non H' .non e .non hn
structure Fg (P : Program) (w : World) (K : PySem.W.Frag) (mg : Str → Option Value) (base : Heap) (k : Nat) (x : Str) (ps : List Str) (C : Con) : Prop where
  ex : ∃ f fd, mg x = some (.ref f) ∧ PySem.W.keepIn K (.ref f) = true ∧ Binds K fd ps [] ∧ FnG P w K mg base k f fd ps (spC K ps.length C)
end
section
variable {X : Cx} {ρ : Rho} {e : Expr} {es : List Expr} {pos p : Pos} {k : D → Prop}
theorem xe_callG {n m : Nat} {x : Str} {ps : List Str} {C : Con} (F : Fg X.prog X.w X.K X.mg X.base n x ps C) (gd : X.A.guards = some []) (hr : Room m X.A) (h : XA X (e :: es) ρ fun ds => ds.length = ps.length ∧ C ds k) (hnm : n ≤ m := by decide) (hg : Gl X x := by rfl)
    (hdb : (x == ("__debug__" : Str)) = false := by decide) (he : starEach (e :: es) X.env = (false, eval e X.env) :: starEach es X.env := by rfl) (hpl : (backTo pos (starEach es X.env)).any (·.1) = false := by rfl) :
    XE X (.Call (.Name x p) (e :: es) [] pos) ρ k := by
  obtain ⟨f, fd, h1, h2, h3, h4⟩ := F.ex
  refine ⟨fun pins s σ H Q I ⟨S, E, q⟩ => ?_⟩
  refine wpAny_Call_Name_kw (ld_glob I hg h1 ?_ hdb)
  refine PySem.W.callWith_K (h₀ := X.base) I.ok.mod.kin h2 (thn (anyA.run pos pins s σ H (fun vs H2 => ∃ ds, Ex H H2 ∧ AtL X.K (hide S H2) vs ds ∧ ds.length = ps.length ∧ C ds k) I ⟨_, h, S, E, fun vs H2 ds e2 a2 hk => ⟨ds, e2, a2, hk⟩⟩) fun us s2 ⟨zs, H2, I2, rz, ds, e2, a2, l1, hc⟩ => ⟨I2.kIn, ?_⟩) he hpl
  have lz : zs.length = ps.length := by rw [a2.length]; exact l1
  have lu : us.length = ps.length := by rw [← rz.length]; exact lz
  have hb := h3 s2 us I2.kIn (by rw [List.append_nil]; exact lu)
  rw [List.append_nil] at hb
  refine wpAny_call (codeAny_mono (h4.run X.A X.stack s2 H2 ⟨us, []⟩ us zs Q (fun _ _ _ => False) gd (hr.mono hnm) I2.env0 hb rz ⟨S, ds, k, lz, (E.mono e2).trk, a2, hc, fun v H3 d e3 a3 hk => q v H3 d (e2.trans e3) a3 hk⟩) fun r s' hq => ?_)
  match r, hq with
  | .error _, hq => exact (show False from hq).elim
  | .ok (.ret u), hq => exact I2.after hq
  | .ok .next, hq => exact False.elim hq
  | .ok .brk, hq => exact False.elim hq
  | .ok .cont, hq => exact False.elim hq
end

/-! ## A law's end, no guard on the stack -/
/-- the script, known to the object, where it isn't the module's own -/
def scrH (K : PySem.W.Frag) (a : Addr) (vs : List Value) (ns : List Int) : Hp := fun b => if b = a ∧ K.lookup a = none then some (.frz { cls := .type "list", data := .seq vs.toArray } (.lst (ns.map V.int))) else none
theorem scr_some {K : PySem.W.Frag} {a b : Addr} {vs : List Value} {ns : List Int} {u : HO} (h : scrH K a vs ns b = some u) : b = a ∧ K.lookup a = none ∧ u = .frz { cls := .type "list", data := .seq vs.toArray } (.lst (ns.map V.int)) := by
  unfold scrH at h
  split at h
  · rename_i z
    exact ⟨z.1, z.2, (Option.some.inj h).symm⟩
  · cases h
open PySem.Spec PyProof.Rows in
theorem lawG {P : Program} {w : World} {K : PySem.W.Frag} {mg mb : Str → Option Value} {k : Nat} {fa a : Addr} {fd : FuncData} {x : Str} {C : Con} {s₁ : Shared} {vs : List Value} {ns : List Int}
    (hT : Tb.T = []) (KX : K.In s₁.heap) (hns : s₁.heap.Ns mainGlobals mg) (hb : s₁.heap.Ns builtinsNs mb) (hbb : ∀ x : Str, x ≠ "__name__" → mb x = bootBuiltins x) (hlim : s₁.heap.NoLimit) (hg : s₁.gens = #[])
    (ha : s₁.heap.get? a = some { cls := .type "list", data := .seq vs.toArray }) (hi : IntsAre vs ns) (hl : ns.length ≤ sizeLine) (hr : Room k callerA)
    (F : ∀ base : Heap, K.In base → base.Ns mainGlobals mg → FnG P w K mg base k fa fd [x] (spC K 1 C)) (hbind : ∀ (s : Shared) (u : Value), BindsTo s fd ⟨[u], []⟩ [(x, u)]) (hC : C [.lst (ns.map .int)] fun d => d = .bl true) :
    codeAny (model P w) callerA (.call (.ref fa) ⟨[.ref a], []⟩) (fun r s' => r = .ok (.ret (.bool true)) ∧ OldK s₁.heap s'.heap ∧ s'.os = s₁.os ∧ AllBare s'.gens) s₁ := by
  have rv := vals_ints hi
  have lv : vs.length = ns.length := hi.length
  have seen : ∀ {b : Addr} {o : Obj}, s₁.heap.get? b = some o → scrH K a vs ns b = none → (hidT s₁.heap (scrH K a vs ns)).get? b = some o := fun z n => hidT_get z n
  have dictNo : ∀ {b : Addr} {o : Obj} {es : Array DictEntry} {ep : Nat}, s₁.heap.get? b = some o → o.data = .dict es ep → scrH K a vs ns b = none := fun {b o es ep} z d => by
    match q : scrH K a vs ns b with
    | none => rfl
    | some u =>
      obtain ⟨r, _, _⟩ := scr_some q
      rw [r, ha] at z
      rw [← Option.some.inj z] at d
      cases d
  have names : ∀ {b : Addr} {m : Str → Option Value}, s₁.heap.Ns b m → (hidT s₁.heap (scrH K a vs ns)).Ns b m := fun {b m} ⟨o, es, ep, z, d, r⟩ => ⟨o, es, ep, seen z (dictNo z d), d, r⟩
  have Kb : K.In (hidT s₁.heap (scrH K a vs ns)) := fun b o z => seen (KX b o z) (by
    match q : scrH K a vs ns b with
    | none => rfl
    | some u =>
      obtain ⟨r, r2, _⟩ := scr_some q
      rw [r, r2] at z
      cases z)
  have Md : Mod K mg (hidT s₁.heap (scrH K a vs ns)) := ⟨Kb, names hns, ⟨mb, names hb, hbb⟩, let ⟨mc, h1, h2⟩ := hlim; ⟨mc, names h1, h2⟩⟩
  have ok : HOk P w (scrH K a vs ns) s₁.heap := fun b u z => by
    obtain ⟨r, _, r2⟩ := scr_some z
    rw [r, r2]
    exact ⟨ha, by rw [List.length_map]; exact hl, vs, _, rv, ha⟩
  have sq : SqL K (scrH K a vs ns) a (ns.map V.int) := by
    match q : K.lookup a with
    | some o =>
      have z := KX a o q
      rw [ha] at z
      have z2 := Option.some.inj z
      exact .inr ⟨o, vs.toArray, 0, q, by rw [← z2], by rw [← z2], by rw [← z2], by rw [List.size_toArray, lv]; exact hl, by simpa using rv⟩
    | none => exact .inl (.inr ⟨_, if_pos ⟨rfl, q⟩⟩)
  have allInt : ∀ ms : List Int, AtL K (scrH K a vs ns) (ms.map V.int) (ms.map D.int) := fun ms => by
    induction ms with
    | nil => exact .nil
    | cons m r ih => exact .cons (.int m) ih
  have hid0 : hide [] (scrH K a vs ns) = scrH K a vs ns := funext fun b => hide_out List.not_mem_nil
  have e0 : Env0 P w K mg (hidT s₁.heap (scrH K a vs ns)) callerA [] s₁ (scrH K a vs ns) := ⟨rfl, Md, fun b o z => of_hidT z, Nat.le_of_eq (hidT_size _ _), trivial, fun b z => (List.not_mem_nil z).elim, ok, .of_eq hg⟩
  refine codeAny_mono ((F _ Kb (names hns)).run callerA [] s₁ (scrH K a vs ns) ⟨[.ref a], []⟩ [.ref a] [.ref a] (fun v _ => v = .bl true) (fun _ _ _ => False) rfl hr e0 (hbind s₁ (.ref a)) (.cons rfl .nil)
    ⟨[], [.lst (ns.map .int)], fun d => d = .bl true, rfl, ⟨fun b z => (List.not_mem_nil z).elim, fun p hp => by rw [hT] at hp; cases hp⟩, .cons (.lst (by rw [hid0]; exact sq) (by rw [hid0]; exact allInt ns)) .nil, hC, fun v H2 d _ at_ hd => by
      subst hd
      exact at_.inv_bl⟩) fun r s' out => ?_
  match r, out with
  | .error _, out => exact (show False from out).elim
  | .ok .next, out => exact False.elim out
  | .ok .brk, out => exact False.elim out
  | .ok .cont, out => exact False.elim out
  | .ok (.ret u), ⟨v, H', os, bare, un, okE, rE, qE⟩ =>
    subst qE
    cases (show u = Value.bool true from rE)
    refine ⟨rfl, OldK.of_keep fun b o z => ?_, os, bare⟩
    match q : scrH K a vs ns b with
    | none => exact un.keep b o z q (fun y => List.not_mem_nil y) (fun y => List.not_mem_nil y)
    | some u2 =>
      obtain ⟨r1, r2, r3⟩ := scr_some q
      rw [r3] at q
      have kept := un.frzs b _ _ q
      obtain ⟨y1, _⟩ := ok b _ q
      obtain ⟨y2, _⟩ := okE b _ kept
      rw [z] at y1
      rw [Option.some.inj y1]
      exact y2
open PySem.Spec PyProof.Rows in
/-- a law: F gives the written part, the function object, the promise over every base -/
theorem walkG {l : PySem.W.OpenLaw} {n k : Nat} {q : Program} {loose : List Str} {XP : (Str → Option Value) → Heap → Prop} {YP : World → Heap → Prop} {d : DefRec} {x : Str} {C : Con}
    (hT : Tb.T = []) (hn : l.most = some n) (hn2 : n ≤ sizeLine) (hdf : d.params.defaults = []) (hr : Room k callerA)
    (F : ∀ (w : World) (mg : Str → Option Value) (fa : Addr) (h : Heap), YP w h → h.Ns mainGlobals mg → mg d.name = some (.ref fa) →
      ∃ (K : PySem.W.Frag) (fd : FuncData), K.In h ∧ (∀ (s : Shared) (u : Value), BindsTo s fd ⟨[u], []⟩ [(x, u)]) ∧ ∀ base : Heap, K.In base → base.Ns mainGlobals mg → FnG l.prog w K mg base k fa fd [x] (spC K 1 C))
    (hC : ∀ ns : List Int, ns.length ≤ n → C [.lst (ns.map .int)] fun d => d = .bl true) :
    PySem.W.WalkO q loose XP YP l.row.toRowW d [] (fun f vs => PySem.call f vs) := by
  refine Att.attach_call hn hdf fun w s₀ s₁ mg mb fa o pm cd doc a vs ns G Y ho hd hcd hmg hobj hints hlen hg => ?_
  obtain ⟨K, fd, KX, hb, hF⟩ := F w mg fa _ Y G.T.g hmg
  exact lawG hT KX G.T.g G.T.b G.T.builtins G.T.nolimit hg hobj hints (Nat.le_trans hlen hn2) hr hF hb (hC ns hlen)
end VL

set_option Elab.async false
set_option linter.all false
set_option maxRecDepth 100000
set_option maxHeartbeats 4000000
namespace VL
variable [Tb]
open PySem L2

/-! ## repr of lists and tuples, where no repr is under way -/
theorem from_len : ∀ (ts : List Str) (k : Nat) (acc : Str), (textFrom k acc ts).length ≤ acc.length + (ts.map fun t => t.length + 2).sum
  | [], k, acc => by show acc.length ≤ _; simp
  | t :: r, k, acc => by
    have h := from_len r (k + 1) (acc ++ (if k > 0 then ", " else "" : String) ++ t)
    have e : (acc ++ (if k > 0 then ", " else "" : String) ++ t).length ≤ acc.length + 2 + t.length := by
      rw [strLen_append, strLen_append]
      have : (Str.ofString (if k > 0 then ", " else "")).length ≤ 2 := by split <;> decide +kernel
      omega
    show (textFrom (k + 1) _ r).length ≤ _
    rw [List.map_cons, List.sum_cons]
    omega
theorem piled_sum : ∀ ts : List Str, piled ts = (ts.map fun t => t.length + 2).sum
  | [] => rfl
  | t :: r => by
    rw [piled_cons, piled_sum r, List.map_cons, List.sum_cons]
mutual
/-- a bound of the text of data without texts -/
def lenB : PyData → Nat
  | .list xs => lenBs xs + 3
  | .tuple xs => lenBs xs + 3
  | .str x => (reprText x).length
  | .dict _ => 0
  | .none => 1921 | .bool _ => 1921 | .int _ => 1921
def lenBs : List PyData → Nat
  | [] => 0
  | x :: xs => lenB x + 2 + lenBs xs
end
mutual
theorem shown_le : ∀ d : PyData, d.showable = true → d.hasDict = false → d.shown.length ≤ lenB d
  | .none, _, _ => by simp only [PyData.shown, lenB]; decide +kernel
  | .bool b, _, _ => by
    simp only [PyData.shown, lenB]
    cases b <;> decide +kernel
  | .int i, h, _ => by
    simp only [PyData.shown, lenB]
    have h2 : i.natAbs.log2 < 1920 := of_decide_eq_true (by simpa [PyData.showable] using h)
    exact PyProof.Rows.int_text_len_1921 h2
  | .str x, _, _ => by simp only [PyData.shown, lenB]; exact Nat.le_refl _
  | .list xs, h, g => by
    have := shown_les xs (by simpa [PyData.showable] using h) (by simpa [PyData.hasDict] using g)
    simp only [PyData.shown, lenB]
    unfold listText
    rw [strLen_append]
    have h2 := from_len (PyData.shownAll xs) 0 "["
    have e1 : (("[" : Str)).length = 1 := rfl
    have e2 : (("]" : Str)).length = 1 := rfl
    omega
  | .tuple xs, h, g => by
    have := shown_les xs (by simpa [PyData.showable] using h) (by simpa [PyData.hasDict] using g)
    simp only [PyData.shown, lenB]
    have h2 := fmt_text (PyData.shownAll xs)
    rw [piled_sum] at h2
    omega
  | .dict kvs, _, g => by simp [PyData.hasDict] at g
theorem shown_les : ∀ ds : List PyData, PyData.showableAll ds = true → PyData.hasDictAll ds = false → ((PyData.shownAll ds).map fun t => t.length + 2).sum ≤ lenBs ds
  | [], _, _ => Nat.zero_le _
  | d :: ds, h, g => by
    simp only [PyData.showableAll, Bool.and_eq_true] at h
    simp only [PyData.hasDictAll, Bool.or_eq_false_iff] at g
    have h1 := shown_le d h.1 g.1
    have h2 := shown_les ds h.2 g.2
    simp only [PyData.shownAll, List.map_cons, List.sum_cons, lenBs]
    omega
end
/-- what repr asks -/
structure ReprOk (d : PyData) : Prop where
  s : d.showable = true
  n : d.hasDict = false
  dp : d.depth ≤ 60
  l : lenB d ≤ 16777216
def rRepr (K : PySem.W.Frag) : List V → Hp → VK → Prop := fun xs H Q => ∃ a d, xs = [V.ref a] ∧ Dp K H (.ref a) d ∧ ReprOk d ∧ Q (.str d.shown) H
theorem call_reprD {X : Cx} {n : Nat} (gd : X.A.guards = some []) (hr : Room n X.A) : CallR X (.builtin "repr") (rRepr X.K) := by
  intro pins s σ H xs us Q I r h
  obtain ⟨a, d, rfl, hd, ok, q⟩ := h
  obtain ⟨u, rfl, ru⟩ := r.one
  cases (show u = Value.ref a from ru)
  obtain ⟨as, rd⟩ := Dp.reads I d _ _ hd rfl
  have un := hr.units
  have dp := ok.dp
  exact repr_of_reads' rd ok.s (fun z => by rw [ok.n] at z; cases z) gd (by omega) (fun _ _ z => z) (fun h' t tk hk => ⟨.str d.shown, H, I.kept (t' := tk) hk, ⟨t, rfl⟩, q⟩) (by rw [sizeLine_eq]; exact Nat.le_trans (shown_le d ok.s ok.n) ok.l)
section
variable {X : Cx} {ρ : Rho} {e : Expr} {pos p : Pos} {k : D → Prop}
def isSq : D → Bool
  | .lst _ => true
  | .tup _ => true
  | _ => false
theorem xe_repr {n : Nat} (hm : X.mg "repr" = none) (gd : X.A.guards = some []) (hr : Room n X.A) (h : XE X e ρ fun x => ∃ d, pyD x = some d ∧ isSq x = true ∧ ReprOk d ∧ k (.str d.shown)) (hg : Gl X "repr" := by rfl)
    (he : starEach (e :: []) X.env = (false, eval e X.env) :: starEach [] X.env := by rfl) : XE X (.Call (.Name "repr" p) [e] [] pos) ρ k :=
  impE (pe_callB (call_reprD gd hr) hg hm (by decide +kernel) (pa_cons anyE pa_nil he) (by decide) (by decide) he rfl) fun σ H Q ⟨S, E, q⟩ => useE h E fun v H1 x e1 a1 ⟨d, hd, hs, ok, hk⟩ => by
    have dp := dp_of a1 hd
    cases a1 with
    | lst _ _ => exact ⟨_, d, rfl, dp, ok, q _ _ _ e1 (.str _) hk⟩
    | tup _ _ => exact ⟨_, d, rfl, dp, ok, q _ _ _ e1 (.str _) hk⟩
    | _ => cases hs
end
end VL

set_option Elab.async false
set_option linter.all false
set_option maxRecDepth 100000
set_option maxHeartbeats 4000000
namespace VL
variable [Tb]
open PySem L2

/-! ## Constants of the module: ints, and tuples of such, read in the written part -/
def isTupO (o : Obj) : Option (Array Value) := match o with
  | ⟨.type c, _, .seq its _, _⟩ => if c = "tuple" then some its else none
  | _ => none
theorem isTupO_ok {o : Obj} {its : Array Value} (h : isTupO o = some its) : o.cls = .type "tuple" ∧ ∃ n, o.data = .seq its n := by
  unfold isTupO at h
  split at h
  · split at h
    · rename_i c
      cases h
      exact ⟨by rw [c], _, rfl⟩
    · cases h
  · cases h
mutual
def atB (K : PySem.W.Frag) : D → Value → Bool
  | .int i, u => match u with
    | .int j _ => decide (i = j)
    | _ => false
  | .tup ds, u => match u with
    | .ref a => match (K.lookup a).bind isTupO with
      | some its => decide (its.size ≤ 1000) && atBs K ds its.toList
      | none => false
    | _ => false
  | _, _ => false
def atBs (K : PySem.W.Frag) : List D → List Value → Bool
  | [], us => us.isEmpty
  | d :: ds, us => match us with
    | u :: us => atB K d u && atBs K ds us
    | [] => false
end
mutual
theorem atB_ok {K : PySem.W.Frag} : ∀ {d : D} {u : Value}, atB K d u = true → ∃ v, RelV v u ∧ ∀ H, At K H v d
  | .int i, u, h => by
    unfold atB at h
    split at h
    · rename_i j t
      have e := of_decide_eq_true h
      subst e
      exact ⟨.int i, ⟨t, rfl⟩, fun H => .int i⟩
    · cases h
  | .tup ds, u, h => by
    unfold atB at h
    split at h
    · rename_i a
      cases q : (K.lookup a).bind isTupO with
      | none =>
        rw [q] at h
        cases h
      | some its =>
        rw [q] at h
        simp only [Bool.and_eq_true, decide_eq_true_eq] at h
        obtain ⟨o, q1, q2⟩ := Option.bind_eq_some_iff.mp q
        obtain ⟨c1, n, c2⟩ := isTupO_ok q2
        obtain ⟨vs, r, at_⟩ := atBs_ok h.2
        exact ⟨.ref a, rfl, fun H => .tup (.inr ⟨o, its, n, q1, c1, c2, Nat.le_trans h.1 (by decide), r⟩) (at_ H)⟩
    · cases h
  | .non, u, h => by unfold atB at h; cases h
  | .bl _, u, h => by unfold atB at h; cases h
  | .str _, u, h => by unfold atB at h; cases h
  | .lst _, u, h => by unfold atB at h; cases h
  | .obj _ _, u, h => by unfold atB at h; cases h
  | .tok, u, h => by unfold atB at h; cases h
  | .ptr _, u, h => by unfold atB at h; cases h
theorem atBs_ok {K : PySem.W.Frag} : ∀ {ds : List D} {us : List Value}, atBs K ds us = true → ∃ vs, Vals vs us ∧ ∀ H, AtL K H vs ds
  | [], us, h => by
    unfold atBs at h
    cases us with
    | nil => exact ⟨[], .nil, fun H => .nil⟩
    | cons u us => cases h
  | d :: ds, us, h => by
    unfold atBs at h
    cases us with
    | nil => cases h
    | cons u us =>
      have h' : (atB K d u && atBs K ds us) = true := h
      rw [Bool.and_eq_true] at h'
      obtain ⟨v, r1, a1⟩ := atB_ok h'.1
      obtain ⟨vs, r2, a2⟩ := atBs_ok h'.2
      exact ⟨v :: vs, .cons r1 r2, fun H => .cons (a1 H) (a2 H)⟩
end
end VL

set_option Elab.async false
set_option linter.all false
set_option maxRecDepth 100000
set_option maxHeartbeats 4000000
namespace VL
variable [Tb]
open PySem L2
section
variable {X : Cx} {a b : Expr} {ρ : Rho} {kl : List D → Prop} {pos : Pos}
/-! a new list times an integer -/
theorem at_rep {K : PySem.W.Frag} {H : Hp} {vs : List V} {ds : List D} (a : AtL K H vs ds) : ∀ k : Nat, AtL K H (List.replicate k vs).flatten (List.replicate k ds).flatten
  | 0 => .nil
  | k + 1 => by
    rw [List.replicate_succ, List.flatten_cons, List.replicate_succ, List.flatten_cons]
    exact a.append (at_rep a k)
theorem xn_rep (h : XN X a ρ fun ds => XE X b ρ fun y => ∃ i, y = .int i ∧ (-(2 ^ 63) ≤ i ∧ i < 2 ^ 63) ∧ ds.length * i.toNat ≤ 100000 ∧ kl (List.replicate i.toNat ds).flatten) : XN X (.BinOp a .Mult b pos) ρ kl :=
  impE (pe_op op_rep anyE anyE) fun σ H Q ⟨S, E, q⟩ => ⟨_, h, S, E, fun p H1 vs ds hn1 e1 hp1 a1 hb => ⟨_, hb, p :: S, (E.hid e1 hn1 hp1).2, fun v H2 d e2 a2 ⟨i, hi, ⟨h1, h2⟩, hl, hk⟩ => by
    subst hi
    have a1' : AtL X.K (hide S H2) vs ds := (a1.mono (hide_ex e2)).mono (hide_sub fun x hx => List.mem_cons_of_mem _ hx)
    refine ⟨p, i, vs, rfl, a2.inv_int, e2.k _ _ hp1 True.intro, h1, h2, sz_of (by rw [a1.length]; exact hl), fun z hz => q z _ _ _ ((e1.trans e2).back hz) ((e1.trans e2).trans (Ex.new hz)) upd_same (newL (E.mono (e1.trans e2)).trk hz (at_rep a1' _)) hk⟩⟩⟩
end
end VL

set_option Elab.async false
set_option linter.all false
set_option maxRecDepth 100000
set_option maxHeartbeats 4000000
namespace VL
variable [Tb]
open PySem L2
/-! ## a def that returns a new list; range(a, b) -/
def spN (K : PySem.W.Frag) (n : Nat) (C : List D → (List D → Prop) → Prop) : Sp := fun vs H Q _ => ∃ S ds k, vs.length = n ∧ Trk S H ∧ AtL K (hide S H) vs ds ∧ C ds k ∧ ∀ p H2 us es, H p = none → Ex H H2 → H2 p = some (.lst us) → AtL K (hide (p :: S) H2) us es → k es → Q (.ref p) H2
def tSN (K : PySem.W.Frag) (S0 : List Addr) (H0 : Hp) (ρ : Rho) (kN : List D → Prop) : TS := fun E σ H => StOk K S0 H0 H σ ρ ∧ ∀ p H2 us es, H0 p = none → Ex H0 H2 → H2 p = some (.lst us) → AtL K (hide (p :: S0) H2) us es → kN es → E.rt (.ref p) H2
def XBN (X : Cx) (sts : List Stmt) (ρ : Rho) (kN : List D → Prop) : Prop := ∀ S0 H0, Trk S0 H0 → PSs X sts (tSN X.K S0 H0 ρ kN)
section
variable {X : Cx} {ρ : Rho} {j : J} {st : Stmt} {rest sts : List Stmt} {e a b : Expr} {es : List Expr} {pos p p2 : Pos} {kN kl : List D → Prop}
theorem xbn_cons (h : XS X st ρ { nx := fun ρ' => XBN X rest ρ' kN, rt := fun _ => False }) : XBN X (st :: rest) ρ kN := fun S0 H0 tr =>
  impSs (pss_cons anyS anySs) fun En σ H ⟨ok, f⟩ => ⟨_, h S0 H0 tr, ok, ⟨fun σ' H' ρ' ok' hb => ⟨_, hb S0 H0 tr, ok', f⟩, fun _ _ _ _ _ z => z.elim, fun _ _ _ _ z => z.elim, fun _ _ _ _ z => z.elim⟩⟩
theorem xbn_ret (h : XN X e ρ kN) : XBN X [.Return (some e) pos] ρ kN := fun S0 H0 tr =>
  impSs (pss_cons (ps_ret h) pss_nil) fun En σ H ⟨⟨S, h1, h2, h3, h4, E⟩, f⟩ => ⟨S, E, fun p H2 us es hn e2 hp a hk => f p H2 us es (h4.back hn) (h4.trans e2) hp (a.mono (hide_sub fun x hx => by
    rcases List.mem_cons.mp hx with z | z
    · exact List.mem_cons.mpr (.inl z)
    · exact List.mem_cons.mpr (.inr (h1 x z)))) hk⟩
/-- x, y = a, b: the first a new list, the frame's own -/
theorem xs_parN (i l : Nat) {x y : Str} {px py pt : Pos} {kt k2 pt2} (hc : X.calm = true) (hN : X.N.Nodup)
    (h : XN X a ρ fun ds => XE X b ρ fun d' => j.nx ((ρ.set i (.own ds)).set l (.dat d')))
    (hw : swappedStores [.Tuple [.Name x px, .Name y py] kt pt] (.Tuple [a, b] k2 pt2) X.env = pure (some [x, y]))
    (hi : X.N[i]? = some x := by rfl) (hl : X.N[l]? = some y := by rfl) (hil : i ≠ l := by decide)
    (hx : X.env.scope.names.lookup x = some .local := by rfl) (hy : X.env.scope.names.lookup y = some .local := by rfl)
    (hs : swapsWithSole [.Tuple [.Name x px, .Name y py] kt pt] (.Tuple [a, b] k2 pt2) pos.line X.env = pure false := by rfl)
    (s1 : starEach [a, b] X.env = (false, eval a X.env) :: starEach [b] X.env := by rfl) (s2 : starEach [b] X.env = (false, eval b X.env) :: starEach [] X.env := by rfl) :
    XS X (.Assign [.Tuple [.Name x px, .Name y py] kt pt] (.Tuple [a, b] k2 pt2) pos) ρ j := fun S0 H0 tr =>
  impS (ps_par hc hN hi hl hil hx hy (pa_cons anyE (pa_cons anyE pa_nil s2) s1) hw hs) fun En σ H ⟨⟨S, h1, h2, h3, h4, E⟩, f⟩ =>
    ⟨_, h, S, E, fun q H1 vs ds hn e1 hp a1 hb => useE hb (E.hid e1 hn hp).2 fun u H2 d' e2 a2 hk => ⟨.ref q, u, rfl, by
      have Ep := E.storeOwn (i := i) e1 hn hp a1
      have E2 := (Ep.mono e2).store (i := l) a2
      refine f.nx _ _ _ ⟨q :: S, fun b hb => List.mem_cons_of_mem _ (h1 b hb), fun b hb => ?_, fun m fs r k1 k2 => ?_, h4.trans (e1.trans e2), E2⟩ hk
      · rcases List.mem_cons.mp hb with z | z
        · rw [z]
          exact .inr (h4.back hn)
        · exact h2 b z
      · rcases ent_set k1 with ⟨rfl, r'⟩ | ⟨ne, r'⟩
        · cases r'
        · rw [List.getElem?_set_ne (Ne.symm ne)] at k2
          rcases ent_set r' with ⟨rfl, r''⟩ | ⟨ne', r''⟩
          · have hlt : m < σ.length := by
              have := get_lt k2
              rwa [List.length_set] at this
            rw [List.getElem?_set_self hlt] at k2
            cases k2
            exact h4.back hn
          · rw [List.getElem?_set_ne (Ne.symm ne')] at k2
            exact h3 m fs r r'' k2⟩⟩
/-- for name in range(a, b) -/
theorem xs_forR2 (i : Nat) {x : Str} {body : List Stmt} (h : XE X a ρ fun d => ∃ lo : Int, d = .int lo ∧ XE X b ρ fun d => ∃ n : Int, d = .int n ∧ (-(2 ^ 62) ≤ lo ∧ lo < 2 ^ 62) ∧ (-(2 ^ 62) ≤ n ∧ n < 2 ^ 62) ∧ ∃ W : Nat → Rho → Prop, W 0 ρ ∧
      (∀ (m : Nat) ρ', lo + (m : Int) < n → W m ρ' → XB X body (ρ'.set i (.dat (.int (lo + m)))) { nx := W (m + 1), rt := j.rt, bk := j.nx, ct := W (m + 1) }) ∧ ∀ ρ', W (n - lo).toNat ρ' → j.nx ρ') (hm : X.mg "range" = none) (hN : X.N.Nodup)
    (hc : X.calm = true := by rfl) (hg : Gl X "range" := by rfl) (hi : X.N[i]? = some x := by rfl) (hx : Loc X.env.scope x := by first | exact Or.inl rfl | exact Or.inr rfl) (hf : X.fn x = true ∨ X.env.scope.names.lookup x = some .local := by first | exact .inl rfl | exact .inr rfl)
    (s1 : starEach [a, b] X.env = (false, eval a X.env) :: starEach [b] X.env := by rfl) (s2 : starEach [b] X.env = (false, eval b X.env) :: starEach [] X.env := by rfl)
    (t1 : starEach [a, b] X.env = [(false, eval a X.env), (false, eval b X.env)] := by rfl) (t2 : starEach [b] X.env = [(false, eval b X.env)] := by rfl) (hp : PassesOwn (model X.prog X.w) X.A X.env X.xe := by exact PassesOwn.never)
    (hs : ∀ y, foldedSetIterable (.Call (.Name "range" p) [a, b] [] p2) X.env y = pure y := by intro _; rfl) {px : Pos} :
    XS X (.For (.Name x px) (.Call (.Name "range" p) [a, b] [] p2) body [] pos) ρ j := fun S0 H0 tr =>
  impS (ps_for hp hc (pi_range2 hg hm (pa_cons anyE (pa_cons anyE pa_nil s2) s1) t1 t2) (pg_name hN hi hx hf) anySs hs) fun En σ H ⟨⟨S, h1, h2, h3, h4, E⟩, f⟩ => useE h E fun v H1 d e1 a1 ⟨lo, hlo, hb⟩ => useE hb (E.mono e1) fun v2 H2 d2 e2 a2 ⟨n, hn, hb1, hb2, W, w0, hw, hd⟩ => by
    subst hlo hn
    have ok1 : StOk X.K S0 H0 H2 σ ρ := ⟨S, h1, h2, h3, h4.trans (e1.trans e2), (E.mono e1).mono e2⟩
    refine ⟨lo, n, by rw [a1.inv_int, a2.inv_int], ⟨hb1.1, hb1.2, hb2.1, hb2.2⟩, for_range (lo := lo) (n := (n - lo).toNat) (fun m σ' H' => ∃ ρ', StOk X.K S0 H0 H' σ' ρ' ∧ W m ρ') ⟨ρ, ok1, w0⟩ ?_ ?_⟩
    · rintro m σ' H' hm ⟨ρ', ⟨S', k1, k2, k3, k4, E'⟩, w'⟩
      refine ⟨_, hw m ρ' (by omega) w' S0 H0 tr, StOk.store k1 k2 k3 k4 E' (.int _), ⟨?_, f.rt, f.nx, ?_⟩⟩
      · exact fun σ3 H3 ρ3 ok3 hw3 => ⟨ρ3, ok3, hw3⟩
      · exact fun σ3 H3 ρ3 ok3 hw3 => ⟨ρ3, ok3, hw3⟩
    · rintro σ' H' ⟨ρ', ok', w'⟩
      exact f.nx σ' H' ρ' ok' (hd ρ' w')
end
section
variable {P : Program} {w : World} {K : PySem.W.Frag} {mg : Str → Option Value} {base : Heap}
theorem xdefN {x qual : Str} {st : Stmt} {f : Addr} {fd : FuncData} {N ps : List Str} {n : Nat} {C : List D → (List D → Prop) → Prop} (F : Fun K x qual st f fd) (Sc : FnScope N ps (defScope st))
    (body : ∀ (ds : List D) (k : List D → Prop), ds.length = ps.length → C ds k → ∀ (cdv : Value) (A : Around) (outer : List Env) (s : Shared) (H : Hp) (E : XK), Room n (A.deeper (PyProof.Rows.envOfC qual (defScope st) s.heap.objs.size f cdv)) →
      XBN (cxOf CX0 P w K mg base N qual (defScope st) f cdv A outer s H E).nox (defBody st) (startR N.length ds) k) (hne : ∀ (E : Ends) σ H, False → E.nx σ H := fun _ _ _ z => z.elim) : FnOk P w K mg base CX0 (n + 1) f fd ps (spN K ps.length C) := by
  have hpl : ps.length ≤ N.length := by
    have := congrArg List.length Sc.pre
    rw [List.length_take] at this
    omega
  refine F.ok Sc (fun vs H Q E h => ?_) fun cdv A outer s H vs Q E hr h => ?_
  · obtain ⟨_, _, _, hl, _⟩ := h
    exact hl
  · obtain ⟨S, ds, k, hl, tr, a, hc, q⟩ := h
    have hb := body ds k (by rw [← a.length]; exact hl) hc cdv A outer s H E hr
    exact ⟨_, hb S H tr, start_ok tr (by omega) a, fun p H2 us es hn e hp at_ hk => q p H2 us es hn e hp at_ hk⟩
structure FnN (P : Program) (w : World) (K : PySem.W.Frag) (mg : Str → Option Value) (base : Heap) (k : Nat) (x : Str) (ps : List Str) (C : List D → (List D → Prop) → Prop) : Prop where
  ex : ∃ f fd, mg x = some (.ref f) ∧ PySem.W.keepIn K (.ref f) = true ∧ Binds K fd ps [] ∧ FnOk P w K mg base CX0 k f fd ps (spN K ps.length C)
end
section
variable {X : Cx} {ρ : Rho} {e : Expr} {es : List Expr} {pos p : Pos} {kl : List D → Prop}
theorem xn_call {n m : Nat} {x : Str} {ps : List Str} {C : List D → (List D → Prop) → Prop} (F : FnN X.prog X.w X.K X.mg X.base n x ps C) (hr : Room m X.A) (h : XA X (e :: es) ρ fun ds => ds.length = ps.length ∧ C ds kl) (hnm : n ≤ m := by decide) (hg : Gl X x := by rfl)
    (hdb : (x == ("__debug__" : Str)) = false := by decide) (he : starEach (e :: es) X.env = (false, eval e X.env) :: starEach es X.env := by rfl) (hpl : (backTo pos (starEach es X.env)).any (·.1) = false := by rfl) :
    XN X (.Call (.Name x p) (e :: es) [] pos) ρ kl := by
  obtain ⟨f, fd, h1, h2, h3, h4⟩ := F.ex
  refine impE (pe_call h4 (hr.mono hnm) hg h1 h2 h3 .nil pass0 anyA hdb he hpl) fun σ H Q ⟨S, E, q⟩ => useA h E fun vs H1 ds e1 a1 ⟨hl, hc⟩ => ?_
  rw [List.append_nil]
  exact ⟨S, ds, kl, by rw [a1.length]; exact hl, (E.mono e1).trk, a1, hc, fun p H2 us es hn e2 hp a hk => q p H2 us es (e1.back hn) (e1.trans e2) hp a hk⟩
end
end VL

set_option Elab.async false
set_option linter.all false
set_option maxRecDepth 100000
set_option maxHeartbeats 4000000
namespace VL
variable [Tb]
open PySem PySem.Spec PyProof.Rows L2 ClX
/-! ## Texts read: membership, slices by steps, signs, int of a text, a classmethod -/
section
variable {X : Cx} {ρ : Rho} {a b e it elt o : Expr} {es : List Expr} {scope : Scope} {pos p p1 p2 p3 p4 apos px : Pos} {k : D → Prop} {kb : Bool → Prop} {kl : List D → Prop}
def rInT (K : PySem.W.Frag) : R2 := fun x y H Q => ∃ d ds, Dp K H x d ∧ Dp K H y (.tuple ds) ∧ SeqAt.shaped d = true ∧ SeqAt.shaped (.tuple ds) = true ∧ Q (.bl (ds.any fun z => PyData.eqv z d)) H
theorem op_inT {X : Cx} (hu : X.A.units + 65 < cLine) : OpR X (compareOp .In) (rInT X.K) := by
  intro pins s σ H x y v u Q I rx ry h
  obtain ⟨d, ds, hd, he, sd, se, q⟩ := h
  obtain ⟨as, r1⟩ := Dp.reads I d x v hd rx
  obtain ⟨bs, r2⟩ := Dp.reads I (.tuple ds) y u he ry
  exact SeqAt.in_tuple_reads r2 r1 (SeqAt.canLay_of_shaped se) (SeqAt.canLay_of_shaped sd) (room_in_shaped sd hu) ⟨.bl _, H, I, rfl, q⟩
/-- x in [..], x in (..) : data -/
def InL (x y : D) (r : Bool) : Prop := ∃ d ds, pyD x = some d ∧ pyD y = some (.list ds) ∧ SeqAt.shaped d = true ∧ SeqAt.shaped (.list ds) = true ∧ (ds.any fun z => PyData.eqv z d) = r
def InT (x y : D) (r : Bool) : Prop := ∃ d ds, pyD x = some d ∧ pyD y = some (.tuple ds) ∧ SeqAt.shaped d = true ∧ SeqAt.shaped (.tuple ds) = true ∧ (ds.any fun z => PyData.eqv z d) = r
theorem xt_inL {n : Nat} (hr : Room n X.A) (h : XE X a ρ fun x => XE X b ρ fun y => ∃ r, InL x y r ∧ kb r) (hmk : behindInMarks .In b = false := by with_unfolding_all rfl) : XT X (.Compare a [.In] [b] pos) ρ kb :=
  impT (pt_cmpR (op_inD (by have := hr.un; omega)) anyE anyE hmk) fun σ H Q ⟨S, E, q⟩ => useE h E fun x H1 d e1 a1 hb => useE hb (E.mono e1) fun y H2 d2 e2 a2 ⟨r, ⟨u, w, p1, p2, s1, s2, er⟩, hk⟩ => by
    subst er
    exact ⟨u, w, dp_of (a1.mono (hide_ex e2)) p1, dp_of a2 p2, s1, s2, _, rfl, q _ _ (e1.trans e2) hk⟩
theorem xt_inT {n : Nat} (hr : Room n X.A) (h : XE X a ρ fun x => XE X b ρ fun y => ∃ r, InT x y r ∧ kb r) (hmk : behindInMarks .In b = false := by with_unfolding_all rfl) : XT X (.Compare a [.In] [b] pos) ρ kb :=
  impT (pt_cmpR (op_inT (by have := hr.un; omega)) anyE anyE hmk) fun σ H Q ⟨S, E, q⟩ => useE h E fun x H1 d e1 a1 hb => useE hb (E.mono e1) fun y H2 d2 e2 a2 ⟨r, ⟨u, w, p1, p2, s1, s2, er⟩, hk⟩ => by
    subst er
    exact ⟨u, w, dp_of (a1.mono (hide_ex e2)) p1, dp_of a2 p2, s1, s2, _, rfl, q _ _ (e1.trans e2) hk⟩
/-- one sign in a text -/
theorem xe_inC (h : XE X a ρ fun x => ∃ c : Nat, x = .str ⟨#[c]⟩ ∧ XE X b ρ fun y => ∃ z : Str, y = .str z ∧ k (.bl (decide (c ∈ z.cps.toList)))) (hmk : behindInMarks .In b = false := by with_unfolding_all rfl) : XE X (.Compare a [.In] [b] pos) ρ k :=
  impE (pe_cmpR op_in_sign anyE anyE hmk) fun σ H Q ⟨S, E, q⟩ => useE h E fun x H1 d e1 a1 ⟨c, hc, hb⟩ => useE hb (E.mono e1) fun y H2 d2 e2 a2 ⟨z, hz, hk⟩ => by
    subst hc hz
    exact ⟨c, z, a1.inv_str, a2.inv_str, q _ _ _ (e1.trans e2) (.bl _) hk⟩
/-- x[i:], x[:i] of a text -/
theorem xe_cutFrom {i : Int} {cj : Nat} {cp : Pos} (h : XE X a ρ fun x => ∃ z, x = .str z ∧ z.length ≤ sizeLine ∧ k (.str (Txt.slice z (some i) none))) : XE X (.Subscript a (.Slice (some (.Constant (.int i) cj cp)) none none p2) pos) ρ k :=
  impE (pe_slice C8.sl_txt anyE (po_some pe_int) po_none) fun σ H Q ⟨S, E, q⟩ => useE h E fun x H1 d e1 a1 ⟨z, hz, hl, hk⟩ => by
    subst hz
    exact ⟨i, rfl, z, a1.inv_str, hl, q _ _ _ e1 (.str _) hk⟩
theorem xe_cutTo {i : Int} {cj : Nat} {cp : Pos} (h : XE X a ρ fun x => ∃ z, x = .str z ∧ z.length ≤ sizeLine ∧ k (.str (Txt.slice z none (some i)))) : XE X (.Subscript a (.Slice none (some (.Constant (.int i) cj cp)) none p2) pos) ρ k :=
  impE (pe_slice C8.sl_txt anyE po_none (po_some pe_int)) fun σ H Q ⟨S, E, q⟩ => useE h E fun x H1 d e1 a1 ⟨z, hz, hl, hk⟩ => by
    subst hz
    exact ⟨i, rfl, z, a1.inv_str, hl, q _ _ _ e1 (.str _) hk⟩
/-- x.split(sep) -/
theorem at_strs {K : PySem.W.Frag} {H : Hp} : ∀ ys : List Str, AtL K H (ys.map V.str) (ys.map D.str)
  | [] => .nil
  | y :: ys => .cons (.str y) (at_strs ys)
theorem xn_split (h : XE X a ρ fun x => ∃ s, x = .str s ∧ XE X b ρ fun y => ∃ t, y = .str t ∧ (t.length == 0) = false ∧ s.length + 2 ≤ sizeLine ∧ kl ((Txt.split s t).map D.str)) (hs : starEach [b] X.env = [(false, eval b X.env)] := by rfl)
    (hbase : attributeBase a "split" X.env (eval a X.env) = eval a X.env := by rfl) (hline : (apos.endLine == pos.line) = true := by rfl) : XN X (.Call (.Attribute a "split" apos) [b] [] pos) ρ kl :=
  impE (pe_split anyE anyE hs hbase hline) fun σ H Q ⟨S, E, q⟩ => useE h E fun x H1 d e1 a1 ⟨s, hs, hb⟩ => by
    subst hs
    refine ⟨⟨s, a1.inv_str⟩, useE hb (E.mono e1) fun y H2 d2 e2 a2 ⟨t, ht, h0, hl, hk⟩ => ?_⟩
    subst ht
    exact ⟨s, t, a1.inv_str, by rw [a2.inv_str], h0, hl, fun z hz => q z _ _ _ ((e1.trans e2).back hz) ((e1.trans e2).trans (Ex.new hz)) upd_same (at_strs _) hk⟩
/-- int(text) -/
theorem xe_intS (hm : X.mg "int" = none) (h : XE X a ρ fun d => ∃ z n, d = .str z ∧ PySem.intText? z = some n ∧ z.length ≤ 640 ∧ k (.int n)) (hg : Gl X "int" := by rfl)
    (he : starEach (a :: []) X.env = (false, eval a X.env) :: starEach [] X.env := by rfl) : XE X (.Call (.Name "int" p) [a] [] pos) ρ k :=
  xe_ct1 (R := fun d d' => ∃ z n, d = .str z ∧ PySem.intText? z = some n ∧ z.length ≤ 640 ∧ d' = .int n) call_int_str hm (by decide +kernel) (fun v d d' H S Q a1 ⟨z, n, h1, h2, h3, h4⟩ q => by
    subst h1 h4
    exact ⟨z, n, by rw [a1.inv_str], h2, h3, q _ (.int _)⟩) (h.imp fun d ⟨z, n, h1, h2, h3, h4⟩ => ⟨_, ⟨z, n, h1, h2, h3, rfl⟩, h4⟩) hg (by decide) (by decide) he
end
/-! ### a comprehension over a text's signs -/
theorem lc_str {x : Str} {g : TG} {tt : TT} {te : TE} {vs : List Nat} {σ : L2.St} {H1 : Hp} {D : Addr} {Qd : Hp → Prop} (Pv : Nat → Hp → Prop) (h0 : Pv 0 (upd H1 D (.lst [])))
    (hs : ∀ i c H, x.cps[i]? = some c → Pv i H → g (.str ⟨#[c]⟩) (wipe σ vs) H fun σ2 H2 => wipe σ2 vs = wipe σ vs ∧ tt σ2 H2 fun b H3 =>
      if b = true then te σ2 H3 fun y H4 => ∃ acc, H4 D = some (.lst acc) ∧ acc.length < sizeLine ∧ Pv (i + 1) (upd H4 D (.lst (acc ++ [y]))) else Pv (i + 1) H3) (hd : ∀ H, Pv x.cps.size H → Qd H) :
    ∃ W : Nat → Nat → Hp → Prop, (∃ m, W 0 m (upd H1 D (.lst []))) ∧ ∀ i m H, W i m H →
      ((Its x).stop i H ∧ Qd H) ∨ ((Its x).go i H ∧ ∃ Nx : Hp → Prop, (∀ H', Nx H' → ∃ m', m' < m ∧ W (i + 1) m' H') ∧ ∀ v H', (Its x).yld i H v H' → g v (wipe σ vs) H' fun σ2 H2 => wipe σ2 vs = wipe σ vs ∧ tt σ2 H2 fun b H3 =>
        if b = true then te σ2 H3 fun y H4 => ∃ acc, H4 D = some (.lst acc) ∧ acc.length < sizeLine ∧ Nx (upd H4 D (.lst (acc ++ [y]))) else Nx H3) := by
  refine ⟨fun i m H => m = x.cps.size - i ∧ i ≤ x.cps.size ∧ Pv i H, ⟨x.cps.size, by simp, Nat.zero_le _, h0⟩, ?_⟩
  rintro i m H ⟨rfl, hi, p⟩
  by_cases hlt : i < x.cps.size
  · refine .inr ⟨hlt, Pv (i + 1), fun H' p' => ⟨x.cps.size - (i + 1), by omega, rfl, hlt, p'⟩, fun v H' y => ?_⟩
    obtain ⟨e, c, hc, hv⟩ := y
    subst e hv
    exact hs i c _ hc p
  · have e : i = x.cps.size := by omega
    subst e
    exact .inl ⟨Nat.le_refl _, hd H p⟩
section
variable {X : Cx} {ρ : Rho} {a b e it elt o : Expr} {es : List Expr} {scope : Scope} {pos p p1 p2 p3 p4 apos px : Pos} {k : D → Prop} {kb : Bool → Prop} {kl : List D → Prop}
theorem xn_lcS (i : Nat) {x : Str} {W : Nat → List D → Prop} {z : Str} (h : XE X it ρ fun d => d = .str z ∧ W 0 [] ∧ ∀ acc, W z.cps.size acc → kl acc)
    (he : Blk X scope fun Y => ∀ (m c : Nat) acc, z.cps[m]? = some c → W m acc → XE Y elt ((ρ.set i .un).set i (.dat (.str ⟨#[c]⟩))) fun d' => acc.length < 100000 ∧ W (m + 1) (acc ++ [d'])) (hN : X.N.Nodup)
    (hB : blkC X.N X.env.scope scope [(x, i)] = true := by first | decide +kernel | rfl) (hc : X.calm = true := by rfl) (hi : X.N[i]? = some x := by rfl)
    (hx : Blk X scope fun Y => L2.Loc Y.env.scope x := by first | exact fun _ _ _ _ _ => Or.inl rfl | exact fun _ _ _ _ _ => Or.inr rfl)
    (hf : Blk X scope fun Y => Y.fn x = true ∨ Y.env.scope.names.lookup x = some .local := by first | exact fun _ _ _ _ _ => Or.inr rfl | exact fun _ _ _ _ _ => Or.inl rfl)
    (hs : ∀ y, foldedSetIterable it X.env y = pure y := by intro _; rfl) :
    XN X (.ListComp elt [⟨.Name x px, it, [], 0⟩] scope pos) ρ kl := by
  refine impE (pe_lc (own := [(x, i)]) (g := gName i) (tt := tYes) (te := cE X scope elt) hc hN (pi_str anyE) (blkOk_by hB)
    (fun s H C cl fp => pg_name hN hi (hx s H C cl fp) (hf s H C cl fp)) (fun _ _ _ _ _ => pts_nil) (fun s H C cl fp => impE anyE fun σ H Q q => q s _ C cl fp) hs) fun σ H Q ⟨S, E, q⟩ => useE h E fun v H1 d e1 az ⟨hd, w0, hend⟩ => ?_
  subst hd
  refine ⟨z, az.inv_str, fun Dl hD => ?_⟩
  have E1 := E.mono e1
  refine lc_str (x := z) (g := gName i) (tt := tYes) (te := cE X scope elt) (vs := [i]) (σ := σ) (Qd := fun H' => Q (.ref Dl) H') (Cw X.K S H1 W Dl) ⟨hD, Ex.new hD, [], [], upd_same, .nil, w0⟩ ?_ ?_
  · rintro m c H2 hm' p
    refine ⟨wipe_again σ i _, ?_⟩
    show cE X scope elt ((wipe σ [i]).set i (some (.str ⟨#[c]⟩))) H2 fun y H4 => ∃ acc, H4 Dl = some (.lst acc) ∧ acc.length < sizeLine ∧ Cw X.K S H1 W Dl (m + 1) (upd H4 Dl (.lst (acc ++ [y])))
    refine cw_turn p E1.trk (kd := fun _ _ => True) fun acc hw Q' q' s H' C cl fp => ?_
    obtain ⟨p1, p2, vs, acc', p3, p4, p5⟩ := p
    have E2 : EnvOk X.K (Dl :: S) H2 (wipe σ [i]) (ρ.set i .un) := (E1.hid p2 hD p3).2.wipe1 i
    exact useE (he s H' C cl fp m c acc hm' hw) (E2.store (.str _)) fun v3 H4 d3 e4 a4 hk => q' v3 H4 d3 e4 a4 hk
  · rintro H2 ⟨p1, p2, vs, acc, p3, p4, p5⟩
    exact q Dl H2 vs acc (e1.back hD) (e1.trans p2) p3 p4 (hend acc p5)
/-- name = [.. for x in a list], on one line, name a local -/
theorem xs_lcL (l i : Nat) {x y : Str} {py spos : Pos} {j : J} {W : Nat → List D → Prop} {ds : List D} (h : XL X it ρ fun es => es = ds ∧ W 0 [] ∧ ∀ acc, W ds.length acc → j.nx (ρ.set l (.dat (.lst acc))))
    (he : Blk X scope fun Y => ∀ (m : Nat) d acc, ds[m]? = some d → W m acc → XE Y elt ((ρ.set i .un).set i (.dat d)) fun d' => acc.length < 100000 ∧ W (m + 1) (acc ++ [d'])) (hN : X.N.Nodup)
    (hB : blkC X.N X.env.scope scope [(x, i)] = true := by first | decide +kernel | rfl) (hc : X.calm = true := by rfl) (hi : X.N[i]? = some x := by rfl) (hy : X.N[l]? = some y := by rfl) (hyl : X.env.scope.names.lookup y = some .local := by rfl)
    (hsw : swapsWith (.ListComp elt [⟨.Name x px, it, [], 0⟩] scope pos) (some (.Name y py)) spos.line X.env = pure true := by rfl)
    (hx : Blk X scope fun Y => L2.Loc Y.env.scope x := by first | exact fun _ _ _ _ _ => Or.inl rfl | exact fun _ _ _ _ _ => Or.inr rfl)
    (hf : Blk X scope fun Y => Y.fn x = true ∨ Y.env.scope.names.lookup x = some .local := by first | exact fun _ _ _ _ _ => Or.inr rfl | exact fun _ _ _ _ _ => Or.inl rfl)
    (hs : ∀ y, foldedSetIterable it X.env y = pure y := by intro _; rfl) :
    XS X (.Assign [.Name y py] (.ListComp elt [⟨.Name x px, it, [], 0⟩] scope pos) spos) ρ j := by
  refine xs_ofN l (kl := fun acc => j.nx (ρ.set l (.dat (.lst acc)))) (ps_setLc (own := [(x, i)]) (g := gName i) (tt := tYes) (te := cE X scope elt) hc hN hy hyl hsw (pi_list anyE) (blkOk_by hB)
    (fun s H C cl fp => pg_name hN hi (hx s H C cl fp) (hf s H C cl fp)) (fun _ _ _ _ _ => pts_nil) (fun s H C cl fp => impE anyE fun σ H Q q => q s _ C cl fp) hs) (fun σ H Q z => ?_) fun ds hk => hk
  obtain ⟨S, E, q⟩ := z
  refine useL h E fun a H1 vs0 es e1 hL a1 ⟨hd, w0, hend⟩ => ?_
  subst hd
  refine ⟨a, rfl, ⟨vs0, hL⟩, fun Dl hD => ?_⟩
  have E1 := E.mono e1
  refine lc_list (K := X.K) (a := a) (xs := vs0) (g := gName i) (tt := tYes) (te := cE X scope elt) (vs := [i]) (σ := σ) (Qd := fun H' => Q (.ref Dl) H') (Cw X.K S H1 W Dl) ⟨hD, Ex.new hD, [], [], upd_same, .nil, w0⟩ (fun m H2 _ p => ex_l p.2.1 hL) ?_ ?_
  · rintro m x0 H2 hm' p
    obtain ⟨d, hd, ad⟩ := a1.get' hm'
    refine ⟨wipe_again σ i _, ?_⟩
    show cE X scope elt ((wipe σ [i]).set i (some x0)) H2 fun y H4 => ∃ acc, H4 Dl = some (.lst acc) ∧ acc.length < sizeLine ∧ Cw X.K S H1 W Dl (m + 1) (upd H4 Dl (.lst (acc ++ [y])))
    refine cw_turn p E1.trk (kd := fun _ _ => True) fun acc hw Q' q' s H' C cl fp => ?_
    obtain ⟨p1, p2, vs, acc', p3, p4, p5⟩ := p
    have E2 : EnvOk X.K (Dl :: S) H2 (wipe σ [i]) (ρ.set i .un) := (E1.hid p2 hD p3).2.wipe1 i
    refine useE (he s H' C cl fp m d acc hd hw) (E2.store ?_) fun v3 H4 d3 e4 a4 hk => q' v3 H4 d3 e4 a4 hk
    exact (at_hid hD ad).mono (hide_ex p2)
  · rintro H2 ⟨p1, p2, vs, acc, p3, p4, p5⟩
    rw [a1.length] at p5
    exact q Dl H2 vs acc (e1.back hD) (e1.trans p2) p3 p4 (hend acc p5)
/-- a list by steps -/
theorem pick_eq {α : Type} (l : List α) (is : List Nat) : is.filterMap (l.toArray[·]?) = pick is l := by
  unfold pick
  congr 1
  funext i
  simp
def stepsOf (lo hi st : Option Int) (n : Nat) : List Nat := sliceRange (sliceBounds lo hi st n).1 (sliceBounds lo hi st n).2.1 (sliceBounds lo hi st n).2.2
theorem xn_stp {lo hi : Option Expr} {l h : Option Int} {st : Int} {cj : Nat} {cp : Pos} {tl th : TO} (hl : PO X lo tl) (hh : PO X hi th) (hl' : ∀ σ H, tl σ H fun o H2 => o = l ∧ H2 = H) (hh' : ∀ σ H, th σ H fun o H2 => o = h ∧ H2 = H) (h0 : st ≠ 0)
    (ha : XL X a ρ fun ds => kl (pick (stepsOf l h (some st) ds.length) ds)) : XN X (.Subscript a (.Slice lo hi (some (.Constant (.int st) cj cp)) p3) pos) ρ kl := by
  refine ⟨fun pins s σ H Q I hq => ?_⟩
  obtain ⟨S, E, q⟩ := hq
  refine Subscript_ (thn (ha.run pins s σ H (fun v H1 => ∃ p vs ds, v = .ref p ∧ Ex H H1 ∧ SqL X.K H1 p vs ∧ AtL X.K (hide S H1) vs ds ∧ kl (pick (stepsOf l h (some st) ds.length) ds)) I ⟨S, E, fun p H2 vs ds e h1 h2 h3 => ⟨p, vs, ds, rfl, e, h1, h2, h3⟩⟩) fun v s1 ⟨x, H1, I1, r1, q1⟩ => ?_)
  obtain ⟨ad, vs, ds, ex, e1, hx, at_, hk⟩ := q1
  subst ex
  cases r1
  have hst : PO X (some (.Constant (.int st) cj cp)) (tPart (tC (.int st))) := po_some pe_int
  refine wpAny_Slice (thn (hl.run pins s1 σ H1 (fun o H2 => o = l ∧ H2 = H1) I1 (hl' σ H1)) fun vl s2 ⟨lq, H2, I2, pl, el, e2⟩ => ?_)
  subst el e2
  refine thn (hh.run pins s2 σ H2 (fun o H3 => o = h ∧ H3 = H2) I2 (hh' σ H2)) fun vu s3 ⟨u, H3, I3, pu, eu, e3⟩ => ?_
  subst eu e3
  refine thn (hst.run pins s3 σ H3 (fun o H4 => o = some st ∧ H4 = H3) I3 ⟨st, rfl, rfl, rfl⟩) fun vst s4 ⟨ost, H4, I4, ps, eo, e4⟩ => ?_
  subst eo e4
  have I5 : Inv X pins σ H4 { s4 with heap := s4.heap.push { cls := .type "slice", data := .fields #[vl, vu, vst] } } := I4.kept (t' := s4.toks) fun b ob q => Heap.get?_push_of_some _ q
  obtain ⟨its, r, ht, hz⟩ := I5.list hx
  have hlen := r.length
  show wpAny (model X.prog X.w) X.A (subscriptTail a (.Slice lo hi (some (.Constant (.int st) cj cp)) p3) (.ref ad) (.ref s4.heap.objs.size)) (EP X pins σ Q) X.xe { s4 with heap := s4.heap.push { cls := .type "slice", data := .fields #[vl, vu, vst] } }
  refine tail_any (ops := [.ref ad, .ref s4.heap.objs.size]) ht.isList.typeIs (PySem.slot_list_getitem.lookup) ?_ (by with_unfolding_all rfl)
  refine wpAny_getItem_list_slice ht.isList (Heap.IsSliceOf.new _ vl vu vst) pl pu ps (by simpa using h0) ?_ (by rw [List.size_toArray]; omega)
  have hp : slicePick its.toArray lq u (some st) = (pick (stepsOf lq u (some st) ds.length) its).toArray := by
    unfold slicePick
    rw [pick_eq]
    unfold stepsOf
    rw [List.size_toArray, ← hlen, at_.length]
  rw [hp]
  have hn := I5.hok.fresh (Nat.le_refl _)
  refine ⟨.ref _, _, I5.laid (t' := s4.toks) (o := .lst (pick (stepsOf lq u (some st) ds.length) vs)) (fun b ob q => Heap.get?_push_of_some _ q) (Nat.le_refl _) ?_, rfl, q _ _ _ _ (e1.back hn) (e1.trans (Ex.new hn)) upd_same (newL (E.mono e1).trk hn (at_.pick _)) hk⟩
  have hle : (pick (stepsOf lq u (some st) ds.length) vs).length ≤ sizeLine := by
    have h1 := slicePick_size_le its.toArray lq u (some st)
    rw [hp, List.size_toArray, List.size_toArray] at h1
    have h2 := (vals_pick r (stepsOf lq u (some st) ds.length)).length
    omega
  exact ⟨hle, _, 0, vals_pick r _, Heap.get?_push_size _ rfl⟩
/-- C.m(x), m a classmethod of the class at C -/
theorem xe_cmeth {n j : Nat} {m x : Str} {C pa g : Addr} {mc : Value} {ps : Str} {s1 : Str} {Cn : Con} (hm : X.mg x = some (.ref C)) (r : CRead X.K C mc) (c : CMet X.K C mc m pa g) (F : FnA X.prog X.w X.K X.mg X.base n g [s1, ps] Cn) (hr : Room j X.A)
    (h : XE X e ρ fun d => Cn [.ptr C, d] k) (hnm : n ≤ j := by decide) (hg : Gl X x := by rfl) (hdb : (x == ("__debug__" : Str)) = false := by decide)
    (hst : starEach (e :: []) X.env = (false, eval e X.env) :: starEach [] X.env := by rfl) (hpl : (backTo pos (starEach [] X.env)).any (·.1) = false := by rfl) {pl : Sem Bool}
    (ht : eval (.Call (.Attribute (.Name x p) m apos) (e :: []) [] pos) X.env = (do
      let ov ← eval (.Name x p) X.env
      standAt apos.atName
      let (f, first) ← holding [ov] (getMethod ov m pl)
      callWith pos f first (backTo pos (starEach (e :: []) X.env)) (backToKw pos (keywordEach [] X.env))) := by rfl) :
    XE X (.Call (.Attribute (.Name x p) m apos) [e] [] pos) ρ k :=
  impE (pe_cmeth (pl := pl) (pe_glob hg hm (show RelV (.ref C) (.ref C) from rfl) hdb) r c F.raw (hr.mono hnm) pass0 (pa_cons anyE pa_nil hst) hst hpl ht) fun σ H Q ⟨S, E, q⟩ =>
    ⟨rfl, useE h E fun v H1 d e1 a1 hc => ⟨S, [.ptr C, d], k, rfl, (E.mono e1).trk, .cons (.ptr C) (.cons a1 .nil), hc, fun v2 H2 d2 e2 a2 hk => q v2 H2 d2 (e1.trans e2) a2 hk⟩⟩
end
end VL

set_option Elab.async false
set_option linter.all false
set_option maxRecDepth 100000
set_option maxHeartbeats 4000000
namespace VL
variable [Tb]
open PySem L2
section
variable {X : Cx} {ρ : Rho} {j : J} {a b : Expr} {pos p2 : Pos} {kl : List D → Prop}
/-- x, y = a, b : two new lists, the frame's own -/
theorem xs_twoN (i l : Nat) {x y : Str} {px py pt : Pos} {kt k2 pt2} (hN : X.N.Nodup) (h : XN X a ρ fun ds => XN X b ρ fun es => j.nx ((ρ.set i (.own ds)).set l (.own es)))
    (hi : X.N[i]? = some x := by rfl) (hl : X.N[l]? = some y := by rfl) (hil : i ≠ l := by decide) (hc : X.calm = true := by rfl)
    (hx : Loc X.env.scope x := by first | exact Or.inl rfl | exact Or.inr rfl) (hfx : X.fn x = true ∨ X.env.scope.names.lookup x = some .local := by first | exact .inl rfl | exact .inr rfl)
    (hy : Loc X.env.scope y := by first | exact Or.inl rfl | exact Or.inr rfl) (hfy : X.fn y = true ∨ X.env.scope.names.lookup y = some .local := by first | exact .inl rfl | exact .inr rfl)
    (s1 : starEach [a, b] X.env = (false, eval a X.env) :: starEach [b] X.env := by rfl) (s2 : starEach [b] X.env = (false, eval b X.env) :: starEach [] X.env := by rfl)
    (hn : (assignEach [Expr.Name x px, .Name y py] X.env).length = 2 := by rfl) (hst : (assignEach [Expr.Name x px, .Name y py] X.env).findIdx? (·.1) = none := by rfl)
    (hs : swapsWithSole [.Tuple [.Name x px, .Name y py] kt pt] (.Tuple [a, b] k2 pt2) pos.line X.env = pure false := by rfl) (hw : swappedStores [.Tuple [.Name x px, .Name y py] kt pt] (.Tuple [a, b] k2 pt2) X.env = pure none := by rfl)
    (h1 : (assignEach [.Tuple [.Name x px, .Name y py] kt pt] X.env).map (·.2) = [assign (.Tuple [.Name x px, .Name y py] kt pt) X.env] := by rfl)
    (t1 : (assignEach [Expr.Name x px, .Name y py] X.env).map (·.2) = assign (.Name x px) X.env :: (assignEach [Expr.Name y py] X.env).map (·.2) := by rfl) (t2 : (assignEach [Expr.Name y py] X.env).map (·.2) = assign (.Name y py) X.env :: (assignEach [] X.env).map (·.2) := by rfl) :
    XS X (.Assign [.Tuple [.Name x px, .Name y py] kt pt] (.Tuple [a, b] k2 pt2) pos) ρ j := fun S0 H0 tr =>
  impS (ps_asg (pe_tup (pa_cons anyE (pa_cons anyE pa_nil s2) s1)) (pg_tup hc (pgs_cons (pg_name hN hi hx hfx) (pgs_cons (pg_name hN hl hy hfy) pgs_nil t2) t1) hn hst) hs hw h1) fun En σ H ⟨⟨S, h1, h2, h3, h4, E⟩, f⟩ =>
    ⟨_, h, S, E, fun p H1 vs ds hn1 e1 hp1 a1 hb => ⟨_, hb, p :: S, (E.hid e1 hn1 hp1).2, fun q H2 us es hn2 e2 hp2 a2 hk => ⟨Nat.le_of_ble_eq_true rfl, fun t ht =>
      ⟨t, _, rfl, SqT.of upd_same, rfl, _, _, rfl, _, _, rfl, rfl, by
        have E1 := E.storeOwn (i := i) e1 hn1 hp1 a1
        have E2 := E1.storeOwn (i := l) e2 hn2 hp2 a2
        have E3 := E2.mono (Ex.new (o := .tup [.ref p, .ref q]) ht)
        have p0 : H0 p = none := h4.back hn1
        have q0 : H0 q = none := (h4.trans e1).back hn2
        refine f.nx _ _ _ ⟨q :: p :: S, fun b hb => List.mem_cons_of_mem _ (List.mem_cons_of_mem _ (h1 b hb)), fun b hb => ?_, fun m fs r k1 k2 => ?_, (h4.trans (e1.trans e2)).trans (Ex.new ht), E3⟩ hk
        · rcases List.mem_cons.mp hb with z | z
          · rw [z]
            exact .inr q0
          · rcases List.mem_cons.mp z with z | z
            · rw [z]
              exact .inr p0
            · exact h2 b z
        · by_cases hml : m = l
          · subst hml
            have hlt := get_lt k2
            rw [List.length_set] at hlt
            rw [List.getElem?_set_self hlt] at k2
            cases k2
            exact q0
          · rw [List.getElem?_set_ne (Ne.symm hml)] at k1 k2
            by_cases hmi : m = i
            · subst hmi
              have hlt := get_lt k2
              rw [List.length_set] at hlt
              rw [List.getElem?_set_self hlt] at k2
              cases k2
              exact p0
            · rw [List.getElem?_set_ne (Ne.symm hmi)] at k1 k2
              exact h3 m fs r k1 k2⟩⟩⟩⟩
def rCatS (K : PySem.W.Frag) : R2 := fun x y H Q => ∃ l b xs zs, x = .ref l ∧ y = .ref b ∧ SqL K H l xs ∧ SqL K H b zs ∧ xs.length + zs.length ≤ sizeLine ∧ ∀ p, H p = none → Q (.ref p) (upd H p (.lst (xs ++ zs)))
theorem op_catS {X : Cx} : OpR X (binaryOp .Add) (rCatS X.K) := by
  intro pins s σ H x y v u Q I rx ry h
  obtain ⟨l, b, xs, zs, rfl, rfl, hL, hB, hz, q⟩ := h
  cases rx
  cases ry
  obtain ⟨its, r, pl, _⟩ := I.list hL
  obtain ⟨its2, r2, pl2, _⟩ := I.list hB
  obtain ⟨⟨cls, dd, data, sl⟩, ho, hc, n, hd⟩ := id pl.isList
  obtain ⟨⟨cls2, dd2, data2, sl2⟩, ho2, hc2, n2, hd2⟩ := id pl2.isList
  simp only at hc hd hc2 hd2
  subst hc hd hc2 hd2
  have e : its.toArray ++ its2.toArray = (its ++ its2).toArray := by simp
  have l1 := r.length
  have l2 := r2.length
  refine PySem.concat_meets ⟨_, ho, rfl⟩ ⟨_, ho2, rfl⟩ PySem.noFill_list_add PySem.seq_list_add PySem.F.slot_list_add PySem.F.entry_list_add (PySem.F.args_list_add_2 _ _) (PyProof.Rows.list_addW l b its.toArray its2.toArray n n2 dd dd2 sl sl2 (by rw [List.size_toArray, List.size_toArray]; omega)) ⟨ho, ho2, ?_⟩
  rw [e]
  exact ⟨.ref _, _, I.lnew (t' := s.toks) (r.append r2) (by rw [List.length_append]; omega), rfl, q _ I.fresh⟩
/-- a new list and any list -/
theorem xn_catL (h : XN X a ρ fun ds => XL X b ρ fun es => ds.length + es.length ≤ 100000 ∧ kl (ds ++ es)) : XN X (.BinOp a .Add b pos) ρ kl :=
  impE (pe_op op_catS anyE anyE) fun σ H Q ⟨S, E, q⟩ => ⟨_, h, S, E, fun p H1 vs ds hn1 e1 hp1 a1 hb => useL hb (E.hid e1 hn1 hp1).2 fun r H2 us es e2 hL a2 ⟨hl, hk⟩ => by
    have a1' : AtL X.K (hide S H2) vs ds := (a1.mono (hide_ex e2)).mono (hide_sub fun x hx => List.mem_cons_of_mem _ hx)
    have a2' : AtL X.K (hide S H2) us es := a2.mono (hide_sub fun x hx => List.mem_cons_of_mem _ hx)
    exact ⟨p, r, vs, us, rfl, rfl, SqL.of (e2.k _ _ hp1 True.intro), hL, sz_of (by rw [a1.length, a2.length]; exact hl), fun z hz => q z _ _ _ ((e1.trans e2).back hz) ((e1.trans e2).trans (Ex.new hz)) upd_same (newL (E.mono (e1.trans e2)).trk hz (a1'.append a2')) hk⟩⟩
/-- a list from a place on -/
theorem xn_cutFrom {i : Int} {cj : Nat} {cp : Pos} (h : XL X a ρ fun ds => kl (cutD ds (some i) none)) : XN X (.Subscript a (.Slice (some (.Constant (.int i) cj cp)) none none p2) pos) ρ kl :=
  impE (pe_slice sl_list anyE (po_some pe_int) po_none) fun σ H Q ⟨S, E, q⟩ => useL h E fun p H1 vs ds e1 h1 h2 hk => ⟨i, rfl, p, vs, rfl, h1, fun r hr => q r _ _ _ (e1.back hr) (e1.trans (Ex.new hr)) upd_same (newL (E.mono e1).trk hr (cut_of h2)) hk⟩
end
section
variable {X : Cx} {ρ : Rho} {a b : Expr} {pos : Pos} {kb : Bool → Prop} {C g : Addr} {n m : Nat} {s1 s2 : Str} {Cn : Con}
theorem xt_eqO (q : EqAt X.K C g) (F : FnA X.prog X.w X.K X.mg X.base n g [s1, s2] Cn) (hr : Room m X.A) (h : XE X a ρ fun x => ∃ xs, x = .obj C xs ∧ XE X b ρ fun y => ∃ ys, y = .obj C ys ∧ Cn [x, y] fun r => ∃ t, r = .bl t ∧ kb t) (hnm : n ≤ m := by decide) : XT X (.Compare a [.Eq] [b] pos) ρ kb :=
  impT (pt_cmpR (SlX.op_own (op := .Eq) (E := fun _ _ _ => False) (fun _ _ => rfl) q.eq q.fn F.raw (hr.mono hnm) pass0) anyE anyE (nomark _)) fun σ H Q ⟨S, E, qq⟩ => useE h E fun x H1 d e1 a1 ⟨xs, hx, hb⟩ => useE hb (E.mono e1) fun y H2 d2 e2 a2 ⟨ys, hy, hc⟩ => by
    subst hx hy
    obtain ⟨a, dx, vs, rfl, h1, h2⟩ := a1.inv_obj
    obtain ⟨b, dy, ws, rfl, h3, h4⟩ := a2.inv_obj
    exact ⟨a, dx, _, b, C, dy, _, rfl, rfl, ex_s hide_le (ex_s (hide_ex e2) h1), ex_s hide_le h3, q.nf, sp2 (E.mono (e1.trans e2)).trk (a1.mono (hide_ex e2)) a2 hc fun v H3 d3 e3 a3 ⟨t, ht, hk⟩ => by
      subst ht
      exact ⟨t, a3.inv_bl, qq _ _ ((e1.trans e2).trans e3) hk⟩⟩
end
end VL

set_option Elab.async false
set_option linter.all false
set_option maxRecDepth 100000
set_option maxHeartbeats 4000000
namespace VL
variable [Tb]
open PySem L2
section
variable {X : Cx} {ρ : Rho} {a lo hi : Expr} {pos p2 : Pos} {kl : List D → Prop}
/-- a list from a reckoned place to another one -/
theorem xn_cutE (h : XL X a ρ fun ds => XE X lo ρ fun x => ∃ i, x = .int i ∧ XE X hi ρ fun y => ∃ j, y = .int j ∧ kl (cutD ds (some i) (some j))) : XN X (.Subscript a (.Slice (some lo) (some hi) none p2) pos) ρ kl :=
  impE (pe_slice sl_list anyE (po_some anyE) (po_some anyE)) fun σ H Q ⟨S, E, q⟩ => useL h E fun p H1 vs ds e1 h1 h2 hb => useE hb (E.mono e1) fun x H2 d e2 a2 ⟨i, hi, hc⟩ => by
    subst hi
    refine ⟨i, a2.inv_int, useE hc ((E.mono e1).mono e2) fun y H3 d3 e3 a3 ⟨j, hj, hk⟩ => ?_⟩
    subst hj
    exact ⟨j, a3.inv_int, p, vs, rfl, ex_l (e2.trans e3) h1, fun r hr => q r _ _ _ ((e1.trans (e2.trans e3)).back hr) ((e1.trans (e2.trans e3)).trans (Ex.new hr)) upd_same (newL (E.mono (e1.trans (e2.trans e3))).trk hr (cut_of (h2.mono (hide_ex (e2.trans e3))))) hk⟩
end
end VL

set_option Elab.async false
set_option linter.all false
set_option maxRecDepth 100000
set_option maxHeartbeats 4000000
namespace PySem.W
open PySem PySem.Builtin
/-! ## repr(x), bool(x) of an instance with an own __repr__, __bool__ -/
section
variable {prog : Program} {w : World} {A : Around} {E : Value → Shared → Prop} {s : Shared} {K : Frag} {x C f : Addr} {ox : Obj} {od : Option Obj}
theorem vl_repr {Q : Value → Shared → Prop} (hu : A.in1.units < cLine) (X : K.In s.heap) (I : InstAt s.heap x ox C od) (hs : findIn K (.ref C) "__repr__" = some (some (.ref f))) (hf : isFn K (.ref f) = true)
    (h : wpAny (model prog w) A.in1 (call (.ref f) [.ref x]) (fun r s' => ∃ m tk, r = .str m tk ∧ Q (.str m tk) s') E s) : wpAny (model prog w) A (call (.builtin "repr") [.ref x]) Q E s := by
  refine Calls.call_function_entry F.kind_repr F.plain_repr F.entry_repr (F.args_repr1 _) ?_
  unfold Builtin.«repr»
  refine wpAny_bind (m := oneArg "repr" _) (wpAny_pure ?_)
  refine wpAny_bind (wpAny_cRoomFor hu ?_)
  refine wpAny_bind (m := specialOf _ _) (wpAny_bind (I.type.here ((looks_findIn X hs).here ?_)))
  show wpAny _ _ (if (some (Value.ref f)).isNone = true then _ else _) _ _ _
  rw [if_neg (by simp)]
  refine wpAny_bind (m := callSpecialIfBound? (.ref x) (Str.ofString "__repr__") _) (ifBound_K X I hs hf (wpAny_mono h (fun r s' hr => ?_) fun _ _ y => y))
  obtain ⟨m, tk, rfl, hq⟩ := hr
  refine wpAny_bind (wpAny_isInstance (typeIs_str _ _ _) isSubtype_str_str ?_)
  first
    | exact wpAny_pure ⟨_, rfl, hq⟩
    | (rw [if_pos rfl]; exact wpAny_pure ⟨_, rfl, hq⟩)
    | (simp only [if_true]; exact wpAny_pure ⟨_, rfl, hq⟩)
theorem vl_truthy {M : Model} {Q : Bool → Shared → Prop} (X : K.In s.heap) (I : InstAt s.heap x ox C od) (hs : findIn K (.ref C) "__bool__" = some (some (.ref f))) (hf : isFn K (.ref f) = true)
    (h : wpAny M A (call (.ref f) [.ref x]) (fun r s' => ∃ b, r = .bool b ∧ Q b s') E s) : wpAny M A (truthy (.ref x)) Q E s := by
  unfold truthy
  first
    | (refine wpAny_bind (m := callSpecial? (.ref x) (Str.ofString "__bool__")) (special_fn X I hs (beq_iff_eq.mp hf) (wpAny_mono h (fun r s' hr => ?_) fun _ _ y => y)))
    | (refine wpAny_bind (wpAny_pure ?_); refine wpAny_bind (m := callSpecial? (.ref x) (Str.ofString "__bool__")) (special_fn X I hs (beq_iff_eq.mp hf) (wpAny_mono h (fun r s' hr => ?_) fun _ _ y => y)))
  obtain ⟨b, rfl, hq⟩ := hr
  exact wpAny_pure hq
open PySem.Sem (wp) in
theorem vl_bool {Q : Value → Shared → Prop} (X : K.In s.heap) (I : InstAt s.heap x ox C od) (hs : findIn K (.ref C) "__bool__" = some (some (.ref f))) (hf : isFn K (.ref f) = true)
    (h : wpAny (model prog w) A.in1.in1 (call (.ref f) [.ref x]) (fun r s' => ∃ b, r = .bool b ∧ Q (.bool b) s') E s) : wpAny (model prog w) A (call (.type "bool") [.ref x]) Q E s := by
  refine callType_codes (T := "bool") (Bi := Builtin.«object.__init__») (Q₁ := fun r s₁ => ∃ b, r = .bool b ∧ Q r s₁) PySem.F.called_bool (PySem.F.typeCall_bool_1 _) PySem.F.entry_object_init ?_ ?_
  · refine codeAny_of_tree ?_
    show wpAny _ A.in1.in1 (do checkBuiltinCall "bool.__new__" ⟨[.type "bool", .ref x], []⟩; again (.builtin "bool.__new__" ⟨[.type "bool", .ref x], []⟩)) _ _ s
    refine wpAny_bind (wpAny_of_eq (PySem.F.newCall_bool_1 _) (wpAny_pure ⟨plainId_quiet (by decide +kernel) _, codeAny_builtin PySem.F.entry_bool_new ?_⟩))
    rw [Around.under_plainId (by decide +kernel) _]
    have f1 := F.conv_sub_bool
    obtain ⟨hp, g, d, tk, os⟩ := s
    repeat (any_goals (first | assumption | (with_reducible refine vl_truthy X I hs hf (wpAny_mono h (fun r s' hr => ?_) fun _ _ y => y)) | wp_step))
    obtain ⟨b, rfl, hq⟩ := hr
    exact ⟨b, rfl, wpAny_pure ⟨b, rfl, hq⟩⟩
  · rintro obj s₁ ⟨b, rfl, hq⟩
    have ht : s₁.TypeIs (.bool b) "bool" := by first | exact typeIs_bool _ _ | rfl | trivial
    exact ⟨ht, PySem.F.args_object_init_2 _ _, object_init_meets PySem.F.called_bool.init.lookup PySem.F.called_bool.made (by decide) prog w A.in1 _ s₁ ⟨ht, rfl, hq⟩⟩
end
end PySem.W
namespace VL
variable [Tb]
open PySem L2
section
variable {X : Cx} {ρ : Rho} {a e : Expr} {es : List Expr} {p pos apos : Pos} {k : D → Prop} {C g : Addr} {n m : Nat} {s1 : Str} {Cn : Con}
def rReprO (C : Addr) (sp : Sp) : List V → Hp → VK → Prop := fun xs H Q => ∃ a dx vs, xs = [V.ref a] ∧ SlX.Slt H a C dx vs ∧ sp [.ref a] H (fun z H' => ∃ y, z = .str y ∧ Q z H') fun _ _ _ => False
theorem call_reprO {sp : Sp} (hs : PySem.W.findIn X.K (.ref C) "__repr__" = some (some (.ref g))) (hf : PySem.W.isFn X.K (.ref g) = true) (F : FnR X.prog X.w X.K X.mg X.base CX0 n g sp) (hr : Room (n + 1) X.A) : CallR X (.builtin "repr") (rReprO C sp) := by
  intro pins s σ H xs us Q I r h
  obtain ⟨a, dx, vs, rfl, hsl, q⟩ := h
  obtain ⟨u, rfl, ru⟩ := r.one
  cases (show u = Value.ref a from ru)
  obtain ⟨sl, od, _, J1, _⟩ := SlX.slt_inst I hsl
  have hr1 : Room n X.A.in1 := Room.in1 hr
  have un := hr1.units
  refine PySem.W.vl_repr (by omega) I.kIn J1 hs hf (wpAny_mono (wpAny_call (SlX.run_at (us := [.ref a]) (ws := [.ref a]) F hr1 I.env0.in1 pass0 I (.cons rfl .nil) q)) (fun w s' z => ?_) fun _ _ x => x)
  obtain ⟨z', H', I', rz, y, ey, qz⟩ := z
  subst ey
  obtain ⟨t, e⟩ := (show ∃ t, w = Value.str y t from rz)
  cases e
  exact ⟨y, t, rfl, .str y, H', I', ⟨t, rfl⟩, qz⟩
theorem xe_reprO (hm0 : X.mg "repr" = none) (hs : PySem.W.findIn X.K (.ref C) "__repr__" = some (some (.ref g))) (hf : PySem.W.isFn X.K (.ref g) = true) (F : FnA X.prog X.w X.K X.mg X.base n g [s1] Cn) (hr : Room m X.A)
    (h : XE X a ρ fun d => ∃ ds, d = .obj C ds ∧ Cn [d] fun r => ∃ y, r = .str y ∧ k (.str y)) (hnm : n + 1 ≤ m := by decide) (hg : Gl X "repr" := by rfl)
    (he : starEach (a :: []) X.env = (false, eval a X.env) :: starEach [] X.env := by rfl) : XE X (.Call (.Name "repr" p) [a] [] pos) ρ k :=
  impE (pe_callB (call_reprO hs hf F.raw (hr.mono hnm)) hg hm0 (by decide +kernel) (pa_cons anyE pa_nil he) (by decide) (by decide) he rfl) fun σ H Q ⟨S, E, q⟩ => useE h E fun v H1 d e1 a1 ⟨ds, hd, hc⟩ => by
    subst hd
    have a1' := a1
    obtain ⟨b, dx, vs, rfl, h1, h2⟩ := a1.inv_obj
    exact ⟨b, dx, vs.map some, rfl, ex_s hide_le h1, S, _, _, rfl, (E.mono e1).trk, .cons a1' .nil, hc, fun v2 H2 d2 e2 a2 ⟨y, hy, hk⟩ => by
      subst hy
      exact ⟨y, a2.inv_str, q _ _ _ (e1.trans e2) a2 hk⟩⟩
def rBoolO (C : Addr) (sp : Sp) : List V → Hp → VK → Prop := fun xs H Q => ∃ a dx vs, xs = [V.ref a] ∧ SlX.Slt H a C dx vs ∧ sp [.ref a] H (fun z H' => ∃ y, z = .bl y ∧ Q z H') fun _ _ _ => False
theorem call_boolO {sp : Sp} (hs : PySem.W.findIn X.K (.ref C) "__bool__" = some (some (.ref g))) (hf : PySem.W.isFn X.K (.ref g) = true) (F : FnR X.prog X.w X.K X.mg X.base CX0 n g sp) (hr : Room (n + 2) X.A) : CallR X (.type "bool") (rBoolO C sp) := by
  intro pins s σ H xs us Q I r h
  obtain ⟨a, dx, vs, rfl, hsl, q⟩ := h
  obtain ⟨u, rfl, ru⟩ := r.one
  cases (show u = Value.ref a from ru)
  obtain ⟨sl, od, _, J1, _⟩ := SlX.slt_inst I hsl
  have hr2 : Room n X.A.in1.in1 := (show Room (n + 1) X.A.in1 from Room.in1 hr).in1
  refine PySem.W.vl_bool I.kIn J1 hs hf (wpAny_mono (wpAny_call (SlX.run_at (us := [.ref a]) (ws := [.ref a]) F hr2 I.env0.in1.in1 pass0 I (.cons rfl .nil) q)) (fun w s' z => ?_) fun _ _ x => x)
  obtain ⟨z', H', I', rz, y, ey, qz⟩ := z
  subst ey
  cases (show w = Value.bool y from rz)
  exact ⟨y, rfl, .bl y, H', I', rfl, qz⟩
theorem xe_boolO (hm0 : X.mg "bool" = none) (hs : PySem.W.findIn X.K (.ref C) "__bool__" = some (some (.ref g))) (hf : PySem.W.isFn X.K (.ref g) = true) (F : FnA X.prog X.w X.K X.mg X.base n g [s1] Cn) (hr : Room m X.A)
    (h : XE X a ρ fun d => ∃ ds, d = .obj C ds ∧ Cn [d] fun r => ∃ y, r = .bl y ∧ k (.bl y)) (hnm : n + 2 ≤ m := by decide) (hg : Gl X "bool" := by rfl)
    (he : starEach (a :: []) X.env = (false, eval a X.env) :: starEach [] X.env := by rfl) : XE X (.Call (.Name "bool" p) [a] [] pos) ρ k :=
  impE (pe_callTy (call_boolO hs hf F.raw (hr.mono hnm)) hg hm0 (by decide +kernel) (pa_cons anyE pa_nil he) (by decide) (by decide) he rfl) fun σ H Q ⟨S, E, q⟩ => useE h E fun v H1 d e1 a1 ⟨ds, hd, hc⟩ => by
    subst hd
    have a1' := a1
    obtain ⟨b, dx, vs, rfl, h1, h2⟩ := a1.inv_obj
    exact ⟨b, dx, vs.map some, rfl, ex_s hide_le h1, S, _, _, rfl, (E.mono e1).trk, .cons a1' .nil, hc, fun v2 H2 d2 e2 a2 ⟨y, hy, hk⟩ => by
      subst hy
      exact ⟨y, a2.inv_bl, q _ _ _ (e1.trans e2) a2 hk⟩⟩
/-! ### C(k = v, ..) -/
structure MkrK (P : Program) (w : World) (K : PySem.W.Frag) (mg : Str → Option Value) (base : Heap) (k : Nat) (x : Str) (C : Addr) (n : Nat) (ks : List Str) (is : List Nat) (g : List D → List D) (Ok : List D → Prop) : Prop where
  ex : ∃ f fd ps, mg x = some (.ref C) ∧ Mk K C f ∧ KBn K fd ps 1 ks (fun us ws => us ++ pick is ws) (fun vs zs => vs ++ pick is zs) ∧ FnOk P w K mg base CX0 k f fd ps (spI K C n g Ok)
theorem xe_newK {n m N : Nat} {x : Str} {C : Addr} {ks : List Str} {is : List Nat} {g : List D → List D} {Ok : List D → Prop} {kws : List Keyword} (M : MkrK X.prog X.w X.K X.mg X.base n x C N ks is g Ok) (hr : Room m X.A) (h : XK' X kws ρ fun ds => ds.length = ks.length ∧ (pick is ds).length = N ∧ Ok (pick is ds) ∧ k (.obj C (g (pick is ds)))) (hnm : n + 1 ≤ m := by decide) (hg : Gl X x := by rfl)
    (hall : (backToKw pos (keywordEach kws X.env)).all (·.1.isSome) = true := by rfl) (hks : (backToKw pos (keywordEach kws X.env)).filterMap (·.1) = ks := by rfl) (hdb : (x == ("__debug__" : Str)) = false := by decide)
    (hpl : ((backTo pos (starEach [] X.env)).any (·.1) || (backToKw pos (keywordEach kws X.env)).any (·.1.isNone)) = false := by rfl) :
    XE X (.Call (.Name x p) [] kws pos) ρ k := by
  obtain ⟨f, fd, ps, h1, h2, h3, h4⟩ := M.ex
  refine impE (pe_makeK0 (E := fun _ _ _ => False) h2 h4 (hr.mono hnm) hg h1 h3 pass0 anyK hall hks hdb hpl) fun σ H Q ⟨S, E, q⟩ => ⟨_, h, S, E, fun zs H1 ds e1 a1 ⟨hl, hl2, hok, hk⟩ => ⟨rfl, by rw [a1.length]; exact hl, fun y dx hy hdx ne => ?_⟩⟩
  have E1 := E.mono e1
  have ny := hide_new E1.trk hy
  have nd := hide_new E1.trk hdx
  have gy : upd (upd H1 dx (.own y)) y (.ins C dx []) y = some (.ins C dx []) := upd_same
  have gd : upd (upd H1 dx (.own y)) y (.ins C dx []) dx = some (.own y) := by rw [upd_ne ne, upd_same]
  have go : ∀ z, z ≠ y → z ≠ dx → upd (upd H1 dx (.own y)) y (.ins C dx []) z = H1 z := fun z z1 z2 => by rw [upd_ne z1, upd_ne z2]
  have nn : ∀ z u, H1 z = some u → z ≠ y ∧ z ≠ dx := fun z u q => ⟨ne_of_none q hy, ne_of_none q hdx⟩
  refine ⟨y :: dx :: S, y, dx, pick is zs, pick is ds, rfl, by rw [(a1.pick is).length]; exact hl2, ⟨fun z hz => ?_, fun p hp => (E1.trk.tb p hp).ext fun z o hz => by rw [go z (nn z o hz).1 (nn z o hz).2]; exact hz⟩, by simp, by simp, gy, gd, ne, (a1.pick is).mono <| ExN.of fun z o hz => ?_, hok, fun H2 ws e2 aw sl => ⟨rfl, ?_⟩⟩
  · rcases List.mem_cons.mp hz with w | w
    · exact ⟨.ins C dx [], by rw [w]; exact gy, True.intro⟩
    · rcases List.mem_cons.mp w with w | w
      · exact ⟨.own y, by rw [w]; exact gd, True.intro⟩
      · obtain ⟨o, w2, w3⟩ := E1.trk.tr z w
        obtain ⟨z1, z2⟩ := nn z o w2
        exact ⟨o, by rw [go z z1 z2]; exact w2, w3⟩
  · have zS : z ∉ S := fun w => by
      rw [hide_in w] at hz
      cases hz
    rw [hide_out zS] at hz
    obtain ⟨z1, z2⟩ := nn z o hz
    rw [hide_out (by simp [z1, z2, zS]), go z z1 z2]
    exact hz
  · have e12 : Ex H1 H2 := Ex.trans (Ex.of fun z o hz => by
      obtain ⟨z1, z2⟩ := nn z o hz
      rw [hide_out (by simp [z1, z2]), go z z1 z2]
      exact hz) e2
    refine q (.ref y) H2 _ (e1.trans e12) (.obj (C := C) (dx := dx) (vs := ws) ?_ (aw.mono (hide_sub fun z hz => List.mem_cons_of_mem _ (List.mem_cons_of_mem _ hz)))) hk
    rcases sl with ⟨s1, s2⟩ | ⟨s1, s2⟩
    · exact .inl ⟨by rw [hide_out ny]; exact s1, s2⟩
    · exact .inr ⟨by rw [hide_out ny]; exact s1, by rw [hide_out nd]; exact s2⟩
/-! ### C.m(k = x), m a classmethod -/
structure FnAK (P : Program) (w : World) (K : PySem.W.Frag) (mg : Str → Option Value) (base : Heap) (C : Addr) (k : Nat) (g : Addr) (ps ks : List Str) (Cn : Con) : Prop where
  ex : ∃ fd, (∀ (s : Shared) (ws : List Value), K.In s.heap → ws.length = ks.length → BindsTo s fd ⟨[.ref C], ks.zip ws⟩ (ps.zip (.ref C :: ws))) ∧ ps.length = ks.length + 1 ∧ FnOk P w K mg base CX0 k g fd ps (spC K ps.length Cn)
theorem xe_cmethK {n j : Nat} {m x : Str} {C pa g : Addr} {mc : Value} {ps ks : List Str} {Cn : Con} {kws : List Keyword} (hm : X.mg x = some (.ref C)) (r : ClX.CRead X.K C mc) (c : ClX.CMet X.K C mc m pa g) (F : FnAK X.prog X.w X.K X.mg X.base C n g ps ks Cn) (hr : Room j X.A)
    (h : XK' X kws ρ fun ds => ds.length = ks.length ∧ Cn (.ptr C :: ds) k) (hnm : n ≤ j := by decide) (hg : Gl X x := by rfl) (hdb : (x == ("__debug__" : Str)) = false := by decide)
    (hall : (backToKw pos (keywordEach kws X.env)).all (·.1.isSome) = true := by rfl) (hks : (backToKw pos (keywordEach kws X.env)).filterMap (·.1) = ks := by rfl)
    (hpl : ((backTo pos (starEach [] X.env)).any (·.1) || (backToKw pos (keywordEach kws X.env)).any (·.1.isNone)) = false := by rfl) {pl : Sem Bool}
    (ht : eval (.Call (.Attribute (.Name x p) m apos) [] kws pos) X.env = (do
      let ov ← eval (.Name x p) X.env
      standAt apos.atName
      let (f, first) ← holding [ov] (getMethod ov m pl)
      callWith pos f first (backTo pos (starEach [] X.env)) (backToKw pos (keywordEach kws X.env))) := by rfl) :
    XE X (.Call (.Attribute (.Name x p) m apos) [] kws pos) ρ k := by
  obtain ⟨fd, h3, hlen, h4⟩ := F.ex
  refine ⟨fun pins s σ H Q I ⟨S, E, q⟩ => ?_⟩
  refine PySem.W.methodCall_KW (pl := pl) (thn ((pe_glob hg hm (show RelV (.ref C) (.ref C) from rfl) hdb).run pins s σ H (fun x H1 => x = .ref C ∧ H1 = H) I ⟨rfl, rfl⟩) fun u s1 ⟨x, H1, I1, rx, ex, eH⟩ => ?_) ht
  subst ex eH
  obtain rfl : u = Value.ref C := rx
  refine ClX.getmethcm_ok I1 r c fun s2 I2 => ?_
  refine PySem.W.callWith_of hpl (PySem.W.keeps_M (self := .ref C) c.fi) (PyProof.Rows.evalArgs_kw2_nil hall ?_)
  refine thn (anyK.run pos _ s2 σ H1 (fun vs H2 => ∃ ds, Ex H1 H2 ∧ AtL X.K (hide S H2) vs ds ∧ ds.length = ks.length ∧ Cn (.ptr C :: ds) k) I2 ⟨_, h, S, E, fun vs H2 ds e2 a2 hk => ⟨ds, e2, a2, hk⟩⟩) fun ws s3 ⟨zs, H2, I3, rz, ds, e2, a2, l1, hc⟩ => ⟨⟨ClX.pin_at I3, I3.kIn⟩, ?_⟩
  rw [hks]
  have lw : ws.length = ks.length := by rw [← rz.length, a2.length]; exact l1
  refine thn (Q := EP X ((s1.heap.objs.size, PySem.W.methodObj (.ref g) (.ref C)) :: pins) σ Q) (wpAny_call (PySem.W.method_call (ClX.pin_at I3) (codeAny_mono (h4.run X.A X.stack s3 H2 ⟨[.ref C], ks.zip ws⟩ (.ref C :: ws) (.ref C :: zs) Q (fun _ _ _ => False) (hr.mono hnm) I3.env0 (h3 s3 ws I3.kIn lw) (.cons rfl rz) ⟨S, .ptr C :: ds, k, by rw [List.length_cons, a2.length, l1]; exact hlen.symm, (E.mono e2).trk, .cons (.ptr C) a2, hc, fun v H3 d e3 a3 hk => q v H3 d (e2.trans e3) a3 hk⟩) fun r s' hq => ?_))) fun _ _ y => ClX.unpinE y
  cases r with
  | error e => exact (show False from hq).elim
  | ok fl =>
    cases fl with
    | ret u => exact I3.after hq
    | next => exact False.elim hq
    | brk => exact False.elim hq
    | cont => exact False.elim hq
end
section
variable {X : Cx} {ρ : Rho} {a b : Expr} {pos : Pos} {kl : List D → Prop}
/-- any list and a new list -/
theorem xn_catR (h : XL X a ρ fun ds => XN X b ρ fun es => ds.length + es.length ≤ 100000 ∧ kl (ds ++ es)) : XN X (.BinOp a .Add b pos) ρ kl :=
  impE (pe_op op_catS anyE anyE) fun σ H Q ⟨S, E, q⟩ => useL h E fun r H1 vs ds e1 hL a1 hb => ⟨_, hb, S, E.mono e1, fun p H2 us es hn2 e2 hp2 a2 ⟨hl, hk⟩ => by
    have a1' : AtL X.K (hide S H2) vs ds := a1.mono (hide_ex e2)
    have a2' : AtL X.K (hide S H2) us es := a2.mono (hide_sub fun x hx => List.mem_cons_of_mem _ hx)
    exact ⟨r, p, vs, us, rfl, rfl, ex_l e2 hL, SqL.of hp2, sz_of (by rw [a1.length, a2.length]; exact hl), fun z hz => q z _ _ _ ((e1.trans e2).back hz) ((e1.trans e2).trans (Ex.new hz)) upd_same (newL (E.mono (e1.trans e2)).trk hz (a1'.append a2')) hk⟩⟩
end
end VL

set_option Elab.async false
set_option linter.all false
set_option maxRecDepth 100000
set_option maxHeartbeats 4000000
namespace VL
variable [Tb]
open PySem L2
section
variable {X : Cx} {ρ : Rho} {a : Expr} {pos p2 : Pos} {k : D → Prop}
/-- the first parts of a tuple -/
theorem xe_cutT {i : Int} {cj : Nat} {cp : Pos} (h : XE X a ρ fun d => ∃ ds, d = .tup ds ∧ ¬ (HT.sIx ds.length 0 none = 0 ∧ HT.sIx ds.length ds.length (some i) = ds.length) ∧ k (.tup (cutD ds none (some i)))) : XE X (.Subscript a (.Slice none (some (.Constant (.int i) cj cp)) none p2) pos) ρ k :=
  impE (pe_slice sl_tup anyE po_none (po_some pe_int)) fun σ H Q ⟨S, E, q⟩ => useE h E fun v H1 d e1 a1 ⟨ds, hd, hw, hk⟩ => by
    subst hd
    obtain ⟨b, vs, rfl, h1, h2⟩ := a1.inv_tup
    refine ⟨i, rfl, b, vs, rfl, ex_t hide_le h1, by rw [h2.length]; exact hw, fun p hp => ?_⟩
    have np := hide_new (E.mono e1).trk hp
    refine q _ _ _ (e1.trans (Ex.new hp)) (.tup (SqT.of ?_) ((cut_of h2).mono (hide_ex (Ex.new hp)))) hk
    rw [hide_out np]
    exact upd_same
end
end VL

set_option Elab.async false
set_option linter.all false
set_option maxRecDepth 100000
set_option maxHeartbeats 4000000
namespace VL
variable [Tb]
open PySem PySem.Spec PyProof.Rows L2
/-! ## is of truths; .get of a written dict -/
section
variable {X : Cx} {ρ : Rho} {a b e f o : Expr} {pos cpos apos : Pos} {k : D → Prop} {kb : Bool → Prop}
theorem xt_isB (h : XE X a ρ fun x => ∃ p, x = .bl p ∧ XE X b ρ fun y => ∃ q, y = .bl q ∧ kb (decide (p = q))) : XT X (.Compare a [.Is] [b] pos) ρ kb :=
  impT (pt_cmpR op_isBl anyE anyE (nomark _)) fun σ H Q ⟨S, E, q⟩ => useE h E fun x H1 d e1 a1 ⟨u, hu, hb⟩ => useE hb (E.mono e1) fun y H2 d2 e2 a2 ⟨w, hw, hk⟩ => by
    subst hu hw
    exact ⟨u, w, a1.inv_bl, a2.inv_bl, _, rfl, q _ _ (e1.trans e2) hk⟩
theorem xt_notB (h : XE X a ρ fun x => ∃ p, x = .bl p ∧ XE X b ρ fun y => ∃ q, y = .bl q ∧ kb (!decide (p = q))) : XT X (.Compare a [.IsNot] [b] pos) ρ kb :=
  impT (pt_cmpR op_notBl anyE anyE (nomark _)) fun σ H Q ⟨S, E, q⟩ => useE h E fun x H1 d e1 a1 ⟨u, hu, hb⟩ => useE hb (E.mono e1) fun y H2 d2 e2 a2 ⟨w, hw, hk⟩ => by
    subst hu hw
    exact ⟨u, w, a1.inv_bl, a2.inv_bl, _, rfl, q _ _ (e1.trans e2) hk⟩
def tKGet (K : PySem.W.Frag) (c : Addr) (td ty tx : TE) : TE := fun σ H Q => td σ H fun x H1 => x = .ref c ∧ ty σ H1 fun y H2 => ∃ z : Str, y = .str z ∧ tx σ H2 fun r H3 => (∃ u v, PySem.W.nsIn K c z = some (some u) ∧ RelV v u ∧ Q v H3) ∨ (PySem.W.nsIn K c z = some none ∧ Q r H3)
theorem pe_kget {c : Addr} {es : Array DictEntry} {n : Nat} {td ty tx : TE} (D : KDict X.K X.w c es n) (ho : PE X o td) (he : PE X e ty) (hf : PE X f tx) (m : M2 X o "get" apos e f cpos) : PE X (.Call (.Attribute o "get" apos) [e, f] [] cpos) (tKGet X.K c td ty tx) := by
  refine ⟨fun pins s σ H Q I h => ?_⟩
  refine wpAny_Call_method m.base m.few m.line PySem.F.plainAttrs_dict PySem.F.slot_dict_get PySem.F.type_dict_get (thn (ho.run pins s σ H _ I h) fun u s1 ⟨x, H1, I1, rx, ex, q1⟩ => ?_)
  subst ex
  obtain rfl : u = Value.ref c := rx
  refine ⟨kd_type D I1, fun b hb => ?_, ?_⟩
  · cases hb
    exact ⟨_, I1.kIn _ _ D.at_, rfl⟩
  rw [m.trees]
  refine Calls.callWith_builtin rfl (Calls.evalArgs_plain (Calls.spliced_cons (thn (he.run pins s1 σ H1 _ I1 q1) fun iv s2 ⟨y, H2, I2, ry, z, ey, q2⟩ =>
    Calls.spliced_cons (thn (hf.run pins s2 σ H2 _ I2 q2) fun fv s3 ⟨r, H3, I3, rr, q3⟩ => Calls.spliced_nil ?_))))
  subst ey
  obtain ⟨t, rfl⟩ := (show ∃ t, iv = Value.str z t from ry)
  have hm := PySem.W.mapOf_K (prog := X.prog) (w := X.w) I3.kIn D.at_ D.lit
  refine call_meetsIn PySem.F.slot_dict_get (kd_type D I3) PySem.F.entry_dict_get (PySem.F.args_dict_get_3 _ _ _) (meets_dict_get_default (strKind X.prog X.w) c (PySem.strKind_is X.prog X.w z t) D.low fv) ⟨_, hm, ?_⟩
  rcases q3 with ⟨u, v, e1, r1, q⟩ | ⟨e1, q⟩
  · have := PySem.W.find_K D.at_ e1
    show EP X pins σ Q _ _
    simp only [this]
    exact ⟨v, H3, I3.tok _, r1, q⟩
  · have := PySem.W.find_K D.at_ e1
    show EP X pins σ Q _ _
    simp only [this]
    exact ⟨r, H3, I3.tok _, rr, q⟩
/-- d.get(k, x), d a written dict with text keys -/
theorem xe_kget {c : Addr} {es : Array DictEntry} {n : Nat} (D : KDict X.K X.w c es n) (h : XE X o ρ fun d => d = .ptr c ∧ XE X e ρ fun y => ∃ z : Str, y = .str z ∧ XE X f ρ fun r => (∃ (i : Int) (u : Value), PySem.W.nsIn X.K c z = some (some u) ∧ RelV (.int i) u ∧ k (.int i)) ∨ (PySem.W.nsIn X.K c z = some none ∧ k r))
    (h1 : attributeBase o "get" X.env (eval o X.env) = eval o X.env := by rfl)
    (h2 : ((backTo cpos (starEach [e, f] X.env)).all (fun x => !x.1) && (backToKw cpos (keywordEach [] X.env)).all (fun x => x.1.isSome) && decide (([e, f] : List Expr).length + ([] : List Keyword).length + (if ([] : List Keyword).isEmpty then 0 else 1) < 30)) = true := by rfl)
    (h3 : (apos.endLine == cpos.line) = true := by rfl) (h4 : backTo cpos (starEach [e, f] X.env) = [(false, eval e X.env), (false, eval f X.env)] := by rfl) :
    XE X (.Call (.Attribute o "get" apos) [e, f] [] cpos) ρ k :=
  impE (pe_kget D anyE anyE anyE ⟨h1, h2, h3, h4⟩) fun σ H Q ⟨S, E, q⟩ => useE h E fun x H1 d e1 a1 ⟨hd, hb⟩ => by
    subst hd
    exact ⟨a1.inv_ptr, useE hb (E.mono e1) fun y H2 d2 e2 a2 ⟨z, hz, hc⟩ => by
      subst hz
      exact ⟨z, a2.inv_str, useE hc ((E.mono e1).mono e2) fun r H3 d3 e3 a3 hk => by
        rcases hk with ⟨i, u, n1, r1, hk⟩ | ⟨n1, hk⟩
        · exact .inl ⟨u, .int i, n1, r1, q _ _ _ ((e1.trans e2).trans e3) (.int i) hk⟩
        · exact .inr ⟨n1, q _ _ _ ((e1.trans e2).trans e3) a3 hk⟩⟩⟩
end
end VL

set_option Elab.async false
set_option linter.all false
set_option maxRecDepth 100000
set_option maxHeartbeats 4000000
namespace VL
variable [Tb]
open PySem PySem.Spec PyProof.Rows L2
open AutoSeq1 (wpAny_loadPart')
open MeetsSeq MeetsSeq2 MeetsSeq3 SeqRoads2
open PySem.SeqAt (EqIn)
/-! ## == over lists and tuples of things of an own class: a comparison may make new objects -/
section
variable {prog : Program} {w : World}
/-- the comparisons item by item, as far as they are asked; G stands behind each -/
def Ch (prog : Program) (w : World) (A : Around) (G : Shared → Prop) : List V → List V → Shared → (Bool → Shared → Prop) → Prop
  | [], [], s, Q => Q true s
  | y :: ys, x :: xs, s, Q => ∀ (E : Value → Shared → Prop) (u u' : Value), RelV y u → RelV x u' → wpAny (model prog w) A (eqBool u u') (fun b s' => G s' ∧ if b = true then Ch prog w A G ys xs s' Q else Q false s') E s
  | _, _, s, Q => Q false s
/-- both are still there -/
def Two (T : String) (l b : Addr) (items items2 : Array Value) (s : Shared) : Prop := (∃ o n, s.heap.get? l = some o ∧ o.cls = .type T ∧ o.data = .seq items n) ∧ ∃ o n, s.heap.get? b = some o ∧ o.cls = .type T ∧ o.data = .seq items2 n
def TwoV (l b : Addr) (vs ws : List V) (s : Shared) : Prop := ∃ items items2 : Array Value, Two "list" l b items items2 s ∧ Vals vs items.toList ∧ Vals ws items2.toList
theorem vals_drop {vs : List V} {us : List Value} {v : V} {r : List V} {i : Nat} (h : Vals vs us) (e : vs.drop i = v :: r) : ∃ u, us[i]? = some u ∧ RelV v u := by
  have : vs[i]? = some v := by
    have := congrArg List.head? e
    rw [List.head?_drop] at this
    simpa using this
  exact h.get this
theorem eq_loopX (l b : Addr) (vs ws : List V) (hsz : vs.length = ws.length) (k : Nat) :
    ∀ i : Nat, vs.length - i = k → MeetsIn prog w (Builtin.«list.__eq__.loop» ⟨[.ref l, .ref b, rawInt i, rawInt 2], []⟩)
      (fun A R s => TwoV l b vs ws s ∧ Ch prog w A.in1 (TwoV l b vs ws) (vs.drop i) (ws.drop i) s fun r s' => R (.ok (.ret (.bool r))) s') := by
  induction k with
  | zero =>
    intro i hk A R s h
    obtain ⟨hp, g, d, tk, os⟩ := s
    obtain ⟨⟨items, items2, ⟨⟨⟨cls, dd, data, sl⟩, n, hl, hc, hd⟩, ⟨cls2, dd2, data2, sl2⟩, n2, hb, hc2, hd2⟩, q1, q2⟩, h⟩ := h
    simp only at hc hd hc2 hd2
    subst hc hd hc2 hd2
    have z1 := q1.length
    have z2 := q2.length
    simp only [Array.length_toList] at z1 z2
    wp_walk using wpAny_loadPart' hl, wpAny_loadPart' hb
    have hi1 : items[((i : Nat) : Int).toNat]? = none := by simp; omega
    have hi2 : items2[((i : Nat) : Int).toNat]? = none := by simp; omega
    have e1 : vs.drop i = [] := List.drop_of_length_le (by omega)
    have e2 : ws.drop i = [] := List.drop_of_length_le (by omega)
    rw [e1, e2] at h
    rw [hi1, hi2]
    wp_walk using wpAny_loadPart' hl, wpAny_loadPart' hb
    show R (.ok (.ret (.bool (items.size == items2.size)))) _
    rw [show (items.size == items2.size) = true by simp; omega]
    simpa [Ch] using h
  | succ k ih =>
    intro i hk A R s h
    obtain ⟨hp, g, d, tk, os⟩ := s
    obtain ⟨⟨items, items2, ⟨⟨⟨cls, dd, data, sl⟩, n, hl, hc, hd⟩, ⟨cls2, dd2, data2, sl2⟩, n2, hb, hc2, hd2⟩, q1, q2⟩, h⟩ := h
    simp only at hc hd hc2 hd2
    subst hc hd hc2 hd2
    have z1 := q1.length
    have z2 := q2.length
    simp only [Array.length_toList] at z1 z2
    have hlt : i < items.size := by omega
    have hlt2 : i < items2.size := by omega
    have e1 : ∃ v r, vs.drop i = v :: r ∧ vs.drop (i + 1) = r := by
      cases e : vs.drop i with
      | nil =>
        have := congrArg List.length e
        simp at this
        omega
      | cons v r => exact ⟨v, r, rfl, by rw [← List.drop_drop, e]; rfl⟩
    have e2 : ∃ v r, ws.drop i = v :: r ∧ ws.drop (i + 1) = r := by
      cases e : ws.drop i with
      | nil =>
        have := congrArg List.length e
        simp at this
        omega
      | cons v r => exact ⟨v, r, rfl, by rw [← List.drop_drop, e]; rfl⟩
    obtain ⟨v1, r1, f1, g1⟩ := e1
    obtain ⟨v2, r2, f2, g2⟩ := e2
    obtain ⟨u1, p1, rv1⟩ := vals_drop q1 f1
    obtain ⟨u2, p2, rv2⟩ := vals_drop q2 f2
    wp_walk using wpAny_loadPart' hl, wpAny_loadPart' hb
    have hi1 : items[((i : Nat) : Int).toNat]? = some u1 := by rw [← p1]; simp
    have hi2 : items2[((i : Nat) : Int).toNat]? = some u2 := by rw [← p2]; simp
    rw [f1, f2] at h
    rw [hi1, hi2]
    refine wpAny_bind (wpAny_mono (h _ u1 u2 rv1 rv2) (fun r s' hr => ?_) fun _ _ e => e)
    obtain ⟨g', hq⟩ := hr
    obtain ⟨hp', g0, d', tk', os'⟩ := s'
    cases r with
    | true =>
      rw [if_pos rfl] at hq
      wp_walk
      rw [show ((i : Int) + 1) = ((i + 1 : Nat) : Int) by push_cast; rfl]
      exact ⟨plainId_quiet plain_eq_loop _, codeAny_builtin entry_eq_loop (by
        rw [Around.under_plainId plain_eq_loop _]
        exact ih (i + 1) (by omega) A R _ ⟨g', by rw [g1, g2]; exact hq⟩)⟩
    | false =>
      rw [if_neg (by decide)] at hq
      obtain ⟨items, items2, ⟨⟨⟨cls, dd, data, sl⟩, n, hl, hc, hd⟩, ⟨cls2, dd2, data2, sl2⟩, n2, hb, hc2, hd2⟩, q1, q2⟩ := g'
      simp only at hc hd hc2 hd2
      subst hc hd hc2 hd2
      obtain ⟨u1, p1, rv1⟩ := vals_drop q1 f1
      obtain ⟨u2, p2, rv2⟩ := vals_drop q2 f2
      have hi1 : items[((i : Nat) : Int).toNat]? = some u1 := by rw [← p1]; simp
      have hi2 : items2[((i : Nat) : Int).toNat]? = some u2 := by rw [← p2]; simp
      wp_walk using wpAny_loadPart' hl, wpAny_loadPart' hb
      rw [hi1, hi2]
      wp_walk
      simpa using hq
theorem list_eqX (l b : Addr) (vs ws : List V) (hsz : vs.length = ws.length) :
    MeetsIn prog w (Builtin.«list.__eq__» ⟨[.ref l, .ref b], []⟩)
      (fun A R s => TwoV l b vs ws s ∧ Ch prog w A.in1 (TwoV l b vs ws) vs ws s fun r s' => R (.ok (.ret (.bool r))) s') := by
  intro A R s h
  obtain ⟨hp, g, d, tk, os⟩ := s
  have h0 := h
  obtain ⟨⟨items, items2, ⟨⟨⟨cls, dd, data, sl⟩, n, hl, hc, hd⟩, ⟨cls2, dd2, data2, sl2⟩, n2, hb, hc2, hd2⟩, q1, q2⟩, h⟩ := h
  simp only at hc hd hc2 hd2
  subst hc hd hc2 hd2
  have z1 := q1.length
  have z2 := q2.length
  simp only [Array.length_toList] at z1 z2
  have f3 := AutoSeq1.sub_list_list
  have hne : ¬ (items.size != items2.size) = true := by simp; omega
  wp_walk using wpAny_loadPart' hl, wpAny_loadPart' hb
  exact ⟨plainId_quiet plain_eq_loop _, codeAny_builtin entry_eq_loop (by
    rw [Around.under_plainId plain_eq_loop _]
    exact eq_loopX l b vs ws hsz _ 0 rfl A R _ h0)⟩
end
end VL

set_option Elab.async false
set_option linter.all false
set_option maxRecDepth 100000
set_option maxHeartbeats 4000000
namespace VL
variable [Tb]
open PySem PySem.Spec PyProof.Rows L2
open AutoSeq1 (wpAny_loadPart')
open MeetsSeq MeetsSeq2 MeetsSeq3 SeqRoads2
open PySem.SeqAt (EqIn)
section
variable {prog : Program} {w : World}
theorem ch_end {A : Around} {G : Shared → Prop} {Q : Bool → Shared → Prop} {s : Shared} : ∀ {ys xs : List V}, (ys = [] ∨ xs = []) → Ch prog w A G ys xs s Q → Q (ys.length == xs.length) s
  | [], [], _, h => h
  | [], _ :: _, _, h => h
  | _ :: _, [], _, h => h
  | _ :: _, _ :: _, z, _ => by rcases z with z | z <;> cases z
theorem tuple_eqX (l b : Addr) (vs ws : List V) :
    MeetsIn prog w (Builtin.«tuple.__eq__» ⟨[.ref l, .ref b], []⟩)
      (fun A R s => (∃ items items2 : Array Value, Two "tuple" l b items items2 s ∧ Vals vs items.toList ∧ Vals ws items2.toList) ∧ Ch prog w A.in1 (fun _ => True) vs ws s fun r s' => R (.ok (.ret (.bool r))) s') :=
  .of_wp fun A R s h => by
    obtain ⟨hp, g, d, tk, os⟩ := s
    obtain ⟨⟨items, items2, ⟨⟨⟨cls, dd, data, sl⟩, n, hl, hc, hd⟩, ⟨cls2, dd2, data2, sl2⟩, n2, hb, hc2, hd2⟩, q1, q2⟩, h⟩ := h
    simp only at hc hd hc2 hd2
    subst hc hd hc2 hd2
    have z1 := q1.length
    have z2 := q2.length
    simp only [Array.length_toList] at z1 z2
    have f2 := AutoSeq1.sub_tuple_tuple
    wp_walk using wpAny_loadPart' hl, wpAny_loadPart' hb, wpAny_forIn_list _ (fun rest b' s' => b'.1 = none ∧ ∃ i, rest = (items.toList.drop i).zip (items2.toList.drop i) ∧
      i ≤ items.size ∧ i ≤ items2.size ∧ Ch prog w A.in1 (fun _ => True) (vs.drop i) (ws.drop i) s' fun r s' => R (.ok (.ret (.bool r))) s') _
    case turn =>
      rintro ⟨y, x⟩ rest b' s' ⟨hb', i, hz, i1, i2, hR⟩
      have : ∃ ys xs, items.toList.drop i = y :: ys ∧ items2.toList.drop i = x :: xs ∧ rest = ys.zip xs := by
        cases e1 : items.toList.drop i with
        | nil =>
          rw [e1] at hz
          cases hz
        | cons y' ys =>
          cases e2 : items2.toList.drop i with
          | nil =>
            rw [e1, e2] at hz
            cases hz
          | cons x' xs =>
            rw [e1, e2] at hz
            injection hz with h1 h2
            injection h1 with h3 h4
            exact ⟨ys, xs, by rw [h3], by rw [h4], h2⟩
      obtain ⟨ys, xs, e1, e2, er⟩ := this
      have t1 : items.toList.drop (i + 1) = ys := by rw [← List.drop_drop, e1]; rfl
      have t2 : items2.toList.drop (i + 1) = xs := by rw [← List.drop_drop, e2]; rfl
      have l1 : i + 1 ≤ items.size := by
        have := congrArg List.length e1
        simp at this
        omega
      have l2 : i + 1 ≤ items2.size := by
        have := congrArg List.length e2
        simp at this
        omega
      have k1 : ∃ v r, vs.drop i = v :: r ∧ vs.drop (i + 1) = r := by
        cases e : vs.drop i with
        | nil =>
          have := congrArg List.length e
          simp at this
          omega
        | cons v r => exact ⟨v, r, rfl, by rw [← List.drop_drop, e]; rfl⟩
      have k2 : ∃ v r, ws.drop i = v :: r ∧ ws.drop (i + 1) = r := by
        cases e : ws.drop i with
        | nil =>
          have := congrArg List.length e
          simp at this
          omega
        | cons v r => exact ⟨v, r, rfl, by rw [← List.drop_drop, e]; rfl⟩
      obtain ⟨v1, r1, f1, g1⟩ := k1
      obtain ⟨v2, r2, f3, g3⟩ := k2
      obtain ⟨u1, p1, rv1⟩ := vals_drop q1 f1
      obtain ⟨u2, p2, rv2⟩ := vals_drop q2 f3
      have y1 : u1 = y := by
        have := congrArg List.head? e1
        rw [List.head?_drop, p1] at this
        simpa using this
      have x1 : u2 = x := by
        have := congrArg List.head? e2
        rw [List.head?_drop, p2] at this
        simpa using this
      subst y1 x1
      rw [f1, f3] at hR
      refine wpAny_bind (wpAny_mono (hR _ _ _ rv1 rv2) (fun r s2 hr => ?_) fun _ _ e => e)
      obtain ⟨_, hq⟩ := hr
      cases r with
      | true =>
        rw [if_pos rfl] at hq
        wp_walk
        exact ⟨rfl, i + 1, by rw [er, t1, t2], l1, l2, by rw [g1, g3]; exact hq⟩
      | false =>
        rw [if_neg (by decide)] at hq
        wp_walk
        exact ⟨_, rfl, by simpa using hq⟩
    case fin =>
      rintro ⟨b1, b2⟩ s' ⟨hb', i, hz, i1, i2, hR⟩
      simp only at hb'
      subst hb'
      have hn : vs.drop i = [] ∨ ws.drop i = [] := by
        by_cases c : items.size ≤ i
        · exact .inl (List.drop_of_length_le (by omega))
        · refine .inr (List.drop_of_length_le ?_)
          by_cases c2 : items2.size ≤ i
          · omega
          · exfalso
            have := congrArg List.length hz
            simp at this
            omega
      have := ch_end hn hR
      have e : ((vs.drop i).length == (ws.drop i).length) = (items.size == items2.size) := by
        rw [Bool.eq_iff_iff]
        simp
        omega
      rw [e] at this
      wp_walk
      exact ⟨_, rfl, by simpa [Builtin.Tuple.tupleCompareSizes] using this⟩
    case h =>
      exact ⟨rfl, 0, rfl, Nat.zero_le _, Nat.zero_le _, by simpa using h⟩
end
end VL

set_option Elab.async false
set_option linter.all false
set_option maxRecDepth 100000
set_option maxHeartbeats 4000000
namespace VL
variable [Tb]
open PySem PySem.Spec PyProof.Rows L2
mutual
/-- x == y is r, over data, lists and tuples, and things of the class at C, whose == keeps Cn -/
inductive EqX (C : Addr) (Cn : Con) : Nat → D → D → Bool → Prop
  | dat {n : Nat} {d e : D} {r : Bool} : EqD d e r → EqX C Cn n d e r
  | own {n : Nat} {xs ys : List D} {us us' : List PyData} {r : Bool} : pyL xs = some us → pyL ys = some us' → xs.length = ys.length → SeqAt.shaped (.tuple us) = true → (us = us' → r = true) → Cn [.obj C xs, .obj C ys] (fun z => z = .bl r) → EqX C Cn n (.obj C xs) (.obj C ys) r
  | lst {n : Nat} {ds es : List D} {r : Bool} : ds.length = es.length → EqXs C Cn n ds es r → EqX C Cn (n + 1) (.lst ds) (.lst es) r
  | tup {n : Nat} {ds es : List D} {r : Bool} : EqXs C Cn n ds es r → EqX C Cn (n + 1) (.tup ds) (.tup es) r
inductive EqXs (C : Addr) (Cn : Con) : Nat → List D → List D → Bool → Prop
  | nil {n : Nat} : EqXs C Cn n [] [] true
  | left {n : Nat} {e : D} {es : List D} : EqXs C Cn n [] (e :: es) false
  | right {n : Nat} {d : D} {ds : List D} : EqXs C Cn n (d :: ds) [] false
  | go {n : Nat} {d e : D} {ds es : List D} {r : Bool} : EqX C Cn n d e true → EqXs C Cn n ds es r → EqXs C Cn n (d :: ds) (e :: es) r
  | stop {n : Nat} {d e : D} {ds es : List D} : EqX C Cn n d e false → EqXs C Cn n (d :: ds) (e :: es) false
end
section
variable {X : Cx} {C g : Addr} {Cn : Con} {pins : List (Addr × Obj)} {σ : L2.St} {H : Hp} {s : Shared} {S : List Addr}
theorem dp_val {K : PySem.W.Frag} {H : Hp} {v : V} {d : PyData} (h : Dp K H v d) : ∃ u, RelV v u := by
  cases h with
  | non => exact ⟨_, rfl⟩
  | bl b => exact ⟨_, rfl⟩
  | int i => exact ⟨.int i 0, 0, rfl⟩
  | str x => exact ⟨.str x 0, 0, rfl⟩
  | lst _ _ => exact ⟨_, rfl⟩
  | tup _ _ => exact ⟨_, rfl⟩
/-- the slots of one instance, told twice -/
theorem slots_two : ∀ {vs vs' : List V} {sl : Array (Option Value)} (k : Nat), vs.length = vs'.length → (∀ i v, vs[i]? = some v → ∃ u, sl[i + k]? = some (some u) ∧ RelV v u) → (∀ i v, vs'[i]? = some v → ∃ u, sl[i + k]? = some (some u) ∧ RelV v u) → ∃ ws, Vals vs ws ∧ Vals vs' ws
  | [], [], _, _, _, _, _ => ⟨[], .nil, .nil⟩
  | [], _ :: _, _, _, h, _, _ => by cases h
  | _ :: _, [], _, _, h, _, _ => by cases h
  | v :: vs, v' :: vs', sl, k, h, h1, h2 => by
    obtain ⟨u, e1, r1⟩ := h1 0 v rfl
    obtain ⟨u', e2, r2⟩ := h2 0 v' rfl
    rw [e1] at e2
    cases e2
    obtain ⟨ws, q1, q2⟩ := slots_two (vs := vs) (vs' := vs') (sl := sl) (k + 1) (by simpa using h) (fun i w hw => by
      have := h1 (i + 1) w (by simpa using hw)
      rwa [Nat.add_right_comm, Nat.add_assoc] at this) (fun i w hw => by
      have := h2 (i + 1) w (by simpa using hw)
      rwa [Nat.add_right_comm, Nat.add_assoc] at this)
    exact ⟨u :: ws, .cons r1 q1, .cons r2 q2⟩
theorem SlX.SlR.one {vs : List V} {sl : Array (Option Value)} (r : SlX.SlR (vs.map some) sl) : ∀ i v, vs[i]? = some v → ∃ u, sl[i + 0]? = some (some u) ∧ RelV v u := fun i v h => r i v (by simp [h])
mutual
theorem EqX.same (I : Inv X pins σ H s) : ∀ {n : Nat} {d e : D} {r : Bool}, EqX C Cn n d e r → ∀ {v v' : V} {u : Value}, At X.K (hide S H) v d → At X.K (hide S H) v' e → RelV v u → RelV v' u → r = true
  | _, _, _, _, .dat ⟨d', e', h1, h2, s1, s2, er⟩, v, v', u, a, a', rv, rv' => by
    obtain ⟨as, r1⟩ := Dp.reads I d' _ _ (dp_of a h1) rv
    obtain ⟨bs, r2⟩ := Dp.reads I e' _ _ (dp_of a' h2) rv'
    have e := SeqAt.Reads.unique d' e' u as bs (SeqAt.canLay_of_shaped s1) r1 r2
    subst e
    rw [← er]
    exact SeqAt.eqv_refl d' (SeqAt.canLay_of_shaped s1)
  | _, _, _, _, .own (us := us) (us' := us') hx hy hl sh hr hc, v, v', u, a, a', rv, rv' => by
    obtain ⟨p, dx, vs, rfl, hs, al⟩ := a.inv_obj
    obtain ⟨p', dx', vs', rfl, hs', al'⟩ := a'.inv_obj
    cases (show u = Value.ref p from rv)
    cases (show Value.ref p = Value.ref p' from rv')
    obtain ⟨_, sl, mA, e, r, _⟩ := SlX.slt_at I (ex_s hide_le hs)
    obtain ⟨_, sl', mA', e', r', _⟩ := SlX.slt_at I (ex_s hide_le hs')
    rw [e] at e'
    have es : sl = sl' := by
      have := Option.some.inj e'
      injection this
    subst es
    obtain ⟨ws, q1, q2⟩ := slots_two (sl := sl) 0 (by rw [al.length, al'.length]; exact hl) (SlX.SlR.one r) (SlX.SlR.one r')
    obtain ⟨as, z1⟩ := Dp.readsAll I us _ _ (dpl_of al hx) q1
    obtain ⟨bs, z2⟩ := Dp.readsAll I us' _ _ (dpl_of al' hy) q2
    have sh2 : PyData.canLayAll0 us = true := by
      have := SeqAt.canLay_of_shaped sh
      simpa [PyData.canLay0] using this
    exact hr (SeqAt.ReadsAll.unique us us' ws as bs sh2 z1 z2)
  | _, _, _, _, .lst hl hx, v, v', u, a, a', rv, rv' => by
    obtain ⟨p, vs, rfl, hs, al⟩ := a.inv_lst
    obtain ⟨p', vs', rfl, hs', al'⟩ := a'.inv_lst
    cases (show u = Value.ref p from rv)
    cases (show Value.ref p = Value.ref p' from rv')
    obtain ⟨its, q1, ⟨o, n, ho, hc, _, hd⟩, _⟩ := I.list (ex_l hide_le hs)
    obtain ⟨its', q2, ⟨o', n', ho', hc', _, hd'⟩, _⟩ := I.list (ex_l hide_le hs')
    rw [ho] at ho'
    cases ho'
    rw [hd] at hd'
    injection hd' with e1 e2
    have e3 : its = its' := by simpa using e1
    subst e3
    exact EqXs.same I hx al al' q1 q2
  | _, _, _, _, .tup hx, v, v', u, a, a', rv, rv' => by
    obtain ⟨p, vs, rfl, hs, al⟩ := a.inv_tup
    obtain ⟨p', vs', rfl, hs', al'⟩ := a'.inv_tup
    cases (show u = Value.ref p from rv)
    cases (show Value.ref p = Value.ref p' from rv')
    obtain ⟨its, q1, ⟨o, ho, hc, n, hd⟩, _⟩ := I.tuple (ex_t hide_le hs)
    obtain ⟨its', q2, ⟨o', ho', hc', n', hd'⟩, _⟩ := I.tuple (ex_t hide_le hs')
    rw [ho] at ho'
    cases ho'
    rw [hd] at hd'
    injection hd' with e1 e2
    have e3 : its = its' := by simpa using e1
    subst e3
    exact EqXs.same I hx al al' q1 q2
theorem EqXs.same (I : Inv X pins σ H s) : ∀ {n : Nat} {ds es : List D} {r : Bool}, EqXs C Cn n ds es r → ∀ {vs vs' : List V} {us : List Value}, AtL X.K (hide S H) vs ds → AtL X.K (hide S H) vs' es → Vals vs us → Vals vs' us → r = true
  | _, _, _, _, .nil, _, _, _, _, _, _, _ => rfl
  | _, _, _, _, .left, _, _, _, a, a', q, q' => by
    cases a
    cases a'
    cases q
    cases q'
  | _, _, _, _, .right, _, _, _, a, a', q, q' => by
    cases a
    cases a'
    cases q
    cases q'
  | _, _, _, _, .go h t, _, _, _, .cons a at_, .cons a' at', .cons q qt, .cons q' qt' => EqXs.same I t at_ at' qt qt'
  | _, _, _, _, .stop h, _, _, _, .cons a at_, .cons a' at', .cons q qt, .cons q' qt' => EqX.same I h a a' q q'
end
/-! ### the comparison runs -/
def inK (A : Around) : Nat → Around
  | 0 => A
  | k + 1 => (inK A k).in1
theorem env0_in {P : Program} {w : World} {K : PySem.W.Frag} {mg : Str → Option Value} {base : Heap} {A : Around} {outer : List Env} {s : Shared} {H : Hp} (e : Env0 P w K mg base A outer s H) : ∀ k, Env0 P w K mg base (inK A k) outer s H
  | 0 => e
  | k + 1 => (env0_in e k).in1
theorem truthy_b {prog : Program} {w : World} {A : Around} {E : Value → Shared → Prop} {s : Shared} {r : Bool} {Q : Bool → Shared → Prop} (h : Q r s) : wpAny (model prog w) A (truthy (.bool r)) Q E s := wpAny_truthy_bool h
mutual
theorem EqX.run {k0 : Nat} (q : EqAt X.K C g) (F : FnR X.prog X.w X.K X.mg X.base CX0 k0 g (spC X.K 2 Cn)) : ∀ {n : Nat} {d e : D} {r : Bool}, EqX C Cn n d e r → ∀ (j : Nat) (s : Shared) (H : Hp) (v u : Value) (x y : V), Inv X pins σ H s → Trk S H → RelV x v → RelV y u → At X.K (hide S H) x d → At X.K (hide S H) y e →
    Room (k0 + n) (inK X.A j) → ∀ (E : Value → Shared → Prop) (Q : Bool → Shared → Prop), (∀ H' s', Inv X pins σ H' s' → Ex H H' → Q r s') → wpAny (model X.prog X.w) (inK X.A j) (eqBool v u) Q E s
  | n, _, _, _, .dat ⟨d', e', h1, h2, s1, s2, er⟩, j, s, H, v, u, x, y, I, tr, rx, ry, ax, ay, hr, E, Q, hq => by
    obtain ⟨as, r1⟩ := Dp.reads I d' _ _ (dp_of ax h1) rx
    obtain ⟨bs, r2⟩ := Dp.reads I e' _ _ (dp_of ay h2) ry
    have := SeqAt.eqAt_reads d' e' (inK X.A j) s v u as bs r1 r2 (SeqAt.canLay_of_shaped s1) (SeqAt.canLay_of_shaped s2) (SeqAt.room_of_shaped s1 hr.units)
    refine this X.prog X.w E Q ?_
    rw [er]
    exact hq H s I (Ex.refl H)
  | n, _, _, r, .own (us := us) (us' := us') hx hy hl sh hr0 hc, j, s, H, v, u, x, y, I, tr, rx, ry, ax, ay, hr, E, Q, hq => by
    have sm := fun (h : RelV y v) => EqX.same (S := S) I (.own hx hy hl sh hr0 hc : EqX C Cn n _ _ r) ax ay rx h
    obtain ⟨a, dx, vs, rfl, ha, al⟩ := ax.inv_obj
    obtain ⟨b, dy, ws, rfl, hb, bl⟩ := ay.inv_obj
    cases (show v = Value.ref a from rx)
    cases (show u = Value.ref b from ry)
    unfold eqBool
    refine wpAny_holding ?_
    refine wpAny_ite_split (fun hab => ?_) (fun _ => ?_)
    · have e : Value.ref a = Value.ref b := eq_of_beq hab
      have et := sm (by rw [e]; rfl)
      subst et
      exact wpAny_pure (M := model X.prog X.w) (E := E) (hq H s I (Ex.refl H))
    · obtain ⟨sl, od, _, J1, _⟩ := SlX.slt_inst I (ex_s hide_le ha)
      obtain ⟨sl', od', _, J2, _⟩ := SlX.slt_inst I (ex_s hide_le hb)
      obtain ⟨m, hF⟩ := I.fr
      refine wpAny_bind ?_
      refine PySem.W.cmp_K (op := .Eq) (tb := .ref C) hr.units0 hF I.ok.mod.kin J1 J2.type q.nf q.eq q.fn ?_
      refine wpAny_call (codeAny_mono (F (inK X.A j) X.stack s H [.ref a, .ref b] [.ref a, .ref b] (fun w H' => w = .bl r ∧ Ex H H') (fun _ _ _ => False) (hr.mono (by omega)) (env0_in I.env0 j) (.cons rfl (.cons rfl .nil)) (sp2 tr (.obj ha al) (.obj hb bl) hc fun w H2 z e2 az hz => by
        subst hz
        exact ⟨az.inv_bl, e2⟩)) fun res s' hres => ?_)
      cases res with
      | error e => exact (show False from hres).elim
      | ok fl =>
        cases fl with
        | ret w =>
          obtain ⟨z, H', I', rz, ez, ee⟩ := I.after hres
          subst ez
          cases (show w = Value.bool r from rz)
          show wpAny _ _ (truthy (.bool r)) _ _ _
          exact truthy_b (hq H' s' I' ee)
        | next => exact False.elim hres
        | brk => exact False.elim hres
        | cont => exact False.elim hres
  | n + 1, _, _, r, .lst hl hx, j, s, H, v, u, x, y, I, tr, rx, ry, ax, ay, hr, E, Q, hq => by
    have sm := fun (h : RelV y v) => EqX.same (S := S) I (.lst hl hx : EqX C Cn (n + 1) _ _ r) ax ay rx h
    obtain ⟨a, vs, rfl, ha, al⟩ := ax.inv_lst
    obtain ⟨b, ws, rfl, hb, bl⟩ := ay.inv_lst
    cases (show v = Value.ref a from rx)
    cases (show u = Value.ref b from ry)
    unfold eqBool
    refine wpAny_holding ?_
    refine wpAny_ite_split (fun hab => ?_) (fun _ => ?_)
    · have e : Value.ref a = Value.ref b := eq_of_beq hab
      have et := sm (by rw [e]; rfl)
      subst et
      exact wpAny_pure (M := model X.prog X.w) (E := E) (hq H s I (Ex.refl H))
    · refine wpAny_bind ?_
      exact list_run q F hx hl j s H a b vs ws I tr ha hb al bl hr E _ fun H' s' I' e' => truthy_b (hq H' s' I' e')
  | n + 1, _, _, r, .tup hx, j, s, H, v, u, x, y, I, tr, rx, ry, ax, ay, hr, E, Q, hq => by
    have sm := fun (h : RelV y v) => EqX.same (S := S) I (.tup hx : EqX C Cn (n + 1) _ _ r) ax ay rx h
    obtain ⟨a, vs, rfl, ha, al⟩ := ax.inv_tup
    obtain ⟨b, ws, rfl, hb, bl⟩ := ay.inv_tup
    cases (show v = Value.ref a from rx)
    cases (show u = Value.ref b from ry)
    unfold eqBool
    refine wpAny_holding ?_
    refine wpAny_ite_split (fun hab => ?_) (fun _ => ?_)
    · have e : Value.ref a = Value.ref b := eq_of_beq hab
      have et := sm (by rw [e]; rfl)
      subst et
      exact wpAny_pure (M := model X.prog X.w) (E := E) (hq H s I (Ex.refl H))
    · refine wpAny_bind ?_
      exact tuple_run q F hx j s H a b vs ws I tr ha hb al bl hr E _ fun H' s' I' e' => truthy_b (hq H' s' I' e')
theorem list_run {k0 : Nat} (q : EqAt X.K C g) (F : FnR X.prog X.w X.K X.mg X.base CX0 k0 g (spC X.K 2 Cn)) : ∀ {n : Nat} {ds es : List D} {r : Bool}, EqXs C Cn n ds es r → ds.length = es.length → ∀ (j : Nat) (s : Shared) (H : Hp) (a b : Addr) (vs ws : List V), Inv X pins σ H s → Trk S H → SqL X.K (hide S H) a vs → SqL X.K (hide S H) b ws → AtL X.K (hide S H) vs ds → AtL X.K (hide S H) ws es →
    Room (k0 + (n + 1)) (inK X.A j) → ∀ (E : Value → Shared → Prop) (Q : Value → Shared → Prop), (∀ H' s', Inv X pins σ H' s' → Ex H H' → Q (.bool r) s') → wpAny (model X.prog X.w) (inK X.A j) (richCompare .Eq (.ref a) (.ref b)) Q E s
  | n, ds, es, r, hx, hl, j, s, H, a, b, vs, ws, I, tr, ha, hb, al, bl, hr, E, Q, hq => by
    have two : ∀ H' s', Inv X pins σ H' s' → Ex H H' → TwoV a b vs ws s' := fun H' s' I' e' => by
      obtain ⟨its, q1, ⟨o, m, ho, hc, _, hd⟩, _⟩ := I'.list (ex_l e' (ex_l hide_le ha))
      obtain ⟨its2, q2, ⟨o2, m2, ho2, hc2, _, hd2⟩, _⟩ := I'.list (ex_l e' (ex_l hide_le hb))
      exact ⟨its.toArray, its2.toArray, ⟨⟨o, m, ho, hc, hd⟩, ⟨o2, m2, ho2, hc2, hd2⟩⟩, by simpa using q1, by simpa using q2⟩
    have t0 := two H s I (Ex.refl H)
    obtain ⟨_, _, ⟨⟨o, m, ho, hc, _⟩, ⟨o2, m2, ho2, hc2, _⟩⟩, _, _⟩ := two H s I (Ex.refl H)
    have hsz : vs.length = ws.length := by rw [al.length, bl.length]; exact hl
    refine wpAny_richCompare_same_room (T := "list") (op := .Eq) ⟨_, ho, hc⟩ ⟨_, ho2, hc2⟩ PySem.F.slot_list_eq (call_meetsIn PySem.F.slot_list_eq ⟨_, ho, hc⟩ PySem.F.entry_list_eq (PySem.F.args_list_eq_2 _ _) (list_eqX a b vs ws hsz) ⟨t0, ?_⟩) hr.units0
    exact EqXs.run q F hx (j + 1) s H vs ws (TwoV a b vs ws) I tr al bl (Room.in1 (k := k0 + n) hr) two _ fun H' s' I' e' => ⟨fun z => (nomatch z), hq H' s' I' e'⟩
theorem tuple_run {k0 : Nat} (q : EqAt X.K C g) (F : FnR X.prog X.w X.K X.mg X.base CX0 k0 g (spC X.K 2 Cn)) : ∀ {n : Nat} {ds es : List D} {r : Bool}, EqXs C Cn n ds es r → ∀ (j : Nat) (s : Shared) (H : Hp) (a b : Addr) (vs ws : List V), Inv X pins σ H s → Trk S H → SqT X.K (hide S H) a vs → SqT X.K (hide S H) b ws → AtL X.K (hide S H) vs ds → AtL X.K (hide S H) ws es →
    Room (k0 + (n + 1)) (inK X.A j) → ∀ (E : Value → Shared → Prop) (Q : Value → Shared → Prop), (∀ H' s', Inv X pins σ H' s' → Ex H H' → Q (.bool r) s') → wpAny (model X.prog X.w) (inK X.A j) (richCompare .Eq (.ref a) (.ref b)) Q E s
  | n, ds, es, r, hx, j, s, H, a, b, vs, ws, I, tr, ha, hb, al, bl, hr, E, Q, hq => by
    obtain ⟨its, q1, ⟨o, ho, hc, m, hd⟩, _⟩ := I.tuple (ex_t hide_le ha)
    obtain ⟨its2, q2, ⟨o2, ho2, hc2, m2, hd2⟩, _⟩ := I.tuple (ex_t hide_le hb)
    refine wpAny_richCompare_same_room (T := "tuple") (op := .Eq) ⟨_, ho, hc⟩ ⟨_, ho2, hc2⟩ PySem.F.slot_tuple_eq (call_meetsIn PySem.F.slot_tuple_eq ⟨_, ho, hc⟩ PySem.F.entry_tuple_eq (PySem.F.args_tuple_eq_2 _ _) (tuple_eqX a b vs ws) ⟨⟨its.toArray, its2.toArray, ⟨⟨o, m, ho, hc, hd⟩, ⟨o2, m2, ho2, hc2, hd2⟩⟩, by simpa using q1, by simpa using q2⟩, ?_⟩) hr.units0
    exact EqXs.run q F hx (j + 1) s H vs ws (fun _ => True) I tr al bl (Room.in1 (k := k0 + n) hr) (fun _ _ _ _ => trivial) _ fun H' s' I' e' => ⟨fun z => (nomatch z), hq H' s' I' e'⟩
theorem EqXs.run {k0 : Nat} (q : EqAt X.K C g) (F : FnR X.prog X.w X.K X.mg X.base CX0 k0 g (spC X.K 2 Cn)) : ∀ {n : Nat} {ds es : List D} {r : Bool}, EqXs C Cn n ds es r → ∀ (j : Nat) (s : Shared) (H : Hp) (vs ws : List V) (G : Shared → Prop), Inv X pins σ H s → Trk S H → AtL X.K (hide S H) vs ds → AtL X.K (hide S H) ws es →
    Room (k0 + n) (inK X.A j) → (∀ H' s', Inv X pins σ H' s' → Ex H H' → G s') → ∀ (Q : Bool → Shared → Prop), (∀ H' s', Inv X pins σ H' s' → Ex H H' → Q r s') → Ch X.prog X.w (inK X.A j) G vs ws s Q
  | _, _, _, _, .nil, j, s, H, _, _, G, I, tr, .nil, .nil, hr, hG, Q, hq => hq H s I (Ex.refl H)
  | _, _, _, _, .left, j, s, H, _, _, G, I, tr, .nil, .cons _ _, hr, hG, Q, hq => hq H s I (Ex.refl H)
  | _, _, _, _, .right, j, s, H, _, _, G, I, tr, .cons _ _, .nil, hr, hG, Q, hq => hq H s I (Ex.refl H)
  | _, _, _, _, .go h t, j, s, H, _, _, G, I, tr, .cons a at_, .cons b bt, hr, hG, Q, hq => fun E u u' ra rb =>
    EqX.run q F h j s H _ _ _ _ I tr ra rb a b hr E _ fun H' s' I' e' => ⟨hG H' s' I' e', by
      rw [if_pos rfl]
      exact EqXs.run q F t j s' H' _ _ G I' (tr.mono e') (at_.mono (hide_ex e')) (bt.mono (hide_ex e')) hr (fun H2 s2 I2 e2 => hG H2 s2 I2 (e'.trans e2)) Q fun H2 s2 I2 e2 => hq H2 s2 I2 (e'.trans e2)⟩
  | _, _, _, _, .stop h, j, s, H, _, _, G, I, tr, .cons a at_, .cons b bt, hr, hG, Q, hq => fun E u u' ra rb =>
    EqX.run q F h j s H _ _ _ _ I tr ra rb a b hr E _ fun H' s' I' e' => ⟨hG H' s' I' e', by
      rw [if_neg (by decide)]
      exact hq H' s' I' e'⟩
end
end
end VL

set_option Elab.async false
set_option linter.all false
set_option maxRecDepth 100000
set_option maxHeartbeats 4000000
namespace VL
variable [Tb]
open PySem PySem.Spec PyProof.Rows L2
open AutoSeq1 (wpAny_loadPart')
open MeetsSeq MeetsSeq2 MeetsSeq3 SeqRoads2
open PySem.SeqAt (EqIn)
section
variable {prog : Program} {w : World}
theorem ne_loopX (l b : Addr) (vs ws : List V) (hsz : vs.length = ws.length) (k : Nat) :
    ∀ i : Nat, vs.length - i = k → MeetsIn prog w (Builtin.«list.__eq__.loop» ⟨[.ref l, .ref b, rawInt i, rawInt 3], []⟩)
      (fun A R s => TwoV l b vs ws s ∧ Ch prog w A.in1 (TwoV l b vs ws) (vs.drop i) (ws.drop i) s fun r s' => R (.ok (.ret (.bool (!r)))) s') := by
  induction k with
  | zero =>
    intro i hk A R s h
    obtain ⟨hp, g, d, tk, os⟩ := s
    obtain ⟨⟨items, items2, ⟨⟨⟨cls, dd, data, sl⟩, n, hl, hc, hd⟩, ⟨cls2, dd2, data2, sl2⟩, n2, hb, hc2, hd2⟩, q1, q2⟩, h⟩ := h
    simp only at hc hd hc2 hd2
    subst hc hd hc2 hd2
    have z1 := q1.length
    have z2 := q2.length
    simp only [Array.length_toList] at z1 z2
    wp_walk using wpAny_loadPart' hl, wpAny_loadPart' hb
    have hi1 : items[((i : Nat) : Int).toNat]? = none := by simp; omega
    have hi2 : items2[((i : Nat) : Int).toNat]? = none := by simp; omega
    have e1 : vs.drop i = [] := List.drop_of_length_le (by omega)
    have e2 : ws.drop i = [] := List.drop_of_length_le (by omega)
    rw [e1, e2] at h
    rw [hi1, hi2]
    wp_walk using wpAny_loadPart' hl, wpAny_loadPart' hb
    show R (.ok (.ret (.bool (items.size != items2.size)))) _
    rw [show (items.size != items2.size) = false by simp; omega]
    simpa [Ch] using h
  | succ k ih =>
    intro i hk A R s h
    obtain ⟨hp, g, d, tk, os⟩ := s
    obtain ⟨⟨items, items2, ⟨⟨⟨cls, dd, data, sl⟩, n, hl, hc, hd⟩, ⟨cls2, dd2, data2, sl2⟩, n2, hb, hc2, hd2⟩, q1, q2⟩, h⟩ := h
    simp only at hc hd hc2 hd2
    subst hc hd hc2 hd2
    have z1 := q1.length
    have z2 := q2.length
    simp only [Array.length_toList] at z1 z2
    have hlt : i < items.size := by omega
    have hlt2 : i < items2.size := by omega
    have e1 : ∃ v r, vs.drop i = v :: r ∧ vs.drop (i + 1) = r := by
      cases e : vs.drop i with
      | nil =>
        have := congrArg List.length e
        simp at this
        omega
      | cons v r => exact ⟨v, r, rfl, by rw [← List.drop_drop, e]; rfl⟩
    have e2 : ∃ v r, ws.drop i = v :: r ∧ ws.drop (i + 1) = r := by
      cases e : ws.drop i with
      | nil =>
        have := congrArg List.length e
        simp at this
        omega
      | cons v r => exact ⟨v, r, rfl, by rw [← List.drop_drop, e]; rfl⟩
    obtain ⟨v1, r1, f1, g1⟩ := e1
    obtain ⟨v2, r2, f2, g2⟩ := e2
    obtain ⟨u1, p1, rv1⟩ := vals_drop q1 f1
    obtain ⟨u2, p2, rv2⟩ := vals_drop q2 f2
    wp_walk using wpAny_loadPart' hl, wpAny_loadPart' hb
    have hi1 : items[((i : Nat) : Int).toNat]? = some u1 := by rw [← p1]; simp
    have hi2 : items2[((i : Nat) : Int).toNat]? = some u2 := by rw [← p2]; simp
    rw [f1, f2] at h
    rw [hi1, hi2]
    refine wpAny_bind (wpAny_mono (h _ u1 u2 rv1 rv2) (fun r s' hr => ?_) fun _ _ e => e)
    obtain ⟨g', hq⟩ := hr
    obtain ⟨hp', g0, d', tk', os'⟩ := s'
    cases r with
    | true =>
      rw [if_pos rfl] at hq
      wp_walk
      rw [show ((i : Int) + 1) = ((i + 1 : Nat) : Int) by push_cast; rfl]
      exact ⟨plainId_quiet plain_eq_loop _, codeAny_builtin entry_eq_loop (by
        rw [Around.under_plainId plain_eq_loop _]
        exact ih (i + 1) (by omega) A R _ ⟨g', by rw [g1, g2]; exact hq⟩)⟩
    | false =>
      rw [if_neg (by decide)] at hq
      obtain ⟨items, items2, ⟨⟨⟨cls, dd, data, sl⟩, n, hl, hc, hd⟩, ⟨cls2, dd2, data2, sl2⟩, n2, hb, hc2, hd2⟩, q1, q2⟩ := g'
      simp only at hc hd hc2 hd2
      subst hc hd hc2 hd2
      obtain ⟨u1, p1, rv1⟩ := vals_drop q1 f1
      obtain ⟨u2, p2, rv2⟩ := vals_drop q2 f2
      have hi1 : items[((i : Nat) : Int).toNat]? = some u1 := by rw [← p1]; simp
      have hi2 : items2[((i : Nat) : Int).toNat]? = some u2 := by rw [← p2]; simp
      wp_walk using wpAny_loadPart' hl, wpAny_loadPart' hb
      rw [hi1, hi2]
      wp_walk
      simpa using hq
theorem list_neX (l b : Addr) (vs ws : List V) (hsz : vs.length = ws.length) :
    MeetsIn prog w (Builtin.«list.__ne__» ⟨[.ref l, .ref b], []⟩)
      (fun A R s => TwoV l b vs ws s ∧ Ch prog w A.in1 (TwoV l b vs ws) vs ws s fun r s' => R (.ok (.ret (.bool (!r)))) s') := by
  intro A R s h
  obtain ⟨hp, g, d, tk, os⟩ := s
  have h0 := h
  obtain ⟨⟨items, items2, ⟨⟨⟨cls, dd, data, sl⟩, n, hl, hc, hd⟩, ⟨cls2, dd2, data2, sl2⟩, n2, hb, hc2, hd2⟩, q1, q2⟩, h⟩ := h
  simp only at hc hd hc2 hd2
  subst hc hd hc2 hd2
  have z1 := q1.length
  have z2 := q2.length
  simp only [Array.length_toList] at z1 z2
  have f3 := AutoSeq1.sub_list_list
  have hne : ¬ (items.size != items2.size) = true := by simp; omega
  wp_walk using wpAny_loadPart' hl, wpAny_loadPart' hb
  exact ⟨plainId_quiet plain_eq_loop _, codeAny_builtin entry_eq_loop (by
    rw [Around.under_plainId plain_eq_loop _]
    exact ne_loopX l b vs ws hsz _ 0 rfl A R _ h0)⟩
end
section
variable {X : Cx} {C g : Addr} {Cn : Con} {pins : List (Addr × Obj)} {σ : L2.St} {S : List Addr}
theorem list_runN {k0 : Nat} (q : EqAt X.K C g) (F : FnR X.prog X.w X.K X.mg X.base CX0 k0 g (spC X.K 2 Cn)) : ∀ {n : Nat} {ds es : List D} {r : Bool}, EqXs C Cn n ds es r → ds.length = es.length → ∀ (j : Nat) (s : Shared) (H : Hp) (a b : Addr) (vs ws : List V), Inv X pins σ H s → Trk S H → SqL X.K (hide S H) a vs → SqL X.K (hide S H) b ws → AtL X.K (hide S H) vs ds → AtL X.K (hide S H) ws es →
    Room (k0 + (n + 1)) (inK X.A j) → ∀ (E : Value → Shared → Prop) (Q : Value → Shared → Prop), (∀ H' s', Inv X pins σ H' s' → Ex H H' → Q (.bool (!r)) s') → wpAny (model X.prog X.w) (inK X.A j) (richCompare .NotEq (.ref a) (.ref b)) Q E s
  | n, ds, es, r, hx, hl, j, s, H, a, b, vs, ws, I, tr, ha, hb, al, bl, hr, E, Q, hq => by
    have two : ∀ H' s', Inv X pins σ H' s' → Ex H H' → TwoV a b vs ws s' := fun H' s' I' e' => by
      obtain ⟨its, q1, ⟨o, m, ho, hc, _, hd⟩, _⟩ := I'.list (ex_l e' (ex_l hide_le ha))
      obtain ⟨its2, q2, ⟨o2, m2, ho2, hc2, _, hd2⟩, _⟩ := I'.list (ex_l e' (ex_l hide_le hb))
      exact ⟨its.toArray, its2.toArray, ⟨⟨o, m, ho, hc, hd⟩, ⟨o2, m2, ho2, hc2, hd2⟩⟩, by simpa using q1, by simpa using q2⟩
    have t0 := two H s I (Ex.refl H)
    obtain ⟨_, _, ⟨⟨o, m, ho, hc, _⟩, ⟨o2, m2, ho2, hc2, _⟩⟩, _, _⟩ := two H s I (Ex.refl H)
    have hsz : vs.length = ws.length := by rw [al.length, bl.length]; exact hl
    refine wpAny_richCompare_same_room (T := "list") (op := .NotEq) ⟨_, ho, hc⟩ ⟨_, ho2, hc2⟩ PySem.F.slot_list_ne (call_meetsIn PySem.F.slot_list_ne ⟨_, ho, hc⟩ PySem.F.entry_list_ne (PySem.F.args_list_ne_2 _ _) (list_neX a b vs ws hsz) ⟨t0, ?_⟩) hr.units0
    exact EqXs.run q F hx (j + 1) s H vs ws (TwoV a b vs ws) I tr al bl (Room.in1 (k := k0 + n) hr) two _ fun H' s' I' e' => ⟨fun z => (nomatch z), hq H' s' I' e'⟩
end
/-! ### the rules -/
/-- two lists, of one length, the same or not -/
def EqL (C : Addr) (Cn : Con) (m : Nat) (x y : D) (r : Bool) : Prop := ∃ n ds es, x = .lst ds ∧ y = .lst es ∧ n + 2 ≤ m ∧ ds.length = es.length ∧ EqXs C Cn n ds es r
def rLst (K : PySem.W.Frag) (C : Addr) (Cn : Con) (m : Nat) (f : Bool → Bool) : R2 := fun x y H Q => ∃ S d e r, Trk S H ∧ At K (hide S H) x d ∧ At K (hide S H) y e ∧ EqL C Cn m d e r ∧ ∀ H', Ex H H' → Q (.bl (f r)) H'
section
variable {X : Cx} {ρ : Rho} {a b : Expr} {pos : Pos} {k : D → Prop} {kb : Bool → Prop} {C g : Addr} {m : Nat} {s1 s2 : Str} {Cn : Con}
theorem op_eqLX (q : EqAt X.K C g) (F : FnR X.prog X.w X.K X.mg X.base CX0 1 g (spC X.K 2 Cn)) (hr : Room m X.A) : OpR X (compareOp .Eq) (rLst X.K C Cn m id) := by
  intro pins s σ H x y v u Q I rx ry h
  obtain ⟨S, d, e, r, tr, ax, ay, ⟨n, ds, es, rfl, rfl, hm, hl, hx⟩, hq⟩ := h
  obtain ⟨a, vs, rfl, ha, al⟩ := ax.inv_lst
  obtain ⟨b, ws, rfl, hb, bl⟩ := ay.inv_lst
  cases (show v = Value.ref a from rx)
  cases (show u = Value.ref b from ry)
  show wpAny _ _ (richCompare .Eq (.ref a) (.ref b)) _ _ _
  exact list_run q F hx hl 0 s H a b vs ws I tr ha hb al bl (hr.mono (by omega)) _ _ fun H' s' I' e' => ⟨.bl r, H', I', rfl, hq H' e'⟩
theorem op_neLX (q : EqAt X.K C g) (F : FnR X.prog X.w X.K X.mg X.base CX0 1 g (spC X.K 2 Cn)) (hr : Room m X.A) : OpR X (compareOp .NotEq) (rLst X.K C Cn m (!·)) := by
  intro pins s σ H x y v u Q I rx ry h
  obtain ⟨S, d, e, r, tr, ax, ay, ⟨n, ds, es, rfl, rfl, hm, hl, hx⟩, hq⟩ := h
  obtain ⟨a, vs, rfl, ha, al⟩ := ax.inv_lst
  obtain ⟨b, ws, rfl, hb, bl⟩ := ay.inv_lst
  cases (show v = Value.ref a from rx)
  cases (show u = Value.ref b from ry)
  show wpAny _ _ (richCompare .NotEq (.ref a) (.ref b)) _ _ _
  exact list_runN q F hx hl 0 s H a b vs ws I tr ha hb al bl (hr.mono (by omega)) _ _ fun H' s' I' e' => ⟨.bl (!r), H', I', rfl, hq H' e'⟩
theorem xt_eqLX (q : EqAt X.K C g) (F : FnA X.prog X.w X.K X.mg X.base 1 g [s1, s2] Cn) (hr : Room m X.A) (h : XE X a ρ fun x => XE X b ρ fun y => ∃ r, EqL C Cn m x y r ∧ kb r) : XT X (.Compare a [.Eq] [b] pos) ρ kb :=
  impT (pt_cmpR (op_eqLX q F.raw hr) anyE anyE (nomark _)) fun σ H Q ⟨S, E, q⟩ => useE h E fun x H1 d e1 a1 hb => useE hb (E.mono e1) fun y H2 d2 e2 a2 ⟨r, hx, hk⟩ =>
    ⟨S, d, d2, r, (E.mono (e1.trans e2)).trk, a1.mono (hide_ex e2), a2, hx, fun H' e' => ⟨_, rfl, q _ _ ((e1.trans e2).trans e') hk⟩⟩
theorem xt_neLX (q : EqAt X.K C g) (F : FnA X.prog X.w X.K X.mg X.base 1 g [s1, s2] Cn) (hr : Room m X.A) (h : XE X a ρ fun x => XE X b ρ fun y => ∃ r, EqL C Cn m x y r ∧ kb (!r)) : XT X (.Compare a [.NotEq] [b] pos) ρ kb :=
  impT (pt_cmpR (op_neLX q F.raw hr) anyE anyE (nomark _)) fun σ H Q ⟨S, E, q⟩ => useE h E fun x H1 d e1 a1 hb => useE hb (E.mono e1) fun y H2 d2 e2 a2 ⟨r, hx, hk⟩ =>
    ⟨S, d, d2, r, (E.mono (e1.trans e2)).trk, a1.mono (hide_ex e2), a2, hx, fun H' e' => ⟨_, rfl, q _ _ ((e1.trans e2).trans e') hk⟩⟩
end
end VL

set_option Elab.async false
set_option linter.all false
set_option maxRecDepth 100000
set_option maxHeartbeats 4000000
namespace HT
open PySem PySem.Spec PyProof.Rows L2
section
variable {prog : Program} {w : World} {A : Around} {E : Value → Shared → Prop} {s : Shared}
theorem sliceApplied_rev {sl : Addr} {vs : Value} {Q : Int × Int × Nat → Shared → Prop} (hs : s.heap.IsSliceOf sl .none .none vs) (ps : IsPart vs (some (-1)))
    (h : Q ((1 : Int), (-1 : Int), 2) s) : wpAny (model prog w) A (Builtin.Slice.sliceApplied (.ref sl) (pure (2 : Int))) Q E s := by
  obtain ⟨os, hos, hcs, hds⟩ := id hs
  unfold Builtin.Slice.sliceApplied Builtin.Slice.sliceFields
  refine wpAny_bind (wpAny_bind (wpAny_field hos hds (x := .none) rfl (wpAny_bind (wpAny_field hos hds (x := .none) rfl (wpAny_bind (wpAny_field hos hds (x := vs) rfl (wpAny_pure ?_)))))))
  refine wpAny_bind (slicePart_ ps ?_)
  show wpAny _ _ (if ((-1 : Int) == 0) = true then _ else _) _ _ s
  rw [if_neg (by decide)]
  refine wpAny_bind (slicePart_none (wpAny_bind (slicePart_none (wpAny_bind (wpAny_pure ?_)))))
  exact wpAny_pure h
theorem getItem_tuple_rev {t sl : Addr} {x y vs : Value} {Q : Value → Shared → Prop} (ht : IsTup s.heap t #[x, y]) (hs : s.heap.IsSliceOf sl .none .none vs) (ps : IsPart vs (some (-1)))
    (h : Q (.ref s.heap.objs.size) { s with heap := s.heap.push { cls := .type "tuple", data := .seq #[y, x] } }) : wpAny (model prog w) A (getItem (.ref t) (.ref sl)) Q E s := by
  have htake : sizeOk (.seq #[y, x]) := by
    show (#[y, x] : Array Value).size ≤ sizeLine
    exact Nat.le_trans (show 2 ≤ 100000 by decide) (by decide)
  obtain ⟨os, hos, hcs, hds⟩ := id hs
  have hTs : s.TypeIs (.ref sl) "slice" := ⟨os, hos, hcs⟩
  unfold getItem
  try with_reducible refine wpAny_holding ?_
  first | refine wpAny_bind (wpAny_pure ?_) | skip
  refine wpAny_bind (wpAny_sequenceKey ht.typeIs (by decide) ?_)
  refine wpAny_bind (wpAny_callSpecial?_slot (name := Str.ofString "__getitem__") ht.typeIs PyProof.Rows.slot_tuple_getitem
    (wpAny_call_entry PyProof.Rows.slot_tuple_getitem ht.typeIs entry_tuple_getitem ?_ (args_tuple_getitem _ _)))
  show wpAny _ _ (Builtin.Tuple.tupleItemsOf (.ref t) >>= _) _ _ s
  refine wpAny_bind (tupleItemsOf_ ht ?_)
  refine wpAny_bind (wpAny_typeOf hTs ?_)
  rw [if_pos (by decide)]
  refine wpAny_bind (sliceApplied_rev hs ps ?_)
  show wpAny _ _ (if ((1 : Int) == 0 && (-1 : Int) == 1 && (2 : Nat) == 2) = true then _ else _) _ _ s
  rw [if_neg (by decide)]
  have e : ((List.range 2).filterMap fun (m : Nat) => (#[x, y] : Array Value)[((1 : Int) + (m : Int) * (-1)).toNat]?).toArray = #[y, x] := by rfl
  rw [e]
  first
    | exact wpAny_bind (m := Builtin.Tuple.tupleExact _) (wpAny_newObj_type (wpAny_pure ⟨_, rfl, wpAny_pure h⟩) htake)
    | exact wpAny_bind (m := Builtin.Tuple.tupleExact _) (wpAny_newObj_type (wpAny_bind (wpAny_pure (wpAny_pure ⟨_, rfl, wpAny_pure h⟩))) htake)
    | exact wpAny_bind (wpAny_bind (m := Builtin.Tuple.tupleExact _) (wpAny_newObj_type (wpAny_pure (wpAny_pure ⟨_, rfl, wpAny_pure h⟩)) htake))
    | exact wpAny_bind (wpAny_bind (m := Builtin.Tuple.tupleExact _) (wpAny_newObj_type (wpAny_pure ⟨_, rfl, wpAny_pure h⟩) htake))
end
end HT
namespace VL
variable [Tb]
open PySem PySem.Spec PyProof.Rows L2
section
variable {X : Cx} {ρ : Rho} {a : Expr} {pos p2 p3 p4 : Pos} {k : D → Prop} {j : Nat}
/-- a pair, the other way round -/
theorem xe_revT (ha : XE X a ρ fun x => ∃ d1 d2, x = .tup [d1, d2] ∧ k (.tup [d2, d1])) : XE X (.Subscript a (.Slice none none (some (.UnaryOp .USub (.Constant (.int 1) j p4) p3)) p2) pos) ρ k := by
  refine ⟨fun pins s σ H Q I hq => ?_⟩
  obtain ⟨S, E, q⟩ := hq
  refine Subscript_ (thn (ha.run pins s σ H (fun v H1 => ∃ d1 d2, Ex H H1 ∧ At X.K (hide S H1) v (.tup [d1, d2]) ∧ k (.tup [d2, d1])) I ⟨S, E, fun v H2 d e a1 ⟨d1, d2, hd, hk⟩ => by subst hd; exact ⟨d1, d2, e, a1, hk⟩⟩) fun v s1 ⟨x, H1, I1, r1, q1⟩ => ?_)
  obtain ⟨d1, d2, e1, at0, hk⟩ := q1
  obtain ⟨ad, vs, ex, hx, at_⟩ := at0.inv_tup
  subst ex
  cases r1
  have hst : PO X (some (.UnaryOp .USub (.Constant (.int 1) j p4) p3)) (tPart (tUn (rU fun i => .int (-i)) (tC (.int 1)))) := po_some (pe_un un_neg pe_int)
  refine wpAny_Slice (thn (po_none.run pins s1 σ H1 (fun o H2 => o = none ∧ H2 = H1) I1 ⟨rfl, rfl⟩) fun vl s2 ⟨lq, H2, I2, pl, el, e2⟩ => ?_)
  subst el e2
  refine thn (po_none.run pins s2 σ H2 (fun o H3 => o = none ∧ H3 = H2) I2 ⟨rfl, rfl⟩) fun vu s3 ⟨u, H3, I3, pu, eu, e3⟩ => ?_
  subst eu e3
  refine thn (hst.run pins s3 σ H3 (fun o H4 => o = some (-1) ∧ H4 = H3) I3 ⟨1, rfl, -1, rfl, rfl, rfl⟩) fun vst s4 ⟨ost, H4, I4, ps, eo, e4⟩ => ?_
  subst eo e4
  have I5 : Inv X pins σ H4 { s4 with heap := s4.heap.push { cls := .type "slice", data := .fields #[vl, vu, vst] } } := I4.kept (t' := s4.toks) fun b ob q => Heap.get?_push_of_some _ q
  obtain ⟨v1, v2, a1, a2, rfl⟩ : ∃ v1 v2, At X.K (hide S H4) v1 d1 ∧ At X.K (hide S H4) v2 d2 ∧ vs = [v1, v2] := by
    cases at_ with
    | cons h t => cases t with
      | cons h2 t2 => cases t2 with
        | nil => exact ⟨_, _, h, h2, rfl⟩
  obtain ⟨its, r, ht, hz⟩ := I5.tuple (ex_t hide_le hx)
  obtain ⟨u1, u2, r1, r2, rfl⟩ : ∃ u1 u2, RelV v1 u1 ∧ RelV v2 u2 ∧ its = [u1, u2] := by
    cases r with
    | cons h t => cases t with
      | cons h2 t2 => cases t2 with
        | nil => exact ⟨_, _, h, h2, rfl⟩
  cases pl
  cases pu
  show wpAny (model X.prog X.w) X.A (subscriptTail a (.Slice none none (some (.UnaryOp .USub (.Constant (.int 1) j p4) p3)) p2) (.ref ad) (.ref s4.heap.objs.size)) (EP X pins σ Q) X.xe { s4 with heap := s4.heap.push { cls := .type "slice", data := .fields #[.none, .none, vst] } }
  refine tail_any (ops := [.ref ad, .ref s4.heap.objs.size]) ht.typeIs (PyProof.Rows.slot_tuple_getitem.lookup) ?_ (by with_unfolding_all rfl)
  refine HT.getItem_tuple_rev ht (Heap.IsSliceOf.new _ .none .none vst) ps ?_
  have hn := I5.hok.fresh (Nat.le_refl _)
  have np := hide_new (E.mono e1).trk hn
  refine ⟨.ref _, _, I5.laid (t' := s4.toks) (o := .tup [v2, v1]) (fun b ob q => Heap.get?_push_of_some _ q) (Nat.le_refl _) ?_, rfl, q _ _ _ (e1.trans (Ex.new hn)) (.tup (SqT.of ?_) (.cons (a2.mono (hide_ex (Ex.new hn))) (.cons (a1.mono (hide_ex (Ex.new hn))) .nil))) hk⟩
  · exact ⟨Nat.le_trans (by decide : 2 ≤ 100000) (by decide), [u2, u1], .cons r2 (.cons r1 .nil), _, Heap.get?_push_size _ rfl, rfl, _, rfl⟩
  · rw [hide_out np]
    exact upd_same
end
end VL

set_option Elab.async false
set_option linter.all false
set_option maxRecDepth 100000
set_option maxHeartbeats 4000000
/-! enumerate over a tuple; len, bool by an own length; == of things of two own classes; slices with a sign -/
namespace PySem
open PySem
theorem meets_enum1 {v : Value} {o : Obj} {H : Heap → Prop} (B : Begins v o H) :
    Meets (Builtin.«enumerate.__new__» ⟨[.type "enumerate", v], []⟩) (fun _ R s => H s.heap ∧
      R (.ok (.ret (.ref (s.heap.push o).objs.size))) { s with heap := (s.heap.push o).push { cls := .type "enumerate", data := .fields #[.none, .bool false, .ref s.heap.objs.size, rawInt 0, .none, .none] } }) :=
  .of_wp fun prog w A R s h => by
    obtain ⟨hp, g, d, tk, os⟩ := s; obtain ⟨h1, h⟩ := h
    have hsub := sub_enumerate
    have q1 : ∀ {A' : Around} {E : Value → Shared → Prop} {Q : Value → Shared → Prop}, Q (.ref hp.objs.size) ⟨hp.push o, g, d, tk, os⟩ → wpAny (model prog w) A' (pyIter v) Q E ⟨hp, g, d, tk, os⟩ :=
      fun q => B.iter prog w _ _ ⟨hp, g, d, tk, os⟩ _ h1 q
    wp_walk using q1
    refine wpAny_stack_any fun st => wpAny_pure ?_
    split
    · rename_i c _ _ _ _ _
      cases (c == Value.type "enumerate")
      · wp_walk using q1
        exact ⟨_, rfl, h⟩
      · wp_walk using q1
        exact ⟨_, rfl, h⟩
    · wp_walk using q1
      exact ⟨_, rfl, h⟩
section
variable {prog : Program} {w : World} {A : Around} {E : Value → Shared → Prop} {s : Shared}
theorem call_enum1 {v : Value} {o : Obj} {H : Heap → Prop} {Q : Value → Shared → Prop} (B : Begins v o H) (h1 : H s.heap)
    (h : ∀ h', IsEnum h' (s.heap.objs.size + 1) s.heap.objs.size 0 .none → h'.get? s.heap.objs.size = some o → h'.objs.size = s.heap.objs.size + 2 →
      (∀ b o, s.heap.get? b = some o → h'.get? b = some o) → Q (.ref (s.heap.objs.size + 1)) { s with heap := h' }) :
    wpAny (model prog w) A (call (.type "enumerate") [v]) Q E s := by
  refine callType_new F.called_enumerate (by decide) (F.typeCall_enumerate_1 _) (F.newCall_enumerate_1 _) (fun obj => F.args_object_init_2 obj _) F.entry_enumerate_new
    (meets_enum1 B) ⟨h1, ?_⟩
  have hz : (s.heap.push o).objs.size = s.heap.objs.size + 1 := Heap.size_push ..
  show _ ∧ _
  rw [hz]
  have he : IsEnum ((s.heap.push o).push { cls := .type "enumerate", data := .fields #[.none, .bool false, .ref s.heap.objs.size, rawInt 0, .none, .none] }) (s.heap.objs.size + 1) s.heap.objs.size 0 .none := by
    have := Heap.get?_push_size (s.heap.push o) (o := { cls := .type "enumerate", data := .fields #[.none, .bool false, .ref s.heap.objs.size, rawInt 0, .none, .none] }) rfl
    rw [hz] at this; exact this
  refine ⟨⟨_, he, rfl⟩, h _ he (Heap.get?_push_of_some _ (Heap.get?_push_size _ B.free)) (by rw [Heap.size_push, hz]) fun b o x => Heap.get?_push_of_some _ (Heap.get?_push_of_some _ x)⟩
end
end PySem
namespace L2
open PySem PySem.Spec PyProof.Rows
/-- the tuple at a, its items in new pairs with their numbers -/
def Itet (K : PySem.W.Frag) (a : Addr) : It :=
  ⟨fun i H => ∃ (xs : List V) (x : V), SqT K H a xs ∧ xs[i]? = some x, fun i H v H' => ∃ T x, v = .ref T ∧ H T = none ∧ H' = upd H T (.tup [.int (i : Nat), x]) ∧ ∀ xs, SqT K H a xs → xs[i]? = some x, fun i H => ∃ xs : List V, SqT K H a xs ∧ xs.length ≤ i⟩
theorem turn_enumT {P : Program} {w : World} {K : PySem.W.Frag} {elts : List Expr} {kk : Nat} {tpos : Pos} (a e it : Addr) :
    Turn P w K (.Tuple elts kk tpos) (Itet K a) [e, it] e (fun i h => (∃ old, IsEnum h e it ((i : Nat) : Int) old) ∧ h.IsTupleIter it a i ∧ e ≠ it) where
  mem := by simp
  obj := fun i h st b hb => by
    obtain ⟨⟨old, he⟩, ⟨o, ho, hc, hd⟩, _⟩ := st
    have e' : b = e ∨ b = it := by simpa using hb
    rcases e' with z | z
    · rw [z]; exact ⟨_, he, fun v q => nomatch q⟩
    · rw [z]; exact ⟨o, ho, fun v q => by rw [hd] at q; cases q⟩
  keep := fun i h h' st k => let ⟨⟨old, he⟩, hi, hne⟩ := st; ⟨⟨old, k e (by simp) _ he⟩, hi.at fun o q => k it (by simp) o q, hne⟩
  item := by
    intro X hP hw hK hc i pins s σ H E I hf st hg
    subst hP hw hK
    obtain ⟨⟨old, he⟩, hit, hne⟩ := st
    obtain ⟨xs, x, hq, hx⟩ := hg
    obtain ⟨its, rv, p, hz⟩ := I.tuple hq
    obtain ⟨u, hu, ru⟩ := rv.get hx
    have hel : e < s.heap.objs.size := Heap.lt_size he
    have hil : it < s.heap.objs.size := by obtain ⟨_, q, _⟩ := hit; exact Heap.lt_size q
    have hae : a ≠ e := fun z => by
      obtain ⟨o, q1, q2, _⟩ := p
      rw [z] at q1
      have q3 := q1.symm.trans he
      cases q3
      injection q2 with q2
      exact absurd q2 (by decide)
    have hai : a ≠ it := fun z => by
      obtain ⟨o, q1, q2, _⟩ := p
      obtain ⟨o', q1', q2', _⟩ := hit
      rw [z] at q1
      have q3 := q1.symm.trans q1'
      cases q3
      rw [q2] at q2'
      injection q2' with q2'
      exact absurd q2' (by decide)
    have Dr := Draws.tuple (prog := X.prog) (w := X.w) (A := X.A.in1) (show X.A.in1.handled = none from I.ok.hd hc) it a hai its.toArray
    refine wpAny_pyNext_enum_itemD Dr he ⟨hit, p⟩ (by rw [List.size_toArray]; exact (List.getElem?_eq_some_iff.mp hu).1) hne (by simp [hne, Ne.symm hae]) fun y h' tk hy ho hst hT hsz hk => ?_
    have ey : y = u := by
      have := hy.symm.trans (show its.toArray[i]? = some u by simpa using hu)
      exact Option.some.inj this
    subst ey
    refine ⟨_, rfl, wpAny_letOwnedTupleGo_enum (s := { s with heap := h', toks := tk + 1 }) ho fun h'' he' sb => ?_⟩
    have hT2 : h''.get? s.heap.objs.size = some { cls := .type "tuple", data := .seq #[.int i tk, y] } := (sb.2 _ (Nat.ne_of_gt hel)).trans hT
    have new : ObjOk X.prog X.w (upd H s.heap.objs.size (.tup [.int (i : Nat), x])) h'' s.heap.objs.size (.tup [.int (i : Nat), x]) :=
      ⟨by show 2 ≤ sizeLine; decide, [.int i tk, y], .cons ⟨_, rfl⟩ (.cons ru .nil), ⟨_, hT2, rfl, _, rfl⟩⟩
    have I1 : Inv X pins σ (upd H s.heap.objs.size (.tup [.int (i : Nat), x])) { s with heap := h'', toks := tk + 1 } :=
      I.turnedNew (ch := [e, it]) (fun b ob hb q => (sb.2 b (fun z => hb (by simp [z]))).trans (hk b ob (fun z => hb (by simp [z])) (fun z => hb (by simp [z])) q)) hf (Nat.le_refl _) new
    refine ⟨.ref s.heap.objs.size, _, I1, rfl, ⟨_, x, rfl, I.hok.fresh (Nat.le_refl _), rfl, fun ys hy => by rw [I.tuple_inj hy hq]; exact hx⟩, ⟨⟨y, ?_⟩, hst.1.at fun o q => (sb.2 it (Ne.symm hne)).trans q, hne⟩, fun b hb => ?_⟩
    · have e1 : ((i + 1 : Nat) : Int) = (i : Int) + 1 := by omega
      rw [e1]; exact he'
    · have hb' : b < s.heap.objs.size := by
        have e' : b = e ∨ b = it := by simpa using hb
        rcases e' with z | z
        · rw [z]; exact hel
        · rw [z]; exact hil
      rw [upd_ne (Nat.ne_of_lt hb')]
      exact (hf b hb).1
  done := by
    intro X hP hw hK hc i pins s σ H E I hf st hg
    subst hP hw hK
    obtain ⟨⟨old, he⟩, hit, hne⟩ := st
    obtain ⟨xs, hq, hx⟩ := hg
    obtain ⟨its, rv, p, hz⟩ := I.tuple hq
    obtain ⟨f0, f1, f2, f3, f4, f5⟩ := hf it (by simp)
    have hl := rv.length
    have hai : a ≠ it := fun z => by
      obtain ⟨o, q1, q2, _⟩ := p
      obtain ⟨o', q1', q2', _⟩ := hit
      rw [z] at q1
      have q3 := q1.symm.trans q1'
      cases q3
      rw [q2] at q2'
      injection q2' with q2'
      exact absurd q2' (by decide)
    unfold pyNext
    have hT : s.TypeIs (.ref e) "enumerate" := ⟨_, he, rfl⟩
    refine wpAny_bind (wpAny_attempt (wpAny_callSpecial?_slot (name := Str.ofString "__next__") hT F.slot_enumerate_next
      (wpAny_call_entry F.slot_enumerate_next hT F.entry_enumerate_next ?_ (F.args_enumerate_next_1 _))))
    show wpAny _ _ (field (.ref e) 2 >>= _) _ _ _
    refine wpAny_bind (wpAny_field he rfl (x := .ref it) rfl ?_)
    refine wpAny_bind (wpAny_nextOf_tuple_end (show X.A.in1.handled = none from I.ok.hd hc) hit (show s.heap.IsTuple a its.toArray from p) (by simp; omega) fun h' x he' hx' => ?_)
    obtain ⟨o, ho, hc2⟩ := hx'
    refine wpAny_bind (wpAny_isInstance (T := "StopIteration") (b := true) ⟨o, ho, hc2⟩ isSubtype_stop ?_)
    exact wpAny_pure ⟨rfl, I.turned (t' := s.toks) (fun b o hb q => he' b o hb q) f0 f1 f3 f4 f5⟩
  self := fun A i s Q E st h => let ⟨⟨_, he⟩, _⟩ := st; wpAny_pyIter_enum he h
def iEnumT (K : PySem.W.Frag) (ta : TA) : TI := fun σ H R => ta σ H fun vs H1 => ∃ a xs, vs = [.ref a] ∧ SqT K H1 a xs ∧ R (Itet K a) H1
theorem pi_enumT {X : Cx} {e : Expr} {ta : TA} {p pos tpos : Pos} {elts : List Expr} {kk : Nat} (hg : Gl X "enumerate") (hm : X.mg "enumerate" = none) (ha : PA X [e] ta) (hs : starEach [e] X.env = [(false, eval e X.env)] := by rfl) :
    PI X (.Tuple elts kk tpos) (.Call (.Name "enumerate" p) [e] [] pos) (iEnumT X.K ta) := by
  refine ⟨fun pins s σ H R I h => ?_⟩
  refine Call_ (ld_blt I hg hm boot_enumerate (PyProof.Rows.callWith_type1 (thn (ha.run pos pins s σ H _ I h) fun us s1 ⟨vs, H1, I1, r1, q1⟩ => ?_) hs rfl))
  obtain ⟨a, xs, ex, hq, q⟩ := q1
  subst ex
  cases r1 with
  | cons r rr =>
    cases rr
    cases r
    obtain ⟨its, rv, p', hz⟩ := I1.tuple hq
    refine PySem.call_enum1 (begins_tuple a its.toArray) (show s1.heap.IsTuple a its.toArray from p') fun h' he hit hsz hk => wpAny_pyIter_enum he ?_
    have I2 : Inv X pins σ H1 { s1 with heap := h' } := I1.kept (t' := s1.toks) hk
    refine ⟨s1.heap.objs.size + 1, [s1.heap.objs.size + 1, s1.heap.objs.size], _, _, H1, rfl, I2, turn_enumT a (s1.heap.objs.size + 1) s1.heap.objs.size, ⟨⟨.none, he⟩, ⟨_, hit, rfl, rfl⟩, Nat.succ_ne_self _⟩, fun b hb => ?_, q⟩
    have e' : b = s1.heap.objs.size + 1 ∨ b = s1.heap.objs.size := by simpa using hb
    have hle : s1.heap.objs.size ≤ b := by
      rcases e' with z | z
      · rw [z]; exact Nat.le_add_right _ _
      · rw [z]; exact Nat.le_refl _
    exact I1.fpOk hle (I1.hok.fresh hle)
theorem for_enumT {K : PySem.W.Frag} {a : Addr} {xs : List V} {g : TG} {tb : TS} {D : Ends} {σ : St} {H : Hp} (Pv : Nat → St → Hp → Prop) (h0 : Pv 0 σ H) (hl : ∀ i σ H, i ≤ xs.length → Pv i σ H → SqT K H a xs)
    (hs : ∀ i x σ H T, xs[i]? = some x → Pv i σ H → H T = none → g (.ref T) σ (upd H T (.tup [.int (i : Nat), x])) fun σ2 H2 => tb { D with nx := Pv (i + 1), ct := Pv (i + 1), bk := D.nx } σ2 H2) (hd : ∀ σ H, Pv xs.length σ H → D.nx σ H) :
    ∃ W : Nat → Nat → St → Hp → Prop, (∃ m, W 0 m σ H) ∧ ∀ i m σ H, W i m σ H →
      ((Itet K a).stop i H ∧ D.nx σ H) ∨ ((Itet K a).go i H ∧ ∃ N : St → Hp → Prop, (∀ σ' H', N σ' H' → ∃ m', m' < m ∧ W (i + 1) m' σ' H') ∧ ∀ x H', (Itet K a).yld i H x H' → g x σ H' fun σ2 H2 => tb { D with nx := N, ct := N, bk := D.nx } σ2 H2) := by
  refine ⟨fun i m σ H => m = xs.length - i ∧ i ≤ xs.length ∧ Pv i σ H, ⟨xs.length, by simp, Nat.zero_le _, h0⟩, ?_⟩
  rintro i m σ H ⟨rfl, hi, p⟩
  have q := hl i σ H hi p
  by_cases hlt : i < xs.length
  · refine .inr ⟨⟨xs, xs[i], q, by simp [hlt]⟩, Pv (i + 1), fun σ' H' p' => ⟨xs.length - (i + 1), by omega, rfl, hlt, p'⟩, fun v H' y => ?_⟩
    obtain ⟨T, x, e1, e2, e3, y⟩ := y
    subst e1 e3
    exact hs i x σ H T (y xs q) p e2
  · have e : i = xs.length := by omega
    subst e
    exact .inl ⟨⟨xs, q, Nat.le_refl _⟩, hd σ H p⟩
end L2
namespace VL
variable [Tb]
open PySem L2
section
variable {X : Cx} {ρ : Rho} {j : J} {e : Expr} {body : List Stmt} {pos p p2 px py pt : Pos} {kt : Nat}
/-- for at, x in enumerate(a tuple) -/
theorem xs_forET (i l : Nat) {x y : Str} (h : XE X e ρ fun d => ∃ ds, d = .tup ds ∧ ∃ W : Nat → Rho → Prop, W 0 ρ ∧
      (∀ (m : Nat) d ρ', ds[m]? = some d → W m ρ' → XB X body ((ρ'.set i (.dat (.int m))).set l (.dat d)) { nx := W (m + 1), rt := j.rt, bk := j.nx, ct := W (m + 1) }) ∧ ∀ ρ', W ds.length ρ' → j.nx ρ') (hm : X.mg "enumerate" = none) (hN : X.N.Nodup)
    (hc : X.calm = true := by rfl) (hg : Gl X "enumerate" := by rfl) (hi : X.N[i]? = some x := by rfl) (hl : X.N[l]? = some y := by rfl) (hx : Loc X.env.scope x := by first | exact Or.inl rfl | exact Or.inr rfl) (hy : Loc X.env.scope y := by first | exact Or.inl rfl | exact Or.inr rfl)
    (hfx : X.fn x = true ∨ X.env.scope.names.lookup x = some .local := by first | exact .inl rfl | exact .inr rfl) (hfy : X.fn y = true ∨ X.env.scope.names.lookup y = some .local := by first | exact .inl rfl | exact .inr rfl)
    (he : starEach (e :: []) X.env = (false, eval e X.env) :: starEach [] X.env := by rfl) (he2 : starEach [e] X.env = [(false, eval e X.env)] := by rfl) (hp : PassesOwn (model X.prog X.w) X.A X.env X.xe := by exact PassesOwn.never)
    (hs : ∀ y, foldedSetIterable (.Call (.Name "enumerate" p) [e] [] p2) X.env y = pure y := by intro _; rfl)
    (a1 : (assignEach ([.Name x px, .Name y py] : List Expr) X.env).map (·.2) = assign (.Name x px) X.env :: (assignEach [.Name y py] X.env).map (·.2) := by rfl) (a2 : (assignEach ([.Name y py] : List Expr) X.env).map (·.2) = assign (.Name y py) X.env :: (assignEach [] X.env).map (·.2) := by rfl)
    (b1 : (assignEach ([.Name x px, .Name y py] : List Expr) X.env).length = 2 := by rfl) (b2 : (assignEach ([.Name x px, .Name y py] : List Expr) X.env).findIdx? (·.1) = none := by rfl) :
    XS X (.For (.Tuple [.Name x px, .Name y py] kt pt) (.Call (.Name "enumerate" p) [e] [] p2) body [] pos) ρ j := fun S0 H0 tr =>
  impS (ps_for hp hc (pi_enumT hg hm (pa_cons anyE pa_nil he) he2) (pg_tup (n := 2) hc (pgs_cons (pg_name hN hi hx hfx) (pgs_cons (pg_name hN hl hy hfy) pgs_nil a2) a1) b1 b2) anySs hs) fun En σ H ⟨⟨S, h1, h2, h3, h4, E⟩, f⟩ => useE h E fun v H1 d e1 az ⟨ds, hd, W, w0, hw, hd2⟩ => by
    subst hd
    obtain ⟨a, vs, rfl, g1, g2⟩ := az.inv_tup
    obtain ⟨H2, ok2, x1, x2, x3⟩ := StOk.base tr h1 h2 h3 (h4.trans e1) (E.mono e1)
    have f2 := f.weaken x1 x2
    have tr2 : Trk S0 H2 := tr.mono x1
    refine ⟨a, vs, rfl, ex_t hide_le g1, for_enumT (K := X.K) (a := a) (xs := vs) (fun m σ' H' => ∃ ρ', StOk X.K S0 H2 H' σ' ρ' ∧ W m ρ') ⟨ρ, ok2, w0⟩ ?_ ?_ ?_⟩
    · rintro m σ' H' _ ⟨ρ', ⟨S', k1, k2, k3, k4, E'⟩, w'⟩
      exact ex_t hide_le (ex_t (x3 H' S' k2 k4) g1)
    · rintro m y0 σ' H' T hm' ⟨ρ', ⟨S', k1, k2, k3, k4, E'⟩, w'⟩ hT
      obtain ⟨d, q1, q2⟩ := g2.get' hm'
      have eT : Ex H' (upd H' T (.tup [.int (m : Nat), y0])) := Ex.new hT
      refine ⟨T, _, rfl, SqT.of upd_same, rfl, .int (m : Nat), [y0], rfl, y0, [], rfl, rfl, ?_⟩
      have s1 := StOk.store (i := i) (v := .int (m : Nat)) (d := .int m) k1 k2 k3 (k4.trans eT) (E'.mono eT) (.int _)
      obtain ⟨S'', z1, z2, z3, z4, z5⟩ := s1
      have at0 : At X.K (hide S'' (upd H' T (.tup [.int (m : Nat), y0]))) y0 d := q2.mono (x3 _ S'' z2 z4)
      refine ⟨_, hw m d ρ' q1 w' S0 H2 tr2, StOk.store z1 z2 z3 z4 z5 at0, ⟨?_, f2.rt, f2.nx, ?_⟩⟩
      · exact fun σ3 H3 ρ3 ok3 hw3 => ⟨ρ3, ok3, hw3⟩
      · exact fun σ3 H3 ρ3 ok3 hw3 => ⟨ρ3, ok3, hw3⟩
    · rintro σ' H' ⟨ρ', ok', w'⟩
      rw [g2.length] at w'
      exact f2.nx σ' H' ρ' ok' (hd2 ρ' w')
end
end VL

set_option Elab.async false
set_option linter.all false
set_option maxRecDepth 100000
set_option maxHeartbeats 4000000
namespace PySem.SeqAt
open AutoSeq1 (wpAny_loadPart')
open MeetsSeq
/-! builtin == and != over an instance of an own class: not implemented -/
theorem str_eq_ins (b : Str) (u : Tok) (l C : Addr) (dd : Option Addr) (sl : Array (Option Value)) :
    Meets (Builtin.«str.__eq__» ⟨[.str b u, .ref l], []⟩) (fun _ R s => s.heap.get? l = some { cls := .ref C, dict := dd, data := .plain, slots := sl } ∧ R (.ok (.ret .notImplemented)) s) :=
  .of_wp fun prog w A R s h => by obtain ⟨hp, g, d, tk, os⟩ := s; obtain ⟨hl, h⟩ := h; wp_walk using wpAny_loadPart' hl, wpAny_load hl; exact ⟨_, rfl, h⟩
theorem str_ne_ins (b : Str) (u : Tok) (l C : Addr) (dd : Option Addr) (sl : Array (Option Value)) :
    Meets (Builtin.«str.__ne__» ⟨[.str b u, .ref l], []⟩) (fun _ R s => s.heap.get? l = some { cls := .ref C, dict := dd, data := .plain, slots := sl } ∧ R (.ok (.ret .notImplemented)) s) :=
  .of_wp fun prog w A R s h => by obtain ⟨hp, g, d, tk, os⟩ := s; obtain ⟨hl, h⟩ := h; wp_walk using wpAny_loadPart' hl, wpAny_load hl; exact ⟨_, rfl, h⟩
theorem int_eq_ins (b : Int) (u : Tok) (l C : Addr) (dd : Option Addr) (sl : Array (Option Value)) :
    Meets (Builtin.«int.__eq__» ⟨[.int b u, .ref l], []⟩) (fun _ R s => s.heap.get? l = some { cls := .ref C, dict := dd, data := .plain, slots := sl } ∧ R (.ok (.ret .notImplemented)) s) :=
  .of_wp fun prog w A R s h => by obtain ⟨hp, g, d, tk, os⟩ := s; obtain ⟨hl, h⟩ := h; wp_walk using wpAny_loadPart' hl, wpAny_load hl; exact ⟨_, rfl, h⟩
theorem int_ne_ins (b : Int) (u : Tok) (l C : Addr) (dd : Option Addr) (sl : Array (Option Value)) :
    Meets (Builtin.«int.__ne__» ⟨[.int b u, .ref l], []⟩) (fun _ R s => s.heap.get? l = some { cls := .ref C, dict := dd, data := .plain, slots := sl } ∧ R (.ok (.ret .notImplemented)) s) :=
  .of_wp fun prog w A R s h => by obtain ⟨hp, g, d, tk, os⟩ := s; obtain ⟨hl, h⟩ := h; wp_walk using wpAny_loadPart' hl, wpAny_load hl; exact ⟨_, rfl, h⟩
theorem bool_eq_ins (b : Bool) (l C : Addr) (dd : Option Addr) (sl : Array (Option Value)) :
    Meets (Builtin.«int.__eq__» ⟨[.bool b, .ref l], []⟩) (fun _ R s => s.heap.get? l = some { cls := .ref C, dict := dd, data := .plain, slots := sl } ∧ R (.ok (.ret .notImplemented)) s) :=
  .of_wp fun prog w A R s h => by obtain ⟨hp, g, d, tk, os⟩ := s; obtain ⟨hl, h⟩ := h; wp_walk using wpAny_loadPart' hl, wpAny_load hl; exact ⟨_, rfl, h⟩
theorem bool_ne_ins (b : Bool) (l C : Addr) (dd : Option Addr) (sl : Array (Option Value)) :
    Meets (Builtin.«int.__ne__» ⟨[.bool b, .ref l], []⟩) (fun _ R s => s.heap.get? l = some { cls := .ref C, dict := dd, data := .plain, slots := sl } ∧ R (.ok (.ret .notImplemented)) s) :=
  .of_wp fun prog w A R s h => by obtain ⟨hp, g, d, tk, os⟩ := s; obtain ⟨hl, h⟩ := h; wp_walk using wpAny_loadPart' hl, wpAny_load hl; exact ⟨_, rfl, h⟩
theorem none_ne_ins (l : Addr) : Gives (Builtin.«NoneType.__ne__» ⟨[.none, .ref l], []⟩) (.val (Value.notImplemented)) :=
  .of_wp fun M A E s Q h => by obtain ⟨hp, g, d, tk, os⟩ := s; wp_walk; exact ⟨_, rfl, h⟩
/-- of lists, tuples, dicts: asked whether the other one is one -/
abbrev NotI (l : Addr) (T : String) (s : Shared) : Prop := ∀ (M : Model) (A : Around) (E : Value → Shared → Prop) (Q : Bool → Shared → Prop), Q false s → wpAny M A (isInstance (.ref l) (.type T)) Q E s
theorem list_eq_ins (a l : Addr) : Meets (Builtin.«list.__eq__» ⟨[.ref a, .ref l], []⟩) (fun _ R s => NotI l "list" s ∧ R (.ok (.ret .notImplemented)) s) :=
  .of_wp fun prog w A R s h => by obtain ⟨hp, g, d, tk, os⟩ := s; obtain ⟨hl, h⟩ := h; wp_walk using hl _ _ _ _; exact ⟨_, rfl, h⟩
theorem list_ne_ins (a l : Addr) : Meets (Builtin.«list.__ne__» ⟨[.ref a, .ref l], []⟩) (fun _ R s => NotI l "list" s ∧ R (.ok (.ret .notImplemented)) s) :=
  .of_wp fun prog w A R s h => by obtain ⟨hp, g, d, tk, os⟩ := s; obtain ⟨hl, h⟩ := h; wp_walk using hl _ _ _ _; exact ⟨_, rfl, h⟩
theorem tuple_eq_ins (a l : Addr) : Meets (Builtin.«tuple.__eq__» ⟨[.ref a, .ref l], []⟩) (fun _ R s => NotI l "tuple" s ∧ R (.ok (.ret .notImplemented)) s) :=
  .of_wp fun prog w A R s h => by obtain ⟨hp, g, d, tk, os⟩ := s; obtain ⟨hl, h⟩ := h; wp_walk using hl _ _ _ _; exact ⟨_, rfl, h⟩
theorem tuple_ne_ins (a l : Addr) : Meets (Builtin.«tuple.__ne__» ⟨[.ref a, .ref l], []⟩) (fun _ R s => NotI l "tuple" s ∧ R (.ok (.ret .notImplemented)) s) :=
  .of_wp fun prog w A R s h => by obtain ⟨hp, g, d, tk, os⟩ := s; obtain ⟨hl, h⟩ := h; wp_walk using hl _ _ _ _; exact ⟨_, rfl, h⟩
theorem dict_eq_ins (a l : Addr) : Meets (Builtin.«dict.__eq__» ⟨[.ref a, .ref l], []⟩) (fun _ R s => NotI l "dict" s ∧ R (.ok (.ret .notImplemented)) s) :=
  .of_wp fun prog w A R s h => by obtain ⟨hp, g, d, tk, os⟩ := s; obtain ⟨hl, h⟩ := h; wp_walk using hl _ _ _ _; exact ⟨_, rfl, h⟩
theorem dict_ne_ins (a l : Addr) : Meets (Builtin.«dict.__ne__» ⟨[.ref a, .ref l], []⟩) (fun _ R s => NotI l "dict" s ∧ R (.ok (.ret .notImplemented)) s) :=
  .of_wp fun prog w A R s h => by obtain ⟨hp, g, d, tk, os⟩ := s; obtain ⟨hl, h⟩ := h; wp_walk using hl _ _ _ _; exact ⟨_, rfl, h⟩
/-! so their tries end with nothing -/
section
variable {prog : Program} {w : World} {A : Around} {E : Value → Shared → Prop} {s : Shared} {l C dx : Addr} {dd : Option Addr} {sl : Array (Option Value)}
/-- the value a declines == and != over the thing at l -/
structure Dec (prog : Program) (w : World) (A : Around) (s : Shared) (a : Value) (l : Addr) : Prop where
  eq : ∀ E : Value → Shared → Prop, wpAny (model prog w) A (tryCompare a "__eq__" (.ref l)) (fun r s' => r = none ∧ s' = s) E s
  ne : ∀ E : Value → Shared → Prop, wpAny (model prog w) A (tryCompare a "__ne__" (.ref l)) (fun r s' => r = none ∧ s' = s) E s
theorem dec_none : Dec prog w A s .none l :=
  ⟨fun E => wpAny_tryCompare_declines (show s.TypeIs .none "NoneType" from rfl) F.slot_NoneType_eq (call_gives F.slot_NoneType_eq rfl F.entry_NoneType_eq (F.args_NoneType_eq_2 _ _) (NoneType___eq___none_ref_0 l) ⟨rfl, rfl, rfl⟩),
  fun E => wpAny_tryCompare_declines (show s.TypeIs .none "NoneType" from rfl) F.slot_NoneType_ne (call_gives F.slot_NoneType_ne rfl F.entry_NoneType_ne (F.args_NoneType_ne_2 _ _) (none_ne_ins l) ⟨rfl, rfl, rfl⟩)⟩
theorem dec_str {b : Str} {u : Tok} (ho : s.heap.get? l = some { cls := .ref C, dict := dd, data := .plain, slots := sl }) : Dec prog w A s (.str b u) l :=
  ⟨fun E => wpAny_tryCompare_declines (typeIs_str s b u) F.slot_str_eq (call_meets F.slot_str_eq (typeIs_str s b u) F.entry_str_eq (F.args_str_eq_2 _ _) (str_eq_ins b u l C dd sl) ⟨ho, rfl, rfl, rfl⟩),
  fun E => wpAny_tryCompare_declines (typeIs_str s b u) F.slot_str_ne (call_meets F.slot_str_ne (typeIs_str s b u) F.entry_str_ne (F.args_str_ne_2 _ _) (str_ne_ins b u l C dd sl) ⟨ho, rfl, rfl, rfl⟩)⟩
theorem dec_int {b : Int} {u : Tok} (ho : s.heap.get? l = some { cls := .ref C, dict := dd, data := .plain, slots := sl }) : Dec prog w A s (.int b u) l :=
  ⟨fun E => wpAny_tryCompare_declines (typeIs_int s b u) F.slot_int_eq (call_meets F.slot_int_eq (typeIs_int s b u) F.entry_int_eq (F.args_int_eq_2 _ _) (int_eq_ins b u l C dd sl) ⟨ho, rfl, rfl, rfl⟩),
  fun E => wpAny_tryCompare_declines (typeIs_int s b u) F.slot_int_ne (call_meets F.slot_int_ne (typeIs_int s b u) F.entry_int_ne (F.args_int_ne_2 _ _) (int_ne_ins b u l C dd sl) ⟨ho, rfl, rfl, rfl⟩)⟩
theorem dec_bool {b : Bool} (ho : s.heap.get? l = some { cls := .ref C, dict := dd, data := .plain, slots := sl }) : Dec prog w A s (.bool b) l :=
  ⟨fun E => wpAny_tryCompare_declines (show s.TypeIs (.bool b) "bool" from rfl) F.slot_bool_eq (call_meets F.slot_bool_eq (show s.TypeIs (.bool b) "bool" from rfl) F.entry_int_eq (F.args_int_eq_2 _ _) (bool_eq_ins b l C dd sl) ⟨ho, rfl, rfl, rfl⟩),
  fun E => wpAny_tryCompare_declines (show s.TypeIs (.bool b) "bool" from rfl) F.slot_bool_ne (call_meets F.slot_bool_ne (show s.TypeIs (.bool b) "bool" from rfl) F.entry_int_ne (F.args_int_ne_2 _ _) (bool_ne_ins b l C dd sl) ⟨ho, rfl, rfl, rfl⟩)⟩
theorem dec_list {a : Addr} (ht : s.TypeIs (.ref a) "list") (h : NotI l "list" s) : Dec prog w A s (.ref a) l :=
  ⟨fun E => wpAny_tryCompare_declines ht F.slot_list_eq (call_meets F.slot_list_eq ht F.entry_list_eq (F.args_list_eq_2 _ _) (list_eq_ins a l) ⟨h, rfl, rfl, rfl⟩),
  fun E => wpAny_tryCompare_declines ht F.slot_list_ne (call_meets F.slot_list_ne ht F.entry_list_ne (F.args_list_ne_2 _ _) (list_ne_ins a l) ⟨h, rfl, rfl, rfl⟩)⟩
theorem dec_tuple {a : Addr} (ht : s.TypeIs (.ref a) "tuple") (h : NotI l "tuple" s) : Dec prog w A s (.ref a) l :=
  ⟨fun E => wpAny_tryCompare_declines ht F.slot_tuple_eq (call_meets F.slot_tuple_eq ht F.entry_tuple_eq (F.args_tuple_eq_2 _ _) (tuple_eq_ins a l) ⟨h, rfl, rfl, rfl⟩),
  fun E => wpAny_tryCompare_declines ht F.slot_tuple_ne (call_meets F.slot_tuple_ne ht F.entry_tuple_ne (F.args_tuple_ne_2 _ _) (tuple_ne_ins a l) ⟨h, rfl, rfl, rfl⟩)⟩
theorem dec_dict {a : Addr} (ht : s.TypeIs (.ref a) "dict") (h : NotI l "dict" s) : Dec prog w A s (.ref a) l :=
  ⟨fun E => wpAny_tryCompare_declines ht F.slot_dict_eq (call_meets F.slot_dict_eq ht F.entry_dict_eq (F.args_dict_eq_2 _ _) (dict_eq_ins a l) ⟨h, rfl, rfl, rfl⟩),
  fun E => wpAny_tryCompare_declines ht F.slot_dict_ne (call_meets F.slot_dict_ne ht F.entry_dict_ne (F.args_dict_ne_2 _ _) (dict_ne_ins a l) ⟨h, rfl, rfl, rfl⟩)⟩
end
end PySem.SeqAt

set_option Elab.async false
set_option linter.all false
set_option maxRecDepth 100000
set_option maxHeartbeats 4000000
namespace VL
variable [Tb]
open PySem L2
/-! ## == and != of a thing of an own class and a value of another kind -/
section
variable {X : Cx} {pins : List (Addr × Obj)} {σ : L2.St} {H : Hp} {s : Shared}
theorem ty_is {x : V} {u : Value} {T : String} (I : Inv X pins σ H s) (rx : RelV x u) (ty : TyX X.K H x (.type T)) : s.TypeIs u T := by
  cases ty with
  | base b =>
    cases b with
    | non => cases (show u = Value.none from rx); exact rfl
    | bl y => cases (show u = Value.bool y from rx); exact rfl
    | int i => obtain ⟨t, q⟩ := (show ∃ t, u = Value.int i t from rx); cases q; exact rfl
    | str y => obtain ⟨t, q⟩ := (show ∃ t, u = Value.str y t from rx); cases q; exact rfl
    | flt y => obtain ⟨t, q⟩ := (show ∃ t, u = Value.float y t from rx); cases q; exact rfl
    | @lst a xs ea =>
      cases (show u = Value.ref a from rx)
      obtain ⟨_, _, n, _, h1⟩ := (show ObjOk X.prog X.w H s.heap a (.lst xs) from I.hok a _ ea)
      exact ⟨_, h1, rfl⟩
    | @frz a ob xs ea =>
      cases (show u = Value.ref a from rx)
      obtain ⟨_, _, _, n, _, h1⟩ := (show ObjOk X.prog X.w H s.heap a (.frz ob (.lst xs)) from I.hok a _ ea)
      exact ⟨_, h1, rfl⟩
    | @tup a xs ea =>
      cases (show u = Value.ref a from rx)
      obtain ⟨_, _, _, o, h1, h2, _⟩ := (show ObjOk X.prog X.w H s.heap a (.tup xs) from I.hok a _ ea)
      exact ⟨o, h1, h2⟩
    | @dK a kvs ea =>
      cases (show u = Value.ref a from rx)
      obtain ⟨_, _, vs, _, o, es, ep, h1, h2, _⟩ := (show ObjOk X.prog X.w H s.heap a (.dK kvs) from I.hok a _ ea)
      exact ⟨o, h1, h2.1⟩
    | @dT a kvs ea =>
      cases (show u = Value.ref a from rx)
      obtain ⟨_, _, xs, _, o, es, ep, h1, h2, _⟩ := (show ObjOk X.prog X.w H s.heap a (.dT kvs) from I.hok a _ ea)
      exact ⟨o, h1, h2.1⟩
  | byt y => obtain ⟨t, q⟩ := (show ∃ t, u = Value.bytes y t from rx); cases q; exact rfl
  | @set a S n ea =>
    cases (show u = Value.ref a from rx)
    obtain ⟨o, _, _, _, e, ex, _⟩ := I.hok a _ ea
    exact ⟨o, e, ex.1⟩
  | @kList a o e c =>
    cases (show u = Value.ref a from rx)
    exact ⟨o, I.kIn a o e, c⟩
  | @kTuple a o e c =>
    cases (show u = Value.ref a from rx)
    exact ⟨o, I.kIn a o e, c⟩
  | @kDict a o e c =>
    cases (show u = Value.ref a from rx)
    exact ⟨o, I.kIn a o e, c⟩
  | @fTuple a o xs ea =>
    cases (show u = Value.ref a from rx)
    obtain ⟨_, _, _, _, o', h1, h2, _⟩ := (show ObjOk X.prog X.w H s.heap a (.frz o (.tup xs)) from I.hok a _ ea)
    exact ⟨o', h1, h2⟩
  | @fDict a o kvs ea =>
    cases (show u = Value.ref a from rx)
    obtain ⟨_, _, _, vs, _, o', es, ep, h1, h2, _⟩ := (show ObjOk X.prog X.w H s.heap a (.frz o (.dK kvs)) from I.hok a _ ea)
    exact ⟨_, h1, h2.1⟩
end
/-- the own class is none of the built-in ones that it is compared with -/
structure Alien (K : PySem.W.Frag) (C : Addr) : Prop where
  ty : ((PySem.W.clsIn K C).isSome && PySem.W.typeIn K (.ref C) == some (.type "type")) = true
  no : ∀ T ∈ ["NoneType", "bool", "int", "str", "list", "tuple", "dict"], PySem.W.mroIn K C (.type T) = some false
theorem sub_al {K : PySem.W.Frag} {C : Addr} {T : String} (h : T ∈ ["NoneType", "bool", "int", "str", "list", "tuple", "dict"]) : PySem.W.subIn K (.type T) (.ref C) = some false := by
  simp only [List.mem_cons, List.not_mem_nil, or_false] at h
  have go : ∀ (T : String) (l : List Value), fastBuiltinMro T = some l → (l.contains (.ref C)) = false → PySem.W.subIn K (.type T) (.ref C) = some false := fun T l e h => by
    show (fastBuiltinMro T).map (·.contains (.ref C)) = some false
    rw [e]
    exact congrArg some h
  rcases h with h | h | h | h | h | h | h <;> subst h
  · exact go _ [.type "NoneType", .type "object"] (by decide +kernel) (by first | rfl | simp)
  · exact go _ [.type "bool", .type "int", .type "object"] (by decide +kernel) (by first | rfl | simp)
  · exact go _ [.type "int", .type "object"] (by decide +kernel) (by first | rfl | simp)
  · exact go _ [.type "str", .type "object"] (by decide +kernel) (by first | rfl | simp)
  · exact go _ [.type "list", .type "object"] (by decide +kernel) (by first | rfl | simp)
  · exact go _ [.type "tuple", .type "object"] (by decide +kernel) (by first | rfl | simp)
  · exact go _ [.type "dict", .type "object"] (by decide +kernel) (by first | rfl | simp)
section
open PySem.W
variable {prog : Program} {w : World} {A : Around} {E : Value → Shared → Prop} {s : Shared} {K : PySem.W.Frag} {x C f : Addr} {ox : Obj} {od : Option Obj} {a b : Value} {T : String} {Q : Value → Shared → Prop}
theorem eqo_try (Xk : K.In s.heap) (I : PySem.W.InstAt s.heap x ox C od) (he : PySem.W.findIn K (.ref C) "__eq__" = some (some (.ref f))) (hf : PySem.W.isFn K (.ref f) = true)
    (h : wpAny (model prog w) A (call (.ref f) [.ref x, b]) (fun v s' => ∃ r, v = .bool r ∧ Q (.bool r) s') E s) : wpAny (model prog w) A (tryCompare (.ref x) "__eq__" b) (fun r s' => ∃ v, r = some v ∧ Q v s') E s := by
  unfold tryCompare
  refine wpAny_bind (ifBound_K Xk I he hf (wpAny_mono h (fun v s' hv => ?_) fun _ _ e => e))
  obtain ⟨r, rfl, hq⟩ := hv
  exact wpAny_pure ⟨_, rfl, hq⟩
theorem neo_try (hu : A.units + 1 < cLine) (Xk : K.In s.heap) (I : PySem.W.InstAt s.heap x ox C od) (hs : PySem.W.findIn K (.ref C) "__ne__" = some (some (.builtin "object.__ne__"))) (he : PySem.W.findIn K (.ref C) "__eq__" = some (some (.ref f))) (hf : PySem.W.isFn K (.ref f) = true)
    (hm : PySem.W.mroIn K C (.type "object") = some true) (h : wpAny (model prog w) A.in1 (call (.ref f) [.ref x, b]) (fun v s' => ∃ r, v = .bool r ∧ Q (.bool (!r)) s') E s) : wpAny (model prog w) A (tryCompare (.ref x) "__ne__" b) (fun r s' => ∃ v, r = some v ∧ Q v s') E s := by
  have hcall : wpAny (model prog w) A (call (.builtin "object.__ne__") [.ref x, b]) (fun v s' => ∃ r, v = .bool r ∧ Q v s') E s := by
    refine wpAny_call (codeAny_call_builtin (by decide +kernel) F.cmpEntry_ne (check_slot (i := "object.__ne__") (owner := "object") (n := "__ne__") F.cmpKind_ne F.cmpSplit_ne (I.type.andThen (looks_mroIn Xk hm)) (F.cmpArgs_ne _ _) ?_))
    unfold Builtin.«object.__ne__»
    refine wpAny_bind (m := slotArgs "__ne__" 1 _) (wpAny_pure ?_)
    refine wpAny_bind (m := cRoomFor _ _) (wpAny_cRoomFor (by show A.units + 1 < _; exact hu) ?_)
    refine wpAny_bind (m := callSpecialIfBound? (.ref x) (Str.ofString "__eq__") _) (ifBound_K Xk I he hf (wpAny_mono h (fun r s' hq => ?_) fun _ _ y => y))
    obtain ⟨r, rfl, hq⟩ := hq
    exact wpAny_bind (wpAny_truthy_bool (wpAny_pure ⟨_, rfl, hq⟩))
  unfold tryCompare
  refine wpAny_bind ?_
  simp only [callSpecialIfBound?, bindSpecialIfBound?]
  refine wpAny_holding (wpAny_bind (wpAny_bind (wpAny_bind (I.type.here ((looks_findIn Xk hs).here ?_)))))
  have hbd : ∀ self, bindSpecial (.builtin "object.__ne__") self = pure (.builtin "object.__ne__", [self]) := F.slot_object_ne.bind
  have fin : wpAny (model prog w) A (call (.builtin "object.__ne__") ([.ref x] ++ [b]) >>= fun v => pure (some v)) (fun r s' => wpAny (model prog w) A (match r with | some .notImplemented => pure none | none => pure none | some z => pure (some z)) (fun r s' => ∃ v, r = some v ∧ Q v s') E s') E s := by
    refine wpAny_bind (wpAny_mono hcall (fun v s' h' => ?_) fun _ _ h' => h')
    obtain ⟨r, rfl, hq⟩ := h'
    exact wpAny_pure (wpAny_pure ⟨_, rfl, hq⟩)
  refine wpAny_bind (wpAny_askSetting (wpAny_ite ?_))
  split
  · exact wpAny_bind ((Looks.of_pure (hbd (.ref x))).here (wpAny_pure (by exact fin)))
  · exact wpAny_tryCatch (wpAny_bind ((Looks.of_pure (hbd (.ref x))).here (wpAny_pure (by exact fin))))
theorem rc_eqR (hu : A.units < cLine) (Xk : K.In s.heap) (I : PySem.W.InstAt s.heap x ox C od) (ht : s.TypeIs a T) (hsub : PySem.W.mroIn K C (.type T) = some false) (one : wpAny (model prog w) A (tryCompare a "__eq__" (.ref x)) (fun r s' => r = none ∧ s' = s) E s)
    (two : wpAny (model prog w) A (tryCompare (.ref x) "__eq__" a) (fun r s' => ∃ v, r = some v ∧ Q v s') E s) : wpAny (model prog w) A (richCompare .Eq a (.ref x)) Q E s := by
  simp only [richCompare, cmpInfo_Eq, ht.oneThing_none]
  refine wpAny_holding (wpAny_bind (wpAny_cRoomFor hu ?_))
  refine wpAny_bind (wpAny_typeOf ht (wpAny_bind (I.type.here ?_)))
  have hne : (Value.type T != Value.ref C) = true := rfl
  simp only [hne, if_true]
  refine wpAny_bind ((looks_mroIn Xk hsub).here ?_)
  simp only [Bool.false_eq_true, if_false, Bool.not_false, if_true]
  refine wpAny_bind (m := tryCompare a _ (.ref x)) (wpAny_mono one (fun r s1 z => ?_) fun _ _ e => e)
  obtain ⟨rfl, rfl⟩ := z
  refine wpAny_bind (m := tryCompare (.ref x) _ a) (wpAny_mono two (fun r s2 z => ?_) fun _ _ e => e)
  obtain ⟨v, rfl, hq⟩ := z
  exact wpAny_pure hq
theorem rc_neR (hu : A.units < cLine) (Xk : K.In s.heap) (I : PySem.W.InstAt s.heap x ox C od) (ht : s.TypeIs a T) (hsub : PySem.W.mroIn K C (.type T) = some false) (one : wpAny (model prog w) A (tryCompare a "__ne__" (.ref x)) (fun r s' => r = none ∧ s' = s) E s)
    (two : wpAny (model prog w) A (tryCompare (.ref x) "__ne__" a) (fun r s' => ∃ v, r = some v ∧ Q v s') E s) : wpAny (model prog w) A (richCompare .NotEq a (.ref x)) Q E s := by
  unfold richCompare
  simp only [ht.oneThing_none]
  refine wpAny_holding (wpAny_bind (wpAny_cRoomFor hu ?_))
  refine wpAny_bind (wpAny_typeOf ht (wpAny_bind (I.type.here ?_)))
  have hne : (Value.type T != Value.ref C) = true := rfl
  simp only [hne, if_true]
  refine wpAny_bind ((looks_mroIn Xk hsub).here ?_)
  simp only [Bool.false_eq_true, if_false, Bool.not_false, if_true]
  refine wpAny_bind (m := tryCompare a _ (.ref x)) (wpAny_mono one (fun r s1 z => ?_) fun _ _ e => e)
  obtain ⟨rfl, rfl⟩ := z
  refine wpAny_bind (m := tryCompare (.ref x) _ a) (wpAny_mono two (fun r s2 z => ?_) fun _ _ e => e)
  obtain ⟨v, rfl, hq⟩ := z
  exact wpAny_pure hq
end
theorem tyD_kind {d : D} {T : String} (h : tyD d = some T) : T ∈ ["NoneType", "bool", "int", "str", "list", "tuple", "dict"] := by
  cases d <;> first
    | (cases h; decide)
    | cases h
theorem looks_ty {M : Model} {s : Shared} {v : Value} {T : String} (h : s.TypeIs v T) : PySem.W.Looks M s.heap (typeOf v) (.type T) := fun A Q E s' k hq => by
  cases v with
  | ref a =>
    obtain ⟨o, ho, hc⟩ := h
    exact wpAny_typeOf (s := s') ⟨o, k _ _ ho, hc⟩ hq
  | _ => exact wpAny_typeOf (s := s') h hq
section
variable {X : Cx} {ρ : Rho} {a b c e : Expr} {pos p p2 : Pos} {k : D → Prop} {kb : Bool → Prop} {C g : Addr} {n m : Nat} {s1 s2 : Str} {Cn : Con}
/-- the own thing on the left -/
def rOwnK (K : PySem.W.Frag) (C : Addr) (sp : Sp) (f : Bool → Bool) : R2 := fun x y H Q => ∃ a dx vs T, x = .ref a ∧ SlX.Slt H a C dx vs ∧ TyX K H y (.type T) ∧ T ∈ ["NoneType", "bool", "int", "str", "list", "tuple", "dict"] ∧ sp [x, y] H (fun v H' => ∃ r, v = .bl r ∧ Q (.bl (f r)) H') fun _ _ _ => False
theorem nf_al {K : PySem.W.Frag} {C : Addr} {T : String} (h : T ∈ ["NoneType", "bool", "int", "str", "list", "tuple", "dict"]) : PySem.W.notFirst K C (.type T) = true := by
  unfold PySem.W.notFirst
  rw [sub_al h]
  simp
theorem op_eqK {sp : Sp} (q : EqAt X.K C g) (F : FnR X.prog X.w X.K X.mg X.base CX0 n g sp) (hr : Room n X.A) : OpR X (compareOp .Eq) (rOwnK X.K C sp id) := by
  intro pins s σ H x y v u Q I rx ry h
  obtain ⟨a, dx, vs, T, rfl, ha, ty, hT, h⟩ := h
  cases (show v = Value.ref a from rx)
  obtain ⟨sl, od, _, J1, _⟩ := SlX.slt_inst I ha
  have tu := ty_is I ry ty
  obtain ⟨m, hF⟩ := I.fr
  show wpAny _ _ (richCompare .Eq (.ref a) u) _ _ _
  refine PySem.W.cmp_K (op := .Eq) (tb := .type T) hr.units0 hF I.ok.mod.kin J1 (looks_ty tu) (nf_al hT) q.eq q.fn ?_
  refine wpAny_mono (wpAny_call (L2.run_fnR (us := [.ref a, u]) (vs := [.ref a, y]) F hr pass0 I (.cons rfl (.cons ry .nil)) h)) (fun w s' z => ?_) fun _ _ x => x
  obtain ⟨z', H', I', rz, r, er, qz⟩ := z
  subst er
  cases (show w = Value.bool r from rz)
  exact SlX.cmpback (z := .bl r) rfl ⟨.bl r, H', I', rfl, qz⟩
theorem op_neK {sp : Sp} (q : EqAt X.K C g) (F : FnR X.prog X.w X.K X.mg X.base CX0 n g sp) (hr : Room (n + 1) X.A) : OpR X (compareOp .NotEq) (rOwnK X.K C sp not) := by
  intro pins s σ H x y v u Q I rx ry h
  obtain ⟨a, dx, vs, T, rfl, ha, ty, hT, h⟩ := h
  cases (show v = Value.ref a from rx)
  obtain ⟨sl, od, _, J1, _⟩ := SlX.slt_inst I ha
  have tu := ty_is I ry ty
  have un := hr.units
  show wpAny _ _ (richCompare .NotEq (.ref a) u) _ _ _
  refine ne_own (by omega) I.kIn J1 (looks_ty tu) (nf_al hT) q.ne q.eq q.fn q.cm ?_
  refine wpAny_mono (wpAny_call (SlX.run_at (us := [.ref a, u]) (ws := [.ref a, y]) F hr.in1 I.env0.in1 pass0 I (.cons rfl (.cons ry .nil)) h)) (fun w s' z => ?_) fun _ _ x => x
  obtain ⟨z', H', I', rz, r, er, qz⟩ := z
  subst er
  cases (show w = Value.bool r from rz)
  exact ⟨r, rfl, .bl (!r), H', I', rfl, qz⟩
/-- .. on the right -/
def rKOwn (K : PySem.W.Frag) (C : Addr) (sp : Sp) (f : Bool → Bool) : R2 := fun x y H Q => ∃ b dx vs S d T, y = .ref b ∧ SlX.Slt H b C dx vs ∧ At K (hide S H) x d ∧ tyD d = some T ∧ sp [y, x] H (fun v H' => ∃ r, v = .bl r ∧ Q (.bl (f r)) H') fun _ _ _ => False
theorem dec_of {pins : List (Addr × Obj)} {σ : L2.St} {H : Hp} {s : Shared} {S : List Addr} {x : V} {v : Value} {d : D} {T : String} {l dx : Addr} {sl : Array (Option Value)} {od : Option Obj} (al : Alien X.K C) (I : Inv X pins σ H s) (rx : RelV x v) (h : At X.K (hide S H) x d) (hT : tyD d = some T)
    (J : PySem.W.InstAt s.heap l { PySem.W.instObj C dx with slots := sl } C od) : SeqAt.Dec X.prog X.w X.A s v l := by
  have ty := ty_is I rx (tyx_of h hT)
  have ni : ∀ T, T ∈ ["NoneType", "bool", "int", "str", "list", "tuple", "dict"] → SeqAt.NotI l T s := fun T hT M A E Q hq => by
    unfold isInstance
    exact wpAny_bind (J.type.here ((PySem.W.looks_mroIn I.kIn (al.no T hT)).here hq))
  cases h with
  | non => cases (show v = Value.none from rx); exact SeqAt.dec_none
  | bl y => cases (show v = Value.bool y from rx); exact SeqAt.dec_bool (C := C) J.at_
  | int i => obtain ⟨t, q⟩ := (show ∃ t, v = Value.int i t from rx); cases q; exact SeqAt.dec_int (C := C) J.at_
  | str y => obtain ⟨t, q⟩ := (show ∃ t, v = Value.str y t from rx); cases q; exact SeqAt.dec_str (C := C) J.at_
  | @lst a vs ds h t =>
    cases (show v = Value.ref a from rx)
    cases hT
    exact SeqAt.dec_list ty (ni _ (by decide))
  | @tup a vs ds h t =>
    cases (show v = Value.ref a from rx)
    cases hT
    exact SeqAt.dec_tuple ty (ni _ (by decide))
  | obj h t => cases hT
  | tok h => cases hT
  | ptr a => cases hT
  | tg a h => cases hT
  | @dct a h =>
    cases (show v = Value.ref a from rx)
    cases hT
    exact SeqAt.dec_dict ty (ni _ (by decide))
theorem op_Keq {sp : Sp} (al : Alien X.K C) (q : EqAt X.K C g) (F : FnR X.prog X.w X.K X.mg X.base CX0 n g sp) (hr : Room n X.A) : OpR X (compareOp .Eq) (rKOwn X.K C sp id) := by
  intro pins s σ H x y v u Q I rx ry h
  obtain ⟨b, dx, vs, S, d, T, rfl, hb, hd, hT, h⟩ := h
  cases (show u = Value.ref b from ry)
  obtain ⟨sl, od, _, J1, _⟩ := SlX.slt_inst I hb
  have ty := ty_is I rx (tyx_of hd hT)
  have dec := dec_of al I rx hd hT J1
  show wpAny _ _ (richCompare .Eq v (.ref b)) _ _ _
  refine rc_eqR hr.units0 I.kIn J1 ty (al.no T (tyD_kind hT)) (dec.eq _) (eqo_try I.kIn J1 q.eq q.fn ?_)
  refine wpAny_mono (wpAny_call (L2.run_fnR (us := [.ref b, v]) (vs := [.ref b, x]) F hr pass0 I (.cons rfl (.cons rx .nil)) h)) (fun w s' z => ?_) fun _ _ x => x
  obtain ⟨z', H', I', rz, r, er, qz⟩ := z
  subst er
  cases (show w = Value.bool r from rz)
  exact ⟨r, rfl, .bl r, H', I', rfl, qz⟩
theorem op_Kne {sp : Sp} (al : Alien X.K C) (q : EqAt X.K C g) (F : FnR X.prog X.w X.K X.mg X.base CX0 n g sp) (hr : Room (n + 1) X.A) : OpR X (compareOp .NotEq) (rKOwn X.K C sp not) := by
  intro pins s σ H x y v u Q I rx ry h
  obtain ⟨b, dx, vs, S, d, T, rfl, hb, hd, hT, h⟩ := h
  cases (show u = Value.ref b from ry)
  obtain ⟨sl, od, _, J1, _⟩ := SlX.slt_inst I hb
  have ty := ty_is I rx (tyx_of hd hT)
  have dec := dec_of al I rx hd hT J1
  have un := hr.units
  show wpAny _ _ (richCompare .NotEq v (.ref b)) _ _ _
  refine rc_neR (by omega) I.kIn J1 ty (al.no T (tyD_kind hT)) (dec.ne _) (neo_try (by omega) I.kIn J1 q.ne q.eq q.fn q.cm ?_)
  refine wpAny_mono (wpAny_call (SlX.run_at (us := [.ref b, v]) (ws := [.ref b, x]) F hr.in1 I.env0.in1 pass0 I (.cons rfl (.cons rx .nil)) h)) (fun w s' z => ?_) fun _ _ x => x
  obtain ⟨z', H', I', rz, r, er, qz⟩ := z
  subst er
  cases (show w = Value.bool r from rz)
  exact ⟨r, rfl, .bl (!r), H', I', rfl, qz⟩
theorem xe_eqK (q : EqAt X.K C g) (F : FnA X.prog X.w X.K X.mg X.base n g [s1, s2] Cn) (hr : Room m X.A) (h : XE X a ρ fun x => ∃ xs, x = .obj C xs ∧ XE X b ρ fun y => ∃ T, tyD y = some T ∧ Cn [x, y] fun r => ∃ t, r = .bl t ∧ k (.bl t)) (hnm : n ≤ m := by decide) : XE X (.Compare a [.Eq] [b] pos) ρ k :=
  impE (pe_cmpR (op_eqK q F.raw (hr.mono hnm)) anyE anyE (nomark _)) fun σ H Q ⟨S, E, qq⟩ => useE h E fun x H1 d e1 a1 ⟨xs, hx, hb⟩ => useE hb (E.mono e1) fun y H2 d2 e2 a2 ⟨T, hT, hc⟩ => by
    subst hx
    obtain ⟨a, dx, vs, rfl, h1, h2⟩ := a1.inv_obj
    exact ⟨a, dx, _, T, rfl, ex_s hide_le (ex_s (hide_ex e2) h1), tyx_of a2 hT, tyD_kind hT, sp2 (E.mono (e1.trans e2)).trk (a1.mono (hide_ex e2)) a2 hc fun v H3 d3 e3 a3 ⟨t, ht, hk⟩ => by
      subst ht
      exact ⟨t, a3.inv_bl, qq _ _ _ ((e1.trans e2).trans e3) (.bl _) hk⟩⟩
theorem xe_neK (q : EqAt X.K C g) (F : FnA X.prog X.w X.K X.mg X.base n g [s1, s2] Cn) (hr : Room m X.A) (h : XE X a ρ fun x => ∃ xs, x = .obj C xs ∧ XE X b ρ fun y => ∃ T, tyD y = some T ∧ Cn [x, y] fun r => ∃ t, r = .bl t ∧ k (.bl (!t))) (hnm : n + 1 ≤ m := by decide) : XE X (.Compare a [.NotEq] [b] pos) ρ k :=
  impE (pe_cmpR (op_neK q F.raw (hr.mono hnm)) anyE anyE (nomark _)) fun σ H Q ⟨S, E, qq⟩ => useE h E fun x H1 d e1 a1 ⟨xs, hx, hb⟩ => useE hb (E.mono e1) fun y H2 d2 e2 a2 ⟨T, hT, hc⟩ => by
    subst hx
    obtain ⟨a, dx, vs, rfl, h1, h2⟩ := a1.inv_obj
    exact ⟨a, dx, _, T, rfl, ex_s hide_le (ex_s (hide_ex e2) h1), tyx_of a2 hT, tyD_kind hT, sp2 (E.mono (e1.trans e2)).trk (a1.mono (hide_ex e2)) a2 hc fun v H3 d3 e3 a3 ⟨t, ht, hk⟩ => by
      subst ht
      exact ⟨t, a3.inv_bl, qq _ _ _ ((e1.trans e2).trans e3) (.bl _) hk⟩⟩
theorem sp2r {S : List Addr} {H : Hp} {K : PySem.W.Frag} {x y : V} {d d2 : D} {Q : VK} (E : Trk S H) (a1 : At K (hide S H) x d) (a2 : At K (hide S H) y d2) (hc : Cn [d2, d] k) (q : ∀ v H2 d, Ex H H2 → At K (hide S H2) v d → k d → Q v H2) : spC K 2 Cn [y, x] H Q fun _ _ _ => False :=
  ⟨S, _, k, rfl, E, .cons a2 (.cons a1 .nil), hc, q⟩
theorem xe_Keq (al : Alien X.K C) (q : EqAt X.K C g) (F : FnA X.prog X.w X.K X.mg X.base n g [s1, s2] Cn) (hr : Room m X.A) (h : XE X a ρ fun x => XE X b ρ fun y => ∃ T ys, tyD x = some T ∧ y = .obj C ys ∧ Cn [y, x] fun r => ∃ t, r = .bl t ∧ k (.bl t)) (hnm : n ≤ m := by decide) : XE X (.Compare a [.Eq] [b] pos) ρ k :=
  impE (pe_cmpR (op_Keq al q F.raw (hr.mono hnm)) anyE anyE (nomark _)) fun σ H Q ⟨S, E, qq⟩ => useE h E fun x H1 d e1 a1 hb => useE hb (E.mono e1) fun y H2 d2 e2 a2 ⟨T, ys, hT, hy, hc⟩ => by
    subst hy
    have a2' := a2
    obtain ⟨b, dy, ws, rfl, h3, h4⟩ := a2.inv_obj
    exact ⟨b, dy, _, S, d, T, rfl, ex_s hide_le h3, a1.mono (hide_ex e2), hT, sp2r (E.mono (e1.trans e2)).trk (a1.mono (hide_ex e2)) a2' hc fun v H3 d3 e3 a3 ⟨t, ht, hk⟩ => by
      subst ht
      exact ⟨t, a3.inv_bl, qq _ _ _ ((e1.trans e2).trans e3) (.bl _) hk⟩⟩
theorem xe_Kne (al : Alien X.K C) (q : EqAt X.K C g) (F : FnA X.prog X.w X.K X.mg X.base n g [s1, s2] Cn) (hr : Room m X.A) (h : XE X a ρ fun x => XE X b ρ fun y => ∃ T ys, tyD x = some T ∧ y = .obj C ys ∧ Cn [y, x] fun r => ∃ t, r = .bl t ∧ k (.bl (!t))) (hnm : n + 1 ≤ m := by decide) : XE X (.Compare a [.NotEq] [b] pos) ρ k :=
  impE (pe_cmpR (op_Kne al q F.raw (hr.mono hnm)) anyE anyE (nomark _)) fun σ H Q ⟨S, E, qq⟩ => useE h E fun x H1 d e1 a1 hb => useE hb (E.mono e1) fun y H2 d2 e2 a2 ⟨T, ys, hT, hy, hc⟩ => by
    subst hy
    have a2' := a2
    obtain ⟨b, dy, ws, rfl, h3, h4⟩ := a2.inv_obj
    exact ⟨b, dy, _, S, d, T, rfl, ex_s hide_le h3, a1.mono (hide_ex e2), hT, sp2r (E.mono (e1.trans e2)).trk (a1.mono (hide_ex e2)) a2' hc fun v H3 d3 e3 a3 ⟨t, ht, hk⟩ => by
      subst ht
      exact ⟨t, a3.inv_bl, qq _ _ _ ((e1.trans e2).trans e3) (.bl _) hk⟩⟩
/-- {} -/
theorem xe_dct (h : k .dct) : XE X (.Dict [] [] pos) ρ k := impE pe_dnewK fun σ H Q ⟨S, E, q⟩ => fun p hp => by
  have np := hide_new E.trk hp
  refine q _ _ _ (Ex.new hp) (.dct ?_) h
  rw [hide_out np]
  exact upd_same
end
end VL

set_option Elab.async false
set_option linter.all false
set_option maxRecDepth 100000
set_option maxHeartbeats 4000000
namespace PySem.W
open PySem PySem.Builtin
/-! ## len(x), bool(x) of an instance with an own __len__ -/
section
variable {prog : Program} {w : World} {A : Around} {E : Value → Shared → Prop} {s : Shared} {K : Frag} {x C f : Addr} {ox : Obj} {od : Option Obj}
theorem vl_lenB {Q : Value → Shared → Prop} (X : K.In s.heap) (I : InstAt s.heap x ox C od) (hs : findIn K (.ref C) "__len__" = some (some (.ref f))) (hf : isFn K (.ref f) = true)
    (h : wpAny (model prog w) A (call (.ref f) [.ref x]) (fun r s' => ∃ (n : Nat) (t : Tok), r = .int n t ∧ n < 1000000 ∧ ∀ t tk, Q (.int n t) { s' with toks := tk }) E s) :
    wpAny (model prog w) A (Builtin.«len» ⟨[.ref x], []⟩) (fun fin s' => ∃ r, fin = .done (.ret r) ∧ Q r s') E s := by
  unfold Builtin.«len»
  refine wpAny_bind (m := oneArg "len" _) (wpAny_pure ?_)
  refine wpAny_bind (m := callSpecial? (.ref x) (Str.ofString "__len__")) (special_fn X I hs (beq_iff_eq.mp hf) (wpAny_mono h (fun r s' hr => ?_) fun _ _ y => y))
  obtain ⟨n, t, rfl, hn, hq⟩ := hr
  refine wpAny_bind (wpAny_holding (wpAny_pure ?_))
  refine wpAny_bind (wpAny_letGo ?_)
  show wpAny _ _ (if ((n : Nat) : Int) < 0 then _ else _) _ _ _
  rw [if_neg (by omega)]
  show wpAny _ _ (if ((n : Nat) : Int) ≥ 2 ^ 63 then _ else _) _ _ _
  rw [if_neg (by omega)]
  exact wpAny_bind (wpAny_mkInt (wpAny_pure ⟨_, rfl, hq _ _⟩))
theorem vl_len {Q : Value → Shared → Prop} (X : K.In s.heap) (I : InstAt s.heap x ox C od) (hs : findIn K (.ref C) "__len__" = some (some (.ref f))) (hf : isFn K (.ref f) = true)
    (h : wpAny (model prog w) A.in1 (call (.ref f) [.ref x]) (fun r s' => ∃ (n : Nat) (t : Tok), r = .int n t ∧ n < 1000000 ∧ ∀ t tk, Q (.int n t) { s' with toks := tk }) E s) :
    wpAny (model prog w) A (call (.builtin "len") [.ref x]) Q E s :=
  Calls.call_function_entry kind_len plain_len entry_len (args_len1 _) (vl_lenB X I hs hf h)
theorem vl_truthyL {Q : Bool → Shared → Prop} (X : K.In s.heap) (I : InstAt s.heap x ox C od) (hb : findIn K (.ref C) "__bool__" = some none) (hs : findIn K (.ref C) "__len__" = some (some (.ref f))) (hf : isFn K (.ref f) = true)
    (h : wpAny (model prog w) A.in1 (call (.ref f) [.ref x]) (fun r s' => ∃ (n : Nat) (t : Tok), r = .int n t ∧ n < 1000000 ∧ ∀ tk, Q (n != 0) { s' with toks := tk }) E s) : wpAny (model prog w) A (truthy (.ref x)) Q E s := by
  have key : wpAny (model prog w) A (runValue (.builtin "len" ⟨[.ref x], []⟩)) (fun r s' => ∃ (n : Nat) (t : Tok), r = .int n t ∧ Q (n != 0) s') E s := by
    refine wpAny_runValue (codeAny_builtin entry_len ?_)
    rw [Around.under_plainId plain_len _]
    refine wpAny_mono (vl_lenB (Q := fun r s' => ∃ (n : Nat) (t : Tok), r = .int n t ∧ Q (n != 0) s') X I hs hf (wpAny_mono h (fun r s' hr => ?_) fun _ _ e => e)) (fun fin s' h' => by obtain ⟨r, rfl, hq⟩ := h'; exact hq) fun _ _ e => e
    obtain ⟨n, t, rfl, hn, hq⟩ := hr
    exact ⟨n, t, rfl, hn, fun t tk => ⟨n, t, rfl, hq tk⟩⟩
  have hsp : ∀ {Q' : Option Value → Shared → Prop}, Q' (some (.ref f)) s → wpAny (model prog w) A (specialOf (.ref x) "__len__") Q' E s := fun q => by
    unfold specialOf
    exact wpAny_bind (I.type.here ((looks_findIn X hs).here q))
  have fin : wpAny (model prog w) A (runValue (.builtin "len" ⟨[.ref x], []⟩) >>= fun r => match r with
      | .int n _ => pure (n != 0)
      | _ => unsupported "internal:truth.len") Q E s := wpAny_bind (wpAny_mono key (fun r s' h' => by
    obtain ⟨n, t, rfl, hq⟩ := h'
    have e : (((n : Nat) : Int) != 0) = (n != 0) := by
      rw [Bool.eq_iff_iff]
      simp
    show wpAny _ _ (pure (((n : Nat) : Int) != 0)) _ _ _
    rw [e]
    exact wpAny_pure hq) fun _ _ e => e)
  unfold truthy
  first
    | refine wpAny_bind (DSub.special_no (name := Str.ofString "__bool__") X I hb ?_)
    | refine wpAny_bind (wpAny_pure (wpAny_bind (DSub.special_no (name := Str.ofString "__bool__") X I hb ?_)))
  first
    | refine wpAny_bind (hsp ?_)
    | refine wpAny_bind (wpAny_pure (wpAny_bind (hsp ?_)))
  first
    | exact fin
    | exact wpAny_bind (wpAny_pure fin)
open PySem.Sem (wp) in
theorem vl_boolL {Q : Value → Shared → Prop} (X : K.In s.heap) (I : InstAt s.heap x ox C od) (hb : findIn K (.ref C) "__bool__" = some none) (hs : findIn K (.ref C) "__len__" = some (some (.ref f))) (hf : isFn K (.ref f) = true)
    (h : wpAny (model prog w) A.in1.in1.in1 (call (.ref f) [.ref x]) (fun r s' => ∃ (n : Nat) (t : Tok), r = .int n t ∧ n < 1000000 ∧ ∀ tk, Q (.bool (n != 0)) { s' with toks := tk }) E s) : wpAny (model prog w) A (call (.type "bool") [.ref x]) Q E s := by
  refine callType_codes (T := "bool") (Bi := Builtin.«object.__init__») (Q₁ := fun r s₁ => ∃ b, r = .bool b ∧ Q r s₁) PySem.F.called_bool (PySem.F.typeCall_bool_1 _) PySem.F.entry_object_init ?_ ?_
  · refine codeAny_of_tree ?_
    show wpAny _ A.in1.in1 (do checkBuiltinCall "bool.__new__" ⟨[.type "bool", .ref x], []⟩; again (.builtin "bool.__new__" ⟨[.type "bool", .ref x], []⟩)) _ _ s
    refine wpAny_bind (wpAny_of_eq (PySem.F.newCall_bool_1 _) (wpAny_pure ⟨plainId_quiet (by decide +kernel) _, codeAny_builtin PySem.F.entry_bool_new ?_⟩))
    rw [Around.under_plainId (by decide +kernel) _]
    have f1 := F.conv_sub_bool
    obtain ⟨hp, g, d, tk, os⟩ := s
    repeat (any_goals (first | assumption | (with_reducible refine vl_truthyL X I hb hs hf (wpAny_mono h (fun r s' hr => ?_) fun _ _ y => y)) | wp_step))
    obtain ⟨n, t, rfl, hn, hq⟩ := hr
    refine ⟨n, t, rfl, hn, fun tk => ?_⟩
    exact wpAny_pure ⟨n != 0, rfl, hq tk⟩
  · rintro obj s₁ ⟨b, rfl, hq⟩
    have ht : s₁.TypeIs (.bool b) "bool" := by first | exact typeIs_bool _ _ | rfl | trivial
    exact ⟨ht, PySem.F.args_object_init_2 _ _, object_init_meets PySem.F.called_bool.init.lookup PySem.F.called_bool.made (by decide) prog w A.in1 _ s₁ ⟨ht, rfl, hq⟩⟩
end
end PySem.W
namespace VL
variable [Tb]
open PySem PySem.Spec PyProof.Rows L2
section
variable {X : Cx} {ρ : Rho} {a b e : Expr} {es : List Expr} {p pos p2 p3 p4 : Pos} {k : D → Prop} {kl : List D → Prop} {C C' g : Addr} {n m : Nat} {s1 s2 : Str} {Cn : Con}
def rLenO (C : Addr) (sp : Sp) : List V → Hp → VK → Prop := fun xs H Q => ∃ a dx vs, xs = [V.ref a] ∧ SlX.Slt H a C dx vs ∧ sp [.ref a] H (fun z H' => ∃ y : Nat, z = .int y ∧ y < 1000000 ∧ Q z H') fun _ _ _ => False
theorem call_lenO {sp : Sp} (hs : PySem.W.findIn X.K (.ref C) "__len__" = some (some (.ref g))) (hf : PySem.W.isFn X.K (.ref g) = true) (F : FnR X.prog X.w X.K X.mg X.base CX0 n g sp) (hr : Room (n + 1) X.A) : CallR X (.builtin "len") (rLenO C sp) := by
  intro pins s σ H xs us Q I r h
  obtain ⟨a, dx, vs, rfl, hsl, q⟩ := h
  obtain ⟨u, rfl, ru⟩ := r.one
  cases (show u = Value.ref a from ru)
  obtain ⟨sl, od, _, J1, _⟩ := SlX.slt_inst I hsl
  have hr1 : Room n X.A.in1 := Room.in1 hr
  refine PySem.W.vl_len I.kIn J1 hs hf (wpAny_mono (wpAny_call (SlX.run_at (us := [.ref a]) (ws := [.ref a]) F hr1 I.env0.in1 pass0 I (.cons rfl .nil) q)) (fun w s' z => ?_) fun _ _ x => x)
  obtain ⟨z', H', I', rz, y, ey, hy, qz⟩ := z
  subst ey
  obtain ⟨t, e⟩ := (show ∃ t, w = Value.int y t from rz)
  cases e
  exact ⟨y, t, rfl, hy, fun t tk => ⟨.int y, H', I'.tok tk, ⟨t, rfl⟩, qz⟩⟩
/-- len(x) by an own __len__ -/
theorem xe_lenO (hm0 : X.mg "len" = none) (hs : PySem.W.findIn X.K (.ref C) "__len__" = some (some (.ref g))) (hf : PySem.W.isFn X.K (.ref g) = true) (F : FnA X.prog X.w X.K X.mg X.base n g [s1] Cn) (hr : Room m X.A)
    (h : XE X a ρ fun d => ∃ ds, d = .obj C ds ∧ Cn [d] fun r => ∃ y : Nat, r = .int y ∧ y < 1000000 ∧ k (.int y)) (hnm : n + 1 ≤ m := by decide) (hg : Gl X "len" := by rfl)
    (he : starEach (a :: []) X.env = (false, eval a X.env) :: starEach [] X.env := by rfl) : XE X (.Call (.Name "len" p) [a] [] pos) ρ k :=
  impE (pe_callB (call_lenO hs hf F.raw (hr.mono hnm)) hg hm0 (by decide +kernel) (pa_cons anyE pa_nil he) (by decide) (by decide) he rfl) fun σ H Q ⟨S, E, q⟩ => useE h E fun x H1 d e1 a1 ⟨xs, hx, hc⟩ => by
    subst hx
    have a1' := a1
    obtain ⟨a, dx, vs, rfl, h1, h2⟩ := a1.inv_obj
    exact ⟨a, dx, _, rfl, ex_s hide_le h1, S, _, _, rfl, (E.mono e1).trk, .cons a1' .nil, hc, fun v H2 d2 e2 a2 ⟨y, hy, hl, hk⟩ => by
      subst hy
      exact ⟨y, a2.inv_int, hl, q _ _ _ (e1.trans e2) a2 hk⟩⟩
def rBoolL (C : Addr) (sp : Sp) : List V → Hp → VK → Prop := fun xs H Q => ∃ a dx vs, xs = [V.ref a] ∧ SlX.Slt H a C dx vs ∧ sp [.ref a] H (fun z H' => ∃ y : Nat, z = .int y ∧ y < 1000000 ∧ Q (.bl (y != 0)) H') fun _ _ _ => False
theorem call_boolL {sp : Sp} (hb : PySem.W.findIn X.K (.ref C) "__bool__" = some none) (hs : PySem.W.findIn X.K (.ref C) "__len__" = some (some (.ref g))) (hf : PySem.W.isFn X.K (.ref g) = true) (F : FnR X.prog X.w X.K X.mg X.base CX0 n g sp) (hr : Room (n + 3) X.A) : CallR X (.type "bool") (rBoolL C sp) := by
  intro pins s σ H xs us Q I r h
  obtain ⟨a, dx, vs, rfl, hsl, q⟩ := h
  obtain ⟨u, rfl, ru⟩ := r.one
  cases (show u = Value.ref a from ru)
  obtain ⟨sl, od, _, J1, _⟩ := SlX.slt_inst I hsl
  have hr3 : Room n X.A.in1.in1.in1 := (show Room (n + 1) X.A.in1.in1 from (show Room (n + 2) X.A.in1 from Room.in1 hr).in1).in1
  refine PySem.W.vl_boolL I.kIn J1 hb hs hf (wpAny_mono (wpAny_call (SlX.run_at (us := [.ref a]) (ws := [.ref a]) F hr3 I.env0.in1.in1.in1 pass0 I (.cons rfl .nil) q)) (fun w s' z => ?_) fun _ _ x => x)
  obtain ⟨z', H', I', rz, y, ey, hy, qz⟩ := z
  subst ey
  obtain ⟨t, e⟩ := (show ∃ t, w = Value.int y t from rz)
  cases e
  exact ⟨y, t, rfl, hy, fun tk => ⟨.bl (y != 0), H', I'.tok tk, rfl, qz⟩⟩
/-- bool(x) by an own __len__ -/
theorem xe_boolL (hm0 : X.mg "bool" = none) (hb : PySem.W.findIn X.K (.ref C) "__bool__" = some none) (hs : PySem.W.findIn X.K (.ref C) "__len__" = some (some (.ref g))) (hf : PySem.W.isFn X.K (.ref g) = true) (F : FnA X.prog X.w X.K X.mg X.base n g [s1] Cn) (hr : Room m X.A)
    (h : XE X a ρ fun d => ∃ ds, d = .obj C ds ∧ Cn [d] fun r => ∃ y : Nat, r = .int y ∧ y < 1000000 ∧ k (.bl (y != 0))) (hnm : n + 3 ≤ m := by decide) (hg : Gl X "bool" := by rfl)
    (he : starEach (a :: []) X.env = (false, eval a X.env) :: starEach [] X.env := by rfl) : XE X (.Call (.Name "bool" p) [a] [] pos) ρ k :=
  impE (pe_callTy (call_boolL hb hs hf F.raw (hr.mono hnm)) hg hm0 (by decide +kernel) (pa_cons anyE pa_nil he) (by decide) (by decide) he rfl) fun σ H Q ⟨S, E, q⟩ => useE h E fun x H1 d e1 a1 ⟨xs, hx, hc⟩ => by
    subst hx
    have a1' := a1
    obtain ⟨a, dx, vs, rfl, h1, h2⟩ := a1.inv_obj
    exact ⟨a, dx, _, rfl, ex_s hide_le h1, S, _, _, rfl, (E.mono e1).trk, .cons a1' .nil, hc, fun v H2 d2 e2 a2 ⟨y, hy, hl, hk⟩ => by
      subst hy
      exact ⟨y, a2.inv_int, hl, q _ _ _ (e1.trans e2) (.bl _) hk⟩⟩
/-! ## == and != of things of two own classes -/
def rNeO2 (C C' : Addr) (sp : Sp) : R2 := fun x y H Q => ∃ a dx vs b dy ws, x = .ref a ∧ y = .ref b ∧ SlX.Slt H a C dx vs ∧ SlX.Slt H b C' dy ws ∧ sp [x, y] H (fun v H' => ∃ r, v = .bl r ∧ Q (.bl (!r)) H') fun _ _ _ => False
theorem op_neO2 {sp : Sp} (q : EqAt X.K C g) (nf : PySem.W.notFirst X.K C (.ref C') = true) (F : FnR X.prog X.w X.K X.mg X.base CX0 n g sp) (hr : Room (n + 1) X.A) : OpR X (compareOp .NotEq) (rNeO2 C C' sp) := by
  intro pins s σ H x y v u Q I rx ry h
  obtain ⟨a, dx, vs, b, dy, ws, rfl, rfl, ha, hb, h⟩ := h
  cases (show v = Value.ref a from rx)
  cases (show u = Value.ref b from ry)
  obtain ⟨sl, od, _, J1, _⟩ := SlX.slt_inst I ha
  obtain ⟨sl', od', _, J2, _⟩ := SlX.slt_inst I hb
  have un := hr.units
  show wpAny _ _ (richCompare .NotEq (.ref a) (.ref b)) _ _ _
  refine ne_own (by omega) I.kIn J1 J2.type nf q.ne q.eq q.fn q.cm ?_
  refine wpAny_mono (wpAny_call (SlX.run_at (us := [.ref a, .ref b]) (ws := [.ref a, .ref b]) F hr.in1 I.env0.in1 pass0 I (.cons rfl (.cons rfl .nil)) h)) (fun w s' z => ?_) fun _ _ x => x
  obtain ⟨z', H', I', rz, r, er, qz⟩ := z
  subst er
  cases (show w = Value.bool r from rz)
  exact ⟨r, rfl, .bl (!r), H', I', rfl, qz⟩
theorem xe_neO2 (q : EqAt X.K C g) (nf : PySem.W.notFirst X.K C (.ref C') = true) (F : FnA X.prog X.w X.K X.mg X.base n g [s1, s2] Cn) (hr : Room m X.A) (h : XE X a ρ fun x => ∃ xs, x = .obj C xs ∧ XE X b ρ fun y => ∃ ys, y = .obj C' ys ∧ Cn [x, y] fun r => ∃ t, r = .bl t ∧ k (.bl (!t))) (hnm : n + 1 ≤ m := by decide) : XE X (.Compare a [.NotEq] [b] pos) ρ k :=
  impE (pe_cmpR (op_neO2 q nf F.raw (hr.mono hnm)) anyE anyE (nomark _)) fun σ H Q ⟨S, E, qq⟩ => useE h E fun x H1 d e1 a1 ⟨xs, hx, hb⟩ => useE hb (E.mono e1) fun y H2 d2 e2 a2 ⟨ys, hy, hc⟩ => by
    subst hx hy
    obtain ⟨a, dx, vs, rfl, h1, h2⟩ := a1.inv_obj
    obtain ⟨b, dy, ws, rfl, h3, h4⟩ := a2.inv_obj
    exact ⟨a, dx, _, b, dy, _, rfl, rfl, ex_s hide_le (ex_s (hide_ex e2) h1), ex_s hide_le h3, sp2 (E.mono (e1.trans e2)).trk (a1.mono (hide_ex e2)) a2 hc fun v H3 d3 e3 a3 ⟨t, ht, hk⟩ => by
      subst ht
      exact ⟨t, a3.inv_bl, qq _ _ _ ((e1.trans e2).trans e3) (.bl _) hk⟩⟩
theorem xe_eqO2 (q : EqAt X.K C g) (nf : PySem.W.notFirst X.K C (.ref C') = true) (F : FnA X.prog X.w X.K X.mg X.base n g [s1, s2] Cn) (hr : Room m X.A) (h : XE X a ρ fun x => ∃ xs, x = .obj C xs ∧ XE X b ρ fun y => ∃ ys, y = .obj C' ys ∧ Cn [x, y] k) (hnm : n ≤ m := by decide) : XE X (.Compare a [.Eq] [b] pos) ρ k :=
  impE (pe_cmpR (SlX.op_own (op := .Eq) (E := fun _ _ _ => False) (fun _ _ => rfl) q.eq q.fn F.raw (hr.mono hnm) pass0) anyE anyE (nomark _)) fun σ H Q ⟨S, E, qq⟩ => useE h E fun x H1 d e1 a1 ⟨xs, hx, hb⟩ => useE hb (E.mono e1) fun y H2 d2 e2 a2 ⟨ys, hy, hc⟩ => by
    subst hx hy
    obtain ⟨a, dx, vs, rfl, h1, h2⟩ := a1.inv_obj
    obtain ⟨b, dy, ws, rfl, h3, h4⟩ := a2.inv_obj
    exact ⟨a, dx, _, b, C', dy, _, rfl, rfl, ex_s hide_le (ex_s (hide_ex e2) h1), ex_s hide_le h3, nf, sp2 (E.mono (e1.trans e2)).trk (a1.mono (hide_ex e2)) a2 hc fun v H3 d3 e3 a3 hk => qq _ _ _ ((e1.trans e2).trans e3) a3 hk⟩
/-! ## slices with a sign -/
theorem xn_cutNeg {i : Int} {cj : Nat} (h : XL X a ρ fun ds => kl (cutD ds none (some (-i)))) : XN X (.Subscript a (.Slice none (some (.UnaryOp .USub (.Constant (.int i) cj p4) p3)) none p2) pos) ρ kl :=
  impE (pe_slice sl_list anyE po_none (po_some (pe_un un_neg pe_int))) fun σ H Q ⟨S, E, q⟩ => useL h E fun p H1 vs ds e1 h1 h2 hk => ⟨i, rfl, -i, rfl, p, vs, rfl, h1, fun r hr => q r _ _ _ (e1.back hr) (e1.trans (Ex.new hr)) upd_same (newL (E.mono e1).trk hr (cut_of h2)) hk⟩
/-- a list, the other way round -/
theorem xn_rev {cj : Nat} (ha : XL X a ρ fun ds => kl (pick (stepsOf none none (some (-1)) ds.length) ds)) : XN X (.Subscript a (.Slice none none (some (.UnaryOp .USub (.Constant (.int 1) cj p4) p3)) p2) pos) ρ kl := by
  refine ⟨fun pins s σ H Q I hq => ?_⟩
  obtain ⟨S, E, q⟩ := hq
  refine Subscript_ (thn (ha.run pins s σ H (fun v H1 => ∃ p vs ds, v = .ref p ∧ Ex H H1 ∧ SqL X.K H1 p vs ∧ AtL X.K (hide S H1) vs ds ∧ kl (pick (stepsOf none none (some (-1)) ds.length) ds)) I ⟨S, E, fun p H2 vs ds e h1 h2 h3 => ⟨p, vs, ds, rfl, e, h1, h2, h3⟩⟩) fun v s1 ⟨x, H1, I1, r1, q1⟩ => ?_)
  obtain ⟨ad, vs, ds, ex, e1, hx, at_, hk⟩ := q1
  subst ex
  cases r1
  have hst : PO X (some (.UnaryOp .USub (.Constant (.int 1) cj p4) p3)) (tPart (tUn (rU fun i => .int (-i)) (tC (.int 1)))) := po_some (pe_un un_neg pe_int)
  refine wpAny_Slice (thn (po_none.run pins s1 σ H1 (fun o H2 => o = none ∧ H2 = H1) I1 ⟨rfl, rfl⟩) fun vl s2 ⟨lq, H2, I2, pl, el, e2⟩ => ?_)
  subst el e2
  refine thn (po_none.run pins s2 σ H2 (fun o H3 => o = none ∧ H3 = H2) I2 ⟨rfl, rfl⟩) fun vu s3 ⟨u, H3, I3, pu, eu, e3⟩ => ?_
  subst eu e3
  refine thn (hst.run pins s3 σ H3 (fun o H4 => o = some (-1) ∧ H4 = H3) I3 ⟨1, rfl, -1, rfl, rfl, rfl⟩) fun vst s4 ⟨ost, H4, I4, ps, eo, e4⟩ => ?_
  subst eo e4
  have I5 : Inv X pins σ H4 { s4 with heap := s4.heap.push { cls := .type "slice", data := .fields #[vl, vu, vst] } } := I4.kept (t' := s4.toks) fun b ob q => Heap.get?_push_of_some _ q
  obtain ⟨its, r, ht, hz⟩ := I5.list hx
  have hlen := r.length
  show wpAny (model X.prog X.w) X.A (subscriptTail a (.Slice none none (some (.UnaryOp .USub (.Constant (.int 1) cj p4) p3)) p2) (.ref ad) (.ref s4.heap.objs.size)) (EP X pins σ Q) X.xe { s4 with heap := s4.heap.push { cls := .type "slice", data := .fields #[vl, vu, vst] } }
  refine tail_any (ops := [.ref ad, .ref s4.heap.objs.size]) ht.isList.typeIs (PySem.slot_list_getitem.lookup) ?_ (by with_unfolding_all rfl)
  refine wpAny_getItem_list_slice ht.isList (Heap.IsSliceOf.new _ vl vu vst) pl pu ps (by simp) ?_ (by rw [List.size_toArray]; omega)
  have hp : slicePick its.toArray none none (some (-1)) = (pick (stepsOf none none (some (-1)) ds.length) its).toArray := by
    unfold slicePick
    rw [pick_eq]
    unfold stepsOf
    rw [List.size_toArray, ← hlen, at_.length]
  rw [hp]
  have hn := I5.hok.fresh (Nat.le_refl _)
  refine ⟨.ref _, _, I5.laid (t' := s4.toks) (o := .lst (pick (stepsOf none none (some (-1)) ds.length) vs)) (fun b ob q => Heap.get?_push_of_some _ q) (Nat.le_refl _) ?_, rfl, q _ _ _ _ (e1.back hn) (e1.trans (Ex.new hn)) upd_same (newL (E.mono e1).trk hn (at_.pick _)) hk⟩
  have hle : (pick (stepsOf none none (some (-1)) ds.length) vs).length ≤ sizeLine := by
    have h1 := slicePick_size_le its.toArray none none (some (-1))
    rw [hp, List.size_toArray, List.size_toArray] at h1
    have h2 := (vals_pick r (stepsOf none none (some (-1)) ds.length)).length
    omega
  exact ⟨hle, _, 0, vals_pick r _, Heap.get?_push_size _ rfl⟩
end
section
variable {X : Cx} {ρ : Rho} {j : J} {e ix : Expr} {pos apos p : Pos}
/-- name[ix] = e, any index -/
theorem xs_putI (i : Nat) {x : Str} {ds : List D} (hi : ρ[i]? = some (.own ds)) (h : XE X e ρ fun d => XE X ix ρ fun y => ∃ (z : Int) (n : Nat), y = .int z ∧ ixN ds.length z = some n ∧ j.nx (ρ.set i (.own (ds.set n d)))) (hN : X.N[i]? = some x := by rfl)
    (hv : Vis X.env.scope x := by first | exact Or.inl rfl | exact Or.inr (Or.inl rfl) | exact Or.inr (Or.inr rfl)) (h1' : (x == ("__debug__" : Str)) = false := by decide) (h2' : (x == ("__classdict__" : Str)) = false := by decide)
    (ha : ∀ v, assign (.Subscript (.Name x p) ix apos) X.env v = (do
      let ov ← holding [v] (eval (.Name x p) X.env)
      let iv ← holding [v, ov] (eval ix X.env)
      standAt apos
      holding [v, ov, iv] (setItem ov iv v)
      release [v, ov, iv] []) := by intro _; rfl)
    (hs : swapsWithSole [.Subscript (.Name x p) ix apos] e pos.line X.env = pure false := by rfl) (hw : swappedStores [.Subscript (.Name x p) ix apos] e X.env = pure none := by rfl)
    (h1 : (assignEach [.Subscript (.Name x p) ix apos] X.env).map (·.2) = [assign (.Subscript (.Name x p) ix apos) X.env] := by rfl) :
    XS X (.Assign [.Subscript (.Name x p) ix apos] e pos) ρ j := fun S0 H0 tr =>
  impS (ps_asg anyE (pg_sub (pe_var hN hv h1' h2') anyE set_list ha) hs hw h1) fun En σ H ⟨⟨S, h1, h2, h3, h4, E⟩, f⟩ => useE h E fun v H2 d e2 a2 hb => by
    obtain ⟨q, vs, g1, g2, g3, g4⟩ := (E.mono e2).own i ds hi
    refine ⟨_, g1, useE hb (E.mono e2) fun y H3 d3 e3 a3 ⟨z, n, hz, hn, hk⟩ => ?_⟩
    subst hz
    refine ⟨q, vs, _, n, rfl, a3.inv_int, e3.k _ _ g3 True.intro, ?_, ?_⟩
    · rw [g4.length]
      exact hn
    · exact f.nx _ _ _ (StOk.write tr h1 h2 h3 (h4.trans (e2.trans e3)) ((E.mono e2).mono e3) hi g1 g2 ((g4.mono (hide_ex e3)).set n (a2.mono (hide_ex e3)))) hk
end
end VL

set_option Elab.async false
set_option linter.all false
set_option maxRecDepth 100000
set_option maxHeartbeats 4000000
namespace VL
variable [Tb]
open PySem PySem.Spec PyProof.Rows L2
/-! ## == of two tuples whose items are things of an own class, as a value -/
def EqTp (C : Addr) (Cn : Con) (m : Nat) (x y : D) (r : Bool) : Prop := ∃ n ds es, x = .tup ds ∧ y = .tup es ∧ n + 2 ≤ m ∧ EqXs C Cn n ds es r
def rTpX (K : PySem.W.Frag) (C : Addr) (Cn : Con) (m : Nat) : R2 := fun x y H Q => ∃ S d e r, Trk S H ∧ At K (hide S H) x d ∧ At K (hide S H) y e ∧ EqTp C Cn m d e r ∧ ∀ H', Ex H H' → Q (.bl r) H'
section
variable {X : Cx} {ρ : Rho} {a b : Expr} {pos : Pos} {k : D → Prop} {kb : Bool → Prop} {C g : Addr} {m : Nat} {s1 s2 : Str} {Cn : Con}
theorem op_eqTX (q : EqAt X.K C g) (F : FnR X.prog X.w X.K X.mg X.base CX0 1 g (spC X.K 2 Cn)) (hr : Room m X.A) : OpR X (compareOp .Eq) (rTpX X.K C Cn m) := by
  intro pins s σ H x y v u Q I rx ry h
  obtain ⟨S, d, e, r, tr, ax, ay, ⟨n, ds, es, rfl, rfl, hm, hx⟩, hq⟩ := h
  obtain ⟨a, vs, rfl, ha, al⟩ := ax.inv_tup
  obtain ⟨b, ws, rfl, hb, bl⟩ := ay.inv_tup
  cases (show v = Value.ref a from rx)
  cases (show u = Value.ref b from ry)
  show wpAny _ _ (richCompare .Eq (.ref a) (.ref b)) _ _ _
  exact tuple_run q F hx 0 s H a b vs ws I tr ha hb al bl (hr.mono (by omega)) _ _ fun H' s' I' e' => ⟨.bl r, H', I', rfl, hq H' e'⟩
theorem xe_eqTX (q : EqAt X.K C g) (F : FnA X.prog X.w X.K X.mg X.base 1 g [s1, s2] Cn) (hr : Room m X.A) (h : XE X a ρ fun x => XE X b ρ fun y => ∃ r, EqTp C Cn m x y r ∧ k (.bl r)) : XE X (.Compare a [.Eq] [b] pos) ρ k :=
  impE (pe_cmpR (op_eqTX q F.raw hr) anyE anyE (nomark _)) fun σ H Q ⟨S, E, q⟩ => useE h E fun x H1 d e1 a1 hb => useE hb (E.mono e1) fun y H2 d2 e2 a2 ⟨r, hx, hk⟩ =>
    ⟨S, d, d2, r, (E.mono (e1.trans e2)).trk, a1.mono (hide_ex e2), a2, hx, fun H' e' => q _ _ _ ((e1.trans e2).trans e') (.bl _) hk⟩
end
end VL

set_option Elab.async false
set_option linter.all false
set_option maxRecDepth 100000
set_option maxHeartbeats 4000000
namespace VL
variable [Tb]
open PySem L2
section
variable {X : Cx} {ρ : Rho} {elt it e : Expr} {scope : Scope} {pos p p2 px : Pos} {kl : List D → Prop}
/-- name = a comprehension on one line, the frame's own list -/
theorem xs_ofNO (l : Nat) {st : Stmt} {tl : TE} {j : J} (hps : PS X st (tAsg tl (gName l))) (hrd : ∀ σ H Q, tN X.K ρ kl σ H Q → tl σ H Q) (h : ∀ ds, kl ds → j.nx (ρ.set l (.own ds))) : XS X st ρ j := fun S0 H0 tr =>
  impS hps fun En σ H ⟨⟨S, h1, h2, h3, h4, E⟩, f⟩ => hrd σ H _ ⟨S, E, fun p H2 vs ds hn e2 hp a hk => by
    refine f.nx _ _ _ ⟨p :: S, fun b hb => List.mem_cons_of_mem _ (h1 b hb), fun b hb => ?_, fun l' ds' q k1 k2 => ?_, h4.trans e2, E.storeOwn e2 hn hp a⟩ (h ds hk)
    · rcases List.mem_cons.mp hb with z | z
      · rw [z]
        exact .inr (h4.back hn)
      · exact h2 b z
    · rcases ent_set k1 with ⟨rfl, r⟩ | ⟨ne, r⟩
      · have hl : l' < σ.length := by rw [E.len]; exact set_lt k1
        rw [List.getElem?_set_self hl] at k2
        cases k2
        exact h4.back hn
      · rw [List.getElem?_set_ne (Ne.symm ne)] at k2
        exact h3 l' ds' q r k2⟩
/-- what a comprehension over range(e) reads -/
theorem rd_lcRb (i : Nat) {W : Nat → List D → Prop} {N : Int} (h : XE X e ρ fun d => ∃ n : Int, d = .int n ∧ n ≤ N ∧ (-(2 ^ 62) ≤ n ∧ n < 2 ^ 62) ∧ W 0 [] ∧ ∀ acc, W n.toNat acc → kl acc)
    (he : Blk X scope fun Y => ∀ (m : Nat) acc, (m : Int) < N → W m acc → XE Y elt ((ρ.set i .un).set i (.dat (.int m))) fun d => acc.length < 100000 ∧ W (m + 1) (acc ++ [d])) (σ : L2.St) (H : Hp) (Q : VK) (z : tN X.K ρ kl σ H Q) :
    tLc (iRng1 (tCons (aE X e) tNil)) (gName i) tYes (cE X scope elt) [i] σ H Q := by
  obtain ⟨S, E, q⟩ := z
  refine useE h E fun v H1 d e1 a1 ⟨n, hd, hN, hb, w0, hend⟩ => ?_
  · subst hd
    refine ⟨n, by rw [a1.inv_int], hb.1, hb.2, fun Dl hD => ?_⟩
    have E1 := E.mono e1
    have nD := hide_new E1.trk hD
    refine lc_range (lo := 0) (n := n.toNat) (g := gName i) (tt := tYes) (te := cE X scope elt) (vs := [i]) (σ := σ) (Qd := fun H' => Q (.ref Dl) H') (Cw X.K S H1 W Dl) ⟨hD, Ex.new hD, [], [], upd_same, .nil, w0⟩ ?_ ?_
    · rintro m H2 hm' p
      have e0 : (0 : Int) + (m : Int) = (m : Int) := Int.zero_add _
      rw [e0]
      refine ⟨wipe_again σ i _, ?_⟩
      show cE X scope elt ((wipe σ [i]).set i (some (.int m))) H2 fun y H4 => ∃ acc, H4 Dl = some (.lst acc) ∧ acc.length < sizeLine ∧ Cw X.K S H1 W Dl (m + 1) (upd H4 Dl (.lst (acc ++ [y])))
      refine cw_turn p E1.trk (kd := fun _ _ => True) fun acc hw Q' q' s H' C cl fp => ?_
      obtain ⟨p1, p2, vs, acc', p3, p4, p5⟩ := p
      have E2 : EnvOk X.K (Dl :: S) H2 (wipe σ [i]) (ρ.set i .un) := (E1.hid p2 hD p3).2.wipe1 i
      exact useE (he s H' C cl fp m acc (by omega) hw) (E2.store (.int _)) fun v3 H4 d3 e4 a4 hk => q' v3 H4 d3 e4 a4 hk
    · rintro H2 ⟨p1, p2, vs, acc, p3, p4, p5⟩
      exact q Dl H2 vs acc (e1.back hD) (e1.trans p2) p3 p4 (hend acc p5)
theorem xs_lcRN (l i : Nat) {x y : Str} {py spos : Pos} {j : J} {W : Nat → List D → Prop} {N : Int} (h : XE X e ρ fun d => ∃ n : Int, d = .int n ∧ n ≤ N ∧ (-(2 ^ 62) ≤ n ∧ n < 2 ^ 62) ∧ W 0 [] ∧ ∀ acc, W n.toNat acc → j.nx (ρ.set l (.own acc)))
    (he : Blk X scope fun Y => ∀ (m : Nat) acc, (m : Int) < N → W m acc → XE Y elt ((ρ.set i .un).set i (.dat (.int m))) fun d => acc.length < 100000 ∧ W (m + 1) (acc ++ [d])) (hm : X.mg "range" = none) (hN : X.N.Nodup)
    (hB : blkC X.N X.env.scope scope [(x, i)] = true := by first | decide +kernel | rfl) (hc : X.calm = true := by rfl) (hg : Gl X "range" := by rfl) (hi : X.N[i]? = some x := by rfl) (hy : X.N[l]? = some y := by rfl) (hyl : X.env.scope.names.lookup y = some .local := by rfl)
    (hsw : swapsWith (.ListComp elt [⟨.Name x px, .Call (.Name "range" p) [e] [] p2, [], 0⟩] scope pos) (some (.Name y py)) spos.line X.env = pure true := by rfl)
    (hx : Blk X scope fun Y => L2.Loc Y.env.scope x := by first | exact fun _ _ _ _ _ => Or.inl rfl | exact fun _ _ _ _ _ => Or.inr rfl)
    (hf : Blk X scope fun Y => Y.fn x = true ∨ Y.env.scope.names.lookup x = some .local := by first | exact fun _ _ _ _ _ => Or.inr rfl | exact fun _ _ _ _ _ => Or.inl rfl)
    (hs1 : starEach (e :: []) X.env = (false, eval e X.env) :: starEach [] X.env := by rfl) (hs2 : starEach [e] X.env = [(false, eval e X.env)] := by rfl)
    (hs : ∀ y, foldedSetIterable (.Call (.Name "range" p) [e] [] p2) X.env y = pure y := by intro _; rfl) :
    XS X (.Assign [.Name y py] (.ListComp elt [⟨.Name x px, .Call (.Name "range" p) [e] [] p2, [], 0⟩] scope pos) spos) ρ j :=
  xs_ofNO l (ps_setLc (own := [(x, i)]) (g := gName i) (tt := tYes) (te := cE X scope elt) hc hN hy hyl hsw (pi_range1 hg hm (pa_cons anyE pa_nil hs1) hs2) (blkOk_by hB)
    (fun s H C cl fp => pg_name hN hi (hx s H C cl fp) (hf s H C cl fp)) (fun _ _ _ _ _ => pts_nil) (fun s H C cl fp => impE anyE fun σ H Q q => q s _ C cl fp) hs) (fun σ H Q z => rd_lcRb i h he σ H Q z) fun ds hk => hk
end
end VL

set_option Elab.async false
set_option linter.all false
set_option maxRecDepth 100000
set_option maxHeartbeats 4000000
namespace VL
variable [Tb]
open PySem L2
/-! ## Cells, known for a while -/
/-- the object at a, exactly -/
def exO (a : Addr) (o : Obj) : HO := .ext fun h => h.get? a = some o
section
variable {P : Program} {w : World} {H H' : Hp} {h h' : Heap} {fs : List Addr}
theorem exO_ok {a : Addr} {o : Obj} (e : h.get? a = some o) : ObjOk P w H h a (exO a o) := ⟨e, ⟨o, e⟩, fun h1 h2 q st => st o q⟩
theorem exO_at {a : Addr} {o : Obj} (ok : HOk P w H h) (e : H a = some (exO a o)) : h.get? a = some o := (show ObjOk P w H h a (exO a o) from ok a _ e).1
def addX (cs : List (Addr × Obj)) (H : Hp) : Hp := fun a => match cs.lookup a with
  | some o => some (exO a o)
  | none => H a
def remX (cs : List (Addr × Obj)) (H : Hp) : Hp := fun a => match cs.lookup a with
  | some _ => none
  | none => H a
theorem addX_in {cs : List (Addr × Obj)} {a : Addr} {o : Obj} (h : cs.lookup a = some o) : addX cs H a = some (exO a o) := by
  unfold addX
  rw [h]
theorem addX_out {cs : List (Addr × Obj)} {a : Addr} (h : cs.lookup a = none) : addX cs H a = H a := by
  unfold addX
  rw [h]
theorem remX_in {cs : List (Addr × Obj)} {a : Addr} {o : Obj} (h : cs.lookup a = some o) : remX cs H a = none := by
  unfold remX
  rw [h]
theorem remX_out {cs : List (Addr × Obj)} {a : Addr} (h : cs.lookup a = none) : remX cs H a = H a := by
  unfold remX
  rw [h]
/-- the objects at cs stand so, and nothing is told of them -/
structure Cs (cs : List (Addr × Obj)) (H : Hp) (h : Heap) : Prop where
  at_ : ∀ a o, cs.lookup a = some o → h.get? a = some o ∧ H a = none
/-- .. and they are told -/
structure Ct (cs : List (Addr × Obj)) (H : Hp) : Prop where
  at_ : ∀ a o, cs.lookup a = some o → H a = some (exO a o)
theorem ct_add (cs : List (Addr × Obj)) (H : Hp) : Ct cs (addX cs H) := ⟨fun _ _ h => addX_in h⟩
theorem ex_add {cs : List (Addr × Obj)} (c : Cs cs H h) : ∀ a o, H a = some o → addX cs H a = some o := fun a o e => by
  cases q : cs.lookup a with
  | none => rw [addX_out q]; exact e
  | some u =>
    rw [(c.at_ a u q).2] at e
    cases e
theorem hok_add {cs : List (Addr × Obj)} (c : Cs cs H h) (x : HOk P w H h) : HOk P w (addX cs H) h := fun b u e => by
  cases q : cs.lookup b with
  | some o =>
    rw [addX_in q] at e
    cases e
    exact exO_ok (c.at_ b o q).1
  | none =>
    rw [addX_out q] at e
    exact (x b u e).stay (fun _ _ _ r => r) (fun d r => ex_add c d _ r) fun d xs r => ex_add c d _ r
theorem ct_ne {cs : List (Addr × Obj)} (c : Ct cs H) {a : Addr} {u : HO} (e : H a = some u) (n : ∀ o, u ≠ exO a o) : cs.lookup a = none := by
  cases q : cs.lookup a with
  | none => rfl
  | some o =>
    rw [c.at_ a o q] at e
    exact absurd (Option.some.inj e).symm (n o)
theorem hok_rem {cs : List (Addr × Obj)} (c : Ct cs H) (x : HOk P w H h) : HOk P w (remX cs H) h := fun b u e => by
  cases q : cs.lookup b with
  | some o =>
    rw [remX_in q] at e
    cases e
  | none =>
    rw [remX_out q] at e
    exact (x b u e).stay (fun _ _ _ r => r) (fun d r => by rw [remX_out (ct_ne c r fun o z => nomatch z)]; exact r) fun d xs r => by rw [remX_out (ct_ne c r fun o z => nomatch z)]; exact r
/-- a run that was told the objects at cs, seen by one who isn't -/
theorem un_thaw {cs : List (Addr × Obj)} (c : Cs cs H h) (u : Un fs [] (addX cs H) H' h h') (ok : HOk P w H' h') (t : Ct cs H') : Un fs [] H (remX cs H') h h' where
  keep := fun b o e n hf hx => by
    cases q : cs.lookup b with
    | some o' =>
      obtain ⟨q1, _⟩ := c.at_ b o' q
      rw [e] at q1
      cases q1
      exact exO_at ok (t.at_ b _ q)
    | none => exact u.keep b o e (by rw [addX_out q]; exact n) hf hx
  slot := fun b o e n hf hx => by
    cases q : cs.lookup b with
    | some o' =>
      obtain ⟨q1, _⟩ := c.at_ b o' q
      rw [e] at q1
      cases q1
      exact ⟨o.slots, exO_at ok (t.at_ b _ q)⟩
    | none => exact u.slot b o e (by rw [addX_out q]; exact n) hf hx
  free := fun b o e n hx => by
    cases q : cs.lookup b with
    | some o' => rw [remX_in q]
    | none =>
      rw [remX_out q]
      exact u.free b o e (by rw [addX_out q]; exact n) hx
  there := u.there
  tups := fun b xs e => by
    rw [remX_out (ct_ne (ct_add cs H) (ex_add c b _ e) fun o z => nomatch z)]
    exact u.tups b xs (ex_add c b _ e)
  frzs := fun b o v e => by
    rw [remX_out (ct_ne (ct_add cs H) (ex_add c b _ e) fun o z => nomatch z)]
    exact u.frzs b o v (ex_add c b _ e)
  tbls := fun b ps e => by
    rw [remX_out (ct_ne (ct_add cs H) (ex_add c b _ e) fun o z => nomatch z)]
    exact u.tbls b ps (ex_add c b _ e)
/-- a run that wasn't told, seen by one who was -/
theorem un_freeze {cs : List (Addr × Obj)} (c : Ct cs H) (okh : HOk P w H h) (u : Un fs [] (remX cs H) H' h h') : Un fs [] H (addX cs H') h h' where
  keep := fun b o e n hf hx => by
    cases q : cs.lookup b with
    | some o' =>
      rw [c.at_ b o' q] at n
      cases n
    | none => exact u.keep b o e (by rw [remX_out q]; exact n) hf hx
  slot := fun b o e n hf hx => by
    cases q : cs.lookup b with
    | some o' =>
      rw [c.at_ b o' q] at n
      cases n
    | none => exact u.slot b o e (by rw [remX_out q]; exact n) hf hx
  free := fun b o e n hx => by
    cases q : cs.lookup b with
    | some o' =>
      rw [c.at_ b o' q] at n
      cases n
    | none =>
      rw [addX_out q]
      exact u.free b o e (by rw [remX_out q]; exact n) hx
  there := u.there
  tups := fun b xs e => by
    have q := ct_ne c e fun o z => nomatch z
    rw [addX_out q]
    exact u.tups b xs (by rw [remX_out q]; exact e)
  frzs := fun b o v e => by
    have q := ct_ne c e fun o z => nomatch z
    rw [addX_out q]
    exact u.frzs b o v (by rw [remX_out q]; exact e)
  tbls := fun b ps e => by
    have q := ct_ne c e fun o z => nomatch z
    rw [addX_out q]
    exact u.tbls b ps (by rw [remX_out q]; exact e)
/-- .. the objects at cs stand as before -/
theorem cs_kept {cs : List (Addr × Obj)} (c : Ct cs H) (okh : HOk P w H h) (nf : ∀ a o, cs.lookup a = some o → a ∉ fs) (u : Un fs [] (remX cs H) H' h h') : Cs cs H' h' := ⟨fun a o q => by
  have e := exO_at okh (c.at_ a o q)
  exact ⟨u.keep a o e (remX_in q) (nf a o q) (by simp), u.free a o e (remX_in q) (by simp)⟩⟩
theorem ex_remadd {cs : List (Addr × Obj)} (c : Cs cs H h) : remX cs (addX cs H) = H := by
  funext a
  cases q : cs.lookup a with
  | some o => rw [remX_in q, (c.at_ a o q).2]
  | none => rw [remX_out q, addX_out q]
theorem ex_addrem {cs : List (Addr × Obj)} (c : Ct cs H) : addX cs (remX cs H) = H := by
  funext a
  cases q : cs.lookup a with
  | some o => rw [addX_in q, c.at_ a o q]
  | none => rw [addX_out q, remX_out q]
end
end VL

set_option Elab.async false
set_option linter.all false
set_option maxRecDepth 100000
set_option maxHeartbeats 4000000
namespace VL
variable [Tb]
open PySem PySem.Spec PyProof.Rows L2 LamX
/-! ## A lambda is made -/
abbrev lamO (q : Str) (params : Arguments) (body : Expr) (scope : Scope) (cl : List (Str × Addr)) (pm : Value) (c' : Addr) (ctv : Value) : Obj := PySem.W.kla_obj "<lambda>" q params body scope cl pm c' ctv
section
variable {X : Cx} {pins : List (Addr × Obj)} {σ : L2.St} {H : Hp} {s : Shared}
theorem lam_mk {c P : Addr} {params : Arguments} {body : Expr} {scope : Scope} {pos : Pos} {E : Value → Shared → Prop} {Q : Value → Shared → Prop} (I : Inv X pins σ H s) (B : TabB X.base X.mg c P) (hcode : X.env.code = .ref c)
    (hm : (P, X.env.qual ++ "<lambda>") ∈ Tb.T) (hu : ∀ p ∈ Tb.T, p.1 = P → p.2 = X.env.qual ++ "<lambda>") (hT : ∀ p ∈ Tb.T, TabS H p.1 p.2) (hdef : defaultsOf params X.env = ([], [])) (hfree : ∀ y ∈ scope.names, y.2 = .free → ∃ c, X.env.cells.lookup y.1 = some c)
    (h : ∀ (f c' : Addr) (pm ctv : Value) (H1 : Hp) (s' : Shared), Inv X pins σ H1 s' → Ex H H1 → H f = none → H1 f = some (exO f (lamO (X.env.qual ++ "<lambda>") params body scope (cloFrom X.env.cells scope.names []) pm c' ctv)) → H1 c' = some (CodeO c' (X.env.qual ++ "<lambda>")) → Q (.ref f) s') :
    wpAny (model X.prog X.w) X.A (eval (.Lambda params body scope pos) X.env) Q E s := by
  obtain ⟨ps, hP, ht, ha⟩ := hT _ hm
  refine PySem.W.kla_eval hdef ?_
  have bP : s.heap.BuiltinsAt X.mg P := B.bm.keeps I.bk
  have hP' : s.heap.get? P = some { cls := .none, data := .fields ps } := I.hok P _ hP
  cases hc : codeAmong pos ps.toList with
  | none =>
    refine PySem.W.kla_makeFunction (mg := X.mg) (c := c) (P := P) (ps := ps) (closure_ok hfree) I.ok.glob (I.mod.glob.keeps I.bk) hcode (B.code.keeps I.bk) hP' ht hc B.gP bP fun c' ctv h' tk hx hge hlt hrec htb => ?_
    obtain ⟨c2, oc, vs, t, e2, hoc, hd, hv⟩ := hrec
    cases e2
    have hsz : s.heap.objs.size ≤ h'.objs.size := Nat.le_trans hge (Nat.le_of_lt hlt)
    have nC : H c' = none := I.hok.fresh hge
    have nF : H h'.objs.size = none := I.hok.fresh hsz
    have I1 := inv_table (t' := tk) (more := #[rawInt pos.line, rawInt pos.col, .ref c']) (h' := h') I hP (fun b o hb e => hx b o hb e) htb hge ⟨oc, vs, t, hoc, hd, hv⟩
    have I2 := I1.laid (t' := tk) (a := h'.objs.size) (o := exO h'.objs.size (lamO (X.env.qual ++ "<lambda>") params body scope (cloFrom X.env.cells scope.names []) ((X.mg "__name__").getD .none) c' ctv))
      (h' := h'.push (lamO (X.env.qual ++ "<lambda>") params body scope (cloFrom X.env.cells scope.names []) ((X.mg "__name__").getD .none) c' ctv)) (fun b o e => Heap.get?_push_of_some _ e) (Nat.le_refl _) (exO_ok (Heap.get?_push_size _ rfl))
    have n1 : h'.objs.size ≠ c' := Nat.ne_of_gt hlt
    have n2 : h'.objs.size ≠ P := Nat.ne_of_gt (Nat.lt_of_lt_of_le (Heap.lt_size hP') hsz)
    have at_ : ∀ b, b ≠ h'.objs.size → b ≠ c' → b ≠ P → upd (upd (upd H P (.tbl (ps ++ #[rawInt pos.line, rawInt pos.col, .ref c']))) c' (CodeO c' (X.env.qual ++ "<lambda>"))) h'.objs.size (exO h'.objs.size (lamO (X.env.qual ++ "<lambda>") params body scope (cloFrom X.env.cells scope.names []) ((X.mg "__name__").getD .none) c' ctv)) b = H b := fun b b1 b2 b3 => by
      rw [upd_ne b1, upd_ne b2, upd_ne b3]
    have atP : upd (upd (upd H P (.tbl (ps ++ #[rawInt pos.line, rawInt pos.col, .ref c']))) c' (CodeO c' (X.env.qual ++ "<lambda>"))) h'.objs.size (exO h'.objs.size (lamO (X.env.qual ++ "<lambda>") params body scope (cloFrom X.env.cells scope.names []) ((X.mg "__name__").getD .none) c' ctv)) P = some (.tbl (ps ++ #[rawInt pos.line, rawInt pos.col, .ref c'])) := by
      rw [upd_ne n2.symm, upd_ne (ne_of_none hP nC), upd_same]
    have atC : upd (upd (upd H P (.tbl (ps ++ #[rawInt pos.line, rawInt pos.col, .ref c']))) c' (CodeO c' (X.env.qual ++ "<lambda>"))) h'.objs.size (exO h'.objs.size (lamO (X.env.qual ++ "<lambda>") params body scope (cloFrom X.env.cells scope.names []) ((X.mg "__name__").getD .none) c' ctv)) c' = some (CodeO c' (X.env.qual ++ "<lambda>")) := by
      rw [upd_ne n1.symm, upd_same]
    have eL : (ps ++ #[rawInt pos.line, rawInt pos.col, .ref c']).toList = ps.toList ++ [rawInt pos.line, rawInt pos.col, .ref c'] := by simp
    refine h h'.objs.size c' ((X.mg "__name__").getD .none) ctv _ _ I2 ⟨⟨fun b o e n => ?_, fun b o e => ?_⟩, fun p hp t0 => ?_⟩ nF upd_same atC
    · rw [at_ b (ne_of_none e nF) (ne_of_none e nC) fun z => ?_]
      · exact e
      · rw [z, hP] at e
        cases e
        exact n
    · by_cases z : b = P
      · rw [z]
        exact ⟨_, atP⟩
      · exact ⟨o, (at_ b (ne_of_none e nF) (ne_of_none e nC) z).trans e⟩
    · by_cases hb : p.1 = P
      · rw [hu p hp hb, hb]
        refine ⟨_, atP, by rw [eL]; exact PySem.TriplesOk_snoc _ _ _ _ ht, fun p' cv hcv => ?_⟩
        rw [eL] at hcv
        rcases among_app _ ht hcv with z | z
        · obtain ⟨c0, e1, e2⟩ := ha p' cv z
          refine ⟨c0, e1, (at_ c0 (ne_of_none e2 nF) (ne_of_none e2 nC) fun z2 => ?_).trans e2⟩
          rw [z2, hP] at e2
          exact codeO_ne _ (Option.some.inj e2).symm
        · exact ⟨c', z, atC⟩
      · obtain ⟨ps', a1, a2, a3⟩ := t0
        refine ⟨ps', (at_ p.1 (ne_of_none a1 nF) (ne_of_none a1 nC) hb).trans a1, a2, fun p' cv hcv => ?_⟩
        obtain ⟨c0, e1, e2⟩ := a3 p' cv hcv
        refine ⟨c0, e1, (at_ c0 (ne_of_none e2 nF) (ne_of_none e2 nC) fun z2 => ?_).trans e2⟩
        rw [z2, hP] at e2
        exact codeO_ne _ (Option.some.inj e2).symm
  | some cv =>
    obtain ⟨c', e, hco⟩ := ha pos cv hc
    subst e
    refine PySem.W.kla_makeFunctionHit (mg := X.mg) (c := c) (P := P) (ps := ps) (closure_ok hfree) I.ok.glob (I.mod.glob.keeps I.bk) hcode (B.code.keeps I.bk) hP' ht hc bP fun ctv h' tk hx hsz => ?_
    have nF : H h'.objs.size = none := I.hok.fresh hsz
    have I2 := I.laid (t' := tk) (a := h'.objs.size) (o := exO h'.objs.size (lamO (X.env.qual ++ "<lambda>") params body scope (cloFrom X.env.cells scope.names []) ((X.mg "__name__").getD .none) c' ctv))
      (h' := h'.push (lamO (X.env.qual ++ "<lambda>") params body scope (cloFrom X.env.cells scope.names []) ((X.mg "__name__").getD .none) c' ctv)) (fun b o e => Heap.get?_push_of_some _ (hx b o e)) hsz (exO_ok (Heap.get?_push_size _ rfl))
    exact h h'.objs.size c' ((X.mg "__name__").getD .none) ctv _ _ I2 (Ex.new nF) nF upd_same (by rw [upd_ne (ne_of_none hco nF)]; exact hco)
end
/-- what is known of a lambda's function object -/
def LamP (q : Str) (params : Arguments) (body : Expr) (scope : Scope) (cl : List (Str × Addr)) (f : Addr) (H : Hp) : Prop := ∃ (c' : Addr) (pm ctv : Value), H f = some (exO f (lamO q params body scope cl pm c' ctv)) ∧ H c' = some (CodeO c' q)
theorem LamP.mono {q : Str} {params : Arguments} {body : Expr} {scope : Scope} {cl : List (Str × Addr)} {f : Addr} {H H' : Hp} (h : LamP q params body scope cl f H) (e : ExN H H') : LamP q params body scope cl f H' :=
  let ⟨c', pm, ctv, h1, h2⟩ := h
  ⟨c', pm, ctv, e.k _ _ h1 True.intro, e.k _ _ h2 True.intro⟩
/-- what the making of lambdas asks of a def's context: its code object's table is among those that may grow -/
structure Lams (X : Cx) : Prop where
  ex : ∃ c P, TabB X.base X.mg c P ∧ X.env.code = .ref c ∧ (P, X.env.qual ++ "<lambda>") ∈ Tb.T ∧ ∀ p ∈ Tb.T, p.1 = P → p.2 = X.env.qual ++ "<lambda>"
section
variable {X : Cx} {ρ : Rho} {k : D → Prop} {params : Arguments} {body : Expr} {scope : Scope} {pos : Pos}
theorem hide_newf {S : List Addr} {H H1 : Hp} {f : Addr} (t : Trk S H) (e : Ex H H1) (n : H f = none) : f ∉ S := fun z => by
  obtain ⟨u, q, _⟩ := t.tr f z
  rw [n] at q
  cases q
/-- the codes aren't hidden -/
theorem hide_code {S : List Addr} {H : Hp} {c : Addr} {q : Str} (t : Trk S H) (n : H c = some (CodeO c q)) : c ∉ S := fun z => by
  obtain ⟨u, q, pu⟩ := t.tr c z
  rw [n] at q
  exact codeO_pl (Option.some.inj q) pu
theorem xe_lam (L : Lams X) (h : ∀ f, k (.tg (LamP (X.env.qual ++ "<lambda>") params body scope (cloFrom X.env.cells scope.names []) f) f)) (hs : LamS X.env.scope scope) (hdef : defaultsOf params X.env = ([], []) := by rfl) : XE X (.Lambda params body scope pos) ρ k := by
  refine ⟨fun pins s σ H Q I ⟨S, E, q⟩ => ?_⟩
  obtain ⟨c, P, B, hcode, hm, hu⟩ := L.ex
  refine lam_mk I B hcode hm hu E.trk.tb hdef (hs.has I.ok) fun f c' pm ctv H1 s' I1 e1 nf hf hc => ?_
  have t1 := E.trk.mono e1
  have fS := hide_newf E.trk e1 nf
  have cS := hide_code t1 hc
  have l1 : LamP (X.env.qual ++ "<lambda>") params body scope (cloFrom X.env.cells scope.names []) f (hide S H1) := ⟨c', pm, ctv, by rw [hide_out fS]; exact hf, by rw [hide_out cS]; exact hc⟩
  exact ⟨.ref f, H1, I1, rfl, q (.ref f) H1 _ e1 (.tg f fun H' e' => l1.mono e') (h f)⟩
end
end VL

set_option Elab.async false
set_option linter.all false
set_option maxRecDepth 100000
set_option maxHeartbeats 4000000
namespace VL
variable [Tb]
open PySem PySem.Spec PyProof.Rows L2 LamX
/-! ## What a call comes to: data, or an error with a field -/
inductive Out where
  | ok (d : D)
  | err (C : Addr) (f : Str) (d : D)
/-- an error: its class, its field -/
def ErrAt (K : PySem.W.Frag) (H : Hp) (cls : Value) (dct : Option Addr) (C : Addr) (f : Str) (d : D) : Prop := cls = .ref C ∧ ∃ (dd : Addr) (fs : List (Str × V)) (v : V), dct = some dd ∧ H dd = some (.xd fs) ∧ fs.lookup f = some v ∧ At K H v d
theorem ErrAt.mono {K : PySem.W.Frag} {H H' : Hp} {cls : Value} {dct : Option Addr} {C : Addr} {f : Str} {d : D} (h : ErrAt K H cls dct C f d) (e : ExN H H') : ErrAt K H' cls dct C f d :=
  let ⟨h1, dd, fs, v, h2, h3, h4, h5⟩ := h
  ⟨h1, dd, fs, v, h2, e.k _ _ h3 True.intro, h4, h5.mono e⟩
/-- what is wished of an outcome -/
structure Wish (K : PySem.W.Frag) (S : List Addr) (H : Hp) (o : Out) (Q : VK) (E : XK) : Prop where
  ok : ∀ v H2 d, o = .ok d → Ex H H2 → At K (hide S H2) v d → Q v H2
  er : ∀ cls dct H2 C f d, o = .err C f d → Ex H H2 → ErrAt K (hide S H2) cls dct C f d → E cls dct H2
/-- a thing to call: what its call without arguments comes to -/
structure Act (P : Program) (w : World) (K : PySem.W.Frag) (mg : Str → Option Value) (base : Heap) (n : Nat) (f : Addr) (o : Out) (Hs : Hp) : Prop where
  fn : ∃ q params body scope cl pm c' ctv, Hs f = some (exO f (lamO q params body scope cl pm c' ctv))
  run : ∀ (A : Around) (outer : List Env) (s : Shared) (H : Hp) (S : List Addr) (Q : VK) (E : XK), A.guards = some [] → Room n A → Env0 P w K mg base A outer s H → Trk S H → ExN Hs (hide S H) → Wish K S H o Q E → codeAny (model P w) A (.call (.ref f) ⟨[], []⟩) (CR (L2N.CX P w) outer P w H s Q E) s
section
variable {P : Program} {w : World} {K : PySem.W.Frag} {mg : Str → Option Value} {base : Heap}
theorem Act.mono {n : Nat} {f : Addr} {o : Out} {H H' : Hp} (h : Act P w K mg base n f o H) (e : ExN H H') : Act P w K mg base n f o H' :=
  ⟨let ⟨q, pa, b, sc, cl, pm, c', ct, h1⟩ := h.fn; ⟨q, pa, b, sc, cl, pm, c', ct, e.k _ _ h1 True.intro⟩, fun A outer s H S Q E g hr e0 tr ex wi => h.run A outer s H S Q E g hr e0 tr (e.trans ex) wi⟩
/-! ## The lambda's body -/
structure LamS0 (scope : Scope) : Prop where
  kind : scope.kind = .function
  co : scope.isCoroutine = false
  gen : scope.isGenerator = false
  own : ∀ y ∈ scope.names, y.2 ≠ .local ∧ y.2 ≠ .cell
abbrev lamEnvF (q : Str) (scope : Scope) (L f c' : Addr) (cl : List (Str × Addr)) : Env := PySem.W.envX q scope L f (.ref c') cl
def lamCxF (P : Program) (w : World) (K : PySem.W.Frag) (mg : Str → Option Value) (base : Heap) (N : List Str) (q : Str) (cl : List (Str × Addr)) (A : Around) (outer : List Env) (s : Shared) (H : Hp) (E : XK) (scope : Scope) (f c' : Addr) : Cx where
  prog := P
  w := w
  K := K
  mg := mg
  base := base
  A := A.deeper (lamEnvF q scope s.heap.objs.size f c' cl)
  N := N
  s_0 := s
  H_0 := H
  env := lamEnvF q scope s.heap.objs.size f c' cl
  outer := outer
  stack := lamEnvF q scope s.heap.objs.size f c' cl :: outer
  ex := []
  fn := fun _ => false
  calm := true
  pn := []
  xe := fun e s' => wpAny (model P w) (A.deeper (lamEnvF q scope s.heap.objs.size f c' cl)) (leaving (lamEnvF q scope s.heap.objs.size f c' cl) e) (fun _ s'' => L2N.CX P w outer H s E e s'') (fun e' s'' => L2N.CX P w outer H s E e' s'') s'
/-- the cells that the closure names: their objects, told -/
structure Cel (cl : List (Str × Addr)) (cs : List (Addr × Obj)) (H : Hp) : Prop where
  ct : Ct cs H
  inj : ∀ x y c, cl.lookup x = some c → cl.lookup y = some c → x = y
  mem : ∀ x c, cl.lookup x = some c → ∃ o u, cs.lookup c = some o ∧ o.data = .cell u
  cell : ∀ c o, cs.lookup c = some o → ∃ u, o.data = .cell u
/-- .. and the names' values -/
def Vls (cl : List (Str × Addr)) (cs : List (Addr × Obj)) (N : List Str) (σ : L2.St) : Prop := ∀ (i : Nat) (x : Str) (v : V), N[i]? = some x → σ[i]? = some (some v) → ∀ c, cl.lookup x = some c → ∃ o u, cs.lookup c = some o ∧ o.data = .cell (some u) ∧ RelV v u
theorem remX_none {cs : List (Addr × Obj)} {H : Hp} {b : Addr} (h : H b = none) : remX cs H b = none := by
  cases q : cs.lookup b with
  | some o => exact remX_in q
  | none => rw [remX_out q, h]
theorem Env0.rem {A : Around} {outer : List Env} {s : Shared} {H : Hp} {cs : List (Addr × Obj)} (e : Env0 P w K mg base A outer s H) (c : Ct cs H) : Env0 P w K mg base A outer s (remX cs H) :=
  ⟨e.frames, e.mod, fun b o q => ⟨(e.bs b o q).1, remX_none (e.bs b o q).2⟩, e.bsz, e.funs, fun b hb => remX_none (e.frf b hb), hok_rem c e.hok, e.bare⟩
theorem lam_startF {A : Around} {outer : List Env} {E : XK} {scope : Scope} {f c' : Addr} {h₁ : Heap} {tk : Nat} {HZ : Hp} {s1 : Shared} {N : List Str} {q : Str} {cl : List (Str × Addr)} {cs : List (Addr × Obj)} {σ : L2.St} (L : LamS0 scope) (e0 : Env0 P w K mg base A outer s1 HZ) (hd : A.handled = none)
    (C : Cel cl cs HZ) (hf : ∀ y ∈ scope.names, y.2 = .free → ∃ c, cl.lookup y.1 = some c) (V : Vls cl cs N σ) (hl : σ.length = N.length) (hns : h₁.Ns s1.heap.objs.size fun y => ([] : List (Str × Value)).reverse.lookup y) (kp : ∀ b o, s1.heap.get? b = some o → h₁.get? b = some o) :
    Inv (lamCxF P w K mg base N q cl A outer s1 (remX cs HZ) E scope f c') [] σ (remX cs HZ) { s1 with heap := h₁, toks := tk } := by
  have e1 := Env0.rem e0 C.ct
  have noA : ∀ b : Addr, b ∉ (lamCxF P w K mg base N q cl A outer s1 (remX cs HZ) E scope f c').ex := fun b z => absurd (show b ∈ ([] : List Addr) from z) (by simp)
  have look : ∀ {y}, scope.names.lookup y = some .free → ∃ c, cl.lookup y = some c := fun {y} hy => hf (y, .free) (PySem.mem_of_lookup hy) rfl
  have at_ : ∀ {c : Addr} {o : Obj}, cs.lookup c = some o → h₁.get? c = some o := fun {c o} z => kp _ _ (exO_at e0.hok (C.ct.at_ _ _ z))
  refine ⟨⟨e1.mod, L.kind, rfl, rfl, Nat.le_refl _, fun y z c k1 k2 => C.inj y z c k1 k2, fun y hy => ?_, fun y c z _ => ?_, fun _ => hd, Around.frames_deeper e1.frames, .inr ⟨rfl, rfl⟩, fun b z => absurd z (noA b), e1.bs, e1.bsz, fun b _ _ => noA b,
      fun b z => absurd z (noA b), e1.funs, e1.frf⟩,
    rfl, e1.bare, Un.kept kp, ⟨_, hns, fun i y v k1 k2 k3 => ?_⟩, fun y c e => ?_, e1.hok.fresh (Nat.le_refl _), fun y c e => ?_, fun q hq => absurd (show q ∈ ([] : List (Addr × Obj)) ++ [] from hq) (by simp), e1.hok.kept kp, hl⟩
  · have hy : scope.names.lookup y = some .cell ∨ scope.names.lookup y = some .free := hy
    rcases hy with hy | hy
    · exact absurd rfl (L.own _ (PySem.mem_of_lookup hy)).2
    · exact look hy
  · have z : false = true := z
    cases z
  · have k3 : Vis scope y := k3
    rcases k3 with k | k | k
    · exact absurd rfl (L.own _ (PySem.mem_of_lookup k)).1
    · exact absurd rfl (L.own _ (PySem.mem_of_lookup k)).2
    · obtain ⟨c, hc⟩ := look k
      obtain ⟨o, u, h1, h2, h3⟩ := V i y v k1 k2 c hc
      exact ⟨u, h3, .inr ⟨.inr k, c, hc, o, at_ h1, h2⟩⟩
  · obtain ⟨o, u, h1, h2⟩ := C.mem y c e
    exact ⟨u, o, at_ h1, h2⟩
  · obtain ⟨o, u, h1, h2⟩ := C.mem y c e
    exact remX_in h1
/-! ## back from a run that wasn't told the cells -/
theorem cx_freeze {cs : List (Addr × Obj)} {outer : List Env} {H : Hp} {s s' : Shared} {E E' : XK} {u : Value} (c : Ct cs H) (okh : HOk P w H s.heap) (nf : ∀ a o, cs.lookup a = some o → a ∉ frs outer) (hE' : ∀ cl d H2, E' cl d H2 → (∀ a o, cs.lookup a = some o → H2 a = none) → E cl d (addX cs H2)) (h : L2N.CX P w outer (remX cs H) s E' u s') : L2N.CX P w outer H s E u s' := by
  obtain ⟨a, B, H', cls, d, rfl, fl, hok, ub, na, os, ag, hE⟩ := h
  have csB : Cs cs H' B := ⟨fun b o q => by
    have e := exO_at okh (c.at_ b o q)
    exact ⟨ub.keep b o e (remX_in q) (nf b o q), ub.free b o e (remX_in q)⟩⟩
  have out : ∀ {b : Addr} {o : HO}, H b = some o → (∀ o', o ≠ exO b o') → cs.lookup b = none := fun e n => ct_ne c e n
  refine ⟨a, B, addX cs H', cls, d, rfl, fl, hok_add csB hok, ⟨fun b o e n hb => ?_, fun b o e hb => ub.slot b o e hb, fun b o e n => ?_, fun b o e hb => ub.there b o e hb, fun b xs e => ?_, fun b o xs e => ?_, fun b ps e => ?_⟩, ?_, os, ag, ?_⟩
  · exact ub.keep b o e (remX_none n) hb
  · cases q : cs.lookup b with
    | some o' =>
      rw [c.at_ b o' q] at n
      cases n
    | none =>
      rw [addX_out q]
      exact ub.free b o e (remX_none n)
  · have q := out e fun o z => nomatch z
    rw [addX_out q]
    exact ub.tups b xs (by rw [remX_out q]; exact e)
  · have q := out e fun o z => nomatch z
    rw [addX_out q]
    exact ub.frzs b o xs (by rw [remX_out q]; exact e)
  · have q := out e fun o z => nomatch z
    rw [addX_out q]
    exact ub.tbls b ps (by rw [remX_out q]; exact e)
  · cases q : cs.lookup a with
    | some o =>
      have z := (csB.at_ a o q).1
      rw [fl.2.1] at z
      cases z
    | none => rw [addX_out q, na]
  · exact hE' _ _ _ hE fun a o q => (csB.at_ a o q).2
theorem code_ncell {cs : List (Addr × Obj)} {H : Hp} {h : Heap} {c : Addr} {q : Str} {o : Obj} (ok : HOk P w H h) (ct : Ct cs H) (hc : ∀ c o, cs.lookup c = some o → ∃ u, o.data = .cell u) (e : H c = some (CodeO c q)) : cs.lookup c = none := by
  cases z : cs.lookup c with
  | none => rfl
  | some o =>
    obtain ⟨u, hu⟩ := hc c o z
    have e1 := exO_at ok (ct.at_ c o z)
    obtain ⟨⟨oc, vs, t, h1, h2, _⟩, _, _⟩ := ok c _ e
    rw [e1] at h1
    cases h1
    rw [hu] at h2
    cases h2
/-- H' behind a run that wasn't told the cells: seen by one who was -/
theorem ex_freeze {cs : List (Addr × Obj)} {H H' : Hp} {h : Heap} (ok : HOk P w H h) (ct : Ct cs H) (hc : ∀ c o, cs.lookup c = some o → ∃ u, o.data = .cell u) (e : Ex (remX cs H) H') (n : ∀ a o, cs.lookup a = some o → H' a = none) : Ex H (addX cs H') := by
  have keep : ∀ b o, H b = some o → NT o → addX cs H' b = some o := fun b o z nt => by
    cases q : cs.lookup b with
    | some o' => rw [addX_in q, ← ct.at_ b o' q, z]
    | none =>
      rw [addX_out q]
      exact e.k b o (by rw [remX_out q]; exact z) nt
  have sub : ∀ b o, H' b = some o → addX cs H' b = some o := fun b o z => by
    cases q : cs.lookup b with
    | some o' => rw [n b o' q] at z; cases z
    | none => rw [addX_out q, z]
  refine ⟨⟨keep, fun b o z => ?_⟩, fun p hp t => ?_⟩
  · cases q : cs.lookup b with
    | some o' => exact ⟨_, addX_in q⟩
    | none =>
      obtain ⟨o', h'⟩ := e.th b o (by rw [remX_out q]; exact z)
      exact ⟨o', sub _ _ h'⟩
  · have t1 : TabS (remX cs H) p.1 p.2 := by
      obtain ⟨ps, h1, h2, h3⟩ := t
      refine ⟨ps, by rw [remX_out (ct_ne ct h1 fun o z => nomatch z)]; exact h1, h2, fun pos cv hcv => ?_⟩
      obtain ⟨c, c1, c2⟩ := h3 pos cv hcv
      exact ⟨c, c1, by rw [remX_out (code_ncell (o := default) ok ct hc c2)]; exact c2⟩
    exact (e.t p hp t1).ext sub
end
end VL

set_option Elab.async false
set_option linter.all false
set_option maxRecDepth 100000
set_option maxHeartbeats 4000000
namespace VL
variable [Tb]
open PySem PySem.Spec PyProof.Rows L2 LamX
/-! ## An expression that comes to data, or to an error -/
def tX (K : PySem.W.Frag) (ρ : Rho) (o : Out) (W : WX) : TE := fun σ H Q => ∃ S, EnvOk K S H σ ρ ∧ (∀ v H2 d, o = .ok d → Ex H H2 → At K (hide S H2) v d → Q v H2) ∧
  ∀ cls dct H2 C f d, o = .err C f d → Ex H H2 → ErrAt K (hide S H2) cls dct C f d → W cls dct σ H2
def XX (X : Cx) (W : WX) (e : Expr) (ρ : Rho) (o : Out) : Prop := PE X e (tX X.K ρ o W)
theorem XX.of {X : Cx} {W : WX} {e : Expr} {ρ : Rho} {d : D} (h : XE X e ρ fun d' => d' = d) : XX X W e ρ (.ok d) :=
  impE h fun σ H Q ⟨S, E, q, _⟩ => ⟨S, E, fun v H2 d' e1 a hd => q v H2 d (by rfl) e1 (hd ▸ a)⟩
section
variable {P : Program} {w : World} {K : PySem.W.Frag} {mg : Str → Option Value} {base : Heap}
theorem trk_rem {cs : List (Addr × Obj)} {S : List Addr} {H : Hp} {h : Heap} (ok : HOk P w H h) (ct : Ct cs H) (hc : ∀ c o, cs.lookup c = some o → ∃ u, o.data = .cell u) (tr : Trk S H) : Trk S (remX cs H) := by
  refine ⟨fun a ha => ?_, fun p hp => ?_⟩
  · obtain ⟨o, h1, h2⟩ := tr.tr a ha
    refine ⟨o, ?_, h2⟩
    rw [remX_out (ct_ne ct h1 fun o' z => ?_)]
    · exact h1
    · rw [z] at h2
      exact h2
  · obtain ⟨ps, h1, h2, h3⟩ := tr.tb p hp
    refine ⟨ps, by rw [remX_out (ct_ne ct h1 fun o z => nomatch z)]; exact h1, h2, fun pos cv hcv => ?_⟩
    obtain ⟨c, c1, c2⟩ := h3 pos cv hcv
    exact ⟨c, c1, by rw [remX_out (code_ncell (o := default) ok ct hc c2)]; exact c2⟩
/-- a lambda's call by its body -/
theorem act_of {q : Str} {params : Arguments} {body : Expr} {scope : Scope} {cl : List (Str × Addr)} {f : Addr} {N : List Str} {n : Nat} {o : Out} {ρ : Rho} {σ : L2.St} {cs : List (Addr × Obj)} {Hp0 Hs : Hp} (L : LamS0 scope) (hf : ∀ y ∈ scope.names, y.2 = .free → ∃ c, cl.lookup y.1 = some c)
    (hbind : ∀ pm cv ctv, bindArgs (PySem.W.kla_fn "<lambda>" q params body scope cl pm cv ctv) ⟨[], []⟩ = pure []) (φ : LamP q params body scope cl f Hs) (C : Cel cl cs Hs) (V : Vls cl cs N σ) (hl : σ.length = N.length) (hρ : σ.length = ρ.length)
    (dat : ∀ (i : Nat) (d : D), ρ[i]? = some (.dat d) → ∃ v, σ[i]? = some (some v) ∧ At K Hp0 v d) (own : ∀ (i : Nat) (ds : List D), ρ[i]? ≠ some (.own ds)) (e0s : ExN Hp0 Hs) (hp0 : ∀ a x, Hp0 a = some x → cs.lookup a = none)
    (hb : ∀ (A : Around) (outer : List Env) (s : Shared) (H : Hp) (E : XK) (c' : Addr), A.guards = some [] → Room n (A.deeper (lamEnvF q scope s.heap.objs.size f c' cl)) → XX (lamCxF P w K mg base N q cl A outer s H E scope f c') (fun cls d _ H => E cls d H) body ρ o) :
    Act P w K mg base (n + 1) f o Hs := by
  obtain ⟨c', pm, ctv, φ1, φ2⟩ := φ
  refine ⟨⟨_, _, _, _, _, _, _, _, φ1⟩, fun A outer s H S Q E gd hr e0 tr ex wi => ?_⟩
  have hidS : ∀ {a : Addr} {x : HO}, hide S H a = some x → a ∉ S ∧ H a = some x := fun {a x} z => by
    by_cases m : a ∈ S
    · rw [hide_in m] at z
      cases z
    · rw [hide_out m] at z
      exact ⟨m, z⟩
  have of1 := exO_at e0.hok (hidS (ex.k _ _ φ1 True.intro)).2
  obtain ⟨⟨oc, vs, t, hoc, hdc, hvc⟩, _, _⟩ := e0.hok c' _ (hidS (ex.k _ _ φ2 True.intro)).2
  have ct : Ct cs H := ⟨fun a x z => (hidS (ex.k _ _ (C.ct.at_ a x z) True.intro)).2⟩
  have cS : ∀ a x, cs.lookup a = some x → a ∉ S := fun a x z => (hidS (ex.k _ _ (C.ct.at_ a x z) True.intro)).1
  have C2 : Cel cl cs H := ⟨ct, C.inj, C.mem, C.cell⟩
  have nfr : ∀ a x, cs.lookup a = some x → a ∉ frs outer := fun a x z hm => by
    have y := e0.frf a hm
    rw [ct.at_ a x z] at y
    cases y
  have tr2 := trk_rem e0.hok ct C.cell tr
  have e02 : ExN Hp0 (hide S (remX cs H)) := by
    have key : ∀ a x, hide S H a = some x → cs.lookup a = none → hide S (remX cs H) a = some x := fun a x z n => by
      obtain ⟨z1, z2⟩ := hidS z
      rw [hide_out z1, remX_out n, z2]
    refine ⟨fun a x z nt => key a x (ex.k _ _ (e0s.k a x z nt) nt) (hp0 a x z), fun a x z => ?_⟩
    obtain ⟨x1, z1⟩ := e0s.th a x z
    obtain ⟨x2, z2⟩ := ex.th a x1 z1
    exact ⟨x2, key a x2 z2 (hp0 a x z)⟩
  have EN : EnvOk K S (remX cs H) σ ρ := ⟨hρ, tr2, fun i d hi => let ⟨v, h1, h2⟩ := dat i d hi; ⟨v, h1, h2.mono e02⟩, fun i ds hi => absurd hi (own i ds), fun i j ds es p h1 => absurd h1 (own i ds)⟩
  refine PySem.W.kla_callFunE hr.depth of1 rfl L.co L.gen rfl ⟨c', oc, vs, t, rfl, hoc, hdc, hvc⟩ ?_
  rw [hbind]
  have nol : s.heap.NoLimit := e0.mod.nolimit.keeps fun b o z => (e0.bs b o z).1
  refine wpAny_pure (wpAny_newFunctionEnv (fun y hy => (L.own y hy).2) (fun y hy => absurd hy (by simp)) (fun h₁ hns hsb => ⟨nol.fresh _ hsb, ?_⟩) L.kind)
  show codeAny _ _ (.expr body (lamEnvF q scope s.heap.objs.size f c' cl)) _ _
  have kp : ∀ b o, s.heap.get? b = some o → h₁.get? b = some o := fun b o e => hsb.extBut b o (Nat.ne_of_lt (Heap.lt_size e)) (Heap.get?_push_of_some _ e)
  have J := lam_startF (E := fun cls d H2 => ∃ D g d', o = .err D g d' ∧ Ex (remX cs H) H2 ∧ ErrAt K (hide S H2) cls d D g d') (f := f) (c' := c') (q := q) (tk := s.toks + ([] : List (Str × Value)).length) L e0 hr.hd C2 hf V hl hns kp
  have subA : ∀ {H2 : Hp}, (∀ a x, cs.lookup a = some x → H2 a = none) → ∀ a x, H2 a = some x → addX cs H2 a = some x := fun {H2} n a x z => by
    cases y : cs.lookup a with
    | some x' => rw [n a x' y] at z; cases z
    | none => rw [addX_out y, z]
  have subH : ∀ {H2 : Hp}, (∀ a x, cs.lookup a = some x → H2 a = none) → ExN (hide S H2) (hide S (addX cs H2)) := fun {H2} n => hide_exN (ExN.of (subA n))
  refine PySem.W.kla_codeExpr (wpAny_mono ((hb A outer s (remX cs H) _ c' gd (hr.deeper _)).run [] _ _ (remX cs H) (fun v H2 => ∃ d, o = .ok d ∧ Ex (remX cs H) H2 ∧ At K (hide S H2) v d) J ⟨S, EN, fun v H2 d ho e1 a => ⟨d, ho, e1, a⟩, fun cls dct H2 D g d ho e1 a => ⟨D, g, d, ho, e1, a⟩⟩) (fun v s' hq => ?_) fun e s' hq => ?_)
  · obtain ⟨w', H2, J', rv, d, ho, e1, a⟩ := hq
    have u2 : Un (frs outer) [] (remX cs H) H2 s.heap s'.heap := J'.base
    have c2 := cs_kept ct e0.hok nfr u2
    have n2 : ∀ a x, cs.lookup a = some x → H2 a = none := fun a x z => (c2.at_ a x z).2
    exact ⟨w', addX cs H2, J'.os, J'.bare, un_freeze ct e0.hok u2, hok_add c2 J'.hok, rv, wi.ok w' _ d ho (ex_freeze e0.hok ct C.cell e1 n2) (a.mono (subH n2))⟩
  · refine wpAny_mono hq (fun _ s'' hq => ?_) fun e' s'' hq => ?_
    · refine cx_freeze ct e0.hok nfr (fun cls d H2 ⟨D, g, d', ho, e1, a⟩ n2 => ?_) hq
      exact wi.er cls d _ D g d' ho (ex_freeze e0.hok ct C.cell e1 n2) (a.mono (subH n2))
    · refine cx_freeze ct e0.hok nfr (fun cls d H2 ⟨D, g, d', ho, e1, a⟩ n2 => ?_) hq
      exact wi.er cls d _ D g d' ho (ex_freeze e0.hok ct C.cell e1 n2) (a.mono (subH n2))
end
end VL

set_option Elab.async false
set_option linter.all false
set_option maxRecDepth 100000
set_option maxHeartbeats 4000000
namespace VL
variable [Tb]
open PySem PySem.Spec PyProof.Rows L2 LamX
/-! ## Lambdas handed on: their cells are told for the call -/
mutual
inductive Up (R : (Hp → Prop) → Addr → Out → Prop) (T : Addr → Out → Hp → Prop) : D → D → Prop
  | same (d : D) : Up R T d d
  | tg {φ : Hp → Prop} {f : Addr} {o : Out} : R φ f o → Up R T (.tg φ f) (.tg (T f o) f)
  | lst {ds ds' : List D} : UpL R T ds ds' → Up R T (.lst ds) (.lst ds')
inductive UpL (R : (Hp → Prop) → Addr → Out → Prop) (T : Addr → Out → Hp → Prop) : List D → List D → Prop
  | nil : UpL R T [] []
  | cons {d d' : D} {ds ds' : List D} : Up R T d d' → UpL R T ds ds' → UpL R T (d :: ds) (d' :: ds')
end
section
variable {K : PySem.W.Frag} {Hs : Hp} {R : (Hp → Prop) → Addr → Out → Prop} {T : Addr → Out → Hp → Prop}
mutual
theorem at_up (h : ∀ φ f o, R φ f o → (∀ H', ExN Hs H' → φ H') → ∀ H', ExN Hs H' → T f o H') : ∀ {d d' : D} {v : V}, Up R T d d' → At K Hs v d → At K Hs v d'
  | _, _, _, .same d, a => a
  | _, _, _, .tg r, a => by
    cases a with
    | tg _ hφ => exact .tg _ (h _ _ _ r hφ)
  | _, _, _, .lst u, a => by
    cases a with
    | lst s t => exact .lst s (atL_up h u t)
theorem atL_up (h : ∀ φ f o, R φ f o → (∀ H', ExN Hs H' → φ H') → ∀ H', ExN Hs H' → T f o H') : ∀ {ds ds' : List D} {vs : List V}, UpL R T ds ds' → AtL K Hs vs ds → AtL K Hs vs ds'
  | _, _, _, .nil, a => a
  | _, _, _, .cons u us, a => by
    cases a with
    | cons a b => exact .cons (at_up h u a) (atL_up h us b)
end
theorem UpL.length : ∀ {ds ds' : List D}, UpL R T ds ds' → ds'.length = ds.length
  | _, _, .nil => rfl
  | _, _, .cons _ t => by rw [List.length_cons, List.length_cons, UpL.length t]
theorem UpL.sames : ∀ ds : List D, UpL R T ds ds
  | [] => .nil
  | d :: ds => .cons (.same d) (UpL.sames ds)
end
/-- the captured names: slot, name, data -/
abbrev Cap := List (Nat × Str × D)
def Cap.names (c : Cap) : List Str := c.map (·.2.1)
def Cap.rho (c : Cap) : Rho := c.map fun p => .dat p.2.2
/-- a lambda of this frame, by its body -/
def LamOk (X : Cx) (n : Nat) (cap : Cap) (φ : Hp → Prop) (f : Addr) (o : Out) : Prop := ∃ (params : Arguments) (body : Expr) (scope : Scope), φ = LamP (X.env.qual ++ "<lambda>") params body scope (cloFrom X.env.cells scope.names []) f ∧ LamS X.env.scope scope ∧
  (∀ y ∈ scope.names, y.2 = .free → y.1 ∈ cap.names) ∧ (∀ q cl pm cv ctv, bindArgs (PySem.W.kla_fn "<lambda>" q params body scope cl pm cv ctv) ⟨[], []⟩ = pure []) ∧
  ∀ (A : Around) (outer : List Env) (s : Shared) (H : Hp) (E : XK) (f c' : Addr) (cl : List (Str × Addr)), A.guards = some [] → Room n (A.deeper (lamEnvF (X.env.qual ++ "<lambda>") scope s.heap.objs.size f c' cl)) →
    XX (lamCxF X.prog X.w X.K X.mg X.base cap.names (X.env.qual ++ "<lambda>") cl A outer s H E scope f c') (fun cls d _ H => E cls d H) body cap.rho o
/-- the captured names stand in cells -/
def CapOk (X : Cx) (ρ : Rho) (cap : Cap) : Prop := ∀ p ∈ cap, X.N[p.1]? = some p.2.1 ∧ ρ[p.1]? = some (.dat p.2.2) ∧ X.env.scope.names.lookup p.2.1 = some .cell
section
variable {X : Cx} {ρ : Rho}
theorem lookup_cons_ne {c : Addr} {o : Obj} {cs : List (Addr × Obj)} {a : Addr} (h : a ≠ c) : ((c, o) :: cs).lookup a = cs.lookup a := by
  have : (a == c) = false := by simpa using h
  simp [List.lookup, this]
theorem lookup_cons_eq {c : Addr} {o : Obj} {cs : List (Addr × Obj)} : ((c, o) :: cs).lookup c = some o := by
  simp [List.lookup]
/-- the cells of some names, with what stands there -/
theorem cells_of {pins : List (Addr × Obj)} {σ : L2.St} {H : Hp} {s : Shared} (I : Inv X pins σ H s) : ∀ N : List Str, (∀ x ∈ N, ∃ c, X.env.cells.lookup x = some c) → ∃ cs : List (Addr × Obj),
    (∀ x ∈ N, ∀ c, X.env.cells.lookup x = some c → ∃ o, cs.lookup c = some o) ∧ ∀ c o, cs.lookup c = some o → (∃ x, X.env.cells.lookup x = some c) ∧ s.heap.get? c = some o ∧ ∃ u, o.data = .cell u
  | [], _ => ⟨[], fun x h => absurd h List.not_mem_nil, fun c o h => by simp at h⟩
  | x :: N, h => by
    obtain ⟨cs, h1, h2⟩ := cells_of I N fun y hy => h y (List.mem_cons_of_mem _ hy)
    obtain ⟨c, hc⟩ := h x (List.mem_cons_self ..)
    obtain ⟨u, o, ho, hd⟩ := I.cell x c hc
    refine ⟨(c, o) :: cs, fun y hy c2 hc2 => ?_, fun c2 o2 h3 => ?_⟩
    · by_cases z : c2 = c
      · rw [z]
        exact ⟨o, lookup_cons_eq⟩
      · rw [lookup_cons_ne z]
        rcases List.mem_cons.mp hy with w | w
        · rw [w, hc] at hc2
          exact absurd (Option.some.inj hc2).symm z
        · exact h1 y w c2 hc2
    · by_cases z : c2 = c
      · rw [z, lookup_cons_eq] at h3
        cases h3
        rw [z]
        exact ⟨⟨x, hc⟩, ho, u, hd⟩
      · rw [lookup_cons_ne z] at h3
        exact h2 c2 o2 h3
theorem clo_look {X : Cx} {scope : Scope} (L : LamS X.env.scope scope) (ok : X.Ok) {y : Str} {c : Addr} (e : (cloFrom X.env.cells scope.names []).lookup y = some c) : X.env.cells.lookup y = some c ∧ (y, NameKind.free) ∈ scope.names := by
  rcases cloFrom_mem (PySem.mem_of_lookup e) with hm | ⟨h1, h2⟩
  · cases hm
  · obtain ⟨c1, hc⟩ := L.has ok _ h1 rfl
    have hc : X.env.cells.lookup y = some c1 := hc
    have e2 : c = c1 := by
      rw [h2, hc] <;> rfl
    rw [e2]
    exact ⟨hc, h1⟩
/-- the lambda's call, when the cells are told -/
theorem lam_act {n : Nat} {cap : Cap} {φ : Hp → Prop} {f : Addr} {o : Out} {pins : List (Addr × Obj)} {σ : L2.St} {H : Hp} {s : Shared} {S : List Addr} {cs : List (Addr × Obj)} (I : Inv X pins σ H s) (E : EnvOk X.K S H σ ρ) (hc : CapOk X ρ cap)
    (c1 : ∀ x ∈ cap.names, ∀ c, X.env.cells.lookup x = some c → ∃ o, cs.lookup c = some o) (c2 : ∀ c o, cs.lookup c = some o → (∃ x, X.env.cells.lookup x = some c) ∧ s.heap.get? c = some o ∧ ∃ u, o.data = .cell u)
    (h : LamOk X n cap φ f o) {Hs : Hp} (e : ExN (hide S (addX cs H)) Hs) (hφ : φ Hs) : Act X.prog X.w X.K X.mg X.base (n + 1) f o Hs := by
  obtain ⟨params, body, scope, rfl, L, hn, hb, hbody⟩ := h
  have csn : ∀ c o, cs.lookup c = some o → H c = none := fun c o z => let ⟨⟨x, hx⟩, _⟩ := c2 c o z; I.freeC x c hx
  have cS : ∀ c o, cs.lookup c = some o → c ∉ S := fun c o z m => by
    obtain ⟨u, q, _⟩ := E.trk.tr c m
    rw [csn c o z] at q
    cases q
  have ct : Ct cs Hs := ⟨fun a o z => e.k a _ (by rw [hide_out (cS a o z)]; exact addX_in z) True.intro⟩
  let σl : L2.St := cap.map fun p => (σ[p.1]?).getD none
  have σat : ∀ (j : Nat) (p : Nat × Str × D), cap[j]? = some p → σl[j]? = some ((σ[p.1]?).getD none) := fun j p hp => by
    show (cap.map _)[j]? = _
    rw [List.getElem?_map, hp]
    rfl
  have nat : ∀ (j : Nat) (x : Str), cap.names[j]? = some x → ∃ p, cap[j]? = some p ∧ p.2.1 = x := fun j x hx => by
    unfold Cap.names at hx
    rw [List.getElem?_map] at hx
    cases q : cap[j]? with
    | none => rw [q] at hx; cases hx
    | some p => rw [q] at hx; exact ⟨p, rfl, Option.some.inj hx⟩
  refine act_of (N := cap.names) (ρ := cap.rho) (σ := σl) (cs := cs) (Hp0 := hide S H) (L := ⟨L.kind, L.co, L.gen, L.own⟩) (fun y hy hf => ?_) (fun pm cv ctv => hb _ _ pm cv ctv) hφ ⟨ct, fun x y c k1 k2 => I.ok.inj x y c (clo_look L I.ok k1).1 (clo_look L I.ok k2).1, fun x c k => ?_, fun c o z => (c2 c o z).2.2⟩ (fun j x v k1 k2 c k3 => ?_) ?_ ?_ (fun j d hd => ?_) (fun j ds hd => ?_) ?_ (fun a x z => ?_) fun A outer s H E c' gd hr => hbody A outer s H E f c' _ gd hr
  · exact mem_lookup (cloFrom_has (cells := X.env.cells) (acc := []) (show (y.1, NameKind.free) ∈ scope.names by rw [← hf]; exact hy))
  · obtain ⟨h1, h2⟩ := clo_look L I.ok k
    obtain ⟨o, h3⟩ := c1 x (hn _ h2 rfl) c h1
    obtain ⟨_, _, u, h4⟩ := c2 c o h3
    exact ⟨o, u, h3, h4⟩
  · obtain ⟨p, hp, rfl⟩ := nat j x k1
    obtain ⟨g1, g2, g3⟩ := hc p (List.mem_of_getElem? hp)
    obtain ⟨h1, h2⟩ := clo_look L I.ok k3
    obtain ⟨o, h3⟩ := c1 p.2.1 (hn _ h2 rfl) c h1
    obtain ⟨_, h5, _⟩ := c2 c o h3
    rw [σat j p hp] at k2
    have hσ : σ[p.1]? = some (some v) := by
      cases q : σ[p.1]? with
      | none => rw [q] at k2; cases k2
      | some w => rw [q] at k2; exact congrArg some (Option.some.inj k2)
    obtain ⟨m, _, hl⟩ := I.loc
    obtain ⟨u, r, q⟩ := hl p.1 p.2.1 v g1 hσ (.inr (.inl g3))
    rcases q with ⟨k', _⟩ | ⟨_, c', e1, o', e2, e3⟩
    · have k' : X.env.scope.names.lookup p.2.1 = some .local := k'
      rw [g3] at k'
      cases k'
    · rw [h1] at e1
      cases e1
      rw [h5] at e2
      cases e2
      exact ⟨o, u, h3, e3, r⟩
  · show (cap.map _).length = (cap.map _).length
    rw [List.length_map, List.length_map]
  · show (cap.map _).length = (cap.map _).length
    rw [List.length_map, List.length_map]
  · unfold Cap.rho at hd
    rw [List.getElem?_map] at hd
    cases q : cap[j]? with
    | none => rw [q] at hd; cases hd
    | some p =>
      rw [q] at hd
      cases hd
      obtain ⟨g1, g2, g3⟩ := hc p (List.mem_of_getElem? q)
      obtain ⟨v, h1, h2⟩ := E.dat p.1 _ g2
      exact ⟨v, by rw [σat j p q, h1]; rfl, h2⟩
  · unfold Cap.rho at hd
    rw [List.getElem?_map] at hd
    cases q : cap[j]? with
    | none => rw [q] at hd; cases hd
    | some p => rw [q] at hd; cases hd
  · exact (hide_exN (ExN.of (ex_add ⟨fun a o z => ⟨(c2 a o z).2.1, csn a o z⟩⟩))).trans e
  · cases q : cs.lookup a with
    | none => rfl
    | some o =>
      have : hide S H a = none := by
        rw [hide_out (cS a o q)]
        exact csn a o q
      rw [this] at z
      cases z
end
section
variable {X : Cx} {ρ : Rho} {e : Expr} {es : List Expr} {pos p : Pos} {k : D → Prop}
theorem xe_callFz {n m j : Nat} {x : Str} {ps : List Str} {C : Con} (F : Fg X.prog X.w X.K X.mg X.base n x ps C) (gd : X.A.guards = some []) (hr : Room m X.A) (cap : Cap) (hc : CapOk X ρ cap) (hfn : ∀ y, X.fn y = true) (hstk : X.stack = X.env :: X.outer)
    (h : XA X (e :: es) ρ fun ds => ∃ ds', UpL (LamOk X j cap) (Act X.prog X.w X.K X.mg X.base (j + 1)) ds ds' ∧ ds'.length = ps.length ∧ C ds' k) (kb : ∀ d, k d → ∃ b, d = .bl b) (hnm : n ≤ m := by decide) (hg : Gl X x := by rfl)
    (hdb : (x == ("__debug__" : Str)) = false := by decide) (he : starEach (e :: es) X.env = (false, eval e X.env) :: starEach es X.env := by rfl) (hpl : (backTo pos (starEach es X.env)).any (·.1) = false := by rfl) :
    XE X (.Call (.Name x p) (e :: es) [] pos) ρ k := by
  obtain ⟨f, fd, h1, h2, h3, h4⟩ := F.ex
  refine ⟨fun pins s σ H Q I ⟨S, E, q⟩ => ?_⟩
  refine wpAny_Call_Name_kw (ld_glob I hg h1 ?_ hdb)
  refine PySem.W.callWith_K (h₀ := X.base) I.ok.mod.kin h2 (thn (anyA.run pos pins s σ H (fun vs H2 => ∃ ds, Ex H H2 ∧ AtL X.K (hide S H2) vs ds ∧ ∃ ds', UpL (LamOk X j cap) (Act X.prog X.w X.K X.mg X.base (j + 1)) ds ds' ∧ ds'.length = ps.length ∧ C ds' k) I ⟨_, h, S, E, fun vs H2 ds e2 a2 hk => ⟨ds, e2, a2, hk⟩⟩) fun us s2 ⟨zs, H2, I2, rz, ds, e2, a2, ds', up, l1, hC⟩ => ⟨I2.kIn, ?_⟩) he hpl
  have E2 := E.mono e2
  obtain ⟨cs, c1, c2⟩ := cells_of I2 cap.names fun y hy => by
    unfold Cap.names at hy
    obtain ⟨p, hp, rfl⟩ := List.mem_map.mp hy
    exact I2.ok.has _ (.inl (hc p hp).2.2)
  have csO : Cs cs H2 s2.heap := ⟨fun a o z => let ⟨⟨y, hy⟩, w1, _⟩ := c2 a o z; ⟨w1, I2.freeC y a hy⟩⟩
  have cAb : ∀ a o, cs.lookup a = some o → X.s_0.heap.objs.size ≤ a := fun a o z => let ⟨⟨y, hy⟩, _⟩ := c2 a o z; I2.ok.cab y a (hfn y) hy
  have cFr : ∀ a o, cs.lookup a = some o → a ∉ frs X.stack := fun a o z hm => by
    rcases List.mem_cons.mp (I2.stkSub a hm) with w | w
    · obtain ⟨⟨y, hy⟩, _⟩ := c2 a o z
      exact I2.cne y a hy w
    · obtain ⟨_, o', ho', _⟩ := I2.ok.funs.mem w
      exact absurd (Nat.lt_of_lt_of_le (Heap.lt_size ho') (cAb a o z)) (Nat.lt_irrefl _)
  have e0 := I2.env0
  have e1 : Env0 X.prog X.w X.K X.mg X.base X.A X.stack s2 (addX cs H2) := ⟨e0.frames, e0.mod, fun b o z => ⟨(e0.bs b o z).1, by
      rw [addX_out (?_ : cs.lookup b = none)]
      · exact (e0.bs b o z).2
      · cases y : cs.lookup b with
        | none => rfl
        | some o' =>
          have w1 := Heap.lt_size z
          exact absurd (Nat.lt_of_lt_of_le w1 (Nat.le_trans I2.ok.bsz (cAb b o' y))) (Nat.lt_irrefl _)⟩, e0.bsz, e0.funs, fun b hb => by
      rw [addX_out (?_ : cs.lookup b = none)]
      · exact e0.frf b hb
      · cases y : cs.lookup b with
        | none => rfl
        | some o' => exact absurd hb (cFr b o' y), hok_add csO e0.hok, e0.bare⟩
  have sub := ex_add (H := H2) csO
  have ad : AtL X.K (hide S (addX cs H2)) zs ds' := atL_up (R := LamOk X j cap) (T := Act X.prog X.w X.K X.mg X.base (j + 1)) (fun φ f o r hφ H' e' => lam_act (n := j) I2 E2 hc c1 c2 r e' (hφ H' e')) up (a2.mono (hide_exN (ExN.of sub)))
  have lz : zs.length = ps.length := by
    rw [a2.length, ← up.length]
    exact l1
  have lu : us.length = ps.length := by rw [← rz.length]; exact lz
  have hb := h3 s2 us I2.kIn (by rw [List.append_nil]; exact lu)
  rw [List.append_nil] at hb
  have tr1 : Trk S (addX cs H2) := E2.trk.mono (Ex.of sub)
  have noext : ∀ a o, cs.lookup a = some o → ∀ H3, Ex (addX cs H2) H3 → H3 a = some (exO a o) := fun a o z H3 e3 => e3.k a _ (addX_in z) True.intro
  refine wpAny_call (codeAny_mono (h4.run X.A X.stack s2 (addX cs H2) ⟨us, []⟩ us zs (fun v H3 => (∀ a o, cs.lookup a = some o → H3 a = some (exO a o)) ∧ ∃ d, Ex (addX cs H2) H3 ∧ At X.K (hide S H3) v d ∧ k d) (fun _ _ _ => False) gd (hr.mono hnm) e1 hb rz ⟨S, ds', k, lz, tr1, ad, hC, fun v H3 d e3 a3 hk => ⟨fun a o z => noext a o z H3 e3, d, e3, a3, hk⟩⟩) fun r s' hq => ?_)
  match r, hq with
  | .error _, hq => exact (show False from hq).elim
  | .ok .next, hq => exact False.elim hq
  | .ok .brk, hq => exact False.elim hq
  | .ok .cont, hq => exact False.elim hq
  | .ok (.ret u), ⟨v, H3, os, bare, un, okE, rE, ext, d, e3, a3, hk⟩ =>
    have ct3 : Ct cs H3 := ⟨ext⟩
    have un2 := un_thaw csO un okE ct3
    have inH : ∀ b o, H2 b = some o → cs.lookup b = none := fun b o z => by
      cases y : cs.lookup b with
      | none => rfl
      | some o' =>
        rw [(csO.at_ b o' y).2] at z
        cases z
    have e4 : Ex H2 (remX cs H3) := by
      refine ⟨⟨fun b o z nt => ?_, fun b o z => ?_⟩, fun p hp t => ?_⟩
      · rw [remX_out (inH b o z)]
        exact e3.k b o (sub b o z) nt
      · rw [remX_out (inH b o z)]
        exact e3.th b o (sub b o z)
      · obtain ⟨ps', t1, t2, t3⟩ := e3.t p hp (t.ext sub)
        obtain ⟨ps0, t0, _⟩ := t
        refine ⟨ps', by rw [remX_out (inH _ _ t0)]; exact t1, t2, fun pos cv hcv => ?_⟩
        obtain ⟨c, w1, w2⟩ := t3 pos cv hcv
        exact ⟨c, w1, by rw [remX_out (code_ncell (o := default) okE ct3 (fun c o z => (c2 c o z).2.2) w2)]; exact w2⟩
    obtain ⟨b, rfl⟩ := kb d hk
    have a4 : At X.K (hide S (remX cs H3)) v (.bl b) := by
      cases a3
      exact .bl b
    exact I2.after ⟨v, remX cs H3, os, bare, un2, hok_rem ct3 okE, rE, q v _ _ (e2.trans e4) a4 hk⟩
end
end VL

set_option Elab.async false
set_option linter.all false
set_option maxRecDepth 100000
set_option maxHeartbeats 4000000
namespace VL
variable [Tb]
open PySem PySem.Spec PyProof.Rows L2 LamX
/-! ## An error is made: C(given), its __init__ stores one field -/
structure ErrC0 (K : PySem.W.Frag) (C : Addr) (B newId initId : String) (bmB : List Value) : Prop where
  base : ExcBaseFacts B newId initId bmB
  st : StoreFacts B bmB "object.__setattr__" "object"
  cl : PySem.W.excInitIn K C bmB newId = true
  ov : PySem.W.excOver K C bmB = true
  hd : PySem.W.hasDictIn K C = true
  sa : PySem.W.findIn K (.ref C) "__setattr__" = some (some (.builtin "object.__setattr__"))
  exC : PySem.W.subIn K (.ref C) (.type "BaseException") = some true
  tyC : PySem.W.typeIn K (.ref C) = some (.type "type")
  kC : PySem.W.keepIn K (.ref C) = true
structure ErrC (K : PySem.W.Frag) (C : Addr) : Prop where
  ex : ∃ B newId initId bmB, ErrC0 K C B newId initId bmB
def errB0 (K : PySem.W.Frag) (C : Addr) (newId : String) (bmB : List Value) : Bool := PySem.W.excInitIn K C bmB newId && (PySem.W.excOver K C bmB && (PySem.W.hasDictIn K C && (decide (PySem.W.findIn K (.ref C) "__setattr__" = some (some (.builtin "object.__setattr__"))) &&
  (decide (PySem.W.subIn K (.ref C) (.type "BaseException") = some true) && (decide (PySem.W.typeIn K (.ref C) = some (.type "type")) && PySem.W.keepIn K (.ref C))))))
def errB (K : PySem.W.Frag) (C : Addr) : Bool := errB0 K C "ValueError.__new__" [.type "ValueError", .type "Exception", .type "BaseException", .type "object"] || errB0 K C "ArithmeticError.__new__" [.type "ArithmeticError", .type "Exception", .type "BaseException", .type "object"]
theorem errB0_ok {K : PySem.W.Frag} {C : Addr} {B newId initId : String} {bmB : List Value} (b : ExcBaseFacts B newId initId bmB) (s : StoreFacts B bmB "object.__setattr__" "object") (h : errB0 K C newId bmB = true) : ErrC0 K C B newId initId bmB := by
  obtain ⟨h1, h⟩ := Bool.and_eq_true_iff.mp h
  obtain ⟨h2, h⟩ := Bool.and_eq_true_iff.mp h
  obtain ⟨h3, h⟩ := Bool.and_eq_true_iff.mp h
  obtain ⟨h4, h⟩ := Bool.and_eq_true_iff.mp h
  obtain ⟨h5, h⟩ := Bool.and_eq_true_iff.mp h
  obtain ⟨h6, h7⟩ := Bool.and_eq_true_iff.mp h
  exact ⟨b, s, h1, h2, h3, of_decide_eq_true h4, of_decide_eq_true h5, of_decide_eq_true h6, h7⟩
theorem errB_ok {K : PySem.W.Frag} {C : Addr} (h : errB K C = true) : ErrC K C := by
  rcases Bool.or_eq_true_iff.mp h with h | h
  · exact ⟨_, _, _, _, errB0_ok F.excBase_ValueError F.store_ValueError h⟩
  · exact ⟨_, _, _, _, errB0_ok F.excBase_ArithmeticError F.store_ArithmeticError h⟩
section
open Builtin Builtin.ObjectAttr PySem.W PySem.Calls PySem.HandSPX
theorem exc_osaB {prog : Program} {w : World} {A : Around} {R : Result → Shared → Prop} {hp : Heap} {g : Array GenState} {d : Drawn} {t : Nat} {os : OsState} {K : Frag} {name : Str} {tk : Tok} {v : Value} {x C : Addr} {fv : Array Value} {B : String} {bmB : List Value}
    (SF : StoreFacts B bmB "object.__setattr__" "object") (X : K.In hp) (hx : hp.get? x = some { cls := .ref C, data := .fields fv }) (ov : excOver K C bmB = true) (hd : hasDictIn K C = true) (ht : takerIn K C name = some none)
    (hq : ∀ h' tk' dx, (∀ b o, b ≠ x → hp.get? b = some o → h'.get? b = some o) → hp.objs.size ≤ dx → dx ≠ x → h'.get? x = some { cls := .ref C, dict := some dx, data := .fields fv } →
      h'.Ns1 dx (fun y => if y = name then some v else none) → R (.ok (.ret .none)) ⟨h', g, d, tk', os⟩) :
    codeAny (model prog w) A (.call (.builtin "object.__setattr__") ⟨[.ref x, .str name tk, v], []⟩) R ⟨hp, g, d, t, os⟩ := by
  have I : InstAt hp x { cls := .ref C, data := .fields fv } C none := ⟨hx, rfl, rfl, trivial⟩
  have hxs : x ≠ hp.objs.size := Nat.ne_of_lt (Heap.lt_size hx)
  obtain ⟨cd, hc, hh⟩ := any_some hd
  have hcls : Looks (model prog w) hp (classData C) cd := looks_clsIn X hc
  refine osa_openX SF X I ov ht fun b => ?_
  show wpAny _ _ (storeInOwnDict (.ref x) (.ref C) (.str name tk) name v b) _ _ _
  obtain ⟨nm, bs, mro, ns, qn, hd, sn, sb, ab, col, del⟩ := cd
  dsimp only at hh
  subst hh
  unfold storeInOwnDict ownDictForStores
  repeat (first | with_reducible refine store_in_new ?_ ?_ | with_reducible refine wpAny_loadPart_at hx ?_ | with_reducible refine hcls.at ?_ | wp_step)
  · exact ⟨_, #[], _, (Heap.get?_update_ne _ _ _ _ hxs.symm).trans (Heap.get?_push_at rfl rfl), rfl, fun e he => absurd he (by simp), fun _ => rfl⟩
  · intro h' tk' hn' hs
    have hx₁ : (hp.push { cls := .type "dict", data := .dict #[] }).get? x = some { cls := .ref C, data := .fields fv } := Heap.get?_push_of_some _ hx
    refine hq h' tk' hp.objs.size (fun b o hb ho => ?_) (Nat.le_refl _) hxs.symm ?_ hn'
    · exact (hs.2 b (Nat.ne_of_lt (Heap.lt_size ho))).trans ((Heap.get?_update_ne _ _ _ _ hb).trans (Heap.get?_push_of_some _ ho))
    · exact (hs.2 x hxs).trans (Heap.get?_update_self _ hx₁ rfl)
end
section
variable {X : Cx} {pins : List (Addr × Obj)} {σ : L2.St} {H : Hp} {s : Shared} {a C : Addr} {f : Str} {y : V} {u : Value} {Q : Unit → Shared → Prop} {E : Value → Shared → Prop} {A : Around}
/-- self.f = y -/
theorem ost_err (T : ErrC X.K C) (I : Inv X pins σ H s) (e : H a = some (exo a C none)) (hno : PySem.W.takerIn X.K C f = some none) (ry : RelV y u)
    (h : ∀ dx s', H dx = none → dx ≠ a → Inv X pins σ (upd (upd H dx (exd dx [(f, y)])) a (exo a C (some dx))) s' → Q () s') : wpAny (model X.prog X.w) A (setAttr (.ref a) f u) Q E s := by
  obtain ⟨B, newId, initId, bmB, T⟩ := T.ex
  obtain ⟨t1, ho⟩ := exo_at I.hok e
  obtain ⟨hp, g, d, t, os⟩ := s
  refine PySem.W.set_plain I.kIn (ox := { cls := .ref C, dict := none, data := .fields #[.ref t1, .none, .none, .none, .bool false, .none] }) (od := none) ⟨ho, rfl, rfl, trivial⟩ T.sa ?_
  refine exc_osaB T.st I.kIn ho T.ov T.hd hno (fun h' tk' dx k dn dne hx hn => ?_)
  have hnd : H dx = none := I.hok.fresh dn
  have nd : ∀ {b : Addr} {o : Obj}, hp.get? b = some o → b ≠ dx := fun {b o} q => Nat.ne_of_lt (Nat.lt_of_lt_of_le (Heap.lt_size q) dn)
  have na : ∀ {b : Addr}, H b = none → b ≠ a := fun {b} n z => by
    rw [z, e] at n
    cases n
  have Un1 : Un X.fs [] H (upd (upd H dx (exd dx [(f, y)])) a (exo a C (some dx))) hp h' := {
    keep := fun b o q n _ _ => k b o (na n) q
    slot := fun b o q n _ _ => ⟨o.slots, k b o (na n) q⟩
    free := fun b o q n _ => by rw [upd_ne (na n), upd_ne (nd q)]; exact n
    there := fun b o q _ => by
      by_cases hb : b = a
      · exact ⟨_, by rw [hb]; exact hx⟩
      · exact ⟨o, k b o hb q⟩
    tups := fun b xs q => by rw [upd_ne (at_ne e q exo_tup), upd_ne (ne_of_none q hnd)]; exact q
    frzs := fun b o v q => by rw [upd_ne (at_ne e q exo_frz), upd_ne (ne_of_none q hnd)]; exact q
    tbls := fun b ps q => ⟨#[], by rw [upd_ne (at_ne e q exo_tbl), upd_ne (ne_of_none q hnd), q]; simp⟩ }
  refine h dx _ hnd dne (I.un (t' := tk') Un1 fun b o q => ?_)
  by_cases hb : b = a
  · subst hb
    rw [upd_same] at q
    cases q
    exact exo_ok hx
  · rw [upd_ne hb] at q
    by_cases hd : b = dx
    · subst hd
      rw [upd_same] at q
      cases q
      exact exd_ok hn (relO_put (fs := []) ry fun g => True.intro)
    · rw [upd_ne hd] at q
      exact (I.hok b o q).stay (fun c v hc z => k c v (by
          rcases hc with hc | hc
          · rw [hc]
            exact hb
          · exact at_ne e hc exo_own) z)
        (fun c hc => by rw [upd_ne (at_ne e hc exo_own), upd_ne (ne_of_none hc hnd)]; exact hc) (fun c xs hc => by rw [upd_ne (at_ne e hc exo_tup), upd_ne (ne_of_none hc hnd)]; exact hc)
def tOstE (K : PySem.W.Frag) (f : Str) (to te : TE) : TS := fun D σ H => te σ H fun y H1 => to σ H1 fun x H2 => ∃ a C : Addr, x = .ref a ∧ ErrC K C ∧ PySem.W.takerIn K C f = some none ∧
  H2 a = some (exo a C none) ∧ ∀ dx, H2 dx = none → dx ≠ a → D.nx σ (upd (upd H2 dx (exd dx [(f, y)])) a (exo a C (some dx)))
theorem ps_ostE {o e : Expr} {to te : TE} {p' pos : Pos} (ho : PE X o to) (he : PE X e te) (hs : swapsWith e (some (.Attribute o f p')) pos.line X.env = pure false := by rfl) : PS X (.Assign [.Attribute o f p'] e pos) (tOstE X.K f to te) := by
  refine ⟨fun pins s σ H D I h => ?_⟩
  refine plainObj_wpAny_Assign_Attribute (thn (he.run pins s σ H _ I h) fun v s1 ⟨y, H1, I1, r1, q1⟩ => thn (ho.run pins s1 σ H1 _ I1 q1) fun u s2 ⟨x, H2, I2, r2, a, C, ex, T, hno, ea, q⟩ => ?_) hs
  subst ex
  obtain rfl : u = Value.ref a := r2
  exact ost_err T I2 ea hno r1 fun dx s' n ne J => ⟨σ, _, J, q dx n ne⟩
end
/-- what an error's __init__ keeps -/
def spE (C : Addr) (f : Str) : Sp := fun vs H Q _ => ∃ a v, vs = [.ref a, v] ∧ H a = some (exo a C none) ∧ ∀ dx, H dx = none → dx ≠ a → Q .non (upd (upd H dx (exd dx [(f, v)])) a (exo a C (some dx)))
structure Er (P : Program) (w : World) (K : PySem.W.Frag) (mg : Str → Option Value) (base : Heap) (k : Nat) (x : Str) (C : Addr) (f : Str) : Prop where
  mgx : mg x = some (.ref C)
  cls : ErrC K C
  tk : PySem.W.takerIn K C f = some none
  init : ∃ fI fd ps, PySem.W.findIn K (.ref C) "__init__" = some (some (.ref fI)) ∧ PySem.W.typeIn K (.ref fI) = some (.type "function") ∧ Binds K fd ps [] ∧ FnOk P w K mg base CX0 k fI fd ps (spE C f)
section
variable {P : Program} {w : World} {K : PySem.W.Frag} {mg : Str → Option Value} {base : Heap}
/-- __init__ by its one row -/
theorem einit {x qual f : Str} {st : Stmt} {g : Addr} {fd : FuncData} {C : Addr} {p1 p2 p3 pos : Pos} {N : List Str} (F : Fun K x qual st g fd) (Sc : FnScope N N (defScope st)) (hN : N = (("self" : Str) :: [f])) (T : ErrC K C) (ht : PySem.W.takerIn K C f = some none)
    (hb : defBody st = [.Assign [.Attribute (.Name "self" p1) f p2] (.Name f p3) pos]) (hs : Vis (defScope st) "self") (hf : Vis (defScope st) f) (f1 : (f == ("__debug__" : Str)) = false) (f2 : (f == ("__classdict__" : Str)) = false)
    (hsw : ∀ (env : Env), swapsWith (.Name f p3) (some (.Attribute (.Name "self" p1) f p2)) pos.line env = pure false) : FnOk P w K mg base CX0 1 g fd N (spE C f) := by
  subst hN
  refine F.ok Sc (fun vs H Q E h => ?_) fun cdv A outer s H vs Q E hr h => ?_
  · obtain ⟨a, v, rfl, _⟩ := h
    rfl
  · rw [hb]
    refine ⟨_, pss_cons (ps_ostE (pe_var (i := 0) rfl hs (by decide) (by decide)) (pe_var (i := 1) rfl hf f1 f2) (hsw _)) pss_nil, ?_⟩
    obtain ⟨a, v, rfl, ha, q⟩ := h
    exact ⟨v, rfl, .ref a, rfl, a, C, rfl, T, ht, ha, q⟩
end
/-- the heap behind: the exception itself isn't told -/
theorem mk_heap {H1 : Hp} {a dx C : Addr} {f : Str} {v : V} (na : H1 a = none) (ne : dx ≠ a) : upd (del (upd (upd (upd H1 a (exo a C none)) dx (exd dx [(f, v)])) a (exo a C (some dx))) a) dx (.xd [(f, v)]) = upd H1 dx (.xd [(f, v)]) := by
  funext b
  by_cases hb : b = dx
  · rw [hb, upd_same, upd_same]
  · rw [upd_ne hb, upd_ne hb]
    by_cases ha : b = a
    · rw [ha, del_same, na]
    · rw [del_ne ha, upd_ne ha, upd_ne hb, upd_ne ha]
def tMkE (C : Addr) (f : Str) (te : TE) : L2.St → Hp → XK → Prop := fun σ H Q => te σ H fun v H1 => ∃ v', [v] = [v'] ∧ ∀ dx, H1 dx = none → Q (.ref C) (some dx) (upd H1 dx (.xd [(f, v')]))
section
variable {X : Cx} {e : Expr} {te : TE} {p pos : Pos} {n m : Nat} {x f : Str} {C : Addr}
theorem pmk_err (R : Er X.prog X.w X.K X.mg X.base n x C f) (hr : Room m X.A) (he0 : PE X e te) (hnm : n + 1 ≤ m := by decide) (hg : Gl X x := by rfl)
    (hdb : (x == ("__debug__" : Str)) = false := by decide) (he : starEach [e] X.env = (false, eval e X.env) :: starEach [] X.env := by rfl) (hpl : (backTo pos (starEach [] X.env)).any (·.1) = false := by rfl) :
    L2N.PMk X (.Call (.Name x p) [e] [] pos) (tMkE C f te) := by
  intro pins s σ H Q I h
  obtain ⟨B, newId, initId, bmB, T⟩ := R.cls.ex
  obtain ⟨fI, fd, ps, iC, tI, hb, F1⟩ := R.init
  refine wpAny_Call_Name_kw (ld_glob I hg R.mgx ?_ hdb)
  refine PySem.W.callWith_K (h₀ := X.base) I.ok.mod.kin T.kC (thn ((pa_cons he0 pa_nil he).run pos pins s σ H (fun vs H1 => ∃ v, vs = [v] ∧ ∀ dx, H1 dx = none → Q (.ref C) (some dx) (upd H1 dx (.xd [(f, v)]))) I h) fun us s1 ⟨vs, H1, I1, r1, v, ev, q1⟩ => ⟨I1.kIn, ?_⟩) he hpl
  subst ev
  show wpAny _ _ (call (.ref C) us) _ _ _
  obtain ⟨nm, N, qn, bs, bm, hdct, sn, sub, ab, col, dd, k0, k1, k2, k3, k5, hC, hT⟩ := PySem.W.excInit_of I1.kIn T.cl
  obtain ⟨hp, g, dr, tk, os⟩ := s1
  have hsz : hp.objs.size ≤ hp.objs.size + 1 := Nat.le_succ _
  have hn : H1 (hp.objs.size + 1) = none := I1.hok.fresh hsz
  have kk : ∀ b o, hp.get? b = some o → ((hp.push (PySem.W.kdv_tup us)).push (PySem.HandSPX.excO C hp.objs.size)).get? b = some o := fun b o e => Heap.get?_push_of_some _ (Heap.get?_push_of_some _ e)
  have hget : ((hp.push (PySem.W.kdv_tup us)).push (PySem.HandSPX.excO C hp.objs.size)).get? (hp.objs.size + 1) = some (PySem.HandSPX.excO C hp.objs.size) := by heap_get
  have I2 : Inv X pins σ (upd H1 (hp.objs.size + 1) (exo (hp.objs.size + 1) C none)) ⟨(hp.push (PySem.W.kdv_tup us)).push (PySem.HandSPX.excO C hp.objs.size), g, dr, tk, os⟩ :=
    I1.laid (t' := tk) (a := hp.objs.size + 1) (o := exo (hp.objs.size + 1) C none) (h' := (hp.push (PySem.W.kdv_tup us)).push (PySem.HandSPX.excO C hp.objs.size)) kk hsz (exo_ok hget)
  have r2 : Vals [V.ref (hp.objs.size + 1), v] (Value.ref (hp.objs.size + 1) :: us) := .cons rfl r1
  have hus : us.length = 1 := by rw [← Paired.length r1]; rfl
  have hq : spE C f [V.ref (hp.objs.size + 1), v] (upd H1 (hp.objs.size + 1) (exo (hp.objs.size + 1) C none)) (fun v2 H2 => v2 = .non ∧ ∃ dx, dx ≠ hp.objs.size + 1 ∧ H1 dx = none ∧ H2 = upd (upd (upd H1 (hp.objs.size + 1) (exo (hp.objs.size + 1) C none)) dx (exd dx [(f, v)])) (hp.objs.size + 1) (exo (hp.objs.size + 1) C (some dx))) (fun _ _ _ => False) :=
    ⟨_, v, rfl, upd_same, fun dx nd ne => ⟨rfl, dx, ne, by rw [upd_ne ne] at nd; exact nd, rfl⟩⟩
  have lp : ps.length = 2 := by rw [← F1.len _ _ _ _ hq]; rfl
  have b2 := hb ⟨(hp.push (PySem.W.kdv_tup us)).push (PySem.HandSPX.excO C hp.objs.size), g, dr, tk, os⟩ (Value.ref (hp.objs.size + 1) :: us) I2.kIn (by rw [List.append_nil, List.length_cons, hus, lp])
  rw [List.append_nil] at b2
  refine wpAny_call (PySem.HandSPX.call_own T.base hT hC (PySem.W.looks_findIn I1.kIn iC) (fun self => PySem.W.bind_fn I1.kIn self tI) (by rw [hus, sizeLine_eq]; omega)
    (codeAny_mono (F1.run _ X.stack _ _ ⟨Value.ref (hp.objs.size + 1) :: us, []⟩ (Value.ref (hp.objs.size + 1) :: us) _ _ (fun _ _ _ => False) ((hr.mono hnm).make C us []) (I2.env0.make C us []) b2 r2 hq) fun r s' hq' => ?_))
  match r, hq' with
  | .error er, hq' => exact (show False from hq').elim
  | .ok .next, hq' => exact False.elim hq'
  | .ok .brk, hq' => exact False.elim hq'
  | .ok .cont, hq' => exact False.elim hq'
  | .ok (.ret u), ⟨v2, H2, os2, bare2, un2, hok2, rv, ev, dx, ne, nd, e2⟩ =>
    subst ev
    obtain ⟨h2, g2, d2, t2, os'⟩ := s'
    have ea : H2 (hp.objs.size + 1) = some (exo (hp.objs.size + 1) C (some dx)) := by rw [e2, upd_same]
    have ed : H2 dx = some (exd dx [(f, v)]) := by rw [e2, upd_ne ne, upd_same]
    obtain ⟨t0, G, J, kG, ge, hoe, na⟩ := mk_end0 (d2 := d2) (t2 := t2) I1 hsz kk un2 hok2 os2 bare2 ea ed nd
    have eH : upd (del H2 (hp.objs.size + 1)) dx (.xd [(f, v)]) = upd H1 dx (.xd [(f, v)]) := by
      rw [e2]
      exact mk_heap hn ne
    rw [eH] at J na
    exact ⟨rv, hp.objs.size + 1, _, _, ⟨G, g2, d2, t2, os'⟩, _, .ref C, some dx, rfl, J, kG, ge, hoe, ⟨rfl, rfl, fun vs hv => by cases hv; rfl⟩, rfl, rfl, na, rfl, bare2, raises_own T.exC T.tyC, q1 dx nd⟩
end
end VL

set_option Elab.async false
set_option linter.all false
set_option maxRecDepth 100000
set_option maxHeartbeats 4000000
namespace VL
variable [Tb]
open PySem PySem.Spec PyProof.Rows L2 LamX
/-! ## Defs that may raise -/
abbrev ConX := List D → Out → Prop
def spX (K : PySem.W.Frag) (n : Nat) (C : ConX) : Sp := fun vs H Q E => ∃ S ds o, vs.length = n ∧ Trk S H ∧ AtL K (hide S H) vs ds ∧ C ds o ∧ Wish K S H o Q E
def wE (E : XK) : WX := fun cls d _ H => E cls d H
structure Air (X : Cx) (E : XK) : Prop where
  tk : L2N.Takes X (wE E)
  calm : X.calm = true
/-- what becomes of an outcome within -/
def OkE (o' o : Out) (P : D → Prop) : Prop := match o' with
  | .ok d => P d
  | .err C f d => o = .err C f d
structure FitO (K : PySem.W.Frag) (S0 : List Addr) (H0 : Hp) (o : Out) (E : XK) (En : Ends) : Prop where
  nx : o = .ok .non → ∀ σ H, Ex H0 H → En.nx σ H
  rt : ∀ v H d, o = .ok d → Ex H0 H → At K (hide S0 H) v d → En.rt v H
  er : ∀ cls dct H C f d, o = .err C f d → Ex H0 H → ErrAt K (hide S0 H) cls dct C f d → E cls dct H
def XZ (X : Cx) (E : XK) (sts : List Stmt) (ρ : Rho) (o : Out) : Prop := ∀ S0 H0, Trk S0 H0 → PSs X sts fun En σ H => StOk X.K S0 H0 H σ ρ ∧ FitO X.K S0 H0 o E En
section
variable {X : Cx} {E : XK} {ρ : Rho} {o o' : Out} {e c : Expr} {es : List Expr} {st : Stmt} {rest sts p q : List Stmt} {pos pos' : Pos}
theorem useX {W : WX} {S : List Addr} {H : Hp} {σ : L2.St} {Q : VK} (h : XX X W e ρ o) (EN : EnvOk X.K S H σ ρ) (q : ∀ v H2 d, o = .ok d → Ex H H2 → At X.K (hide S H2) v d → Q v H2)
    (r : ∀ cls dct H2 C f d, o = .err C f d → Ex H H2 → ErrAt X.K (hide S H2) cls dct C f d → W cls dct σ H2) : aE X e σ H Q := ⟨_, h, S, EN, q, r⟩
theorem xz_nil (h : o = .ok .non) : XZ X E [] ρ o := fun S0 H0 tr => impSs pss_nil fun En σ H ⟨⟨_, _, _, _, e, _⟩, f⟩ => f.nx h σ H e
theorem xz_cons (h : XS X st ρ { nx := fun ρ' => XZ X E rest ρ' o, rt := fun d => o = .ok d }) : XZ X E (st :: rest) ρ o := fun S0 H0 tr =>
  impSs (pss_cons anyS anySs) fun En σ H ⟨ok, f⟩ => ⟨_, h S0 H0 tr, ok, ⟨fun σ' H' ρ' ok' hb => ⟨_, hb S0 H0 tr, ok', f⟩, fun v H d e a ho => f.rt v H d ho e a, fun _ _ _ _ z => z.elim, fun _ _ _ _ z => z.elim⟩⟩
theorem xz_ret (h : XX X (wE E) e ρ o) : XZ X E (.Return (some e) pos :: rest) ρ o := fun S0 H0 tr =>
  impSs (pss_cons (ps_ret anyE) anySs) fun En σ H ⟨⟨S, h1, h2, h3, h4, EN⟩, f⟩ => useX h EN (fun v H2 d ho e2 a => f.rt v H2 d ho (h4.trans e2) (a.mono (hide_sub h1)))
    fun cls dct H2 C fl d ho e2 er => f.er cls dct H2 C fl d ho (h4.trans e2) (er.mono (hide_sub h1))
/-- an expression as a statement that may raise -/
theorem xz_expr (h : XX X (wE E) e ρ o') (hk : OkE o' o fun _ => XZ X E rest ρ o) (hs : swapsWith e none pos.line X.env = pure false := by rfl) : XZ X E (.Expr e pos :: rest) ρ o := fun S0 H0 tr =>
  impSs (pss_cons (ps_expr anyE hs) anySs) fun En σ H ⟨⟨S, h1, h2, h3, h4, EN⟩, f⟩ => useX h EN (fun v H2 d ho e2 a => by
      subst ho
      exact ⟨_, hk S0 H0 tr, ⟨S, h1, h2, h3, h4.trans e2, EN.mono e2⟩, f⟩)
    fun cls dct H2 C fl d ho e2 er => by
      subst ho
      exact f.er cls dct H2 C fl d hk (h4.trans e2) (er.mono (hide_sub h1))
/-- if c: .. that doesn't come out behind it -/
theorem xz_if (h : XT X c ρ fun b => if b = true then o ≠ .ok .non ∧ XZ X E p ρ o else XZ X E rest ρ o) : XZ X E (.If c p [] pos :: rest) ρ o := fun S0 H0 tr =>
  impSs (pss_cons (ps_if anyT anySs anySs) anySs) fun En σ H ⟨⟨S, h1, h2, h3, h4, EN⟩, f⟩ => useT h EN fun b H2 e2 hk => by
    have ok : StOk X.K S0 H0 H2 σ ρ := ⟨S, h1, h2, h3, h4.trans e2, EN.mono e2⟩
    cases b with
    | true =>
      obtain ⟨no, hk⟩ := hk
      exact ⟨_, hk S0 H0 tr, ok, fun z => absurd z no, f.rt, f.er⟩
    | false => exact ⟨_, pss_nil, ⟨_, hk S0 H0 tr, ok, f⟩⟩
theorem xz_raise {n m : Nat} {x fl : Str} {C : Addr} {pe : Pos} (A : Air X E) (R : Er X.prog X.w X.K X.mg X.base n x C fl) (hr : Room m X.A) (h : XE X e ρ fun d => o = .err C fl d) (hnm : n + 1 ≤ m := by decide) (hg : Gl X x := by rfl)
    (hdb : (x == ("__debug__" : Str)) = false := by decide) (he : starEach [e] X.env = (false, eval e X.env) :: starEach [] X.env := by rfl) (hpl : (backTo pos (starEach [] X.env)).any (·.1) = false := by rfl) :
    XZ X E (.Raise (some (.Call (.Name x pe) [e] [] pos)) none pos' :: rest) ρ o := fun S0 H0 tr =>
  impSs (pss_cons (L2N.ps_raise A.calm A.tk (pmk_err R hr anyE hnm hg hdb he hpl)) anySs) fun En σ H ⟨⟨S, h1, h2, h3, h4, EN⟩, f⟩ => useE h EN fun v H2 d e2 a hk => ⟨v, rfl, fun dx nd => by
    have nS : dx ∉ S := hide_new (EN.mono e2).trk nd
    refine f.er _ _ _ C fl d hk (h4.trans (e2.trans (Ex.new nd))) ⟨rfl, dx, [(fl, v)], v, rfl, ?_, by simp, (a.mono (hide_sub h1)).mono (hide_ex (Ex.new nd))⟩
    rw [hide_out fun z => nS (h1 dx z), upd_same]⟩
end
structure Fx (P : Program) (w : World) (K : PySem.W.Frag) (mg : Str → Option Value) (base : Heap) (k : Nat) (x : Str) (ps : List Str) (C : ConX) : Prop where
  ex : ∃ f fd, mg x = some (.ref f) ∧ PySem.W.keepIn K (.ref f) = true ∧ Binds K fd ps [] ∧ FnOk P w K mg base (L2N.CX P w) k f fd ps (spX K ps.length C)
structure FxK (P : Program) (w : World) (K : PySem.W.Frag) (mg : Str → Option Value) (base : Heap) (k : Nat) (x : Str) (ps ks : List Str) (is : List Nat) (C : ConX) : Prop where
  ex : ∃ f fd, mg x = some (.ref f) ∧ PySem.W.keepIn K (.ref f) = true ∧ (∀ (s : Shared) (ws : List Value), K.In s.heap → ws.length = ks.length → BindsTo s fd ⟨[], ks.zip ws⟩ (ps.zip (pick is ws))) ∧ FnOk P w K mg base (L2N.CX P w) k f fd ps (spX K ps.length C)
section
variable {P : Program} {w : World} {K : PySem.W.Frag} {mg : Str → Option Value} {base : Heap}
theorem Fx.imp {k : Nat} {x : Str} {ps : List Str} {C C' : ConX} (F : Fx P w K mg base k x ps C) (h : ∀ ds k, ds.length = ps.length → C' ds k → C ds k) : Fx P w K mg base k x ps C' :=
  let ⟨f, fd, h1, h2, h3, h4⟩ := F.ex
  ⟨f, fd, h1, h2, h3, h4.imp fun vs H Q E ⟨S, ds, k, hl, tr, a, hc, q⟩ => ⟨S, ds, k, hl, tr, a, h ds k (by rw [← a.length]; exact hl) hc, q⟩⟩
/-- a def by its body -/
theorem xdefX {x qual : Str} {st : Stmt} {f : Addr} {fd : FuncData} {N ps : List Str} {n : Nat} {C : ConX} (F : Fun K x qual st f fd) (Sc : FnScope N ps (defScope st))
    (body : ∀ (ds : List D) (o : Out), ds.length = ps.length → C ds o → ∀ (cdv : Value) (A : Around) (outer : List Env) (s : Shared) (H : Hp) (E : XK), Room n (A.deeper (PyProof.Rows.envOfC qual (defScope st) s.heap.objs.size f cdv)) →
      Air (cxOf (L2N.CX P w) P w K mg base N qual (defScope st) f cdv A outer s H E) E → XZ (cxOf (L2N.CX P w) P w K mg base N qual (defScope st) f cdv A outer s H E) E (defBody st) (startR N.length ds) o) : FnOk P w K mg base (L2N.CX P w) (n + 1) f fd ps (spX K ps.length C) := by
  have hpl : ps.length ≤ N.length := by
    have := congrArg List.length Sc.pre
    rw [List.length_take] at this
    omega
  obtain ⟨oc, od, kV, doc, pm, an, cdv, ct, osl, rfl, lk, hcd⟩ := F.ex
  refine fn_of lk hcd Sc (fun vs H Q E h => ?_) fun A outer s H vs Q E hr h => ?_
  · obtain ⟨_, _, _, hl, _⟩ := h
    exact hl
  · obtain ⟨S, ds, o, hl, tr, a, hc, wi⟩ := h
    have hb := body ds o (by rw [← a.length]; exact hl) hc cdv A outer s H E hr ⟨L2N.takes_of rfl rfl rfl rfl, rfl⟩
    refine ⟨_, hb S H tr, start_ok tr (by omega) a, fun ho σ' H' e => wi.ok _ _ _ ho e .non, fun v H' d ho e at_ => wi.ok v H' d ho e at_, fun cls dct H2 C f d ho e er => wi.er cls dct H2 C f d ho e er⟩
theorem lam_air {N : List Str} {q : Str} {cl : List (Str × Addr)} {A : Around} {outer : List Env} {s : Shared} {H : Hp} {E : XK} {scope : Scope} {f c' : Addr} : Air (lamCxF P w K mg base N q cl A outer s H E scope f c') E := ⟨L2N.takes_of rfl rfl rfl rfl, rfl⟩
end
section
variable {X : Cx} {E : XK} {ρ : Rho} {o o' : Out} {a e : Expr} {es : List Expr} {kws : List Keyword} {pos p : Pos}
theorem xx_call {n m : Nat} {x : Str} {ps : List Str} {C : ConX} (A : Air X E) (F : Fx X.prog X.w X.K X.mg X.base n x ps C) (hr : Room m X.A) (h : XA X (e :: es) ρ fun ds => ds.length = ps.length ∧ C ds o) (hnm : n ≤ m := by decide) (hg : Gl X x := by rfl)
    (hdb : (x == ("__debug__" : Str)) = false := by decide) (he : starEach (e :: es) X.env = (false, eval e X.env) :: starEach es X.env := by rfl) (hpl : (backTo pos (starEach es X.env)).any (·.1) = false := by rfl) :
    XX X (wE E) (.Call (.Name x p) (e :: es) [] pos) ρ o := by
  obtain ⟨f, fd, h1, h2, h3, h4⟩ := F.ex
  refine impE (pe_call (E := E) h4 (hr.mono hnm) hg h1 h2 h3 .nil (L2N.passes_call A.tk fun _ _ _ _ z => z) anyA hdb he hpl) fun σ H Q ⟨S, EN, q, r⟩ => useA h EN fun vs H1 ds e1 a1 ⟨hl, hc⟩ => ?_
  rw [List.append_nil]
  exact ⟨S, ds, o, by rw [a1.length]; exact hl, (EN.mono e1).trk, a1, hc, fun v H2 d ho e2 a2 => q v H2 d ho (e1.trans e2) a2, fun cls dct H2 C f d ho e2 er => r cls dct H2 C f d ho (e1.trans e2) er⟩
theorem xx_kw {n m : Nat} {x : Str} {ps ks : List Str} {is : List Nat} {C : ConX} (A : Air X E) (F : FxK X.prog X.w X.K X.mg X.base n x ps ks is C) (hr : Room m X.A) (h : XK' X kws ρ fun ds => ds.length = ks.length ∧ (pick is ds).length = ps.length ∧ C (pick is ds) o) (hnm : n ≤ m := by decide) (hg : Gl X x := by rfl)
    (hall : (backToKw pos (keywordEach kws X.env)).all (·.1.isSome) = true := by rfl) (hks : (backToKw pos (keywordEach kws X.env)).filterMap (·.1) = ks := by rfl)
    (hdb : (x == ("__debug__" : Str)) = false := by decide) (hpl : ((backTo pos (starEach [] X.env)).any (·.1) || (backToKw pos (keywordEach kws X.env)).any (·.1.isNone)) = false := by rfl) :
    XX X (wE E) (.Call (.Name x p) [] kws pos) ρ o := by
  obtain ⟨f, fd, h1, h2, h3, h4⟩ := F.ex
  refine ⟨fun pins s σ H Q I ⟨S, EN, q, r⟩ => ?_⟩
  refine wpAny_Call_Name_kw (ld_glob I hg h1 ?_ hdb)
  refine PySem.W.callWith_KW0 (h₀ := X.base) I.ok.mod.kin h2 hall ?_ hpl
  refine thn (anyK.run pos pins s σ H (fun vs H2 => ∃ ds, Ex H H2 ∧ AtL X.K (hide S H2) vs ds ∧ ds.length = ks.length ∧ (pick is ds).length = ps.length ∧ C (pick is ds) o) I ⟨_, h, S, EN, fun vs H2 ds e2 a2 hk => ⟨ds, e2, a2, hk⟩⟩) fun ws s2 ⟨zs, H2, I2, rz, ds, e2, a2, l1, l2, hc⟩ => ⟨I2.kIn, ?_⟩
  rw [hks]
  have lw : ws.length = ks.length := by rw [← rz.length, a2.length]; exact l1
  have ap := a2.pick is
  refine wpAny_call (codeAny_mono (h4.run X.A X.stack s2 H2 ⟨[], ks.zip ws⟩ (pick is ws) (pick is zs) Q E (hr.mono hnm) I2.env0 (h3 s2 ws I2.kIn lw) (vals_pick rz is) ⟨S, pick is ds, o, by rw [ap.length]; exact l2, (EN.mono e2).trk, ap, hc, fun v H3 d ho e3 a3 => q v H3 d ho (e2.trans e3) a3, fun cls dct H3 C f d ho e3 er => r cls dct H3 C f d ho (e2.trans e3) er⟩) fun r s' hq => ?_)
  match r, hq with
  | .error er, hq => exact L2N.passes_call A.tk (fun _ _ _ _ z => z) pins σ H2 s2 er s' I2 hq
  | .ok (.ret u), hq => exact I2.after hq
  | .ok .next, hq => exact False.elim hq
  | .ok .brk, hq => exact False.elim hq
  | .ok .cont, hq => exact False.elim hq
/-- a property of what may raise -/
theorem xx_prop {W : WX} {f : Str} {C pa g : Addr} {n m : Nat} {s : Str} {Cn : Con} (sc : SlX.SCls X.K C) (pr : PropAt X.K C f pa g) (F : FnA X.prog X.w X.K X.mg X.base n g [s] Cn) (hr : Room m X.A) (h : XX X W a ρ o') (hk : OkE o' o fun d => ∃ ds, d = .obj C ds ∧ Cn [d] fun d' => o = .ok d') (hnm : n + 1 ≤ m := by decide)
    (hb : attributeBase a f X.env (eval a X.env) = eval a X.env := by rfl) : XX X W (.Attribute a f pos) ρ o :=
  impE (SlX.pe_propSl (E := fun _ _ _ => False) anyE sc pr.at_ pr.get pr.tk pr.rc F.raw (hr.mono hnm) (fun _ _ _ _ h => h) hb) fun σ H Q ⟨S, EN, q, r⟩ => useX h EN (fun v H1 d ho e1 a1 => by
      subst ho
      obtain ⟨ds, hd, hc⟩ := hk
      subst hd
      have a1' := a1
      obtain ⟨x, dx, vs, rfl, h1, h2⟩ := a1.inv_obj
      exact ⟨x, dx, vs.map some, rfl, ex_s hide_le h1, S, _, _, rfl, (EN.mono e1).trk, .cons a1' .nil, hc, fun v H2 d2 e2 a2 hk => q v H2 d2 hk (e1.trans e2) a2⟩)
    fun cls dct H2 Ce fe d ho e2 er => by
      subst ho
      exact r cls dct H2 Ce fe d hk e2 er
end
end VL

set_option Elab.async false
set_option linter.all false
set_option maxRecDepth 100000
set_option maxHeartbeats 4000000
/-! ## isinstance of a caught error that has a dict -/
namespace PySem.W
open PySem PySem.Spec PySem.Calls PyProof.Rows
section
variable {prog : Program} {w : World} {A : Around} {E : Value → Shared → Prop} {s : Shared} {K : Frag} {x D : Addr} {ox : Obj} {od : Option Obj}
theorem vl_findD {C : Addr} {name : Str} {a g : Value} (hc : (clsIn K C).isSome = true) (ha : findIn K (.ref C) name = some (some a)) (hg : specialIn K a "__get__" = some (some g)) (ht : takesIn K a = some true) : findObj K C od name = some (.bind g a) := by
  obtain ⟨cd, hc⟩ := Option.isSome_iff_exists.mp hc
  unfold findObj
  rw [hc, Option.bind_some, ha, Option.bind_some]
  simp [hg, ht]
theorem vl_classD {Q : Option Value → Shared → Prop} (C : L2.ExcC K D) (X : K.In s.heap) (I : InstAt s.heap x ox D od) (h : Q (some (.ref D)) { s with toks := s.toks + 1 }) : wpAny (model prog w) A (getAttr? (.ref x) "__class__") Q E s := by
  have cl : (clsIn K D).isSome = true := by
    obtain ⟨cd, hc, _⟩ := any_some C.hd
    rw [hc]
    rfl
  have hf : findObj K D od "__class__" = some (.bind (.builtin "getset_descriptor.__get__") (.builtin "object.__class__")) := vl_findD cl C.ha C.hn C.ht
  obtain ⟨hp, g, d, t, os⟩ := s
  have L0 := I.type (M := model prog w)
  have L1 := looks_findIn (M := model prog w) X C.hg
  have L2 := looks_findIn (M := model prog w) X C.hk
  have L3 := looks_find (M := model prog w) X I hf
  have sub : Looks (model prog w) hp (isInstance (.ref x) (.type "BaseException")) true := L0.andThen (looks_subIn X C.hs)
  have n0 : (false && onTheHeap (Value.builtin "BaseException.__getattribute__")) = false := rfl
  have n2 : (Value.builtin "BaseException.__getattribute__" == Value.builtin "object.__getattribute__") = false := by decide +kernel
  have n1 : (onTheHeap (Value.ref D) && Value.builtin "BaseException.__getattribute__" == Value.builtin "object.__getattribute__") = false := by rw [n2]; rfl
  unfold getAttr? getAttrBy? getAttrBy
  refine wpAny_bind (wpAny_mkText (wpAny_bind (wpAny_attempt (wpAny_holding (wpAny_bind (L0.at (wpAny_bind (L1.at ?_))))))))
  show wpAny _ _ (if (onTheHeap (Value.ref D) && Value.builtin "BaseException.__getattribute__" == Value.builtin "object.__getattribute__") = true then _ else _) _ _ _
  rw [n1, if_neg Bool.false_ne_true]
  unfold getAttrByItsOwn hookBefore
  refine wpAny_bind ?_
  rw [if_pos (show onTheHeap (Value.ref D) = true from rfl)]
  refine L2.at ?_
  refine wpAny_bind (wpAny_attempt (wpAny_holding ?_))
  unfold callGetattribute
  rw [n0, if_neg Bool.false_ne_true]
  unfold boundAndCalled
  rw [PySem.F.excAttr_ValueError.ga.bind (.ref x)]
  refine wpAny_bind (wpAny_pure ?_)
  show wpAny _ _ (call (.builtin "BaseException.__getattribute__") [.ref x, .str "__class__" t]) _ _ _
  refine wpAny_call (codeAny_call_builtin PySem.F.excAttr_ValueError.ga.plain PySem.F.entry_bexc_ga ?_)
  refine @check_slot (model prog w) _ _ ⟨hp, g, d, t + 1, os⟩ "BaseException.__getattribute__" "BaseException" "__getattribute__" (.ref x) [.str "__class__" t] [] _ (by decide +kernel) (by decide +kernel) sub (PySem.F.args_bexc_ga (.ref x) (.str "__class__" t)) ?_
  unfold Builtin.«object.__getattribute__»
  refine wpAny_bind (wpAny_of_eq (a := ((Value.ref x : Value), [Value.str "__class__" t])) (by first | rfl | (simp only [slotArgs]; rfl)) ?_)
  refine wpAny_bind (wpAny_pure (wpAny_bind (L0.at (wpAny_bind (L3.at ?_)))))
  show wpAny _ _ (holding [Value.builtin "object.__class__"] (call (.builtin "getset_descriptor.__get__") [.builtin "object.__class__", .ref x, .ref D]) >>= ret) _ _ _
  refine wpAny_bind (wpAny_holding (wpAny_call (class_get (s := ⟨hp, g, d, t + 1, os⟩) (ox := ox) (od := od) X I C.hm ?_)))
  refine wpAny_pure ?_
  show wpAny _ _ (handedOut (.ref D)) _ _ _
  rw [handedOut_of (v := .ref D) rfl]
  first
    | exact wpAny_pure (wpAny_pure h)
    | exact wpAny_pure h
    | exact wpAny_pure (wpAny_bind (wpAny_pure (wpAny_pure h)))
theorem vl_kitx (C : L2.ExcC K D) : KitX K (.ref x) (.ref D) (fun h => InstAt h x ox D od) where
  ty := fun _ _ _ I => I.type
  it := fun _ _ X _ => by
    obtain ⟨cd, hc, _⟩ := any_some C.hd
    unfold clsIn at hc
    split at hc
    · rename_i c' d' cd' sl' ho
      intro A' Q' E' s' k q
      unfold isType loadHead
      exact wpAny_bind (wpAny_loadPart (k _ _ (X _ _ ho)) (wpAny_pure q))
    · cases hc
  ne := fun h tp dd its n sl X htp => by
    obtain ⟨cd, hc, _⟩ := any_some C.hd
    refine Bool.eq_false_iff.mpr fun q => ?_
    have e : D = tp := Value.ref.inj (beq_iff_eq.mp q)
    subst e
    unfold clsIn at hc
    split at hc
    · rename_i c' d' cd' sl' ho
      have z := (X _ _ ho).symm.trans htp
      cases z
    · cases hc
  ca := fun X I k => vl_classD C X I k
end
end PySem.W
namespace VL
variable [Tb]
open PySem PySem.Spec PyProof.Rows L2 LamX
/-- where the caught error's suite runs -/
structure Sui (X X0 : Cx) (a : Addr) (oe : Obj) (pn : List (Addr × Obj)) (C dd : Addr) : Prop where
  eq : X = X0.suite a ((a, oe) :: pn)
  z : Zc (.ref C) (some dd) oe
  fl : ∃ vs, oe.data = .fields vs
def errD (K : PySem.W.Frag) (C dd : Addr) (f : Str) (d : D) (a : Addr) : D := .tg (fun H => ErrAt K H (.ref C) (some dd) C f d) a
section
variable {X X0 : Cx} {a C dd : Addr} {oe : Obj} {pn : List (Addr × Obj)} {ρ : Rho} {k : D → Prop} {pos : Pos}
theorem dct_at {P : Program} {w : World} {H : Hp} {h : Heap} {dd : Addr} {fs : List (Str × V)} (ok : HOk P w H h) (e : H dd = some (.xd fs)) : ∃ od, h.get? dd = some od := by
  obtain ⟨mA, hns, _⟩ := ok dd _ e
  obtain ⟨o, _, _, ho, _⟩ := hns
  exact ⟨o, ho⟩
def rIsD (K : PySem.W.Frag) (C a dd : Addr) : List V → Hp → VK → Prop := fun xs H Q => ∃ (c : V) (cv : Value) (b : Bool), xs = [.ref a, c] ∧ (∀ u, RelV c u → u = cv) ∧ PySem.W.kitOne K (.ref C) cv = some b ∧ (∃ fs, H dd = some (.xd fs)) ∧ Q (.bl b) H
theorem call_isD (Su : Sui X X0 a oe pn C dd) (c : ExcC X.K C) : CallR X (.builtin "isinstance") (rIsD X.K C a dd) := by
  have e := Su.eq
  subst e
  intro pins s σ H xs us Q I r h
  obtain ⟨c, cv, b, rfl, hcv, e, ⟨fs, hdd⟩, q⟩ := h
  cases r with
  | cons rx rr =>
    cases rr with
    | cons rt rr =>
      cases rr
      cases rx
      have ec := hcv _ rt
      subst ec
      obtain ⟨hget, _⟩ := I.pin (a, oe) (List.mem_append.mpr (.inl List.mem_cons_self))
      obtain ⟨vs, hv⟩ := Su.fl
      obtain ⟨od, hod⟩ := dct_at I.hok hdd
      have J : PySem.W.InstAt s.heap a oe C (some od) := by
        obtain ⟨oc, odc, oda, osl⟩ := oe
        obtain ⟨h1, h2⟩ := Su.z
        dsimp only at h1 h2 hv
        subst h1 h2 hv
        exact ⟨hget, rfl, rfl, hod⟩
      exact PySem.W.kia_one (PySem.W.vl_kitx ‹_›) I.kIn J e (fun z => nomatch z) fun tk => ⟨.bl b, H, I.kept (t' := tk) fun _ _ z => z, rfl, q⟩
end
end VL

set_option Elab.async false
set_option linter.all false
set_option maxRecDepth 100000
set_option maxHeartbeats 4000000
namespace VL
variable [Tb]
open PySem PySem.Spec PyProof.Rows L2 LamX
section
variable {X X0 : Cx} {a C dd : Addr} {oe : Obj} {pn : List (Addr × Obj)} {ρ : Rho} {k : D → Prop} {pos p p2 : Pos} {e : Expr}
theorem errD_at {K : PySem.W.Frag} {H : Hp} {v : V} {f : Str} {d : D} (h : At K H v (errD K C dd f d a)) : v = .ref a ∧ ∃ fs v', H dd = some (.xd fs) ∧ fs.lookup f = some v' ∧ At K H v' d := by
  unfold errD at h
  cases h with
  | tg _ hφ =>
    obtain ⟨_, d', fs, v', h1, h2, h3, h4⟩ := hφ H (ExN.refl H)
    cases h1
    exact ⟨rfl, fs, v', h2, h3, h4⟩
theorem hid_get {S : List Addr} {H : Hp} {b : Addr} {o : HO} (h : hide S H b = some o) : H b = some o := by
  by_cases m : b ∈ S
  · rw [hide_in m] at h
    cases h
  · rwa [hide_out m] at h
theorem xe_isD (Su : Sui X X0 a oe pn C dd) (c : ExcC X.K C) (hm : X.mg "isinstance" = none) {x : Str} {D0 : Addr} (hmC : X.mg x = some (.ref D0)) (h : XE X e ρ fun d => (∃ f d0, d = errD X.K C dd f d0 a) ∧ ∃ b, PySem.W.kitOne X.K (.ref C) (.ref D0) = some b ∧ k (.bl b))
    (hg : Gl X "isinstance" := by rfl) (hgT : Gl X x := by rfl) (hdT : (x == ("__debug__" : Str)) = false := by decide)
    (he : starEach (e :: .Name x p2 :: []) X.env = (false, eval e X.env) :: starEach [.Name x p2] X.env := by rfl) (he2 : starEach (.Name x p2 :: []) X.env = (false, eval (.Name x p2) X.env) :: starEach [] X.env := by rfl) (hpl : (backTo pos (starEach [.Name x p2] X.env)).any (·.1) = false := by rfl) :
    XE X (.Call (.Name "isinstance" p) [e, .Name x p2] [] pos) ρ k :=
  impE (pe_callB (call_isD Su c) hg hm (by decide +kernel) (pa_cons anyE (pa_cons (pe_glob hgT hmC (v := .ref D0) rfl hdT) pa_nil he2) he) (by decide) (by decide) he hpl) fun σ H Q ⟨S, E, q⟩ => useE h E fun v H1 d e1 a1 ⟨⟨f, d0, hd⟩, b, hb, hk⟩ => by
    subst hd
    obtain ⟨rfl, fs, v', h1, h2, h3⟩ := errD_at a1
    exact ⟨.ref D0, .ref D0, b, rfl, fun w r => r, hb, ⟨fs, hid_get h1⟩, q _ _ _ e1 (.bl b) hk⟩
theorem xe_errF (Su : Sui X X0 a oe pn C dd) (T : XfC X.K C) {n : Str} (hno : PySem.W.findIn X.K (.ref C) n = some none) (h : XE X e ρ fun d => ∃ d0, d = errD X.K C dd n d0 a ∧ k d0) (hb : attributeBase e n X.env (eval e X.env) = eval e X.env := by rfl) :
    XE X (.Attribute e n pos) ρ k := by
  have eX := Su.eq
  subst eX
  exact impE (pe_xf T hno Su.z Su.fl anyE hb) fun σ H Q ⟨S, E, q⟩ => useE h E fun v H1 d e1 a1 ⟨d0, hd, hk⟩ => by
    subst hd
    obtain ⟨rfl, fs, v', h1, h2, h3⟩ := errD_at a1
    exact ⟨rfl, rfl, dd, fs, v', rfl, hid_get h1, h2, q _ _ _ e1 h3 hk⟩
end
/-- a thing to call is called -/
theorem px_act {X : Cx} {W : WX} {ρ : Rho} {n m i : Nat} {f : Addr} {o : Out} {x : Str} {p pos : Pos} (tk : L2N.Takes X W) (gd : X.A.guards = some []) (hr : Room m X.A) (hd : ρ[i]? = some (.dat (.tg (Act X.prog X.w X.K X.mg X.base n f o) f))) (hnm : n ≤ m) (hN : X.N[i]? = some x := by rfl)
    (hv : Vis X.env.scope x := by first | exact Or.inl rfl | exact Or.inr (Or.inl rfl) | exact Or.inr (Or.inr rfl)) (h1 : (x == ("__debug__" : Str)) = false := by decide) (h2 : (x == ("__classdict__" : Str)) = false := by decide) : XX X W (.Call (.Name x p) [] [] pos) ρ o := by
  refine ⟨fun pins s σ H Q I ⟨S, EN, q, r⟩ => ?_⟩
  obtain ⟨v, ev, av⟩ := EN.dat i _ hd
  obtain ⟨rfl, hφ⟩ : v = .ref f ∧ ∀ H', ExN (hide S H) H' → Act X.prog X.w X.K X.mg X.base n f o H' := by
    cases av with
    | tg _ h => exact ⟨rfl, h⟩
  refine wpAny_Call_Name_kw (thn ((pe_var (pos := p) hN hv h1 h2).run pins s σ H (fun v H1 => v = .ref f ∧ H1 = H) I ⟨.ref f, ev, rfl, rfl⟩) fun u s1 ⟨v, H1, I1, r1, q1⟩ => ?_)
  obtain ⟨rfl, rfl⟩ := q1
  obtain rfl : u = Value.ref f := r1
  have act := hφ _ (ExN.refl _)
  obtain ⟨qn, params, body, scope, cl, pm, c', ctv, hfo⟩ := act.fn
  have of1 := exO_at I1.hok (hid_get hfo)
  refine PySem.W.callWith_F0 ⟨_, _, _, _, of1⟩ ?_
  refine wpAny_call (codeAny_mono (act.run X.A X.stack s1 H1 S Q (WE W σ) gd (hr.mono hnm) I1.env0 EN.trk (ExN.refl _) ⟨fun v H2 d ho e2 a => q v H2 d ho e2 a, fun cls dct H2 C g d ho e2 er => r cls dct H2 C g d ho e2 er⟩) fun r' s' hq => ?_)
  match r', hq with
  | .error er, hq => exact L2N.passAt tk σ pins H1 s1 er s' I1 hq
  | .ok (.ret u), hq => exact I1.after hq
  | .ok .next, hq => exact False.elim hq
  | .ok .brk, hq => exact False.elim hq
  | .ok .cont, hq => exact False.elim hq
end VL

set_option Elab.async false
set_option linter.all false
set_option maxRecDepth 100000
set_option maxHeartbeats 4000000
namespace VL
variable [Tb]
open PySem PySem.Spec PyProof.Rows L2 LamX
/-! ## try: .. except (A, B, C) as e: .. -/
theorem fly_push {B : Heap} {l : List Env} {a : Addr} {Z : Obj → Prop} {h h' : Heap} (f : HandSPX.FlyingZ B l a Z h) (k : ∀ b o, h.get? b = some o → h'.get? b = some o) : HandSPX.FlyingZ B l a Z h' := by
  obtain ⟨f1, f2, f3, oe, vs, T, oT, ts, g1, g2, g3, g4, g5, g6, g7, g8, g9⟩ := f
  exact ⟨fun b o e => k b o (f1 b o e), f2, f3.of_keeps fun b o e _ => ⟨o, k b o e, rfl⟩, oe, vs, T, oT, ts, k _ _ g1, g2, g3, g4, g5, g6, k _ _ g7, g8, g9⟩
/-- what the clause wishes of an error of the body: it is caught, the suite only returns -/
def wT (K : PySem.W.Frag) (cs : List Value) (i : Nat) (ts : Addr → Value → Option Addr → TS) (D : Ends) : WX := fun cls d σ H =>
  PySem.W.exmAny K cls cs = some true ∧ ∀ a, H a = none → ts a cls d { nx := fun _ _ => False, rt := D.rt, bk := fun _ _ => False, ct := fun _ _ => False } (σ.set i (some (.ref a))) H
section
variable {X : Cx} {x1 x2 x3 n : Str} {c1 c2 c3 : Value} {i : Nat} {body suite : List Stmt} {b₀ : Stmt} {p1 p2 p3 pt pos pos' : Pos} {kt} {tb : WX → TS} {ts : Addr → Value → Option Addr → TS}
theorem ps_try_T (hs : X.stack = X.env :: X.outer) (hf : X.env.frame = some X.env.locals) (hN : X.N.Nodup) (hi : X.N[i]? = some n) (hln : X.env.kindOf n = some .local) (n1 : Gl X x1 ∧ (x1 == ("__debug__" : Str)) = false ∧ X.mg x1 = some c1) (n2 : Gl X x2 ∧ (x2 == ("__debug__" : Str)) = false ∧ X.mg x2 = some c2) (n3 : Gl X x3 ∧ (x3 == ("__debug__" : Str)) = false ∧ X.mg x3 = some c3)
    (hst : starEach [.Name x1 p1, .Name x2 p2, .Name x3 p3] X.env = [(false, eval (.Name x1 p1) X.env), (false, eval (.Name x2 p2) X.env), (false, eval (.Name x3 p3) X.env)])
    (hb : ∀ (W : WX) (pn : List (Addr × Obj)) (xe : Value → Shared → Prop), L2N.Takes (X.tr pn xe) W → PSs (X.tr pn xe) body (tb W))
    (hsu : ∀ (a : Addr) (oe : Obj) (cls : Value) (d : Option Addr) (pn : List (Addr × Obj)), L2N.Zn cls d oe → (∃ vs, oe.data = .fields vs) → PSs (X.suite a ((a, oe) :: pn)) (b₀ :: suite) (ts a cls d)) :
    PS X (.Try body [.ExceptHandler (some (.Tuple [.Name x1 p1, .Name x2 p2, .Name x3 p3] kt pt)) (some n) (b₀ :: suite) pos'] [] [] pos) (fun D σ H => tb (wT X.K [c1, c2, c3] i ts D) D σ H) := by
  refine ⟨fun pins s σ H D I h => ?_⟩
  have ok := I.ok
  have hfr : X.A.frames = some (X.env :: X.outer) := by rw [ok.frames, hs]
  refine wpAny_Try_except ?_
  refine wpAny_mono ((hb (wT X.K [c1, c2, c3] i ts D) (X.pn ++ pins) (fun e s₁ => wpAny (model X.prog X.w) X.A (noteFrame e X.env) (fun _ s₂ => wpAny (model X.prog X.w) X.A (setFlight e none) (fun _ s₃ =>
    wpAny (model X.prog X.w) X.A (handleBy e X.env [.ExceptHandler (some (.Tuple [.Name x1 p1, .Name x2 p2, .Name x3 p3] kt pt)) (some n) (b₀ :: suite) pos']) (SP X pins D) X.xe s₃) X.xe s₂) X.xe s₁) (fun u s' xx => ?_)).run [] s σ H D (I.toTry _) h) (fun f s1 hsp => ?_) (fun e s1 he => he)
  · obtain ⟨a, B, sI, pins', σ', H', cls, d, rfl, J', nb, up, sky, na, os, ag, hx, yes⟩ := xx
    have J : Inv X pins σ' H' sI := J'.ofTry ok
    have sky' : Sky B (X.env :: X.outer) a (L2N.Zn cls d) X.env.locals s'.heap := by rw [← hs]; exact sky
    show wpAny (model X.prog X.w) X.A (noteFrame (.ref a) X.env) _ _ _
    refine L2N.Sky.land L2N.Zn.steady hfr hf sky' fun h3 fl3 up3 => ?_
    have J3 : Inv X pins σ' H' { s' with heap := h3 } := J.landed nb fl3.1 (up.trans up3) os ag
    obtain ⟨oe3, vs3, he3, hz3, hd3⟩ := fl3.there
    have nfr : a ∉ frs (X.env :: X.outer) := fun hm => by
      obtain ⟨_, o', e', hnf⟩ := fl3.2.2.1.mem hm
      rw [he3] at e'
      cases e'
      exact hnf _ hd3
    have nL : a ≠ X.env.locals := fun z => nfr (List.mem_filterMap.mpr ⟨X.env, List.mem_cons_self, by rw [hf, z]⟩)
    have nF : a ∉ X.fs := fun hm => by
      obtain ⟨e, he, q⟩ := List.mem_filterMap.mp hm
      exact nfr (List.mem_filterMap.mpr ⟨e, List.mem_cons_of_mem _ he, q⟩)
    have S3 := J3.suite he3 hd3 na nL nF
    refine wpAny_handleBy_cons (codeAny_handlers_test ?_) (by intro q; cases q)
    have nm : ∀ {x : Str} {c : Value} {p : Pos} {Q : Value → Shared → Prop} {E : Value → Shared → Prop}, Gl X x ∧ (x == ("__debug__" : Str)) = false ∧ X.mg x = some c → Q c { s' with heap := h3 } → wpAny (model X.prog X.w) (X.A.mark (some (.ref a))) (eval (.Name x p) X.env) Q E { s' with heap := h3 } := fun {x c p Q E} ⟨g1, g2, g3⟩ q =>
      ld_glob (X := X.suite a ((a, oe3) :: (X.pn ++ pins))) S3 g1 g3 q g2
    refine wpAny_Tuple_spliced ?_
    rw [hst]
    show wpAny _ _ (spliced ((false, eval (.Name x1 p1) X.env) :: (false, eval (.Name x2 p2) X.env) :: (false, eval (.Name x3 p3) X.env) :: [])) _ _ _
    refine Calls.spliced_cons (nm n1 (Calls.spliced_cons (nm n2 (Calls.spliced_cons (nm n3 (Calls.spliced_nil ⟨by rw [sizeLine_eq]; simp, ?_⟩))))))
    generalize hh5 : h3.push { cls := .type "tuple", data := .seq [c1, c2, c3].toArray } = h5
    have k5 : ∀ b o, h3.get? b = some o → h5.get? b = some o := fun b o e => by
      rw [← hh5]
      exact Heap.get?_push_of_some _ e
    have p5 : h5.get? h3.objs.size = some { cls := .type "tuple", data := .seq [c1, c2, c3].toArray } := by
      rw [← hh5]
      exact Heap.get?_push_size _ rfl
    have K5 : X.K.In h5 := fun b o e => k5 b o (J3.kIn b o e)
    have LT : PySem.W.Looks (model X.prog X.w) h5 (typeOf (.ref a)) cls := fun A Q E s k q => wpAny_typeOf_ref (k _ _ (k5 _ _ he3)) (by rw [hz3.1]; exact q)
    have LM := PySem.W.exm_tup3 (M := model X.prog X.w) K5 LT p5 hx
    refine LM.here (s := { s' with heap := h5 }) ?_
    refine codeAny_handlers_suite_as ?_
    have fl5 := fly_push fl3 k5
    have up5 : h3.UpToSlots h5 := Heap.UpToSlots.of_keeps k5
    refine HandSPX.lands_againZ (s := { s' with heap := h5 }) fl5 fun h4 fl4 up4 => ?_
    have J4 : Inv X pins σ' H' { s' with heap := h4 } := J.landed nb fl4.1 (((up.trans up3).trans up5).trans up4) os ag
    obtain ⟨oe4, vs4, he4, hz4, hd4⟩ := fl4.there
    have S4 := J4.suite he4 hd4 na nL nF
    refine store_ok (X := X.suite a ((a, oe4) :: (X.pn ++ pins))) (v := .ref a) S4 hN hi (.inl hln) rfl (fun s5 S5 => ?_) (.inr hln)
    refine wpAny_mono ((hsu a oe4 cls d (X.pn ++ pins) hz4 ⟨_, hd4⟩).run [] s5 _ H' _ S5 (yes a na)) (fun f s6 hsp => ?_) (fun _ _ z => False.elim z)
    match f, hsp with
    | .next, hsp => exact (let ⟨_, _, _, q6⟩ := hsp; q6.elim)
    | .brk, hsp => exact (let ⟨_, _, _, q6⟩ := hsp; q6.elim)
    | .cont, hsp => exact (let ⟨_, _, _, q6⟩ := hsp; q6.elim)
    | .ret u, ⟨v6, σ6, H6, S6, r6, q6⟩ => exact gone_ok (S6.unsuite ok) hN hi hln fun s7 J7 => ⟨_, _, _, J7, r6, q6⟩
  · match f, hsp with
    | .next, ⟨σ', H', J', q⟩ => exact wpAny_execs_nil ⟨σ', H', J'.ofTry ok, q⟩
    | .brk, ⟨σ', H', J', q⟩ => exact ⟨σ', H', J'.ofTry ok, q⟩
    | .cont, ⟨σ', H', J', q⟩ => exact ⟨σ', H', J'.ofTry ok, q⟩
    | .ret u, ⟨v, σ', H', J', r, q⟩ => exact ⟨v, σ', H', J'.ofTry ok, r, q⟩
end
end VL

set_option Elab.async false
set_option linter.all false
set_option maxRecDepth 100000
set_option maxHeartbeats 4000000
/-! ## A list's iterator ends while an error is handled -/
namespace VL
open PySem PySem.Spec PyProof.Rows L2 LamX HotX
section
variable {prog : Program} {w : World} {A : Around} {E : Value → Shared → Prop} {s : Shared}
theorem next_end_hot {it l x1 : Addr} {i : Nat} {items} {Q : Option Value → Shared → Prop} (hot : HotAt A x1 s.heap) (hne : x1 ≠ it) (hit : s.heap.IsListIter it l i) (hl : s.heap.IsList l items) (hx : items[i]? = none)
    (hQ : ∀ h', (∀ b o, b ≠ it → s.heap.get? b = some o → h'.get? b = some o) → Q none { s with heap := h' }) : wpAny (model prog w) A (pyNext (.ref it)) Q E s := by
  obtain ⟨o, ho, hc, hd⟩ := id hit
  obtain ⟨ol, hol, _, nl, hdl⟩ := hl
  obtain ⟨hh, o1, vs1, h1, d1, c1⟩ := hot
  unfold pyNext
  refine wpAny_bind (wpAny_attempt (wpAny_callSpecial?_slot (name := Str.ofString "__next__") hit.typeIs slot_listiter_next
    (wpAny_call_entry slot_listiter_next hit.typeIs entry_listiter_next ?_ (args_listiter_next _))))
  show wpAny _ _ (field (.ref it) 0 >>= _) _ _ s
  refine wpAny_bind (wpAny_field ho hd (x := .ref l) rfl ?_)
  show wpAny _ _ (if (Value.ref l == Value.none) = true then _ else _) _ _ s
  rw [if_neg (show ¬ ((Value.ref l == Value.none) = true) from Bool.false_ne_true)]
  show wpAny _ _ (field (.ref it) 1 >>= _) _ _ s
  refine wpAny_bind (wpAny_field ho hd (x := .int i 0) rfl ?_)
  show wpAny _ _ (seqItems? (.ref l) >>= _) _ _ s
  refine wpAny_bind (wpAny_seqItems hol hdl ?_)
  simp only [Int.toNat_natCast, hx]
  refine wpAny_bind (wpAny_rule (wpAny_bind (wpAny_setField ho hd (by simp) ?_)))
  show wpAny _ _ (newExc (.type "StopIteration") [] >>= _) _ _ _
  refine wpAny_bind ?_
  simp only [newExc, newTuple]
  refine wpAny_bind (wpAny_newObj_type ?_ (by size_fits))
  refine wpAny_bind (m := firstArgMember _ _) (wpAny_of_eq (a := Value.none) (by first | rfl | (simp only [firstArgMember]; rfl)) ?_)
  refine wpAny_newObj_type ?_ (by size_fits)
  have g1 : (s.heap.update it (Obj.mapFields (·.setIfInBounds 0 Value.none))).get? x1 = some o1 := by
    rw [Heap.get?_update_other _ _ (Ne.symm hne)]
    exact h1
  refine raiseNew_hot ⟨hh, o1, vs1, Heap.get?_push_of_some _ (Heap.get?_push_of_some _ g1), d1, c1⟩ (Nat.ne_of_lt (Heap.lt_size (Heap.get?_push_of_some _ g1))) (Heap.get?_push_size _ rfl) rfl (by first | (simp; done) | (simp; omega) | (simp only [Array.size_append]; simp; omega)) ?_
  refine wpAny_bind (wpAny_isInstance (T := "StopIteration") (b := true) ⟨_, Heap.get?_update_self _ (Heap.get?_push_size _ rfl) rfl, rfl⟩ isSubtype_stop ?_)
  refine wpAny_pure (hQ _ fun b o hb e => ?_)
  have g2 : (s.heap.update it (Obj.mapFields (·.setIfInBounds 0 Value.none))).get? b = some o := by
    rw [Heap.get?_update_other _ _ (Ne.symm hb)]
    exact e
  rw [Heap.get?_update_other _ _ (Nat.ne_of_gt (Heap.lt_size (Heap.get?_push_of_some _ g2)))]
  exact Heap.get?_push_of_some _ (Heap.get?_push_of_some _ g2)
end
end VL

set_option Elab.async false
set_option linter.all false
set_option maxRecDepth 100000
set_option maxHeartbeats 4000000
namespace VL
open PySem PySem.Spec PyProof.Rows L2 LamX HotX
/-! ## [.. for .. in a list if ..] while an error is handled -/
section
variable {X : Cx}
theorem list_item_h {X : Cx} {tg : Expr} {a it : Addr} {i : Nat} {pins : List (Addr × Obj)} {s : Shared} {σ : L2.St} {H : Hp} {E : Value → Shared → Prop} (I : Inv X pins σ H s) (hf : FpOk X pins H it) (st : s.heap.IsListIter it a i) (hg : (Itl X.K a).go i H) :
    wpAny (model X.prog X.w) X.A (pyNext (.ref it)) (fun r s1 => ∃ u, r = some u ∧
      wpAny (model X.prog X.w) X.A (letOwnedTupleGo tg (.ref it) u) (fun _ s2 => ∃ x H', Inv X pins σ H' s2 ∧ RelV x u ∧ (Itl X.K a).yld i H x H' ∧ s2.heap.IsListIter it a (i + 1) ∧ H' it = none) E s1) E s := by
  obtain ⟨xs, x, hq, hx⟩ := hg
  obtain ⟨its, rv, p, hz⟩ := I.list hq
  obtain ⟨u, hu, ru⟩ := rv.get hx
  obtain ⟨f0, f1, f2, f3, f4, f5⟩ := hf
  refine wpAny_pyNext_list_item st p.isList (x := u) (by simpa using hu) fun h' st' sb => ?_
  have I1 : Inv X pins σ H { s with heap := h' } := I.turned (t' := s.toks) (fun b o hb e => (sb.2 b hb).trans e) f0 f1 f3 f4 f5
  obtain ⟨o, e, c, d⟩ := id st'
  exact ⟨u, rfl, go_of (s := { s with heap := h' }) e c d (by decide) ⟨x, H, I1, ru, ⟨rfl, fun ys hy => by rw [I.list_inj hy hq]; exact hx⟩, st', f0⟩⟩
theorem list_done_h {X : Cx} {a it x1 : Addr} {i : Nat} {pins : List (Addr × Obj)} {s : Shared} {σ : L2.St} {H : Hp} {E : Value → Shared → Prop} (I : Inv X pins σ H s) (hot : HotAt X.A x1 s.heap) (hne : x1 ≠ it) (hf : FpOk X pins H it) (st : s.heap.IsListIter it a i) (hg : (Itl X.K a).stop i H) :
    wpAny (model X.prog X.w) X.A (pyNext (.ref it)) (fun r s1 => r = none ∧ Inv X pins σ H s1) E s := by
  obtain ⟨xs, hq, hx⟩ := hg
  obtain ⟨its, rv, p, hz⟩ := I.list hq
  obtain ⟨f0, f1, f2, f3, f4, f5⟩ := hf
  have hl := rv.length
  exact next_end_hot hot hne st p.isList (by simp; omega) fun h' eb => ⟨rfl, I.turned (t' := s.toks) (fun b o hb e => eb b o hb e) f0 f1 f3 f4 f5⟩
theorem pe_lcH {elt tg iter : Expr} {ifs : List Expr} {scope : Scope} {own : List (Str × Nat)} {pos : Pos} {tl : TE} {g : TG} {tt : TT} {te : TE} {ex : Addr × Obj} (hhd : X.A.handled = some (.ref ex.1)) (hpn : ex ∈ X.pn) (hct : ∃ vs : Array Value, ex.2.data = .fields vs ∧ vs[2]? = some .none) (hN : X.N.Nodup) (hi : PE X iter tl) (ok : BlkOk X.N X.env.scope scope own)
    (hg : ∀ (s : Shared) (H : Hp) (C : Addr) (cl : List (Str × Addr)) (fp : List Addr), PG (X.blk s H scope (compEnvC scope cl C X.env) fp) tg g) (ht : ∀ (s : Shared) (H : Hp) (C : Addr) (cl : List (Str × Addr)) (fp : List Addr), PTs (X.blk s H scope (compEnvC scope cl C X.env) fp) ifs tt)
    (he : ∀ (s : Shared) (H : Hp) (C : Addr) (cl : List (Str × Addr)) (fp : List Addr), PE (X.blk s H scope (compEnvC scope cl C X.env) fp) elt te) (hs : ∀ x, foldedSetIterable iter X.env x = pure x := by intro _; rfl) :
    PE X (.ListComp elt [⟨tg, iter, ifs, 0⟩] scope pos) (tLc (iList X.K tl) g tt te (own.map (·.2))) := by
  refine ⟨fun pins s σ H Q I h => ?_⟩
  rw [eval_ListComp]
  have hfree : ∀ y ∈ scope.names, y.2 = .free → ∃ c, X.env.cells.lookup y.1 = some c := fun y hy e => by
    rcases ok.free y hy e with k | k
    · exact I.ok.has _ (.inl k)
    · exact I.ok.has _ (.inr k)
  refine wpAny_comprehension_free (use := none) rfl hs (closure_ok hfree) ok.kind (fun y hy e => by rw [ok.uniq y hy, e])
    (thn (hi.run pins s σ H _ I h) fun xv s1 hx => ?_)
  obtain ⟨x, H1, I1, r1, a, ex1, ⟨xs, hq⟩, q⟩ := hx
  subst ex1
  obtain rfl : xv = Value.ref a := r1
  obtain ⟨its, rv, p, hz⟩ := I1.list hq
  refine wpAny_pyIter_list p.isList ?_
  have ptr := I1.pin ex (List.mem_append_left _ hpn)
  generalize hit : s1.heap.objs.size = it
  generalize hs2 : ({ s1 with heap := s1.heap.push _ } : Shared) = s2
  have I2 : Inv X pins σ H1 s2 := by
    rw [← hs2]
    exact I1.kept (t' := s1.toks) fun b o e => Heap.get?_push_of_some _ e
  have st2 : s2.heap.IsListIter it a 0 := by
    rw [← hs2, ← hit]
    exact ⟨_, Heap.get?_push_size _ rfl, rfl, rfl⟩
  have f2 : FpOk X pins H1 it := by
    rw [← hit]
    exact I1.fpOk (Nat.le_refl _) (I1.hok.fresh (Nat.le_refl _))
  have nex : ex.1 ≠ it := f2.2.2.2.2.2 ex (List.mem_append_left _ hpn)
  refine wpAny_newObj_type (newEnv_comp ?_) (by show 0 ≤ sizeLine; decide)
  generalize hD : s2.heap.objs.size = D
  have hDn : H1 D = none := I2.hok.fresh (Nat.le_of_eq hD)
  obtain ⟨W, ⟨m0, w0⟩, turn⟩ := q D hDn
  generalize hs3 : ({ s2 with heap := s2.heap.push { cls := .type "list", data := .seq ([] : List Value).toArray } } : Shared) = s3
  have I3 : Inv X pins σ (upd H1 D (.lst [])) s3 := by
    rw [← hs3]
    refine I2.laid (t' := s2.toks) (fun b o e => Heap.get?_push_of_some _ e) (Nat.le_of_eq hD) ⟨Nat.zero_le _, [], 0, .nil, ?_⟩
    rw [← hD]
    exact Heap.get?_push_size _ rfl
  have h3 : s3.heap = s2.heap.push { cls := .type "list", data := .seq ([] : List Value).toArray } := by rw [← hs3]
  have sz : it < s2.heap.objs.size := by
    obtain ⟨o, e, _⟩ := st2
    exact Heap.lt_size e
  have f3 : ∀ b ∈ [it], FpOk X pins (upd H1 D (.lst [])) b ∧ b < s3.heap.objs.size := fun b hb => by
    obtain rfl : b = it := by simpa using hb
    refine ⟨⟨?_, f2.2⟩, by rw [h3, Heap.size_push]; exact Nat.lt_succ_of_lt sz⟩
    rw [upd_ne (by rw [← hD]; exact Nat.ne_of_lt sz)]
    exact f2.1
  have st3 : s3.heap.IsListIter it a 0 := st2.at fun o e => by rw [h3]; exact Heap.get?_push_of_some _ e
  have I4 := block_start I3 ok hN f3
  have pg := hg s3 (upd H1 D (.lst [])) s3.heap.objs.size (cellsFrom (s3.heap.objs.size + 1) scope.names (cloFrom X.env.cells scope.names [])) [it]
  have pt := ht s3 (upd H1 D (.lst [])) s3.heap.objs.size (cellsFrom (s3.heap.objs.size + 1) scope.names (cloFrom X.env.cells scope.names [])) [it]
  have pe := he s3 (upd H1 D (.lst [])) s3.heap.objs.size (cellsFrom (s3.heap.objs.size + 1) scope.names (cloFrom X.env.cells scope.names [])) [it]
  show codeAny _ _ (.compStart (.ListComp elt [⟨tg, iter, ifs, 0⟩] scope pos) 0 (.ref it) (.ref D) (compEnvC scope (cellsFrom (s3.heap.objs.size + 1) scope.names (cloFrom X.env.cells scope.names [])) s3.heap.objs.size X.env)) (compPost (model X.prog X.w) X.A X.xe none _ (.ref D) s3.heap.objs.size) { s3 with heap := pushCells (s3.heap.push { cls := .type "dict", data := .dict #[] }) scope.names }
  have nit : (upd H1 D (.lst [])) it = none := (f3 it (by simp)).1.1
  have pin3 := I3.pin ex (List.mem_append_left _ hpn)
  generalize hce : compEnvC scope (cellsFrom (s3.heap.objs.size + 1) scope.names (cloFrom X.env.cells scope.names [])) s3.heap.objs.size X.env = ce at I4 pg pt pe ⊢
  have cL : ce.locals = s3.heap.objs.size := by subst hce; rfl
  generalize hH3 : upd H1 D (.lst []) = H3 at I3 I4 pg pt pe w0 nit f3 pin3
  generalize hs4 : ({ s3 with heap := pushCells (s3.heap.push { cls := .type "dict", data := .dict #[] }) scope.names } : Shared) = s4 at I4 ⊢
  have st4 : s4.heap.IsListIter it a 0 := st3.at fun o e => by rw [← hs4]; exact pushCells_keeps _ _ _ _ (Heap.get?_push_of_some _ e)
  have stat : ∀ {σ' : L2.St} {H' : Hp} {s' : Shared}, Inv (X.blk s3 H3 scope ce [it]) [] σ' H' s' → H' it = none → FpOk (X.blk s3 H3 scope ce [it]) [] H' it := fun {σ' H' s'} I' hn =>
    ⟨hn, (I'.ok.exf it (by simp)).1, I'.ok.exfs it (by simp), .inl (by simp), fun x c e => (I'.ok.exf it (by simp)).2 x c e, fun p hp => absurd (show p ∈ ([] : List (Addr × Obj)) ++ [] from hp) (by simp)⟩
  have hotB : ∀ {σ' : L2.St} {H' : Hp} {s' : Shared}, Inv (X.blk s3 H3 scope ce [it]) [] σ' H' s' → HotAt X.A ex.1 s'.heap := fun {σ' H' s'} I' => by
    obtain ⟨vs, e1, e2⟩ := hct
    obtain ⟨g1, g2, g3, g4, g5⟩ := pin3
    have nfs : ex.1 ∉ frs X.stack := fun hm => (List.mem_cons.mp (I3.stkSub _ hm)).elim g3 g4
    exact ⟨hhd, ex.2, vs, I'.base.keep _ _ g1 g2 nfs (by simpa using nex), e1, e2⟩
  have loop : codeAny (model X.prog X.w) X.A (.compLoop (.ListComp elt [⟨tg, iter, ifs, 0⟩] scope pos) 0 (.ref it) (.ref D) ce) (compPost (model X.prog X.w) X.A X.xe none (fun v s' => EP X pins σ Q v s') (.ref D) s3.heap.objs.size) s4 := by
    refine compLoop_any (fun n s' => ∃ i H', Inv (X.blk s3 H3 scope ce [it]) [] (wipe σ (own.map (·.2))) H' s' ∧ s'.heap.IsListIter it a i ∧ H' it = none ∧ W i n H') ?_ m0 ⟨0, H3, I4, st4, nit, w0⟩
    rintro n s5 ⟨i, H5, I5, st5, n5, w5⟩
    rcases turn i n H5 w5 with ⟨stop, qq⟩ | ⟨go, Nx, hNx, step⟩
    · refine thnF (list_done_h (X := X.blk s3 H3 scope ce [it]) (E := fun _ _ => False) I5 (hotB I5) nex (stat I5 n5) st5 stop) fun r s6 ⟨hr, I6⟩ => ?_
      subst hr
      have I7 : Inv X pins σ H5 s6 := I3.call' (ch := [it]) I6.os I6.base I6.hok I6.bare fun b hb => ⟨(f3 b hb).1.2.2.2.1, (f3 b hb).1.2.1, (f3 b hb).1.2.2.2.2.1, (f3 b hb).1.2.2.2.2.2⟩
      have nC : H5 s3.heap.objs.size = none := by
        have z : H5 ce.locals = none := I6.free
        rw [cL] at z
        exact z
      obtain ⟨m, hn, _⟩ := I6.loc
      have hn : s6.heap.Ns ce.locals m := hn
      rw [cL] at hn
      obtain ⟨g0, g1, g2, g3, g4, g5⟩ := I3.fpOk (Nat.le_refl _) nC
      exact ⟨m, hn, fun h'' sb => ⟨.ref D, H5, I7.turned (t' := s6.toks) (fun b o hb e => (sb.2 b hb).trans e) g0 g1 g3 g4 g5, rfl, qq⟩⟩
    · refine thnF (list_item_h (X := X.blk s3 H3 scope ce [it]) (tg := tg) (E := fun _ _ => False) I5 (stat I5 n5) st5 go) fun r s6 ⟨u, hr, h6⟩ => ?_
      subst hr
      refine thnF h6 fun _ s7 ⟨x, H7, I7, r7, y7, st7, n7⟩ => ?_
      have I7' := I7.pinned (fp := [it]) (fun b hb => by
        rw [show b = it from by simpa using hb]
        exact stat I7 n7) (fun b hb => by
        obtain rfl : b = it := by simpa using hb
        obtain ⟨o, e, c, d⟩ := id st7
        exact ⟨o, e, fun v z => by rw [d] at z; cases z⟩)
      refine thnF (pg.run _ s7 _ H7 x u _ I7' r7 (step x H7 y7)) fun _ s8 ⟨σ8, H8, I8, hw8, q8⟩ => ?_
      refine thnF (pt.run _ s8 σ8 H8 _ I8 q8) fun b s9 ⟨H9, I9, q9⟩ => ?_
      have fin : ∀ {s' : Shared} {H' : Hp}, Inv (X.blk s3 H3 scope ce [it]) ([] ++ pinsAt [it] s7.heap) σ8 H' s' → Nx H' → ∃ m, m < n ∧ ∃ i H', Inv (X.blk s3 H3 scope ce [it]) [] (wipe σ (own.map (·.2))) H' s' ∧ s'.heap.IsListIter it a i ∧ H' it = none ∧ W i m H' := fun {s' H'} I' nx => by
        obtain ⟨m', hm, w'⟩ := hNx H' nx
        obtain ⟨oi, ei, ci, di⟩ := id st7
        have pin' := I'.pin (it, oi) (List.mem_append_right _ (List.mem_append_right _ (mem_pinsAt (by simp) ei)))
        have hl : (wipe σ (own.map (·.2))).length = σ8.length := by rw [← hw8, wipe_length]
        refine ⟨m', hm, i + 1, H', (I'.unpinned (pins := [])).weak hl (fun j v e => ?_), st7.at fun o e => ?_, pin'.2.1, w'⟩
        · rw [← hw8] at e
          exact (wipe_some e).1
        · rw [ei] at e
          cases e
          exact pin'.1
      cases b with
      | false =>
        simp only [Bool.false_eq_true, if_false] at q9 ⊢
        exact fin I9 q9
      | true =>
        simp only [if_true] at q9 ⊢
        refine thnF (pe.run _ s9 σ8 H9 _ I9 q9) fun z s10 ⟨yv, H10, I10, r10, acc, hD10, hz10, nx⟩ => ?_
        exact app_ok (X := X.blk s3 H3 scope ce [it]) I10 hD10 hz10 r10 fun s11 I11 => fin I11 nx
  exact codeAny_compStart_list loop (wpAny_pyIter_listiter st4 loop)
end
end VL

set_option Elab.async false
set_option linter.all false
set_option maxRecDepth 100000
set_option maxHeartbeats 4000000
namespace VL
variable [Tb]
open PySem PySem.Spec PyProof.Rows L2 LamX HotX
/-! ## repr, ==, in while an error is handled: what they ask of the room -/
structure RoomU (A : Around) : Prop where
  un : A.units + 200 < cLine
theorem roomU {n : Nat} {A : Around} (r : Room n A) : RoomU A := ⟨by have := r.un; omega⟩
theorem roomU_mark {A : Around} (r : RoomU A) (h : Option Value) : RoomU (A.mark h) := ⟨r.un⟩
def rReprA (K : PySem.W.Frag) : List V → Hp → VK → Prop := fun xs H Q => ∃ v d, xs = [v] ∧ Dp K H v d ∧ ReprOk d ∧ Q (.str d.shown) H
theorem call_reprA {X : Cx} (gd : X.A.guards = some []) (hr : RoomU X.A) : CallR X (.builtin "repr") (rReprA X.K) := by
  intro pins s σ H xs us Q I r h
  obtain ⟨v, d, rfl, hd, ok, q⟩ := h
  obtain ⟨u, rfl, ru⟩ := r.one
  have un := hr.un
  have dp := ok.dp
  have big : ∀ {a : Addr}, Dp X.K H (.ref a) d → wpAny (model X.prog X.w) X.A (call (.builtin "repr") [.ref a]) (fun u s' => EP X pins σ Q u s') X.xe s := fun {a} hd => by
    obtain ⟨as, rd⟩ := Dp.reads I d _ _ hd rfl
    exact repr_of_reads' rd ok.s (fun z => by rw [ok.n] at z; cases z) gd (by omega) (fun _ _ z => z) (fun h' t tk hk => ⟨.str d.shown, H, I.kept (t' := tk) hk, ⟨t, rfl⟩, q⟩) (by rw [sizeLine_eq]; exact Nat.le_trans (shown_le d ok.s ok.n) ok.l)
  cases v with
  | ref a =>
    cases (show u = Value.ref a from ru)
    exact big hd
  | non =>
    cases (show u = Value.none from ru)
    cases hd
    exact PySem.P.repr_of_none ⟨.str "None", H, I.tok _, ⟨_, rfl⟩, q⟩
  | bl b =>
    cases (show u = Value.bool b from ru)
    cases hd
    exact PySem.P.repr_of_bool ⟨.str _, H, I.tok _, ⟨_, rfl⟩, q⟩
  | int i =>
    obtain ⟨t, rfl⟩ := (show ∃ t, u = Value.int i t from ru)
    cases hd
    exact PySem.P.repr_of_int (of_decide_eq_true (by simpa [PyData.showable] using ok.s)) ⟨.str _, H, I.tok _, ⟨_, rfl⟩, q⟩
  | str x =>
    obtain ⟨t, rfl⟩ := (show ∃ t, u = Value.str x t from ru)
    cases hd
    exact PySem.P.repr_of_str ⟨.str _, H, I.tok _, ⟨_, rfl⟩, q⟩ (by rw [sizeLine_eq]; exact ok.l)
  | _ => cases hd
section
variable {X : Cx} {ρ : Rho} {a b e : Expr} {pos p : Pos} {k : D → Prop} {kb : Bool → Prop}
theorem xe_reprA (hm : X.mg "repr" = none) (gd : X.A.guards = some []) (hr : RoomU X.A) (h : XE X e ρ fun x => ∃ d, pyD x = some d ∧ ReprOk d ∧ k (.str d.shown)) (hg : Gl X "repr" := by rfl)
    (he : starEach (e :: []) X.env = (false, eval e X.env) :: starEach [] X.env := by rfl) : XE X (.Call (.Name "repr" p) [e] [] pos) ρ k :=
  impE (pe_callB (call_reprA gd hr) hg hm (by decide +kernel) (pa_cons anyE pa_nil he) (by decide) (by decide) he rfl) fun σ H Q ⟨S, E, q⟩ => useE h E fun v H1 x e1 a1 ⟨d, hd, ok, hk⟩ =>
    ⟨v, d, rfl, dp_of a1 hd, ok, q _ _ _ e1 (.str _) hk⟩
theorem xt_neDU (hr : RoomU X.A) (h : XE X a ρ fun x => XE X b ρ fun y => ∃ r, EqD x y r ∧ kb (!r)) : XT X (.Compare a [.NotEq] [b] pos) ρ kb :=
  impT (pt_cmpR (op_neD (by have := hr.un; omega)) anyE anyE (nomark _)) fun σ H Q ⟨S, E, q⟩ => useE h E fun x H1 d e1 a1 hb => useE hb (E.mono e1) fun y H2 d2 e2 a2 ⟨r, ⟨u, w, p1, p2, s1, s2, er⟩, hk⟩ => by
    subst er
    exact ⟨u, w, dp_of (a1.mono (hide_ex e2)) p1, dp_of a2 p2, s1, s2, _, rfl, q _ _ (e1.trans e2) hk⟩
theorem xt_inLU (hr : RoomU X.A) (h : XE X a ρ fun x => XE X b ρ fun y => ∃ r, InL x y r ∧ kb r) (hmk : behindInMarks .In b = false := by with_unfolding_all rfl) : XT X (.Compare a [.In] [b] pos) ρ kb :=
  impT (pt_cmpR (op_inD (by have := hr.un; omega)) anyE anyE hmk) fun σ H Q ⟨S, E, q⟩ => useE h E fun x H1 d e1 a1 hb => useE hb (E.mono e1) fun y H2 d2 e2 a2 ⟨r, ⟨u, w, p1, p2, s1, s2, er⟩, hk⟩ => by
    subst er
    exact ⟨u, w, dp_of (a1.mono (hide_ex e2)) p1, dp_of a2 p2, s1, s2, _, rfl, q _ _ (e1.trans e2) hk⟩
theorem xe_inLU (hr : RoomU X.A) (h : XE X a ρ fun x => XE X b ρ fun y => ∃ r, InL x y r ∧ k (.bl r)) (hmk : behindInMarks .In b = false := by with_unfolding_all rfl) : XE X (.Compare a [.In] [b] pos) ρ k :=
  impE (pe_cmpR (op_inD (by have := hr.un; omega)) anyE anyE hmk) fun σ H Q ⟨S, E, q⟩ => useE h E fun x H1 d e1 a1 hb => useE hb (E.mono e1) fun y H2 d2 e2 a2 ⟨r, ⟨u, w, p1, p2, s1, s2, er⟩, hk⟩ => by
    subst er
    exact ⟨u, w, dp_of (a1.mono (hide_ex e2)) p1, dp_of a2 p2, s1, s2, q _ _ _ (e1.trans e2) (.bl _) hk⟩
end
end VL

set_option Elab.async false
set_option linter.all false
set_option maxRecDepth 100000
set_option maxHeartbeats 4000000
namespace VL
variable [Tb]
open PySem PySem.Spec PyProof.Rows L2 LamX HotX
/-! ## [.. for x in a list if c] -/
section
variable {X : Cx} {ρ : Rho} {elt it e c : Expr} {scope : Scope} {pos p p2 px : Pos} {kl : List D → Prop}
def cT (X : Cx) (scope : Scope) (c : Expr) : TT := fun σ H Q => Blk X scope fun Y => aT Y c σ H Q
theorem rd_lcF (i : Nat) {W : Nat → List D → Prop} {ds : List D} (fl : D → Bool) (h : XL X it ρ fun es => es = ds ∧ W 0 [] ∧ ∀ acc, W ds.length acc → kl acc)
    (hc : Blk X scope fun Y => ∀ (m : Nat) d, ds[m]? = some d → XT Y c ((ρ.set i .un).set i (.dat d)) fun b => b = fl d)
    (he : Blk X scope fun Y => ∀ (m : Nat) d acc, ds[m]? = some d → W m acc → fl d = true → XE Y elt ((ρ.set i .un).set i (.dat d)) fun d' => acc.length < 100000 ∧ W (m + 1) (acc ++ [d']))
    (hn : ∀ (m : Nat) d acc, ds[m]? = some d → W m acc → fl d = false → W (m + 1) acc) (σ : L2.St) (H : Hp) (Q : VK) (z : tN X.K ρ kl σ H Q) :
    tLc (iList X.K (aE X it)) (gName i) (cT X scope c) (cE X scope elt) [i] σ H Q := by
  obtain ⟨S, E, q⟩ := z
  refine useL h E fun a H1 vs0 es e1 hL a1 ⟨hd, w0, hend⟩ => ?_
  subst hd
  refine ⟨a, rfl, ⟨vs0, hL⟩, fun Dl hD => ?_⟩
  have E1 := E.mono e1
  refine lc_list (K := X.K) (a := a) (xs := vs0) (g := gName i) (tt := cT X scope c) (te := cE X scope elt) (vs := [i]) (σ := σ) (Qd := fun H' => Q (.ref Dl) H') (Cw X.K S H1 W Dl) ⟨hD, Ex.new hD, [], [], upd_same, .nil, w0⟩ (fun m H2 _ p => ex_l p.2.1 hL) ?_ ?_
  · rintro m x0 H2 hm' p
    obtain ⟨d, hd, ad⟩ := a1.get' hm'
    refine ⟨wipe_again σ i _, fun s H' C cl fp => ?_⟩
    obtain ⟨p1, p2, vs, acc, p3, p4, p5⟩ := p
    have E2 : EnvOk X.K (Dl :: S) H2 (wipe σ [i]) (ρ.set i .un) := (E1.hid p2 hD p3).2.wipe1 i
    have ad2 : At X.K (hide (Dl :: S) H2) x0 d := (at_hid hD ad).mono (hide_ex p2)
    refine useT (hc s H' C cl fp m d hd) (E2.store ad2) fun b H3 e3 hb => ?_
    have p' : Cw X.K S H1 W Dl m H3 := ⟨p1, p2.trans e3, vs, acc, e3.k _ _ p3 True.intro, p4.mono (hide_ex e3), p5⟩
    cases q2 : fl d with
    | false =>
      rw [q2] at hb
      rw [if_neg (by rw [hb]; exact Bool.false_ne_true)]
      obtain ⟨r1, r2, us, acc', r3, r4, r5⟩ := p'
      exact ⟨r1, r2, us, acc', r3, r4, hn m d acc' hd r5 q2⟩
    | true =>
      rw [q2] at hb
      rw [if_pos hb]
      show cE X scope elt ((wipe σ [i]).set i (some x0)) H3 fun y H4 => ∃ acc, H4 Dl = some (.lst acc) ∧ acc.length < sizeLine ∧ Cw X.K S H1 W Dl (m + 1) (upd H4 Dl (.lst (acc ++ [y])))
      refine cw_turn p' E1.trk (kd := fun _ _ => True) fun acc hw Q' q' s H' C cl fp => ?_
      exact useE (he s H' C cl fp m d acc hd hw q2) ((E2.store ad2).mono e3) fun v3 H4 d3 e4 a4 hk => q' v3 H4 d3 e4 a4 hk
  · rintro H2 ⟨p1, p2, vs, acc, p3, p4, p5⟩
    rw [a1.length] at p5
    exact q Dl H2 vs acc (e1.back hD) (e1.trans p2) p3 p4 (hend acc p5)
theorem xn_lcF (i : Nat) {x : Str} {W : Nat → List D → Prop} {ds : List D} (fl : D → Bool) (h : XL X it ρ fun es => es = ds ∧ W 0 [] ∧ ∀ acc, W ds.length acc → kl acc)
    (hc : Blk X scope fun Y => ∀ (m : Nat) d, ds[m]? = some d → XT Y c ((ρ.set i .un).set i (.dat d)) fun b => b = fl d)
    (he : Blk X scope fun Y => ∀ (m : Nat) d acc, ds[m]? = some d → W m acc → fl d = true → XE Y elt ((ρ.set i .un).set i (.dat d)) fun d' => acc.length < 100000 ∧ W (m + 1) (acc ++ [d']))
    (hn : ∀ (m : Nat) d acc, ds[m]? = some d → W m acc → fl d = false → W (m + 1) acc) (hN : X.N.Nodup)
    (hB : blkC X.N X.env.scope scope [(x, i)] = true := by first | decide +kernel | rfl) (hca : X.calm = true := by rfl) (hi : X.N[i]? = some x := by rfl)
    (hx : Blk X scope fun Y => L2.Loc Y.env.scope x := by first | exact fun _ _ _ _ _ => Or.inl rfl | exact fun _ _ _ _ _ => Or.inr rfl)
    (hf : Blk X scope fun Y => Y.fn x = true ∨ Y.env.scope.names.lookup x = some .local := by first | exact fun _ _ _ _ _ => Or.inr rfl | exact fun _ _ _ _ _ => Or.inl rfl)
    (hs : ∀ y, foldedSetIterable it X.env y = pure y := by intro _; rfl) :
    XN X (.ListComp elt [⟨.Name x px, it, [c], 0⟩] scope pos) ρ kl :=
  impE (pe_lc (own := [(x, i)]) (g := gName i) (tt := cT X scope c) (te := cE X scope elt) hca hN (pi_list anyE) (blkOk_by hB)
    (fun s H C cl fp => pg_name hN hi (hx s H C cl fp) (hf s H C cl fp)) (fun s H C cl fp => pts_one (impT anyT fun σ H Q q => q s _ C cl fp)) (fun s H C cl fp => impE anyE fun σ H Q q => q s _ C cl fp) hs) fun σ H Q z => rd_lcF i fl h hc he hn σ H Q z
/-- while an error is handled -/
theorem xn_lcFH (i : Nat) {x : Str} {W : Nat → List D → Prop} {ds : List D} {ex : Addr × Obj} (hhd : X.A.handled = some (.ref ex.1)) (hpn : ex ∈ X.pn) (hct : ∃ vs : Array Value, ex.2.data = .fields vs ∧ vs[2]? = some .none) (fl : D → Bool) (h : XL X it ρ fun es => es = ds ∧ W 0 [] ∧ ∀ acc, W ds.length acc → kl acc)
    (hc : Blk X scope fun Y => ∀ (m : Nat) d, ds[m]? = some d → XT Y c ((ρ.set i .un).set i (.dat d)) fun b => b = fl d)
    (he : Blk X scope fun Y => ∀ (m : Nat) d acc, ds[m]? = some d → W m acc → fl d = true → XE Y elt ((ρ.set i .un).set i (.dat d)) fun d' => acc.length < 100000 ∧ W (m + 1) (acc ++ [d']))
    (hn : ∀ (m : Nat) d acc, ds[m]? = some d → W m acc → fl d = false → W (m + 1) acc) (hN : X.N.Nodup)
    (hB : blkC X.N X.env.scope scope [(x, i)] = true := by first | decide +kernel | rfl) (hi : X.N[i]? = some x := by rfl)
    (hx : Blk X scope fun Y => L2.Loc Y.env.scope x := by first | exact fun _ _ _ _ _ => Or.inl rfl | exact fun _ _ _ _ _ => Or.inr rfl)
    (hf : Blk X scope fun Y => Y.fn x = true ∨ Y.env.scope.names.lookup x = some .local := by first | exact fun _ _ _ _ _ => Or.inr rfl | exact fun _ _ _ _ _ => Or.inl rfl)
    (hs : ∀ y, foldedSetIterable it X.env y = pure y := by intro _; rfl) :
    XN X (.ListComp elt [⟨.Name x px, it, [c], 0⟩] scope pos) ρ kl :=
  impE (pe_lcH (own := [(x, i)]) (g := gName i) (tt := cT X scope c) (te := cE X scope elt) hhd hpn hct hN anyE (blkOk_by hB)
    (fun s H C cl fp => pg_name hN hi (hx s H C cl fp) (hf s H C cl fp)) (fun s H C cl fp => pts_one (impT anyT fun σ H Q q => q s _ C cl fp)) (fun s H C cl fp => impE anyE fun σ H Q q => q s _ C cl fp) hs) fun σ H Q z => rd_lcF i fl h hc he hn σ H Q z
end
/-! ## try: came = act() / except (A, B, C) as e: .. -/
theorem xs_tryT {X : Cx} {ρ : Rho} {j : J} {x1 x2 x3 came actn n : Str} {A1 A2 A3 f : Addr} {ic ie ia nA m : Nat} {o : Out} {suite : List Stmt} {b₀ : Stmt} {p1 p2 p3 pt pa pc pcl ps pos pos' : Pos} {kt} (hd : ρ[ia]? = some (.dat (.tg (Act X.prog X.w X.K X.mg X.base nA f o) f))) (hN : X.N.Nodup) (gd : X.A.guards = some []) (hr : Room m X.A) (hnA : nA ≤ m)
    (m1 : X.mg x1 = some (.ref A1)) (m2 : X.mg x2 = some (.ref A2)) (m3 : X.mg x3 = some (.ref A3))
    (hok : ∀ d, o = .ok d → j.nx (ρ.set ic (.dat d)))
    (her : ∀ C fl d, o = .err C fl d → PySem.W.exmAny X.K (.ref C) [.ref A1, .ref A2, .ref A3] = some true ∧ ∀ (a : Addr) (oe : Obj) (dd : Addr) (pn : List (Addr × Obj)), Sui (X.suite a ((a, oe) :: pn)) X a oe pn C dd → (∃ vs : Array Value, oe.data = .fields vs ∧ vs[2]? = some .none) →
      XB (X.suite a ((a, oe) :: pn)) (b₀ :: suite) (ρ.set ie (.dat (errD X.K C dd fl d a))) { nx := fun _ => False, rt := j.rt })
    (hs : X.stack = X.env :: X.outer := by rfl) (hf : X.env.frame = some X.env.locals := by rfl) (hi : X.N[ie]? = some n := by rfl) (hln : X.env.kindOf n = some .local := by rfl) (hia : X.N[ia]? = some actn := by rfl) (hic : X.N[ic]? = some came := by rfl)
    (va : Vis X.env.scope actn := by first | exact Or.inl rfl | exact Or.inr (Or.inl rfl) | exact Or.inr (Or.inr rfl)) (a1 : (actn == ("__debug__" : Str)) = false := by decide) (a2 : (actn == ("__classdict__" : Str)) = false := by decide)
    (lc : Loc X.env.scope came := by first | exact Or.inl rfl | exact Or.inr rfl) (hfc : X.fn came = true ∨ X.env.scope.names.lookup came = some .local := by first | exact .inl rfl | exact .inr rfl)
    (hsw : swapsWith (.Call (.Name actn pa) [] [] pcl) (some (.Name came pc)) ps.line X.env = pure false := by rfl)
    (g1 : Gl X x1 := by rfl) (g2 : Gl X x2 := by rfl) (g3 : Gl X x3 := by rfl) (d1 : (x1 == ("__debug__" : Str)) = false := by decide) (d2 : (x2 == ("__debug__" : Str)) = false := by decide) (d3 : (x3 == ("__debug__" : Str)) = false := by decide)
    (hst : starEach [.Name x1 p1, .Name x2 p2, .Name x3 p3] X.env = [(false, eval (.Name x1 p1) X.env), (false, eval (.Name x2 p2) X.env), (false, eval (.Name x3 p3) X.env)] := by rfl) :
    XS X (.Try [.Assign [.Name came pc] (.Call (.Name actn pa) [] [] pcl) ps] [.ExceptHandler (some (.Tuple [.Name x1 p1, .Name x2 p2, .Name x3 p3] kt pt)) (some n) (b₀ :: suite) pos'] [] [] pos) ρ j := fun S0 H0 tr => by
  refine impS (ps_try_T (i := ie) (c1 := .ref A1) (c2 := .ref A2) (c3 := .ref A3) (tb := fun W D σ H => tX X.K ρ o W σ H fun v H1 => gName ic v σ H1 D.nx)
    (ts := fun a cls d D σ H => ∀ (oe : Obj) (pn : List (Addr × Obj)), L2N.Zn cls d oe → (∃ vs, oe.data = .fields vs) → aSs (X.suite a ((a, oe) :: pn)) (b₀ :: suite) D σ H) hs hf hN hi hln ⟨g1, d1, m1⟩ ⟨g2, d2, m2⟩ ⟨g3, d3, m3⟩ hst
    (fun W pn xe tk => pss_one (ps_set (X := X.tr pn xe) hN hic lc (px_act (X := X.tr pn xe) (i := ia) tk gd hr hd hnA hia va a1 a2) hsw hfc))
    (fun a oe cls d pn hz hv => impSs anySs fun D σ H h => h oe pn hz hv)) fun En σ H ⟨⟨S, h1, h2, h3, h4, E⟩, fit⟩ => ?_
  refine ⟨S, E, fun v H2 d ho e2 a => ?_, fun cls dct H2 C fl d ho e2 er => ?_⟩
  · exact fit.nx _ _ _ (StOk.store h1 h2 h3 (h4.trans e2) (E.mono e2) a) (hok d ho)
  · obtain ⟨hx, su⟩ := her C fl d ho
    have er' := er
    obtain ⟨rfl, dd, fs, v', hdd, hfs, hl, ha⟩ := er'
    subst hdd
    refine ⟨hx, fun a na oe pn hz hv => ?_⟩
    have hct : ∃ vs : Array Value, oe.data = .fields vs ∧ vs[2]? = some .none := by
      obtain ⟨vs, e1⟩ := hv
      exact ⟨vs, e1, hz.2.2 vs e1⟩
    exact ⟨_, su a oe dd pn ⟨rfl, hz.zc, hv⟩ hct S0 H0 tr, StOk.store h1 h2 h3 (h4.trans e2) (E.mono e2) (.tg a fun H' e' => er.mono e'), ⟨fun _ _ _ _ z => z.elim, fun v H' d' e' a' k' => fit.rt v H' d' e' a' k', fun _ _ _ _ z => z.elim, fun _ _ _ _ z => z.elim⟩⟩
end VL

set_option Elab.async false
set_option linter.all false
set_option maxRecDepth 100000
set_option maxHeartbeats 4000000
namespace VL
open PySem PySem.Spec PyProof.Rows L2 LamX
/-! ## Defs that make lambdas: their code object is told -/
/-- the code that the written part names for the def at f -/
def codeVal (K : PySem.W.Frag) (f : Addr) : Option Value := match K.lookup f with
  | some ⟨_, _, .func fd, _⟩ => some fd.code
  | _ => none
section
variable [Tb]
variable {P : Program} {w : World} {K : PySem.W.Frag} {mg : Str → Option Value} {base : Heap}
theorem xdefGC {x qual : Str} {st : Stmt} {f : Addr} {fd : FuncData} {N ps : List Str} {n : Nat} {C : Con} (F : Fun K x qual st f fd) (Sc : FnScope N ps (defScope st))
    (body : ∀ (ds : List D) (k : D → Prop), ds.length = ps.length → C ds k → ∀ (cdv : Value), codeVal K f = some cdv → ∀ (A : Around) (outer : List Env) (s : Shared) (H : Hp) (E : XK), A.guards = some [] → Room n (A.deeper (PyProof.Rows.envOfC qual (defScope st) s.heap.objs.size f cdv)) →
      XB (cxOf CX0 P w K mg base N qual (defScope st) f cdv A outer s H E).nox (defBody st) (startR N.length ds) { nx := fun _ => k .non, rt := k }) : FnG P w K mg base (n + 1) f fd ps (spC K ps.length C) := by
  have hpl : ps.length ≤ N.length := by
    have := congrArg List.length Sc.pre
    rw [List.length_take] at this
    omega
  obtain ⟨oc, od, kV, doc, pm, an, cdv, ct, osl, rfl, lk, hcd⟩ := F.ex
  have hcv : codeVal K f = some cdv := by
    unfold codeVal
    rw [lk]
  refine fnG_of lk hcd Sc (fun vs H Q E h => ?_) fun A outer s H vs Q E gd hr h => ?_
  · obtain ⟨_, _, _, hl, _⟩ := h
    exact hl
  · obtain ⟨S, ds, k, hl, tr, a, hc, q⟩ := h
    have hb := body ds k (by rw [← a.length]; exact hl) hc cdv hcv A outer s H E gd hr
    refine ⟨_, PSs.nox (hb S H tr), start_ok tr (by omega) a, ⟨fun σ' H' ρ' ok hn => ?_, fun v H' d e at_ hk => q v H' d e at_ hk, fun _ _ _ _ z => z.elim, fun _ _ _ _ z => z.elim⟩⟩
    obtain ⟨_, _, _, _, e, _⟩ := ok
    exact q .non H' .non e .non hn
/-- what a def must know to make lambdas -/
structure Lmk (K : PySem.W.Frag) (mg : Str → Option Value) (base : Heap) (f : Addr) (q : Str) : Prop where
  ex : ∃ c P, TabB base mg c P ∧ codeVal K f = some (.ref c) ∧ (P, q) ∈ Tb.T ∧ ∀ p ∈ Tb.T, p.1 = P → p.2 = q
end
/-! ## a law's end, with tables -/
def scrT (K : PySem.W.Frag) (a : Addr) (vs : List Value) (ns : List Int) (ts : List Addr) : Hp := fun b => if b ∈ ts then some (.tbl #[]) else scrH K a vs ns b
theorem lawGT [Tb] {P : Program} {w : World} {K : PySem.W.Frag} {mg mb : Str → Option Value} {k : Nat} {fa a : Addr} {fd : FuncData} {x : Str} {C : Con} {s₁ : Shared} {vs : List Value} {ns : List Int} {cs : List (Addr × Addr)}
    (hTb : ∀ p ∈ Tb.T, p.1 ∈ cs.map (·.2)) (KX : K.In s₁.heap) (hns : s₁.heap.Ns mainGlobals mg) (hb : s₁.heap.Ns builtinsNs mb) (hbb : ∀ x : Str, x ≠ "__name__" → mb x = bootBuiltins x) (hlim : s₁.heap.NoLimit) (hg : s₁.gens = #[])
    (hT : ∀ p ∈ cs, s₁.heap.get? p.2 = some { cls := .none, data := .fields #[] }) (nT : ∀ p ∈ cs, K.lookup p.2 = none) (Ch : ∀ p ∈ cs, PySem.W.CodeHd s₁.heap p.1 p.2)
    (hbm : ∃ (bm : Addr) (ob : Obj), mg "__builtins__" = some (.ref bm) ∧ bm ≠ builtinsNs ∧ s₁.heap.get? bm = some ob ∧ ob.cls = .type "module" ∧ ob.dict = some builtinsNs ∧ ob.data = .plain)
    (ha : s₁.heap.get? a = some { cls := .type "list", data := .seq vs.toArray }) (hi : IntsAre vs ns) (hl : ns.length ≤ sizeLine) (hr : Room k callerA)
    (F : ∀ base : Heap, K.In base → base.Ns mainGlobals mg → (∀ p ∈ cs, TabB base mg p.1 p.2) → FnG P w K mg base k fa fd [x] (spC K 1 C)) (hbind : ∀ (s : Shared) (u : Value), BindsTo s fd ⟨[u], []⟩ [(x, u)]) (hC : C [.lst (ns.map .int)] fun d => d = .bl true) :
    codeAny (model P w) callerA (.call (.ref fa) ⟨[.ref a], []⟩) (fun r s' => r = .ok (.ret (.bool true)) ∧ OldK s₁.heap s'.heap ∧ s'.os = s₁.os ∧ AllBare s'.gens) s₁ := by
  have rv := vals_ints hi
  have lv : vs.length = ns.length := hi.length
  have memT : ∀ p ∈ cs, p.2 ∈ cs.map (·.2) := fun p hp => List.mem_map.mpr ⟨p, hp, rfl⟩
  have isT : ∀ b, b ∈ cs.map (·.2) → s₁.heap.get? b = some { cls := .none, data := .fields #[] } ∧ K.lookup b = none := fun b hb => by
    obtain ⟨p, hp, e⟩ := List.mem_map.mp hb
    rw [← e]
    exact ⟨hT p hp, nT p hp⟩
  generalize hH : scrT K a vs ns (cs.map (·.2)) = H
  have inT : ∀ b, b ∈ cs.map (·.2) → H b = some (.tbl #[]) := fun b hb => by rw [← hH]; exact if_pos hb
  have notT : ∀ b, b ∉ cs.map (·.2) → H b = scrH K a vs ns b := fun b hb => by rw [← hH]; exact if_neg hb
  have some_ : ∀ b u, H b = some u → (b ∈ cs.map (·.2) ∧ u = .tbl #[]) ∨ (b ∉ cs.map (·.2) ∧ b = a ∧ K.lookup a = none ∧ u = .frz { cls := .type "list", data := .seq vs.toArray } (.lst (ns.map V.int))) := fun b u z => by
    by_cases hb : b ∈ cs.map (·.2)
    · rw [inT b hb] at z
      exact .inl ⟨hb, (Option.some.inj z).symm⟩
    · rw [notT b hb] at z
      obtain ⟨r1, r2, r3⟩ := scr_some z
      exact .inr ⟨hb, r1, r2, r3⟩
  have seen : ∀ {b : Addr} {o : Obj}, s₁.heap.get? b = some o → H b = none → (hidT s₁.heap H).get? b = some o := fun z n => hidT_get z n
  have plain : ∀ {b : Addr} {o : Obj}, s₁.heap.get? b = some o → (∀ vs n, o.data ≠ .seq vs n) → o.data ≠ .fields #[] → H b = none := fun {b o} z d1 d2 => by
    match q : H b with
    | none => rfl
    | some u =>
      rcases some_ b u q with ⟨r, _⟩ | ⟨_, r, _⟩
      · rw [(isT b r).1] at z
        cases z
        exact absurd rfl d2
      · rw [r, ha] at z
        cases z
        exact absurd rfl (d1 _ _)
  have dictNo : ∀ {b : Addr} {o : Obj} {es : Array DictEntry} {ep : Nat}, s₁.heap.get? b = some o → o.data = .dict es ep → H b = none := fun {b o es ep} z d => plain z (fun _ _ y => by rw [d] at y; cases y) fun y => by rw [d] at y; cases y
  have names : ∀ {b : Addr} {m : Str → Option Value}, s₁.heap.Ns b m → (hidT s₁.heap H).Ns b m := fun {b m} ⟨o, es, ep, z, d, r⟩ => ⟨o, es, ep, seen z (dictNo z d), d, r⟩
  have Kb : K.In (hidT s₁.heap H) := fun b o z => seen (KX b o z) (by
    match q : H b with
    | none => rfl
    | some u =>
      rcases some_ b u q with ⟨r, _⟩ | ⟨_, r, r2, _⟩
      · rw [(isT b r).2] at z
        cases z
      · rw [r, r2] at z
        cases z)
  have Md : Mod K mg (hidT s₁.heap H) := ⟨Kb, names hns, ⟨mb, names hb, hbb⟩, let ⟨mc, h1, h2⟩ := hlim; ⟨mc, names h1, h2⟩⟩
  have ok : HOk P w H s₁.heap := fun b u z => by
    rcases some_ b u z with ⟨r, r2⟩ | ⟨_, r, _, r2⟩
    · rw [r2]
      exact (isT b r).1
    · rw [r, r2]
      exact ⟨ha, by rw [List.length_map]; exact hl, vs, _, rv, ha⟩
  have aT : a ∉ cs.map (·.2) := fun z => by
    have q := (isT a z).1
    rw [ha] at q
    cases q
  have sq : SqL K H a (ns.map V.int) := by
    match q : K.lookup a with
    | some o =>
      have z := KX a o q
      rw [ha] at z
      have z2 := Option.some.inj z
      exact .inr ⟨o, vs.toArray, 0, q, by rw [← z2], by rw [← z2], by rw [← z2], by rw [List.size_toArray, lv]; exact hl, by simpa using rv⟩
    | none =>
      refine .inl (.inr ⟨{ cls := .type "list", data := .seq vs.toArray }, ?_⟩)
      rw [notT a aT]
      exact if_pos ⟨rfl, q⟩
  have allInt : ∀ ms : List Int, AtL K H (ms.map V.int) (ms.map D.int) := fun ms => by
    induction ms with
    | nil => exact .nil
    | cons m r ih => exact .cons (.int m) ih
  have hid0 : hide [] H = H := funext fun b => hide_out List.not_mem_nil
  have TB : ∀ p ∈ cs, TabB (hidT s₁.heap H) mg p.1 p.2 := fun p hp => by
    have hTp := hT p hp
    refine ⟨?_, ?_, fun z => ?_⟩
    · obtain ⟨o, us, file, tf, flags, tg, inF, text, tt, e1, r1, r2, r3, r⟩ := Ch p hp
      refine ⟨o, us, file, tf, flags, tg, inF, text, tt, seen e1 (plain e1 (fun _ _ y => by rw [r2] at y; cases y) fun y => ?_), r1, r2, r3, r⟩
      rw [r2] at y
      cases y
      simp at r3
    · obtain ⟨bm, ob, b1, b2, b3, b4, b5, b6⟩ := hbm
      refine ⟨bm, ob, b1, b2, fun q => ?_, fun q => ?_, seen b3 (plain b3 (fun _ _ y => by rw [b6] at y; cases y) fun y => by rw [b6] at y; cases y), b4, b5, b6⟩
      · obtain ⟨o, es, ep, e, hd, _⟩ := hns
        rw [q, e] at b3
        cases b3
        rw [hd] at b6
        cases b6
      · rw [q, hTp] at b3
        cases b3
        cases b6
    · obtain ⟨o, es, ep, e, hd, _⟩ := hns
      rw [z, hTp] at e
      cases e
      cases hd
  have e0 : Env0 P w K mg (hidT s₁.heap H) callerA [] s₁ H := ⟨rfl, Md, fun b o z => of_hidT z, Nat.le_of_eq (hidT_size _ _), trivial, fun b z => (List.not_mem_nil z).elim, ok, .of_eq hg⟩
  refine codeAny_mono ((F _ Kb (names hns) TB).run callerA [] s₁ H ⟨[.ref a], []⟩ [.ref a] [.ref a] (fun v _ => v = .bl true) (fun _ _ _ => False) rfl hr e0 (hbind s₁ (.ref a)) (.cons rfl .nil)
    ⟨[], [.lst (ns.map .int)], fun d => d = .bl true, rfl, ⟨fun b z => (List.not_mem_nil z).elim, fun p hp => TabS.nil (inT _ (hTb p hp))⟩, .cons (.lst (by rw [hid0]; exact sq) (by rw [hid0]; exact allInt ns)) .nil, hC, fun v H2 d _ at_ hd => by
      subst hd
      exact at_.inv_bl⟩) fun r s' out => ?_
  match r, out with
  | .error _, out => exact (show False from out).elim
  | .ok .next, out => exact False.elim out
  | .ok .brk, out => exact False.elim out
  | .ok .cont, out => exact False.elim out
  | .ok (.ret u), ⟨v, H', os, bare, un, okE, rE, qE⟩ =>
    subst qE
    cases (show u = Value.bool true from rE)
    have key : ∀ b o, b ∉ cs.map (·.2) → s₁.heap.get? b = some o → s'.heap.get? b = some o := fun b o nb z => by
      match q : H b with
      | none => exact un.keep b o z q (fun y => List.not_mem_nil y) (fun y => List.not_mem_nil y)
      | some u2 =>
        rcases some_ b u2 q with ⟨r, _⟩ | ⟨_, r1, r2, r3⟩
        · exact absurd r nb
        · rw [r3] at q
          have kept := un.frzs b _ _ q
          obtain ⟨y1, _⟩ := ok b _ q
          obtain ⟨y2, _⟩ := okE b _ kept
          rw [z] at y1
          rw [Option.some.inj y1]
          exact y2
    have grown : ∀ p ∈ cs, ∃ more : Array Value, s'.heap.get? p.2 = some { cls := .none, data := .fields more } := fun p hp => by
      obtain ⟨more, z⟩ := un.tbls p.2 #[] (inT _ (memT p hp))
      exact ⟨_, okE p.2 _ z⟩
    refine ⟨rfl, ⟨fun b o e => ?_, fun b o e => ?_⟩, os, bare⟩
    · by_cases hb : b ∈ cs.map (·.2)
      · obtain ⟨p, hp, ep⟩ := List.mem_map.mp hb
        obtain ⟨more, hm⟩ := grown p hp
        rw [← ep] at e ⊢
        rw [hT p hp] at e
        cases e
        exact .inr (.inl ⟨((Ch p hp).tab (hT p hp)).isCodeTable, rfl, #[], more, rfl, by rw [Array.empty_append]; exact hm⟩)
      · exact .inl (key b o hb e)
    · by_cases hb : b ∈ cs.map (·.2)
      · obtain ⟨p, hp, ep⟩ := List.mem_map.mp hb
        obtain ⟨more, hm⟩ := grown p hp
        rw [← ep]
        exact ⟨_, hm⟩
      · exact ⟨o, key b o hb e⟩
theorem walkGT {l : PySem.W.OpenLaw} {n k : Nat} {q : Program} {loose : List Str} {XP : (Str → Option Value) → Heap → Prop} {YP : World → Heap → Prop} {d : DefRec} {x : Str} {C : Con}
    (hn : l.most = some n) (hn2 : n ≤ sizeLine) (hdf : d.params.defaults = []) (hr : Room k callerA)
    (F : ∀ (w : World) (mg : Str → Option Value) (fa : Addr) (h : Heap), YP w h → h.Ns mainGlobals mg → mg d.name = some (.ref fa) →
      ∃ (K : PySem.W.Frag) (fd : FuncData) (cs : List (Addr × Addr)) (tb : Tb), K.In h ∧ (∀ p ∈ tb.T, p.1 ∈ cs.map (·.2)) ∧ (∀ p ∈ cs, h.get? p.2 = some { cls := .none, data := .fields #[] }) ∧ (∀ p ∈ cs, K.lookup p.2 = none) ∧ (∀ p ∈ cs, PySem.W.CodeHd h p.1 p.2) ∧ (∀ (s : Shared) (u : Value), BindsTo s fd ⟨[u], []⟩ [(x, u)]) ∧
        ∀ base : Heap, K.In base → base.Ns mainGlobals mg → (∀ p ∈ cs, TabB base mg p.1 p.2) → FnG l.prog w K mg base k fa fd [x] (@spC tb K 1 C))
    (hC : ∀ ns : List Int, ns.length ≤ n → C [.lst (ns.map .int)] fun d => d = .bl true) :
    PySem.W.WalkO q loose XP YP l.row.toRowW d [] (fun f vs => PySem.call f vs) := by
  refine Att.attach_call hn hdf fun w s₀ s₁ mg mb fa o pm cd doc a vs ns G Y ho hd hcd hmg hobj hints hlen hg => ?_
  obtain ⟨K, fd, cs, tb, KX, hTb, hT, nT, Ch, hb, hF⟩ := F w mg fa _ Y G.T.g hmg
  exact @lawGT tb _ _ _ _ _ _ _ _ _ _ _ _ _ _ cs hTb KX G.T.g G.T.b G.T.builtins G.T.nolimit hg hT nT Ch G.T.bmain hobj hints (Nat.le_trans hlen hn2) hr hF hb (hC ns hlen)
end VL

set_option Elab.async false
set_option linter.all false
set_option maxRecDepth 100000
set_option maxHeartbeats 4000000
namespace VL
variable [Tb]
open PySem PySem.Spec PyProof.Rows L2 LamX
/-! ## A method that may raise, of a thing of an own class -/
structure Fm (P : Program) (w : World) (K : PySem.W.Frag) (mg : Str → Option Value) (base : Heap) (k : Nat) (C : Addr) (m : Str) (ps : List Str) (Cn : ConX) : Prop where
  ex : ∃ g fd, Meth K C m g ∧ Binds K fd ps [] ∧ FnOk P w K mg base (L2N.CX P w) k g fd ps (spX K ps.length Cn)
structure FmK (P : Program) (w : World) (K : PySem.W.Frag) (mg : Str → Option Value) (base : Heap) (k : Nat) (C : Addr) (m : Str) (ps ks : List Str) (Cn : ConX) : Prop where
  ex : ∃ g fd, Meth K C m g ∧ ps.length = ks.length + 1 ∧ (∀ (s : Shared) (a : Addr) (ws : List Value), K.In s.heap → ws.length = ks.length → BindsTo s fd ⟨[.ref a], ks.zip ws⟩ (ps.zip (.ref a :: ws))) ∧ FnOk P w K mg base (L2N.CX P w) k g fd ps (spX K ps.length Cn)
section
variable {X : Cx} {E : XK} {ρ : Rho} {o' : Out} {oe e : Expr} {es : List Expr} {kws : List Keyword} {pos apos p : Pos} {m : Str} {C : Addr} {n j : Nat} {ps ks : List Str} {Cn : ConX} {pl : Sem Bool}
theorem xx_meth (A : Air X E) (sc : SlX.SCls X.K C) (F : Fm X.prog X.w X.K X.mg X.base n C m ps Cn) (hr : Room j X.A) (h : XE X oe ρ fun d => ∃ xs, d = .obj C xs ∧ XA X (e :: es) ρ fun ds => ds.length + 1 = ps.length ∧ Cn (d :: ds) o') (hnm : n ≤ j := by decide)
    (hst : starEach (e :: es) X.env = (false, eval e X.env) :: starEach es X.env := by rfl) (hpl : (backTo pos (starEach es X.env)).any (·.1) = false := by rfl)
    (ht : eval (.Call (.Attribute oe m apos) (e :: es) [] pos) X.env = (do
      let ov ← eval oe X.env
      standAt apos.atName
      let (f, first) ← holding [ov] (getMethod ov m pl)
      callWith pos f first (backTo pos (starEach (e :: es) X.env)) (backToKw pos (keywordEach [] X.env))) := by rfl) :
    XX X (wE E) (.Call (.Attribute oe m apos) (e :: es) [] pos) ρ o' := by
  obtain ⟨g, fd, h1, h2, h3⟩ := F.ex
  have raw := (FnOk.raw h3 h2 .nil).imp (sp' := spX X.K ps.length Cn) fun vs H Q E h => by rw [List.append_nil]; exact h
  refine impE (SlX.pe_methSl (E := E) (pl := pl) anyE sc h1 raw (hr.mono hnm) (L2N.passes_call A.tk fun _ _ _ _ z => z) anyA hst hpl ht) fun σ H Q ⟨S, EN, q, r⟩ => useE h EN fun v H1 d e1 a1 ⟨xs, hd, hc⟩ => ?_
  subst hd
  have a1' := a1
  obtain ⟨a, dx, vs, rfl, g1, g2⟩ := a1.inv_obj
  refine ⟨a, dx, vs.map some, rfl, ex_s hide_le g1, useA hc (EN.mono e1) fun ws H2 ds e2 a2 ⟨hl, hk⟩ => ?_⟩
  exact ⟨S, .obj C xs :: ds, o', by rw [List.length_cons, a2.length]; exact hl, (EN.mono (e1.trans e2)).trk, .cons (a1'.mono (hide_ex e2)) a2, hk, fun v H3 d ho e3 a3 => q v H3 d ho (e1.trans (e2.trans e3)) a3, fun cls dct H3 C f d ho e3 er => r cls dct H3 C f d ho (e1.trans (e2.trans e3)) er⟩
theorem xx_methK (A : Air X E) (sc : SlX.SCls X.K C) (F : FmK X.prog X.w X.K X.mg X.base n C m ps ks Cn) (hr : Room j X.A) (h : XE X oe ρ fun d => ∃ xs, d = .obj C xs ∧ XK' X kws ρ fun ds => ds.length = ks.length ∧ Cn (d :: ds) o') (hnm : n ≤ j := by decide)
    (hall : (backToKw pos (keywordEach kws X.env)).all (·.1.isSome) = true := by rfl) (hks : (backToKw pos (keywordEach kws X.env)).filterMap (·.1) = ks := by rfl)
    (hpl : ((backTo pos (starEach [] X.env)).any (·.1) || (backToKw pos (keywordEach kws X.env)).any (·.1.isNone)) = false := by rfl)
    (ht : eval (.Call (.Attribute oe m apos) [] kws pos) X.env = (do
      let ov ← eval oe X.env
      standAt apos.atName
      let (f, first) ← holding [ov] (getMethod ov m pl)
      callWith pos f first (backTo pos (starEach [] X.env)) (backToKw pos (keywordEach kws X.env))) := by rfl) :
    XX X (wE E) (.Call (.Attribute oe m apos) [] kws pos) ρ o' := by
  obtain ⟨g, fd, h1, hlen, h2, h3⟩ := F.ex
  refine ⟨fun pins s σ H Q I ⟨S, EN, q, r⟩ => ?_⟩
  refine PySem.W.methodCall_KW (pl := pl) (thn (anyE.run pins s σ H (fun v H1 => ∃ d, Ex H H1 ∧ At X.K (hide S H1) v d ∧ ∃ xs, d = .obj C xs ∧ XK' X kws ρ fun ds => ds.length = ks.length ∧ Cn (d :: ds) o') I ⟨_, h, S, EN, fun v H1 d e1 a1 hk => ⟨d, e1, a1, hk⟩⟩) fun u s1 ⟨x, H1, I1, rx, d, e1, a1, xs, hd, hc⟩ => ?_) ht
  subst hd
  have a1' := a1
  obtain ⟨a, dx, vs, rfl, g1, g2⟩ := a1.inv_obj
  obtain rfl : u = Value.ref a := rx
  refine SlX.getmethsl_ok I1 (ex_s hide_le g1) sc h1 ?_
  refine PySem.W.callWith_KW0 (first := [.ref a]) (h₀ := X.base) I1.ok.mod.kin h1.kp hall ?_ hpl
  refine thn (anyK.run pos pins s1 σ H1 (fun ws H2 => ∃ ds, Ex H1 H2 ∧ AtL X.K (hide S H2) ws ds ∧ ds.length = ks.length ∧ Cn (.obj C xs :: ds) o') I1 ⟨_, hc, S, EN.mono e1, fun ws H2 ds e2 a2 hk => ⟨ds, e2, a2, hk⟩⟩) fun ws s2 ⟨zs, H2, I2, rz, ds, e2, a2, l1, hk⟩ => ⟨I2.kIn, ?_⟩
  rw [hks]
  have lw : ws.length = ks.length := by rw [← rz.length, a2.length]; exact l1
  refine wpAny_call (codeAny_mono (h3.run X.A X.stack s2 H2 ⟨[.ref a], ks.zip ws⟩ (.ref a :: ws) (.ref a :: zs) Q E (hr.mono hnm) I2.env0 (h2 s2 a ws I2.kIn lw) (.cons rfl rz) ⟨S, .obj C xs :: ds, o', by rw [List.length_cons, a2.length, l1]; exact hlen.symm, (EN.mono (e1.trans e2)).trk, .cons (a1'.mono (hide_ex e2)) a2, hk, fun v H3 d ho e3 a3 => q v H3 d ho (e1.trans (e2.trans e3)) a3, fun cls dct H3 C f d ho e3 er => r cls dct H3 C f d ho (e1.trans (e2.trans e3)) er⟩) fun r s' hq => ?_)
  match r, hq with
  | .error er, hq => exact L2N.passes_call A.tk (fun _ _ _ _ z => z) pins σ H2 s2 er s' I2 hq
  | .ok (.ret u), hq => exact I2.after hq
  | .ok .next, hq => exact False.elim hq
  | .ok .brk, hq => exact False.elim hq
  | .ok .cont, hq => exact False.elim hq
end
/-! ## Statements within which an error may come out -/
structure FitE (K : PySem.W.Frag) (S0 : List Addr) (H0 : Hp) (o : Out) (E : XK) : Prop where
  er : ∀ cls dct H C f d, o = .err C f d → Ex H0 H → ErrAt K (hide S0 H) cls dct C f d → E cls dct H
def XSr (X : Cx) (E : XK) (st : Stmt) (ρ : Rho) (j : J) (o : Out) : Prop := ∀ S0 H0, Trk S0 H0 → PS X st fun En σ H => StOk X.K S0 H0 H σ ρ ∧ Fit X.K S0 H0 j En ∧ FitE X.K S0 H0 o E
def XBr (X : Cx) (E : XK) (sts : List Stmt) (ρ : Rho) (j : J) (o : Out) : Prop := ∀ S0 H0, Trk S0 H0 → PSs X sts fun En σ H => StOk X.K S0 H0 H σ ρ ∧ Fit X.K S0 H0 j En ∧ FitE X.K S0 H0 o E
section
variable {X : Cx} {E : XK} {ρ : Rho} {o : Out} {j : J} {e c : Expr} {st : Stmt} {rest sts p q body : List Stmt} {pos pos' p1 p2 px py pt : Pos} {kt : Nat}
theorem xbr_nil (h : j.nx ρ) : XBr X E [] ρ j o := fun S0 H0 tr => impSs pss_nil fun En σ H ⟨ok, f, _⟩ => f.nx σ H ρ ok h
theorem xbr_cons (h : XS X st ρ { j with nx := fun ρ' => XBr X E rest ρ' j o }) : XBr X E (st :: rest) ρ j o := fun S0 H0 tr =>
  impSs (pss_cons anyS anySs) fun En σ H ⟨ok, f, fe⟩ => ⟨_, h S0 H0 tr, ok, ⟨fun σ' H' ρ' ok' hb => ⟨_, hb S0 H0 tr, ok', f, fe⟩, f.rt, f.bk, f.ct⟩⟩
theorem xbr_consR (h : XSr X E st ρ { j with nx := fun ρ' => XBr X E rest ρ' j o } o) : XBr X E (st :: rest) ρ j o := fun S0 H0 tr =>
  impSs (pss_cons anyS anySs) fun En σ H ⟨ok, f, fe⟩ => ⟨_, h S0 H0 tr, ok, ⟨fun σ' H' ρ' ok' hb => ⟨_, hb S0 H0 tr, ok', f, fe⟩, f.rt, f.bk, f.ct⟩, fe⟩
theorem xz_consR (h : XSr X E st ρ { nx := fun ρ' => XZ X E rest ρ' o, rt := fun d => o = .ok d } o) : XZ X E (st :: rest) ρ o := fun S0 H0 tr =>
  impSs (pss_cons anyS anySs) fun En σ H ⟨ok, f⟩ => ⟨_, h S0 H0 tr, ok, ⟨fun σ' H' ρ' ok' hb => ⟨_, hb S0 H0 tr, ok', f⟩, fun v H d e a ho => f.rt v H d ho e a, fun _ _ _ _ z => z.elim, fun _ _ _ _ z => z.elim⟩, ⟨f.er⟩⟩
theorem xsr_if (h : XT X c ρ fun b => if b = true then XBr X E p ρ j o else XBr X E q ρ j o) : XSr X E (.If c p q pos) ρ j o := fun S0 H0 tr =>
  impS (ps_if anyT anySs anySs) fun En σ H ⟨⟨S, h1, h2, h3, h4, EN⟩, f⟩ => useT h EN fun b H2 e2 hk => by
    have ok : StOk X.K S0 H0 H2 σ ρ := ⟨S, h1, h2, h3, h4.trans e2, EN.mono e2⟩
    cases b with
    | true => exact ⟨_, hk S0 H0 tr, ok, f⟩
    | false => exact ⟨_, hk S0 H0 tr, ok, f⟩
theorem xbr_raise {n m : Nat} {x fl : Str} {C : Addr} {pe : Pos} (A : Air X E) (R : Er X.prog X.w X.K X.mg X.base n x C fl) (hr : Room m X.A) (h : XE X e ρ fun d => o = .err C fl d) (hnm : n + 1 ≤ m := by decide) (hg : Gl X x := by rfl)
    (hdb : (x == ("__debug__" : Str)) = false := by decide) (he : starEach [e] X.env = (false, eval e X.env) :: starEach [] X.env := by rfl) (hpl : (backTo pos (starEach [] X.env)).any (·.1) = false := by rfl) :
    XBr X E (.Raise (some (.Call (.Name x pe) [e] [] pos)) none pos' :: rest) ρ j o := fun S0 H0 tr =>
  impSs (pss_cons (L2N.ps_raise A.calm A.tk (pmk_err R hr anyE hnm hg hdb he hpl)) anySs) fun En σ H ⟨⟨S, h1, h2, h3, h4, EN⟩, _, f⟩ => useE h EN fun v H2 d e2 a hk => ⟨v, rfl, fun dx nd => by
    have nS : dx ∉ S := hide_new (EN.mono e2).trk nd
    refine f.er _ _ _ C fl d hk (h4.trans (e2.trans (Ex.new nd))) ⟨rfl, dx, [(fl, v)], v, rfl, ?_, by simp, (a.mono (hide_sub h1)).mono (hide_ex (Ex.new nd))⟩
    rw [hide_out fun z => nS (h1 dx z), upd_same]⟩
/-- for at, x in enumerate(a tuple): what is raised within comes out -/
theorem xsr_forET (i l : Nat) {x y : Str} (h : XE X e ρ fun d => ∃ ds, d = .tup ds ∧ ∃ W : Nat → Rho → Prop, W 0 ρ ∧
      (∀ (m : Nat) d ρ', ds[m]? = some d → W m ρ' → XBr X E body ((ρ'.set i (.dat (.int m))).set l (.dat d)) { nx := W (m + 1), rt := j.rt, bk := j.nx, ct := W (m + 1) } o) ∧ ∀ ρ', W ds.length ρ' → j.nx ρ') (hm : X.mg "enumerate" = none) (hN : X.N.Nodup) (hp : PassesOwn (model X.prog X.w) X.A X.env X.xe)
    (hc : X.calm = true := by rfl) (hg : Gl X "enumerate" := by rfl) (hi : X.N[i]? = some x := by rfl) (hl : X.N[l]? = some y := by rfl) (hx : Loc X.env.scope x := by first | exact Or.inl rfl | exact Or.inr rfl) (hy : Loc X.env.scope y := by first | exact Or.inl rfl | exact Or.inr rfl)
    (hfx : X.fn x = true ∨ X.env.scope.names.lookup x = some .local := by first | exact .inl rfl | exact .inr rfl) (hfy : X.fn y = true ∨ X.env.scope.names.lookup y = some .local := by first | exact .inl rfl | exact .inr rfl)
    (he : starEach (e :: []) X.env = (false, eval e X.env) :: starEach [] X.env := by rfl) (he2 : starEach [e] X.env = [(false, eval e X.env)] := by rfl)
    (hs : ∀ y, foldedSetIterable (.Call (.Name "enumerate" p1) [e] [] p2) X.env y = pure y := by intro _; rfl)
    (a1 : (assignEach ([.Name x px, .Name y py] : List Expr) X.env).map (·.2) = assign (.Name x px) X.env :: (assignEach [.Name y py] X.env).map (·.2) := by rfl) (a2 : (assignEach ([.Name y py] : List Expr) X.env).map (·.2) = assign (.Name y py) X.env :: (assignEach [] X.env).map (·.2) := by rfl)
    (b1 : (assignEach ([.Name x px, .Name y py] : List Expr) X.env).length = 2 := by rfl) (b2 : (assignEach ([.Name x px, .Name y py] : List Expr) X.env).findIdx? (·.1) = none := by rfl) :
    XSr X E (.For (.Tuple [.Name x px, .Name y py] kt pt) (.Call (.Name "enumerate" p1) [e] [] p2) body [] pos) ρ j o := fun S0 H0 tr =>
  impS (ps_for hp hc (pi_enumT hg hm (pa_cons anyE pa_nil he) he2) (pg_tup (n := 2) hc (pgs_cons (pg_name hN hi hx hfx) (pgs_cons (pg_name hN hl hy hfy) pgs_nil a2) a1) b1 b2) anySs hs) fun En σ H ⟨⟨S, h1, h2, h3, h4, EN⟩, f, fe⟩ => useE h EN fun v H1 d e1 az ⟨ds, hd, W, w0, hw, hd2⟩ => by
    subst hd
    obtain ⟨a, vs, rfl, g1, g2⟩ := az.inv_tup
    obtain ⟨H2, ok2, x1, x2, x3⟩ := StOk.base tr h1 h2 h3 (h4.trans e1) (EN.mono e1)
    have f2 := f.weaken x1 x2
    have fe2 : FitE X.K S0 H2 o E := ⟨fun cls dct H C f d ho ex er => fe.er cls dct H C f d ho (x1.trans ex) er⟩
    have tr2 : Trk S0 H2 := tr.mono x1
    refine ⟨a, vs, rfl, ex_t hide_le g1, for_enumT (K := X.K) (a := a) (xs := vs) (fun m σ' H' => ∃ ρ', StOk X.K S0 H2 H' σ' ρ' ∧ W m ρ') ⟨ρ, ok2, w0⟩ ?_ ?_ ?_⟩
    · rintro m σ' H' _ ⟨ρ', ⟨S', k1, k2, k3, k4, E'⟩, w'⟩
      exact ex_t hide_le (ex_t (x3 H' S' k2 k4) g1)
    · rintro m y0 σ' H' T hm' ⟨ρ', ⟨S', k1, k2, k3, k4, E'⟩, w'⟩ hT
      obtain ⟨d, q1, q2⟩ := g2.get' hm'
      have eT : Ex H' (upd H' T (.tup [.int (m : Nat), y0])) := Ex.new hT
      refine ⟨T, _, rfl, SqT.of upd_same, rfl, .int (m : Nat), [y0], rfl, y0, [], rfl, rfl, ?_⟩
      have s1 := StOk.store (i := i) (v := .int (m : Nat)) (d := .int m) k1 k2 k3 (k4.trans eT) (E'.mono eT) (.int _)
      obtain ⟨S'', z1, z2, z3, z4, z5⟩ := s1
      have at0 : At X.K (hide S'' (upd H' T (.tup [.int (m : Nat), y0]))) y0 d := q2.mono (x3 _ S'' z2 z4)
      refine ⟨_, hw m d ρ' q1 w' S0 H2 tr2, StOk.store z1 z2 z3 z4 z5 at0, ⟨?_, f2.rt, f2.nx, ?_⟩, fe2⟩
      · exact fun σ3 H3 ρ3 ok3 hw3 => ⟨ρ3, ok3, hw3⟩
      · exact fun σ3 H3 ρ3 ok3 hw3 => ⟨ρ3, ok3, hw3⟩
    · rintro σ' H' ⟨ρ', ok', w'⟩
      rw [g2.length] at w'
      exact f2.nx σ' H' ρ' ok' (hd2 ρ' w')
end
/-! ## A dict as a thing of any kind; isinstance of such things; marks -/
def dkP (a : Addr) : Hp → Prop := fun H => ∃ kvs, H a = some (.dK kvs)
def dkD (a : Addr) : D := .tg (dkP a) a
/-- the type of a value, whatever it is -/
def TyE (d : D) (T : String) : Prop := ∀ (K : PySem.W.Frag) (S : List Addr) (H : Hp) (v : V), At K (hide S H) v d → TyX K H v (.type T)
theorem tyE_of {d : D} {T : String} (h : tyD d = some T) : TyE d T := fun _ _ _ _ a => tyx_of a h
theorem tyE_dk (a : Addr) : TyE (dkD a) "dict" := fun K S H v h => by
  unfold dkD at h
  cases h with
  | tg a h => 
    obtain ⟨kvs, hk⟩ := h _ (ExN.refl _)
    exact .base (.dK (hide_le.k _ _ hk True.intro))
section
variable {X : Cx} {ρ : Rho} {a b c e : Expr} {pos p p2 : Pos} {k : D → Prop} {kb : Bool → Prop}
theorem xe_isiE (hm : X.mg "isinstance" = none) {T : Str} {tn : String} (hmT : X.mg T = none) (hT : bootBuiltins T = some (.type tn)) (h : XE X a ρ fun d => ∃ t, TyE d t ∧ ∃ b, kitB t tn = some b ∧ k (.bl b))
    (hg : Gl X "isinstance" := by rfl) (hgT : Gl X T := by rfl) (hnT : T ≠ "__name__" := by decide) (hdT : (T == ("__debug__" : Str)) = false := by decide)
    (he : starEach (a :: .Name T p2 :: []) X.env = (false, eval a X.env) :: starEach [.Name T p2] X.env := by rfl) (he2 : starEach (.Name T p2 :: []) X.env = (false, eval (.Name T p2) X.env) :: starEach [] X.env := by rfl) (hpl : (backTo pos (starEach [.Name T p2] X.env)).any (·.1) = false := by rfl) :
    XE X (.Call (.Name "isinstance" p) [a, .Name T p2] [] pos) ρ k :=
  impE (pe_callB call_isi hg hm (by decide +kernel) (pa_cons anyE (pa_cons (pe_bltn hgT hmT hT (v := .ty tn) rfl hnT hdT) pa_nil he2) he) (by decide) (by decide) he hpl) fun σ H Q ⟨S, E, q⟩ => useE h E fun v H1 d e1 a1 ⟨t, ht, b, hb, hk⟩ =>
    ⟨v, .ty tn, .type t, .type tn, b, rfl, .ty tn, ht _ _ _ _ a1, kit_ty hb, q _ _ _ e1 (.bl b) hk⟩
/-- {1: ".."} -/
theorem xe_dict1 {i : Int} {y : Str} {k1 k2 : Pos} {j1 j2} (h : ∀ a, k (dkD a)) : XE X (.Dict [some (.Constant (.int i) j1 k1)] [.Constant (.str y) j2 k2] pos) ρ k :=
  impE (pe_disp (pps_cons pe_int pe_str pps_nil) rfl rfl (by simp) (Nat.le_of_ble_eq_true rfl)) fun σ H Q ⟨S, E, q⟩ => fun p hp => by
    have np := hide_new E.trk hp
    refine ⟨upd_same, [(.inl i, .str y)], rfl, Nat.le_of_ble_eq_true rfl, ?_⟩
    have e1 : Ex H (upd (upd H p (.dK [])) p (.dK (mergeK [] [(.inl i, .str y)]))) := Ex.of fun z o hz => by
      rw [upd_ne (ne_of_none hz hp), upd_ne (ne_of_none hz hp)]
      exact hz
    have g : hide S (upd (upd H p (.dK [])) p (.dK (mergeK [] [(.inl i, .str y)]))) p = some (.dK (mergeK [] [(.inl i, .str y)])) := by
      rw [hide_out np]
      exact upd_same
    exact q _ _ _ e1 (.tg _ fun H' e2 => ⟨_, e2.k _ _ g True.intro⟩) (h p)
/-- a <= b < c -/
theorem xe_lelt (h : XE X a ρ fun x => ∃ i, x = .int i ∧ XE X b ρ fun y => ∃ j, y = .int j ∧ if i ≤ j then XE X c ρ fun z => ∃ l, z = .int l ∧ k (.bl (decide (j < l))) else k (.bl false))
    (hm : lastMarks [.LtE, .Lt] [b, c] = false := by with_unfolding_all rfl) : XE X (.Compare a [.LtE, .Lt] [b, c] pos) ρ k :=
  impE (pe_chain op_le op_lt anyE anyE anyE hm) fun σ H Q ⟨S, E, q⟩ => useE h E fun x H1 d e1 a1 ⟨i, hi, hb⟩ => useE hb (E.mono e1) fun y H2 d2 e2 a2 ⟨j, hj, hc⟩ => by
    subst hi hj
    refine ⟨i, j, a1.inv_int, a2.inv_int, _, rfl, ?_⟩
    by_cases z : i ≤ j
    · rw [if_pos z] at hc
      rw [if_pos (decide_eq_true z)]
      exact useE hc ((E.mono e1).mono e2) fun w H3 d3 e3 a3 ⟨l, hl, hk⟩ => by
        subst hl
        exact ⟨j, l, a2.inv_int, a3.inv_int, q _ _ _ ((e1.trans e2).trans e3) (.bl _) hk⟩
    · rw [if_neg z] at hc
      rw [if_neg (by simpa using z)]
      exact q _ _ _ (e1.trans e2) (.bl false) hc
/-- a sign that isn't in a text -/
theorem xe_notInC (h : XE X a ρ fun x => ∃ c : Nat, x = .str ⟨#[c]⟩ ∧ XE X b ρ fun y => ∃ z : Str, y = .str z ∧ k (.bl (!decide (c ∈ z.cps.toList)))) (hmk : behindInMarks .NotIn b = false := by with_unfolding_all rfl) : XE X (.Compare a [.NotIn] [b] pos) ρ k :=
  impE (pe_cmpR op_notIn_sign anyE anyE hmk) fun σ H Q ⟨S, E, q⟩ => useE h E fun x H1 d e1 a1 ⟨c, hc, hb⟩ => useE hb (E.mono e1) fun y H2 d2 e2 a2 ⟨z, hz, hk⟩ => by
    subst hc hz
    exact ⟨c, z, a1.inv_str, a2.inv_str, q _ _ _ (e1.trans e2) (.bl _) hk⟩
/-! ### tuples put together, and parts of them -/
theorem xe_catA (h : XE X a ρ fun x => ∃ ds, x = .tup ds ∧ XE X b ρ fun y => ∃ es, y = .tup es ∧ ds.length + es.length ≤ 100000 ∧ k (.tup (ds ++ es))) : XE X (.BinOp a .Add b pos) ρ k :=
  impE (pe_op op_catA anyE anyE) fun σ H Q ⟨S, E, q⟩ => useE h E fun x H1 d1 e1 a1 ⟨ds, hd, hb⟩ => useE hb (E.mono e1) fun y H2 d2 e2 a2 ⟨es, he, hl, hk⟩ => by
    subst hd he
    have a1' := a1.mono (hide_ex e2)
    obtain ⟨p, vs, rfl, g1, g2⟩ := a1'.inv_tup
    have a2' := a2
    obtain ⟨r, us, rfl, g3, g4⟩ := a2.inv_tup
    have E2 := E.mono (e1.trans e2)
    refine ⟨p, r, vs, us, rfl, rfl, ex_t hide_le g1, ex_t hide_le g3, sz_of (by rw [g2.length, g4.length]; exact hl), fun z => ?_, fun z1 z2 => ?_, fun z1 z2 w hw => ?_⟩
    · have e : ds = [] := List.eq_nil_of_length_eq_zero (by rw [← g2.length, z]; rfl)
      subst e
      exact q _ _ _ (e1.trans e2) a2' hk
    · have e : es = [] := List.eq_nil_of_length_eq_zero (by rw [← g4.length, z2]; rfl)
      subst e
      rw [List.append_nil] at hk
      exact q _ _ _ (e1.trans e2) a1' hk
    · refine q _ _ _ ((e1.trans e2).trans (Ex.new hw)) (.tup (SqT.of ?_) ((g2.append g4).mono (hide_ex (Ex.new hw)))) hk
      rw [hide_out (hide_new E2.trk hw)]
      exact upd_same
theorem cut_whole {ds : List D} {lo hi : Option Int} (w : HT.sIx ds.length 0 lo = 0 ∧ HT.sIx ds.length ds.length hi = ds.length) : cutD ds lo hi = ds := by
  unfold cutD
  rw [w.1, w.2]
  simp
theorem slA {S : List Addr} {σ : L2.St} {H H1 : Hp} {v : V} {d : D} {ds : List D} {lo hi : Option Int} {Q : VK} (E : EnvOk X.K S H σ ρ) (e1 : Ex H H1) (a1 : At X.K (hide S H1) v d) (hd : d = .tup ds) (q : ∀ (v : V) (H2 : Hp) (d : D), Ex H H2 → At X.K (hide S H2) v d → k d → Q v H2) (hk : k (.tup (cutD ds lo hi))) : rSlA X.K v lo hi H1 Q := by
  subst hd
  have a1' := a1
  obtain ⟨b, vs, rfl, h1, h2⟩ := a1.inv_tup
  refine ⟨b, vs, rfl, ex_t hide_le h1, fun w => ?_, fun w p hp => ?_⟩
  · rw [h2.length] at w
    rw [cut_whole w] at hk
    exact q _ _ _ e1 a1' hk
  · refine q _ _ _ (e1.trans (Ex.new hp)) (.tup (SqT.of ?_) ((cut_of h2).mono (hide_ex (Ex.new hp)))) hk
    rw [hide_out (hide_new (E.mono e1).trk hp)]
    exact upd_same
theorem xe_cutToA {hi : Expr} (h : XE X a ρ fun d => ∃ ds, d = .tup ds ∧ XE X hi ρ fun y => ∃ j, y = .int j ∧ k (.tup (cutD ds none (some j)))) : XE X (.Subscript a (.Slice none (some hi) none p2) pos) ρ k :=
  impE (pe_slice sl_tupA anyE po_none (po_some anyE)) fun σ H Q ⟨S, E, q⟩ => useE h E fun v H1 d e1 a1 ⟨ds, hd, hb⟩ => useE hb (E.mono e1) fun x H2 d2 e2 a2 ⟨j, hj, hk⟩ => by
    subst hj
    exact ⟨j, a2.inv_int, slA E (e1.trans e2) (a1.mono (hide_ex e2)) hd q hk⟩
theorem xe_cutFromA {lo : Expr} (h : XE X a ρ fun d => ∃ ds, d = .tup ds ∧ XE X lo ρ fun y => ∃ j, y = .int j ∧ k (.tup (cutD ds (some j) none))) : XE X (.Subscript a (.Slice (some lo) none none p2) pos) ρ k :=
  impE (pe_slice sl_tupA anyE (po_some anyE) po_none) fun σ H Q ⟨S, E, q⟩ => useE h E fun v H1 d e1 a1 ⟨ds, hd, hb⟩ => useE hb (E.mono e1) fun x H2 d2 e2 a2 ⟨j, hj, hk⟩ => by
    subst hj
    exact ⟨j, a2.inv_int, slA E (e1.trans e2) (a1.mono (hide_ex e2)) hd q hk⟩
end
end VL

set_option Elab.async false
set_option linter.all false
set_option maxRecDepth 100000
set_option maxHeartbeats 4000000
namespace VL
variable [Tb]
open PySem PySem.Spec PyProof.Rows L2 LamX
section
variable {X : Cx} {ρ : Rho} {a b c e : Expr} {pos p p2 : Pos} {k : D → Prop} {kl : List D → Prop}
/-- any two lists -/
theorem xn_catX (h : XL X a ρ fun ds => XL X b ρ fun es => ds.length + es.length ≤ 100000 ∧ kl (ds ++ es)) : XN X (.BinOp a .Add b pos) ρ kl :=
  impE (pe_op op_catS anyE anyE) fun σ H Q ⟨S, E, q⟩ => useL h E fun r H1 vs ds e1 hL a1 hb => useL hb (E.mono e1) fun p H2 us es e2 hL2 a2 ⟨hl, hk⟩ => by
    have a1' : AtL X.K (hide S H2) vs ds := a1.mono (hide_ex e2)
    exact ⟨r, p, vs, us, rfl, rfl, ex_l e2 hL, hL2, sz_of (by rw [a1.length, a2.length]; exact hl), fun z hz => q z _ _ _ ((e1.trans e2).back hz) ((e1.trans e2).trans (Ex.new hz)) upd_same (newL (E.mono (e1.trans e2)).trk hz (a1'.append a2)) hk⟩
end
section
variable {X : Cx} {ρ : Rho} {elt it e : Expr} {scope : Scope} {pos p p2 px : Pos} {kl : List D → Prop}
/-- a comprehension over range(e), e known when it is there -/
theorem xn_lcRN (i : Nat) {x : Str} {W : Nat → List D → Prop} {N : Int} (h : XE X e ρ fun d => ∃ n : Int, d = .int n ∧ n ≤ N ∧ (-(2 ^ 62) ≤ n ∧ n < 2 ^ 62) ∧ W 0 [] ∧ ∀ acc, W n.toNat acc → kl acc)
    (he : Blk X scope fun Y => ∀ (m : Nat) acc, (m : Int) < N → W m acc → XE Y elt ((ρ.set i .un).set i (.dat (.int m))) fun d => acc.length < 100000 ∧ W (m + 1) (acc ++ [d])) (hm : X.mg "range" = none) (hN : X.N.Nodup)
    (hB : blkC X.N X.env.scope scope [(x, i)] = true := by first | decide +kernel | rfl) (hc : X.calm = true := by rfl) (hg : Gl X "range" := by rfl) (hi : X.N[i]? = some x := by rfl)
    (hx : Blk X scope fun Y => L2.Loc Y.env.scope x := by first | exact fun _ _ _ _ _ => Or.inl rfl | exact fun _ _ _ _ _ => Or.inr rfl)
    (hf : Blk X scope fun Y => Y.fn x = true ∨ Y.env.scope.names.lookup x = some .local := by first | exact fun _ _ _ _ _ => Or.inr rfl | exact fun _ _ _ _ _ => Or.inl rfl)
    (hs1 : starEach (e :: []) X.env = (false, eval e X.env) :: starEach [] X.env := by rfl) (hs2 : starEach [e] X.env = [(false, eval e X.env)] := by rfl)
    (hs : ∀ y, foldedSetIterable (.Call (.Name "range" p) [e] [] p2) X.env y = pure y := by intro _; rfl) :
    XN X (.ListComp elt [⟨.Name x px, .Call (.Name "range" p) [e] [] p2, [], 0⟩] scope pos) ρ kl :=
  impE (pe_lc (own := [(x, i)]) (g := gName i) (tt := tYes) (te := cE X scope elt) hc hN (pi_range1 hg hm (pa_cons anyE pa_nil hs1) hs2) (blkOk_by hB)
    (fun s H C cl fp => pg_name hN hi (hx s H C cl fp) (hf s H C cl fp)) (fun _ _ _ _ _ => pts_nil) (fun s H C cl fp => impE anyE fun σ H Q q => q s _ C cl fp) hs) fun σ H Q z => rd_lcRb i h he σ H Q z
end
end VL

set_option Elab.async false
set_option linter.all false
set_option maxRecDepth 100000
set_option maxHeartbeats 4000000
namespace VL
variable [Tb]
open PySem PySem.Spec PyProof.Rows L2 LamX
/-! ## A tuple some times: also none and one -/
theorem vl_mulW1 (l : Addr) (items : Array Value) (n : Nat) (dd : Option Addr) (sl : Array (Option Value)) (u : Tok) :
    Meets (Builtin.«tuple.__mul__» ⟨[.ref l, .int 1 u], []⟩) (fun _ R s => s.heap.get? l = some { cls := .type "tuple", dict := dd, data := .seq items n, slots := sl } ∧ R (.ok (.ret (Value.ref l))) s) :=
  .of_wp fun prog w A R s h => by
    obtain ⟨hp, g, d, tk, os⟩ := s
    obtain ⟨hl, h⟩ := h
    have f1 := AutoSeq1.idx_int
    have c0 : (decide ((1 : Int) < -(2 ^ 63)) || decide ((1 : Int) ≥ 2 ^ 63)) = false := by decide
    have c1 : (items.isEmpty || (1 : Int) == 1) = true := by simp
    wp_walk using wpAny_loadPart' hl
    repeat (first
      | (refine wpAny_ite_false (decide_eq_false (by rw [c0]; exact Bool.false_ne_true)) ?_; wp_walk using wpAny_loadPart' hl)
      | (refine wpAny_ite_true (decide_eq_true c1) ?_; wp_walk using wpAny_loadPart' hl))
    exact ⟨_, rfl, h⟩
theorem vl_mulW0 (l : Addr) (items : Array Value) (n : Nat) (dd : Option Addr) (sl : Array (Option Value)) (u : Tok) (hi : items.isEmpty = false) :
    Meets (Builtin.«tuple.__mul__» ⟨[.ref l, .int 0 u], []⟩) (fun _ R s => s.heap.get? l = some { cls := .type "tuple", dict := dd, data := .seq items n, slots := sl } ∧
      R (.ok (.ret (Value.ref s.heap.objs.size))) { s with heap := s.heap.push { cls := Value.type "tuple", data := Data.seq #[] }, toks := s.toks }) :=
  .of_wp fun prog w A R s h => by
    obtain ⟨hp, g, d, tk, os⟩ := s
    obtain ⟨hl, h⟩ := h
    have f1 := AutoSeq1.idx_int
    have c0 : (decide ((0 : Int) < -(2 ^ 63)) || decide ((0 : Int) ≥ 2 ^ 63)) = false := by decide
    have c1 : (items.isEmpty || (0 : Int) == 1) = false := by rw [hi]; rfl
    have c2 : (decide ((0 : Int) ≤ 0) || items.isEmpty) = true := by rw [hi]; rfl
    wp_walk using wpAny_loadPart' hl
    repeat (first
      | (refine wpAny_ite_false (decide_eq_false (by rw [c0]; exact Bool.false_ne_true)) ?_; wp_walk using wpAny_loadPart' hl)
      | (refine wpAny_ite_false (decide_eq_false (by rw [c1]; exact Bool.false_ne_true)) ?_; wp_walk using wpAny_loadPart' hl)
      | (refine wpAny_ite_true (decide_eq_true c2) ?_; wp_walk using wpAny_loadPart' hl))
    exact ⟨_, rfl, h⟩
def rRepA (K : PySem.W.Frag) : R2 := fun x y H Q => ∃ l k x0, x = .ref l ∧ y = .int k ∧ SqT K H l [x0] ∧ 0 ≤ k ∧ k ≤ 1000 ∧ (k = 1 → Q (.ref l) H) ∧ (k ≠ 1 → ∀ p, H p = none → Q (.ref p) (upd H p (.tup (List.replicate k.toNat x0))))
theorem flat_one {α : Type} (x : α) : ∀ n : Nat, (List.replicate n [x]).flatten = List.replicate n x
  | 0 => rfl
  | n + 1 => by rw [List.replicate_succ, List.flatten_cons, flat_one x n, List.replicate_succ]; rfl
theorem op_repA {X : Cx} : OpR X (binaryOp .Mult) (rRepA X.K) := by
  intro pins s σ H x y v u Q I rx ry h
  obtain ⟨l, k, x0, rfl, rfl, hT, k0, k1, q1, q2⟩ := h
  by_cases h2 : 2 ≤ k
  · exact op_repT pins s σ H _ _ _ _ _ I rx ry ⟨l, k, [x0], rfl, rfl, hT, by simp, h2, k1, by simp, fun p hp => by rw [flat_one]; exact q2 (by omega) p hp⟩
  cases rx
  obtain ⟨t, rfl⟩ := ry
  obtain ⟨its, r, ⟨⟨cls, dd, data, sl⟩, ho, hc, n, hd⟩, hs⟩ := I.tuple hT
  simp only at hc hd
  subst hc hd
  have hle : its.length = 1 := r.length.symm
  have hi : its.toArray.isEmpty = false := by
    cases its with
    | nil => cases hle
    | cons a b => rfl
  have h01 : k = 0 ∨ k = 1 := by omega
  rcases h01 with rfl | rfl
  · refine wpAny_binaryOp_repeat_ref (T := "tuple") (U := "int") (by decide) ⟨_, ho, rfl⟩ (fun s' => typeIs_int s' 0 t) noFill_tuple_mul F.fills_int_mul F.slot_int_rmul repeat_tuple F.slot_int_index.lookup
      (call_meets F.slot_int_rmul (typeIs_int s 0 t) F.entry_int_rmul (F.args_int_rmul_2 _ _) (int_rmul_tuple 0 t l its.toArray n dd sl)
        ⟨ho, rfl, ⟨_, ho, rfl⟩, call_meets F.slot_tuple_mul ⟨_, ho, rfl⟩ F.entry_tuple_mul (F.args_tuple_mul_2 _ _) (vl_mulW0 l its.toArray n dd sl t hi) ⟨ho, ?_⟩⟩)
    refine ⟨.ref s.heap.objs.size, _, I.laid (t' := s.toks) (o := .tup []) (fun b ob q => Heap.get?_push_of_some _ q) (Nat.le_refl _) ?_, rfl, q2 (by decide) _ (I.hok.fresh (Nat.le_refl _))⟩
    exact ⟨Nat.zero_le _, [], .nil, IsTup.new _ _⟩
  · refine wpAny_binaryOp_repeat_ref (T := "tuple") (U := "int") (by decide) ⟨_, ho, rfl⟩ (fun s' => typeIs_int s' 1 t) noFill_tuple_mul F.fills_int_mul F.slot_int_rmul repeat_tuple F.slot_int_index.lookup
      (call_meets F.slot_int_rmul (typeIs_int s 1 t) F.entry_int_rmul (F.args_int_rmul_2 _ _) (int_rmul_tuple 1 t l its.toArray n dd sl)
        ⟨ho, rfl, ⟨_, ho, rfl⟩, call_meets F.slot_tuple_mul ⟨_, ho, rfl⟩ F.entry_tuple_mul (F.args_tuple_mul_2 _ _) (vl_mulW1 l its.toArray n dd sl t) ⟨ho, ?_⟩⟩)
    exact ⟨.ref l, _, I, rfl, q1 rfl⟩
theorem at_repl {K : PySem.W.Frag} {H : Hp} {v : V} {d : D} (h : At K H v d) : ∀ c : Nat, AtL K H (List.replicate c v) (List.replicate c d)
  | 0 => .nil
  | c + 1 => .cons h (at_repl h c)
section
variable {X : Cx} {E : XK} {ρ : Rho} {o o' : Out} {j : J} {a b e it : Expr} {es : List Expr} {kws : List Keyword} {body : List Stmt} {pos p p2 px py pt : Pos} {k : D → Prop} {kt : Nat}
/-- (x,) * m -/
theorem xe_repA (h : XE X a ρ fun x => ∃ d, x = .tup [d] ∧ XE X b ρ fun y => ∃ m : Int, y = .int m ∧ 0 ≤ m ∧ m ≤ 1000 ∧ k (.tup (List.replicate m.toNat d))) : XE X (.BinOp a .Mult b pos) ρ k :=
  impE (pe_op op_repA anyE anyE) fun σ H Q ⟨S, E, q⟩ => useE h E fun x H1 d1 e1 a1 ⟨d, hd, hb⟩ => useE hb (E.mono e1) fun y H2 d2 e2 a2 ⟨m, hm, m0, m1, hk⟩ => by
    subst hd hm
    have a1' := a1.mono (hide_ex e2)
    obtain ⟨l, vs, rfl, g1, g2⟩ := a1'.inv_tup
    have E2 := E.mono (e1.trans e2)
    cases g2 with
    | @cons v0 _ _ _ gx gn => 
      cases gn
      refine ⟨l, m, _, rfl, a2.inv_int, ex_t hide_le g1, m0, m1, fun z => ?_, fun z p hp => ?_⟩
      · subst z
        exact q _ _ _ (e1.trans e2) a1' hk
      · have en := Ex.new (o := .tup (List.replicate m.toNat v0)) hp
        refine q _ _ _ ((e1.trans e2).trans en) (.tup (vs := List.replicate m.toNat v0) (SqT.of ?_) ?_) hk
        · rw [hide_out (hide_new E2.trk hp)]
          exact upd_same
        · exact at_repl (gx.mono (hide_ex en)) _
/-- for x, y in a tuple of pairs -/
theorem xs_forT2 (i l : Nat) {x y : Str} (h : XE X it ρ fun d => ∃ ds, d = .tup ds ∧ ∃ W : Nat → Rho → Prop, W 0 ρ ∧
      (∀ (m : Nat) d ρ', ds[m]? = some d → W m ρ' → ∃ d1 d2, d = .tup [d1, d2] ∧ XB X body ((ρ'.set i (.dat d1)).set l (.dat d2)) { nx := W (m + 1), rt := j.rt, bk := j.nx, ct := W (m + 1) }) ∧ ∀ ρ', W ds.length ρ' → j.nx ρ') (hN : X.N.Nodup)
    (hc : X.calm = true := by rfl) (hi : X.N[i]? = some x := by rfl) (hl : X.N[l]? = some y := by rfl) (hx : Loc X.env.scope x := by first | exact Or.inl rfl | exact Or.inr rfl) (hy : Loc X.env.scope y := by first | exact Or.inl rfl | exact Or.inr rfl)
    (hfx : X.fn x = true ∨ X.env.scope.names.lookup x = some .local := by first | exact .inl rfl | exact .inr rfl) (hfy : X.fn y = true ∨ X.env.scope.names.lookup y = some .local := by first | exact .inl rfl | exact .inr rfl)
    (hp : PassesOwn (model X.prog X.w) X.A X.env X.xe := by exact PassesOwn.never)
    (hs : ∀ y, foldedSetIterable it X.env y = pure y := by intro _; rfl)
    (a1 : (assignEach ([.Name x px, .Name y py] : List Expr) X.env).map (·.2) = assign (.Name x px) X.env :: (assignEach [.Name y py] X.env).map (·.2) := by rfl) (a2 : (assignEach ([.Name y py] : List Expr) X.env).map (·.2) = assign (.Name y py) X.env :: (assignEach [] X.env).map (·.2) := by rfl)
    (b1 : (assignEach ([.Name x px, .Name y py] : List Expr) X.env).length = 2 := by rfl) (b2 : (assignEach ([.Name x px, .Name y py] : List Expr) X.env).findIdx? (·.1) = none := by rfl) :
    XS X (.For (.Tuple [.Name x px, .Name y py] kt pt) it body [] pos) ρ j := fun S0 H0 tr =>
  impS (ps_for hp hc (pi_tup anyE) (pg_tup (n := 2) hc (pgs_cons (pg_name hN hi hx hfx) (pgs_cons (pg_name hN hl hy hfy) pgs_nil a2) a1) b1 b2) anySs hs) fun En σ H ⟨⟨S, h1, h2, h3, h4, E⟩, f⟩ => useE h E fun v H1 d e1 az ⟨ds, hd, W, w0, hw, hd2⟩ => by
    subst hd
    obtain ⟨a, vs, rfl, g1, g2⟩ := az.inv_tup
    obtain ⟨H2, ok2, x1, x2, x3⟩ := StOk.base tr h1 h2 h3 (h4.trans e1) (E.mono e1)
    have f2 := f.weaken x1 x2
    have tr2 : Trk S0 H2 := tr.mono x1
    refine ⟨a, rfl, ⟨vs, ex_t hide_le g1⟩, for_tup (K := X.K) (a := a) (xs := vs) (fun m σ' H' => ∃ ρ', StOk X.K S0 H2 H' σ' ρ' ∧ W m ρ') ⟨ρ, ok2, w0⟩ ?_ ?_ ?_⟩
    · rintro m σ' H' _ ⟨ρ', ⟨S', k1, k2, k3, k4, E'⟩, w'⟩
      exact ex_t hide_le (ex_t (x3 H' S' k2 k4) g1)
    · rintro m y0 σ' H' hm' ⟨ρ', ⟨S', k1, k2, k3, k4, E'⟩, w'⟩
      obtain ⟨d, q1, q2⟩ := g2.get' hm'
      obtain ⟨d1, d2, rfl, hb⟩ := hw m d ρ' q1 w'
      obtain ⟨t, us, rfl, t1, t2⟩ := q2.inv_tup
      cases t2 with
      | cons u1 t2 =>
        cases t2 with
        | cons u2 t2 =>
          cases t2
          refine ⟨t, _, rfl, ex_t hide_le (ex_t (x3 H' S' k2 k4) t1), rfl, _, _, rfl, _, _, rfl, rfl, ?_⟩
          have s1 := StOk.store (i := i) k1 k2 k3 k4 E' (u1.mono (x3 H' S' k2 k4))
          obtain ⟨S'', z1, z2, z3, z4, z5⟩ := s1
          refine ⟨_, hb S0 H2 tr2, StOk.store z1 z2 z3 z4 z5 (u2.mono (x3 _ S'' z2 z4)), ⟨?_, f2.rt, f2.nx, ?_⟩⟩
          · exact fun σ3 H3 ρ3 ok3 hw3 => ⟨ρ3, ok3, hw3⟩
          · exact fun σ3 H3 ρ3 ok3 hw3 => ⟨ρ3, ok3, hw3⟩
    · rintro σ' H' ⟨ρ', ok', w'⟩
      rw [g2.length] at w'
      exact f2.nx σ' H' ρ' ok' (hd2 ρ' w')
end
/-! ## C(..) whose __init__ raises -/
structure Mx (P : Program) (w : World) (K : PySem.W.Frag) (mg : Str → Option Value) (base : Heap) (k : Nat) (x : Str) (C : Addr) (ps : List Str) (Cn : ConX) : Prop where
  ex : ∃ f fd, mg x = some (.ref C) ∧ Mk K C f ∧ Binds K fd ps [] ∧ FnOk P w K mg base (L2N.CX P w) k f fd ps (spX K ps.length Cn)
structure MxK (P : Program) (w : World) (K : PySem.W.Frag) (mg : Str → Option Value) (base : Heap) (k : Nat) (x : Str) (C : Addr) (ps ks : List Str) (is : List Nat) (Cn : ConX) : Prop where
  ex : ∃ f fd, mg x = some (.ref C) ∧ Mk K C f ∧ KBn K fd ps 1 ks (fun us ws => us ++ pick is ws) (fun vs zs => vs ++ pick is zs) ∧ FnOk P w K mg base (L2N.CX P w) k f fd ps (spX K ps.length Cn)
section
variable {X : Cx} {E : XK} {ρ : Rho} {e : Expr} {es : List Expr} {kws : List Keyword} {pos p : Pos}
theorem made_ex {H1 : Hp} {y dx C : Addr} (hy : H1 y = none) (hdx : H1 dx = none) : Ex H1 (upd (upd H1 dx (.own y)) y (.ins C dx [])) := Ex.of fun z o hz => by
  rw [upd_ne (ne_of_none hz hy), upd_ne (ne_of_none hz hdx)]
  exact hz
theorem xx_new {n m : Nat} {x fl : Str} {C Ce : Addr} {d : D} {ps : List Str} {Cn : ConX} (A : Air X E) (M : Mx X.prog X.w X.K X.mg X.base n x C ps Cn) (hr : Room m X.A) (h : XA X (e :: es) ρ fun ds => ds.length + 1 = ps.length ∧ ∀ y, Cn (.ptr y :: ds) (.err Ce fl d)) (hnm : n + 1 ≤ m := by decide) (hg : Gl X x := by rfl)
    (hdb : (x == ("__debug__" : Str)) = false := by decide) (he : starEach (e :: es) X.env = (false, eval e X.env) :: starEach es X.env := by rfl) (hpl : (backTo pos (starEach es X.env)).any (·.1) = false := by rfl) :
    XX X (wE E) (.Call (.Name x p) (e :: es) [] pos) ρ (.err Ce fl d) := by
  obtain ⟨f, fd, h1, h2, h3, h4⟩ := M.ex
  refine impE (pe_make (E := E) h2 h4 (hr.mono hnm) hg h1 h3 .nil (L2N.passes_call A.tk fun _ _ _ _ z => z) anyA hdb he hpl) fun σ H Q ⟨S, EN, q, r⟩ => useA h EN fun vs H1 ds e1 a1 ⟨hl, hc⟩ => fun y dx hy hdx ne => ?_
  rw [List.append_nil]
  have E1 := EN.mono e1
  have eM := made_ex (C := C) hy hdx
  exact ⟨S, .ptr y :: ds, .err Ce fl d, by rw [List.length_cons, a1.length]; exact hl, E1.trk.mono eM, .cons (.ptr y) (a1.mono (hide_ex eM)), hc y, fun v H2 d' ho => (nomatch ho), fun cls dct H3 C' f' d' ho e3 er => r cls dct H3 C' f' d' ho (e1.trans (eM.trans e3)) er⟩
theorem xx_newK {n m : Nat} {x fl : Str} {C Ce : Addr} {d : D} {ps ks : List Str} {is : List Nat} {Cn : ConX} (A : Air X E) (M : MxK X.prog X.w X.K X.mg X.base n x C ps ks is Cn) (hr : Room m X.A) (h : XK' X kws ρ fun ds => ds.length = ks.length ∧ (pick is ds).length + 1 = ps.length ∧ ∀ y, Cn (.ptr y :: pick is ds) (.err Ce fl d)) (hnm : n + 1 ≤ m := by decide) (hg : Gl X x := by rfl)
    (hall : (backToKw pos (keywordEach kws X.env)).all (·.1.isSome) = true := by rfl) (hks : (backToKw pos (keywordEach kws X.env)).filterMap (·.1) = ks := by rfl) (hdb : (x == ("__debug__" : Str)) = false := by decide)
    (hpl : ((backTo pos (starEach [] X.env)).any (·.1) || (backToKw pos (keywordEach kws X.env)).any (·.1.isNone)) = false := by rfl) :
    XX X (wE E) (.Call (.Name x p) [] kws pos) ρ (.err Ce fl d) := by
  obtain ⟨f, fd, h1, h2, h3, h4⟩ := M.ex
  refine impE (pe_makeK0 (E := E) h2 h4 (hr.mono hnm) hg h1 h3 (L2N.passes_call A.tk fun _ _ _ _ z => z) anyK hall hks hdb hpl) fun σ H Q ⟨S, EN, q, r⟩ => ⟨_, h, S, EN, fun zs H1 ds e1 a1 ⟨hl, hl2, hc⟩ => ⟨rfl, by rw [a1.length]; exact hl, fun y dx hy hdx ne => ?_⟩⟩
  have E1 := EN.mono e1
  have eM := made_ex (C := C) hy hdx
  exact ⟨S, .ptr y :: pick is ds, .err Ce fl d, by rw [List.length_append, List.length_singleton, (a1.pick is).length, Nat.add_comm]; exact hl2, E1.trk.mono eM, .cons (.ptr y) ((a1.pick is).mono (hide_ex eM)), hc y, fun v H2 d' ho => (nomatch ho), fun cls dct H3 C' f' d' ho e3 er => r cls dct H3 C' f' d' ho (e1.trans (eM.trans e3)) er⟩
/-- len(e), e raises -/
theorem xx_lenE {W : WX} {a : Expr} {fl : Str} {Ce : Addr} {d : D} (hm : X.mg "len" = none) (h : XX X W a ρ (.err Ce fl d)) (hg : Gl X "len" := by rfl) (he : starEach (a :: []) X.env = (false, eval a X.env) :: starEach [] X.env := by rfl) : XX X W (.Call (.Name "len" p) [a] [] pos) ρ (.err Ce fl d) :=
  impE (pe_callB (id := "len") (r := fun _ _ _ => False) (fun _ _ _ _ _ _ _ _ _ z => z.elim) hg hm (by decide +kernel) (pa_cons anyE pa_nil he) (by decide) (by decide) he rfl) fun σ H Q ⟨S, EN, q, r⟩ => useX h EN (fun v H2 d' ho => (nomatch ho)) r
end
end VL

set_option Elab.async false
set_option linter.all false
set_option maxRecDepth 100000
set_option maxHeartbeats 4000000
namespace VL
variable [Tb]
open PySem PySem.Spec PyProof.Rows L2 LamX
/-! ## a, b, c = e, [..], [..]: by a tuple; insert; try .. except X: of one call -/
section
variable {X : Cx} {ρ : Rho} {j : J} {a b c e ix : Expr} {pos apos cpos p p1 px py pz pt : Pos} {kt : Nat} {k2 pt2}
theorem xs_tup3N (i l m : Nat) {x y z : Str} (hc : X.calm = true) (hN : X.N.Nodup)
    (h : XE X a ρ fun d => XN X b ρ fun es => XN X c ρ fun fs => j.nx (((ρ.set i (.dat d)).set l (.own es)).set m (.own fs)))
    (hi : X.N[i]? = some x := by rfl) (hl : X.N[l]? = some y := by rfl) (hm : X.N[m]? = some z := by rfl) (hx : Loc X.env.scope x := by first | exact Or.inl rfl | exact Or.inr rfl) (hy : Loc X.env.scope y := by first | exact Or.inl rfl | exact Or.inr rfl) (hz : Loc X.env.scope z := by first | exact Or.inl rfl | exact Or.inr rfl)
    (hfx : X.fn x = true ∨ X.env.scope.names.lookup x = some .local := by first | exact .inl rfl | exact .inr rfl) (hfy : X.fn y = true ∨ X.env.scope.names.lookup y = some .local := by first | exact .inl rfl | exact .inr rfl) (hfz : X.fn z = true ∨ X.env.scope.names.lookup z = some .local := by first | exact .inl rfl | exact .inr rfl)
    (hs : swapsWithSole [.Tuple [.Name x px, .Name y py, .Name z pz] kt pt] (.Tuple [a, b, c] k2 pt2) pos.line X.env = pure false := by rfl) (hw : swappedStores [.Tuple [.Name x px, .Name y py, .Name z pz] kt pt] (.Tuple [a, b, c] k2 pt2) X.env = pure none := by rfl)
    (h1 : (assignEach [.Tuple [.Name x px, .Name y py, .Name z pz] kt pt] X.env).map (·.2) = [assign (.Tuple [.Name x px, .Name y py, .Name z pz] kt pt) X.env] := by rfl)
    (s1 : starEach [a, b, c] X.env = (false, eval a X.env) :: starEach [b, c] X.env := by rfl) (s2 : starEach [b, c] X.env = (false, eval b X.env) :: starEach [c] X.env := by rfl) (s3 : starEach [c] X.env = (false, eval c X.env) :: starEach [] X.env := by rfl)
    (a1 : (assignEach ([.Name x px, .Name y py, .Name z pz] : List Expr) X.env).map (·.2) = assign (.Name x px) X.env :: (assignEach [.Name y py, .Name z pz] X.env).map (·.2) := by rfl) (a2 : (assignEach ([.Name y py, .Name z pz] : List Expr) X.env).map (·.2) = assign (.Name y py) X.env :: (assignEach [.Name z pz] X.env).map (·.2) := by rfl) (a3 : (assignEach ([.Name z pz] : List Expr) X.env).map (·.2) = assign (.Name z pz) X.env :: (assignEach [] X.env).map (·.2) := by rfl)
    (b1 : (assignEach ([.Name x px, .Name y py, .Name z pz] : List Expr) X.env).length = 3 := by rfl) (b2 : (assignEach ([.Name x px, .Name y py, .Name z pz] : List Expr) X.env).findIdx? (·.1) = none := by rfl) :
    XS X (.Assign [.Tuple [.Name x px, .Name y py, .Name z pz] kt pt] (.Tuple [a, b, c] k2 pt2) pos) ρ j := fun S0 H0 tr =>
  impS (ps_asg (pe_tup (pa_cons anyE (pa_cons anyE (pa_cons anyE pa_nil s3) s2) s1)) (pg_tup (n := 3) hc (pgs_cons (pg_name hN hi hx hfx) (pgs_cons (pg_name hN hl hy hfy) (pgs_cons (pg_name hN hm hz hfz) pgs_nil a3) a2) a1) b1 b2) hs hw h1) fun En σ H ⟨⟨S, g1, g2, g3, g4, E⟩, f⟩ =>
    useE h E fun v1 H1 d e1 at1 hb => ⟨_, hb, S, E.mono e1, fun q2 H2 vs2 es hn2 e2 hp2 at2 hc2 => ⟨_, hc2, q2 :: S, ((E.mono e1).hid e2 hn2 hp2).2, fun q3 H3 vs3 fs hn3 e3 hp3 at3 hk => by
      refine ⟨(show 3 ≤ sizeLine by rw [sizeLine_eq]; decide), fun T hT => ?_⟩
      have eT : Ex H3 (upd H3 T (.tup [v1, .ref q2, .ref q3])) := Ex.new hT
      refine ⟨T, _, rfl, SqT.of upd_same, rfl, v1, [.ref q2, .ref q3], rfl, .ref q2, [.ref q3], rfl, .ref q3, [], rfl, rfl, ?_⟩
      have E1 := (E.mono e1).store (i := i) at1
      have E2 := E1.storeOwn (i := l) e2 hn2 hp2 at2
      have E3 := E2.storeOwn (i := m) e3 hn3 hp3 at3
      have n2 : H0 q2 = none := (g4.trans e1).back hn2
      have n3 : H0 q3 = none := ((g4.trans e1).trans e2).back hn3
      refine f.nx _ _ _ ⟨q3 :: q2 :: S, fun b hb => List.mem_cons_of_mem _ (List.mem_cons_of_mem _ (g1 b hb)), fun b hb => ?_, fun t gs r k1 k2 => ?_, ((((g4.trans e1).trans e2).trans e3).trans eT), E3.mono eT⟩ hk
      · rcases List.mem_cons.mp hb with w | w
        · rw [w]
          exact .inr n3
        · rcases List.mem_cons.mp w with w | w
          · rw [w]
            exact .inr n2
          · exact g2 b w
      · rcases ent_set k1 with ⟨rfl, r1⟩ | ⟨ne, r1⟩
        · have hlt : t < ((σ.set i (some v1)).set l (some (.ref q2))).length := by
            have := get_lt k2
            rwa [List.length_set] at this
          rw [List.getElem?_set_self hlt] at k2
          cases k2
          exact n3
        · rw [List.getElem?_set_ne (Ne.symm ne)] at k2
          rcases ent_set r1 with ⟨rfl, r2⟩ | ⟨ne', r2⟩
          · have hlt : t < (σ.set i (some v1)).length := by
              have := get_lt k2
              rwa [List.length_set] at this
            rw [List.getElem?_set_self hlt] at k2
            cases k2
            exact n2
          · rw [List.getElem?_set_ne (Ne.symm ne')] at k2
            rcases ent_set r2 with ⟨rfl, r3⟩ | ⟨ne'', r3⟩
            · cases r3
            · rw [List.getElem?_set_ne (Ne.symm ne'')] at k2
              exact g3 t gs r r3 k2⟩⟩
/-- name.insert(i, e) -/
theorem xs_ins (i : Nat) {x : Str} {ds : List D} (hi : ρ[i]? = some (.own ds)) (h : XE X ix ρ fun y => XE X e ρ fun d => ∃ n : Nat, y = .int n ∧ n < 1000000 ∧ ds.length < 100000 ∧ j.nx (ρ.set i (.own (ds.take n ++ [d] ++ ds.drop n)))) (hN : X.N[i]? = some x := by rfl)
    (hv : Vis X.env.scope x := by first | exact Or.inl rfl | exact Or.inr (Or.inl rfl) | exact Or.inr (Or.inr rfl)) (h1' : (x == ("__debug__" : Str)) = false := by decide) (h2' : (x == ("__classdict__" : Str)) = false := by decide)
    (he : starEach (ix :: e :: []) X.env = (false, eval ix X.env) :: starEach [e] X.env := by rfl) (he2 : starEach (e :: []) X.env = (false, eval e X.env) :: starEach [] X.env := by rfl) (hs : swapsWith (.Call (.Attribute (.Name x p) "insert" apos) [ix, e] [] cpos) none pos.line X.env = pure false := by rfl)
    (hfew : ((backTo cpos (starEach [ix, e] X.env)).all (fun x => !x.1) && (backToKw cpos (keywordEach [] X.env)).all (fun x => x.1.isSome) && decide (([ix, e] : List Expr).length + ([] : List Keyword).length + (if ([] : List Keyword).isEmpty then 0 else 1) < 30)) = true := by rfl)
    (hline : (apos.endLine == cpos.line) = true := by rfl) (hpl : (backTo cpos (starEach [e] X.env)).any (·.1) = false := by rfl) :
    XS X (.Expr (.Call (.Attribute (.Name x p) "insert" apos) [ix, e] [] cpos) pos) ρ j := fun S0 H0 tr =>
  impS (ps_expr (pe_bm PySem.F.plainAttrs_list PySem.F.slot_list_insert PySem.F.type_list_insert mt_insert (pe_var hN hv h1' h2') (pa_cons anyE (pa_cons anyE pa_nil he2) he) (hfew := hfew) (hline := hline) (hs := he) (hplain := hpl)) hs) fun En σ H ⟨⟨S, h1, h2, h3, h4, E⟩, f⟩ => by
    obtain ⟨q, vs, g1, g2, g3, g4⟩ := E.own i ds hi
    refine ⟨_, g1, .inl ⟨rfl, vs, SqL.of g3⟩, useE h E fun v H2 d e2 a2 hb => useE hb (E.mono e2) fun u H3 d3 e3 a3 ⟨n, hn, hlt, hl, hk⟩ => ?_⟩
    subst hn
    have e23 := e2.trans e3
    refine ⟨q, vs, (n : Int), u, rfl, by rw [a2.inv_int], e23.k _ _ g3 True.intro, sz_lt (by rw [g4.length]; exact hl), by omega, by omega, ?_⟩
    have a4 := (((g4.mono (hide_ex e23)).take n).append (.cons a3 .nil)).append ((g4.mono (hide_ex e23)).drop n)
    exact f.nx _ _ _ (StOk.write tr h1 h2 h3 (h4.trans e23) (E.mono e23) hi g1 g2 a4) hk
end
theorem tk0 {X : Cx} : L2N.Takes X (fun _ _ _ _ => False) := fun _ _ ⟨_, _, _, _, _, _, _, _, _, _, _, _, _, _, _, _, w⟩ => w.elim
theorem air0 {X : Cx} (hc : X.calm = true := by rfl) : Air X (fun _ _ _ => False) := ⟨tk0, hc⟩
/-- a call that comes to data for sure -/
theorem XX.ok {X : Cx} {W : WX} {e : Expr} {ρ : Rho} {d : D} {k : D → Prop} (h : XX X W e ρ (.ok d)) (hk : k d) : XE X e ρ k :=
  impE h fun σ H Q ⟨S, E, q⟩ => ⟨S, E, fun v H2 d' ho e2 a => by cases ho; exact q v H2 _ e2 a hk, fun cls dct H2 C f d' ho => (nomatch ho)⟩
structure FnX (P : Program) (w : World) (K : PySem.W.Frag) (mg : Str → Option Value) (base : Heap) (k : Nat) (g : Addr) (ps : List Str) (C : ConX) : Prop where
  ex : ∃ fd, PySem.W.keepIn K (.ref g) = true ∧ Binds K fd ps [] ∧ FnOk P w K mg base (L2N.CX P w) k g fd ps (spX K ps.length C)
section
variable {X : Cx} {ρ : Rho} {e : Expr} {pos apos p : Pos} {o : Out}
/-- C.m(x), m a classmethod that may raise -/
theorem xx_cmeth {W : WX} {n j : Nat} {m x : Str} {C pa g : Addr} {mc : Value} {s1 s2 : Str} {Cn : ConX} (tk : L2N.Takes X W) (hm : X.mg x = some (.ref C)) (r : ClX.CRead X.K C mc) (c : ClX.CMet X.K C mc m pa g) (F : FnX X.prog X.w X.K X.mg X.base n g [s1, s2] Cn) (hr : Room j X.A)
    (h : XE X e ρ fun d => Cn [.ptr C, d] o) (hnm : n ≤ j := by decide) (hg : Gl X x := by rfl) (hdb : (x == ("__debug__" : Str)) = false := by decide)
    (hst : starEach (e :: []) X.env = (false, eval e X.env) :: starEach [] X.env := by rfl) (hpl : (backTo pos (starEach [] X.env)).any (·.1) = false := by rfl) {pl : Sem Bool}
    (ht : eval (.Call (.Attribute (.Name x p) m apos) (e :: []) [] pos) X.env = (do
      let ov ← eval (.Name x p) X.env
      standAt apos.atName
      let (f, first) ← holding [ov] (getMethod ov m pl)
      callWith pos f first (backTo pos (starEach (e :: []) X.env)) (backToKw pos (keywordEach [] X.env))) := by rfl) :
    XX X W (.Call (.Attribute (.Name x p) m apos) [e] [] pos) ρ o := by
  obtain ⟨fd, _, h3, h4⟩ := F.ex
  refine ⟨fun pins s σ H Q I ⟨S, EN, q, q'⟩ => ?_⟩
  refine PySem.W.methodCall_KW (pl := pl) (thn ((pe_glob hg hm (show RelV (.ref C) (.ref C) from rfl) hdb).run pins s σ H (fun x H1 => x = .ref C ∧ H1 = H) I ⟨rfl, rfl⟩) fun u s1 ⟨x, H1, I1, rx, ex, eH⟩ => ?_) ht
  subst ex eH
  obtain rfl : u = Value.ref C := rx
  refine ClX.getmethcm_ok I1 r c fun s2 I2 => ?_
  refine ClX.callwith_cm I2 (ClX.base_none I1 (Nat.le_refl _)) c.fi (thn ((pa_cons anyE pa_nil hst).run pos _ s2 σ H1 (fun vs H2 => ∃ v d, vs = [v] ∧ Ex H1 H2 ∧ At X.K (hide S H2) v d ∧ Cn [.ptr C, d] o) I2 (useE h EN fun v H2 d e2 a2 hk => ⟨v, d, rfl, e2, a2, hk⟩)) fun us s3 ⟨vs, H2, I3, rv, v, d, ev, e2, a2, hc⟩ => ⟨⟨ClX.pin_at I3, I3.kIn⟩, ?_⟩) hst hpl
  subst ev
  have lu : us.length = 1 := rv.length.symm
  refine thn (Q := EP X ((s1.heap.objs.size, PySem.W.methodObj (.ref g) (.ref C)) :: pins) σ Q) (wpAny_call (PySem.W.method_call (ClX.pin_at I3) (codeAny_mono (h4.run X.A X.stack s3 H2 ⟨.ref C :: us, []⟩ (.ref C :: us) [.ref C, v] Q (WE W σ) (hr.mono hnm) I3.env0 (by
      have := h3 s3 (.ref C :: us) I3.kIn (by simp [lu])
      rwa [List.append_nil] at this) (.cons rfl rv) ⟨S, [.ptr C, d], o, rfl, (EN.mono e2).trk, .cons (.ptr C) (.cons a2 .nil), hc, fun v H3 d ho e3 a3 => q v H3 d ho (e2.trans e3) a3, fun cls dct H3 C f d ho e3 er => q' cls dct H3 C f d ho (e2.trans e3) er⟩) fun r s' hq => ?_))) fun _ _ y => ClX.unpinE y
  match r, hq with
  | .error er, hq => exact L2N.passAt tk σ _ H2 s3 er s' I3 hq
  | .ok (.ret u), hq => exact I3.after hq
  | .ok .next, hq => exact False.elim hq
  | .ok .brk, hq => exact False.elim hq
  | .ok .cont, hq => exact False.elim hq
end
/-- try: e / except A: .. -/
theorem xs_tryO {X : Cx} {ρ : Rho} {j : J} {x : Str} {A1 : Addr} {o : Out} {e : Expr} {suite : List Stmt} {b₀ : Stmt} {p1 ps pos pos' : Pos} (m1 : X.mg x = some (.ref A1))
    (he : ∀ (W : WX) (pn : List (Addr × Obj)) (xe : Value → Shared → Prop), L2N.Takes (X.tr pn xe) W → XX (X.tr pn xe) W e ρ o)
    (hok : ∀ d, o = .ok d → j.nx ρ)
    (her : ∀ C fl d, o = .err C fl d → PySem.W.exmOne X.K (.ref C) (.ref A1) = some true ∧ ∀ (a : Addr) (oe : Obj) (pn : List (Addr × Obj)), XB (X.suite a ((a, oe) :: pn)) (b₀ :: suite) ρ j)
    (hs : X.stack = X.env :: X.outer := by rfl) (hf : X.env.frame = some X.env.locals := by rfl) (hsw : swapsWith e none ps.line X.env = pure false := by rfl) (g1 : Gl X x := by rfl) (d1 : (x == ("__debug__" : Str)) = false := by decide) :
    XS X (.Try [.Expr e ps] [.ExceptHandler (some (.Name x p1)) none (b₀ :: suite) pos'] [] [] pos) ρ j := fun S0 H0 tr => by
  refine impS (L2N.ps_try_many (l := [(.ref A1, fun a cls d D σ H => ∀ (oe : Obj) (pn : List (Addr × Obj)), L2N.Zn cls d oe → (∃ vs, oe.data = .fields vs) → aSs (X.suite a ((a, oe) :: pn)) (b₀ :: suite) D σ H)]) (tb := fun W D σ H => tX X.K ρ o W σ H fun v H1 => D.nx σ H1) hs hf tk0
    (fun W pn xe tk _ => pss_one (ps_expr (X := X.tr pn xe) (he W pn xe tk) hsw)) (.cons ⟨g1, d1, .inl m1⟩ (fun a oe cls d pn hz hv => impSs anySs fun D σ H h => h oe pn hz hv) .nil)) fun En σ H ⟨⟨S, h1, h2, h3, h4, E⟩, fit⟩ => ?_
  refine ⟨S, E, fun v H2 d ho e2 a => ?_, fun cls dct H2 C fl d ho e2 er => ?_⟩
  · exact fit.nx _ _ _ ⟨S, h1, h2, h3, h4.trans e2, E.mono e2⟩ (hok d ho)
  · obtain ⟨hx, su⟩ := her C fl d ho
    obtain ⟨rfl, dd, fs, v', hdd, hfs, hl, ha⟩ := er
    refine ⟨true, hx, fun _ a na oe pn hz hv => ?_, fun z => (nomatch z)⟩
    exact ⟨_, su a oe pn S0 H0 tr, ⟨S, h1, h2, h3, h4.trans e2, E.mono e2⟩, fit⟩
end VL

set_option Elab.async false
set_option linter.all false
set_option maxRecDepth 100000
set_option maxHeartbeats 4000000
namespace VL
variable [Tb]
open PySem PySem.Spec PyProof.Rows L2 LamX
/-! ## repr of an empty dict -/
theorem shown_dct : (PyData.dict []).shown = "{}" := by decide +kernel
theorem call_reprE {X : Cx} (gd : X.A.guards = some []) (hr : RoomU X.A) : CallR X (.builtin "repr") (fun xs H Q => ∃ a, xs = [V.ref a] ∧ H a = some (.dK []) ∧ Q (.str "{}") H) := by
  intro pins s σ H xs us Q I r h
  obtain ⟨a, rfl, hd, q⟩ := h
  obtain ⟨u, rfl, ru⟩ := r.one
  cases (show u = Value.ref a from ru)
  have un := hr.un
  obtain ⟨_, hs, vs, kv, dd⟩ := dk_of I.hok hd
  have hv : vs = [] := by cases kv; rfl
  subst hv
  obtain ⟨o, es, ep, ho, he, hdat, _, pr, _⟩ := dd
  have hes : es.toList = [] := by
    cases hp : es.toList with
    | nil => rfl
    | cons x y =>
      rw [hp] at pr
      cases pr
  have rd : Reads s.heap (.ref a) (.dict []) (a :: [] ++ []) := Reads.dict ho he.1 hdat (by rw [hes]; exact .nil) (by rw [hes]; exact .nil)
  refine repr_of_reads' rd (by decide +kernel) (fun _ hm => ?_) gd ?_ (fun _ _ z => z) (fun h' t tk hk => ?_) ?_
  · have : sysModules = a := by simpa using hm
    rw [this] at hs
    simp at hs
  · simp only [PyData.depth, PyData.depthKv]
    omega
  · rw [shown_dct]
    exact ⟨.str "{}", H, I.kept (t' := tk) hk, ⟨t, rfl⟩, q⟩
  · rw [shown_dct, sizeLine_eq]
    decide +kernel
/-- what repr tells -/
def Shown (d : D) (r : Str) : Prop := (∃ y, pyD d = some y ∧ ReprOk y ∧ r = y.shown) ∨ (d = .dct ∧ r = "{}")
section
variable {X : Cx} {ρ : Rho} {e : Expr} {pos p : Pos} {k : D → Prop}
theorem xe_reprX (hm : X.mg "repr" = none) (gd : X.A.guards = some []) (hr : RoomU X.A) (h : XE X e ρ fun x => ∃ r, Shown x r ∧ k (.str r)) (hg : Gl X "repr" := by rfl)
    (he : starEach (e :: []) X.env = (false, eval e X.env) :: starEach [] X.env := by rfl) : XE X (.Call (.Name "repr" p) [e] [] pos) ρ k :=
  impE (pe_callB (id := "repr") (r := fun xs H Q => rReprA X.K xs H Q ∨ ∃ a, xs = [V.ref a] ∧ H a = some (.dK []) ∧ Q (.str "{}") H) (fun pins s σ H xs us Q I r h => h.elim (fun h => call_reprA gd hr pins s σ H xs us Q I r h) (fun h => call_reprE gd hr pins s σ H xs us Q I r h)) hg hm (by decide +kernel) (pa_cons anyE pa_nil he) (by decide) (by decide) he rfl) fun σ H Q ⟨S, E, q⟩ => useE h E fun v H1 x e1 a1 ⟨r, hs, hk⟩ => by
    rcases hs with ⟨d, hd, ok, rfl⟩ | ⟨rfl, rfl⟩
    · exact .inl ⟨v, d, rfl, dp_of a1 hd, ok, q _ _ _ e1 (.str _) hk⟩
    · cases a1 with
      | dct h => exact .inr ⟨_, rfl, hid_get h, q _ _ _ e1 (.str _) hk⟩
end
end VL

set_option Elab.async false
set_option linter.all false
set_option maxRecDepth 100000
set_option maxHeartbeats 4000000
namespace VL
variable [Tb]
open PySem PySem.Spec PyProof.Rows L2 LamX
section
variable {X : Cx} {ρ : Rho} {elt it c e : Expr} {es : List Expr} {scope : Scope} {pos p p2 px : Pos} {kl : List D → Prop}
/-- [e for x in a tuple if c] -/
theorem xn_lcFT (i : Nat) {x : Str} {W : Nat → List D → Prop} {ds : List D} (fl : D → Bool) (h : XE X it ρ fun z => z = .tup ds ∧ W 0 [] ∧ ∀ acc, W ds.length acc → kl acc)
    (hc : Blk X scope fun Y => ∀ (m : Nat) d, ds[m]? = some d → XT Y c ((ρ.set i .un).set i (.dat d)) fun b => b = fl d)
    (he : Blk X scope fun Y => ∀ (m : Nat) d acc, ds[m]? = some d → W m acc → fl d = true → XE Y elt ((ρ.set i .un).set i (.dat d)) fun d' => acc.length < 100000 ∧ W (m + 1) (acc ++ [d']))
    (hn : ∀ (m : Nat) d acc, ds[m]? = some d → W m acc → fl d = false → W (m + 1) acc) (hN : X.N.Nodup)
    (hB : blkC X.N X.env.scope scope [(x, i)] = true := by first | decide +kernel | rfl) (hca : X.calm = true := by rfl) (hi : X.N[i]? = some x := by rfl)
    (hx : Blk X scope fun Y => L2.Loc Y.env.scope x := by first | exact fun _ _ _ _ _ => Or.inl rfl | exact fun _ _ _ _ _ => Or.inr rfl)
    (hf : Blk X scope fun Y => Y.fn x = true ∨ Y.env.scope.names.lookup x = some .local := by first | exact fun _ _ _ _ _ => Or.inr rfl | exact fun _ _ _ _ _ => Or.inl rfl)
    (hs : ∀ y, foldedSetIterable it X.env y = pure y := by intro _; rfl) :
    XN X (.ListComp elt [⟨.Name x px, it, [c], 0⟩] scope pos) ρ kl := by
  refine impE (pe_lc (own := [(x, i)]) (g := gName i) (tt := cT X scope c) (te := cE X scope elt) hca hN (pi_tup anyE) (blkOk_by hB)
    (fun s H C cl fp => pg_name hN hi (hx s H C cl fp) (hf s H C cl fp)) (fun s H C cl fp => pts_one (impT anyT fun σ H Q q => q s _ C cl fp)) (fun s H C cl fp => impE anyE fun σ H Q q => q s _ C cl fp) hs) fun σ H Q ⟨S, E, q⟩ => useE h E fun v H1 z e1 az ⟨hd, w0, hend⟩ => ?_
  subst hd
  obtain ⟨a, vs0, rfl, hL, a1⟩ := az.inv_tup
  have hL := ex_t hide_le hL
  refine ⟨a, rfl, ⟨vs0, hL⟩, fun Dl hD => ?_⟩
  have E1 := E.mono e1
  refine lc_tup (K := X.K) (a := a) (xs := vs0) (g := gName i) (tt := cT X scope c) (te := cE X scope elt) (vs := [i]) (σ := σ) (Qd := fun H' => Q (.ref Dl) H') (Cw X.K S H1 W Dl) ⟨hD, Ex.new hD, [], [], upd_same, .nil, w0⟩ (fun m H2 _ p => ex_t p.2.1 hL) ?_ ?_
  · rintro m x0 H2 hm' p
    obtain ⟨d, hd, ad⟩ := a1.get' hm'
    refine ⟨wipe_again σ i _, fun s H' C cl fp => ?_⟩
    obtain ⟨p1, p2, vs, acc, p3, p4, p5⟩ := p
    have E2 : EnvOk X.K (Dl :: S) H2 (wipe σ [i]) (ρ.set i .un) := (E1.hid p2 hD p3).2.wipe1 i
    have ad2 : At X.K (hide (Dl :: S) H2) x0 d := (at_hid hD ad).mono (hide_ex p2)
    refine useT (hc s H' C cl fp m d hd) (E2.store ad2) fun b H3 e3 hb => ?_
    have p' : Cw X.K S H1 W Dl m H3 := ⟨p1, p2.trans e3, vs, acc, e3.k _ _ p3 True.intro, p4.mono (hide_ex e3), p5⟩
    cases q2 : fl d with
    | false =>
      rw [q2] at hb
      rw [if_neg (by rw [hb]; exact Bool.false_ne_true)]
      obtain ⟨r1, r2, us, acc', r3, r4, r5⟩ := p'
      exact ⟨r1, r2, us, acc', r3, r4, hn m d acc' hd r5 q2⟩
    | true =>
      rw [q2] at hb
      rw [if_pos hb]
      show cE X scope elt ((wipe σ [i]).set i (some x0)) H3 fun y H4 => ∃ acc, H4 Dl = some (.lst acc) ∧ acc.length < sizeLine ∧ Cw X.K S H1 W Dl (m + 1) (upd H4 Dl (.lst (acc ++ [y])))
      refine cw_turn p' E1.trk (kd := fun _ _ => True) fun acc hw Q' q' s H' C cl fp => ?_
      exact useE (he s H' C cl fp m d acc hd hw q2) ((E2.store ad2).mono e3) fun v3 H4 d3 e4 a4 hk => q' v3 H4 d3 e4 a4 hk
  · rintro H2 ⟨p1, p2, vs, acc, p3, p4, p5⟩
    rw [a1.length] at p5
    exact q Dl H2 vs acc (e1.back hD) (e1.trans p2) p3 p4 (hend acc p5)
/-- [e, ..], e raises -/
theorem xx_lstE {W : WX} {fl : Str} {Ce : Addr} {d : D} (h : XX X W e ρ (.err Ce fl d)) (he : starEach (e :: es) X.env = (false, eval e X.env) :: starEach es X.env := by rfl) : XX X W (.List (e :: es) pos) ρ (.err Ce fl d) :=
  impE (pe_lst (pa_cons anyE anyA he)) fun σ H Q ⟨S, EN, q, r⟩ => useX h EN (fun v H2 d' ho => (nomatch ho)) r
end
end VL

set_option Elab.async false
set_option linter.all false
set_option maxRecDepth 100000
set_option maxHeartbeats 4000000
namespace VL
variable [Tb]
open PySem L2 LamX
section
variable {X : Cx} {ρ : Rho} {a b lo hi it elt c : Expr} {scope : Scope} {pos p2 px : Pos} {k : D → Prop} {kl : List D → Prop}
/-- text[i] -/
theorem xe_ixS (h : XE X a ρ fun x => ∃ z, x = .str z ∧ z.length ≤ sizeLine ∧ XE X b ρ fun y => ∃ i, y = .int i ∧ ∃ c, atI z.cps.toList i = some c ∧ k (.str ⟨#[c]⟩)) (hs : PlainIx b := by exact fun _ _ => rfl) : XE X (.Subscript a b pos) ρ k :=
  impE (pe_ix ix_str anyE anyE hs) fun σ H Q ⟨S, E, q⟩ => useE h E fun x H1 d e1 a1 ⟨z, hz, hl, hb⟩ => useE hb (E.mono e1) fun y H2 d2 e2 a2 ⟨i, hi, c, hc, hk⟩ => by
    subst hz hi
    exact ⟨z, i, c, a1.inv_str, a2.inv_int, hl, hc, q _ _ _ (e1.trans e2) (.str _) hk⟩
theorem xt_notInC {kb : Bool → Prop} (h : XE X a ρ fun x => ∃ c : Nat, x = .str ⟨#[c]⟩ ∧ XE X b ρ fun y => ∃ z : Str, y = .str z ∧ kb (!decide (c ∈ z.cps.toList))) (hmk : behindInMarks .NotIn b = false := by with_unfolding_all rfl) : XT X (.Compare a [.NotIn] [b] pos) ρ kb :=
  impT (pt_cmpR op_notIn_sign anyE anyE hmk) fun σ H Q ⟨S, E, q⟩ => useE h E fun x H1 d e1 a1 ⟨c, hc, hb⟩ => useE hb (E.mono e1) fun y H2 d2 e2 a2 ⟨z, hz, hk⟩ => by
    subst hc hz
    exact ⟨c, z, a1.inv_str, a2.inv_str, _, rfl, q _ _ (e1.trans e2) hk⟩
/-- text[:i], text[i:] -/
theorem xe_cutToS (h : XE X a ρ fun x => ∃ z, x = .str z ∧ z.length ≤ sizeLine ∧ XE X hi ρ fun y => ∃ j, y = .int j ∧ k (.str (Txt.slice z none (some j)))) : XE X (.Subscript a (.Slice none (some hi) none p2) pos) ρ k :=
  impE (pe_slice C8.sl_txt anyE po_none (po_some anyE)) fun σ H Q ⟨S, E, q⟩ => useE h E fun x H1 d e1 a1 ⟨z, hz, hl, hb⟩ => useE hb (E.mono e1) fun y H2 d2 e2 a2 ⟨j, hj, hk⟩ => by
    subst hz hj
    exact ⟨j, a2.inv_int, z, a1.inv_str, hl, q _ _ _ (e1.trans e2) (.str _) hk⟩
theorem xe_cutFromS (h : XE X a ρ fun x => ∃ z, x = .str z ∧ z.length ≤ sizeLine ∧ XE X lo ρ fun y => ∃ j, y = .int j ∧ k (.str (Txt.slice z (some j) none))) : XE X (.Subscript a (.Slice (some lo) none none p2) pos) ρ k :=
  impE (pe_slice C8.sl_txt anyE (po_some anyE) po_none) fun σ H Q ⟨S, E, q⟩ => useE h E fun x H1 d e1 a1 ⟨z, hz, hl, hb⟩ => useE hb (E.mono e1) fun y H2 d2 e2 a2 ⟨j, hj, hk⟩ => by
    subst hz hj
    exact ⟨j, a2.inv_int, z, a1.inv_str, hl, q _ _ _ (e1.trans e2) (.str _) hk⟩
/-- list[:i], list[i:] -/
theorem xn_cutToE (h : XL X a ρ fun ds => XE X hi ρ fun y => ∃ j, y = .int j ∧ kl (cutD ds none (some j))) : XN X (.Subscript a (.Slice none (some hi) none p2) pos) ρ kl :=
  impE (pe_slice sl_list anyE po_none (po_some anyE)) fun σ H Q ⟨S, E, q⟩ => useL h E fun p H1 vs ds e1 h1 h2 hb => useE hb (E.mono e1) fun x H2 d e2 a2 ⟨j, hj, hk⟩ => by
    subst hj
    exact ⟨j, a2.inv_int, p, vs, rfl, ex_l e2 h1, fun r hr => q r _ _ _ ((e1.trans e2).back hr) ((e1.trans e2).trans (Ex.new hr)) upd_same (newL (E.mono (e1.trans e2)).trk hr (cut_of (h2.mono (hide_ex e2)))) hk⟩
theorem xn_cutFromE (h : XL X a ρ fun ds => XE X lo ρ fun y => ∃ j, y = .int j ∧ kl (cutD ds (some j) none)) : XN X (.Subscript a (.Slice (some lo) none none p2) pos) ρ kl :=
  impE (pe_slice sl_list anyE (po_some anyE) po_none) fun σ H Q ⟨S, E, q⟩ => useL h E fun p H1 vs ds e1 h1 h2 hb => useE hb (E.mono e1) fun x H2 d e2 a2 ⟨j, hj, hk⟩ => by
    subst hj
    exact ⟨j, a2.inv_int, p, vs, rfl, ex_l e2 h1, fun r hr => q r _ _ _ ((e1.trans e2).back hr) ((e1.trans e2).trans (Ex.new hr)) upd_same (newL (E.mono (e1.trans e2)).trk hr (cut_of (h2.mono (hide_ex e2)))) hk⟩
/-- [.. for x in a text if ..] -/
theorem xn_lcSF (i : Nat) {x : Str} {W : Nat → List D → Prop} {z : Str} (fl : Nat → Bool) (h : XE X it ρ fun d => d = .str z ∧ W 0 [] ∧ ∀ acc, W z.cps.size acc → kl acc)
    (hc : Blk X scope fun Y => ∀ (m ch : Nat), z.cps[m]? = some ch → XT Y c ((ρ.set i .un).set i (.dat (.str ⟨#[ch]⟩))) fun b => b = fl ch)
    (he : Blk X scope fun Y => ∀ (m ch : Nat) acc, z.cps[m]? = some ch → W m acc → fl ch = true → XE Y elt ((ρ.set i .un).set i (.dat (.str ⟨#[ch]⟩))) fun d' => acc.length < 100000 ∧ W (m + 1) (acc ++ [d']))
    (hn : ∀ (m ch : Nat) acc, z.cps[m]? = some ch → W m acc → fl ch = false → W (m + 1) acc) (hN : X.N.Nodup)
    (hB : blkC X.N X.env.scope scope [(x, i)] = true := by first | decide +kernel | rfl) (hca : X.calm = true := by rfl) (hi : X.N[i]? = some x := by rfl)
    (hx : Blk X scope fun Y => L2.Loc Y.env.scope x := by first | exact fun _ _ _ _ _ => Or.inl rfl | exact fun _ _ _ _ _ => Or.inr rfl)
    (hf : Blk X scope fun Y => Y.fn x = true ∨ Y.env.scope.names.lookup x = some .local := by first | exact fun _ _ _ _ _ => Or.inr rfl | exact fun _ _ _ _ _ => Or.inl rfl)
    (hs : ∀ y, foldedSetIterable it X.env y = pure y := by intro _; rfl) :
    XN X (.ListComp elt [⟨.Name x px, it, [c], 0⟩] scope pos) ρ kl := by
  refine impE (pe_lc (own := [(x, i)]) (g := gName i) (tt := cT X scope c) (te := cE X scope elt) hca hN (pi_str anyE) (blkOk_by hB)
    (fun s H C cl fp => pg_name hN hi (hx s H C cl fp) (hf s H C cl fp)) (fun s H C cl fp => pts_one (impT anyT fun σ H Q q => q s _ C cl fp)) (fun s H C cl fp => impE anyE fun σ H Q q => q s _ C cl fp) hs) fun σ H Q ⟨S, E, q⟩ => useE h E fun v H1 d e1 az ⟨hd, w0, hend⟩ => ?_
  subst hd
  refine ⟨z, az.inv_str, fun Dl hD => ?_⟩
  have E1 := E.mono e1
  refine lc_str (x := z) (g := gName i) (tt := cT X scope c) (te := cE X scope elt) (vs := [i]) (σ := σ) (Qd := fun H' => Q (.ref Dl) H') (Cw X.K S H1 W Dl) ⟨hD, Ex.new hD, [], [], upd_same, .nil, w0⟩ ?_ ?_
  · rintro m ch H2 hm' p
    refine ⟨wipe_again σ i _, ?_⟩
    have p0 := p
    obtain ⟨p1, p2, vs, acc', p3, p4, p5⟩ := p
    have E2 : EnvOk X.K (Dl :: S) H2 (wipe σ [i]) (ρ.set i .un) := (E1.hid p2 hD p3).2.wipe1 i
    have ad2 : At X.K (hide (Dl :: S) H2) (.str ⟨#[ch]⟩) (.str ⟨#[ch]⟩) := .str _
    intro s H' C cl fp
    refine useT (hc s H' C cl fp m ch hm') (E2.store ad2) fun b H3 e3 hb => ?_
    have p' : Cw X.K S H1 W Dl m H3 := ⟨p1, p2.trans e3, vs, acc', e3.k _ _ p3 True.intro, p4.mono (hide_ex e3), p5⟩
    cases q2 : fl ch with
    | false =>
      rw [q2] at hb
      rw [if_neg (by rw [hb]; exact Bool.false_ne_true)]
      obtain ⟨r1, r2, us, acc', r3, r4, r5⟩ := p'
      exact ⟨r1, r2, us, acc', r3, r4, hn m ch acc' hm' r5 q2⟩
    | true =>
      rw [q2] at hb
      rw [if_pos hb]
      show cE X scope elt ((wipe σ [i]).set i (some (.str ⟨#[ch]⟩))) H3 fun y H4 => ∃ acc, H4 Dl = some (.lst acc) ∧ acc.length < sizeLine ∧ Cw X.K S H1 W Dl (m + 1) (upd H4 Dl (.lst (acc ++ [y])))
      refine cw_turn p' E1.trk (kd := fun _ _ => True) fun acc hw Q' q' s H' C cl fp => ?_
      exact useE (he s H' C cl fp m ch acc hm' hw q2) ((E2.store ad2).mono e3) fun v3 H4 d3 e4 a4 hk => q' v3 H4 d3 e4 a4 hk
  · rintro H2 ⟨p1, p2, vs, acc, p3, p4, p5⟩
    exact q Dl H2 vs acc (e1.back hD) (e1.trans p2) p3 p4 (hend acc p5)
end
end VL

set_option Elab.async false
set_option linter.all false
set_option maxRecDepth 100000
set_option maxHeartbeats 4000000
namespace VL
variable [Tb]
open PySem L2 LamX
/-! ### C.m(k = x), m a classmethod that may raise -/
structure FnXK (P : Program) (w : World) (K : PySem.W.Frag) (mg : Str → Option Value) (base : Heap) (C : Addr) (k : Nat) (g : Addr) (ps ks : List Str) (Cn : ConX) : Prop where
  ex : ∃ fd, (∀ (s : Shared) (ws : List Value), K.In s.heap → ws.length = ks.length → BindsTo s fd ⟨[.ref C], ks.zip ws⟩ (ps.zip (.ref C :: ws))) ∧ ps.length = ks.length + 1 ∧ FnOk P w K mg base (L2N.CX P w) k g fd ps (spX K ps.length Cn)
section
variable {X : Cx} {ρ : Rho} {kws : List Keyword} {pos apos p : Pos} {o : Out}
theorem xx_cmethK {W : WX} {n j : Nat} {m x : Str} {C pa g : Addr} {mc : Value} {ps ks : List Str} {Cn : ConX} (tk : L2N.Takes X W) (hm : X.mg x = some (.ref C)) (r : ClX.CRead X.K C mc) (c : ClX.CMet X.K C mc m pa g) (F : FnXK X.prog X.w X.K X.mg X.base C n g ps ks Cn) (hr : Room j X.A)
    (h : XK' X kws ρ fun ds => ds.length = ks.length ∧ Cn (.ptr C :: ds) o) (hnm : n ≤ j := by decide) (hg : Gl X x := by rfl) (hdb : (x == ("__debug__" : Str)) = false := by decide)
    (hall : (backToKw pos (keywordEach kws X.env)).all (·.1.isSome) = true := by rfl) (hks : (backToKw pos (keywordEach kws X.env)).filterMap (·.1) = ks := by rfl)
    (hpl : ((backTo pos (starEach [] X.env)).any (·.1) || (backToKw pos (keywordEach kws X.env)).any (·.1.isNone)) = false := by rfl) {pl : Sem Bool}
    (ht : eval (.Call (.Attribute (.Name x p) m apos) [] kws pos) X.env = (do
      let ov ← eval (.Name x p) X.env
      standAt apos.atName
      let (f, first) ← holding [ov] (getMethod ov m pl)
      callWith pos f first (backTo pos (starEach [] X.env)) (backToKw pos (keywordEach kws X.env))) := by rfl) :
    XX X W (.Call (.Attribute (.Name x p) m apos) [] kws pos) ρ o := by
  obtain ⟨fd, h3, hlen, h4⟩ := F.ex
  refine ⟨fun pins s σ H Q I ⟨S, EN, q, q'⟩ => ?_⟩
  refine PySem.W.methodCall_KW (pl := pl) (thn ((pe_glob hg hm (show RelV (.ref C) (.ref C) from rfl) hdb).run pins s σ H (fun x H1 => x = .ref C ∧ H1 = H) I ⟨rfl, rfl⟩) fun u s1 ⟨x, H1, I1, rx, ex, eH⟩ => ?_) ht
  subst ex eH
  obtain rfl : u = Value.ref C := rx
  refine ClX.getmethcm_ok I1 r c fun s2 I2 => ?_
  refine PySem.W.callWith_of hpl (PySem.W.keeps_M (self := .ref C) c.fi) (PyProof.Rows.evalArgs_kw2_nil hall ?_)
  refine thn (anyK.run pos _ s2 σ H1 (fun vs H2 => ∃ ds, Ex H1 H2 ∧ AtL X.K (hide S H2) vs ds ∧ ds.length = ks.length ∧ Cn (.ptr C :: ds) o) I2 ⟨_, h, S, EN, fun vs H2 ds e2 a2 hk => ⟨ds, e2, a2, hk⟩⟩) fun ws s3 ⟨zs, H2, I3, rz, ds, e2, a2, l1, hc⟩ => ⟨⟨ClX.pin_at I3, I3.kIn⟩, ?_⟩
  rw [hks]
  have lw : ws.length = ks.length := by rw [← rz.length, a2.length]; exact l1
  refine thn (Q := EP X ((s1.heap.objs.size, PySem.W.methodObj (.ref g) (.ref C)) :: pins) σ Q) (wpAny_call (PySem.W.method_call (ClX.pin_at I3) (codeAny_mono (h4.run X.A X.stack s3 H2 ⟨[.ref C], ks.zip ws⟩ (.ref C :: ws) (.ref C :: zs) Q (WE W σ) (hr.mono hnm) I3.env0 (h3 s3 ws I3.kIn lw) (.cons rfl rz) ⟨S, .ptr C :: ds, o, by rw [List.length_cons, a2.length, l1]; exact hlen.symm, (EN.mono e2).trk, .cons (.ptr C) a2, hc, fun v H3 d ho e3 a3 => q v H3 d ho (e2.trans e3) a3, fun cls dct H3 C f d ho e3 er => q' cls dct H3 C f d ho (e2.trans e3) er⟩) fun r s' hq => ?_))) fun _ _ y => ClX.unpinE y
  match r, hq with
  | .error er, hq => exact L2N.passAt tk σ _ H2 s3 er s' I3 hq
  | .ok (.ret u), hq => exact I3.after hq
  | .ok .next, hq => exact False.elim hq
  | .ok .brk, hq => exact False.elim hq
  | .ok .cont, hq => exact False.elim hq
end
end VL

set_option Elab.async false
set_option linter.all false
set_option maxRecDepth 100000
set_option maxHeartbeats 4000000
namespace VL
variable [Tb]
open PySem PySem.Spec PyProof.Rows L2 LamX
open PySem.SeqAt (RcAt)
/-! ## [] in a list of lists; a list == [] -/
inductive Ems (K : PySem.W.Frag) (H : Hp) : List V → List Bool → Prop
  | nil : Ems K H [] []
  | cons {a : Addr} {us : List V} {vs : List V} {bs : List Bool} : SqL K H a us → Ems K H vs bs → Ems K H (.ref a :: vs) (decide (us = []) :: bs)
def rInEm (K : PySem.W.Frag) : R2 := fun x y H Q => ∃ (p q : Addr) (vs : List V) (bs : List Bool), x = .ref p ∧ y = .ref q ∧ SqL K H p [] ∧ SqL K H q vs ∧ Ems K H vs bs ∧ Q (.bl (bs.any id)) H
def rEqEm (K : PySem.W.Frag) : R2 := fun x y H Q => ∃ (p q : Addr) (us : List V), x = .ref p ∧ y = .ref q ∧ SqL K H p us ∧ SqL K H q [] ∧ Q (.bl (decide (us = []))) H
section
variable {X : Cx} {pins : List (Addr × Obj)} {σ : L2.St} {H : Hp} {s : Shared}
/-- where a list's object stands -/
theorem list_at (I : Inv X pins σ H s) {p : Addr} {us : List V} (h : SqL X.K H p us) : ∃ its : List Value, s.heap.IsList p its.toArray ∧ its.length = us.length ∧ Vals us its := by
  obtain ⟨its, r, pl, hz⟩ := I.list h
  exact ⟨its, pl.isList, r.length.symm, r⟩
theorem list_len {h : Heap} {p : Addr} {a b : Array Value} (h1 : h.IsList p a) (h2 : h.IsList p b) : a = b := by
  obtain ⟨o, ho, hc, n, hd⟩ := h1
  obtain ⟨o2, ho2, hc2, n2, hd2⟩ := h2
  rw [ho] at ho2
  cases ho2
  rw [hd] at hd2
  cases hd2
  rfl
theorem rc_em (I : Inv X pins σ H s) {A : Around} (hu : A.units < cLine) {p q : Addr} {us : List V} (hp : SqL X.K H p us) (hq : SqL X.K H q []) : RcAt A s (.ref p) (.ref q) (decide (us = [])) := by
  obtain ⟨a, ha, la, _⟩ := list_at I hp
  obtain ⟨b, hb, lb, _⟩ := list_at I hq
  have b0 : b = [] := List.eq_nil_of_length_eq_zero lb
  subst b0
  by_cases e : us = []
  · rw [decide_eq_true e]
    subst e
    have a0 : a = [] := List.eq_nil_of_length_eq_zero la
    subst a0
    exact RcAt.lists (e := fun _ => true) ha hb rfl hu fun j h1 => absurd h1 (by simp)
  · rw [decide_eq_false e]
    refine RcAt.lists_lengths ha hb ?_ hu
    rw [bne_iff_ne]
    intro z
    rw [List.size_toArray, List.size_toArray, la] at z
    exact e (List.eq_nil_of_length_eq_zero z)
theorem op_eqEm (hu : X.A.units < cLine) : OpR X (compareOp .Eq) (rEqEm X.K) := by
  intro pins s σ H x y v u Q I rx ry h
  obtain ⟨p, q, us, rfl, rfl, hp, hq, hQ⟩ := h
  cases (show v = Value.ref p from rx)
  cases (show u = Value.ref q from ry)
  exact rc_em I hu hp hq X.prog X.w _ _ ⟨.bl _, H, I, rfl, hQ⟩
theorem rel_mem : ∀ {vs : List V} {its : List Value}, Vals vs its → ∀ u ∈ its, ∃ v ∈ vs, RelV v u
  | [], [], .nil, _, h => absurd h List.not_mem_nil
  | v :: vs, u :: us, .cons r rs, w, h => by
    rcases List.mem_cons.mp h with rfl | h
    · exact ⟨v, List.mem_cons_self, r⟩
    · obtain ⟨v', hv, r'⟩ := rel_mem rs w h
      exact ⟨v', List.mem_cons_of_mem _ hv, r'⟩
theorem ems_at (I : Inv X pins σ H s) {A : Around} (hu : A.units < cLine) {p : Addr} (hp : SqL X.K H p []) {e : Value → Bool} (he : ∀ a its, s.heap.IsList a its → e (.ref a) = decide (its = #[])) : ∀ {vs : List V} {bs : List Bool} {its : List Value}, Ems X.K H vs bs → Vals vs its → its.any e = bs.any id ∧ ∀ u ∈ its, PySem.SeqAt.EqAt A s u (.ref p) (e u)
  | _, _, _, .nil, .nil => ⟨rfl, fun u h => absurd h List.not_mem_nil⟩
  | _, _, _, .cons (a := a) (us := us) ha t, .cons r rs => by
    obtain ⟨h1, h2⟩ := ems_at I hu hp he t rs
    rename_i w ws
    cases (show w = Value.ref a from r)
    obtain ⟨c, hc, lc, _⟩ := list_at I ha
    obtain ⟨b, hb, lb, _⟩ := list_at I hp
    have e1 : e (.ref a) = decide (us = []) := by
      rw [he a _ hc]
      by_cases z : us = []
      · subst z
        have c0 : c = [] := List.eq_nil_of_length_eq_zero lc
        subst c0
        rfl
      · rw [decide_eq_false z]
        refine decide_eq_false fun h => z ?_
        have := congrArg Array.size h
        simp at this
        subst this
        exact List.eq_nil_of_length_eq_zero lc.symm
    refine ⟨?_, fun u h => ?_⟩
    · rw [List.any_cons, List.any_cons, h1, e1]
      rfl
    · rcases List.mem_cons.mp h with rfl | h
      · by_cases n : a = p
        · subst n
          have z : us = [] := by
            have := congrArg Array.size (list_len hc hb)
            simp at this
            rw [this] at lc
            exact List.eq_nil_of_length_eq_zero (lc.symm.trans lb)
          rw [e1, decide_eq_true z]
          exact PySem.SeqAt.EqAt.same _
        · rw [e1]
          exact PySem.SeqAt.EqAt.of_refs n (rc_em I hu ha hp)
      · exact h2 u h
theorem op_inEm (hu : X.A.in1.units < cLine) : OpR X (compareOp .In) (rInEm X.K) := by
  classical
  intro pins s σ H x y v u Q I rx ry h
  obtain ⟨p, q, vs, bs, rfl, rfl, hp, hq, hf, hQ⟩ := h
  cases (show v = Value.ref p from rx)
  cases (show u = Value.ref q from ry)
  obtain ⟨its, hi, li, ri⟩ := list_at I hq
  let e : Value → Bool := fun y => decide (∃ a, y = .ref a ∧ s.heap.IsList a #[])
  have he : ∀ a its, s.heap.IsList a its → e (.ref a) = decide (its = #[]) := fun a its h => by
    by_cases z : its = #[]
    · subst z
      rw [decide_eq_true rfl]
      exact decide_eq_true ⟨a, rfl, h⟩
    · rw [decide_eq_false z]
      refine decide_eq_false fun ⟨a', e1, h1⟩ => z ?_
      cases e1
      exact list_len h h1
  obtain ⟨h1, h2⟩ := ems_at I hu hp he hf ri
  refine PySem.SeqAt.in_listAt e hi (fun u hu' => h2 u (by simpa using hu')) ?_
  have : its.toArray.any e = bs.any id := by
    rw [← h1]
    simp
  rw [this]
  exact ⟨.bl _, H, I, rfl, hQ⟩
end
section
variable {X : Cx} {ρ : Rho} {a b : Expr} {pos : Pos} {kb : Bool → Prop}
def emD : D → Bool
  | .lst [] => true
  | _ => false
theorem atL_nil {K : PySem.W.Frag} {H : Hp} {vs : List V} (h : AtL K H vs []) : vs = [] := by
  cases h
  rfl
theorem ems_of {K : PySem.W.Frag} {H : Hp} : ∀ {vs : List V} {ds : List D}, AtL K H vs ds → (∀ d ∈ ds, ∃ es, d = .lst es) → Ems K H vs (ds.map emD)
  | _, _, .nil, _ => .nil
  | _, _, .cons ad t, h => by
    obtain ⟨es, rfl⟩ := h _ List.mem_cons_self
    obtain ⟨a, us, rfl, ha, al⟩ := ad.inv_lst
    have := ems_of t fun d hd => h d (List.mem_cons_of_mem _ hd)
    have e : emD (.lst es) = decide (us = []) := by
      cases es with
      | nil =>
        have := atL_nil al
        subst this
        rfl
      | cons x xs =>
        cases al
        rfl
    rw [List.map_cons, e]
    exact .cons ha this
theorem Ems.ext {K : PySem.W.Frag} {H H' : Hp} (f : ∀ a us, SqL K H a us → SqL K H' a us) : ∀ {vs : List V} {bs : List Bool}, Ems K H vs bs → Ems K H' vs bs
  | _, _, .nil => .nil
  | _, _, .cons h t => .cons (f _ _ h) (t.ext f)
theorem xt_inEm {n : Nat} (hr : Room n X.A) (h : XE X a ρ fun x => x = .lst [] ∧ XE X b ρ fun y => ∃ ds, y = .lst ds ∧ (∀ d ∈ ds, ∃ es, d = .lst es) ∧ kb (ds.any emD)) (hmk : behindInMarks .In b = false := by with_unfolding_all rfl) : XT X (.Compare a [.In] [b] pos) ρ kb :=
  impT (pt_cmpR (op_inEm (by have := hr.un; show X.A.units + 1 < cLine; omega)) anyE anyE hmk) fun σ H Q ⟨S, E, q⟩ => useE h E fun x H1 d e1 a1 ⟨hd, hb⟩ => useE hb (E.mono e1) fun y H2 d2 e2 a2 ⟨ds, h2, hl, hk⟩ => by
    subst hd h2
    obtain ⟨p, us, rfl, hp, al⟩ := a1.inv_lst
    have := atL_nil al
    subst this
    obtain ⟨w, vs, rfl, hw, bl⟩ := a2.inv_lst
    refine ⟨p, w, vs, ds.map emD, rfl, rfl, ex_l hide_le (ex_l (hide_ex e2) hp), ex_l hide_le hw, (ems_of bl hl).ext fun a us h => ex_l hide_le h, _, rfl, ?_⟩
    rw [List.any_map]
    exact q _ _ (e1.trans e2) hk
theorem xt_eqEm {n : Nat} (hr : Room n X.A) (h : XE X a ρ fun x => ∃ ds, x = .lst ds ∧ XE X b ρ fun y => y = .lst [] ∧ kb (decide (ds = []))) : XT X (.Compare a [.Eq] [b] pos) ρ kb :=
  impT (pt_cmpR (op_eqEm (by have := hr.un; omega)) anyE anyE (nomark _)) fun σ H Q ⟨S, E, q⟩ => useE h E fun x H1 d e1 a1 ⟨ds, hd, hb⟩ => useE hb (E.mono e1) fun y H2 d2 e2 a2 ⟨h2, hk⟩ => by
    subst hd h2
    obtain ⟨p, us, rfl, hp, al⟩ := a1.inv_lst
    obtain ⟨w, vs, rfl, hw, bl⟩ := a2.inv_lst
    have := atL_nil bl
    subst this
    refine ⟨p, w, us, rfl, rfl, ex_l hide_le (ex_l (hide_ex e2) hp), ex_l hide_le hw, _, rfl, ?_⟩
    have e : decide (us = []) = decide (ds = []) := by
      cases al <;> rfl
    rw [e]
    exact q _ _ (e1.trans e2) hk
end
end VL

set_option Elab.async false
set_option linter.all false
set_option maxRecDepth 100000
set_option maxHeartbeats 4000000
namespace VL
variable [Tb]
open PySem PySem.Spec PyProof.Rows L2 LamX HotX
/-! ## lambdas with names of their own (of comprehensions) -/
def LamOkE (X : Cx) (n : Nat) (cap : Cap) (ex : List Str) (φ : Hp → Prop) (f : Addr) (o : Out) : Prop := ∃ (params : Arguments) (body : Expr) (scope : Scope), φ = LamP (X.env.qual ++ "<lambda>") params body scope (cloFrom X.env.cells scope.names []) f ∧ LamS X.env.scope scope ∧
  (∀ y ∈ scope.names, y.2 = .free → y.1 ∈ cap.names) ∧ (∀ q cl pm cv ctv, bindArgs (PySem.W.kla_fn "<lambda>" q params body scope cl pm cv ctv) ⟨[], []⟩ = pure []) ∧
  ∀ (A : Around) (outer : List Env) (s : Shared) (H : Hp) (E : XK) (f c' : Addr) (cl : List (Str × Addr)), A.guards = some [] → Room n (A.deeper (lamEnvF (X.env.qual ++ "<lambda>") scope s.heap.objs.size f c' cl)) →
    XX (lamCxF X.prog X.w X.K X.mg X.base (cap.names ++ ex) (X.env.qual ++ "<lambda>") cl A outer s H E scope f c') (fun cls d _ H => E cls d H) body (cap.rho ++ ex.map fun _ => .un) o
section
variable {X : Cx} {ρ : Rho}
/-- the lambda's call, when the cells are told -/
theorem lam_actE {n : Nat} {cap : Cap} {ex : List Str} {φ : Hp → Prop} {f : Addr} {o : Out} {pins : List (Addr × Obj)} {σ : L2.St} {H : Hp} {s : Shared} {S : List Addr} {cs : List (Addr × Obj)} (I : Inv X pins σ H s) (E : EnvOk X.K S H σ ρ) (hc : CapOk X ρ cap)
    (c1 : ∀ x ∈ cap.names, ∀ c, X.env.cells.lookup x = some c → ∃ o, cs.lookup c = some o) (c2 : ∀ c o, cs.lookup c = some o → (∃ x, X.env.cells.lookup x = some c) ∧ s.heap.get? c = some o ∧ ∃ u, o.data = .cell u)
    (h : LamOkE X n cap ex φ f o) {Hs : Hp} (e : ExN (hide S (addX cs H)) Hs) (hφ : φ Hs) : Act X.prog X.w X.K X.mg X.base (n + 1) f o Hs := by
  obtain ⟨params, body, scope, rfl, L, hn, hb, hbody⟩ := h
  have csn : ∀ c o, cs.lookup c = some o → H c = none := fun c o z => let ⟨⟨x, hx⟩, _⟩ := c2 c o z; I.freeC x c hx
  have cS : ∀ c o, cs.lookup c = some o → c ∉ S := fun c o z m => by
    obtain ⟨u, q, _⟩ := E.trk.tr c m
    rw [csn c o z] at q
    cases q
  have ct : Ct cs Hs := ⟨fun a o z => e.k a _ (by rw [hide_out (cS a o z)]; exact addX_in z) True.intro⟩
  let σl : L2.St := (cap.map fun p => (σ[p.1]?).getD none) ++ ex.map fun _ => none
  have σat : ∀ (j : Nat) (p : Nat × Str × D), cap[j]? = some p → σl[j]? = some ((σ[p.1]?).getD none) := fun j p hp => by
    have hj : j < cap.length := (List.getElem?_eq_some_iff.mp hp).1
    show ((cap.map _) ++ _)[j]? = _
    rw [List.getElem?_append_left (by rw [List.length_map]; exact hj), List.getElem?_map, hp]
    rfl
  have σno : ∀ (j : Nat) (v : V), cap.length ≤ j → σl[j]? = some (some v) → False := fun j v hj h => by
    have h : ((cap.map _) ++ _)[j]? = some (some v) := h
    rw [List.getElem?_append_right (by rw [List.length_map]; exact hj), List.getElem?_map] at h
    cases q : ex[j - (cap.map fun p => (σ[p.1]?).getD none).length]? with
    | none => rw [q] at h; cases h
    | some w => rw [q] at h; cases h
  have nat : ∀ (j : Nat) (x : Str), j < cap.length → (cap.names ++ ex)[j]? = some x → ∃ p, cap[j]? = some p ∧ p.2.1 = x := fun j x hj hx => by
    unfold Cap.names at hx
    rw [List.getElem?_append_left (by rw [List.length_map]; exact hj), List.getElem?_map] at hx
    cases q : cap[j]? with
    | none => rw [q] at hx; cases hx
    | some p => rw [q] at hx; exact ⟨p, rfl, Option.some.inj hx⟩
  refine act_of (N := cap.names ++ ex) (ρ := cap.rho ++ ex.map fun _ => .un) (σ := σl) (cs := cs) (Hp0 := hide S H) (L := ⟨L.kind, L.co, L.gen, L.own⟩) (fun y hy hf => ?_) (fun pm cv ctv => hb _ _ pm cv ctv) hφ ⟨ct, fun x y c k1 k2 => I.ok.inj x y c (clo_look L I.ok k1).1 (clo_look L I.ok k2).1, fun x c k => ?_, fun c o z => (c2 c o z).2.2⟩ (fun j x v k1 k2 c k3 => ?_) ?_ ?_ (fun j d hd => ?_) (fun j ds hd => ?_) ?_ (fun a x z => ?_) fun A outer s H E c' gd hr => hbody A outer s H E f c' _ gd hr
  · exact mem_lookup (cloFrom_has (cells := X.env.cells) (acc := []) (show (y.1, NameKind.free) ∈ scope.names by rw [← hf]; exact hy))
  · obtain ⟨h1, h2⟩ := clo_look L I.ok k
    obtain ⟨o, h3⟩ := c1 x (hn _ h2 rfl) c h1
    obtain ⟨_, _, u, h4⟩ := c2 c o h3
    exact ⟨o, u, h3, h4⟩
  · have hj : j < cap.length := by
      by_cases z : j < cap.length
      · exact z
      · exact (σno j v (by omega) k2).elim
    obtain ⟨p, hp, rfl⟩ := nat j x hj k1
    obtain ⟨g1, g2, g3⟩ := hc p (List.mem_of_getElem? hp)
    obtain ⟨h1, h2⟩ := clo_look L I.ok k3
    obtain ⟨o, h3⟩ := c1 p.2.1 (hn _ h2 rfl) c h1
    obtain ⟨_, h5, _⟩ := c2 c o h3
    rw [σat j p hp] at k2
    have hσ : σ[p.1]? = some (some v) := by
      cases q : σ[p.1]? with
      | none => rw [q] at k2; cases k2
      | some w => rw [q] at k2; exact congrArg some (Option.some.inj k2)
    obtain ⟨m, _, hl⟩ := I.loc
    obtain ⟨u, r, q⟩ := hl p.1 p.2.1 v g1 hσ (.inr (.inl g3))
    rcases q with ⟨k', _⟩ | ⟨_, c', e1, o', e2, e3⟩
    · have k' : X.env.scope.names.lookup p.2.1 = some .local := k'
      rw [g3] at k'
      cases k'
    · rw [h1] at e1
      cases e1
      rw [h5] at e2
      cases e2
      exact ⟨o, u, h3, e3, r⟩
  · show ((cap.map _) ++ _).length = ((cap.map _) ++ _).length
    simp
  · show ((cap.map _) ++ _).length = ((cap.map _) ++ _).length
    simp
  · unfold Cap.rho at hd
    have hj : j < cap.length := by
      by_cases z : j < cap.length
      · exact z
      · rw [List.getElem?_append_right (by rw [List.length_map]; omega), List.getElem?_map] at hd
        cases q : ex[j - (cap.map fun p => Ent.dat p.2.2).length]? with
        | none => rw [q] at hd; cases hd
        | some w => rw [q] at hd; cases hd
    rw [List.getElem?_append_left (by rw [List.length_map]; exact hj), List.getElem?_map] at hd
    cases q : cap[j]? with
    | none => rw [q] at hd; cases hd
    | some p =>
      rw [q] at hd
      cases hd
      obtain ⟨g1, g2, g3⟩ := hc p (List.mem_of_getElem? q)
      obtain ⟨v, h1, h2⟩ := E.dat p.1 _ g2
      exact ⟨v, by rw [σat j p q, h1]; rfl, h2⟩
  · unfold Cap.rho at hd
    have hd := List.mem_of_getElem? hd
    rcases List.mem_append.mp hd with hd | hd
    · obtain ⟨p, _, e⟩ := List.mem_map.mp hd
      cases e
    · obtain ⟨p, _, e⟩ := List.mem_map.mp hd
      cases e
  · exact (hide_exN (ExN.of (ex_add ⟨fun a o z => ⟨(c2 a o z).2.1, csn a o z⟩⟩))).trans e
  · cases q : cs.lookup a with
    | none => rfl
    | some o =>
      have : hide S H a = none := by
        rw [hide_out (cS a o q)]
        exact csn a o q
      rw [this] at z
      cases z
end
section
variable {X : Cx} {ρ : Rho} {e : Expr} {es : List Expr} {pos p : Pos} {k : D → Prop}
theorem xe_callFzE {n m j : Nat} {ex : List Str} {x : Str} {ps : List Str} {C : Con} (F : Fg X.prog X.w X.K X.mg X.base n x ps C) (gd : X.A.guards = some []) (hr : Room m X.A) (cap : Cap) (hc : CapOk X ρ cap) (hfn : ∀ y, X.fn y = true) (hstk : X.stack = X.env :: X.outer)
    (h : XA X (e :: es) ρ fun ds => ∃ ds', UpL (LamOkE X j cap ex) (Act X.prog X.w X.K X.mg X.base (j + 1)) ds ds' ∧ ds'.length = ps.length ∧ C ds' k) (kb : ∀ d, k d → ∃ b, d = .bl b) (hnm : n ≤ m := by decide) (hg : Gl X x := by rfl)
    (hdb : (x == ("__debug__" : Str)) = false := by decide) (he : starEach (e :: es) X.env = (false, eval e X.env) :: starEach es X.env := by rfl) (hpl : (backTo pos (starEach es X.env)).any (·.1) = false := by rfl) :
    XE X (.Call (.Name x p) (e :: es) [] pos) ρ k := by
  obtain ⟨f, fd, h1, h2, h3, h4⟩ := F.ex
  refine ⟨fun pins s σ H Q I ⟨S, E, q⟩ => ?_⟩
  refine wpAny_Call_Name_kw (ld_glob I hg h1 ?_ hdb)
  refine PySem.W.callWith_K (h₀ := X.base) I.ok.mod.kin h2 (thn (anyA.run pos pins s σ H (fun vs H2 => ∃ ds, Ex H H2 ∧ AtL X.K (hide S H2) vs ds ∧ ∃ ds', UpL (LamOkE X j cap ex) (Act X.prog X.w X.K X.mg X.base (j + 1)) ds ds' ∧ ds'.length = ps.length ∧ C ds' k) I ⟨_, h, S, E, fun vs H2 ds e2 a2 hk => ⟨ds, e2, a2, hk⟩⟩) fun us s2 ⟨zs, H2, I2, rz, ds, e2, a2, ds', up, l1, hC⟩ => ⟨I2.kIn, ?_⟩) he hpl
  have E2 := E.mono e2
  obtain ⟨cs, c1, c2⟩ := cells_of I2 cap.names fun y hy => by
    unfold Cap.names at hy
    obtain ⟨p, hp, rfl⟩ := List.mem_map.mp hy
    exact I2.ok.has _ (.inl (hc p hp).2.2)
  have csO : Cs cs H2 s2.heap := ⟨fun a o z => let ⟨⟨y, hy⟩, w1, _⟩ := c2 a o z; ⟨w1, I2.freeC y a hy⟩⟩
  have cAb : ∀ a o, cs.lookup a = some o → X.s_0.heap.objs.size ≤ a := fun a o z => let ⟨⟨y, hy⟩, _⟩ := c2 a o z; I2.ok.cab y a (hfn y) hy
  have cFr : ∀ a o, cs.lookup a = some o → a ∉ frs X.stack := fun a o z hm => by
    rcases List.mem_cons.mp (I2.stkSub a hm) with w | w
    · obtain ⟨⟨y, hy⟩, _⟩ := c2 a o z
      exact I2.cne y a hy w
    · obtain ⟨_, o', ho', _⟩ := I2.ok.funs.mem w
      exact absurd (Nat.lt_of_lt_of_le (Heap.lt_size ho') (cAb a o z)) (Nat.lt_irrefl _)
  have e0 := I2.env0
  have e1 : Env0 X.prog X.w X.K X.mg X.base X.A X.stack s2 (addX cs H2) := ⟨e0.frames, e0.mod, fun b o z => ⟨(e0.bs b o z).1, by
      rw [addX_out (?_ : cs.lookup b = none)]
      · exact (e0.bs b o z).2
      · cases y : cs.lookup b with
        | none => rfl
        | some o' =>
          have w1 := Heap.lt_size z
          exact absurd (Nat.lt_of_lt_of_le w1 (Nat.le_trans I2.ok.bsz (cAb b o' y))) (Nat.lt_irrefl _)⟩, e0.bsz, e0.funs, fun b hb => by
      rw [addX_out (?_ : cs.lookup b = none)]
      · exact e0.frf b hb
      · cases y : cs.lookup b with
        | none => rfl
        | some o' => exact absurd hb (cFr b o' y), hok_add csO e0.hok, e0.bare⟩
  have sub := ex_add (H := H2) csO
  have ad : AtL X.K (hide S (addX cs H2)) zs ds' := atL_up (R := LamOkE X j cap ex) (T := Act X.prog X.w X.K X.mg X.base (j + 1)) (fun φ f o r hφ H' e' => lam_actE (n := j) I2 E2 hc c1 c2 r e' (hφ H' e')) up (a2.mono (hide_exN (ExN.of sub)))
  have lz : zs.length = ps.length := by
    rw [a2.length, ← up.length]
    exact l1
  have lu : us.length = ps.length := by rw [← rz.length]; exact lz
  have hb := h3 s2 us I2.kIn (by rw [List.append_nil]; exact lu)
  rw [List.append_nil] at hb
  have tr1 : Trk S (addX cs H2) := E2.trk.mono (Ex.of sub)
  have noext : ∀ a o, cs.lookup a = some o → ∀ H3, Ex (addX cs H2) H3 → H3 a = some (exO a o) := fun a o z H3 e3 => e3.k a _ (addX_in z) True.intro
  refine wpAny_call (codeAny_mono (h4.run X.A X.stack s2 (addX cs H2) ⟨us, []⟩ us zs (fun v H3 => (∀ a o, cs.lookup a = some o → H3 a = some (exO a o)) ∧ ∃ d, Ex (addX cs H2) H3 ∧ At X.K (hide S H3) v d ∧ k d) (fun _ _ _ => False) gd (hr.mono hnm) e1 hb rz ⟨S, ds', k, lz, tr1, ad, hC, fun v H3 d e3 a3 hk => ⟨fun a o z => noext a o z H3 e3, d, e3, a3, hk⟩⟩) fun r s' hq => ?_)
  match r, hq with
  | .error _, hq => exact (show False from hq).elim
  | .ok .next, hq => exact False.elim hq
  | .ok .brk, hq => exact False.elim hq
  | .ok .cont, hq => exact False.elim hq
  | .ok (.ret u), ⟨v, H3, os, bare, un, okE, rE, ext, d, e3, a3, hk⟩ =>
    have ct3 : Ct cs H3 := ⟨ext⟩
    have un2 := un_thaw csO un okE ct3
    have inH : ∀ b o, H2 b = some o → cs.lookup b = none := fun b o z => by
      cases y : cs.lookup b with
      | none => rfl
      | some o' =>
        rw [(csO.at_ b o' y).2] at z
        cases z
    have e4 : Ex H2 (remX cs H3) := by
      refine ⟨⟨fun b o z nt => ?_, fun b o z => ?_⟩, fun p hp t => ?_⟩
      · rw [remX_out (inH b o z)]
        exact e3.k b o (sub b o z) nt
      · rw [remX_out (inH b o z)]
        exact e3.th b o (sub b o z)
      · obtain ⟨ps', t1, t2, t3⟩ := e3.t p hp (t.ext sub)
        obtain ⟨ps0, t0, _⟩ := t
        refine ⟨ps', by rw [remX_out (inH _ _ t0)]; exact t1, t2, fun pos cv hcv => ?_⟩
        obtain ⟨c, w1, w2⟩ := t3 pos cv hcv
        exact ⟨c, w1, by rw [remX_out (code_ncell (o := default) okE ct3 (fun c o z => (c2 c o z).2.2) w2)]; exact w2⟩
    obtain ⟨b, rfl⟩ := kb d hk
    have a4 : At X.K (hide S (remX cs H3)) v (.bl b) := by
      cases a3
      exact .bl b
    exact I2.after ⟨v, remX cs H3, os, bare, un2, hok_rem ct3 okE, rE, q v _ _ (e2.trans e4) a4 hk⟩
end
end VL

set_option Elab.async false
set_option linter.all false
set_option maxRecDepth 100000
set_option maxHeartbeats 4000000
namespace VL
variable [Tb]
open PySem PySem.Spec PyProof.Rows L2 LamX HotX
section
variable {X : Cx} {ρ : Rho} {elt it a e : Expr} {scope : Scope} {pos p px : Pos} {k : D → Prop}
/-- [e for x in a tuple], the tuple's expression raises -/
theorem xx_lcE {W : WX} (i : Nat) {x fl : Str} {Ce : Addr} {d : D} (h : XX X W it ρ (.err Ce fl d)) (hN : X.N.Nodup)
    (hB : blkC X.N X.env.scope scope [(x, i)] = true := by first | decide +kernel | rfl) (hca : X.calm = true := by rfl) (hi : X.N[i]? = some x := by rfl)
    (hx : Blk X scope fun Y => L2.Loc Y.env.scope x := by first | exact fun _ _ _ _ _ => Or.inl rfl | exact fun _ _ _ _ _ => Or.inr rfl)
    (hf : Blk X scope fun Y => Y.fn x = true ∨ Y.env.scope.names.lookup x = some .local := by first | exact fun _ _ _ _ _ => Or.inr rfl | exact fun _ _ _ _ _ => Or.inl rfl)
    (hs : ∀ y, foldedSetIterable it X.env y = pure y := by intro _; rfl) :
    XX X W (.ListComp elt [⟨.Name x px, it, [], 0⟩] scope pos) ρ (.err Ce fl d) :=
  impE (pe_lc (own := [(x, i)]) (g := gName i) (tt := tYes) (te := cE X scope elt) hca hN (pi_tup anyE) (blkOk_by hB)
    (fun s H C cl fp => pg_name hN hi (hx s H C cl fp) (hf s H C cl fp)) (fun _ _ _ _ _ => pts_nil) (fun s H C cl fp => impE anyE fun σ H Q q => q s _ C cl fp) hs) fun σ H Q ⟨S, EN, q, r⟩ => useX h EN (fun v H2 d' ho => (nomatch ho)) r
/-- int(a truth) -/
theorem xe_intB (hm : X.mg "int" = none) (h : XE X a ρ fun d => ∃ b, d = .bl b ∧ k (.int (if b then 1 else 0))) (hg : Gl X "int" := by rfl)
    (he : starEach (a :: []) X.env = (false, eval a X.env) :: starEach [] X.env := by rfl) : XE X (.Call (.Name "int" p) [a] [] pos) ρ k :=
  xe_ct1 (R := fun d d' => ∃ b, d = .bl b ∧ d' = .int (if b then 1 else 0)) call_int1 hm (by decide +kernel) (fun v d d' H S Q a1 ⟨b, h1, h2⟩ q => by
    subst h1 h2
    exact .inr ⟨b, by rw [a1.inv_bl], q _ (.int _)⟩) (h.imp fun d ⟨b, h1, h2⟩ => ⟨_, ⟨b, h1, rfl⟩, h2⟩) hg (by decide) (by decide) he
end
/-- try: return e / except A: .. -/
theorem xs_tryR {X : Cx} {ρ : Rho} {j : J} {x : Str} {A1 : Addr} {o : Out} {e : Expr} {suite : List Stmt} {b₀ : Stmt} {p1 ps pos pos' : Pos} (m1 : X.mg x = some (.ref A1))
    (he : ∀ (W : WX) (pn : List (Addr × Obj)) (xe : Value → Shared → Prop), L2N.Takes (X.tr pn xe) W → XX (X.tr pn xe) W e ρ o)
    (hok : ∀ d, o = .ok d → j.rt d)
    (her : ∀ C fl d, o = .err C fl d → PySem.W.exmOne X.K (.ref C) (.ref A1) = some true ∧ ∀ (a : Addr) (oe : Obj) (pn : List (Addr × Obj)), XB (X.suite a ((a, oe) :: pn)) (b₀ :: suite) ρ j)
    (hs : X.stack = X.env :: X.outer := by rfl) (hf : X.env.frame = some X.env.locals := by rfl) (g1 : Gl X x := by rfl) (d1 : (x == ("__debug__" : Str)) = false := by decide) :
    XS X (.Try [.Return (some e) ps] [.ExceptHandler (some (.Name x p1)) none (b₀ :: suite) pos'] [] [] pos) ρ j := fun S0 H0 tr => by
  refine impS (L2N.ps_try_many (l := [(.ref A1, fun a cls d D σ H => ∀ (oe : Obj) (pn : List (Addr × Obj)), L2N.Zn cls d oe → (∃ vs, oe.data = .fields vs) → aSs (X.suite a ((a, oe) :: pn)) (b₀ :: suite) D σ H)]) (tb := fun W => tRet (tX X.K ρ o W)) hs hf tk0
    (fun W pn xe tk _ => pss_one (ps_ret (X := X.tr pn xe) (he W pn xe tk))) (.cons ⟨g1, d1, .inl m1⟩ (fun a oe cls d pn hz hv => impSs anySs fun D σ H h => h oe pn hz hv) .nil)) fun En σ H ⟨⟨S, h1, h2, h3, h4, E⟩, fit⟩ => ?_
  refine ⟨S, E, fun v H2 d ho e2 a => ?_, fun cls dct H2 C fl d ho e2 er => ?_⟩
  · exact fit.rt _ _ _ (h4.trans e2) (a.mono (hide_sub h1)) (hok d ho)
  · obtain ⟨hx, su⟩ := her C fl d ho
    obtain ⟨rfl, dd, fs, v', hdd, hfs, hl, ha⟩ := er
    refine ⟨true, hx, fun _ a na oe pn hz hv => ?_, fun z => (nomatch z)⟩
    exact ⟨_, su a oe pn S0 H0 tr, ⟨S, h1, h2, h3, h4.trans e2, E.mono e2⟩, fit⟩
/-! ### name[i], name[l] = e -/
section
variable {K : PySem.W.Frag} {S : List Addr} {H : Hp} {σ : L2.St} {ρ : Rho}
theorem EnvOk.write {i : Nat} {ds es : List D} {p : Addr} {us : List V} (E : EnvOk K S H σ ρ) (hi : ρ[i]? = some (.own ds)) (hp : σ[i]? = some (some (.ref p))) (pS : p ∈ S) (a : AtL K (hide S H) us es) : EnvOk K S (upd H p (.lst us)) σ (ρ.set i (.own es)) := by
  obtain ⟨p', vs0, w1, _, w3, _⟩ := E.own i ds hi
  rw [hp] at w1
  cases w1
  have eq : hide S (upd H p (.lst us)) = hide S H := hide_upd pS
  refine ⟨by simp [E.len], ⟨fun b hb => ?_, fun q hq => tabS_upd (E.trk.tb q hq) w3 True.intro⟩, fun l d k => ?_, fun l fs k => ?_, fun l m fs gs q k1 k2 k3 k4 => ?_⟩
  · by_cases z : b = p
    · exact ⟨.lst us, by rw [z]; exact upd_same, True.intro⟩
    · obtain ⟨o, q, n⟩ := E.trk.tr b hb
      exact ⟨o, by rw [upd_ne z]; exact q, n⟩
  · rcases ent_set k with ⟨rfl, r⟩ | ⟨ne, r⟩
    · cases r
    · rw [eq]
      exact E.dat l d r
  · rw [eq]
    rcases ent_set k with ⟨rfl, r⟩ | ⟨ne, r⟩
    · cases r
      exact ⟨p, us, hp, pS, upd_same, a⟩
    · obtain ⟨q, vs, r1, r2, r3, r4⟩ := E.own l fs r
      have : q ≠ p := fun z => by
        rw [z] at r1
        exact ne (E.sep l i fs ds p r hi r1 hp)
      exact ⟨q, vs, r1, r2, by rw [upd_ne this]; exact r3, r4⟩
  · have fix : ∀ {m : Nat} {gs : List D}, (ρ.set i (.own es))[m]? = some (.own gs) → ∃ gs', ρ[m]? = some (.own gs') := fun {m gs} k => by
      rcases ent_set k with ⟨rfl, r⟩ | ⟨ne, r⟩
      · exact ⟨_, hi⟩
      · exact ⟨_, r⟩
    obtain ⟨_, r1⟩ := fix k1
    obtain ⟨_, r2⟩ := fix k2
    exact E.sep l m _ _ q r1 r2 k3 k4
end
section
variable {X : Cx} {ρ : Rho} {j : J} {e ix iy : Expr} {pos apos bpos p p' pt : Pos} {kt : Nat}
theorem xs_swap (i : Nat) {x : Str} {ds : List D} (hi : ρ[i]? = some (.own ds)) (h : XE X e ρ fun d => ∃ d1 d2, d = .tup [d1, d2] ∧ XE X ix ρ fun y => ∃ n : Nat, y = .int n ∧ n < ds.length ∧ XE X iy (ρ.set i (.own (ds.set n d1))) fun z => ∃ m : Nat, z = .int m ∧ m < ds.length ∧ j.nx (ρ.set i (.own ((ds.set n d1).set m d2))))
    (hN : X.N[i]? = some x := by rfl)
    (hv : Vis X.env.scope x := by first | exact Or.inl rfl | exact Or.inr (Or.inl rfl) | exact Or.inr (Or.inr rfl)) (h1' : (x == ("__debug__" : Str)) = false := by decide) (h2' : (x == ("__classdict__" : Str)) = false := by decide) (hc : X.calm = true := by rfl)
    (ha : ∀ v, assign (.Subscript (.Name x p) ix apos) X.env v = (do
      let ov ← holding [v] (eval (.Name x p) X.env)
      let iv ← holding [v, ov] (eval ix X.env)
      standAt apos
      holding [v, ov, iv] (setItem ov iv v)
      release [v, ov, iv] []) := by intro _; rfl)
    (hb : ∀ v, assign (.Subscript (.Name x p') iy bpos) X.env v = (do
      let ov ← holding [v] (eval (.Name x p') X.env)
      let iv ← holding [v, ov] (eval iy X.env)
      standAt bpos
      holding [v, ov, iv] (setItem ov iv v)
      release [v, ov, iv] []) := by intro _; rfl)
    (hs : swapsWithSole [.Tuple [.Subscript (.Name x p) ix apos, .Subscript (.Name x p') iy bpos] kt pt] e pos.line X.env = pure false := by rfl) (hw : swappedStores [.Tuple [.Subscript (.Name x p) ix apos, .Subscript (.Name x p') iy bpos] kt pt] e X.env = pure none := by rfl)
    (h1 : (assignEach [.Tuple [.Subscript (.Name x p) ix apos, .Subscript (.Name x p') iy bpos] kt pt] X.env).map (·.2) = [assign (.Tuple [.Subscript (.Name x p) ix apos, .Subscript (.Name x p') iy bpos] kt pt) X.env] := by rfl)
    (c1 : (assignEach [.Subscript (.Name x p) ix apos, .Subscript (.Name x p') iy bpos] X.env).map (·.2) = assign (.Subscript (.Name x p) ix apos) X.env :: (assignEach [.Subscript (.Name x p') iy bpos] X.env).map (·.2) := by rfl) (c2 : (assignEach [.Subscript (.Name x p') iy bpos] X.env).map (·.2) = assign (.Subscript (.Name x p') iy bpos) X.env :: (assignEach [] X.env).map (·.2) := by rfl)
    (hn : (assignEach [.Subscript (.Name x p) ix apos, .Subscript (.Name x p') iy bpos] X.env).length = 2 := by rfl) (hst : (assignEach [.Subscript (.Name x p) ix apos, .Subscript (.Name x p') iy bpos] X.env).findIdx? (·.1) = none := by rfl) :
    XS X (.Assign [.Tuple [.Subscript (.Name x p) ix apos, .Subscript (.Name x p') iy bpos] kt pt] e pos) ρ j := fun S0 H0 tr =>
  impS (ps_asg anyE (pg_tup hc (pgs_cons (pg_sub (pe_var hN hv h1' h2') anyE set_list ha) (pgs_cons (pg_sub (pe_var hN hv h1' h2') anyE set_list hb) pgs_nil c2) c1) hn hst) hs hw h1) fun En σ H ⟨⟨S, g1, g2, g3, g4, E⟩, f⟩ => useE h E fun v H1 d e1 av ⟨d1, d2, hd, hk⟩ => by
    subst hd
    obtain ⟨t, vs, rfl, ht, av⟩ := av.inv_tup
    cases av with
    | cons av1 av =>
      cases av with
      | cons av2 av =>
        cases av
        rename_i v1 v2
        have E1 := E.mono e1
        obtain ⟨q, ws, o1, o2, o3, o4⟩ := E1.own i ds hi
        refine ⟨t, _, rfl, ex_t hide_le ht, rfl, _, _, rfl, _, o1, useE hk E1 fun y H2 dy e2 ay ⟨n, hn', hl, hk2⟩ => ?_⟩
        subst hn'
        have E2 := E1.mono e2
        have o4' := o4.mono (hide_ex e2)
        have w1 : AtL X.K (hide S H2) (ws.set n v1) (ds.set n d1) := o4'.set n (av1.mono (hide_ex e2))
        have E3 : EnvOk X.K S (upd H2 q (.lst (ws.set n v1))) σ (ρ.set i (.own (ds.set n d1))) := EnvOk.write E2 hi o1 o2 w1
        have eqh : hide S (upd H2 q (.lst (ws.set n v1))) = hide S H2 := hide_upd o2
        have hi2 : (ρ.set i (.own (ds.set n d1)))[i]? = some (.own (ds.set n d1)) := by
          rw [List.getElem?_set]
          have := (List.getElem?_eq_some_iff.mp hi).1
          simp [this]
        refine ⟨q, ws, _, n, rfl, ay.inv_int, e2.k _ _ o3 True.intro, ?_, _, _, rfl, _, o1, useE hk2 E3 fun z H3 dz e3 az ⟨m, hm, hl2, hk3⟩ => ?_⟩
        · unfold ixN
          rw [if_pos (by omega), if_pos (by rw [o4.length]; omega)]
          simp
        subst hm
        refine ⟨q, ws.set n v1, _, m, rfl, az.inv_int, e3.k _ _ upd_same True.intro, ?_, ?_⟩
        · unfold ixN
          rw [if_pos (by omega), if_pos (by rw [List.length_set, o4.length]; omega)]
          simp
        have ex3 : Ex H0 (upd H2 q (.lst (ws.set n v1))) := (g4.trans (e1.trans e2)).mut (g3 i ds q hi o1) (e2.k _ _ o3 True.intro) True.intro
        have g3' : ∀ (l : Nat) (fs : List D) (r : Addr), (ρ.set i (.own (ds.set n d1)))[l]? = some (.own fs) → σ[l]? = some (some (.ref r)) → H0 r = none := fun l fs r k1 k2 => by
          rcases ent_set k1 with ⟨rfl, _⟩ | ⟨_, k3⟩
          · exact g3 l ds r hi k2
          · exact g3 l fs r k3 k2
        have av2' : At X.K (hide S H3) v2 d2 := ((eqh ▸ (av2.mono (hide_ex e2)) : At X.K (hide S (upd H2 q (.lst (ws.set n v1)))) v2 d2)).mono (hide_ex e3)
        have w2 : AtL X.K (hide S H3) ((ws.set n v1).set m v2) ((ds.set n d1).set m d2) := ((eqh ▸ w1 : AtL X.K (hide S (upd H2 q (.lst (ws.set n v1)))) (ws.set n v1) (ds.set n d1)).mono (hide_ex e3)).set m av2'
        refine ⟨rfl, f.nx _ _ _ (StOk.write tr g1 g2 g3' (ex3.trans e3) (E3.mono e3) hi2 o1 o2 w2) ?_⟩
        rw [List.set_set]
        exact hk3
end
end VL

set_option Elab.async false
set_option linter.all false
set_option maxRecDepth 100000
set_option maxHeartbeats 4000000
namespace VL
variable [Tb]
open PySem PySem.Spec PyProof.Rows L2 LamX
section
variable {X : Cx} {ρ : Rho} {j : J} {a b : Expr} {pos : Pos}
/-- a, b = e, [..] -/
theorem xs_parM (i l : Nat) {x y : Str} {px py pt : Pos} {kt k2 pt2} (hc : X.calm = true) (hN : X.N.Nodup)
    (h : XE X a ρ fun d => XN X b ρ fun ds => j.nx ((ρ.set i (.dat d)).set l (.own ds)))
    (hw : swappedStores [.Tuple [.Name x px, .Name y py] kt pt] (.Tuple [a, b] k2 pt2) X.env = pure (some [x, y]))
    (hi : X.N[i]? = some x := by rfl) (hl : X.N[l]? = some y := by rfl) (hil : i ≠ l := by decide)
    (hx : X.env.scope.names.lookup x = some .local := by rfl) (hy : X.env.scope.names.lookup y = some .local := by rfl)
    (hs : swapsWithSole [.Tuple [.Name x px, .Name y py] kt pt] (.Tuple [a, b] k2 pt2) pos.line X.env = pure false := by rfl)
    (s1 : starEach [a, b] X.env = (false, eval a X.env) :: starEach [b] X.env := by rfl) (s2 : starEach [b] X.env = (false, eval b X.env) :: starEach [] X.env := by rfl) :
    XS X (.Assign [.Tuple [.Name x px, .Name y py] kt pt] (.Tuple [a, b] k2 pt2) pos) ρ j := fun S0 H0 tr =>
  impS (ps_par hc hN hi hl hil hx hy (pa_cons anyE (pa_cons anyE pa_nil s2) s1) hw hs) fun En σ H ⟨⟨S, h1, h2, h3, h4, E⟩, f⟩ =>
    useE h E fun u H1 d e1 a1 hb => ⟨_, hb, S, E.mono e1, fun q H2 vs ds hn e2 hp a2 hk => ⟨u, .ref q, rfl, by
      have E1 := (E.mono e1).store (i := i) a1
      have Ep := E1.storeOwn (i := l) e2 hn hp a2
      have h0 : H0 q = none := h4.back (e1.back hn)
      refine f.nx _ _ _ ⟨q :: S, fun b hb => List.mem_cons_of_mem _ (h1 b hb), fun b hb => ?_, fun m fs r k1 k2 => ?_, h4.trans (e1.trans e2), Ep⟩ hk
      · rcases List.mem_cons.mp hb with z | z
        · rw [z]
          exact .inr h0
        · exact h2 b z
      · rcases ent_set k1 with ⟨rfl, r'⟩ | ⟨ne, r'⟩
        · have hlt : m < (σ.set i (some u)).length := by
            have := get_lt k2
            rwa [List.length_set] at this
          rw [List.getElem?_set_self hlt] at k2
          cases k2
          exact h0
        · rw [List.getElem?_set_ne (Ne.symm ne)] at k2
          rcases ent_set r' with ⟨rfl, r''⟩ | ⟨ne', r''⟩
          · cases r''
          · rw [List.getElem?_set_ne (Ne.symm ne')] at k2
            exact h3 m fs r r'' k2⟩⟩
end
end VL

set_option Elab.async false
set_option linter.all false
set_option maxRecDepth 100000
set_option maxHeartbeats 4000000
namespace VL
variable [Tb]
open PySem PySem.Spec PyProof.Rows L2 LamX HotX
/-! ## defs that return lambdas of their own -/
/-- statements whose end is seen with the names -/
structure PL (X : Cx) (sts : List Stmt) (t : (V → L2.St → Hp → Prop) → L2.St → Hp → Prop) : Prop where
  run : ∀ (s : Shared) (σ : L2.St) (H : Hp) (R : V → L2.St → Hp → Prop), Inv X [] σ H s → t R σ H → wpAny (model X.prog X.w) X.A (execs sts X.env) (fun fl s' => match fl with
    | .ret u => ∃ v σ' H', Inv X [] σ' H' s' ∧ RelV v u ∧ R v σ' H'
    | _ => False) X.xe s
section
variable {X : Cx} {st : Stmt} {rest : List Stmt} {e : Expr} {pos : Pos}
theorem pl_cons {t : TS} {u : (V → L2.St → Hp → Prop) → L2.St → Hp → Prop} (h1 : PS X st t) (h2 : PL X rest u) : PL X (st :: rest) fun R σ H => t { nx := u R, rt := fun _ _ => False } σ H := by
  refine ⟨fun s σ H R I h => wpAny_execs_cons (thn (h1.run [] s σ H _ I h) fun f s1 q => ?_)⟩
  cases f with
  | next =>
    obtain ⟨σ', H', I', q⟩ := q
    exact h2.run s1 σ' H' R I' q
  | ret v =>
    obtain ⟨_, _, _, _, _, q⟩ := q
    exact q.elim
  | brk =>
    obtain ⟨_, _, _, q⟩ := q
    exact q.elim
  | cont =>
    obtain ⟨_, _, _, q⟩ := q
    exact q.elim
theorem pl_ret {te : TE} (he : PE X e te) : PL X [.Return (some e) pos] fun R σ H => te σ H fun v H1 => R v σ H1 := by
  refine ⟨fun s σ H R I h => wpAny_execs_cons (wpAny_Return_some (thn (he.run [] s σ H _ I h) fun v s1 ⟨x, H1, I1, r1, q1⟩ => ?_))⟩
  exact ⟨x, σ, H1, I1, r1, q1⟩
end
def aPL (X : Cx) (sts : List Stmt) : (V → L2.St → Hp → Prop) → L2.St → Hp → Prop := fun R σ H => ∃ t, PL X sts t ∧ t R σ H
theorem anyPL {X : Cx} {sts : List Stmt} : PL X sts (aPL X sts) := ⟨fun s σ H R I ⟨_, h, q⟩ => h.run s σ H R I q⟩
/-- what a block comes to, the names told -/
def XBL (X : Cx) (sts : List Stmt) (ρ : Rho) (φ : Rho → D → Prop) : Prop := ∀ S0 H0, Trk S0 H0 → ∀ (R : V → L2.St → Hp → Prop) σ H, StOk X.K S0 H0 H σ ρ →
  (∀ v σ' H' ρ' S d, (∀ a ∈ S0, a ∈ S) → Ex H0 H' → EnvOk X.K S H' σ' ρ' → At X.K (hide S H') v d → φ ρ' d → R v σ' H') → aPL X sts R σ H
section
variable {X : Cx} {st : Stmt} {rest : List Stmt} {ρ : Rho} {φ : Rho → D → Prop} {e : Expr} {pos : Pos}
theorem xbl_cons (h : XS X st ρ { nx := fun ρ' => XBL X rest ρ' φ, rt := fun _ => False }) : XBL X (st :: rest) ρ φ := fun S0 H0 tr R σ H ok post =>
  ⟨_, pl_cons (h S0 H0 tr) anyPL, ok, ⟨fun σ' H' ρ' ok' hb => hb S0 H0 tr R σ' H' ok' post, fun _ _ _ _ _ z => z.elim, fun _ _ _ _ z => z.elim, fun _ _ _ _ z => z.elim⟩⟩
theorem xbl_ret (h : XE X e ρ (φ ρ)) : XBL X [.Return (some e) pos] ρ φ := fun S0 H0 tr R σ H ⟨S, h1, h2, h3, h4, E⟩ post =>
  ⟨_, pl_ret anyE, useE h E fun v H2 d e2 a hk => post v σ H2 ρ S d h1 (h4.trans e2) (E.mono e2) a hk⟩
/-- a list's name stands for its data from here on -/
theorem stok_data {K : PySem.W.Frag} {S0 : List Addr} {H0 H : Hp} {σ : L2.St} (tr : Trk S0 H0) (i : Nat) {ds : List D} (hi : ρ[i]? = some (.own ds)) (ok : StOk K S0 H0 H σ ρ) : StOk K S0 H0 H σ (ρ.set i (.dat (.lst ds))) := by
  obtain ⟨S, h1, h2, h3, h4, E⟩ := ok
  obtain ⟨p, vs, g1, g2, g3, g4⟩ := E.own i ds hi
  have n0 := h3 i ds p hi g1
  have npS0 : p ∉ S0 := fun z => by
    obtain ⟨o, r, _⟩ := tr.tr p z
    rw [n0] at r
    cases r
  refine ⟨S.filter (fun a => decide (a ≠ p)), fun a ha => ?_, fun a ha => h2 a (List.mem_filter.mp ha).1, fun l es q k1 k2 => ?_, h4, ?_⟩
  · exact List.mem_filter.mpr ⟨h1 a ha, by simpa using fun z => npS0 (by rw [← z]; exact ha)⟩
  · rcases ent_set k1 with ⟨rfl, r⟩ | ⟨ne, r⟩
    · cases r
    · exact h3 l es q r k2
  · have sub : ExN (hide S H) (hide (S.filter (fun a => decide (a ≠ p))) H) := hide_sub fun a ha => (List.mem_filter.mp ha).1
    have out : p ∉ S.filter (fun a => decide (a ≠ p)) := fun z => by simpa using (List.mem_filter.mp z).2
    have hil : i < ρ.length := get_lt hi
    refine ⟨by simp [E.len], ⟨fun a ha => E.trk.tr a (List.mem_filter.mp ha).1, E.trk.tb⟩, fun l d k => ?_, fun l es k => ?_, fun l m es fs q k1 k2 k3 k4 => ?_⟩
    · rcases ent_set k with ⟨rfl, r⟩ | ⟨ne, r⟩
      · cases r
        refine ⟨_, g1, .lst (SqL.of ?_) (g4.mono sub)⟩
        rw [hide_out out]
        exact g3
      · obtain ⟨v, r1, r2⟩ := E.dat l d r
        exact ⟨v, r1, r2.mono sub⟩
    · rcases ent_set k with ⟨rfl, r⟩ | ⟨ne, r⟩
      · cases r
      · obtain ⟨q, us, r1, r2, r3, r4⟩ := E.own l es r
        refine ⟨q, us, r1, List.mem_filter.mpr ⟨r2, ?_⟩, r3, r4.mono sub⟩
        have : q ≠ p := fun z => by
          rw [z] at r1
          exact ne (E.sep l i es ds p r hi r1 g1)
        simpa using this
    · rcases ent_set k1 with ⟨rfl, r⟩ | ⟨ne, r⟩
      · cases r
      · rcases ent_set k2 with ⟨rfl, r'⟩ | ⟨ne', r'⟩
        · cases r'
        · exact E.sep l m es fs q r r' k3 k4
theorem xbl_data (i : Nat) {ds : List D} (hi : ρ[i]? = some (.own ds)) (h : XBL X rest (ρ.set i (.dat (.lst ds))) φ) : XBL X rest ρ φ := fun S0 H0 tr R σ H ok post =>
  h S0 H0 tr R σ H (stok_data tr i hi ok) post
end
section
variable {P : Program} {w : World} {K : PySem.W.Frag} {mg : Str → Option Value} {base : Heap}
open PySem.Spec PyProof.Rows in
theorem fnL_of {k : Nat} {f : Addr} {name qual : Str} {params : Arguments} {body : List Stmt} {scope : Scope} {dV kV doc pm cdv ct oc : Value} {an od : Option Addr} {osl : Array (Option Value)} {N ps : List Str} {sp : Sp}
    (at_ : K.lookup f = some ⟨oc, od, .func (PySem.W.fnOf name qual params body scope dV kV doc pm an cdv ct), osl⟩) (code : PySem.W.codeIn K cdv qual = true) (S : FnScope N ps scope) (len : ∀ vs H Q E, sp vs H Q E → vs.length = ps.length)
    (hbody : ∀ (A : Around) (outer : List Env) (s : Shared) (H : Hp) (vs : List V) (Q : VK) (E : XK), A.guards = some [] → Room k (A.deeper (PyProof.Rows.envOfC qual scope s.heap.objs.size f cdv)) → sp vs H Q E →
      ∃ t, PL (cxOf CX0 P w K mg base N qual scope f cdv A outer s H E).nox body t ∧ t (fun v σ' H' => ∀ s', Inv (cxOf CX0 P w K mg base N qual scope f cdv A outer s H E).nox [] σ' H' s' → ∃ H'', Un (frs outer) [] H H'' s.heap s'.heap ∧ HOk P w H'' s'.heap ∧ Q v H'') (L2.start N vs) H) :
    FnG P w K mg base (k + 1) f (PySem.W.fnOf name qual params body scope dV kV doc pm an cdv ct) ps sp := by
  constructor
  · exact len
  intro A outer s H args us vs Q E gd room env0 bnd rel hsp
  have many := len vs H Q E hsp
  have KX : K.In s.heap := env0.mod.kin.keeps fun b o z => (env0.bs b o z).1
  have noLim : s.heap.NoLimit := env0.mod.nolimit.keeps fun b o z => (env0.bs b o z).1
  have kinds : ∀ y ∈ ps.zip us, scope.names.lookup y.1 = some .local ∨ (scope.names.lookup y.1 = some .cell ∧ ((cellsFrom (s.heap.objs.size + 1) scope.names []).lookup y.1).isSome = true) := by
    rintro ⟨n, v⟩ hy
    have inP : n ∈ ps := (List.of_mem_zip hy).1
    cases S.par n inP with
    | inl z => exact .inl z
    | inr z => exact .inr ⟨z, PySem.W.cellsFrom_some _ _ _ (.inl z)⟩
  refine codeAny_call_function room.depth (KX _ _ at_) rfl S.co S.gen rfl (PySem.W.codeRec_of KX code) (bnd _ _ _ _ ?_)
  refine wpAny_newFunctionEnv_cells S.kind kinds fun ev hev s1 laid => ?_
  subst hev
  refine ⟨noLim.keeps laid.toInCall.keep, codeAny_func ?_⟩
  obtain ⟨t, walk, hq⟩ := hbody A outer s H vs Q E gd (room.deeper _) hsp
  have I0 : Inv (cxOf CX0 P w K mg base N qual scope f cdv A outer s H E) [] (L2.start N vs) H s1 := inv_start S room.hd env0 many rel laid
  refine wpAny_mono (walk.run s1 (L2.start N vs) H _ (I0.wish _) hq) (fun fl s' out => ?_) fun e s' out => False.elim out
  match fl, out with
  | .ret u, ⟨v, σ', H', J, rv, q⟩ =>
    obtain ⟨H'', un, ok, q⟩ := q s' J
    exact ⟨v, H'', J.os, J.bare, un, ok, rv, q⟩
  | .next, out => exact out.elim
  | .brk, out => exact out.elim
  | .cont, out => exact out.elim
theorem xdefL {x qual : Str} {st : Stmt} {f : Addr} {fd : FuncData} {N ps : List Str} {n : Nat} {C : Con} (F : Fun K x qual st f fd) (Sc : FnScope N ps (defScope st))
    (body : ∀ (ds : List D) (k : D → Prop), ds.length = ps.length → C ds k → ∀ (cdv : Value), codeVal K f = some cdv → ∀ (A : Around) (outer : List Env) (s : Shared) (H : Hp) (E : XK), A.guards = some [] → Room n (A.deeper (PyProof.Rows.envOfC qual (defScope st) s.heap.objs.size f cdv)) →
      XBL (cxOf CX0 P w K mg base N qual (defScope st) f cdv A outer s H E).nox (defBody st) (startR N.length ds) fun ρ d => ∃ (cap : Cap) (j : Nat) (d' : D), CapOk (cxOf CX0 P w K mg base N qual (defScope st) f cdv A outer s H E).nox ρ cap ∧
        Up (LamOk (cxOf CX0 P w K mg base N qual (defScope st) f cdv A outer s H E).nox j cap) (Act P w K mg base (j + 1)) d d' ∧ k d') : FnG P w K mg base (n + 1) f fd ps (spC K ps.length C) := by
  have hpl : ps.length ≤ N.length := by
    have := congrArg List.length Sc.pre
    rw [List.length_take] at this
    omega
  obtain ⟨oc, od, kV, doc, pm, an, cdv, ct, osl, rfl, lk, hcd⟩ := F.ex
  have hcv : codeVal K f = some cdv := by
    unfold codeVal
    rw [lk]
  refine fnL_of lk hcd Sc (fun vs H Q E h => ?_) fun A outer s H vs Q E gd hr h => ?_
  · obtain ⟨_, _, _, hl, _⟩ := h
    exact hl
  · obtain ⟨S0, ds, k, hl, tr, a, hc, q⟩ := h
    refine ⟨_, anyPL, body ds k (by rw [← a.length]; exact hl) hc cdv hcv A outer s H E gd hr S0 H tr _ _ _ (start_ok tr (by omega) a) ?_⟩
    rintro v σ' H' ρ' S d h1 e1 EN at_ ⟨cap, j, d', hcap, up, hk⟩ s' J
    obtain ⟨cs, c1, c2⟩ := cells_of J cap.names fun y hy => by
      unfold Cap.names at hy
      obtain ⟨p, hp, rfl⟩ := List.mem_map.mp hy
      exact J.ok.has _ (.inl (hcap p hp).2.2)
    have csO : Cs cs H' s'.heap := ⟨fun a o z => let ⟨⟨y, hy⟩, w1, _⟩ := c2 a o z; ⟨w1, J.freeC y a hy⟩⟩
    have cAb : ∀ a o, cs.lookup a = some o → s.heap.objs.size ≤ a := fun a o z => let ⟨⟨y, hy⟩, _⟩ := c2 a o z; J.ok.cab y a rfl hy
    have sub := ex_add (H := H') csO
    have u : Un (frs outer) [] H H' s.heap s'.heap := J.base
    refine ⟨addX cs H', ⟨u.keep, u.slot, fun b o e n hx => ?_, u.there, fun b xs e => sub b _ (u.tups b xs e), fun b o v e => sub b _ (u.frzs b o v e), fun b ps e => let ⟨more, h⟩ := u.tbls b ps e; ⟨more, sub b _ h⟩⟩, hok_add csO J.hok, q v _ d' (e1.trans (Ex.of sub)) ?_ hk⟩
    · rw [addX_out (?_ : cs.lookup b = none)]
      · exact u.free b o e n hx
      · cases y : cs.lookup b with
        | none => rfl
        | some o' => exact absurd (Nat.lt_of_lt_of_le (Heap.lt_size e) (cAb b o' y)) (Nat.lt_irrefl _)
    · have a1 := at_.mono (hide_exN (ExN.of sub))
      have a2 := at_up (R := LamOk (cxOf CX0 P w K mg base N qual (defScope st) f cdv A outer s H E).nox j cap) (T := Act P w K mg base (j + 1)) (fun φ f o r hφ H' e' => lam_act (n := j) J EN hcap c1 c2 r e' (hφ H' e')) up a1
      exact a2.mono (hide_sub h1)
end
end VL

set_option Elab.async false
set_option linter.all false
set_option maxRecDepth 100000
set_option maxHeartbeats 4000000
namespace PySem.W
open PySem PySem.Builtin
/-! ## repr of an instance within a tuple, a list -/
section
variable {prog : Program} {w : World} {A : Around} {E : Value → Shared → Prop} {s : Shared} {K : Frag} {x C f : Addr} {ox : Obj} {od : Option Obj}
theorem ifBoundBy_K {b : Nat} {name : Str} {Q : Option Value → Shared → Prop} (X : K.In s.heap) (I : InstAt s.heap x ox C od) (hs : findIn K (.ref C) name = some (some (.ref f))) (hf : isFn K (.ref f) = true)
    (h : wpAny (model prog w) A (call (.ref f) [.ref x]) (fun v => Q (some v)) E s) : wpAny (model prog w) A (callSpecialIfBoundBy? (fun g first => match reprUnder? g, first with
      | some twin, [self] => call twin [self, rawInt b]
      | _, _ => call g (first ++ [])) (.ref x) name) Q E s := by
  simp only [callSpecialIfBoundBy?, bindSpecialIfBound?]
  refine wpAny_holding (wpAny_bind (wpAny_bind (wpAny_bind (I.type.here ((looks_findIn X hs).here ?_)))))
  refine wpAny_bind (wpAny_askSetting (wpAny_ite ?_))
  have fin : wpAny (model prog w) A (call (.ref f) ([.ref x] ++ []) >>= fun v => pure (some v)) Q E s := wpAny_bind (wpAny_mono h (fun v s' h' => wpAny_pure h') fun _ _ h' => h')
  split
  · exact wpAny_bind ((bind_fn X _ (beq_iff_eq.mp hf)).here (wpAny_pure (by exact fin)))
  · exact wpAny_tryCatch (wpAny_bind ((bind_fn X _ (beq_iff_eq.mp hf)).here (wpAny_pure (by exact fin))))
theorem vl_reprU {b : Nat} {Q : Str → Shared → Prop} (hb : b ≤ sizeLine) (hu : A.units < cLine) (X : K.In s.heap) (I : InstAt s.heap x ox C od) (hs : findIn K (.ref C) "__repr__" = some (some (.ref f))) (hf : isFn K (.ref f) = true)
    (h : wpAny (model prog w) A (call (.ref f) [.ref x]) (fun v s' => ∃ y u, v = .str y u ∧ Q y s') E s) : wpAny (model prog w) A (pyReprUnder b (.ref x)) Q E s := by
  refine wpAny_pyReprUnder_ref hb ?_
  unfold pyReprObjUnder pyReprObjBy
  refine wpAny_bind (wpAny_cRoomFor hu ?_)
  refine wpAny_bind (m := specialOf _ _) (wpAny_bind (I.type.here ((looks_findIn X hs).here ?_)))
  show wpAny _ _ (if (some (Value.ref f)).isNone = true then _ else _) _ _ _
  rw [if_neg (by simp)]
  refine wpAny_bind (m := callSpecialIfBoundBy? _ (.ref x) (Str.ofString "__repr__")) (ifBoundBy_K X I hs hf (wpAny_mono h (fun r s' hr => ?_) fun _ _ y => y))
  obtain ⟨m, tk, rfl, hq⟩ := hr
  refine wpAny_bind (wpAny_isInstance (typeIs_str _ _ _) isSubtype_str_str ?_)
  first
    | exact wpAny_pure ⟨_, _, rfl, hq⟩
    | (rw [if_pos rfl]; exact wpAny_pure ⟨_, _, rfl, hq⟩)
    | (simp only [if_true]; exact wpAny_pure ⟨_, _, rfl, hq⟩)
end
section
variable {prog : Program} {w : World} {A : Around} {E : Value → Shared → Prop} {s : Shared} {K : Frag} {x C f : Addr} {ox : Obj} {od : Option Obj}
theorem tup1_len (y : Str) : (tupleText [y]).length = y.length + 3 := by
  unfold tupleText
  rw [strLen_append, strLen_append]
  show 1 + y.length + 2 = _
  omega
theorem lst1_len (y : Str) : (listText [y]).length = y.length + 2 := by
  unfold listText
  rw [strLen_append]
  have e : textFrom 0 "[" [y] = ("[" ++ "") ++ y := rfl
  rw [e, strLen_append]
  show 1 + y.length + 1 = _
  omega
theorem vl_repr_tup1 {a : Addr} {o : Obj} {n : Nat} {Q : Value → Shared → Prop} (hg : A.guards = some []) (hu : A.units + 10 < cLine) (ha : s.heap.get? a = some o) (hc : o.cls = .type "tuple") (hd : o.data = .seq #[.ref x] n) (X : K.In s.heap) (I : InstAt s.heap x ox C od)
    (hs : findIn K (.ref C) "__repr__" = some (some (.ref f))) (hf : isFn K (.ref f) = true)
    (h : wpAny (model prog w) (A.in1.under (.builtin "tuple.__repr__" ⟨[.ref a], []⟩)) (call (.ref f) [.ref x]) (fun v s' => ∃ y u, v = .str y u ∧ y.length ≤ 4000 ∧ ∀ u tk, Q (.str (tupleText [y]) u) { s' with toks := tk }) E s) :
    wpAny (model prog w) A (call (.builtin "repr") [.ref a]) Q E s := by
  refine call_repr_slot (by omega) ⟨o, ha, hc⟩ F.slot_tuple_repr ?_
  refine wpAny_call (codeAny_call_builtin_own (Code.quiet_builtin _ (by decide +kernel)) F.entry_tuple_repr (F.slot_tuple_repr.check _ _ _ _ _ _ _ _ ⟨o, ha, hc⟩ (F.args_tuple_repr_1 _) ?_))
  have hg1 : A.in1.guards = some [] := hg
  show wpOwn _ _ _ (Builtin.tupleReprAt 0 ⟨[.ref a], []⟩) _ _ _
  rw [tuple_repr_tree, tupleReprUnderWay_eq]
  refine wpOwn_bind (wpOwn_stackTailAny hg1 (tupGuardF_off _) (tupGuardF_pos _) ?_)
  refine wpOwn_of_wpAny ?_
  show wpAny _ _ (tupleReprRest 0 (.ref a)) _ _ s
  unfold tupleReprRest Builtin.Tuple.tupleItemsOf
  refine wpAny_bind (wpAny_bind (wpAny_seqItems ha hd (wpAny_pure ?_)))
  rw [← Array.forIn_toList]
  show wpAny _ _ (forIn [Value.ref x] (⟨#[], 0⟩ : (Array Str × Nat)) tupBody >>= _) _ _ _
  rw [List.forIn_cons]
  have sl : (4000 : Nat) ≤ sizeLine := by rw [sizeLine_eq]; decide
  refine wpAny_bind (wpAny_bind (wpAny_bind (vl_reprU (by rw [sizeLine_eq]; decide) ?_ X I hs hf (wpAny_mono h (fun v s' hv => ?_) fun _ _ z => z))))
  · rw [units_under_tuple_repr]
    show A.units + 1 + 1 < _
    omega
  obtain ⟨y, u, rfl, hl, hq⟩ := hv
  refine ⟨y, u, rfl, wpAny_pure ?_⟩
  simp only [List.forIn_nil]
  refine wpAny_pure ?_
  have e := tup1_len y
  refine wpAny_bind (wpAny_mkStr (wpAny_pure ?_) ?_)
  · have h1 := hq s'.toks (s'.toks + 1)
    simpa [tupleText] using h1
  · have : (tupleText [y]).length ≤ sizeLine := by rw [sizeLine_eq]; omega
    simpa [tupleText] using this
abbrev partsO (c : Nat) : Obj := { cls := .type "list", dict := none, data := .seq #[] c, slots := #[] }
theorem vl_repr_lst1 {a : Addr} {o : Obj} {n : Nat} {Q : Value → Shared → Prop} (hg : A.guards = some []) (hu : A.units + 10 < cLine) (ha : s.heap.get? a = some o) (hc : o.cls = .type "list") (hd : o.data = .seq #[.ref x] n) (X : K.In s.heap) (I : ∀ h1, (∀ b o, s.heap.get? b = some o → h1.get? b = some o) → ∃ ox od, InstAt h1 x ox C od)
    (hs : findIn K (.ref C) "__repr__" = some (some (.ref f))) (hf : isFn K (.ref f) = true)
    (h : ∀ h1 tk c, (∀ b o, s.heap.get? b = some o → h1.get? b = some o) → h1.get? s.heap.objs.size = some (partsO c) →
      wpAny (model prog w) (A.in1.under (.builtin "list.__repr__.loop" ⟨[.ref a, rawInt 0, .ref s.heap.objs.size, rawInt 0], []⟩)) (call (.ref f) [.ref x]) (fun v s' => ∃ y u, v = .str y u ∧ y.length ≤ 4000 ∧ (∃ o' n', s'.heap.get? a = some o' ∧ o'.data = .seq #[.ref x] n') ∧ s'.heap.get? s.heap.objs.size = some (partsO c) ∧
        ∀ h2 u tk, (∀ b o, b ≠ s.heap.objs.size → s'.heap.get? b = some o → h2.get? b = some o) → Q (.str (listText [y]) u) { s' with heap := h2, toks := tk }) E { s with heap := h1, toks := tk }) :
    wpAny (model prog w) A (call (.builtin "repr") [.ref a]) Q E s := by
  refine call_repr_slot (by omega) ⟨o, ha, hc⟩ F.slot_list_repr.toG ?_
  refine wpAny_call (codeAny_call_builtin F.slot_list_repr.plain F.entry_list_repr (F.slot_list_repr.check _ _ _ _ _ _ _ _ ⟨o, ha, hc⟩ (F.args_list_repr_1 _) ?_))
  have hg1 : A.in1.guards = some [] := hg
  have sl := sizeLine_eq
  have aP : a ≠ s.heap.objs.size := Nat.ne_of_lt (Heap.lt_size ha)
  show wpAny _ A.in1.in1 (Builtin.listReprAt 0 ⟨[.ref a], []⟩) _ _ _
  refine wpAny_list_repr_head (A := A.in1.in1) hg1 (fun v rest kw hm => absurd hm List.not_mem_nil) ha hd ?_
  refine wpAny_bind (m := newList []) (wpAny_newObj_type ?_)
  refine wpAny_pure ⟨F.quiet_list_repr_loop _, ?_⟩
  refine codeAny_builtin F.entry_list_repr_loop ?_
  show wpAny _ _ («list.__repr__.loop» ⟨[.ref a, .int 0 0, .ref s.heap.objs.size, .int 0 0], []⟩) _ _ _
  rw [repr_loop_tree]
  refine wpAny_bind (wpAny_listItems (Heap.get?_push_of_some _ ha) hd ?_)
  show wpAny _ _ (_ >>= _) _ _ _
  obtain ⟨ox, od, I1⟩ := I _ fun b o e => Heap.get?_push_of_some (partsO 0) e
  refine wpAny_bind (wpAny_holding (vl_reprU (by rw [sl]; decide) ?_ (X.keeps fun b o e => Heap.get?_push_of_some _ e) I1 hs hf (wpAny_mono (h _ _ _ (fun b o e => Heap.get?_push_of_some _ e) (Heap.get?_push_size _ rfl)) (fun v s' hv => ?_) fun _ _ z => z)))
  · rw [units_under_list_loop]
    show A.units + 1 + 1 < _
    omega
  obtain ⟨y, u, rfl, hl, ⟨o', n', ha', hd'⟩, hP', hq⟩ := hv
  refine ⟨y, u, rfl, ?_⟩
  have e := lst1_len y
  refine wpAny_bind (wpAny_mkStr ?_ (by rw [sl]; omega))
  refine wpAny_bind ?_
  show wpAny _ _ (updateSeq s.heap.objs.size _) _ _ _
  refine wpAny_updateSeq hP' rfl (wpAny_pure ⟨F.quiet_list_repr_loop _, ?_⟩) (by rw [sl]; decide)
  refine codeAny_builtin F.entry_list_repr_loop ?_
  show wpAny _ _ («list.__repr__.loop» ⟨[.ref a, .int 1 0, .ref s.heap.objs.size, .int _ 0], []⟩) _ _ _
  rw [repr_loop_tree]
  refine wpAny_bind (wpAny_listItems ((Heap.get?_update_other _ _ (fun h : s.heap.objs.size = a => aP h.symm)).trans ha') hd' ?_)
  show wpAny _ _ (reprEnd (.ref s.heap.objs.size)) _ _ _
  unfold reprEnd
  refine wpAny_bind (wpAny_listItems (Heap.get?_update_self _ hP' rfl) rfl ?_)
  show wpAny _ _ (forIn ((strValues [(y, s'.toks)]).zipIdx) (Str.ofString "[") reprBody >>= _) _ _ _
  rw [repr_fold]
  refine wpAny_bind (wpAny_pure ?_)
  refine wpAny_bind (wpAny_mkStr (wpAny_pure ?_) ?_)
  · exact ⟨_, _, rfl, hq _ _ _ fun b o hb e => (Heap.get?_update_other _ _ (fun h : s.heap.objs.size = b => hb h.symm)).trans e⟩
  · show (listText [y]).length ≤ sizeLine
    rw [sl]
    omega
end
end PySem.W

set_option Elab.async false
set_option linter.all false
set_option maxRecDepth 100000
set_option maxHeartbeats 4000000
namespace VL
variable [Tb]
open PySem PySem.Spec PyProof.Rows L2 LamX HotX L2H
/-! ## repr of an object, of (object,), of [object] -/
/-- a method that shows its object, whether an error is handled or not -/
def RepAt (X : Cx) (g : Addr) (Cn : Con) : Prop := ∀ (A : Around), A.frames = X.A.frames → A.handled = X.A.handled → A.depth ≤ X.A.depth + 2 → A.units ≤ X.A.units + 10 → ∀ (pins : List (Addr × Obj)) (σ : L2.St) (H : Hp) (s : Shared) (a : Addr) (Q : VK), Inv X pins σ H s →
  spC X.K 1 Cn [.ref a] H Q (fun _ _ _ => False) → wpAny (model X.prog X.w) A (call (.ref g) [.ref a]) (fun u s' => EP X pins σ Q u s') X.xe s
theorem repAt_cool {X : Cx} {n : Nat} {g : Addr} {s1 : Str} {Cn : Con} (F : FnA X.prog X.w X.K X.mg X.base n g [s1] Cn) (hr : Room (n + 1) X.A) : RepAt X g Cn := by
  intro A f1 f2 f3 f4 pins σ H s a Q I h
  have hrA : Room n A := ⟨f2.trans hr.hd, by have := hr.dp; omega, by have := hr.un; omega⟩
  have e := I.env0
  have e0 : Env0 X.prog X.w X.K X.mg X.base A X.stack s H := ⟨f1.trans e.frames, e.mod, e.bs, e.bsz, e.funs, e.frf, e.hok, e.bare⟩
  exact wpAny_mono (wpAny_call (SlX.run_at (us := [.ref a]) (ws := [.ref a]) F.raw hrA e0 pass0 I (.cons rfl .nil) h)) (fun w s' z => z) fun _ _ x => x
theorem repAt_hot {X : Cx} {n : Nat} {g : Addr} {fd : FuncData} {s1 : Str} {Cn : Con} (F : FnH X.prog X.w X.K X.mg X.base CX0 n g fd [s1] (spC X.K 1 Cn)) (hb : Binds X.K fd [s1] []) (hr : RoomH (n + 1) X.A) (hc : HotC X) : RepAt X g Cn := by
  intro A f1 f2 f3 f4 pins σ H s a Q I h
  have hrA : RoomH n A := ⟨by have := hr.dp; omega, by have := hr.un; omega⟩
  have e := I.env0
  have e0 : Env0 X.prog X.w X.K X.mg X.base A X.stack s H := ⟨f1.trans e.frames, e.mod, e.bs, e.bsz, e.funs, e.frf, e.hok, e.bare⟩
  obtain ⟨p, ⟨hh, hv⟩, hp⟩ := hc
  have b := hb s [.ref a] I.kIn rfl
  rw [List.append_nil] at b
  have P1 := I.pin p (List.mem_append_left _ hp)
  have hpin : PinOk X.stack H s p := ⟨P1.1, P1.2.1, fun hm => (List.mem_cons.mp (I.stkSub p.1 hm)).elim P1.2.2.1 P1.2.2.2.1, P1.2.2.2.2⟩
  refine wpAny_call (codeAny_mono (F.run A X.stack s H ⟨[.ref a], []⟩ [.ref a] [.ref a] Q (fun _ _ _ => False) p hrA ⟨f2.trans hh, hv⟩ hpin e0 b (.cons rfl .nil) h) fun r s' hq => ?_)
  cases r with
  | error e => exact (show False from hq).elim
  | ok fl =>
    cases fl with
    | ret u => exact I.after hq
    | next => exact False.elim hq
    | brk => exact False.elim hq
    | cont => exact False.elim hq
/-- an object, alone or in a tuple or list of its own -/
def VwT (C : Addr) (ds : List D) (y : Str) (d : D) (r : Str) : Prop := (d = .obj C ds ∧ r = y) ∨ (d = .tup [.obj C ds] ∧ r = tupleText [y]) ∨ (d = .lst [.obj C ds] ∧ r = listText [y])
def rReprV (K : PySem.W.Frag) (C : Addr) (Cn : Con) : List V → Hp → VK → Prop := fun xs H Q => ∃ (v : V) (d : D) (S : List Addr) (ds : List D) (y r : Str), xs = [v] ∧ Trk S H ∧ At K (hide S H) v d ∧ VwT C ds y d r ∧ Cn [.obj C ds] (fun z => z = .str y) ∧ y.length ≤ 4000 ∧ ∀ H2, Ex H H2 → Q (.str r) H2
theorem call_reprV {X : Cx} {g C : Addr} {Cn : Con} (gd : X.A.guards = some []) (hu : X.A.units + 20 < cLine) (hs : PySem.W.findIn X.K (.ref C) "__repr__" = some (some (.ref g))) (hf : PySem.W.isFn X.K (.ref g) = true) (R : RepAt X g Cn) : CallR X (.builtin "repr") (rReprV X.K C Cn) := by
  intro pins s σ H xs us Q I r h
  obtain ⟨v, d, S, ds, y, t, rfl, tr, av, hw, hc, hl, q⟩ := h
  obtain ⟨u, rfl, ru⟩ := r.one
  have sp : ∀ {a : Addr} {S : List Addr} {H : Hp}, Trk S H → At X.K (hide S H) (.ref a) (.obj C ds) → spC X.K 1 Cn [.ref a] H (fun z H' => z = .str y ∧ Ex H H') (fun _ _ _ => False) := fun {a S H} tr a1 =>
    ⟨S, [.obj C ds], fun z => z = .str y, rfl, tr, .cons a1 .nil, hc, fun z H2 d e2 a2 hk => by
      subst hk
      exact ⟨a2.inv_str, e2⟩⟩
  rcases hw with ⟨rfl, rfl⟩ | ⟨rfl, rfl⟩ | ⟨rfl, rfl⟩
  · obtain ⟨a, dx, vs, rfl, h1, h2⟩ := av.inv_obj
    cases (show u = Value.ref a from ru)
    obtain ⟨sl, od, _, J1, _⟩ := SlX.slt_inst I (ex_s hide_le h1)
    refine PySem.W.vl_repr (by show X.A.units + 1 < _; omega) I.kIn J1 hs hf (wpAny_mono (R X.A.in1 rfl rfl (by show X.A.depth ≤ _; omega) (by show X.A.units + 1 ≤ _; omega) pins σ H s a _ I (sp tr av)) (fun w s' z => ?_) fun _ _ x => x)
    obtain ⟨z', H', I', rz, rfl, ex⟩ := z
    obtain ⟨tk, e⟩ := (show ∃ tk, w = Value.str t tk from rz)
    cases e
    exact ⟨t, tk, rfl, .str t, H', I', ⟨tk, rfl⟩, q H' ex⟩
  · obtain ⟨p, vs, rfl, h1, al⟩ := av.inv_tup
    cases (show u = Value.ref p from ru)
    cases al with
    | cons a1 al =>
      cases al
      have a1' := a1
      obtain ⟨a, dx, ws, rfl, h2, h3⟩ := a1.inv_obj
      obtain ⟨its, ri, ⟨o, ho, hoc, n, hod⟩, _⟩ := I.tuple (ex_t hide_le h1)
      obtain ⟨u1, rfl, ru1⟩ := ri.one
      cases (show u1 = Value.ref a from ru1)
      obtain ⟨sl, od, _, J1, _⟩ := SlX.slt_inst I (ex_s hide_le h2)
      have hun : (X.A.in1.under (.builtin "tuple.__repr__" ⟨[.ref p], []⟩)).units = X.A.units + 2 := by
        rw [units_under_tuple_repr]
      refine PySem.W.vl_repr_tup1 gd (by omega) ho hoc hod I.kIn J1 hs hf (wpAny_mono (R (X.A.in1.under (.builtin "tuple.__repr__" ⟨[.ref p], []⟩)) ?_ ?_ ?_ (by rw [hun]; omega) pins σ H s a _ I (sp tr a1')) (fun w s' z => ?_) fun _ _ x => x)
      · rfl
      · rfl
      · have : (X.A.in1.under (.builtin "tuple.__repr__" ⟨[.ref p], []⟩)).depth ≤ X.A.depth + 1 := by simp [Around.under, Code.weight, Code.isCreation, Code.isGuard, Code.isCaller, Code.frames, Code.isFrame, guardIds, Around.in1]
        omega
      obtain ⟨z', H', I', rz, rfl, ex⟩ := z
      obtain ⟨tk, e⟩ := (show ∃ tk, w = Value.str y tk from rz)
      cases e
      exact ⟨y, tk, rfl, hl, fun u tk => ⟨.str _, H', I'.tok _, ⟨u, rfl⟩, q H' ex⟩⟩
  · obtain ⟨p, vs, rfl, h1, al⟩ := av.inv_lst
    cases (show u = Value.ref p from ru)
    cases al with
    | cons a1 al =>
      cases al
      have a1' := a1
      obtain ⟨a, dx, ws, rfl, h2, h3⟩ := a1.inv_obj
      have hL := ex_l hide_le h1
      obtain ⟨its, ri, ⟨o, n, ho, hoc, _, hod⟩, _⟩ := I.list hL
      obtain ⟨u1, rfl, ru1⟩ := ri.one
      cases (show u1 = Value.ref a from ru1)
      have hun : (X.A.in1.under (.builtin "list.__repr__.loop" ⟨[.ref p, rawInt 0, .ref s.heap.objs.size, rawInt 0], []⟩)).units = X.A.units + 2 := by
        rw [units_under_list_loop]
      refine PySem.W.vl_repr_lst1 gd (by omega) ho hoc hod I.kIn (fun h1 hk => ?_) hs hf fun h1 tk c hk hP => ?_
      · obtain ⟨sl, od, _, J1, _⟩ := SlX.slt_inst (I.kept (t' := s.toks) hk) (ex_s hide_le h2)
        exact ⟨_, _, J1⟩
      · have fp := I.fpOk (Nat.le_refl _) (I.hok.fresh (Nat.le_refl _))
        have I1 : Inv X ((s.heap.objs.size, PySem.W.partsO c) :: pins) σ H { s with heap := h1, toks := tk } := (I.kept hk).pins_of fun p hp => by
          rcases List.mem_cons.mp hp with rfl | hp
          · exact ⟨hP, fp.1, fp.2.1, fp.2.2.1, fun v z => by cases z⟩
          · exact (I.kept (t' := tk) hk).pin p (List.mem_append_right _ hp)
        refine wpAny_mono (R (X.A.in1.under (.builtin "list.__repr__.loop" ⟨[.ref p, rawInt 0, .ref s.heap.objs.size, rawInt 0], []⟩)) ?_ ?_ ?_ (by rw [hun]; omega) _ σ H _ a _ I1 (sp tr a1')) (fun w s' z => ?_) fun _ _ x => x
        · rfl
        · rfl
        · have : (X.A.in1.under (.builtin "list.__repr__.loop" ⟨[.ref p, rawInt 0, .ref s.heap.objs.size, rawInt 0], []⟩)).depth ≤ X.A.depth + 1 := by simp [Around.under, Code.weight, Code.isCreation, Code.isGuard, Code.isCaller, Code.frames, Code.isFrame, guardIds, Around.in1]
          omega
        obtain ⟨z', H', I', rz, rfl, ex⟩ := z
        obtain ⟨tk', e⟩ := (show ∃ tk, w = Value.str y tk from rz)
        cases e
        have P2 := I'.pin _ (List.mem_append_right _ List.mem_cons_self)
        obtain ⟨its2, ri2, ⟨o2, n2, ho2, _, _, hod2⟩, _⟩ := I'.list (ex_l ex hL)
        obtain ⟨u2, rfl, ru2⟩ := ri2.one
        cases (show u2 = Value.ref a from ru2)
        exact ⟨y, tk', rfl, hl, ⟨o2, n2, ho2, hod2⟩, P2.1, fun h2 u tk hk2 => ⟨.str _, H', (ClX.unpin I').turned hk2 P2.2.1 fp.2.1 fp.2.2.2.1 fp.2.2.2.2.1 fp.2.2.2.2.2, ⟨u, rfl⟩, q H' ex⟩⟩
section
variable {X : Cx} {ρ : Rho} {e : Expr} {pos p : Pos} {k : D → Prop} {g C : Addr} {Cn : Con}
/-- what repr tells, of views too -/
def ShownV (C : Addr) (Cn : Con) (d : D) (r : Str) : Prop := Shown d r ∨ ∃ ds y, VwT C ds y d r ∧ Cn [.obj C ds] (fun z => z = .str y) ∧ y.length ≤ 4000
theorem xe_reprV (hm : X.mg "repr" = none) (gd : X.A.guards = some []) (hr : RoomU X.A) (hs : PySem.W.findIn X.K (.ref C) "__repr__" = some (some (.ref g))) (hf : PySem.W.isFn X.K (.ref g) = true) (R : RepAt X g Cn) (h : XE X e ρ fun x => ∃ r, ShownV C Cn x r ∧ k (.str r)) (hg : Gl X "repr" := by rfl)
    (he : starEach (e :: []) X.env = (false, eval e X.env) :: starEach [] X.env := by rfl) : XE X (.Call (.Name "repr" p) [e] [] pos) ρ k :=
  impE (pe_callB (id := "repr") (r := fun xs H Q => rReprA X.K xs H Q ∨ (∃ a, xs = [V.ref a] ∧ H a = some (.dK []) ∧ Q (.str "{}") H) ∨ rReprV X.K C Cn xs H Q) (fun pins s σ H xs us Q I r h => h.elim (fun h => call_reprA gd hr pins s σ H xs us Q I r h) fun h => h.elim (fun h => call_reprE gd hr pins s σ H xs us Q I r h) fun h => call_reprV gd (by have := hr.un; omega) hs hf R pins s σ H xs us Q I r h) hg hm (by decide +kernel) (pa_cons anyE pa_nil he) (by decide) (by decide) he rfl) fun σ H Q ⟨S, E, q⟩ => useE h E fun v H1 x e1 a1 ⟨r, hs, hk⟩ => by
    rcases hs with (⟨d, hd, ok, rfl⟩ | ⟨rfl, rfl⟩) | ⟨ds, y, hw, hc, hl⟩
    · exact .inl ⟨v, d, rfl, dp_of a1 hd, ok, q _ _ _ e1 (.str _) hk⟩
    · cases a1 with
      | dct h => exact .inr (.inl ⟨_, rfl, hid_get h, q _ _ _ e1 (.str _) hk⟩)
    · exact .inr (.inr ⟨v, x, S, ds, y, r, rfl, (E.mono e1).trk, a1, hw, hc, hl, fun H2 e2 => q _ _ _ (e1.trans e2) (.str _) hk⟩)
end
end VL

set_option Elab.async false
set_option linter.all false
set_option maxRecDepth 100000
set_option maxHeartbeats 4000000
namespace VL
variable [Tb]
open PySem PySem.Spec PyProof.Rows L2 LamX HotX
/-! ## a call with lambdas of this frame that returns texts in a list -/
theorem hide_rem {cs : List (Addr × Obj)} {H : Hp} {S : List Addr} {a : Addr} {u : HO} (ct : Ct cs H) (hu : ∀ o, u ≠ exO a o) (h : hide S H a = some u) : hide S (remX cs H) a = some u := by
  by_cases m : a ∈ S
  · rw [hide_in m] at h
    cases h
  · rw [hide_out m] at h ⊢
    rw [remX_out (ct_ne ct h hu)]
    exact h
theorem sql_rem {K : PySem.W.Frag} {cs : List (Addr × Obj)} {H : Hp} {S : List Addr} {a : Addr} {xs : List V} (ct : Ct cs H) (h : SqL K (hide S H) a xs) : SqL K (hide S (remX cs H)) a xs := by
  rcases h with (h | ⟨x, h⟩) | h
  · exact .inl (.inl (hide_rem ct (fun o z => nomatch z) h))
  · exact .inl (.inr ⟨x, hide_rem ct (fun o z => nomatch z) h⟩)
  · exact .inr h
/-- data that is no list but of texts -/
def TxL (d : D) : Prop := ∃ ys : List Str, d = .lst (ys.map .str)
theorem atl_txt {K : PySem.W.Frag} {H H' : Hp} : ∀ {vs : List V} {ys : List Str}, AtL K H vs (ys.map .str) → AtL K H' vs (ys.map .str)
  | _, [], h => by
    cases h
    exact .nil
  | _, y :: ys, h => by
    cases h with
    | cons a t =>
      cases a
      exact .cons (.str y) (atl_txt t)
theorem txl_rem {K : PySem.W.Frag} {cs : List (Addr × Obj)} {H : Hp} {S : List Addr} {v : V} {d : D} (ct : Ct cs H) (hd : TxL d) (h : At K (hide S H) v d) : At K (hide S (remX cs H)) v d := by
  obtain ⟨ys, rfl⟩ := hd
  obtain ⟨a, vs, rfl, h1, h2⟩ := h.inv_lst
  exact .lst (sql_rem ct h1) (atl_txt h2)
section
variable {X : Cx} {ρ : Rho} {e : Expr} {es : List Expr} {pos p : Pos} {k : D → Prop}
theorem xe_callFzT {n m j : Nat} {x : Str} {ps : List Str} {C : Con} (F : Fg X.prog X.w X.K X.mg X.base n x ps C) (gd : X.A.guards = some []) (hr : Room m X.A) (cap : Cap) (hc : CapOk X ρ cap) (hfn : ∀ y, X.fn y = true) (hstk : X.stack = X.env :: X.outer)
    (h : XA X (e :: es) ρ fun ds => ∃ ds', UpL (LamOk X j cap) (Act X.prog X.w X.K X.mg X.base (j + 1)) ds ds' ∧ ds'.length = ps.length ∧ C ds' k) (kb : ∀ d, k d → TxL d) (hnm : n ≤ m := by decide) (hg : Gl X x := by rfl)
    (hdb : (x == ("__debug__" : Str)) = false := by decide) (he : starEach (e :: es) X.env = (false, eval e X.env) :: starEach es X.env := by rfl) (hpl : (backTo pos (starEach es X.env)).any (·.1) = false := by rfl) :
    XE X (.Call (.Name x p) (e :: es) [] pos) ρ k := by
  obtain ⟨f, fd, h1, h2, h3, h4⟩ := F.ex
  refine ⟨fun pins s σ H Q I ⟨S, E, q⟩ => ?_⟩
  refine wpAny_Call_Name_kw (ld_glob I hg h1 ?_ hdb)
  refine PySem.W.callWith_K (h₀ := X.base) I.ok.mod.kin h2 (thn (anyA.run pos pins s σ H (fun vs H2 => ∃ ds, Ex H H2 ∧ AtL X.K (hide S H2) vs ds ∧ ∃ ds', UpL (LamOk X j cap) (Act X.prog X.w X.K X.mg X.base (j + 1)) ds ds' ∧ ds'.length = ps.length ∧ C ds' k) I ⟨_, h, S, E, fun vs H2 ds e2 a2 hk => ⟨ds, e2, a2, hk⟩⟩) fun us s2 ⟨zs, H2, I2, rz, ds, e2, a2, ds', up, l1, hC⟩ => ⟨I2.kIn, ?_⟩) he hpl
  have E2 := E.mono e2
  obtain ⟨cs, c1, c2⟩ := cells_of I2 cap.names fun y hy => by
    unfold Cap.names at hy
    obtain ⟨p, hp, rfl⟩ := List.mem_map.mp hy
    exact I2.ok.has _ (.inl (hc p hp).2.2)
  have csO : Cs cs H2 s2.heap := ⟨fun a o z => let ⟨⟨y, hy⟩, w1, _⟩ := c2 a o z; ⟨w1, I2.freeC y a hy⟩⟩
  have cAb : ∀ a o, cs.lookup a = some o → X.s_0.heap.objs.size ≤ a := fun a o z => let ⟨⟨y, hy⟩, _⟩ := c2 a o z; I2.ok.cab y a (hfn y) hy
  have cFr : ∀ a o, cs.lookup a = some o → a ∉ frs X.stack := fun a o z hm => by
    rcases List.mem_cons.mp (I2.stkSub a hm) with w | w
    · obtain ⟨⟨y, hy⟩, _⟩ := c2 a o z
      exact I2.cne y a hy w
    · obtain ⟨_, o', ho', _⟩ := I2.ok.funs.mem w
      exact absurd (Nat.lt_of_lt_of_le (Heap.lt_size ho') (cAb a o z)) (Nat.lt_irrefl _)
  have e0 := I2.env0
  have e1 : Env0 X.prog X.w X.K X.mg X.base X.A X.stack s2 (addX cs H2) := ⟨e0.frames, e0.mod, fun b o z => ⟨(e0.bs b o z).1, by
      rw [addX_out (?_ : cs.lookup b = none)]
      · exact (e0.bs b o z).2
      · cases y : cs.lookup b with
        | none => rfl
        | some o' =>
          have w1 := Heap.lt_size z
          exact absurd (Nat.lt_of_lt_of_le w1 (Nat.le_trans I2.ok.bsz (cAb b o' y))) (Nat.lt_irrefl _)⟩, e0.bsz, e0.funs, fun b hb => by
      rw [addX_out (?_ : cs.lookup b = none)]
      · exact e0.frf b hb
      · cases y : cs.lookup b with
        | none => rfl
        | some o' => exact absurd hb (cFr b o' y), hok_add csO e0.hok, e0.bare⟩
  have sub := ex_add (H := H2) csO
  have ad : AtL X.K (hide S (addX cs H2)) zs ds' := atL_up (R := LamOk X j cap) (T := Act X.prog X.w X.K X.mg X.base (j + 1)) (fun φ f o r hφ H' e' => lam_act (n := j) I2 E2 hc c1 c2 r e' (hφ H' e')) up (a2.mono (hide_exN (ExN.of sub)))
  have lz : zs.length = ps.length := by
    rw [a2.length, ← up.length]
    exact l1
  have lu : us.length = ps.length := by rw [← rz.length]; exact lz
  have hb := h3 s2 us I2.kIn (by rw [List.append_nil]; exact lu)
  rw [List.append_nil] at hb
  have tr1 : Trk S (addX cs H2) := E2.trk.mono (Ex.of sub)
  have noext : ∀ a o, cs.lookup a = some o → ∀ H3, Ex (addX cs H2) H3 → H3 a = some (exO a o) := fun a o z H3 e3 => e3.k a _ (addX_in z) True.intro
  refine wpAny_call (codeAny_mono (h4.run X.A X.stack s2 (addX cs H2) ⟨us, []⟩ us zs (fun v H3 => (∀ a o, cs.lookup a = some o → H3 a = some (exO a o)) ∧ ∃ d, Ex (addX cs H2) H3 ∧ At X.K (hide S H3) v d ∧ k d) (fun _ _ _ => False) gd (hr.mono hnm) e1 hb rz ⟨S, ds', k, lz, tr1, ad, hC, fun v H3 d e3 a3 hk => ⟨fun a o z => noext a o z H3 e3, d, e3, a3, hk⟩⟩) fun r s' hq => ?_)
  match r, hq with
  | .error _, hq => exact (show False from hq).elim
  | .ok .next, hq => exact False.elim hq
  | .ok .brk, hq => exact False.elim hq
  | .ok .cont, hq => exact False.elim hq
  | .ok (.ret u), ⟨v, H3, os, bare, un, okE, rE, ext, d, e3, a3, hk⟩ =>
    have ct3 : Ct cs H3 := ⟨ext⟩
    have un2 := un_thaw csO un okE ct3
    have inH : ∀ b o, H2 b = some o → cs.lookup b = none := fun b o z => by
      cases y : cs.lookup b with
      | none => rfl
      | some o' =>
        rw [(csO.at_ b o' y).2] at z
        cases z
    have e4 : Ex H2 (remX cs H3) := by
      refine ⟨⟨fun b o z nt => ?_, fun b o z => ?_⟩, fun p hp t => ?_⟩
      · rw [remX_out (inH b o z)]
        exact e3.k b o (sub b o z) nt
      · rw [remX_out (inH b o z)]
        exact e3.th b o (sub b o z)
      · obtain ⟨ps', t1, t2, t3⟩ := e3.t p hp (t.ext sub)
        obtain ⟨ps0, t0, _⟩ := t
        refine ⟨ps', by rw [remX_out (inH _ _ t0)]; exact t1, t2, fun pos cv hcv => ?_⟩
        obtain ⟨c, w1, w2⟩ := t3 pos cv hcv
        exact ⟨c, w1, by rw [remX_out (code_ncell (o := default) okE ct3 (fun c o z => (c2 c o z).2.2) w2)]; exact w2⟩
    have a4 : At X.K (hide S (remX cs H3)) v d := txl_rem ct3 (kb d hk) a3
    exact I2.after ⟨v, remX cs H3, os, bare, un2, hok_rem ct3 okE, rE, q v _ _ (e2.trans e4) a4 hk⟩
end
end VL

set_option Elab.async false
set_option linter.all false
set_option maxRecDepth 100000
set_option maxHeartbeats 4000000
namespace VL
variable [Tb]
open PySem PySem.Spec PyProof.Rows L2 LamX HotX L2H
/-! ## a def that is called while an error is handled -/
section
variable {P : Program} {w : World} {K : PySem.W.Frag} {mg : Str → Option Value} {base : Heap}
theorem xdefH {x qual : Str} {st : Stmt} {f : Addr} {fd : FuncData} {N ps : List Str} {n : Nat} {C : Con} (F : Fun K x qual st f fd) (Sc : FnScope N ps (defScope st))
    (body : ∀ (ds : List D) (k : D → Prop), ds.length = ps.length → C ds k → ∀ (cdv : Value) (A : Around) (outer : List Env) (s : Shared) (H : Hp) (E : XK) (p : Addr × Obj), RoomH n (A.deeper (PyProof.Rows.envOfC qual (defScope st) s.heap.objs.size f cdv)) →
      XB (cxH CX0 P w K mg base N qual (defScope st) f cdv A outer s H E p).nox (defBody st) (startR N.length ds) { nx := fun _ => k .non, rt := k }) : FnH P w K mg base CX0 (n + 1) f fd ps (spC K ps.length C) := by
  have hpl : ps.length ≤ N.length := by
    have := congrArg List.length Sc.pre
    rw [List.length_take] at this
    omega
  obtain ⟨oc, od, kV, doc, pm, an, cdv, ct, osl, rfl, lk, hcd⟩ := F.ex
  refine fn_ofH lk hcd Sc (fun vs H Q E h => ?_) fun A outer s H vs Q E p hot hr h => ?_
  · obtain ⟨_, _, _, hl, _⟩ := h
    exact hl
  · obtain ⟨S, ds, k, hl, tr, a, hc, q⟩ := h
    have hb := body ds k (by rw [← a.length]; exact hl) hc cdv A outer s H E p hr
    refine ⟨_, PSs.nox (hb S H tr), start_ok tr (by omega) a, ⟨fun σ' H' ρ' ok hn => ?_, fun v H' d e at_ hk => q v H' d e at_ hk, fun _ _ _ _ z => z.elim, fun _ _ _ _ z => z.elim⟩⟩
    obtain ⟨_, _, _, _, e, _⟩ := ok
    exact q .non H' .non e .non hn
end
theorem roomH_mark {n m : Nat} {A : Around} (hr : Room n A) (h : m ≤ n) (x : Option Value) : RoomH m (A.mark x) :=
  ⟨by have := hr.dp; show A.depth + 3 * m + 5 < _; omega, by have := hr.un; show A.units + 16 * m + 200 < _; omega⟩
theorem hot_suite {X : Cx} {a : Addr} {oe : Obj} {pn : List (Addr × Obj)} (h : ∃ vs : Array Value, oe.data = .fields vs ∧ vs[2]? = some .none) : HotC (X.suite a ((a, oe) :: pn)) :=
  ⟨(a, oe), ⟨rfl, h⟩, List.mem_cons_self⟩
end VL

set_option Elab.async false
set_option linter.all false
set_option maxRecDepth 100000
set_option maxHeartbeats 4000000
namespace VL
variable [Tb]
open PySem PySem.Spec PyProof.Rows L2 LamX HotX
/-! ## a comprehension whose element knows of the state at its start -/
/-- the state between two turns -/
structure Mid (X Y : Cx) (σ : L2.St) (fp : List Addr) (tn : Nat → Heap → Prop) (i : Nat) (H : Hp) (s : Shared) : Prop where
  inv : Inv Y [] σ H s
  tn : tn i s.heap
  no : ∀ b ∈ fp, H b = none
theorem lc_told {X : Cx} {pins : List (Addr × Obj)} {s : Shared} {σ : L2.St} {H : Hp} {Q : VK} {elt tg iter : Expr} {scope : Scope} {own : List (Str × Nat)} {pos : Pos} {wi : TI} {g : TG} {te : TE}
    (hc : X.calm = true) (hN : X.N.Nodup) (I : Inv X pins σ H s) (hi : PI X tg iter wi) (ok : BlkOk X.N X.env.scope scope own)
    (hg : ∀ (s : Shared) (H : Hp) (C : Addr) (cl : List (Str × Addr)) (fp : List Addr), PG (X.blk s H scope (compEnvC scope cl C X.env) fp) tg g)
    (he : ∀ (s0 : Shared) (H0 : Hp) (C : Addr) (cl : List (Str × Addr)) (fp : List Addr), Inv X pins σ H0 s0 → (∀ b ∈ fp, FpOk X pins H0 b) → PE (X.blk s0 H0 scope (compEnvC scope cl C X.env) fp) elt te)
    (hs : ∀ x, foldedSetIterable iter X.env x = pure x) (h : tLc wi g tYes te (own.map (·.2)) σ H Q) :
    wpAny (model X.prog X.w) X.A (eval (.ListComp elt [⟨tg, iter, [], 0⟩] scope pos) X.env) (EP X pins σ Q) X.xe s := by
  rw [eval_ListComp]
  refine wpAny_comprehension_free (use := none) rfl hs (closure_ok fun y hy e => (ok.free y hy e).elim (fun k => I.ok.has _ (.inl k)) fun k => I.ok.has _ (.inr k)) ok.kind (fun y hy e => by rw [ok.uniq y hy, e]) (thn (hi.run pins s σ H _ I h) fun xv s1 hx => thn hx fun itv s2 h2 => ?_)
  obtain ⟨it, fp, tn, J, H2, rfl, I2, T, st2, f2, q⟩ := h2
  refine wpAny_newObj_type (newEnv_comp ?_) (Nat.zero_le _)
  have old : ∀ b ∈ fp, b < s2.heap.objs.size := fun b hb => let ⟨o, e, _⟩ := T.obj _ _ st2 b hb; Heap.lt_size e
  obtain ⟨W, ⟨m0, w0⟩, turn⟩ := q s2.heap.objs.size (I2.hok.fresh (Nat.le_refl _))
  have up3 : ∀ b o, s2.heap.get? b = some o → (s2.heap.push { cls := .type "list", data := .seq ([] : List Value).toArray }).get? b = some o := fun b o e => Heap.get?_push_of_some _ e
  have I3 : Inv X pins σ (upd H2 s2.heap.objs.size (.lst [])) { s2 with heap := s2.heap.push { cls := .type "list", data := .seq ([] : List Value).toArray } } :=
    I2.laid (t' := s2.toks) up3 (Nat.le_refl _) ⟨Nat.zero_le _, [], 0, .nil, Heap.get?_push_size _ rfl⟩
  have f3 : ∀ b ∈ fp, FpOk X pins (upd H2 s2.heap.objs.size (.lst [])) b := fun b hb => ⟨by rw [upd_ne (Nat.ne_of_lt (old b hb))]; exact (f2 b hb).1, (f2 b hb).2⟩
  have st3 : tn 0 (s2.heap.push { cls := .type "list", data := .seq ([] : List Value).toArray }) := T.keep _ _ _ st2 fun b _ o e => up3 b o e
  have lt3 : ∀ b ∈ fp, b < (s2.heap.push { cls := .type "list", data := .seq ([] : List Value).toArray }).objs.size := fun b hb => by
    rw [Heap.size_push]
    exact Nat.lt_succ_of_lt (old b hb)
  generalize hD : s2.heap.objs.size = D at turn w0 I3 f3 ⊢
  generalize hH : upd H2 D (.lst []) = H3 at w0 I3 f3
  generalize ht : ({ s2 with heap := s2.heap.push { cls := .type "list", data := .seq ([] : List Value).toArray } } : Shared) = s3 at I3 ⊢
  have eh : s3.heap = s2.heap.push { cls := .type "list", data := .seq ([] : List Value).toArray } := by rw [← ht]
  rw [← eh] at st3 lt3
  have I4 := block_start I3 ok hN fun b hb => ⟨f3 b hb, lt3 b hb⟩
  have st4 : tn 0 (pushCells (s3.heap.push { cls := .type "dict", data := .dict #[] }) scope.names) := T.keep _ _ _ st3 fun b _ o e => pushCells_keeps _ _ _ _ (Heap.get?_push_of_some _ e)
  have pg := hg s3 H3 s3.heap.objs.size (cellsFrom (s3.heap.objs.size + 1) scope.names (cloFrom X.env.cells scope.names [])) fp
  have pe := he s3 H3 s3.heap.objs.size (cellsFrom (s3.heap.objs.size + 1) scope.names (cloFrom X.env.cells scope.names [])) fp I3 f3
  show codeAny _ _ (.compStart (.ListComp elt [⟨tg, iter, [], 0⟩] scope pos) 0 (.ref it) (.ref D) (compEnvC scope (cellsFrom (s3.heap.objs.size + 1) scope.names (cloFrom X.env.cells scope.names [])) s3.heap.objs.size X.env)) (compPost (model X.prog X.w) X.A X.xe none (EP X pins σ Q) (.ref D) s3.heap.objs.size) { s3 with heap := pushCells (s3.heap.push { cls := .type "dict", data := .dict #[] }) scope.names }
  generalize hce : compEnvC scope (cellsFrom (s3.heap.objs.size + 1) scope.names (cloFrom X.env.cells scope.names [])) s3.heap.objs.size X.env = ce at I4 pg pe ⊢
  have cL : ce.locals = s3.heap.objs.size := by rw [← hce]; rfl
  have fpY : ∀ {σ' : L2.St} {H' : Hp} {s' : Shared}, Inv (X.blk s3 H3 scope ce fp) [] σ' H' s' → (∀ b ∈ fp, H' b = none) → ∀ b ∈ fp, FpOk (X.blk s3 H3 scope ce fp) [] H' b := fun J' no b hb =>
    ⟨no b hb, (J'.ok.exf b hb).1, J'.ok.exfs b hb, .inl hb, fun x c e => (J'.ok.exf b hb).2 x c e, fun p hp => by cases hp⟩
  have mid0 : Mid X (X.blk s3 H3 scope ce fp) (wipe σ (own.map (·.2))) fp tn 0 H3 { s3 with heap := pushCells (s3.heap.push { cls := .type "dict", data := .dict #[] }) scope.names } := ⟨I4, st4, fun b hb => (f3 b hb).1⟩
  have loop := compLoop_any (elt := elt) (target := tg) (iter := iter) (ifs := []) (scope := scope) (pos := pos) (it := .ref it) (acc := .ref D) (env := ce) (R := compPost (model X.prog X.w) X.A X.xe none (EP X pins σ Q) (.ref D) s3.heap.objs.size) (A := X.A) (prog := X.prog) (w := X.w)
    (fun n s' => ∃ i H', Mid X (X.blk s3 H3 scope ce fp) (wipe σ (own.map (·.2))) fp tn i H' s' ∧ W i n H') (fun n s5 hn => ?_) m0 ⟨0, H3, mid0, w0⟩
  · exact codeAny_compStart_list loop (T.self X.A 0 _ _ _ st4 loop)
  obtain ⟨i, H5, M5, w5⟩ := hn
  rcases turn i n H5 w5 with ⟨stop, fin⟩ | ⟨go, Nx, hNx, step⟩
  · refine thnF (T.done (X.blk s3 H3 scope ce fp) rfl rfl rfl hc i [] s5 _ H5 (fun _ _ => False) M5.inv (fpY M5.inv M5.no) M5.tn stop) fun r s6 ⟨hr, I6⟩ => ?_
    subst hr
    have I7 : Inv X pins σ H5 s6 := I3.call' (ch := fp) I6.os I6.base I6.hok I6.bare fun b hb => ⟨(f3 b hb).2.2.2.1, (f3 b hb).2.1, (f3 b hb).2.2.2.2.1, (f3 b hb).2.2.2.2.2⟩
    obtain ⟨m, hns, _⟩ := I6.loc
    have hns : s6.heap.Ns ce.locals m := hns
    have nC : H5 ce.locals = none := I6.free
    rw [cL] at hns nC
    obtain ⟨g0, g1, g2, g3, g4, g5⟩ := I3.fpOk (Nat.le_refl _) nC
    exact ⟨m, hns, fun h'' sb => ⟨.ref D, H5, I7.turned (t' := s6.toks) (fun b o hb e => (sb.2 b hb).trans e) g0 g1 g3 g4 g5, rfl, fin⟩⟩
  · refine thnF (T.item (X.blk s3 H3 scope ce fp) rfl rfl rfl hc i [] s5 _ H5 (fun _ _ => False) M5.inv (fpY M5.inv M5.no) M5.tn go) fun r s6 ⟨u, hr, h6⟩ => ?_
    subst hr
    refine thnF h6 fun _ s7 ⟨x, H7, I7, r7, y7, st7, n7⟩ => ?_
    refine thnF (pg.run _ s7 _ H7 x u _ (I7.pinned (fpY I7 n7) (T.obj _ _ st7)) r7 (step x H7 y7)) fun _ s8 ⟨σ8, H8, I8, hw8, q8⟩ => ?_
    refine wpAny_tests_nil ?_
    simp only [if_true]
    refine thnF (pe.run _ s8 σ8 H8 _ I8 q8) fun z s10 ⟨yv, H10, I10, r10, acc, hD10, hz10, nx⟩ => ?_
    refine app_ok (X := X.blk s3 H3 scope ce fp) I10 hD10 hz10 r10 fun s11 I11 => ?_
    obtain ⟨m', hm, w'⟩ := hNx _ nx
    have pin : ∀ b ∈ fp, ∀ o, s7.heap.get? b = some o → s11.heap.get? b = some o ∧ upd H10 D (.lst (acc ++ [yv])) b = none := fun b hb o e =>
      let z := I11.pin (b, o) (List.mem_append_right _ (List.mem_append_right _ (mem_pinsAt hb e)))
      ⟨z.1, z.2.1⟩
    refine ⟨m', hm, i + 1, _, ⟨(I11.unpinned (pins := [])).weak (by rw [← hw8, wipe_length]) (fun j v e => ?_), T.keep _ _ _ st7 fun b hb o e => (pin b hb o e).1, fun b hb => ?_⟩, w'⟩
    · rw [← hw8] at e
      exact (wipe_some e).1
    · obtain ⟨o, e, _⟩ := T.obj _ _ st7 b hb
      exact (pin b hb o e).2
end VL

set_option Elab.async false
set_option linter.all false
set_option maxRecDepth 100000
set_option maxHeartbeats 4000000
namespace VL
variable [Tb]
open PySem PySem.Spec PyProof.Rows L2 LamX HotX
/-! ## a comprehension over lambdas of this frame -/
section
variable {X : Cx} {ρ : Rho}
/-- cells that hold what the captured names hold -/
structure CsV (X : Cx) (σ : L2.St) (cap : Cap) (cs : List (Addr × Obj)) : Prop where
  val : ∀ p ∈ cap, ∀ c, X.env.cells.lookup p.2.1 = some c → ∀ v, σ[p.1]? = some (some v) → ∃ o u, cs.lookup c = some o ∧ o.data = .cell (some u) ∧ RelV v u
  mem : ∀ x ∈ cap.names, ∀ c, X.env.cells.lookup x = some c → ∃ o, cs.lookup c = some o
  cell : ∀ c o, cs.lookup c = some o → (∃ x, X.env.cells.lookup x = some c) ∧ ∃ u, o.data = .cell u
theorem csv_of {pins : List (Addr × Obj)} {σ : L2.St} {H : Hp} {s : Shared} {cap : Cap} {cs : List (Addr × Obj)} (I : Inv X pins σ H s) (hc : CapOk X ρ cap)
    (c1 : ∀ x ∈ cap.names, ∀ c, X.env.cells.lookup x = some c → ∃ o, cs.lookup c = some o) (c2 : ∀ c o, cs.lookup c = some o → (∃ x, X.env.cells.lookup x = some c) ∧ s.heap.get? c = some o ∧ ∃ u, o.data = .cell u) : CsV X σ cap cs := by
  refine ⟨fun p hp c h1 v hσ => ?_, c1, fun c o z => ⟨(c2 c o z).1, (c2 c o z).2.2⟩⟩
  obtain ⟨g1, g2, g3⟩ := hc p hp
  obtain ⟨o, h3⟩ := c1 p.2.1 (List.mem_map_of_mem hp) c h1
  obtain ⟨_, h5, _⟩ := c2 c o h3
  obtain ⟨m, _, hl⟩ := I.loc
  obtain ⟨u, r, q⟩ := hl p.1 p.2.1 v g1 hσ (.inr (.inl g3))
  rcases q with ⟨k', _⟩ | ⟨_, c', e1, o', e2, e3⟩
  · have k' : X.env.scope.names.lookup p.2.1 = some .local := k'
    rw [g3] at k'
    cases k'
  · rw [h1] at e1
    cases e1
    rw [h5] at e2
    cases e2
    exact ⟨o, u, h3, e3, r⟩
theorem lam_actV {n : Nat} {cap : Cap} {φ : Hp → Prop} {f : Addr} {o : Out} {pins : List (Addr × Obj)} {σ : L2.St} {H : Hp} {s : Shared} {S : List Addr} {cs : List (Addr × Obj)} (I : Inv X pins σ H s) (E : EnvOk X.K S H σ ρ) (hc : CapOk X ρ cap)
    (V : CsV X σ cap cs)
    (h : LamOk X n cap φ f o) {Hs : Hp} (e : ExN (hide S H) Hs) (ct : Ct cs Hs) (hφ : φ Hs) : Act X.prog X.w X.K X.mg X.base (n + 1) f o Hs := by
  obtain ⟨params, body, scope, rfl, L, hn, hb, hbody⟩ := h
  have csn : ∀ c o, cs.lookup c = some o → H c = none := fun c o z => let ⟨⟨x, hx⟩, _⟩ := V.cell c o z; I.freeC x c hx
  have cS : ∀ c o, cs.lookup c = some o → c ∉ S := fun c o z m => by
    obtain ⟨u, q, _⟩ := E.trk.tr c m
    rw [csn c o z] at q
    cases q
  let σl : L2.St := cap.map fun p => (σ[p.1]?).getD none
  have σat : ∀ (j : Nat) (p : Nat × Str × D), cap[j]? = some p → σl[j]? = some ((σ[p.1]?).getD none) := fun j p hp => by
    show (cap.map _)[j]? = _
    rw [List.getElem?_map, hp]
    rfl
  have nat : ∀ (j : Nat) (x : Str), cap.names[j]? = some x → ∃ p, cap[j]? = some p ∧ p.2.1 = x := fun j x hx => by
    unfold Cap.names at hx
    rw [List.getElem?_map] at hx
    cases q : cap[j]? with
    | none => rw [q] at hx; cases hx
    | some p => rw [q] at hx; exact ⟨p, rfl, Option.some.inj hx⟩
  refine act_of (N := cap.names) (ρ := cap.rho) (σ := σl) (cs := cs) (Hp0 := hide S H) (L := ⟨L.kind, L.co, L.gen, L.own⟩) (fun y hy hf => ?_) (fun pm cv ctv => hb _ _ pm cv ctv) hφ ⟨ct, fun x y c k1 k2 => I.ok.inj x y c (clo_look L I.ok k1).1 (clo_look L I.ok k2).1, fun x c k => ?_, fun c o z => (V.cell c o z).2⟩ (fun j x v k1 k2 c k3 => ?_) ?_ ?_ (fun j d hd => ?_) (fun j ds hd => ?_) ?_ (fun a x z => ?_) fun A outer s H E c' gd hr => hbody A outer s H E f c' _ gd hr
  · exact mem_lookup (cloFrom_has (cells := X.env.cells) (acc := []) (show (y.1, NameKind.free) ∈ scope.names by rw [← hf]; exact hy))
  · obtain ⟨h1, h2⟩ := clo_look L I.ok k
    obtain ⟨o, h3⟩ := V.mem x (hn _ h2 rfl) c h1
    obtain ⟨_, u, h4⟩ := V.cell c o h3
    exact ⟨o, u, h3, h4⟩
  · obtain ⟨p, hp, rfl⟩ := nat j x k1
    obtain ⟨g1, g2, g3⟩ := hc p (List.mem_of_getElem? hp)
    obtain ⟨h1, h2⟩ := clo_look L I.ok k3
    rw [σat j p hp] at k2
    have hσ : σ[p.1]? = some (some v) := by
      cases q : σ[p.1]? with
      | none => rw [q] at k2; cases k2
      | some w => rw [q] at k2; exact congrArg some (Option.some.inj k2)
    exact V.val p (List.mem_of_getElem? hp) c h1 v hσ
  · show (cap.map _).length = (cap.map _).length
    rw [List.length_map, List.length_map]
  · show (cap.map _).length = (cap.map _).length
    rw [List.length_map, List.length_map]
  · unfold Cap.rho at hd
    rw [List.getElem?_map] at hd
    cases q : cap[j]? with
    | none => rw [q] at hd; cases hd
    | some p =>
      rw [q] at hd
      cases hd
      obtain ⟨g1, g2, g3⟩ := hc p (List.mem_of_getElem? q)
      obtain ⟨v, h1, h2⟩ := E.dat p.1 _ g2
      exact ⟨v, by rw [σat j p q, h1]; rfl, h2⟩
  · unfold Cap.rho at hd
    rw [List.getElem?_map] at hd
    cases q : cap[j]? with
    | none => rw [q] at hd; cases hd
    | some p => rw [q] at hd; cases hd
  · exact e
  · cases q : cs.lookup a with
    | none => rfl
    | some o =>
      have : hide S H a = none := by
        rw [hide_out (cS a o q)]
        exact csn a o q
      rw [this] at z
      cases z
/-- a lambda of this frame, once its cells are told -/
def PsiL (X : Cx) (σ : L2.St) (cap : Cap) (n : Nat) : Addr → Out → Hp → Prop := fun f o Hx => ∀ cs Hs, CsV X σ cap cs → Ct cs Hs → ExN Hx Hs → Act X.prog X.w X.K X.mg X.base n f o Hs
/-- the cells can be told at any time -/
structure FzY (Y : Cx) (ψ : Addr → Out → Hp → Prop) (n : Nat) : Prop where
  get : ∀ (pins : List (Addr × Obj)) (σ : L2.St) (H : Hp) (s : Shared), Inv Y pins σ H s → ∃ cs : List (Addr × Obj), Cs cs H s.heap ∧ (∀ a o, cs.lookup a = some o → (Y.base.objs.size ≤ a ∧ a ∉ frs Y.stack) ∧ ∃ u, o.data = .cell u) ∧
    ∀ f o Hx, ψ f o Hx → ∀ Hs, ExN Hx Hs → Ct cs Hs → Act Y.prog Y.w Y.K Y.mg Y.base n f o Hs
theorem fzy {pins : List (Addr × Obj)} {σ : L2.St} {H0 : Hp} {s0 : Shared} {cap : Cap} {n : Nat} {scope : Scope} {C : Addr} {cl : List (Str × Addr)} {fp : List Addr} (hc : CapOk X ρ cap) (hfn : ∀ y, X.fn y = true) (I0 : Inv X pins σ H0 s0) (f0 : ∀ b ∈ fp, FpOk X pins H0 b) :
    FzY (X.blk s0 H0 scope (compEnvC scope cl C X.env) fp) (PsiL X σ cap n) n := by
  refine ⟨fun pins' σ' H' s' J => ?_⟩
  obtain ⟨cs, c1, c2⟩ := cells_of I0 cap.names fun y hy => by
    unfold Cap.names at hy
    obtain ⟨p, hp, rfl⟩ := List.mem_map.mp hy
    exact I0.ok.has _ (.inl (hc p hp).2.2)
  have u : Un (frs X.stack) fp H0 H' s0.heap s'.heap := J.base
  have cAb : ∀ a o, cs.lookup a = some o → X.s_0.heap.objs.size ≤ a := fun a o z => let ⟨⟨y, hy⟩, _⟩ := c2 a o z; I0.ok.cab y a (hfn y) hy
  have cFr : ∀ a o, cs.lookup a = some o → a ∉ frs X.stack := fun a o z hm => by
    rcases List.mem_cons.mp (I0.stkSub a hm) with w | w
    · obtain ⟨⟨y, hy⟩, _⟩ := c2 a o z
      exact I0.cne y a hy w
    · obtain ⟨_, o', ho', _⟩ := I0.ok.funs.mem w
      exact absurd (Nat.lt_of_lt_of_le (Heap.lt_size ho') (cAb a o z)) (Nat.lt_irrefl _)
  have cFp : ∀ a o, cs.lookup a = some o → a ∉ fp := fun a o z hm => by
    obtain ⟨⟨y, hy⟩, _⟩ := c2 a o z
    exact (f0 a hm).2.2.2.2.1 y a hy rfl
  refine ⟨cs, ⟨fun a o z => ?_⟩, fun a o z => ⟨⟨Nat.le_trans I0.ok.bsz (cAb a o z), cFr a o z⟩, (c2 a o z).2.2⟩, fun f o Hx h Hs e ct => h cs Hs (csv_of I0 hc c1 c2) ct e⟩
  obtain ⟨⟨y, hy⟩, g, _⟩ := c2 a o z
  have n0 := I0.freeC y a hy
  exact ⟨u.keep a o g n0 (cFr a o z) (cFp a o z), u.free a o g n0 (cFp a o z)⟩
end
section
variable {X : Cx} {ρ : Rho} {e : Expr} {es : List Expr} {pos p : Pos} {k : D → Prop}
theorem xe_callC {n m jj : Nat} {ψ : Addr → Out → Hp → Prop} {x : Str} {ps : List Str} {C : Con} (F : Fg X.prog X.w X.K X.mg X.base n x ps C) (gd : X.A.guards = some []) (hr : Room m X.A) (Z : FzY X ψ jj)
    (h : XA X (e :: es) ρ fun ds => ∃ ds', UpL (fun φ f o => φ = ψ f o) (Act X.prog X.w X.K X.mg X.base jj) ds ds' ∧ ds'.length = ps.length ∧ C ds' k) (kb : ∀ d, k d → TxL d) (hnm : n ≤ m := by decide) (hg : Gl X x := by rfl)
    (hdb : (x == ("__debug__" : Str)) = false := by decide) (he : starEach (e :: es) X.env = (false, eval e X.env) :: starEach es X.env := by rfl) (hpl : (backTo pos (starEach es X.env)).any (·.1) = false := by rfl) :
    XE X (.Call (.Name x p) (e :: es) [] pos) ρ k := by
  obtain ⟨f, fd, h1, h2, h3, h4⟩ := F.ex
  refine ⟨fun pins s σ H Q I ⟨S, E, q⟩ => ?_⟩
  refine wpAny_Call_Name_kw (ld_glob I hg h1 ?_ hdb)
  refine PySem.W.callWith_K (h₀ := X.base) I.ok.mod.kin h2 (thn (anyA.run pos pins s σ H (fun vs H2 => ∃ ds, Ex H H2 ∧ AtL X.K (hide S H2) vs ds ∧ ∃ ds', UpL (fun φ f o => φ = ψ f o) (Act X.prog X.w X.K X.mg X.base jj) ds ds' ∧ ds'.length = ps.length ∧ C ds' k) I ⟨_, h, S, E, fun vs H2 ds e2 a2 hk => ⟨ds, e2, a2, hk⟩⟩) fun us s2 ⟨zs, H2, I2, rz, ds, e2, a2, ds', up, l1, hC⟩ => ⟨I2.kIn, ?_⟩) he hpl
  have E2 := E.mono e2
  obtain ⟨cs, csO, cAb, zact⟩ := Z.get _ _ _ _ I2
  have cFr : ∀ a o, cs.lookup a = some o → a ∉ frs X.stack := fun a o z => (cAb a o z).1.2
  have e0 := I2.env0
  have e1 : Env0 X.prog X.w X.K X.mg X.base X.A X.stack s2 (addX cs H2) := ⟨e0.frames, e0.mod, fun b o z => ⟨(e0.bs b o z).1, by
      rw [addX_out (?_ : cs.lookup b = none)]
      · exact (e0.bs b o z).2
      · cases y : cs.lookup b with
        | none => rfl
        | some o' =>
          have w1 := Heap.lt_size z
          exact absurd (Nat.lt_of_lt_of_le w1 (cAb b o' y).1.1) (Nat.lt_irrefl _)⟩, e0.bsz, e0.funs, fun b hb => by
      rw [addX_out (?_ : cs.lookup b = none)]
      · exact e0.frf b hb
      · cases y : cs.lookup b with
        | none => rfl
        | some o' => exact absurd hb (cFr b o' y), hok_add csO e0.hok, e0.bare⟩
  have sub := ex_add (H := H2) csO
  have cS : ∀ c o, cs.lookup c = some o → c ∉ S := fun c o z m => by
    obtain ⟨u, q, _⟩ := E2.trk.tr c m
    rw [(csO.at_ c o z).2] at q
    cases q
  have ad : AtL X.K (hide S (addX cs H2)) zs ds' := atL_up (R := fun φ f o => φ = ψ f o) (T := Act X.prog X.w X.K X.mg X.base jj) (fun φ f o r hφ H' e' => zact f o H' (by have := hφ H' e'; rw [r] at this; exact this) H' (ExN.refl H') ⟨fun a o z => e'.k a _ (by rw [hide_out (cS a o z)]; exact addX_in z) True.intro⟩) up (a2.mono (hide_exN (ExN.of sub)))
  have lz : zs.length = ps.length := by
    rw [a2.length, ← up.length]
    exact l1
  have lu : us.length = ps.length := by rw [← rz.length]; exact lz
  have hb := h3 s2 us I2.kIn (by rw [List.append_nil]; exact lu)
  rw [List.append_nil] at hb
  have tr1 : Trk S (addX cs H2) := E2.trk.mono (Ex.of sub)
  have noext : ∀ a o, cs.lookup a = some o → ∀ H3, Ex (addX cs H2) H3 → H3 a = some (exO a o) := fun a o z H3 e3 => e3.k a _ (addX_in z) True.intro
  refine wpAny_call (codeAny_mono (h4.run X.A X.stack s2 (addX cs H2) ⟨us, []⟩ us zs (fun v H3 => (∀ a o, cs.lookup a = some o → H3 a = some (exO a o)) ∧ ∃ d, Ex (addX cs H2) H3 ∧ At X.K (hide S H3) v d ∧ k d) (fun _ _ _ => False) gd (hr.mono hnm) e1 hb rz ⟨S, ds', k, lz, tr1, ad, hC, fun v H3 d e3 a3 hk => ⟨fun a o z => noext a o z H3 e3, d, e3, a3, hk⟩⟩) fun r s' hq => ?_)
  match r, hq with
  | .error _, hq => exact (show False from hq).elim
  | .ok .next, hq => exact False.elim hq
  | .ok .brk, hq => exact False.elim hq
  | .ok .cont, hq => exact False.elim hq
  | .ok (.ret u), ⟨v, H3, os, bare, un, okE, rE, ext, d, e3, a3, hk⟩ =>
    have ct3 : Ct cs H3 := ⟨ext⟩
    have un2 := un_thaw csO un okE ct3
    have inH : ∀ b o, H2 b = some o → cs.lookup b = none := fun b o z => by
      cases y : cs.lookup b with
      | none => rfl
      | some o' =>
        rw [(csO.at_ b o' y).2] at z
        cases z
    have e4 : Ex H2 (remX cs H3) := by
      refine ⟨⟨fun b o z nt => ?_, fun b o z => ?_⟩, fun p hp t => ?_⟩
      · rw [remX_out (inH b o z)]
        exact e3.k b o (sub b o z) nt
      · rw [remX_out (inH b o z)]
        exact e3.th b o (sub b o z)
      · obtain ⟨ps', t1, t2, t3⟩ := e3.t p hp (t.ext sub)
        obtain ⟨ps0, t0, _⟩ := t
        refine ⟨ps', by rw [remX_out (inH _ _ t0)]; exact t1, t2, fun pos cv hcv => ?_⟩
        obtain ⟨c, w1, w2⟩ := t3 pos cv hcv
        exact ⟨c, w1, by rw [remX_out (code_ncell (o := default) okE ct3 (fun c o z => (cAb c o z).2) w2)]; exact w2⟩
    have a4 : At X.K (hide S (remX cs H3)) v d := txl_rem ct3 (kb d hk) a3
    exact I2.after ⟨v, remX cs H3, os, bare, un2, hok_rem ct3 okE, rE, q v _ _ (e2.trans e4) a4 hk⟩
end
section
variable {X : Cx} {ρ : Rho} {elt it : Expr} {scope : Scope} {pos px : Pos} {kl : List D → Prop}
/-- the element, told of the start -/
def teC (X : Cx) (pins : List (Addr × Obj)) (σ : L2.St) (scope : Scope) (elt : Expr) : TE := fun σ' H' Q' => ∀ (s0 : Shared) (H0 : Hp) (C : Addr) (cl : List (Str × Addr)) (fp : List Addr), Inv X pins σ H0 s0 → (∀ b ∈ fp, FpOk X pins H0 b) → aE (X.blk s0 H0 scope (compEnvC scope cl C X.env) fp) elt σ' H' Q'
theorem xn_lcC (i : Nat) {x : Str} {W : Nat → List D → Prop} {ds : List D} {j : Nat} {cap : Cap} (hcap : CapOk X ρ cap) (hfn : ∀ y, X.fn y = true) (ds1 : (Addr → Out → Hp → Prop) → List D) (up : ∀ ψ, UpL (LamOk X j cap) ψ ds (ds1 ψ))
    (h : XL X it ρ fun es => es = ds ∧ W 0 [] ∧ ∀ acc, W ds.length acc → kl acc)
    (he : Blk X scope fun Y => ∀ ψ, FzY Y ψ (j + 1) → ∀ (m : Nat) d acc, (ds1 ψ)[m]? = some d → W m acc → XE Y elt ((ρ.set i .un).set i (.dat d)) fun d' => acc.length < 100000 ∧ W (m + 1) (acc ++ [d'])) (hN : X.N.Nodup)
    (hB : blkC X.N X.env.scope scope [(x, i)] = true := by first | decide +kernel | rfl) (hc : X.calm = true := by rfl) (hi : X.N[i]? = some x := by rfl)
    (hx : Blk X scope fun Y => L2.Loc Y.env.scope x := by first | exact fun _ _ _ _ _ => Or.inl rfl | exact fun _ _ _ _ _ => Or.inr rfl)
    (hf : Blk X scope fun Y => Y.fn x = true ∨ Y.env.scope.names.lookup x = some .local := by first | exact fun _ _ _ _ _ => Or.inr rfl | exact fun _ _ _ _ _ => Or.inl rfl)
    (hs : ∀ y, foldedSetIterable it X.env y = pure y := by intro _; rfl) :
    XN X (.ListComp elt [⟨.Name x px, it, [], 0⟩] scope pos) ρ kl := by
  refine ⟨fun pins s σ H Q I ⟨S, E, q⟩ => ?_⟩
  refine lc_told (own := [(x, i)]) (g := gName i) (te := teC X pins σ scope elt) hc hN I (pi_list anyE) (blkOk_by hB)
    (fun s H C cl fp => pg_name hN hi (hx s H C cl fp) (hf s H C cl fp)) (fun s0 H0 C cl fp I0 f0 => impE anyE fun σ' H' Q' q => q s0 H0 C cl fp I0 f0) hs ?_
  refine useL h E fun a H1 vs0 es e1 hL a1 ⟨hd, w0, hend⟩ => ?_
  subst hd
  refine ⟨a, rfl, ⟨vs0, hL⟩, fun Dl hD => ?_⟩
  have E1 := E.mono e1
  have a2 : AtL X.K (hide S H1) vs0 (ds1 (PsiL X σ cap (j + 1))) := atL_up (R := LamOk X j cap) (T := PsiL X σ cap (j + 1)) (fun φ f o r hφ H' e' cs Hs V ct e2 => lam_actV I E hcap V r ((hide_ex e1).trans (e'.trans e2)) ct (hφ Hs (e'.trans e2))) (up _) a1
  refine lc_list (K := X.K) (a := a) (xs := vs0) (g := gName i) (tt := tYes) (te := teC X pins σ scope elt) (vs := [i]) (σ := σ) (Qd := fun H' => Q (.ref Dl) H') (Cw X.K S H1 W Dl) ⟨hD, Ex.new hD, [], [], upd_same, .nil, w0⟩ (fun m H2 _ p => ex_l p.2.1 hL) ?_ ?_
  · rintro m x0 H2 hm' p
    obtain ⟨d, hd, ad⟩ := a2.get' hm'
    refine ⟨wipe_again σ i _, ?_⟩
    show teC X pins σ scope elt ((wipe σ [i]).set i (some x0)) H2 fun y H4 => ∃ acc, H4 Dl = some (.lst acc) ∧ acc.length < sizeLine ∧ Cw X.K S H1 W Dl (m + 1) (upd H4 Dl (.lst (acc ++ [y])))
    refine cw_turn p E1.trk (kd := fun _ _ => True) fun acc hw Q' q' s0 H0 C cl fp I0 f0 => ?_
    obtain ⟨p1, p2, vs, acc', p3, p4, p5⟩ := p
    have E2 : EnvOk X.K (Dl :: S) H2 (wipe σ [i]) (ρ.set i .un) := (E1.hid p2 hD p3).2.wipe1 i
    refine useE (he s0 H0 C cl fp _ (fzy hcap hfn I0 f0) m d acc hd hw) (E2.store ?_) fun v3 H4 d3 e4 a4 hk => q' v3 H4 d3 e4 a4 hk
    exact (at_hid hD ad).mono (hide_ex p2)
  · rintro H2 ⟨p1, p2, vs, acc, p3, p4, p5⟩
    rw [a1.length] at p5
    exact q Dl H2 vs acc (e1.back hD) (e1.trans p2) p3 p4 (hend acc p5)
end
end VL

set_option Elab.async false
set_option linter.all false
set_option maxRecDepth 100000
set_option maxHeartbeats 4000000
namespace VL
variable [Tb]
open PySem L2
section
variable {X : Cx} {ρ : Rho} {a b : Expr} {pos : Pos} {kl : List D → Prop}
/-- two lists, put together -/
theorem xn_catLL (h : XL X a ρ fun ds => XL X b ρ fun es => ds.length + es.length ≤ 100000 ∧ kl (ds ++ es)) : XN X (.BinOp a .Add b pos) ρ kl :=
  impE (pe_op op_catS anyE anyE) fun σ H Q ⟨S, E, q⟩ => useL h E fun r H1 vs ds e1 hL a1 hb => useL hb (E.mono e1) fun p H2 us es e2 hL2 a2 ⟨hl, hk⟩ => by
    have a1' : AtL X.K (hide S H2) vs ds := a1.mono (hide_ex e2)
    exact ⟨r, p, vs, us, rfl, rfl, ex_l e2 hL, hL2, sz_of (by rw [a1.length, a2.length]; exact hl), fun z hz => q z _ _ _ ((e1.trans e2).back hz) ((e1.trans e2).trans (Ex.new hz)) upd_same (newL (E.mono (e1.trans e2)).trk hz (a1'.append a2)) hk⟩
end
end VL

set_option Elab.async false
set_option linter.all false
set_option maxRecDepth 100000
set_option maxHeartbeats 4000000
/-! An error of an own class made with keywords -/
namespace VQ
open PySem PySem.W PySem.Calls PySem.HandSPX
section
variable {M : Model} {A : Around} {E : Value → Shared → Prop} {h : Heap} {g : Array GenState} {d : Drawn} {t : Nat} {os : OsState}
variable {nm q : Str} {C N : Addr} {bs bm bmB : List Value} {hdct : Bool} {sn : List Str} {sub : List Value} {ab : Bool} {col : Option Bool} {dd : Option Addr} {k0 k1 k2 k3 k5 : Option Value} {B newId initId : String}
theorem check_new_ownK (F : ExcBaseFacts B newId initId bmB) (hT : ∀ X : String, bm.contains (.type X) = bmB.contains (.type X)) {rest : List Value} {kws : List (Str × Value)} {Q : Unit → Shared → Prop}
    (hC : h.get? C = some (excClassObj nm q C N bs bm hdct sn sub ab col dd k0 k1 k2 k3 k5 newId)) (hq : Q () ⟨h, g, d, t, os⟩) : wpAny M A (checkBuiltinCall newId ⟨.ref C :: rest, kws⟩) Q E ⟨h, g, d, t, os⟩ := by
  have hcont : (Value.ref C :: bm).contains (.type B) = true := by rw [List.contains_cons, hT, F.hasB, Bool.or_true]
  have hstar := F.noStar
  simp only [checkBuiltinCall, F.newKind, F.newSplit, F.newRow]
  repeat (first | refine wpAny_loadPart_at hC ?_ | (refine wpAny_isSubtype_exc hC ?_; rw [hcont]) | refine wpAny_staticBase_exc hC ?_ | refine wpAny_madeBy_exc hC ?_ | simp only [bne_self_eq_false, Bool.false_eq_true, if_false] | wp_step)
  exact hq
end
section
variable {prog : Program} {w : World} {A : Around} {E : Value → Shared → Prop} {R : Result → Shared → Prop} {h : Heap} {g : Array GenState} {d : Drawn} {t : Nat} {os : OsState}
variable {nm q : Str} {C N : Addr} {bs bm bmB : List Value} {hdct : Bool} {sn : List Str} {sub : List Value} {ab : Bool} {col : Option Bool} {dd : Option Addr} {k0 k1 k2 k3 k5 : Option Value} {B newId initId : String}
theorem new_ownK (F : ExcBaseFacts B newId initId bmB) (hT : ∀ X : String, bm.contains (.type X) = bmB.contains (.type X)) {rest : List Value} {kws : List (Str × Value)}
    (hC : h.get? C = some (excClassObj nm q C N bs bm hdct sn sub ab col dd k0 k1 k2 k3 k5 newId))
    (hq : R (.ok (.ret (.ref (h.objs.size + 1)))) ⟨(h.push { cls := .type "tuple", data := .seq rest.toArray }).push
      { cls := .ref C, data := .fields #[.ref h.objs.size, .none, .none, .none, .bool false, .none] }, g, d, t, os⟩) (hrest : rest.length ≤ sizeLine) :
    codeAny (model prog w) A (.builtin newId ⟨.ref C :: rest, kws⟩) R ⟨h, g, d, t, os⟩ := by
  have hends := F.ends
  have hcB : (Value.ref C :: bm).contains (.type B) = true := by rw [List.contains_cons, hT, F.hasB, Bool.or_true]
  have hcA : (Value.ref C :: bm).contains (.type "AttributeError") = false := by rw [List.contains_cons, hT, F.noAttr]; rfl
  have hcN : (Value.ref C :: bm).contains (.type "NameError") = false := by rw [List.contains_cons, hT, F.noName]; rfl
  refine codeAny_builtinAt F.entry ?_
  unfold Builtin.«BaseException.__new__»
  refine wpAt_bind ?_
  show wpAt _ _ _ (stack >>= _) _ _ _
  refine wpAt_bind (wpAt_stack fun p below => wpAt_of_wpAny ?_)
  wp_walk
  refine wpAt_of_wpAny ?_
  rw [F.owner]
  repeat (first | with_reducible refine wpAny_madeHere_exc F.canon hC ?_ | with_reducible refine wpAny_loadPart_at hC ?_ | (with_reducible refine wpAny_isSubtype_exc hC ?_; first | rw [hcB] | rw [hcA] | rw [hcN]) | wp_step)
  show R _ _
  rw [Heap.size_push]
  exact hq
theorem type_call_ownK (F : ExcBaseFacts B newId initId bmB) (hT : ∀ X : String, bm.contains (.type X) = bmB.contains (.type X)) {rest : List Value} {kws : List (Str × Value)} {fI : Addr} {Q : Fin → Shared → Prop}
    (hC : h.get? C = some (excClassObj nm q C N bs bm hdct sn sub ab col dd k0 k1 k2 k3 k5 newId))
    (hi : W.Looks (model prog w) h (typeLookup (.ref C) "__init__") (some (.ref fI))) (hb : ∀ self, W.Looks (model prog w) h (bindSpecial (.ref fI) self) (.ref fI, [self])) (hrest : rest.length ≤ sizeLine)
    (hq : codeAny (model prog w) A (.call (.ref fI) ⟨.ref (h.objs.size + 1) :: rest, kws⟩)
      (fun r s' => match r with | .ok (.ret v) => v = .none ∧ Q (.done (.ret (.ref (h.objs.size + 1)))) s' | .ok _ => False | .error e => E e s')
      ⟨(h.push (W.kdv_tup rest)).push (excO C h.objs.size), g, d, t, os⟩) :
    wpAny (model prog w) A (Builtin.«type.__call__» ⟨.ref C :: rest, kws⟩) Q E ⟨h, g, d, t, os⟩ := by
  repeat (first | with_reducible refine wpAny_loadPart_at hC ?_ | with_reducible refine wpAny_madeBy_exc hC ?_ | wp_step)
  refine codeAny_call_builtin_code (Code.quiet_builtin _ F.quiet) (check_new_ownK F hT hC ?_)
  refine new_ownK F hT hC ?_ hrest
  show wpAny _ _ _ _ _ _
  have k : ∀ b o, h.get? b = some o → ((h.push (W.kdv_tup rest)).push (excO C h.objs.size)).get? b = some o := fun b o e => Heap.get?_push_of_some _ (Heap.get?_push_of_some _ e)
  have hC₁ := k _ _ hC
  have hget : ((h.push (W.kdv_tup rest)).push (excO C h.objs.size)).get? (h.objs.size + 1) = some (excO C h.objs.size) := by heap_get
  have hcC : (Value.ref C :: bm).contains (.ref C) = true := by simp
  have i1 := hi.keeps k
  have b1 := (hb (.ref (h.objs.size + 1))).keeps k
  unfold isInstance
  repeat (first | with_reducible refine wpAny_loadPart_at hget ?_ | (with_reducible refine wpAny_isSubtype_exc hC₁ ?_; rw [hcC]) | wp_step)
  show wpAny _ _ (typeLookup (.ref C) _) _ _ _
  refine i1.at ?_
  refine wpAny_holding (wpAny_bind (b1.at ?_))
  refine wpAny_bind (wpAny_call (codeAny_mono hq fun r s' z => ?_))
  rcases r with e | (v | _ | _ | _) <;> first | exact z | exact z.elim | skip
  obtain ⟨rfl, z⟩ := z
  first
    | exact wpAny_pure (wpAny_pure z)
    | (wp_walk; exact z)
theorem call_ownK (F : ExcBaseFacts B newId initId bmB) (hT : ∀ X : String, bm.contains (.type X) = bmB.contains (.type X)) {rest : List Value} {kws : List (Str × Value)} {fI : Addr}
    (hC : h.get? C = some (excClassObj nm q C N bs bm hdct sn sub ab col dd k0 k1 k2 k3 k5 newId))
    (hi : W.Looks (model prog w) h (typeLookup (.ref C) "__init__") (some (.ref fI))) (hb : ∀ self, W.Looks (model prog w) h (bindSpecial (.ref fI) self) (.ref fI, [self])) (hrest : rest.length ≤ sizeLine)
    (hq : codeAny (model prog w) (A.under (.builtin "type.__call__" ⟨.ref C :: rest, kws⟩)) (.call (.ref fI) ⟨.ref (h.objs.size + 1) :: rest, kws⟩) (W.InitBack (h.objs.size + 1) R)
      ⟨(h.push (W.kdv_tup rest)).push (excO C h.objs.size), g, d, t, os⟩) :
    codeAny (model prog w) A (.call (.ref C) ⟨rest, kws⟩) R ⟨h, g, d, t, os⟩ := by
  have f1 := tc_lookup
  have f2 := tc_bind (.ref C)
  have hTy : (⟨h, g, d, t, os⟩ : Shared).TypeIs (.ref C) "type" := ⟨_, hC, rfl⟩
  refine codeAny_of_tree ?_
  show wpAny _ _ (callAny (.ref C) _) _ _ _
  repeat (any_goals (first | assumption | with_reducible refine wpAny_loadPart_at hC ?_ | wp_step))
  refine ⟨rfl, ?_⟩
  refine codeAny_call_builtin_at (Code.quiet_builtin _ (by decide +kernel)) entry_typeCall (wpAny_check_type_call_sub hC (type_call_ownK F hT hC hi hb hrest ?_))
  refine codeAny_mono hq fun r s' z => ?_
  rcases r with e | (v | _ | _ | _) <;> exact z
end
end VQ

set_option Elab.async false
set_option linter.all false
set_option maxRecDepth 100000
set_option maxHeartbeats 4000000
/-! An error as a value: C(given), C(given=..), C() -/
namespace VL
variable [Tb]
open PySem PySem.Spec PyProof.Rows L2 LamX
/-- an error that stands: its class, its field -/
def ErV (K : PySem.W.Frag) (C : Addr) (f : Str) (d : D) (a : Addr) : Hp → Prop := fun H => ∃ dx v, H a = some (exo a C (some dx)) ∧ H dx = some (exd dx [(f, v)]) ∧ At K H v d
/-- one without a field -/
def ErN (C a : Addr) : Hp → Prop := fun H => H a = some (exo a C none)
section
variable {X : Cx} {pins : List (Addr × Obj)} {σ : L2.St} {H : Hp} {s : Shared} {C fI : Addr} {f : Str} {v : V} {u : Value} {Q : VK} {B newId initId : String} {bmB : List Value} {n : Nat} {fd : FuncData} {ps : List Str} {us : List Value} {kz : List (Str × Value)}
theorem run_errV (T : ErrC0 X.K C B newId initId bmB) (iC : PySem.W.findIn X.K (.ref C) "__init__" = some (some (.ref fI))) (tI : PySem.W.typeIn X.K (.ref fI) = some (.type "function")) (F1 : FnOk X.prog X.w X.K X.mg X.base CX0 n fI fd ps (spE C f)) (hr : Room (n + 1) X.A)
    (hb : ∀ (s : Shared) (a : Addr), X.K.In s.heap → BindsTo s fd ⟨.ref a :: us, kz⟩ (ps.zip [.ref a, u])) (I : Inv X pins σ H s) (r : RelV v u) (hz : us.length ≤ 1)
    (h : ∀ a dx, H a = none → H dx = none → dx ≠ a → Q (.ref a) (upd (upd H dx (exd dx [(f, v)])) a (exo a C (some dx)))) : wpAny (model X.prog X.w) X.A (call (.ref C) us kz) (EP X pins σ Q) X.xe s := by
  obtain ⟨nm, N, qn, bs, bm, hdct, sn, sub, ab, col, dd, k0, k1, k2, k3, k5, hC, hT⟩ := PySem.W.excInit_of I.kIn T.cl
  obtain ⟨hp, g, dr, tk, os⟩ := s
  have hsz : hp.objs.size ≤ hp.objs.size + 1 := Nat.le_succ _
  have hn : H (hp.objs.size + 1) = none := I.hok.fresh hsz
  have kk : ∀ b o, hp.get? b = some o → ((hp.push (PySem.W.kdv_tup us)).push (PySem.HandSPX.excO C hp.objs.size)).get? b = some o := fun b o e => Heap.get?_push_of_some _ (Heap.get?_push_of_some _ e)
  have hget : ((hp.push (PySem.W.kdv_tup us)).push (PySem.HandSPX.excO C hp.objs.size)).get? (hp.objs.size + 1) = some (PySem.HandSPX.excO C hp.objs.size) := by heap_get
  have I2 : Inv X pins σ (upd H (hp.objs.size + 1) (exo (hp.objs.size + 1) C none)) ⟨(hp.push (PySem.W.kdv_tup us)).push (PySem.HandSPX.excO C hp.objs.size), g, dr, tk, os⟩ :=
    I.laid (t' := tk) (a := hp.objs.size + 1) (o := exo (hp.objs.size + 1) C none) (h' := (hp.push (PySem.W.kdv_tup us)).push (PySem.HandSPX.excO C hp.objs.size)) kk hsz (exo_ok hget)
  have r2 : Vals [V.ref (hp.objs.size + 1), v] [Value.ref (hp.objs.size + 1), u] := .cons rfl (.cons r .nil)
  have hq : spE C f [V.ref (hp.objs.size + 1), v] (upd H (hp.objs.size + 1) (exo (hp.objs.size + 1) C none)) (fun v2 H2 => v2 = .non ∧ Q (.ref (hp.objs.size + 1)) H2) (fun _ _ _ => False) :=
    ⟨_, v, rfl, upd_same, fun dx nd ne => ⟨rfl, by
      rw [upd_ne ne] at nd
      have e : upd (upd (upd H (hp.objs.size + 1) (exo (hp.objs.size + 1) C none)) dx (exd dx [(f, v)])) (hp.objs.size + 1) (exo (hp.objs.size + 1) C (some dx)) = upd (upd H dx (exd dx [(f, v)])) (hp.objs.size + 1) (exo (hp.objs.size + 1) C (some dx)) := by
        funext b
        by_cases hb : b = hp.objs.size + 1
        · rw [hb, upd_same, upd_same]
        · rw [upd_ne hb, upd_ne hb]
          by_cases hd : b = dx
          · rw [hd, upd_same, upd_same]
          · rw [upd_ne hd, upd_ne hd, upd_ne hb]
      rw [e]
      exact h _ _ hn nd ne⟩⟩
  have b2 := hb ⟨(hp.push (PySem.W.kdv_tup us)).push (PySem.HandSPX.excO C hp.objs.size), g, dr, tk, os⟩ (hp.objs.size + 1) I2.kIn
  refine wpAny_call (VQ.call_ownK T.base hT hC (PySem.W.looks_findIn I.kIn iC) (fun self => PySem.W.bind_fn I.kIn self tI) (by rw [sizeLine_eq]; omega)
    (codeAny_mono (F1.run _ X.stack _ _ ⟨Value.ref (hp.objs.size + 1) :: us, kz⟩ [Value.ref (hp.objs.size + 1), u] _ _ (fun _ _ _ => False) (hr.make C us kz) (I2.env0.make C us kz) b2 r2 hq) fun r s' hq' => ?_))
  match r, hq' with
  | .error er, hq' => exact (show False from hq').elim
  | .ok .next, hq' => exact False.elim hq'
  | .ok .brk, hq' => exact False.elim hq'
  | .ok .cont, hq' => exact False.elim hq'
  | .ok (.ret u2), hq' =>
    obtain ⟨v2, H', I3, rv, ev, q3⟩ := I2.after hq'
    subst ev
    exact ⟨rv, ⟨V.ref (hp.objs.size + 1), H', I3, rfl, q3⟩⟩
end
section
variable {X : Cx} {ρ : Rho} {e : Expr} {te : TE} {p pos : Pos} {n m : Nat} {x f : Str} {C : Addr} {k : D → Prop} {kws : List Keyword}
theorem err_at {S : List Addr} {H : Hp} {v : V} {d : D} {a dx : Addr} (T : Trk S H) (av : At X.K (hide S H) v d) (na : H a = none) (nd : H dx = none) (ne : dx ≠ a) :
    Ex H (upd (upd H dx (exd dx [(f, v)])) a (exo a C (some dx))) ∧ At X.K (hide S (upd (upd H dx (exd dx [(f, v)])) a (exo a C (some dx)))) (.ref a) (.tg (ErV X.K C f d a) a) := by
  have ex : Ex H (upd (upd H dx (exd dx [(f, v)])) a (exo a C (some dx))) := (Ex.new nd).trans (Ex.new (by rw [upd_ne (Ne.symm ne)]; exact na))
  refine ⟨ex, .tg a fun H' e' => ⟨dx, v, e'.k _ _ ?_ True.intro, e'.k _ _ ?_ True.intro, (av.mono (hide_ex ex)).mono e'⟩⟩
  · rw [hide_out (hide_new T na), upd_same]
  · rw [hide_out (hide_new T nd), upd_ne ne, upd_same]
theorem xe_mkE (R : Er X.prog X.w X.K X.mg X.base n x C f) (hr : Room m X.A) (h : XE X e ρ fun d => ∀ a, k (.tg (ErV X.K C f d a) a)) (hnm : n + 1 ≤ m := by decide) (hg : Gl X x := by rfl)
    (hdb : (x == ("__debug__" : Str)) = false := by decide) (he : starEach [e] X.env = (false, eval e X.env) :: starEach [] X.env := by rfl) (hpl : (backTo pos (starEach [] X.env)).any (·.1) = false := by rfl) :
    XE X (.Call (.Name x p) [e] [] pos) ρ k := by
  obtain ⟨B, newId, initId, bmB, T⟩ := R.cls.ex
  obtain ⟨fI, fd, ps, iC, tI, hb, F1⟩ := R.init
  refine ⟨fun pins s σ H Q I ⟨S, E, q⟩ => ?_⟩
  refine wpAny_Call_Name_kw (ld_glob I hg R.mgx ?_ hdb)
  have hp := (pa_cons h pa_nil he).run pos pins s σ H (fun vs H1 => ∃ v d, vs = [v] ∧ Ex H H1 ∧ At X.K (hide S H1) v d ∧ ∀ a, k (.tg (ErV X.K C f d a) a)) I ⟨S, E, fun v H2 d e2 a2 kd => ⟨v, d, rfl, e2, a2, kd⟩⟩
  refine PySem.W.callWith_K (h₀ := X.base) I.ok.mod.kin T.kC ?_ he hpl
  refine thn hp ?_
  intro us s1 hh
  obtain ⟨vs, H1, I1, r1, v, d, ev, e1, a1, kd⟩ := hh
  subst ev
  cases r1 with
  | @cons _ u _ _ ru r2 =>
    cases r2
    refine ⟨I1.kIn, ?_⟩
    refine run_errV (us := [u]) (kz := []) T iC tI F1 (hr.mono hnm) (fun s2 a X2 => ?_) I1 ru (Nat.le_refl 1) fun a dx na nd ne => ?_
    · have lp : ps.length = 2 := (F1.len [V.ref 0, v] (fun _ => some (exo 0 C none)) (fun _ _ => True) (fun _ _ _ => True) ⟨0, v, rfl, rfl, fun _ _ _ => True.intro⟩).symm
      have b2 := hb s2 [Value.ref a, u] X2 (by rw [List.append_nil, lp]; rfl)
      rw [List.append_nil] at b2
      exact b2
    · obtain ⟨e3, a3⟩ := err_at (C := C) (f := f) (E.mono e1).trk a1 na nd ne
      exact q _ _ _ (e1.trans e3) a3 (kd a)
end
/-- the class, made by name -/
structure ErK (P : Program) (w : World) (K : PySem.W.Frag) (mg : Str → Option Value) (base : Heap) (k : Nat) (x : Str) (C : Addr) (f : Str) : Prop where
  mgx : mg x = some (.ref C)
  cls : ErrC K C
  init : ∃ fI fd ps, PySem.W.findIn K (.ref C) "__init__" = some (some (.ref fI)) ∧ PySem.W.typeIn K (.ref fI) = some (.type "function") ∧ (∀ (s : Shared) (a : Addr) (u : Value), K.In s.heap → BindsTo s fd ⟨[.ref a], [(f, u)]⟩ (ps.zip [.ref a, u])) ∧ FnOk P w K mg base CX0 k fI fd ps (spE C f)
section
variable {X : Cx} {ρ : Rho} {e : Expr} {te : TE} {p pos : Pos} {n m : Nat} {x f : Str} {C : Addr} {k : D → Prop} {kws : List Keyword}
theorem xe_mkEK (R : ErK X.prog X.w X.K X.mg X.base n x C f) (hr : Room m X.A) (h : XK' X kws ρ fun ds => ∃ d, ds = [d] ∧ ∀ a, k (.tg (ErV X.K C f d a) a)) (hnm : n + 1 ≤ m := by decide) (hg : Gl X x := by rfl)
    (hall : (backToKw pos (keywordEach kws X.env)).all (·.1.isSome) = true := by rfl) (hks : (backToKw pos (keywordEach kws X.env)).filterMap (·.1) = [f] := by rfl) (hdb : (x == ("__debug__" : Str)) = false := by decide)
    (hpl : ((backTo pos (starEach [] X.env)).any (·.1) || (backToKw pos (keywordEach kws X.env)).any (·.1.isNone)) = false := by rfl) :
    XE X (.Call (.Name x p) [] kws pos) ρ k := by
  obtain ⟨B, newId, initId, bmB, T⟩ := R.cls.ex
  obtain ⟨fI, fd, ps, iC, tI, hb, F1⟩ := R.init
  refine ⟨fun pins s σ H Q I ⟨S, E, q⟩ => ?_⟩
  refine wpAny_Call_Name_kw (ld_glob I hg R.mgx ?_ hdb)
  refine PySem.W.callWith_KW0 (h₀ := X.base) I.ok.mod.kin T.kC hall ?_ hpl
  have hp := h.run pos pins s σ H (fun vs H1 => ∃ v d, vs = [v] ∧ Ex H H1 ∧ At X.K (hide S H1) v d ∧ ∀ a, k (.tg (ErV X.K C f d a) a)) I ⟨S, E, fun vs H2 ds e2 a2 ⟨d, hd, kd⟩ => by
    subst hd
    cases a2 with
    | cons a2 t2 =>
      cases t2
      exact ⟨_, d, rfl, e2, a2, kd⟩⟩
  refine thn hp ?_
  intro ws s1 hh
  obtain ⟨vs, H1, I1, r1, v, d, ev, e1, a1, kd⟩ := hh
  rw [hks]
  subst ev
  cases r1 with
  | @cons _ u _ _ ru r2 =>
    cases r2
    refine ⟨I1.kIn, ?_⟩
    refine run_errV (us := []) (kz := [(f, u)]) T iC tI F1 (hr.mono hnm) (fun s2 a X2 => hb s2 a u X2) I1 ru (Nat.zero_le 1) fun a dx na nd ne => ?_
    obtain ⟨e3, a3⟩ := err_at (C := C) (f := f) (E.mono e1).trk a1 na nd ne
    exact q _ _ _ (e1.trans e3) a3 (kd a)
end
end VL

set_option Elab.async false
set_option linter.all false
set_option maxRecDepth 100000
set_option maxHeartbeats 4000000
/-! Errors as values: isinstance, the field, C() -/
namespace VL
variable [Tb]
open PySem PySem.Spec PyProof.Rows L2 LamX
/-- what stands at the address of an error of class D -/
def ErA (H : Hp) (a D : Addr) : Prop := (∃ d fs, H a = some (exo a D (some d)) ∧ H d = some (exd d fs)) ∨ H a = some (ExO (.ref D) a)
/-- any error of class C -/
def IsE (K : PySem.W.Frag) (C : Addr) (d : D) : Prop := (∃ f g a, d = .tg (ErV K C f g a) a) ∨ ∃ a, d = .tg (fun H => H a = some (ExO (.ref C) a)) a
theorem tg_at {K : PySem.W.Frag} {H : Hp} {φ : Hp → Prop} {a : Addr} {v : V} (h : At K H v (.tg φ a)) : v = .ref a ∧ φ H := by
  cases h with
  | tg a h => exact ⟨rfl, h H (ExN.refl H)⟩
theorem isE_at {K : PySem.W.Frag} {S : List Addr} {H : Hp} {C : Addr} {d : D} {v : V} (h : IsE K C d) (a : At K (hide S H) v d) : ∃ a, v = .ref a ∧ ErA H a C := by
  rcases h with ⟨f, g, b, rfl⟩ | ⟨b, rfl⟩
  · obtain ⟨rfl, dx, w, h1, h2, h3⟩ := tg_at a
    exact ⟨b, rfl, .inl ⟨_, _, (hide_le (S := S)).k _ _ h1 True.intro, (hide_le (S := S)).k _ _ h2 True.intro⟩⟩
  · obtain ⟨rfl, h1⟩ := tg_at a
    exact ⟨b, rfl, .inr ((hide_le (S := S)).k _ _ h1 True.intro)⟩
theorem inst_of {X : Cx} {pins : List (Addr × Obj)} {σ : L2.St} {H : Hp} {s : Shared} {a D : Addr} (I : Inv X pins σ H s) (h : ErA H a D) : ∃ oe od, PySem.W.InstAt s.heap a oe D od := by
  rcases h with ⟨d, fs, h, hd⟩ | h
  · obtain ⟨t1, ho⟩ := exo_at I.hok h
    obtain ⟨mA, hns, hr⟩ := exd_at I.hok hd
    obtain ⟨od, ho2, hl⟩ := lookIn_ns hns
    exact ⟨_, some od, ho, rfl, rfl, ho2⟩
  · obtain ⟨⟨oe, vs, ho, hz, hd, _⟩, _, _⟩ := I.hok a _ h
    obtain ⟨oc, od, oda, osl⟩ := oe
    obtain ⟨h1, h2⟩ := hz
    dsimp only at h1 h2 hd
    subst h1 h2 hd
    exact ⟨_, none, ho, rfl, rfl, trivial⟩
/-- isinstance(e, c), e an error that stands -/
def rIsV (K : PySem.W.Frag) : List V → Hp → VK → Prop := fun xs H Q => ∃ (a D : Addr) (c : V) (cv : Value) (b : Bool), xs = [.ref a, c] ∧ ErA H a D ∧ ExcC K D ∧ (∀ u, RelV c u → u = cv) ∧ PySem.W.kitOne K (.ref D) cv = some b ∧ Q (.bl b) H
theorem call_isV {X : Cx} : CallR X (.builtin "isinstance") (rIsV X.K) := by
  intro pins s σ H xs us Q I r h
  obtain ⟨a, D, c, cv, b, rfl, hE, C, hcv, e, q⟩ := h
  cases r with
  | cons rx rr =>
    cases rr with
    | cons rt rr =>
      cases rr
      cases rx
      have ec := hcv _ rt
      subst ec
      obtain ⟨oe, od, J⟩ := inst_of I hE
      exact PySem.W.kia_one (PySem.W.vl_kitx C) I.kIn J e (fun z => nomatch z) fun tk => ⟨.bl b, H, I.kept (t' := tk) fun _ _ z => z, rfl, q⟩
section
variable {X : Cx} {ρ : Rho} {a e : Expr} {p p2 pos : Pos} {n m : Nat} {x f : Str} {C : Addr} {k : D → Prop}
theorem xe_isV (hm : X.mg "isinstance" = none) {x : Str} {C2 : Addr} (hmC : X.mg x = some (.ref C2)) (h : XE X a ρ fun d => ∃ C b, IsE X.K C d ∧ ExcC X.K C ∧ PySem.W.kitOne X.K (.ref C) (.ref C2) = some b ∧ k (.bl b))
    (hg : Gl X "isinstance" := by rfl) (hgT : Gl X x := by rfl) (hdT : (x == ("__debug__" : Str)) = false := by decide)
    (he : starEach (a :: .Name x p2 :: []) X.env = (false, eval a X.env) :: starEach [.Name x p2] X.env := by rfl) (he2 : starEach (.Name x p2 :: []) X.env = (false, eval (.Name x p2) X.env) :: starEach [] X.env := by rfl) (hpl : (backTo pos (starEach [.Name x p2] X.env)).any (·.1) = false := by rfl) :
    XE X (.Call (.Name "isinstance" p) [a, .Name x p2] [] pos) ρ k :=
  impE (pe_callB call_isV hg hm (by decide +kernel) (pa_cons anyE (pa_cons (pe_glob hgT hmC (v := .ref C2) rfl hdT) pa_nil he2) he) (by decide) (by decide) he hpl) fun σ H Q ⟨S, E, q⟩ => useE h E fun v H1 d e1 a1 ⟨C, b, hd, ec, hb, hk⟩ => by
    obtain ⟨a0, rfl, hE⟩ := isE_at hd a1
    exact ⟨a0, C, .ref C2, .ref C2, b, rfl, hE, ec, fun w r => r, hb, q _ _ _ e1 (.bl b) hk⟩
theorem xe_isVB (hm : X.mg "isinstance" = none) {T : Str} {tn : String} (hmT : X.mg T = none) (hT : bootBuiltins T = some (.type tn)) (h : XE X a ρ fun d => ∃ C b, IsE X.K C d ∧ ExcC X.K C ∧ PySem.W.kitOne X.K (.ref C) (.type tn) = some b ∧ k (.bl b))
    (hg : Gl X "isinstance" := by rfl) (hgT : Gl X T := by rfl) (hnT : T ≠ "__name__" := by decide) (hdT : (T == ("__debug__" : Str)) = false := by decide)
    (he : starEach (a :: .Name T p2 :: []) X.env = (false, eval a X.env) :: starEach [.Name T p2] X.env := by rfl) (he2 : starEach (.Name T p2 :: []) X.env = (false, eval (.Name T p2) X.env) :: starEach [] X.env := by rfl) (hpl : (backTo pos (starEach [.Name T p2] X.env)).any (·.1) = false := by rfl) :
    XE X (.Call (.Name "isinstance" p) [a, .Name T p2] [] pos) ρ k :=
  impE (pe_callB call_isV hg hm (by decide +kernel) (pa_cons anyE (pa_cons (pe_bltn hgT hmT hT (v := .ty tn) rfl hnT hdT) pa_nil he2) he) (by decide) (by decide) he hpl) fun σ H Q ⟨S, E, q⟩ => useE h E fun v H1 d e1 a1 ⟨C, b, hd, ec, hb, hk⟩ => by
    obtain ⟨a0, rfl, hE⟩ := isE_at hd a1
    exact ⟨a0, C, .ty tn, .type tn, b, rfl, hE, ec, fun w r => r, hb, q _ _ _ e1 (.bl b) hk⟩
/-- C(), the class without an own __init__ -/
theorem xe_mkN {bmB : List Value} {B newId initId : String} (F : ExcBaseFacts B newId initId bmB) (hq : PySem.W.excIn X.K C bmB newId = true) (gC : X.mg x = some (.ref C)) (kC : PySem.W.keepIn X.K (.ref C) = true)
    (h : ∀ a, k (.tg (fun H => H a = some (ExO (.ref C) a)) a)) (hg : Gl X x := by rfl) (hdb : (x == ("__debug__" : Str)) = false := by decide) : XE X (.Call (.Name x p) [] [] pos) ρ k := by
  refine ⟨fun pins s σ H Q I ⟨S, E, q⟩ => ?_⟩
  refine wpAny_Call_Name_kw (ld_glob I hg gC ?_ hdb)
  refine PySem.W.callWith_K0 I.kIn kC ?_
  show wpAny _ _ (call (.ref C) []) _ _ _
  obtain ⟨bm, N, nm, qn, bs, hdct, sn, sub, ab, col, dd, k0, k1, k2, k3, k5, mN, hC, hN, hni, T⟩ := exc_obj I.kIn hq
  refine wpAny_call_exc_subT F T hC hN hni (fun h' a hm => ?_) (by show 0 ≤ sizeLine; exact Nat.zero_le _)
  have hn : H a = none := I.hok.gone hm.new
  obtain ⟨t, ht, _, _⟩ := hm.there
  refine ⟨.ref a, upd H a (ExO (.ref C) a), I.laidN hm.keeps hm.new hn (L2.exO_ok ht ⟨rfl, rfl⟩ rfl rfl rfl (show 4 < 6 by decide)), rfl, ?_⟩
  refine q _ _ _ (Ex.new hn) (.tg a fun H' e' => e'.k a (ExO (.ref C) a) ?_ True.intro) (h a)
  rw [hide_out (hide_new E.trk hn), upd_same]
/-- e.f -/
theorem xe_fldV (T : XfC X.K C) (hno : PySem.W.findIn X.K (.ref C) f = some none) (h : XE X e ρ fun d => ∃ a g, d = .tg (ErV X.K C f g a) a ∧ k g) (hb : attributeBase e f X.env (eval e X.env) = eval e X.env := by rfl) : XE X (.Attribute e f pos) ρ k := by
  refine ⟨fun pins s σ H Q I ⟨S, E, q⟩ => ?_⟩
  have hp := h.run pins s σ H (fun v H1 => ∃ a g, v = .ref a ∧ Ex H H1 ∧ ErV X.K C f g a (hide S H1) ∧ k g) I ⟨S, E, fun v H2 d e2 a2 ⟨a, g, hd, kd⟩ => by
    subst hd
    obtain ⟨rfl, z⟩ := tg_at a2
    exact ⟨a, g, rfl, e2, z, kd⟩⟩
  refine attr_of hb (thn hp ?_)
  intro u s1 hh
  obtain ⟨x, H1, I1, rx, a, g, rfl, e1, ⟨dx, w, h1, h2, h3⟩, kd⟩ := hh
  obtain rfl : u = Value.ref a := rx
  have h1 := (hide_le (S := S)).k _ _ h1 True.intro
  have h2 := (hide_le (S := S)).k _ _ h2 True.intro
  obtain ⟨t1, ho⟩ := exo_at I1.hok h1
  obtain ⟨mA, hns, hr⟩ := exd_at I1.hok h2
  obtain ⟨od, ho2, hl⟩ := lookIn_ns hns
  have hrf := hr f
  rw [show ([(f, w)] : List (Str × V)).lookup f = some w by simp [List.lookup]] at hrf
  obtain ⟨u, hu, ru⟩ := RelO.some_of (v := w) (o := mA f) hrf
  have J : PySem.W.InstAt s1.heap a _ C (some od) := ⟨ho, rfl, rfl, ho2⟩
  exact HandSPX.exc_get I1.kIn J T.ga T.gg T.exC (PySem.W.findObj_own T.hdC hno rfl (by rw [hl, hu])) (handed_of ru) ⟨w, H1, I1.tok _, ru, q _ _ _ e1 h3 kd⟩
end
end VL

set_option Elab.async false
set_option linter.all false
set_option maxRecDepth 100000
set_option maxHeartbeats 4000000
/-! a dict of one text and one int: made, shown -/
namespace VL
variable [Tb]
open PySem PySem.Spec PyProof.Rows L2 LamX
/-- a dict of one pair that stands -/
def d1D (x : Str) (i : Int) (a : Addr) : D := .tg (fun H => H a = some (.dK [(.inr x, .int i)])) a
section
variable {X : Cx} {ρ : Rho} {e : Expr} {p p2 p3 pos : Pos} {k : D → Prop} {x : Str} {i : Int} {j j2 : Nat}
theorem xe_dc1 (h : ∀ a, k (d1D x i a)) : XE X (.Dict [some (.Constant (.str x) j p)] [.Constant (.int i) j2 p2] pos) ρ k :=
  impE (pe_disp (pps_cons pe_str pe_int pps_nil) rfl rfl (fun z => nomatch z) (Nat.le_of_ble_eq_true rfl)) fun σ H Q ⟨S, E, q⟩ => fun b hb => by
    refine ⟨upd_same, [(.inr x, .int i)], rfl, Nat.le_of_ble_eq_true rfl, ?_⟩
    have e0 : mergeK [] [((.inr x : Key), V.int i)] = [(.inr x, .int i)] := rfl
    rw [e0]
    have nb := hide_new E.trk hb
    have ex : Ex H (upd (upd H b (.dK [])) b (.dK [(.inr x, .int i)])) := Ex.of fun a o ha => by
      rw [upd_ne (ne_of_none ha hb), upd_ne (ne_of_none ha hb)]
      exact ha
    refine q _ _ _ ex (.tg b fun H' e' => e'.k b (.dK [(.inr x, .int i)]) ?_ True.intro) (h b)
    rw [hide_out nb, upd_same]
end
theorem shown_d1 : (PyData.dict [(.str "a", .int 1)]).shown = "{'a': 1}" := by decide +kernel
theorem call_repr1 {X : Cx} (gd : X.A.guards = some []) (hr : RoomU X.A) : CallR X (.builtin "repr") (fun xs H Q => ∃ a, xs = [V.ref a] ∧ H a = some (.dK [(.inr "a", .int 1)]) ∧ Q (.str "{'a': 1}") H) := by
  intro pins s σ H xs us Q I r h
  obtain ⟨a, rfl, hd, q⟩ := h
  obtain ⟨u, rfl, ru⟩ := r.one
  cases (show u = Value.ref a from ru)
  have un := hr.un
  obtain ⟨_, hs, vs, kv, dd⟩ := dk_of I.hok hd
  cases kv with
  | @cons p1 q1 _ _ h1 h2 =>
    cases h2
    obtain ⟨qk, qv⟩ := q1
    obtain ⟨h1a, h1b⟩ := h1
    obtain rfl : (Sum.inr "a" : Key) = qk := h1a
    have h1b : RelV (V.int 1) qv := h1b
    obtain ⟨o, es, ep, ho, he, hdat, _, pr, _⟩ := dd
    obtain ⟨ek, ev, hes, hk, hv⟩ : ∃ (ek : DictEntry) (ev : Value), es.toList = [ek] ∧ (mixKind X.prog X.w).is (Sum.inr "a" : Key) ek.key = true ∧ ek.val = qv := by
      cases hp : es.toList with
      | nil => rw [hp] at pr; cases pr
      | cons x y =>
        rw [hp] at pr
        cases pr with
        | cons z1 z2 z3 =>
          cases z3
          exact ⟨x, qv, rfl, z1, z2⟩
    obtain ⟨t1, ek1⟩ := Value.isStrOf_shape (x := "a") (v := ek.key) hk
    obtain ⟨t2, ev2⟩ : ∃ t, qv = Value.int 1 t := h1b
    have rd : Reads s.heap (.ref a) (.dict [(.str "a", .int 1)]) (a :: ([] ++ []) ++ ([] ++ [])) := Reads.dict ho he.1 hdat
      (by rw [hes]; show ReadsAll _ [ek.key] [PyData.str "a"] _; rw [ek1]; exact .cons (.str _ _) .nil) (by rw [hes]; show ReadsAll _ [ek.val] [PyData.int 1] _; rw [hv, ev2]; exact .cons (.int _ _) .nil)
    refine repr_of_reads' rd (by decide +kernel) (fun _ hm => ?_) gd ?_ (fun _ _ z => z) (fun h' t tk hk => ?_) ?_
    · have : sysModules = a := by simpa using hm
      rw [this] at hs
      simp at hs
    · have : (PyData.dict [(.str "a", .int 1)]).depth ≤ 60 := by decide +kernel
      omega
    · rw [shown_d1]
      exact ⟨.str "{'a': 1}", H, I.kept (t' := tk) hk, ⟨t, rfl⟩, q⟩
    · rw [shown_d1, sizeLine_eq]
      decide +kernel
/-- what repr tells, of such a dict too -/
def ShownY (d : D) (r : Str) : Prop := Shown d r ∨ ∃ a, d = d1D "a" 1 a ∧ r = "{'a': 1}"
section
variable {X : Cx} {ρ : Rho} {e : Expr} {pos p : Pos} {k : D → Prop}
theorem xe_reprY (hm : X.mg "repr" = none) (gd : X.A.guards = some []) (hr : RoomU X.A) (h : XE X e ρ fun x => ∃ r, ShownY x r ∧ k (.str r)) (hg : Gl X "repr" := by rfl)
    (he : starEach (e :: []) X.env = (false, eval e X.env) :: starEach [] X.env := by rfl) : XE X (.Call (.Name "repr" p) [e] [] pos) ρ k :=
  impE (pe_callB (id := "repr") (r := fun xs H Q => (rReprA X.K xs H Q ∨ ∃ a, xs = [V.ref a] ∧ H a = some (.dK []) ∧ Q (.str "{}") H) ∨ ∃ a, xs = [V.ref a] ∧ H a = some (.dK [(.inr "a", .int 1)]) ∧ Q (.str "{'a': 1}") H)
      (fun pins s σ H xs us Q I r h => h.elim (fun h => h.elim (fun h => call_reprA gd hr pins s σ H xs us Q I r h) (fun h => call_reprE gd hr pins s σ H xs us Q I r h)) (fun h => call_repr1 gd hr pins s σ H xs us Q I r h)) hg hm (by decide +kernel) (pa_cons anyE pa_nil he) (by decide) (by decide) he rfl) fun σ H Q ⟨S, E, q⟩ => useE h E fun v H1 x e1 a1 ⟨r, hs, hk⟩ => by
    rcases hs with (⟨d, hd, ok, rfl⟩ | ⟨rfl, rfl⟩) | ⟨a, rfl, rfl⟩
    · exact .inl (.inl ⟨v, d, rfl, dp_of a1 hd, ok, q _ _ _ e1 (.str _) hk⟩)
    · cases a1 with
      | dct h => exact .inl (.inr ⟨_, rfl, hid_get h, q _ _ _ e1 (.str _) hk⟩)
    · obtain ⟨rfl, h1⟩ := tg_at a1
      exact .inr ⟨_, rfl, hid_get h1, q _ _ _ e1 (.str _) hk⟩
end
end VL

set_option Elab.async false
set_option linter.all false
set_option maxRecDepth 100000
set_option maxHeartbeats 4000000
set_option pp.maxSteps 300
namespace G
variable [VL.Tb]
open PySem L2 VL VM LamX
local macro_rules | `(tactic| mi_while ["vl var"] []) => `(tactic| first | refine xe_var 0 rfl ?_ | refine xe_var 1 rfl ?_ | refine xe_var 2 rfl ?_ | refine xe_var 3 rfl ?_ | refine xe_var 4 rfl ?_ | refine xe_var 5 rfl ?_ | refine xe_var 6 rfl ?_ | refine xe_var 7 rfl ?_ | refine xe_var 8 rfl ?_ | refine xe_var 9 rfl ?_ | refine xe_var 10 rfl ?_ | refine xe_var 11 rfl ?_ | refine xe_var 12 rfl ?_ | refine xe_var 13 rfl ?_ | refine xe_var 14 rfl ?_ | refine xe_var 15 rfl ?_ | refine xe_var 16 rfl ?_)
local macro_rules | `(tactic| mi_while ["vl exp"] []) => `(tactic| first
  | refine ⟨_, rfl, ?_⟩ | refine ⟨rfl, ?_⟩ | refine ⟨Nat.le_of_ble_eq_true rfl, ?_⟩
  | mi_while ["vl var"] []
  | refine xe_int ?_ | refine xe_str ?_ | refine xe_bl ?_ | refine xe_non ?_
  | refine xe_ixL (XN.rd (xn_lst ?_)) | (refine xe_ixT ?_; mi_while ["vl var"] []; refine ⟨_, rfl, ?_⟩) | (refine xe_ixL (XE.rd ?_); mi_while ["vl var"] []; refine ⟨_, rfl, ?_⟩) | refine xe_ixT ?_ | refine xe_add ?_ | refine xe_mul ?_ | refine xe_sub ?_ | refine xe_div ?_ | refine xe_mod ?_ | refine xe_neg ?_
  | refine ⟨mulSz (by assumption) (by assumption), ?_⟩ | refine ⟨divSz (by assumption) (by assumption), ?_⟩
  | refine xt_gt ?_ | refine xt_lt ?_ | refine xt_le ?_ | refine xt_ge ?_ | refine xe_gt ?_ | refine xe_lt ?_ | refine xe_le ?_ | refine xe_ge ?_
  | refine xe_if ?_ | refine xe_tup ?_ | refine xa_cons ?_ | refine xa_nil ?_
  | refine XN.data (xn_lst ?_) | refine xn_lst ?_
  | (refine' xe_call ?hF ?hR ?hA ?hN; (case hF => assumption); (case hR => assumption); (case hN => decide)))
local macro_rules | `(tactic| mi_while ["vl set"] []) => `(tactic| first | refine xb_cons (xs_set 0 ?_ (by assumption)) | refine xb_cons (xs_set 1 ?_ (by assumption)) | refine xb_cons (xs_set 2 ?_ (by assumption)) | refine xb_cons (xs_set 3 ?_ (by assumption)) | refine xb_cons (xs_set 4 ?_ (by assumption)) | refine xb_cons (xs_set 5 ?_ (by assumption)) | refine xb_cons (xs_set 6 ?_ (by assumption)) | refine xb_cons (xs_set 7 ?_ (by assumption)) | refine xb_cons (xs_set 8 ?_ (by assumption)) | refine xb_cons (xs_set 9 ?_ (by assumption)) | refine xb_cons (xs_set 10 ?_ (by assumption)) | refine xb_cons (xs_set 11 ?_ (by assumption)) | refine xb_cons (xs_set 12 ?_ (by assumption)))
local macro_rules | `(tactic| mi_while ["vl tg"] []) => `(tactic| first | refine xgs_nil ?_ | refine xgs_cons ?_ | refine xg_tup ?_ rfl | refine xg_lst ?_ rfl | refine xg_name 0 ?_ (by assumption) | refine xg_name 1 ?_ (by assumption) | refine xg_name 2 ?_ (by assumption) | refine xg_name 3 ?_ (by assumption) | refine xg_name 4 ?_ (by assumption) | refine xg_name 5 ?_ (by assumption) | refine xg_name 6 ?_ (by assumption) | refine xg_name 7 ?_ (by assumption) | refine xg_name 8 ?_ (by assumption) | refine xg_name 9 ?_ (by assumption) | refine xg_name 10 ?_ (by assumption) | refine xg_name 11 ?_ (by assumption) | refine xg_name 12 ?_ (by assumption))
local macro_rules | `(tactic| mi_while ["vl st"] []) => `(tactic| first
  | refine xb_cons (xs_ret ?_)
  | mi_while ["vl set"] []
  | mi_while ["vl tg"] []
  | refine xb_cons (xs_asg (tg := .Tuple _ _ _) ?_)
  | refine xb_nil ?_)
local macro_rules | `(tactic| mi_while ["vl"] []) => `(tactic| repeat (first | mi_while ["vl exp"] [] | mi_while ["vl st"] []))
/-! ## all errors, as values -/
def nms : List Str := ["InvalidText", "InvalidName", "InvalidIndex", "InvalidNumber", "InvalidPoint", "InvalidPlan", "InvalidWish", "NotView", "NotLot", "InvalidViews", "InvalidChanges", "InvalidWishes", "UnknownName", "InUse", "OtherFactor", "TooDeep", "TooFar", "NothingToUndo", "Broken"]
def gvn : List Str := ["InvalidText", "InvalidName", "InvalidIndex", "InvalidNumber", "InvalidPoint", "InvalidPlan", "InvalidWish", "NotView", "NotLot", "UnknownName", "OtherFactor", "TooDeep", "TooFar"]
def ixn : List Str := ["InvalidViews", "InvalidChanges", "InvalidWishes", "InUse", "Broken"]
def bns : List Str := ["WrongValue", "WrongName", "NotPossible"]
def btn : List Str := ["ValueError", "LookupError", "ArithmeticError"]
def bts : List String := ["ValueError", "LookupError", "ArithmeticError"]
def bas (i : Nat) : Nat := if i < 12 then 0 else if i < 14 then 1 else 2
structure E19 (P : Program) (w : World) (K : PySem.W.Frag) (mg : Str → Option Value) (base : Heap) (a : Str → Addr) : Prop where
  at_ : ∀ x ∈ nms, mg x = some (.ref (a x))
  bs : ∀ x ∈ bns, mg x = some (.ref (a x))
  bt : ∀ x ∈ btn, mg x = none
  er : ∀ x ∈ gvn, Er P w K mg base 1 x (a x) "given"
  ek : ∀ x ∈ gvn, ErK P w K mg base 1 x (a x) "given"
  ir : ∀ x ∈ ixn, Er P w K mg base 1 x (a x) "index"
  ik : ∀ x ∈ ixn, ErK P w K mg base 1 x (a x) "index"
  nt : ∃ B newId initId bmB, ExcBaseFacts B newId initId bmB ∧ PySem.W.excIn K (a "NothingToUndo") bmB newId = true ∧ PySem.W.keepIn K (.ref (a "NothingToUndo")) = true
  ec : ∀ x ∈ nms, ExcC K (a x)
  xf : ∀ x ∈ nms, XfC K (a x)
  ng : ∀ x ∈ gvn, PySem.W.findIn K (.ref (a x)) "given" = some none
  ni : ∀ x ∈ ixn, PySem.W.findIn K (.ref (a x)) "index" = some none
  kit : ∀ (i : Nat) (x : Str), nms[i]? = some x → ∀ (j : Nat) (y : Str), nms[j]? = some y → PySem.W.kitOne K (.ref (a x)) (.ref (a y)) = some (decide (j = i))
  kb : ∀ (i : Nat) (x : Str), nms[i]? = some x → ∀ (j : Nat) (y : Str), bns[j]? = some y → PySem.W.kitOne K (.ref (a x)) (.ref (a y)) = some (decide (j = bas i))
  kt : ∀ (i : Nat) (x : Str), nms[i]? = some x → ∀ (j : Nat) (y : String), bts[j]? = some y → PySem.W.kitOne K (.ref (a x)) (.type y) = some (decide (j = bas i))
/-- an error of the class x, made with th -/
def ErIs (K : PySem.W.Frag) (a : Str → Addr) (x : Str) (th e : D) : Prop := (x = "NothingToUndo" ∧ ∃ b, e = .tg (fun H => H b = some (ExO (.ref (a x)) b)) b) ∨ (x ∈ gvn ∧ ∃ b, e = .tg (ErV K (a x) "given" th b) b) ∨ (x ∈ ixn ∧ ∃ b, e = .tg (ErV K (a x) "index" th b) b)
theorem ErIs.is {K : PySem.W.Frag} {a : Str → Addr} {x : Str} {th e : D} (h : ErIs K a x th e) : IsE K (a x) e := by
  rcases h with ⟨_, b, rfl⟩ | ⟨_, b, rfl⟩ | ⟨_, b, rfl⟩
  · exact .inr ⟨b, rfl⟩
  · exact .inl ⟨_, _, b, rfl⟩
  · exact .inl ⟨_, _, b, rfl⟩
inductive ErL (K : PySem.W.Frag) (a : Str → Addr) (th : D) : List Str → List D → Prop
  | nil : ErL K a th [] []
  | cons {x : Str} {e : D} {xs : List Str} {es : List D} : ErIs K a x th e → ErL K a th xs es → ErL K a th (x :: xs) (e :: es)
theorem ErL.get {K : PySem.W.Frag} {a : Str → Addr} {th : D} : ∀ {xs : List Str} {es : List D} {i : Nat} {x : Str}, ErL K a th xs es → xs[i]? = some x → ∃ e, es[i]? = some e ∧ ErIs K a x th e
  | _, _, _, _, .nil, e => by simp at e
  | _, _, 0, _, .cons h _, e => by
    simp at e
    subst e
    exact ⟨_, rfl, h⟩
  | _, _, i + 1, x, .cons _ t, e => by
    obtain ⟨d, h1, h2⟩ := ErL.get (i := i) (x := x) t (by simpa using e)
    exact ⟨d, by simpa using h1, h2⟩
theorem n19 : ∀ i : Nat, i < 19 → ∃ x, nms[i]? = some x := fun i h => ⟨nms[i]'(by exact h), List.getElem?_eq_getElem _⟩
theorem mem19 {i : Nat} {x : Str} (h : nms[i]? = some x) : x ∈ nms := List.mem_of_getElem? h
theorem lt19 {i : Nat} {x : Str} (h : nms[i]? = some x) : i < 19 := (List.getElem?_eq_some_iff.mp h).1
def inB (i : Nat) : Bool := i == 9 || i == 10 || i == 11 || i == 13 || i == 18
theorem kind19 : ∀ i : Fin 19, (i.val = 17 → nms[i.val]? = some "NothingToUndo") ∧ (i.val ≠ 17 → (inB i.val = false ∧ ∃ x ∈ gvn, nms[i.val]? = some x) ∨ (inB i.val = true ∧ ∃ x ∈ ixn, nms[i.val]? = some x)) := by
  decide +kernel
theorem apart : (∀ x ∈ gvn, x ∉ ixn ∧ x ≠ "NothingToUndo") ∧ ∀ x ∈ ixn, x ≠ "NothingToUndo" := by decide +kernel
section
variable {X : Cx} {ρ : Rho} {k : D → Prop} {p p1 p2 pos : Pos} {a : Str → Addr}
theorem xe_s19 (B : Bt X.mg) (E : E19 X.prog X.w X.K X.mg X.base a) {i j : Nat} {x y en : Str} {d : D} (hx : nms[i]? = some x) (hd : IsE X.K (a x) d) (hy : nms[j]? = some y) (hr : ρ[0]? = some (.dat d)) (hk : k (.bl (decide (j = i)))) (hN : X.N[0]? = some en := by rfl) (hv : Vis X.env.scope en := by first | exact Or.inl rfl | exact Or.inr (Or.inl rfl) | exact Or.inr (Or.inr rfl))
    (h1 : (en == ("__debug__" : Str)) = false := by decide) (h2 : (en == ("__classdict__" : Str)) = false := by decide) (hg : Gl X "isinstance" := by rfl) (hgT : Gl X y := by rfl) (hdT : (y == ("__debug__" : Str)) = false := by decide)
    (he : starEach (.Name en p1 :: .Name y p2 :: []) X.env = (false, eval (.Name en p1) X.env) :: starEach [.Name y p2] X.env := by rfl) (he2 : starEach (.Name y p2 :: []) X.env = (false, eval (.Name y p2) X.env) :: starEach [] X.env := by rfl) (hpl : (backTo pos (starEach [.Name y p2] X.env)).any (·.1) = false := by rfl) :
    XE X (.Call (.Name "isinstance" p) [.Name en p1, .Name y p2] [] pos) ρ k :=
  xe_isV B.isi (E.at_ y (mem19 hy)) (xe_var 0 hr ⟨_, _, hd, E.ec x (mem19 hx), E.kit i x hx j y hy, hk⟩ hN hv h1 h2) hg hgT hdT he he2 hpl
theorem xe_b19 (B : Bt X.mg) (E : E19 X.prog X.w X.K X.mg X.base a) {i j : Nat} {x y en : Str} {d : D} (hx : nms[i]? = some x) (hd : IsE X.K (a x) d) (hy : bns[j]? = some y) (hr : ρ[0]? = some (.dat d)) (hk : k (.bl (decide (j = bas i)))) (hN : X.N[0]? = some en := by rfl) (hv : Vis X.env.scope en := by first | exact Or.inl rfl | exact Or.inr (Or.inl rfl) | exact Or.inr (Or.inr rfl))
    (h1 : (en == ("__debug__" : Str)) = false := by decide) (h2 : (en == ("__classdict__" : Str)) = false := by decide) (hg : Gl X "isinstance" := by rfl) (hgT : Gl X y := by rfl) (hdT : (y == ("__debug__" : Str)) = false := by decide)
    (he : starEach (.Name en p1 :: .Name y p2 :: []) X.env = (false, eval (.Name en p1) X.env) :: starEach [.Name y p2] X.env := by rfl) (he2 : starEach (.Name y p2 :: []) X.env = (false, eval (.Name y p2) X.env) :: starEach [] X.env := by rfl) (hpl : (backTo pos (starEach [.Name y p2] X.env)).any (·.1) = false := by rfl) :
    XE X (.Call (.Name "isinstance" p) [.Name en p1, .Name y p2] [] pos) ρ k :=
  xe_isV B.isi (E.bs y (List.mem_of_getElem? hy)) (xe_var 0 hr ⟨_, _, hd, E.ec x (mem19 hx), E.kb i x hx j y hy, hk⟩ hN hv h1 h2) hg hgT hdT he he2 hpl
theorem xe_t19 (B : Bt X.mg) (E : E19 X.prog X.w X.K X.mg X.base a) {i j : Nat} {x y en : Str} {tn : String} {d : D} (hx : nms[i]? = some x) (hd : IsE X.K (a x) d) (hy : btn[j]? = some y) (hy2 : bts[j]? = some tn) (hb : bootBuiltins y = some (.type tn)) (hr : ρ[0]? = some (.dat d)) (hk : k (.bl (decide (j = bas i)))) (hN : X.N[0]? = some en := by rfl) (hv : Vis X.env.scope en := by first | exact Or.inl rfl | exact Or.inr (Or.inl rfl) | exact Or.inr (Or.inr rfl))
    (h1 : (en == ("__debug__" : Str)) = false := by decide) (h2 : (en == ("__classdict__" : Str)) = false := by decide) (hg : Gl X "isinstance" := by rfl) (hgT : Gl X y := by rfl) (hnT : y ≠ "__name__" := by decide) (hdT : (y == ("__debug__" : Str)) = false := by decide)
    (he : starEach (.Name en p1 :: .Name y p2 :: []) X.env = (false, eval (.Name en p1) X.env) :: starEach [.Name y p2] X.env := by rfl) (he2 : starEach (.Name y p2 :: []) X.env = (false, eval (.Name y p2) X.env) :: starEach [] X.env := by rfl) (hpl : (backTo pos (starEach [.Name y p2] X.env)).any (·.1) = false := by rfl) :
    XE X (.Call (.Name "isinstance" p) [.Name en p1, .Name y p2] [] pos) ρ k :=
  xe_isVB B.isi (E.bt y (List.mem_of_getElem? hy)) hb (xe_var 0 hr ⟨_, _, hd, E.ec x (mem19 hx), E.kt i x hx j tn hy2, hk⟩ hN hv h1 h2) hg hgT hnT hdT he he2 hpl
end
section
variable {P : Program} {w : World} {K : PySem.W.Frag} {mg : Str → Option Value} {base : Heap} {f : Addr} {fd : FuncData} {a : Str → Addr}
def cSorts (K : PySem.W.Frag) (a : Str → Addr) : Con := fun ds k => ∃ (i : Nat) (x : Str) (d : D), nms[i]? = some x ∧ ds = [d] ∧ IsE K (a x) d ∧ k (.lst ((List.range 19).map fun j => .bl (decide (j = i))))
theorem sc__law_sorts : FnScope ["e", "found"] ["e"] (defScope (top 35)) := ⟨rfl, rfl, rfl, by decide +kernel, rfl, by decide +kernel, by decide +kernel⟩
theorem ok_sorts (F : Fun K "_law_sorts" "_law_sorts" (top 35) f fd) (B : Bt mg) (Ea : E19 P w K mg base a) : FnOk P w K mg base CX0 1 f fd ["e"] (spC K 1 (cSorts K a)) := by
  refine xdef F sc__law_sorts fun ds k hl hc cdv A outer s H E hr => ?_
  have nd := sc__law_sorts.nd
  obtain ⟨i, x, d, hx, rfl, hd, hk⟩ := hc
  refine xb_cons (xs_set 1 (XN.data (xn_lst (xa_cons (xe_s19 B Ea hx hd (j := 0) rfl rfl (xa_cons (xe_s19 B Ea hx hd (j := 1) rfl rfl (xa_cons (xe_s19 B Ea hx hd (j := 2) rfl rfl (xa_nil ⟨Nat.le_of_ble_eq_true rfl, ?_⟩))))))))) nd)
  refine xb_cons (xs_set 1 (XN.data (xn_catR (XE.rd (xe_var 1 rfl ⟨_, rfl, xn_lst (xa_cons (xe_s19 B Ea hx hd (j := 3) rfl rfl (xa_cons (xe_s19 B Ea hx hd (j := 4) rfl rfl (xa_cons (xe_s19 B Ea hx hd (j := 5) rfl rfl (xa_nil ⟨Nat.le_of_ble_eq_true rfl, Nat.le_of_ble_eq_true rfl, ?_⟩)))))))⟩)))) nd)
  refine xb_cons (xs_set 1 (XN.data (xn_catR (XE.rd (xe_var 1 rfl ⟨_, rfl, xn_lst (xa_cons (xe_s19 B Ea hx hd (j := 6) rfl rfl (xa_cons (xe_s19 B Ea hx hd (j := 7) rfl rfl (xa_cons (xe_s19 B Ea hx hd (j := 8) rfl rfl (xa_nil ⟨Nat.le_of_ble_eq_true rfl, Nat.le_of_ble_eq_true rfl, ?_⟩)))))))⟩)))) nd)
  refine xb_cons (xs_set 1 (XN.data (xn_catR (XE.rd (xe_var 1 rfl ⟨_, rfl, xn_lst (xa_cons (xe_s19 B Ea hx hd (j := 9) rfl rfl (xa_cons (xe_s19 B Ea hx hd (j := 10) rfl rfl (xa_cons (xe_s19 B Ea hx hd (j := 11) rfl rfl (xa_nil ⟨Nat.le_of_ble_eq_true rfl, Nat.le_of_ble_eq_true rfl, ?_⟩)))))))⟩)))) nd)
  refine xb_cons (xs_set 1 (XN.data (xn_catR (XE.rd (xe_var 1 rfl ⟨_, rfl, xn_lst (xa_cons (xe_s19 B Ea hx hd (j := 12) rfl rfl (xa_cons (xe_s19 B Ea hx hd (j := 13) rfl rfl (xa_cons (xe_s19 B Ea hx hd (j := 14) rfl rfl (xa_nil ⟨Nat.le_of_ble_eq_true rfl, Nat.le_of_ble_eq_true rfl, ?_⟩)))))))⟩)))) nd)
  refine xb_cons (xs_set 1 (XN.data (xn_catR (XE.rd (xe_var 1 rfl ⟨_, rfl, xn_lst (xa_cons (xe_s19 B Ea hx hd (j := 15) rfl rfl (xa_cons (xe_s19 B Ea hx hd (j := 16) rfl rfl (xa_cons (xe_s19 B Ea hx hd (j := 17) rfl rfl (xa_nil ⟨Nat.le_of_ble_eq_true rfl, Nat.le_of_ble_eq_true rfl, ?_⟩)))))))⟩)))) nd)
  exact xb_cons (xs_ret (XN.data (xn_catR (XE.rd (xe_var 1 rfl ⟨_, rfl, xn_lst (xa_cons (xe_s19 B Ea hx hd (j := 18) rfl rfl (xa_nil ⟨Nat.le_of_ble_eq_true rfl, Nat.le_of_ble_eq_true rfl, hk⟩)))⟩)))))
def cBases (K : PySem.W.Frag) (a : Str → Addr) : Con := fun ds k => ∃ (i : Nat) (x : Str) (d : D), nms[i]? = some x ∧ ds = [d] ∧ IsE K (a x) d ∧ k (.lst ([0, 1, 2, 0, 1, 2].map fun j => .bl (decide (j = bas i))))
theorem sc__law_bases : FnScope ["e", "found"] ["e"] (defScope (top 36)) := ⟨rfl, rfl, rfl, by decide +kernel, rfl, by decide +kernel, by decide +kernel⟩
theorem ok_bases (F : Fun K "_law_bases" "_law_bases" (top 36) f fd) (B : Bt mg) (Ea : E19 P w K mg base a) : FnOk P w K mg base CX0 1 f fd ["e"] (spC K 1 (cBases K a)) := by
  refine xdef F sc__law_bases fun ds k hl hc cdv A outer s H E hr => ?_
  have nd := sc__law_bases.nd
  obtain ⟨i, x, d, hx, rfl, hd, hk⟩ := hc
  refine xb_cons (xs_set 1 (XN.data (xn_lst (xa_cons (xe_b19 B Ea hx hd (j := 0) rfl rfl (xa_cons (xe_b19 B Ea hx hd (j := 1) rfl rfl (xa_cons (xe_b19 B Ea hx hd (j := 2) rfl rfl (xa_nil ⟨Nat.le_of_ble_eq_true rfl, ?_⟩))))))))) nd)
  exact xb_cons (xs_ret (XN.data (xn_catR (XE.rd (xe_var 1 rfl ⟨_, rfl, xn_lst (xa_cons (xe_t19 B Ea hx hd (j := 0) rfl rfl (by decide +kernel) rfl (xa_cons (xe_t19 B Ea hx hd (j := 1) rfl rfl (by decide +kernel) rfl (xa_cons (xe_t19 B Ea hx hd (j := 2) rfl rfl (by decide +kernel) rfl (xa_nil ⟨Nat.le_of_ble_eq_true rfl, Nat.le_of_ble_eq_true rfl, hk⟩)))))))⟩)))))
def cBuilt (K : PySem.W.Frag) (a : Str → Addr) : Con := fun ds k => ∃ d : D, ds = [d] ∧ ∀ L1 L2, ErL K a d nms L1 → ErL K a d nms L2 → k (.lst [.lst L1, .lst L2])
theorem sc__law_built : FnScope ["thing", "found", "some"] ["thing"] (defScope (top 37)) := ⟨rfl, rfl, rfl, by decide +kernel, rfl, by decide +kernel, by decide +kernel⟩
theorem ok_built (F : Fun K "_law_built" "_law_built" (top 37) f fd) (Ea : E19 P w K mg base a) : FnOk P w K mg base CX0 3 f fd ["thing"] (spC K 1 (cBuilt K a)) := by
  refine xdef F sc__law_built fun ds k hl hc cdv A outer s H E hr => ?_
  have nd := sc__law_built.nd
  obtain ⟨d, rfl, hk⟩ := hc
  obtain ⟨B, newId, initId, bmB, F0, q0, k0⟩ := Ea.nt
  have m0 : ("NothingToUndo" : Str) ∈ nms := by decide +kernel
  refine xb_cons (xs_set 1 (XN.data (xn_lst (xa_cons (xe_mkE (Ea.er "InvalidText" (by decide +kernel)) hr (xe_var 0 rfl (fun b0 => xa_cons (xe_mkE (Ea.er "InvalidName" (by decide +kernel)) hr (xe_var 0 rfl (fun b1 => xa_cons (xe_mkE (Ea.er "InvalidIndex" (by decide +kernel)) hr (xe_var 0 rfl (fun b2 => xa_cons (xe_mkE (Ea.er "InvalidNumber" (by decide +kernel)) hr (xe_var 0 rfl (fun b3 => xa_cons (xe_mkE (Ea.er "InvalidPoint" (by decide +kernel)) hr (xe_var 0 rfl (fun b4 => xa_nil ⟨Nat.le_of_ble_eq_true rfl, ?_⟩)))))))))))))))))) nd)
  refine xb_cons (xs_set 1 (XN.data (xn_catR (XE.rd (xe_var 1 rfl ⟨_, rfl, xn_lst (xa_cons (xe_mkE (Ea.er "InvalidPlan" (by decide +kernel)) hr (xe_var 0 rfl (fun b5 => xa_cons (xe_mkE (Ea.er "InvalidWish" (by decide +kernel)) hr (xe_var 0 rfl (fun b6 => xa_cons (xe_mkE (Ea.er "NotView" (by decide +kernel)) hr (xe_var 0 rfl (fun b7 => xa_cons (xe_mkE (Ea.er "NotLot" (by decide +kernel)) hr (xe_var 0 rfl (fun b8 => xa_cons (xe_mkE (Ea.ir "InvalidViews" (by decide +kernel)) hr (xe_var 0 rfl (fun b9 => xa_nil ⟨Nat.le_of_ble_eq_true rfl, Nat.le_of_ble_eq_true rfl, ?_⟩))))))))))))))))⟩)))) nd)
  refine xb_cons (xs_set 1 (XN.data (xn_catR (XE.rd (xe_var 1 rfl ⟨_, rfl, xn_lst (xa_cons (xe_mkE (Ea.ir "InvalidChanges" (by decide +kernel)) hr (xe_var 0 rfl (fun b10 => xa_cons (xe_mkE (Ea.ir "InvalidWishes" (by decide +kernel)) hr (xe_var 0 rfl (fun b11 => xa_cons (xe_mkE (Ea.er "UnknownName" (by decide +kernel)) hr (xe_var 0 rfl (fun b12 => xa_cons (xe_mkE (Ea.ir "InUse" (by decide +kernel)) hr (xe_var 0 rfl (fun b13 => xa_cons (xe_mkE (Ea.er "OtherFactor" (by decide +kernel)) hr (xe_var 0 rfl (fun b14 => xa_nil ⟨Nat.le_of_ble_eq_true rfl, Nat.le_of_ble_eq_true rfl, ?_⟩))))))))))))))))⟩)))) nd)
  refine xb_cons (xs_set 1 (XN.data (xn_catR (XE.rd (xe_var 1 rfl ⟨_, rfl, xn_lst (xa_cons (xe_mkE (Ea.er "TooDeep" (by decide +kernel)) hr (xe_var 0 rfl (fun b15 => xa_cons (xe_mkE (Ea.er "TooFar" (by decide +kernel)) hr (xe_var 0 rfl (fun b16 => xa_cons (xe_mkN F0 q0 (Ea.at_ "NothingToUndo" m0) k0 (fun b17 => xa_cons (xe_mkE (Ea.ir "Broken" (by decide +kernel)) hr (xe_var 0 rfl (fun b18 => xa_nil ⟨Nat.le_of_ble_eq_true rfl, Nat.le_of_ble_eq_true rfl, ?_⟩))))))))))))⟩)))) nd)
  refine xb_cons (xs_set 2 (XN.data (xn_lst (xa_cons (xe_mkEK (Ea.ek "InvalidText" (by decide +kernel)) hr (xk_cons (xe_var 0 rfl (xk_nil ⟨d, rfl, fun c0 => xa_cons (xe_mkEK (Ea.ek "InvalidName" (by decide +kernel)) hr (xk_cons (xe_var 0 rfl (xk_nil ⟨d, rfl, fun c1 => xa_cons (xe_mkEK (Ea.ek "InvalidIndex" (by decide +kernel)) hr (xk_cons (xe_var 0 rfl (xk_nil ⟨d, rfl, fun c2 => xa_cons (xe_mkEK (Ea.ek "InvalidNumber" (by decide +kernel)) hr (xk_cons (xe_var 0 rfl (xk_nil ⟨d, rfl, fun c3 => xa_nil ⟨Nat.le_of_ble_eq_true rfl, ?_⟩⟩))))⟩))))⟩))))⟩))))))) nd)
  refine xb_cons (xs_set 2 (XN.data (xn_catR (XE.rd (xe_var 2 rfl ⟨_, rfl, xn_lst (xa_cons (xe_mkEK (Ea.ek "InvalidPoint" (by decide +kernel)) hr (xk_cons (xe_var 0 rfl (xk_nil ⟨d, rfl, fun c4 => xa_cons (xe_mkEK (Ea.ek "InvalidPlan" (by decide +kernel)) hr (xk_cons (xe_var 0 rfl (xk_nil ⟨d, rfl, fun c5 => xa_cons (xe_mkEK (Ea.ek "InvalidWish" (by decide +kernel)) hr (xk_cons (xe_var 0 rfl (xk_nil ⟨d, rfl, fun c6 => xa_cons (xe_mkEK (Ea.ek "NotView" (by decide +kernel)) hr (xk_cons (xe_var 0 rfl (xk_nil ⟨d, rfl, fun c7 => xa_nil ⟨Nat.le_of_ble_eq_true rfl, Nat.le_of_ble_eq_true rfl, ?_⟩⟩))))⟩))))⟩))))⟩)))))⟩)))) nd)
  refine xb_cons (xs_set 2 (XN.data (xn_catR (XE.rd (xe_var 2 rfl ⟨_, rfl, xn_lst (xa_cons (xe_mkEK (Ea.ek "NotLot" (by decide +kernel)) hr (xk_cons (xe_var 0 rfl (xk_nil ⟨d, rfl, fun c8 => xa_cons (xe_mkEK (Ea.ik "InvalidViews" (by decide +kernel)) hr (xk_cons (xe_var 0 rfl (xk_nil ⟨d, rfl, fun c9 => xa_cons (xe_mkEK (Ea.ik "InvalidChanges" (by decide +kernel)) hr (xk_cons (xe_var 0 rfl (xk_nil ⟨d, rfl, fun c10 => xa_nil ⟨Nat.le_of_ble_eq_true rfl, Nat.le_of_ble_eq_true rfl, ?_⟩⟩))))⟩))))⟩)))))⟩)))) nd)
  refine xb_cons (xs_set 2 (XN.data (xn_catR (XE.rd (xe_var 2 rfl ⟨_, rfl, xn_lst (xa_cons (xe_mkEK (Ea.ik "InvalidWishes" (by decide +kernel)) hr (xk_cons (xe_var 0 rfl (xk_nil ⟨d, rfl, fun c11 => xa_cons (xe_mkEK (Ea.ek "UnknownName" (by decide +kernel)) hr (xk_cons (xe_var 0 rfl (xk_nil ⟨d, rfl, fun c12 => xa_cons (xe_mkEK (Ea.ik "InUse" (by decide +kernel)) hr (xk_cons (xe_var 0 rfl (xk_nil ⟨d, rfl, fun c13 => xa_cons (xe_mkEK (Ea.ek "OtherFactor" (by decide +kernel)) hr (xk_cons (xe_var 0 rfl (xk_nil ⟨d, rfl, fun c14 => xa_nil ⟨Nat.le_of_ble_eq_true rfl, Nat.le_of_ble_eq_true rfl, ?_⟩⟩))))⟩))))⟩))))⟩)))))⟩)))) nd)
  refine xb_cons (xs_ret (XN.data (xn_lst (xa_cons (xe_var 1 rfl (xa_cons (XN.data (xn_catR (XE.rd (xe_var 2 rfl ⟨_, rfl, xn_lst (xa_cons (xe_mkEK (Ea.ek "TooDeep" (by decide +kernel)) hr (xk_cons (xe_var 0 rfl (xk_nil ⟨d, rfl, fun c15 => xa_cons (xe_mkEK (Ea.ek "TooFar" (by decide +kernel)) hr (xk_cons (xe_var 0 rfl (xk_nil ⟨d, rfl, fun c16 => xa_cons (xe_mkN F0 q0 (Ea.at_ "NothingToUndo" m0) k0 (fun c17 => xa_cons (xe_mkEK (Ea.ik "Broken" (by decide +kernel)) hr (xk_cons (xe_var 0 rfl (xk_nil ⟨d, rfl, fun c18 => xa_nil ⟨Nat.le_of_ble_eq_true rfl, Nat.le_of_ble_eq_true rfl, ?_⟩⟩))))))⟩))))⟩)))))⟩))))))))))
  refine xa_nil ⟨Nat.le_of_ble_eq_true rfl, hk _ _ ?_ ?_⟩
  · exact .cons (.inr (.inl ⟨by decide +kernel, _, rfl⟩)) (.cons (.inr (.inl ⟨by decide +kernel, _, rfl⟩)) (.cons (.inr (.inl ⟨by decide +kernel, _, rfl⟩)) (.cons (.inr (.inl ⟨by decide +kernel, _, rfl⟩)) (.cons (.inr (.inl ⟨by decide +kernel, _, rfl⟩)) (.cons (.inr (.inl ⟨by decide +kernel, _, rfl⟩)) (.cons (.inr (.inl ⟨by decide +kernel, _, rfl⟩)) (.cons (.inr (.inl ⟨by decide +kernel, _, rfl⟩)) (.cons (.inr (.inl ⟨by decide +kernel, _, rfl⟩)) (.cons (.inr (.inr ⟨by decide +kernel, _, rfl⟩)) (.cons (.inr (.inr ⟨by decide +kernel, _, rfl⟩)) (.cons (.inr (.inr ⟨by decide +kernel, _, rfl⟩)) (.cons (.inr (.inl ⟨by decide +kernel, _, rfl⟩)) (.cons (.inr (.inr ⟨by decide +kernel, _, rfl⟩)) (.cons (.inr (.inl ⟨by decide +kernel, _, rfl⟩)) (.cons (.inr (.inl ⟨by decide +kernel, _, rfl⟩)) (.cons (.inr (.inl ⟨by decide +kernel, _, rfl⟩)) (.cons (.inl ⟨rfl, _, rfl⟩) (.cons (.inr (.inr ⟨by decide +kernel, _, rfl⟩)) (.nil)))))))))))))))))))
  · exact .cons (.inr (.inl ⟨by decide +kernel, _, rfl⟩)) (.cons (.inr (.inl ⟨by decide +kernel, _, rfl⟩)) (.cons (.inr (.inl ⟨by decide +kernel, _, rfl⟩)) (.cons (.inr (.inl ⟨by decide +kernel, _, rfl⟩)) (.cons (.inr (.inl ⟨by decide +kernel, _, rfl⟩)) (.cons (.inr (.inl ⟨by decide +kernel, _, rfl⟩)) (.cons (.inr (.inl ⟨by decide +kernel, _, rfl⟩)) (.cons (.inr (.inl ⟨by decide +kernel, _, rfl⟩)) (.cons (.inr (.inl ⟨by decide +kernel, _, rfl⟩)) (.cons (.inr (.inr ⟨by decide +kernel, _, rfl⟩)) (.cons (.inr (.inr ⟨by decide +kernel, _, rfl⟩)) (.cons (.inr (.inr ⟨by decide +kernel, _, rfl⟩)) (.cons (.inr (.inl ⟨by decide +kernel, _, rfl⟩)) (.cons (.inr (.inr ⟨by decide +kernel, _, rfl⟩)) (.cons (.inr (.inl ⟨by decide +kernel, _, rfl⟩)) (.cons (.inr (.inl ⟨by decide +kernel, _, rfl⟩)) (.cons (.inr (.inl ⟨by decide +kernel, _, rfl⟩)) (.cons (.inl ⟨rfl, _, rfl⟩) (.cons (.inr (.inr ⟨by decide +kernel, _, rfl⟩)) (.nil)))))))))))))))))))
end
end G

set_option Elab.async false
set_option linter.all false
set_option maxRecDepth 100000
set_option maxHeartbeats 4000000
set_option pp.maxSteps 300
namespace G
variable [VL.Tb]
open PySem L2 VL VM LamX
local macro_rules | `(tactic| mi_while ["vl var"] []) => `(tactic| first | refine xe_var 0 rfl ?_ | refine xe_var 1 rfl ?_ | refine xe_var 2 rfl ?_ | refine xe_var 3 rfl ?_ | refine xe_var 4 rfl ?_ | refine xe_var 5 rfl ?_ | refine xe_var 6 rfl ?_ | refine xe_var 7 rfl ?_ | refine xe_var 8 rfl ?_ | refine xe_var 9 rfl ?_ | refine xe_var 10 rfl ?_ | refine xe_var 11 rfl ?_ | refine xe_var 12 rfl ?_ | refine xe_var 13 rfl ?_ | refine xe_var 14 rfl ?_ | refine xe_var 15 rfl ?_ | refine xe_var 16 rfl ?_)
local macro_rules | `(tactic| mi_while ["vl exp"] []) => `(tactic| first
  | refine ⟨_, rfl, ?_⟩ | refine ⟨rfl, ?_⟩ | refine ⟨Nat.le_of_ble_eq_true rfl, ?_⟩
  | mi_while ["vl var"] []
  | refine xe_int ?_ | refine xe_str ?_ | refine xe_bl ?_ | refine xe_non ?_
  | refine xe_ixL (XN.rd (xn_lst ?_)) | (refine xe_ixT ?_; mi_while ["vl var"] []; refine ⟨_, rfl, ?_⟩) | (refine xe_ixL (XE.rd ?_); mi_while ["vl var"] []; refine ⟨_, rfl, ?_⟩) | refine xe_ixT ?_ | refine xe_add ?_ | refine xe_mul ?_ | refine xe_sub ?_ | refine xe_div ?_ | refine xe_mod ?_ | refine xe_neg ?_
  | refine ⟨mulSz (by assumption) (by assumption), ?_⟩ | refine ⟨divSz (by assumption) (by assumption), ?_⟩
  | refine xt_gt ?_ | refine xt_lt ?_ | refine xt_le ?_ | refine xt_ge ?_ | refine xe_gt ?_ | refine xe_lt ?_ | refine xe_le ?_ | refine xe_ge ?_
  | refine xe_if ?_ | refine xe_tup ?_ | refine xa_cons ?_ | refine xa_nil ?_
  | refine XN.data (xn_lst ?_) | refine xn_lst ?_
  | (refine' xe_call ?hF ?hR ?hA ?hN; (case hF => assumption); (case hR => assumption); (case hN => decide)))
local macro_rules | `(tactic| mi_while ["vl set"] []) => `(tactic| first | refine xb_cons (xs_set 0 ?_ (by assumption)) | refine xb_cons (xs_set 1 ?_ (by assumption)) | refine xb_cons (xs_set 2 ?_ (by assumption)) | refine xb_cons (xs_set 3 ?_ (by assumption)) | refine xb_cons (xs_set 4 ?_ (by assumption)) | refine xb_cons (xs_set 5 ?_ (by assumption)) | refine xb_cons (xs_set 6 ?_ (by assumption)) | refine xb_cons (xs_set 7 ?_ (by assumption)) | refine xb_cons (xs_set 8 ?_ (by assumption)) | refine xb_cons (xs_set 9 ?_ (by assumption)) | refine xb_cons (xs_set 10 ?_ (by assumption)) | refine xb_cons (xs_set 11 ?_ (by assumption)) | refine xb_cons (xs_set 12 ?_ (by assumption)))
local macro_rules | `(tactic| mi_while ["vl tg"] []) => `(tactic| first | refine xgs_nil ?_ | refine xgs_cons ?_ | refine xg_tup ?_ rfl | refine xg_lst ?_ rfl | refine xg_name 0 ?_ (by assumption) | refine xg_name 1 ?_ (by assumption) | refine xg_name 2 ?_ (by assumption) | refine xg_name 3 ?_ (by assumption) | refine xg_name 4 ?_ (by assumption) | refine xg_name 5 ?_ (by assumption) | refine xg_name 6 ?_ (by assumption) | refine xg_name 7 ?_ (by assumption) | refine xg_name 8 ?_ (by assumption) | refine xg_name 9 ?_ (by assumption) | refine xg_name 10 ?_ (by assumption) | refine xg_name 11 ?_ (by assumption) | refine xg_name 12 ?_ (by assumption))
local macro_rules | `(tactic| mi_while ["vl st"] []) => `(tactic| first
  | refine xb_cons (xs_ret ?_)
  | mi_while ["vl set"] []
  | mi_while ["vl tg"] []
  | refine xb_cons (xs_asg (tg := .Tuple _ _ _) ?_)
  | refine xb_nil ?_)
local macro_rules | `(tactic| mi_while ["vl"] []) => `(tactic| repeat (first | mi_while ["vl exp"] [] | mi_while ["vl st"] []))
def menuD (b : Addr) : List D := [.non, .bl true, .int 0, .int (-7), .int (10 ^ 30), .str "", .str "a b", .tup [], .tup [.int 1, .str "x"], .lst [], .lst [.non], .dct, d1D "a" 1 b, .tup [.str "b", .str "a"], .bl false]
theorem shy {d : D} {y : PyData} (h : pyD d = some y) (h1 : y.showable = true := by decide +kernel) (h2 : y.hasDict = false := by decide +kernel) (h3 : y.depth ≤ 60 := by decide +kernel) (h4 : lenB y ≤ 16777216 := by decide +kernel) : ∃ r, ShownY d r := ⟨_, .inl (.inl ⟨y, h, ⟨h1, h2, h3, h4⟩, rfl⟩)⟩
theorem menu_shown (b : Addr) : ∀ d ∈ menuD b, ∃ r, ShownY d r := by
  intro d hd
  simp only [menuD, List.mem_cons, List.not_mem_nil, or_false] at hd
  rcases hd with rfl | rfl | rfl | rfl | rfl | rfl | rfl | rfl | rfl | rfl | rfl | rfl | rfl | rfl | rfl
  · exact shy (y := .none) rfl
  · exact shy (y := .bool true) rfl
  · exact shy (y := .int 0) rfl
  · exact shy (y := .int (-7)) rfl
  · exact shy (y := .int (10 ^ 30)) rfl
  · exact shy (y := .str "") rfl
  · exact shy (y := .str "a b") rfl
  · exact shy (y := .tuple []) rfl
  · exact shy (y := .tuple [.int 1, .str "x"]) rfl
  · exact shy (y := .list []) rfl
  · exact shy (y := .list [.none]) rfl
  · exact ⟨_, .inl (.inr ⟨rfl, rfl⟩)⟩
  · exact ⟨_, .inr ⟨b, rfl, rfl⟩⟩
  · exact shy (y := .tuple [.str "b", .str "a"]) rfl
  · exact shy (y := .bool false) rfl
theorem in_ix : ∀ i : Nat, i < 19 → InL (.int i) (.lst [.int 9, .int 10, .int 11, .int 13, .int 18]) (inB i) := by
  intro i h
  have : i = 0 ∨ i = 1 ∨ i = 2 ∨ i = 3 ∨ i = 4 ∨ i = 5 ∨ i = 6 ∨ i = 7 ∨ i = 8 ∨ i = 9 ∨ i = 10 ∨ i = 11 ∨ i = 12 ∨ i = 13 ∨ i = 14 ∨ i = 15 ∨ i = 16 ∨ i = 17 ∨ i = 18 := by omega
  rcases this with rfl | rfl | rfl | rfl | rfl | rfl | rfl | rfl | rfl | rfl | rfl | rfl | rfl | rfl | rfl | rfl | rfl | rfl | rfl <;>
    exact ⟨_, [.int 9, .int 10, .int 11, .int 13, .int 18], rfl, rfl, by decide +kernel, by decide +kernel, by decide +kernel⟩
theorem eq_sorts : ∀ i : Nat, i < 19 → EqD (.lst ((List.range 19).map fun j => .bl (decide (j = i)))) (.lst ((List.range 19).map fun (j : Nat) => D.bl (decide ((j : Int) = (i : Int))))) true := by
  intro i h
  have : i = 0 ∨ i = 1 ∨ i = 2 ∨ i = 3 ∨ i = 4 ∨ i = 5 ∨ i = 6 ∨ i = 7 ∨ i = 8 ∨ i = 9 ∨ i = 10 ∨ i = 11 ∨ i = 12 ∨ i = 13 ∨ i = 14 ∨ i = 15 ∨ i = 16 ∨ i = 17 ∨ i = 18 := by omega
  rcases this with rfl | rfl | rfl | rfl | rfl | rfl | rfl | rfl | rfl | rfl | rfl | rfl | rfl | rfl | rfl | rfl | rfl | rfl | rfl <;>
    exact ⟨_, _, rfl, rfl, by decide +kernel, by decide +kernel, by decide +kernel⟩
theorem eq_bases : ∀ i : Nat, i < 19 → EqD (.lst ([0, 1, 2, 0, 1, 2].map fun j => .bl (decide (j = bas i)))) (.lst (List.replicate (2 : Int).toNat ((List.range 3).map fun (j : Nat) => D.bl (decide ((j : Int) = (bas i : Int))))).flatten) true := by
  intro i h
  have : i = 0 ∨ i = 1 ∨ i = 2 ∨ i = 3 ∨ i = 4 ∨ i = 5 ∨ i = 6 ∨ i = 7 ∨ i = 8 ∨ i = 9 ∨ i = 10 ∨ i = 11 ∨ i = 12 ∨ i = 13 ∨ i = 14 ∨ i = 15 ∨ i = 16 ∨ i = 17 ∨ i = 18 := by omega
  rcases this with rfl | rfl | rfl | rfl | rfl | rfl | rfl | rfl | rfl | rfl | rfl | rfl | rfl | rfl | rfl | rfl | rfl | rfl | rfl <;>
    exact ⟨_, _, rfl, rfl, by decide +kernel, by decide +kernel, by decide +kernel⟩
section
variable {P : Program} {w : World} {K : PySem.W.Frag} {mg : Str → Option Value} {base : Heap} {f : Addr} {fd : FuncData} {a : Str → Addr}
def cKept (K : PySem.W.Frag) (a : Str → Addr) : Con := fun ds k => ∃ (i : Nat) (x : Str) (th e : D), nms[i]? = some x ∧ ds = [e, .int i] ∧ ErIs K a x th e ∧ k (if i = 17 then .non else th)
theorem sc__law_kept : FnScope ["e", "at"] ["e", "at"] (defScope (top 38)) := ⟨rfl, rfl, rfl, by decide +kernel, rfl, by decide +kernel, by decide +kernel⟩
theorem ok_kept (F : Fun K "_law_kept" "_law_kept" (top 38) f fd) (Ea : E19 P w K mg base a) : FnOk P w K mg base CX0 1 f fd ["e", "at"] (spC K 2 (cKept K a)) := by
  refine xdef F sc__law_kept fun ds k hl hc cdv A outer s H E hr => ?_
  have nd := sc__law_kept.nd
  obtain ⟨i, x, th, e, hx, rfl, he, hk⟩ := hc
  have h19 := lt19 hx
  refine xb_cons (xs_if (xt_eq (xe_var 1 rfl (xe_int ⟨rfl, ?_⟩))))
  by_cases q : i = 17
  · rw [if_pos q] at hk
    rw [show sameD (.int i) (.int 17) = true from decide_eq_true (by omega)]
    exact iteT (xb_cons (xs_ret (xe_non hk)))
  · rw [if_neg q] at hk
    rw [show sameD (.int i) (.int 17) = false from decide_eq_false (by omega)]
    refine iteF (xb_nil ?_)
    refine xb_cons (xs_ret (xe_if (xt_inL hr (xe_var 1 rfl (XN.data (xn_lst (xa_cons (xe_int (xa_cons (xe_int (xa_cons (xe_int (xa_cons (xe_int (xa_cons (xe_int (xa_nil ⟨Nat.le_of_ble_eq_true rfl, inB i, in_ix i h19, ?_⟩)))))))))))))))))
    obtain ⟨_, h⟩ := kind19 ⟨i, h19⟩
    rcases h q with ⟨b, y, hy, e1⟩ | ⟨b, y, hy, e1⟩
    · have e2 : x = y := Option.some.inj (hx.symm.trans e1)
      subst e2
      have b : inB i = false := b
      rw [b]
      refine iteF ?_
      rcases he with ⟨rfl, _⟩ | ⟨_, b', rfl⟩ | ⟨z, _⟩
      · exact absurd rfl (apart.1 _ hy).2
      · exact xe_fldV (Ea.xf x (mem19 hx)) (Ea.ng x hy) (xe_var 0 rfl ⟨_, _, rfl, hk⟩)
      · exact absurd z (apart.1 _ hy).1
    · have e2 : x = y := Option.some.inj (hx.symm.trans e1)
      subst e2
      have b : inB i = true := b
      rw [b]
      refine iteT ?_
      rcases he with ⟨rfl, _⟩ | ⟨z, _⟩ | ⟨_, b', rfl⟩
      · exact absurd rfl (apart.2 _ hy)
      · exact absurd hy (apart.1 _ z).1
      · exact xe_fldV (Ea.xf x (mem19 hx)) (Ea.ni x hy) (xe_var 0 rfl ⟨_, _, rfl, hk⟩)
def cRight : Con := fun ds k => ds = [.tok] ∧ k (.bl true)
theorem bas_if (i : Nat) : (if i < 12 then (0 : Int) else if i < 14 then 1 else 2) = (bas i : Int) := by
  unfold bas
  split
  · rfl
  · split <;> rfl
theorem sc__law_right : FnScope ["cask", "again", "menu", "thing", "some", "at", "base", "k"] ["cask"] (defScope (top 39)) := ⟨rfl, rfl, rfl, by decide +kernel, rfl, by decide +kernel, by decide +kernel⟩
theorem ok_right (F : Fun K "_law_right" "_law_right" (top 39) f fd) (B : Bt mg) (hrp : mg "repr" = none) (Hd : Fn P w K mg base 1 "_law_draw" ["cask", "many"] cDraw) (Hs : Fn P w K mg base 1 "_law_sorts" ["e"] (cSorts K a)) (Hb : Fn P w K mg base 1 "_law_bases" ["e"] (cBases K a)) (Hm : Fn P w K mg base 3 "_law_built" ["thing"] (cBuilt K a)) (Hk : Fn P w K mg base 1 "_law_kept" ["e", "at"] (cKept K a)) : FnG P w K mg base 4 f fd ["cask"] (spC K 1 cRight) := by
  refine xdefG F sc__law_right fun ds k hl hc cdv A outer s H E gd hr => ?_
  have nd := sc__law_right.nd
  obtain ⟨rfl, hk⟩ := hc
  have ru : RoomU (A.deeper (PyProof.Rows.envOfC "_law_right" (defScope (top 39)) s.heap.objs.size f cdv)) := roomU hr
  refine xb_cons (xs_forR 1 (xe_int ⟨3, rfl, by decide, fun _ ρ => ∃ z1 z2 z3 z4 z5 z6, ρ = [.dat .tok, z1, z2, z3, z4, z5, z6, .un], ⟨_, _, _, _, _, _, rfl⟩, ?_, ?_⟩) B.range nd)
  · rintro m0 ρ hm0 ⟨z1, z2, z3, z4, z5, z6, rfl⟩
    refine xb_cons (xs_set 2 (XN.data (xn_lst (xa_cons (xe_non (xa_cons (xe_bl (xa_cons (xe_int (xa_cons (xe_neg (xe_int ⟨7, rfl, ?_⟩))))))))))) nd)
    refine xa_cons (xe_pow (xe_int ⟨10, rfl, xe_int ⟨30, rfl, ⟨by decide, by decide, by decide⟩, ?_⟩⟩))
    refine xa_cons (xe_str (xa_cons (xe_str (xa_cons (xe_tup (xa_nil ⟨Nat.le_of_ble_eq_true rfl, ?_⟩))))))
    refine xa_cons (xe_tup (xa_cons (xe_int (xa_cons (xe_str (xa_nil ⟨Nat.le_of_ble_eq_true rfl, ?_⟩))))))
    refine xa_cons (XN.data (xn_lst (xa_nil ⟨Nat.le_of_ble_eq_true rfl, ?_⟩)))
    refine xa_cons (XN.data (xn_lst (xa_cons (xe_non (xa_nil ⟨Nat.le_of_ble_eq_true rfl, ?_⟩)))))
    refine xa_cons (xe_dct (xa_cons (xe_dc1 fun b1 => ?_)))
    refine xa_cons (xe_tup (xa_cons (xe_str (xa_cons (xe_str (xa_nil ⟨Nat.le_of_ble_eq_true rfl, ?_⟩))))))
    refine xa_cons (xe_bl (xa_nil ⟨Nat.le_of_ble_eq_true rfl, ?_⟩))
    show VL.XB _ _ [_, _, .dat (.lst (menuD b1)), _, _, _, _, _] _
    refine xb_cons (xs_set 3 (xe_ixL (XE.rd (xe_var 2 rfl ⟨_, rfl, xe_call Hd hr (xa_cons (xe_var 0 rfl (xa_cons (xe_int (xa_nil ⟨rfl, 15, rfl, by decide, by decide, fun r r1 r2 => ⟨r, rfl, ?_⟩⟩)))))⟩))) nd)
    obtain ⟨n, rfl⟩ : ∃ n : Nat, r = n := ⟨r.toNat, by omega⟩
    have hn : n < (menuD b1).length := by
      have : (menuD b1).length = 15 := rfl
      omega
    refine ⟨(menuD b1)[n], atT (List.getElem?_eq_getElem hn), ?_⟩
    obtain ⟨rr, hsh⟩ := menu_shown b1 _ (List.getElem_mem hn)
    generalize (menuD b1)[n] = th at hsh
    refine xb_cons (xs_forL 4 (xe_call Hm hr (xa_cons (xe_var 3 rfl (xa_nil ⟨rfl, th, rfl, fun L1 L2 h1 h2 => ⟨_, rfl, fun _ ρ => ∃ z4 z5 z6, ρ = [.dat .tok, .dat (.int m0), .dat (.lst (menuD b1)), .dat th, z4, z5, z6, .un], ⟨_, _, _, rfl⟩, ?_, ?_⟩⟩)))) nd)
    · rintro m1 d ρ hd ⟨z4, z5, z6, rfl⟩
      obtain ⟨L, rfl, hL⟩ : ∃ L, d = .lst L ∧ ErL K a th nms L := by
        match m1, hd with
        | 0, hd => exact ⟨L1, (Option.some.inj hd).symm, h1⟩
        | 1, hd => exact ⟨L2, (Option.some.inj hd).symm, h2⟩
      refine xb_cons (xs_forR 5 (xe_int ⟨19, rfl, by decide, fun _ ρ => ∃ z5 z6, ρ = [.dat .tok, .dat (.int m0), .dat (.lst (menuD b1)), .dat th, .dat (.lst L), z5, z6, .un], ⟨_, _, rfl⟩, ?_, ?_⟩) B.range nd)
      · rintro i ρ hi ⟨z5, z6, rfl⟩
        have hi9 : i < 19 := by omega
        obtain ⟨x, hx⟩ := n19 i hi9
        obtain ⟨e, he, hE⟩ := hL.get hx
        refine xb_cons (xs_set 6 (XE.imp (k := fun d => d = .int (bas i)) (xe_if (xt_lt (xe_var 5 rfl ⟨i, rfl, xe_int ⟨12, rfl, ?_⟩⟩))) ?_) nd)
        · by_cases q : i < 12
          · rw [decide_eq_true (by omega)]
            exact iteT (xe_int (by unfold bas; rw [if_pos q]; rfl))
          · rw [decide_eq_false (by omega)]
            refine iteF (xe_if (xt_lt (xe_var 5 rfl ⟨i, rfl, xe_int ⟨14, rfl, ?_⟩⟩)))
            by_cases q2 : i < 14
            · rw [decide_eq_true (by omega)]
              exact iteT (xe_int (by unfold bas; rw [if_neg q, if_pos q2]; rfl))
            · rw [decide_eq_false (by omega)]
              exact iteF (xe_int (by unfold bas; rw [if_neg q, if_neg q2]; rfl))
        rintro _ rfl
        refine xb_cons (xs_if (xt_neDU ru (xe_call Hs hr (xa_cons (xe_ixL (XE.rd (xe_var 4 rfl ⟨_, rfl, xe_var 5 rfl ⟨i, rfl, e, atT he, xa_nil ⟨rfl, i, x, e, hx, rfl, hE.is, ?_⟩⟩⟩)))))))
        refine XN.data (xn_lcR 7 (n := 19) (W := fun m acc => acc = (List.range m).map fun (j : Nat) => D.bl (decide ((j : Int) = (i : Int)))) (xe_int ⟨rfl, by decide, rfl, fun acc hacc => ⟨true, by rw [hacc]; exact eq_sorts i hi9, iteF (xb_nil ?_)⟩⟩) ?_ B.range nd)
        rotate_left
        · intro s2 H2 C2 cl fp m acc hm hacc
          refine xe_eq ?_
          mi_while ["vl var"] []
          mi_while ["vl var"] []
          refine ⟨rfl, ?_⟩
          have hl : acc.length = m := by rw [hacc, List.length_map, List.length_range]
          refine ⟨by omega, ?_⟩
          rw [hacc, List.range_succ, List.map_append]
          rfl
        refine xb_cons (xs_if (xt_neDU ru (xe_call Hb hr (xa_cons (xe_ixL (XE.rd (xe_var 4 rfl ⟨_, rfl, xe_var 5 rfl ⟨i, rfl, e, atT he, xa_nil ⟨rfl, i, x, e, hx, rfl, hE.is, ?_⟩⟩⟩)))))))
        refine XN.data (xn_rep (xn_lcR 7 (n := 3) (W := fun m acc => acc = (List.range m).map fun (j : Nat) => D.bl (decide ((j : Int) = (bas i : Int)))) (xe_int ⟨rfl, by decide, rfl, fun acc hacc => ?_⟩) ?_ B.range nd))
        rotate_left
        · intro s2 H2 C2 cl fp m acc hm hacc
          refine xe_eq ?_
          mi_while ["vl var"] []
          mi_while ["vl var"] []
          refine ⟨rfl, ?_⟩
          have hl : acc.length = m := by rw [hacc, List.length_map, List.length_range]
          refine ⟨by omega, ?_⟩
          rw [hacc, List.range_succ, List.map_append]
          rfl
        have hl : acc.length = 3 := by rw [hacc]; rfl
        refine xe_int ⟨2, rfl, by decide, by rw [hl]; decide, true, by rw [hacc]; exact eq_bases i hi9, iteF (xb_nil ?_)⟩
        obtain ⟨r0, hs0⟩ : ∃ r0, ShownY (if i = 17 then .non else th) r0 := by
          split
          · exact shy (y := .none) rfl
          · exact ⟨rr, hsh⟩
        refine xb_cons (xs_if (xt_ne (xe_reprY hrp gd ru (xe_call Hk hr (xa_cons (xe_ixL (XE.rd (xe_var 4 rfl ⟨_, rfl, xe_var 5 rfl ⟨i, rfl, e, atT he, xa_cons (xe_var 5 rfl (xa_nil ⟨rfl, i, x, th, e, hx, rfl, hE, r0, hs0, ?_⟩))⟩⟩))))))))
        refine xe_reprY hrp gd ru (XE.imp (k := fun d => d = if i = 17 then .non else th) (xe_if (xt_eq (xe_var 5 rfl (xe_int ⟨rfl, ?_⟩)))) ?_)
        · by_cases q : i = 17
          · rw [show sameD (.int i) (.int 17) = true from decide_eq_true (by omega)]
            exact iteT (xe_non (by rw [if_pos q]))
          · rw [show sameD (.int i) (.int 17) = false from decide_eq_false (by omega)]
            exact iteF (xe_var 3 rfl (by rw [if_neg q]))
        rintro _ rfl
        refine ⟨r0, hs0, rfl, ?_⟩
        rw [show sameD (.str r0) (.str r0) = true from decide_eq_true rfl]
        exact iteF (xb_nil (xb_nil ⟨_, _, rfl⟩))
      · rintro ρ ⟨z5, z6, rfl⟩
        exact xb_nil ⟨_, _, _, rfl⟩
    · rintro ρ ⟨z4, z5, z6, rfl⟩
      exact xb_nil ⟨_, _, _, _, _, _, rfl⟩
  · rintro ρ ⟨z1, z2, z3, z4, z5, z6, rfl⟩
    exact xb_cons (xs_ret (xe_bl hk))
end
end G

set_option Elab.async false
set_option linter.all false
set_option maxRecDepth 100000
set_option maxHeartbeats 4000000
set_option pp.maxSteps 300
namespace G
variable [VL.Tb]
open PySem L2 VL VM LamX
local macro_rules | `(tactic| mi_while ["vl var"] []) => `(tactic| first | refine xe_var 0 rfl ?_ | refine xe_var 1 rfl ?_ | refine xe_var 2 rfl ?_ | refine xe_var 3 rfl ?_ | refine xe_var 4 rfl ?_ | refine xe_var 5 rfl ?_ | refine xe_var 6 rfl ?_ | refine xe_var 7 rfl ?_ | refine xe_var 8 rfl ?_ | refine xe_var 9 rfl ?_ | refine xe_var 10 rfl ?_ | refine xe_var 11 rfl ?_ | refine xe_var 12 rfl ?_ | refine xe_var 13 rfl ?_ | refine xe_var 14 rfl ?_ | refine xe_var 15 rfl ?_ | refine xe_var 16 rfl ?_)
local macro_rules | `(tactic| mi_while ["vl exp"] []) => `(tactic| first
  | refine ⟨_, rfl, ?_⟩ | refine ⟨rfl, ?_⟩ | refine ⟨Nat.le_of_ble_eq_true rfl, ?_⟩
  | mi_while ["vl var"] []
  | refine xe_int ?_ | refine xe_str ?_ | refine xe_bl ?_ | refine xe_non ?_
  | refine xe_ixL (XN.rd (xn_lst ?_)) | (refine xe_ixT ?_; mi_while ["vl var"] []; refine ⟨_, rfl, ?_⟩) | (refine xe_ixL (XE.rd ?_); mi_while ["vl var"] []; refine ⟨_, rfl, ?_⟩) | refine xe_ixT ?_ | refine xe_add ?_ | refine xe_mul ?_ | refine xe_sub ?_ | refine xe_div ?_ | refine xe_mod ?_ | refine xe_neg ?_
  | refine ⟨mulSz (by assumption) (by assumption), ?_⟩ | refine ⟨divSz (by assumption) (by assumption), ?_⟩
  | refine xt_gt ?_ | refine xt_lt ?_ | refine xt_le ?_ | refine xt_ge ?_ | refine xe_gt ?_ | refine xe_lt ?_ | refine xe_le ?_ | refine xe_ge ?_
  | refine xe_if ?_ | refine xe_tup ?_ | refine xa_cons ?_ | refine xa_nil ?_
  | refine XN.data (xn_lst ?_) | refine xn_lst ?_
  | (refine' xe_call ?hF ?hR ?hA ?hN; (case hF => assumption); (case hR => assumption); (case hN => decide)))
local macro_rules | `(tactic| mi_while ["vl set"] []) => `(tactic| first | refine xb_cons (xs_set 0 ?_ (by assumption)) | refine xb_cons (xs_set 1 ?_ (by assumption)) | refine xb_cons (xs_set 2 ?_ (by assumption)) | refine xb_cons (xs_set 3 ?_ (by assumption)) | refine xb_cons (xs_set 4 ?_ (by assumption)) | refine xb_cons (xs_set 5 ?_ (by assumption)) | refine xb_cons (xs_set 6 ?_ (by assumption)) | refine xb_cons (xs_set 7 ?_ (by assumption)) | refine xb_cons (xs_set 8 ?_ (by assumption)) | refine xb_cons (xs_set 9 ?_ (by assumption)) | refine xb_cons (xs_set 10 ?_ (by assumption)) | refine xb_cons (xs_set 11 ?_ (by assumption)) | refine xb_cons (xs_set 12 ?_ (by assumption)))
local macro_rules | `(tactic| mi_while ["vl tg"] []) => `(tactic| first | refine xgs_nil ?_ | refine xgs_cons ?_ | refine xg_tup ?_ rfl | refine xg_lst ?_ rfl | refine xg_name 0 ?_ (by assumption) | refine xg_name 1 ?_ (by assumption) | refine xg_name 2 ?_ (by assumption) | refine xg_name 3 ?_ (by assumption) | refine xg_name 4 ?_ (by assumption) | refine xg_name 5 ?_ (by assumption) | refine xg_name 6 ?_ (by assumption) | refine xg_name 7 ?_ (by assumption) | refine xg_name 8 ?_ (by assumption) | refine xg_name 9 ?_ (by assumption) | refine xg_name 10 ?_ (by assumption) | refine xg_name 11 ?_ (by assumption) | refine xg_name 12 ?_ (by assumption))
local macro_rules | `(tactic| mi_while ["vl st"] []) => `(tactic| first
  | refine xb_cons (xs_ret ?_)
  | mi_while ["vl set"] []
  | mi_while ["vl tg"] []
  | refine xb_cons (xs_asg (tg := .Tuple _ _ _) ?_)
  | refine xb_nil ?_)
local macro_rules | `(tactic| mi_while ["vl"] []) => `(tactic| repeat (first | mi_while ["vl exp"] [] | mi_while ["vl st"] []))
/-- the limits -/
structure Lims (mg : Str → Option Value) : Prop where
  l1 : ∃ t, mg "MOST_FACTOR" = some (.int 10 t)
  l2 : ∃ t, mg "MOST_ZOOM" = some (.int 400 t)
  l3 : ∃ t, mg "MOST_VIEWS" = some (.int 4 t)
  l4 : ∃ t, mg "MOST_STEP" = some (.int 4 t)
  l5 : ∃ t, mg "MOST_PLACE" = some (.int 100 t)
  l6 : ∃ t, mg "NEAR_ZOOM" = some (.int 8 t)
  l7 : ∃ t, mg "NEAR_PLACE" = some (.int 1000 t)
  l8 : ∃ t, mg "MOST_DEPTH" = some (.int 5 t)
  l9 : ∃ t, mg "MOST_CHANGES" = some (.int 6 t)
section
variable {P : Program} {w : World} {K : PySem.W.Frag} {mg : Str → Option Value} {base : Heap} {f : Addr} {fd : FuncData}
def cLaw : Con := fun ds k => ∃ ns : List Int, ds = [.lst (ns.map .int)] ∧ ns.length ≤ 1000 ∧ k (.bl true)
theorem xe_lim {X : Cx} {ρ : Rho} {k : D → Prop} {x : Str} {i : Int} {pos : Pos} (h : ∃ t, X.mg x = some (.int i t)) (hk : k (.int i)) (hg : Gl X x := by rfl) (hdb : (x == ("__debug__" : Str)) = false := by decide) : XE X (.Name x pos) ρ k := by
  obtain ⟨t, h⟩ := h
  exact xe_glob h (v := .int i) ⟨t, rfl⟩ (fun _ => .int i) hk hg hdb
theorem lim_shown : ShownY (.lst [.int 10, .int 400, .int 4, .int 4, .int 100, .int 8, .int 1000, .int 5, .int 6]) (PyData.list [.int 10, .int 400, .int 4, .int 4, .int 100, .int 8, .int 1000, .int 5, .int 6]).shown :=
  .inl (.inl ⟨_, rfl, ⟨by decide +kernel, by decide +kernel, by decide +kernel, by decide +kernel⟩, rfl⟩)
theorem sc_law : FnScope ["script", "limits_here", "at"] ["script"] (defScope (top 40)) := ⟨rfl, rfl, rfl, by decide +kernel, rfl, by decide +kernel, by decide +kernel⟩
theorem ok_law (F : Fun K "law" "law" (top 40) f fd) (B : Bt mg) (hrp : mg "repr" = none) (Li : Lims mg) (Hq : Fg P w K mg base 4 "_law_right" ["cask"] cRight) (Hk : Fn P w K mg base 1 "_law_cask" ["script", "at"] cCask) : FnG P w K mg base 5 f fd ["script"] (spC K 1 cLaw) := by
  refine xdefG F sc_law fun ds k hl hc cdv A outer s H E gd hr => ?_
  have nd := sc_law.nd
  obtain ⟨ns, rfl, hns, hk⟩ := hc
  have ru : RoomU (A.deeper (PyProof.Rows.envOfC "law" (defScope (top 40)) s.heap.objs.size f cdv)) := roomU hr
  refine xb_cons (xs_set 1 (XN.data (xn_lst (xa_cons (xe_lim Li.l1 (xa_cons (xe_lim Li.l2 (xa_cons (xe_lim Li.l3 (xa_cons (xe_lim Li.l4 (xa_cons (xe_lim Li.l5 (xa_cons (xe_lim Li.l6 (xa_cons (xe_lim Li.l7 (xa_cons (xe_lim Li.l8 (xa_nil ⟨Nat.le_of_ble_eq_true rfl, ?_⟩))))))))))))))))))) nd)
  refine xb_cons (xs_if (xt_ne (xe_reprY hrp gd ru (XN.data (xn_catR (XE.rd (xe_var 1 rfl ⟨_, rfl, xn_lst (xa_cons (xe_lim Li.l9 (xa_nil ⟨Nat.le_of_ble_eq_true rfl, Nat.le_of_ble_eq_true rfl, _, lim_shown, ?_⟩)))⟩)))))))
  refine xe_reprY hrp gd ru (XN.data (xn_lst (xa_cons (xe_int (xa_cons (xe_int (xa_cons (xe_int (xa_cons (xe_int (xa_cons (xe_int (xa_cons (xe_int (xa_cons (xe_int (xa_cons (xe_int (xa_cons (xe_int (xa_nil ⟨Nat.le_of_ble_eq_true rfl, _, lim_shown, rfl, ?_⟩)))))))))))))))))))))
  rw [show ∀ r : Str, sameD (.str r) (.str r) = true from fun r => decide_eq_true rfl]
  refine iteF (xb_nil ?_)
  refine xb_cons (xs_ret (xe_all rfl B.all (XN.rd (xn_lcR 2 (n := if (if (4 : Int) < (ns.length : Int) then 4 else (ns.length : Int)) > 2 then (if (4 : Int) < (ns.length : Int) then 4 else (ns.length : Int)) else 2) (W := fun m acc => acc = List.replicate m (D.bl true)) ?_ ?_ B.range nd))))
  · refine xe_max rfl B.max (xe_int ⟨_, rfl, xe_min rfl B.min (xe_lenL B.len (XE.rd ?_))⟩)
    mi_while ["vl var"] []
    refine ⟨_, rfl, _, rfl, xe_int ⟨_, rfl, _, rfl, ?_⟩⟩
    rw [List.length_map]
    refine ⟨rfl, ?_, rfl, fun acc hacc => ⟨List.replicate acc.length true, ?_, ?_⟩⟩
    · constructor <;> (repeat' split) <;> omega
    · rw [List.map_replicate, hacc, List.length_replicate]
    · have e : ((List.replicate acc.length true).all id) = true := by simp
      rw [e]
      exact hk
  · intro s2 H2 C2 cl fp m acc hm hacc
    have hm9 : m < 100000 := by
      revert hm
      (repeat' split) <;> omega
    refine xe_callG Hq gd hr (xa_cons (xe_call Hk hr (xa_cons ?_)))
    mi_while ["vl var"] []
    refine xa_cons ?_
    mi_while ["vl var"] []
    refine xa_nil ⟨rfl, ns, m, rfl, hns, xa_nil ⟨rfl, rfl, ?_⟩⟩
    refine ⟨by rw [hacc, List.length_replicate]; exact hm9, ?_⟩
    rw [hacc, List.replicate_succ']
end
end G

set_option Elab.async false
set_option linter.all false
set_option maxRecDepth 100000
set_option maxHeartbeats 4000000
namespace G
variable [VL.Tb]
open PySem L2 VL VM LamX
/-! ## what the head tells of the errors -/
def errB3 (K : PySem.W.Frag) (C : Addr) : Bool := errB K C || errB0 K C "LookupError.__new__" [.type "LookupError", .type "Exception", .type "BaseException", .type "object"]
theorem errB3_ok {K : PySem.W.Frag} {C : Addr} (h : errB3 K C = true) : ErrC K C := by
  rcases Bool.or_eq_true_iff.mp h with h | h
  · exact errB_ok h
  · exact ⟨_, _, _, _, errB0_ok F.excBase_LookupError F.store_LookupError h⟩
theorem bn {a b : Bool} (h : (a && b) = true) : a = true ∧ b = true := Bool.and_eq_true_iff.mp h
def oneB (K : PySem.W.Frag) (C : Addr) (f : Str) : Bool := errB3 K C && (decide (PySem.W.takerIn K C f = some none) && (He.eqO (PySem.W.findIn K (.ref C) "__init__") (some (some (.ref (He.ma K C "__init__")))) && (decide (PySem.W.typeIn K (.ref (He.ma K C "__init__")) = some (.type "function")) && decide (PySem.W.findIn K (.ref C) f = some none))))
structure One (K : PySem.W.Frag) (C : Addr) (f : Str) : Prop where
  cls : ErrC K C
  tk : PySem.W.takerIn K C f = some none
  ini : PySem.W.findIn K (.ref C) "__init__" = some (some (.ref (He.ma K C "__init__")))
  ty : PySem.W.typeIn K (.ref (He.ma K C "__init__")) = some (.type "function")
  no : PySem.W.findIn K (.ref C) f = some none
theorem oneB_ok {K : PySem.W.Frag} {C : Addr} {f : Str} (h : oneB K C f = true) : One K C f := by
  obtain ⟨h1, h⟩ := bn h
  obtain ⟨h2, h⟩ := bn h
  obtain ⟨h3, h⟩ := bn h
  obtain ⟨h4, h5⟩ := bn h
  exact ⟨errB3_ok h1, of_decide_eq_true h2, He.eqO_ok h3, of_decide_eq_true h4, of_decide_eq_true h5⟩
def excB (K : PySem.W.Frag) (D : Addr) : Bool := decide (PySem.W.findIn K (.ref D) "__getattribute__" = some (some (.builtin "BaseException.__getattribute__"))) && (decide (PySem.W.findIn K (.ref D) "__getattr__" = some none) && (decide (PySem.W.subIn K (.ref D) (.type "BaseException") = some true) && (PySem.W.hasDictIn K D &&
  (decide (PySem.W.findIn K (.ref D) "__class__" = some (some (.builtin "object.__class__"))) && (decide (PySem.W.specialIn K (.builtin "object.__class__") "__get__" = some (some (.builtin "getset_descriptor.__get__"))) && (decide (PySem.W.takesIn K (.builtin "object.__class__") = some true) && decide (PySem.W.mroIn K D (.type "object") = some true)))))))
theorem excB_ok {K : PySem.W.Frag} {D : Addr} (h : excB K D = true) : ExcC K D := by
  obtain ⟨h1, h⟩ := bn h
  obtain ⟨h2, h⟩ := bn h
  obtain ⟨h3, h⟩ := bn h
  obtain ⟨h4, h⟩ := bn h
  obtain ⟨h5, h⟩ := bn h
  obtain ⟨h6, h⟩ := bn h
  obtain ⟨h7, h8⟩ := bn h
  exact ⟨of_decide_eq_true h1, of_decide_eq_true h2, of_decide_eq_true h3, h4, of_decide_eq_true h5, of_decide_eq_true h6, of_decide_eq_true h7, of_decide_eq_true h8⟩
def pairsB (K : PySem.W.Frag) (cs : List (Addr × Nat)) (vs : List (Value × Nat)) (g : Nat → Nat) : Bool := cs.all fun p => vs.all fun q => decide (PySem.W.kitOne K (.ref p.1) q.1 = some (decide (q.2 = g p.2)))
def e19B (K : PySem.W.Frag) : Bool := gvn.all (fun x => oneB K (He.ga K x) "given") && (ixn.all (fun x => oneB K (He.ga K x) "index") && (nms.all (fun x => excB K (He.ga K x) && xfB K (He.ga K x)) &&
  ((PySem.W.excIn K (He.ga K "NothingToUndo") [.type "ArithmeticError", .type "Exception", .type "BaseException", .type "object"] "ArithmeticError.__new__" && PySem.W.keepIn K (.ref (He.ga K "NothingToUndo"))) &&
  (pairsB K (nms.map (He.ga K)).zipIdx ((nms.map (He.ga K)).map Value.ref).zipIdx id && (pairsB K (nms.map (He.ga K)).zipIdx ((bns.map (He.ga K)).map Value.ref).zipIdx bas && pairsB K (nms.map (He.ga K)).zipIdx (bts.map Value.type).zipIdx bas)))))
theorem pairsB_ok {K : PySem.W.Frag} {cs : List Addr} {vs : List Value} {g : Nat → Nat} (h : pairsB K cs.zipIdx vs.zipIdx g = true) {i j : Nat} {c : Addr} {v : Value} (hc : cs[i]? = some c) (hv : vs[j]? = some v) : PySem.W.kitOne K (.ref c) v = some (decide (j = g i)) := by
  have m1 : (c, i) ∈ cs.zipIdx := List.mk_mem_zipIdx_iff_getElem?.mpr hc
  have m2 : (v, j) ∈ vs.zipIdx := List.mk_mem_zipIdx_iff_getElem?.mpr hv
  exact of_decide_eq_true (List.all_eq_true.mp (List.all_eq_true.mp h _ m1) _ m2)
end G

set_option Elab.async false
set_option linter.all false
set_option maxRecDepth 100000
set_option maxHeartbeats 0
namespace G
variable [VL.Tb]
open PySem L2 VL VM
/-! ## the head: what stands behind the top -/
def prG (K : PySem.W.Frag) (C : Addr) (f : Str) : Addr := match PySem.W.recIn K (He.ma K C f) "property" with
  | some (.ref g :: _) => g
  | _ => 0
def d_InvalidText___init__ : He5.DefA := ⟨fun K => He.ma K (He.ga K "InvalidText") "__init__", "__init__", "InvalidText.__init__", defArgs (meth 2 0), defBody (meth 2 0), defScope (meth 2 0), [], []⟩
def d_InvalidName___init__ : He5.DefA := ⟨fun K => He.ma K (He.ga K "InvalidName") "__init__", "__init__", "InvalidName.__init__", defArgs (meth 3 0), defBody (meth 3 0), defScope (meth 3 0), [], []⟩
def d_InvalidIndex___init__ : He5.DefA := ⟨fun K => He.ma K (He.ga K "InvalidIndex") "__init__", "__init__", "InvalidIndex.__init__", defArgs (meth 4 0), defBody (meth 4 0), defScope (meth 4 0), [], []⟩
def d_InvalidNumber___init__ : He5.DefA := ⟨fun K => He.ma K (He.ga K "InvalidNumber") "__init__", "__init__", "InvalidNumber.__init__", defArgs (meth 5 0), defBody (meth 5 0), defScope (meth 5 0), [], []⟩
def d_InvalidPoint___init__ : He5.DefA := ⟨fun K => He.ma K (He.ga K "InvalidPoint") "__init__", "__init__", "InvalidPoint.__init__", defArgs (meth 6 0), defBody (meth 6 0), defScope (meth 6 0), [], []⟩
def d_InvalidPlan___init__ : He5.DefA := ⟨fun K => He.ma K (He.ga K "InvalidPlan") "__init__", "__init__", "InvalidPlan.__init__", defArgs (meth 7 0), defBody (meth 7 0), defScope (meth 7 0), [], []⟩
def d_InvalidWish___init__ : He5.DefA := ⟨fun K => He.ma K (He.ga K "InvalidWish") "__init__", "__init__", "InvalidWish.__init__", defArgs (meth 8 0), defBody (meth 8 0), defScope (meth 8 0), [], []⟩
def d_NotView___init__ : He5.DefA := ⟨fun K => He.ma K (He.ga K "NotView") "__init__", "__init__", "NotView.__init__", defArgs (meth 9 0), defBody (meth 9 0), defScope (meth 9 0), [], []⟩
def d_NotLot___init__ : He5.DefA := ⟨fun K => He.ma K (He.ga K "NotLot") "__init__", "__init__", "NotLot.__init__", defArgs (meth 10 0), defBody (meth 10 0), defScope (meth 10 0), [], []⟩
def d_InvalidViews___init__ : He5.DefA := ⟨fun K => He.ma K (He.ga K "InvalidViews") "__init__", "__init__", "InvalidViews.__init__", defArgs (meth 11 0), defBody (meth 11 0), defScope (meth 11 0), [], []⟩
def d_InvalidChanges___init__ : He5.DefA := ⟨fun K => He.ma K (He.ga K "InvalidChanges") "__init__", "__init__", "InvalidChanges.__init__", defArgs (meth 12 0), defBody (meth 12 0), defScope (meth 12 0), [], []⟩
def d_InvalidWishes___init__ : He5.DefA := ⟨fun K => He.ma K (He.ga K "InvalidWishes") "__init__", "__init__", "InvalidWishes.__init__", defArgs (meth 13 0), defBody (meth 13 0), defScope (meth 13 0), [], []⟩
def d_UnknownName___init__ : He5.DefA := ⟨fun K => He.ma K (He.ga K "UnknownName") "__init__", "__init__", "UnknownName.__init__", defArgs (meth 15 0), defBody (meth 15 0), defScope (meth 15 0), [], []⟩
def d_InUse___init__ : He5.DefA := ⟨fun K => He.ma K (He.ga K "InUse") "__init__", "__init__", "InUse.__init__", defArgs (meth 16 0), defBody (meth 16 0), defScope (meth 16 0), [], []⟩
def d_OtherFactor___init__ : He5.DefA := ⟨fun K => He.ma K (He.ga K "OtherFactor") "__init__", "__init__", "OtherFactor.__init__", defArgs (meth 18 0), defBody (meth 18 0), defScope (meth 18 0), [], []⟩
def d_TooDeep___init__ : He5.DefA := ⟨fun K => He.ma K (He.ga K "TooDeep") "__init__", "__init__", "TooDeep.__init__", defArgs (meth 19 0), defBody (meth 19 0), defScope (meth 19 0), [], []⟩
def d_TooFar___init__ : He5.DefA := ⟨fun K => He.ma K (He.ga K "TooFar") "__init__", "__init__", "TooFar.__init__", defArgs (meth 20 0), defBody (meth 20 0), defScope (meth 20 0), [], []⟩
def d_Broken___init__ : He5.DefA := ⟨fun K => He.ma K (He.ga K "Broken") "__init__", "__init__", "Broken.__init__", defArgs (meth 22 0), defBody (meth 22 0), defScope (meth 22 0), [], []⟩
def d__law_cask : He5.DefA := ⟨fun K => He.ga K "_law_cask", "_law_cask", "_law_cask", defArgs (top 33), defBody (top 33), defScope (top 33), [], []⟩
def d__law_draw : He5.DefA := ⟨fun K => He.ga K "_law_draw", "_law_draw", "_law_draw", defArgs (top 34), defBody (top 34), defScope (top 34), [], []⟩
def d__law_sorts : He5.DefA := ⟨fun K => He.ga K "_law_sorts", "_law_sorts", "_law_sorts", defArgs (top 35), defBody (top 35), defScope (top 35), [], []⟩
def d__law_bases : He5.DefA := ⟨fun K => He.ga K "_law_bases", "_law_bases", "_law_bases", defArgs (top 36), defBody (top 36), defScope (top 36), [], []⟩
def d__law_built : He5.DefA := ⟨fun K => He.ga K "_law_built", "_law_built", "_law_built", defArgs (top 37), defBody (top 37), defScope (top 37), [], []⟩
def d__law_kept : He5.DefA := ⟨fun K => He.ga K "_law_kept", "_law_kept", "_law_kept", defArgs (top 38), defBody (top 38), defScope (top 38), [], []⟩
def d__law_right : He5.DefA := ⟨fun K => He.ga K "_law_right", "_law_right", "_law_right", defArgs (top 39), defBody (top 39), defScope (top 39), [], []⟩
def d_law : He5.DefA := ⟨fun K => He.ga K "law", "law", "law", defArgs (top 40), defBody (top 40), defScope (top 40), [], []⟩
def fn0 : List He5.DefA := [d_InvalidText___init__, d_InvalidName___init__, d_InvalidIndex___init__, d_InvalidNumber___init__, d_InvalidPoint___init__, d_InvalidPlan___init__, d_InvalidWish___init__, d_NotView___init__, d_NotLot___init__, d_InvalidViews___init__, d_InvalidChanges___init__, d_InvalidWishes___init__, d_UnknownName___init__, d_InUse___init__, d_OtherFactor___init__, d_TooDeep___init__, d_TooFar___init__, d_Broken___init__, d__law_cask, d__law_draw, d__law_sorts, d__law_bases, d__law_built, d__law_kept, d__law_right, d_law]
def fn : List He5.DefA := fn0
def fa0 : List He.Fa := [.glo "_law_cask", .glo "_law_draw", .glo "_law_sorts", .glo "_law_bases", .glo "_law_built", .glo "_law_kept", .glo "_law_right", .glo "law", .glo "WrongValue", .glo "InvalidText", .glo "InvalidName", .glo "InvalidIndex", .glo "InvalidNumber", .glo "InvalidPoint", .glo "InvalidPlan", .glo "InvalidWish", .glo "NotView", .glo "NotLot", .glo "InvalidViews", .glo "InvalidChanges", .glo "InvalidWishes", .glo "WrongName", .glo "UnknownName", .glo "InUse", .glo "NotPossible", .glo "OtherFactor", .glo "TooDeep", .glo "TooFar", .glo "NothingToUndo", .glo "Broken"]
def fa1 : List He.Fa := [.free "repr", .free "ValueError", .free "LookupError", .free "ArithmeticError", .free "isinstance", .free "int", .free "bool", .free "tuple", .free "str", .free "len", .free "abs", .free "all", .free "range", .free "max", .free "min", .free "divmod", .int "MOST_FACTOR" 10, .int "MOST_ZOOM" 400, .int "MOST_VIEWS" 4, .int "MOST_STEP" 4, .int "MOST_PLACE" 100, .int "NEAR_ZOOM" 8, .int "NEAR_PLACE" 1000, .int "MOST_DEPTH" 5, .int "MOST_CHANGES" 6]
def fa : List He.Fa := fa0 ++ fa1
def loose0 : List PySem.Str := ["__name__", "WrongValue", "InvalidText", "InvalidName", "InvalidIndex", "InvalidNumber", "InvalidPoint", "InvalidPlan", "InvalidWish", "NotView", "NotLot", "InvalidViews", "InvalidChanges", "InvalidWishes", "WrongName", "UnknownName", "InUse", "NotPossible", "OtherFactor", "TooDeep", "TooFar", "NothingToUndo", "Broken", "MOST_FACTOR", "MOST_ZOOM", "MOST_VIEWS", "MOST_STEP", "MOST_PLACE", "NEAR_ZOOM", "NEAR_PLACE"]
def loose1 : List PySem.Str := ["MOST_DEPTH", "MOST_CHANGES", "_law_cask", "_law_draw", "_law_sorts", "_law_bases", "_law_built", "_law_kept", "_law_right"]
def loose : List PySem.Str := loose0 ++ loose1
theorem ba {a b : Bool} (h : (a && b) = true) : a = true ∧ b = true := Bool.and_eq_true_iff.mp h
def sclsB (K : PySem.W.Frag) (C : Addr) : Bool := PySem.W.plainGet K C Str.empty && (PySem.W.isClsIn K C && (PySem.W.plainOver K C && He.eqO (PySem.W.findIn K (.ref C) "__setattr__") (some (some (.builtin "object.__setattr__")))))
theorem sclsB_ok {K : PySem.W.Frag} {C : Addr} (h : sclsB K C = true) : SlX.SCls K C := by
  obtain ⟨h1, h⟩ := ba h
  obtain ⟨h2, h⟩ := ba h
  obtain ⟨h3, h4⟩ := ba h
  exact ⟨h1, h2, h3, He.eqO_ok h4⟩
def sisiB (K : PySem.W.Frag) (C : Addr) : Bool := He.eqO (PySem.W.findIn K (.ref C) "__class__") (some (some (.builtin "object.__class__"))) && (He.eqO (PySem.W.specialIn K (.builtin "object.__class__") "__get__") (some (some (.builtin "getset_descriptor.__get__"))) &&
  (decide (PySem.W.takesIn K (.builtin "object.__class__") = some true) && decide (PySem.W.mroIn K C (.type "object") = some true)))
theorem sisiB_ok {K : PySem.W.Frag} {C : Addr} (h : sisiB K C = true) : SlX.SIsi K C := by
  obtain ⟨h1, h⟩ := ba h
  obtain ⟨h2, h⟩ := ba h
  obtain ⟨h3, h4⟩ := ba h
  exact ⟨He.eqO_ok h1, He.eqO_ok h2, of_decide_eq_true h3, of_decide_eq_true h4⟩
def slotB (K : PySem.W.Frag) (C : Addr) (f : Str) (i : Nat) : Bool := He.eqO (PySem.W.findIn K (.ref C) f) (some (some (.ref (He.ma K C f)))) && (He.eqO (PySem.W.specialIn K (.ref (He.ma K C f)) "__get__") (some (some (.builtin "member_descriptor.__get__"))) &&
  (decide (PySem.W.takesIn K (.ref (He.ma K C f)) = some true) && (decide (PySem.W.typeIn K (.ref (He.ma K C f)) = some (.type "member_descriptor")) && decide (PySem.W.slotIn K (He.ma K C f) C = some i))))
theorem slotB_ok {K : PySem.W.Frag} {C : Addr} {f : Str} {i : Nat} (h : slotB K C f i = true) (hi : i < 1000) : ∃ p, SlX.Slot1 K C f p i := by
  obtain ⟨h1, h⟩ := ba h
  obtain ⟨h2, h⟩ := ba h
  obtain ⟨h3, h⟩ := ba h
  obtain ⟨h4, h5⟩ := ba h
  exact ⟨_, He.eqO_ok h1, He.eqO_ok h2, of_decide_eq_true h3, of_decide_eq_true h4, of_decide_eq_true h5, hi⟩
def propB (K : PySem.W.Frag) (C : Addr) (f : Str) : Bool := He.eqO (PySem.W.findIn K (.ref C) f) (some (some (.ref (He.ma K C f)))) && (He.eqO (PySem.W.specialIn K (.ref (He.ma K C f)) "__get__") (some (some (.builtin "property.__get__"))) &&
  (decide (PySem.W.takesIn K (.ref (He.ma K C f)) = some true) && (match PySem.W.recIn K (He.ma K C f) "property" with
    | some (.ref _ :: _) => true
    | _ => false)))
theorem propB_ok {K : PySem.W.Frag} {C : Addr} {f : Str} (h : propB K C f = true) : PropAt K C f (He.ma K C f) (prG K C f) := by
  obtain ⟨h1, h⟩ := ba h
  obtain ⟨h2, h⟩ := ba h
  obtain ⟨h3, h4⟩ := ba h
  refine ⟨He.eqO_ok h1, He.eqO_ok h2, of_decide_eq_true h3, ?_⟩
  unfold prG
  split at h4
  · rename_i g r e
    exact ⟨r, by rw [e]⟩
  · cases h4
def eqB (K : PySem.W.Frag) (C : Addr) : Bool := He.eqO (PySem.W.findIn K (.ref C) "__eq__") (some (some (.ref (He.ma K C "__eq__")))) && (PySem.W.isFn K (.ref (He.ma K C "__eq__")) && (He.eqO (PySem.W.findIn K (.ref C) "__ne__") (some (some (.builtin "object.__ne__"))) &&
  (PySem.W.notFirst K C (.ref C) && decide (PySem.W.mroIn K C (.type "object") = some true))))
theorem eqB_ok {K : PySem.W.Frag} {C : Addr} (h : eqB K C = true) : EqAt K C (He.ma K C "__eq__") := by
  obtain ⟨h1, h⟩ := ba h
  obtain ⟨h2, h⟩ := ba h
  obtain ⟨h3, h⟩ := ba h
  obtain ⟨h4, h5⟩ := ba h
  exact ⟨He.eqO_ok h1, h2, He.eqO_ok h3, h4, of_decide_eq_true h5⟩
def strB (K : PySem.W.Frag) (C : Addr) : Bool := He.eqO (PySem.W.findIn K (.ref C) "__str__") (some (some (.ref (He.ma K C "__str__")))) && PySem.W.isFn K (.ref (He.ma K C "__str__"))
def exB (K : PySem.W.Frag) : Bool := e19B K
/-! the Hook -/
theorem says_app {fa : List He.Fa} {l1 l2 : List He5.DefA} {K : PySem.W.Frag} (h : He5.SaysA fa l1 K) (g : He5.SaysA [] l2 K) : He5.SaysA fa (l1 ++ l2) K := by
  have h1 := congrArg (fun z : He.AlD => z.1) h
  have h2 := congrArg (fun z : He.AlD => z.2) h
  have g1 := congrArg (fun z : He.AlD => z.1) g
  have g2 := congrArg (fun z : He.AlD => z.2) g
  simp only [He5.obsA, He5.valA, Bool.and_eq_true, List.all_nil, true_and] at h1 h2 g1 g2
  unfold He5.SaysA He5.obsA He5.valA
  rw [List.all_append, List.map_append, List.map_append, h1.1, h1.2, g1, h2, g2]
  rfl
theorem two {S A B β : Type} {x : Option S} {a : S → Bool} {b : S → β} {o1 : S → A} {o2 : S → B} {t : Bool} {g : β} {v1 : A} {v2 : B} (h1 : x.map (fun s => (a s, b s, o1 s)) = some (t, g, v1)) (h2 : x.map (fun s => (a s, b s, o2 s)) = some (t, g, v2)) : x.map (fun s => (a s, b s, (o1 s, o2 s))) = some (t, g, (v1, v2)) := by
  cases x with
  | none => cases h1
  | some s =>
    simp only [Option.map_some, Option.some.injEq, Prod.mk.injEq] at h1 h2 ⊢
    exact ⟨h1.1, h1.2.1, h1.2.2, h2.2.2⟩
def hk (α : Type) (v : α) : PySem.W.Hook where
  α := α
  obs := fun _ => v
  val := fun _ => v
  says := fun _ _ => True
  of := fun _ _ _ => trivial
  keeps := fun _ _ _ _ _ => trivial
abbrev R : PySem.W.OpenRow := PySem.W.OpenLaw.row PySem.Challenge.rw_viewlots_k01_limits_and_errors
/-! which objects are looked at: what the module names, what these name, and what View names, five times -/
def frA (g : Addr → Option Obj) (a : Addr) : List Addr := match g a with
  | some o => He.refsD o
  | none => []
def stA (g : Addr → Option Obj) (as : List Addr) : List Addr := ((as.flatMap (frA g)).filter fun a => !(a == mainGlobals || a == builtinsNs)).eraseDups
def asX (g : Addr → Option Obj) : Nat → List Addr → List Addr
  | 0, _ => []
  | n + 1, v => v ++ asX g n (stA g v)
def asV (g : Addr → Option Obj) (n : Nat) : List Addr := mainGlobals :: cStatics :: (asX g 2 (frA g mainGlobals) ++ asX g 5 [He.ga (He.frG g [mainGlobals]) "InvalidText", He.ga (He.frG g [mainGlobals]) "InvalidName", He.ga (He.frG g [mainGlobals]) "InvalidIndex", He.ga (He.frG g [mainGlobals]) "InvalidNumber", He.ga (He.frG g [mainGlobals]) "InvalidPoint", He.ga (He.frG g [mainGlobals]) "InvalidPlan", He.ga (He.frG g [mainGlobals]) "InvalidWish", He.ga (He.frG g [mainGlobals]) "NotView", He.ga (He.frG g [mainGlobals]) "NotLot", He.ga (He.frG g [mainGlobals]) "InvalidViews", He.ga (He.frG g [mainGlobals]) "InvalidChanges", He.ga (He.frG g [mainGlobals]) "InvalidWishes", He.ga (He.frG g [mainGlobals]) "UnknownName", He.ga (He.frG g [mainGlobals]) "InUse", He.ga (He.frG g [mainGlobals]) "OtherFactor", He.ga (He.frG g [mainGlobals]) "TooDeep", He.ga (He.frG g [mainGlobals]) "TooFar", He.ga (He.frG g [mainGlobals]) "NothingToUndo", He.ga (He.frG g [mainGlobals]) "Broken", He.ga (He.frG g [mainGlobals]) "WrongValue", He.ga (He.frG g [mainGlobals]) "WrongName", He.ga (He.frG g [mainGlobals]) "NotPossible"])
def KT (s : PySem.W.SharedT) : PySem.W.Frag := He.frG (HandSHeadRun.getT s) (asV (HandSHeadRun.getT s) 7)
theorem run0 (w : World) : HandSHeadRun.RunEq R (PySem.W.view R.prog [40]) (hk (He.AlD × Bool) (He5.valA fn, true)) (fun s => (He5.obsA fa fn (KT s), exB (KT s))) 60000 loose w := by
  intro os
  kernel_rfl
def obsK (K : PySem.W.Frag) : (He.AlD × Bool) := (He5.obsA fa fn K, exB K)
def hookB (n : Nat) : PySem.W.Hook where
  α := (He.AlD × Bool)
  obs := fun s => obsK (He.frG s.heap.get? (asV s.heap.get? n))
  val := fun _ => (He5.valA fn, true)
  says := fun _ h => ∃ K : PySem.W.Frag, K.In h ∧ He5.SaysA fa fn K ∧ exB K = true
  of := fun _ _ e => ⟨_, He.frG_in, (congrArg (fun z : (He.AlD × Bool) => z.1) e), congrArg (fun z : (He.AlD × Bool) => z.2) e⟩
  keeps := fun _ _ _ ⟨K, hK, c⟩ k => ⟨K, PySem.W.Frag.In.keeps hK k, c⟩
def ob (s : PySem.W.SharedT) : (He.AlD × Bool) := obsK (KT s)
theorem ob_eq (s : PySem.W.SharedT) : ob s = (hookB 7).obs s.abs := by
  have e : HandSHeadRun.getT s = s.abs.heap.get? := funext (HandSHeadRun.getT_eq s)
  show obsK (He.frG (HandSHeadRun.getT s) (asV (HandSHeadRun.getT s) 7)) = obsK (He.frG s.abs.heap.get? (asV s.abs.heap.get? 7))
  rw [e]
theorem run (w : World) : HandSHeadRun.RunEq R (PySem.W.view R.prog [40]) (hookB 7) ob 60000 loose w := fun os => run0 w os
end G

set_option Elab.async false
set_option linter.all false
set_option maxRecDepth 100000
set_option maxHeartbeats 0
namespace G
instance tb0 : VL.Tb := ⟨[]⟩
open PySem L2 VL VM
theorem sc_InvalidText___init__ : FnScope ["self", "given"] ["self", "given"] (defScope (meth 2 0)) := ⟨rfl, rfl, rfl, by decide +kernel, rfl, by decide +kernel, by decide +kernel⟩
theorem sc_InvalidName___init__ : FnScope ["self", "given"] ["self", "given"] (defScope (meth 3 0)) := ⟨rfl, rfl, rfl, by decide +kernel, rfl, by decide +kernel, by decide +kernel⟩
theorem sc_InvalidIndex___init__ : FnScope ["self", "given"] ["self", "given"] (defScope (meth 4 0)) := ⟨rfl, rfl, rfl, by decide +kernel, rfl, by decide +kernel, by decide +kernel⟩
theorem sc_InvalidNumber___init__ : FnScope ["self", "given"] ["self", "given"] (defScope (meth 5 0)) := ⟨rfl, rfl, rfl, by decide +kernel, rfl, by decide +kernel, by decide +kernel⟩
theorem sc_InvalidPoint___init__ : FnScope ["self", "given"] ["self", "given"] (defScope (meth 6 0)) := ⟨rfl, rfl, rfl, by decide +kernel, rfl, by decide +kernel, by decide +kernel⟩
theorem sc_InvalidPlan___init__ : FnScope ["self", "given"] ["self", "given"] (defScope (meth 7 0)) := ⟨rfl, rfl, rfl, by decide +kernel, rfl, by decide +kernel, by decide +kernel⟩
theorem sc_InvalidWish___init__ : FnScope ["self", "given"] ["self", "given"] (defScope (meth 8 0)) := ⟨rfl, rfl, rfl, by decide +kernel, rfl, by decide +kernel, by decide +kernel⟩
theorem sc_NotView___init__ : FnScope ["self", "given"] ["self", "given"] (defScope (meth 9 0)) := ⟨rfl, rfl, rfl, by decide +kernel, rfl, by decide +kernel, by decide +kernel⟩
theorem sc_NotLot___init__ : FnScope ["self", "given"] ["self", "given"] (defScope (meth 10 0)) := ⟨rfl, rfl, rfl, by decide +kernel, rfl, by decide +kernel, by decide +kernel⟩
theorem sc_InvalidViews___init__ : FnScope ["self", "index"] ["self", "index"] (defScope (meth 11 0)) := ⟨rfl, rfl, rfl, by decide +kernel, rfl, by decide +kernel, by decide +kernel⟩
theorem sc_InvalidChanges___init__ : FnScope ["self", "index"] ["self", "index"] (defScope (meth 12 0)) := ⟨rfl, rfl, rfl, by decide +kernel, rfl, by decide +kernel, by decide +kernel⟩
theorem sc_InvalidWishes___init__ : FnScope ["self", "index"] ["self", "index"] (defScope (meth 13 0)) := ⟨rfl, rfl, rfl, by decide +kernel, rfl, by decide +kernel, by decide +kernel⟩
theorem sc_UnknownName___init__ : FnScope ["self", "given"] ["self", "given"] (defScope (meth 15 0)) := ⟨rfl, rfl, rfl, by decide +kernel, rfl, by decide +kernel, by decide +kernel⟩
theorem sc_InUse___init__ : FnScope ["self", "index"] ["self", "index"] (defScope (meth 16 0)) := ⟨rfl, rfl, rfl, by decide +kernel, rfl, by decide +kernel, by decide +kernel⟩
theorem sc_OtherFactor___init__ : FnScope ["self", "given"] ["self", "given"] (defScope (meth 18 0)) := ⟨rfl, rfl, rfl, by decide +kernel, rfl, by decide +kernel, by decide +kernel⟩
theorem sc_TooDeep___init__ : FnScope ["self", "given"] ["self", "given"] (defScope (meth 19 0)) := ⟨rfl, rfl, rfl, by decide +kernel, rfl, by decide +kernel, by decide +kernel⟩
theorem sc_TooFar___init__ : FnScope ["self", "given"] ["self", "given"] (defScope (meth 20 0)) := ⟨rfl, rfl, rfl, by decide +kernel, rfl, by decide +kernel, by decide +kernel⟩
theorem sc_Broken___init__ : FnScope ["self", "index"] ["self", "index"] (defScope (meth 22 0)) := ⟨rfl, rfl, rfl, by decide +kernel, rfl, by decide +kernel, by decide +kernel⟩
/-! ## all together -/
section
variable {K : PySem.W.Frag} {x qual : Str} {params : Arguments} {body : List Stmt} {scope : Scope} {kws : List (Str × V)} {f : Addr} {fd : FuncData}
theorem bindsK (F : FunD K x qual params body scope [] kws f fd) {ps ks : List Str} {is : List Nat}
    (h : ∀ (kV doc pm : Value) (an : Option Addr) (cdv ct : Value) (ws : List Value), ws.length = ks.length → bindArgs (PySem.W.fnOf x qual params body scope .none kV doc pm an cdv ct) ⟨[], ks.zip ws⟩ = pure (ps.zip (pick is ws))) :
    ∀ (s : Shared) (ws : List Value), K.In s.heap → ws.length = ks.length → BindsTo s fd ⟨[], ks.zip ws⟩ (ps.zip (pick is ws)) := by
  obtain ⟨oc, od, dV, kV, doc, pm, an, cdv, ct, osl, rfl, lk, hcd, hD, hK⟩ := F.ex
  intro s ws _ hl
  rcases hD with ⟨_, e⟩ | ⟨e, _⟩
  · subst e
    exact .of_eq (h kV doc pm an cdv ct ws hl)
  · exact absurd rfl e
theorem bindsKn (F : FunD K x qual params body scope [] kws f fd) {ps ks : List Str} {is : List Nat} {n : Nat}
    (h : ∀ (kV doc pm : Value) (an : Option Addr) (cdv ct : Value) (us ws : List Value), us.length = n → ws.length = ks.length → bindArgs (PySem.W.fnOf x qual params body scope .none kV doc pm an cdv ct) ⟨us, ks.zip ws⟩ = pure (ps.zip (us ++ pick is ws))) :
    ∀ (s : Shared) (us ws : List Value), K.In s.heap → us.length = n → ws.length = ks.length → BindsTo s fd ⟨us, ks.zip ws⟩ (ps.zip (us ++ pick is ws)) := by
  obtain ⟨oc, od, dV, kV, doc, pm, an, cdv, ct, osl, rfl, lk, hcd, hD, hK⟩ := F.ex
  intro s us ws _ hu hl
  rcases hD with ⟨_, e⟩ | ⟨e, _⟩
  · subst e
    exact .of_eq (h kV doc pm an cdv ct us ws hu hl)
  · exact absurd rfl e
end
theorem hideNil {H : Hp} : hide [] H = H := by
  funext a
  exact hide_out List.not_mem_nil
theorem intsAt {K : PySem.W.Frag} {H : Hp} : ∀ ns : List Int, AtL K H (ns.map V.int) (ns.map D.int)
  | [] => .nil
  | n :: ns => .cons (.int n) (intsAt ns)
theorem facts {P : Program} {w : World} {K : PySem.W.Frag} {h : Heap} {mg : Str → Option Value} {f : Addr} (X : K.In h) (G : h.Ns mainGlobals mg) (hfa : mg ("law" : Str) = some (.ref f)) (c : He5.SaysA fa fn K) (ex : exB K = true) :
    ∃ fd : FuncData, (∀ (s : Shared) (v : Value), BindsTo s fd ⟨[v], []⟩ [("script", v)]) ∧ ∀ base : Heap, K.In base → base.Ns mainGlobals mg → FnG P w K mg base 5 f fd ["script"] (spC K 1 cLaw) := by
  have B : Bt mg := ⟨He.free_ok X G (c.fact 34 rfl), He.free_ok X G (c.fact 35 rfl), He.free_ok X G (c.fact 36 rfl), He.free_ok X G (c.fact 37 rfl), He.free_ok X G (c.fact 38 rfl), He.free_ok X G (c.fact 39 rfl), He.free_ok X G (c.fact 40 rfl), He.free_ok X G (c.fact 41 rfl),
    He.free_ok X G (c.fact 42 rfl), He.free_ok X G (c.fact 43 rfl), He.free_ok X G (c.fact 44 rfl), He.free_ok X G (c.fact 45 rfl)⟩
  have hrp : mg "repr" = none := He.free_ok X G (c.fact 30 rfl)
  have Li : Lims mg := ⟨He.int_ok X G (c.fact 46 rfl), He.int_ok X G (c.fact 47 rfl), He.int_ok X G (c.fact 48 rfl), He.int_ok X G (c.fact 49 rfl), He.int_ok X G (c.fact 50 rfl), He.int_ok X G (c.fact 51 rfl), He.int_ok X G (c.fact 52 rfl), He.int_ok X G (c.fact 53 rfl), He.int_ok X G (c.fact 54 rfl)⟩
  have q := show e19B K = true from ex
  obtain ⟨q1, q⟩ := bn q
  obtain ⟨q2, q⟩ := bn q
  obtain ⟨q3, q⟩ := bn q
  obtain ⟨q4, q⟩ := bn q
  obtain ⟨q4a, q4b⟩ := bn q4
  obtain ⟨q5, q⟩ := bn q
  obtain ⟨q6, q7⟩ := bn q
  obtain ⟨fdl, Fl⟩ := c.def_ 25 rfl
  have el := hfa.symm.trans (He.glo_ok X G (c.fact 7 (f := .glo "law") rfl))
  cases el
  have bl := FunD.bindsA (ps := ["script"]) Fl fun _ _ _ _ _ _ us hl => match us, hl with | [_], _ => rfl
  refine ⟨fdl, fun s v => bl s [v] rfl, fun base _ _ => ?_⟩
  have O_InvalidText := oneB_ok (List.all_eq_true.mp q1 "InvalidText" (by decide +kernel))
  obtain ⟨fdi_InvalidText, Fi_InvalidText⟩ := c.def_ 0 rfl
  have mg_InvalidText : mg "InvalidText" = some (.ref (He.ga K "InvalidText")) := He.glo_ok X G (c.fact 9 (f := .glo "InvalidText") rfl)
  have oi_InvalidText : FnOk P w K mg base CX0 1 (He.ma K (He.ga K "InvalidText") "__init__") fdi_InvalidText ["self", "given"] (spE (He.ga K "InvalidText") "given") := einit (He5.fun_of Fi_InvalidText) sc_InvalidText___init__ rfl O_InvalidText.cls O_InvalidText.tk rfl (.inl rfl) (.inl rfl) (by decide) (by decide) (fun _ => rfl)
  have Er_InvalidText : Er P w K mg base 1 "InvalidText" (He.ga K "InvalidText") "given" := ⟨mg_InvalidText, O_InvalidText.cls, O_InvalidText.tk, _, fdi_InvalidText, _, O_InvalidText.ini, O_InvalidText.ty, Fi_InvalidText.bindsN fun _ _ _ _ _ _ us hl => (match us, hl with | [_, _], _ => rfl), oi_InvalidText⟩
  have Ek_InvalidText : ErK P w K mg base 1 "InvalidText" (He.ga K "InvalidText") "given" := ⟨mg_InvalidText, O_InvalidText.cls, _, fdi_InvalidText, _, O_InvalidText.ini, O_InvalidText.ty, fun s a u XX => bindsKn (n := 1) (is := [0]) (ps := ["self", "given"]) (ks := ["given"]) Fi_InvalidText (fun _ _ _ _ _ _ us ws h1 h2 => (match us, ws, h1, h2 with | [_], [_], _, _ => rfl)) s [.ref a] [u] XX rfl rfl, oi_InvalidText⟩
  have O_InvalidName := oneB_ok (List.all_eq_true.mp q1 "InvalidName" (by decide +kernel))
  obtain ⟨fdi_InvalidName, Fi_InvalidName⟩ := c.def_ 1 rfl
  have mg_InvalidName : mg "InvalidName" = some (.ref (He.ga K "InvalidName")) := He.glo_ok X G (c.fact 10 (f := .glo "InvalidName") rfl)
  have oi_InvalidName : FnOk P w K mg base CX0 1 (He.ma K (He.ga K "InvalidName") "__init__") fdi_InvalidName ["self", "given"] (spE (He.ga K "InvalidName") "given") := einit (He5.fun_of Fi_InvalidName) sc_InvalidName___init__ rfl O_InvalidName.cls O_InvalidName.tk rfl (.inl rfl) (.inl rfl) (by decide) (by decide) (fun _ => rfl)
  have Er_InvalidName : Er P w K mg base 1 "InvalidName" (He.ga K "InvalidName") "given" := ⟨mg_InvalidName, O_InvalidName.cls, O_InvalidName.tk, _, fdi_InvalidName, _, O_InvalidName.ini, O_InvalidName.ty, Fi_InvalidName.bindsN fun _ _ _ _ _ _ us hl => (match us, hl with | [_, _], _ => rfl), oi_InvalidName⟩
  have Ek_InvalidName : ErK P w K mg base 1 "InvalidName" (He.ga K "InvalidName") "given" := ⟨mg_InvalidName, O_InvalidName.cls, _, fdi_InvalidName, _, O_InvalidName.ini, O_InvalidName.ty, fun s a u XX => bindsKn (n := 1) (is := [0]) (ps := ["self", "given"]) (ks := ["given"]) Fi_InvalidName (fun _ _ _ _ _ _ us ws h1 h2 => (match us, ws, h1, h2 with | [_], [_], _, _ => rfl)) s [.ref a] [u] XX rfl rfl, oi_InvalidName⟩
  have O_InvalidIndex := oneB_ok (List.all_eq_true.mp q1 "InvalidIndex" (by decide +kernel))
  obtain ⟨fdi_InvalidIndex, Fi_InvalidIndex⟩ := c.def_ 2 rfl
  have mg_InvalidIndex : mg "InvalidIndex" = some (.ref (He.ga K "InvalidIndex")) := He.glo_ok X G (c.fact 11 (f := .glo "InvalidIndex") rfl)
  have oi_InvalidIndex : FnOk P w K mg base CX0 1 (He.ma K (He.ga K "InvalidIndex") "__init__") fdi_InvalidIndex ["self", "given"] (spE (He.ga K "InvalidIndex") "given") := einit (He5.fun_of Fi_InvalidIndex) sc_InvalidIndex___init__ rfl O_InvalidIndex.cls O_InvalidIndex.tk rfl (.inl rfl) (.inl rfl) (by decide) (by decide) (fun _ => rfl)
  have Er_InvalidIndex : Er P w K mg base 1 "InvalidIndex" (He.ga K "InvalidIndex") "given" := ⟨mg_InvalidIndex, O_InvalidIndex.cls, O_InvalidIndex.tk, _, fdi_InvalidIndex, _, O_InvalidIndex.ini, O_InvalidIndex.ty, Fi_InvalidIndex.bindsN fun _ _ _ _ _ _ us hl => (match us, hl with | [_, _], _ => rfl), oi_InvalidIndex⟩
  have Ek_InvalidIndex : ErK P w K mg base 1 "InvalidIndex" (He.ga K "InvalidIndex") "given" := ⟨mg_InvalidIndex, O_InvalidIndex.cls, _, fdi_InvalidIndex, _, O_InvalidIndex.ini, O_InvalidIndex.ty, fun s a u XX => bindsKn (n := 1) (is := [0]) (ps := ["self", "given"]) (ks := ["given"]) Fi_InvalidIndex (fun _ _ _ _ _ _ us ws h1 h2 => (match us, ws, h1, h2 with | [_], [_], _, _ => rfl)) s [.ref a] [u] XX rfl rfl, oi_InvalidIndex⟩
  have O_InvalidNumber := oneB_ok (List.all_eq_true.mp q1 "InvalidNumber" (by decide +kernel))
  obtain ⟨fdi_InvalidNumber, Fi_InvalidNumber⟩ := c.def_ 3 rfl
  have mg_InvalidNumber : mg "InvalidNumber" = some (.ref (He.ga K "InvalidNumber")) := He.glo_ok X G (c.fact 12 (f := .glo "InvalidNumber") rfl)
  have oi_InvalidNumber : FnOk P w K mg base CX0 1 (He.ma K (He.ga K "InvalidNumber") "__init__") fdi_InvalidNumber ["self", "given"] (spE (He.ga K "InvalidNumber") "given") := einit (He5.fun_of Fi_InvalidNumber) sc_InvalidNumber___init__ rfl O_InvalidNumber.cls O_InvalidNumber.tk rfl (.inl rfl) (.inl rfl) (by decide) (by decide) (fun _ => rfl)
  have Er_InvalidNumber : Er P w K mg base 1 "InvalidNumber" (He.ga K "InvalidNumber") "given" := ⟨mg_InvalidNumber, O_InvalidNumber.cls, O_InvalidNumber.tk, _, fdi_InvalidNumber, _, O_InvalidNumber.ini, O_InvalidNumber.ty, Fi_InvalidNumber.bindsN fun _ _ _ _ _ _ us hl => (match us, hl with | [_, _], _ => rfl), oi_InvalidNumber⟩
  have Ek_InvalidNumber : ErK P w K mg base 1 "InvalidNumber" (He.ga K "InvalidNumber") "given" := ⟨mg_InvalidNumber, O_InvalidNumber.cls, _, fdi_InvalidNumber, _, O_InvalidNumber.ini, O_InvalidNumber.ty, fun s a u XX => bindsKn (n := 1) (is := [0]) (ps := ["self", "given"]) (ks := ["given"]) Fi_InvalidNumber (fun _ _ _ _ _ _ us ws h1 h2 => (match us, ws, h1, h2 with | [_], [_], _, _ => rfl)) s [.ref a] [u] XX rfl rfl, oi_InvalidNumber⟩
  have O_InvalidPoint := oneB_ok (List.all_eq_true.mp q1 "InvalidPoint" (by decide +kernel))
  obtain ⟨fdi_InvalidPoint, Fi_InvalidPoint⟩ := c.def_ 4 rfl
  have mg_InvalidPoint : mg "InvalidPoint" = some (.ref (He.ga K "InvalidPoint")) := He.glo_ok X G (c.fact 13 (f := .glo "InvalidPoint") rfl)
  have oi_InvalidPoint : FnOk P w K mg base CX0 1 (He.ma K (He.ga K "InvalidPoint") "__init__") fdi_InvalidPoint ["self", "given"] (spE (He.ga K "InvalidPoint") "given") := einit (He5.fun_of Fi_InvalidPoint) sc_InvalidPoint___init__ rfl O_InvalidPoint.cls O_InvalidPoint.tk rfl (.inl rfl) (.inl rfl) (by decide) (by decide) (fun _ => rfl)
  have Er_InvalidPoint : Er P w K mg base 1 "InvalidPoint" (He.ga K "InvalidPoint") "given" := ⟨mg_InvalidPoint, O_InvalidPoint.cls, O_InvalidPoint.tk, _, fdi_InvalidPoint, _, O_InvalidPoint.ini, O_InvalidPoint.ty, Fi_InvalidPoint.bindsN fun _ _ _ _ _ _ us hl => (match us, hl with | [_, _], _ => rfl), oi_InvalidPoint⟩
  have Ek_InvalidPoint : ErK P w K mg base 1 "InvalidPoint" (He.ga K "InvalidPoint") "given" := ⟨mg_InvalidPoint, O_InvalidPoint.cls, _, fdi_InvalidPoint, _, O_InvalidPoint.ini, O_InvalidPoint.ty, fun s a u XX => bindsKn (n := 1) (is := [0]) (ps := ["self", "given"]) (ks := ["given"]) Fi_InvalidPoint (fun _ _ _ _ _ _ us ws h1 h2 => (match us, ws, h1, h2 with | [_], [_], _, _ => rfl)) s [.ref a] [u] XX rfl rfl, oi_InvalidPoint⟩
  have O_InvalidPlan := oneB_ok (List.all_eq_true.mp q1 "InvalidPlan" (by decide +kernel))
  obtain ⟨fdi_InvalidPlan, Fi_InvalidPlan⟩ := c.def_ 5 rfl
  have mg_InvalidPlan : mg "InvalidPlan" = some (.ref (He.ga K "InvalidPlan")) := He.glo_ok X G (c.fact 14 (f := .glo "InvalidPlan") rfl)
  have oi_InvalidPlan : FnOk P w K mg base CX0 1 (He.ma K (He.ga K "InvalidPlan") "__init__") fdi_InvalidPlan ["self", "given"] (spE (He.ga K "InvalidPlan") "given") := einit (He5.fun_of Fi_InvalidPlan) sc_InvalidPlan___init__ rfl O_InvalidPlan.cls O_InvalidPlan.tk rfl (.inl rfl) (.inl rfl) (by decide) (by decide) (fun _ => rfl)
  have Er_InvalidPlan : Er P w K mg base 1 "InvalidPlan" (He.ga K "InvalidPlan") "given" := ⟨mg_InvalidPlan, O_InvalidPlan.cls, O_InvalidPlan.tk, _, fdi_InvalidPlan, _, O_InvalidPlan.ini, O_InvalidPlan.ty, Fi_InvalidPlan.bindsN fun _ _ _ _ _ _ us hl => (match us, hl with | [_, _], _ => rfl), oi_InvalidPlan⟩
  have Ek_InvalidPlan : ErK P w K mg base 1 "InvalidPlan" (He.ga K "InvalidPlan") "given" := ⟨mg_InvalidPlan, O_InvalidPlan.cls, _, fdi_InvalidPlan, _, O_InvalidPlan.ini, O_InvalidPlan.ty, fun s a u XX => bindsKn (n := 1) (is := [0]) (ps := ["self", "given"]) (ks := ["given"]) Fi_InvalidPlan (fun _ _ _ _ _ _ us ws h1 h2 => (match us, ws, h1, h2 with | [_], [_], _, _ => rfl)) s [.ref a] [u] XX rfl rfl, oi_InvalidPlan⟩
  have O_InvalidWish := oneB_ok (List.all_eq_true.mp q1 "InvalidWish" (by decide +kernel))
  obtain ⟨fdi_InvalidWish, Fi_InvalidWish⟩ := c.def_ 6 rfl
  have mg_InvalidWish : mg "InvalidWish" = some (.ref (He.ga K "InvalidWish")) := He.glo_ok X G (c.fact 15 (f := .glo "InvalidWish") rfl)
  have oi_InvalidWish : FnOk P w K mg base CX0 1 (He.ma K (He.ga K "InvalidWish") "__init__") fdi_InvalidWish ["self", "given"] (spE (He.ga K "InvalidWish") "given") := einit (He5.fun_of Fi_InvalidWish) sc_InvalidWish___init__ rfl O_InvalidWish.cls O_InvalidWish.tk rfl (.inl rfl) (.inl rfl) (by decide) (by decide) (fun _ => rfl)
  have Er_InvalidWish : Er P w K mg base 1 "InvalidWish" (He.ga K "InvalidWish") "given" := ⟨mg_InvalidWish, O_InvalidWish.cls, O_InvalidWish.tk, _, fdi_InvalidWish, _, O_InvalidWish.ini, O_InvalidWish.ty, Fi_InvalidWish.bindsN fun _ _ _ _ _ _ us hl => (match us, hl with | [_, _], _ => rfl), oi_InvalidWish⟩
  have Ek_InvalidWish : ErK P w K mg base 1 "InvalidWish" (He.ga K "InvalidWish") "given" := ⟨mg_InvalidWish, O_InvalidWish.cls, _, fdi_InvalidWish, _, O_InvalidWish.ini, O_InvalidWish.ty, fun s a u XX => bindsKn (n := 1) (is := [0]) (ps := ["self", "given"]) (ks := ["given"]) Fi_InvalidWish (fun _ _ _ _ _ _ us ws h1 h2 => (match us, ws, h1, h2 with | [_], [_], _, _ => rfl)) s [.ref a] [u] XX rfl rfl, oi_InvalidWish⟩
  have O_NotView := oneB_ok (List.all_eq_true.mp q1 "NotView" (by decide +kernel))
  obtain ⟨fdi_NotView, Fi_NotView⟩ := c.def_ 7 rfl
  have mg_NotView : mg "NotView" = some (.ref (He.ga K "NotView")) := He.glo_ok X G (c.fact 16 (f := .glo "NotView") rfl)
  have oi_NotView : FnOk P w K mg base CX0 1 (He.ma K (He.ga K "NotView") "__init__") fdi_NotView ["self", "given"] (spE (He.ga K "NotView") "given") := einit (He5.fun_of Fi_NotView) sc_NotView___init__ rfl O_NotView.cls O_NotView.tk rfl (.inl rfl) (.inl rfl) (by decide) (by decide) (fun _ => rfl)
  have Er_NotView : Er P w K mg base 1 "NotView" (He.ga K "NotView") "given" := ⟨mg_NotView, O_NotView.cls, O_NotView.tk, _, fdi_NotView, _, O_NotView.ini, O_NotView.ty, Fi_NotView.bindsN fun _ _ _ _ _ _ us hl => (match us, hl with | [_, _], _ => rfl), oi_NotView⟩
  have Ek_NotView : ErK P w K mg base 1 "NotView" (He.ga K "NotView") "given" := ⟨mg_NotView, O_NotView.cls, _, fdi_NotView, _, O_NotView.ini, O_NotView.ty, fun s a u XX => bindsKn (n := 1) (is := [0]) (ps := ["self", "given"]) (ks := ["given"]) Fi_NotView (fun _ _ _ _ _ _ us ws h1 h2 => (match us, ws, h1, h2 with | [_], [_], _, _ => rfl)) s [.ref a] [u] XX rfl rfl, oi_NotView⟩
  have O_NotLot := oneB_ok (List.all_eq_true.mp q1 "NotLot" (by decide +kernel))
  obtain ⟨fdi_NotLot, Fi_NotLot⟩ := c.def_ 8 rfl
  have mg_NotLot : mg "NotLot" = some (.ref (He.ga K "NotLot")) := He.glo_ok X G (c.fact 17 (f := .glo "NotLot") rfl)
  have oi_NotLot : FnOk P w K mg base CX0 1 (He.ma K (He.ga K "NotLot") "__init__") fdi_NotLot ["self", "given"] (spE (He.ga K "NotLot") "given") := einit (He5.fun_of Fi_NotLot) sc_NotLot___init__ rfl O_NotLot.cls O_NotLot.tk rfl (.inl rfl) (.inl rfl) (by decide) (by decide) (fun _ => rfl)
  have Er_NotLot : Er P w K mg base 1 "NotLot" (He.ga K "NotLot") "given" := ⟨mg_NotLot, O_NotLot.cls, O_NotLot.tk, _, fdi_NotLot, _, O_NotLot.ini, O_NotLot.ty, Fi_NotLot.bindsN fun _ _ _ _ _ _ us hl => (match us, hl with | [_, _], _ => rfl), oi_NotLot⟩
  have Ek_NotLot : ErK P w K mg base 1 "NotLot" (He.ga K "NotLot") "given" := ⟨mg_NotLot, O_NotLot.cls, _, fdi_NotLot, _, O_NotLot.ini, O_NotLot.ty, fun s a u XX => bindsKn (n := 1) (is := [0]) (ps := ["self", "given"]) (ks := ["given"]) Fi_NotLot (fun _ _ _ _ _ _ us ws h1 h2 => (match us, ws, h1, h2 with | [_], [_], _, _ => rfl)) s [.ref a] [u] XX rfl rfl, oi_NotLot⟩
  have O_InvalidViews := oneB_ok (List.all_eq_true.mp q2 "InvalidViews" (by decide +kernel))
  obtain ⟨fdi_InvalidViews, Fi_InvalidViews⟩ := c.def_ 9 rfl
  have mg_InvalidViews : mg "InvalidViews" = some (.ref (He.ga K "InvalidViews")) := He.glo_ok X G (c.fact 18 (f := .glo "InvalidViews") rfl)
  have oi_InvalidViews : FnOk P w K mg base CX0 1 (He.ma K (He.ga K "InvalidViews") "__init__") fdi_InvalidViews ["self", "index"] (spE (He.ga K "InvalidViews") "index") := einit (He5.fun_of Fi_InvalidViews) sc_InvalidViews___init__ rfl O_InvalidViews.cls O_InvalidViews.tk rfl (.inl rfl) (.inl rfl) (by decide) (by decide) (fun _ => rfl)
  have Er_InvalidViews : Er P w K mg base 1 "InvalidViews" (He.ga K "InvalidViews") "index" := ⟨mg_InvalidViews, O_InvalidViews.cls, O_InvalidViews.tk, _, fdi_InvalidViews, _, O_InvalidViews.ini, O_InvalidViews.ty, Fi_InvalidViews.bindsN fun _ _ _ _ _ _ us hl => (match us, hl with | [_, _], _ => rfl), oi_InvalidViews⟩
  have Ek_InvalidViews : ErK P w K mg base 1 "InvalidViews" (He.ga K "InvalidViews") "index" := ⟨mg_InvalidViews, O_InvalidViews.cls, _, fdi_InvalidViews, _, O_InvalidViews.ini, O_InvalidViews.ty, fun s a u XX => bindsKn (n := 1) (is := [0]) (ps := ["self", "index"]) (ks := ["index"]) Fi_InvalidViews (fun _ _ _ _ _ _ us ws h1 h2 => (match us, ws, h1, h2 with | [_], [_], _, _ => rfl)) s [.ref a] [u] XX rfl rfl, oi_InvalidViews⟩
  have O_InvalidChanges := oneB_ok (List.all_eq_true.mp q2 "InvalidChanges" (by decide +kernel))
  obtain ⟨fdi_InvalidChanges, Fi_InvalidChanges⟩ := c.def_ 10 rfl
  have mg_InvalidChanges : mg "InvalidChanges" = some (.ref (He.ga K "InvalidChanges")) := He.glo_ok X G (c.fact 19 (f := .glo "InvalidChanges") rfl)
  have oi_InvalidChanges : FnOk P w K mg base CX0 1 (He.ma K (He.ga K "InvalidChanges") "__init__") fdi_InvalidChanges ["self", "index"] (spE (He.ga K "InvalidChanges") "index") := einit (He5.fun_of Fi_InvalidChanges) sc_InvalidChanges___init__ rfl O_InvalidChanges.cls O_InvalidChanges.tk rfl (.inl rfl) (.inl rfl) (by decide) (by decide) (fun _ => rfl)
  have Er_InvalidChanges : Er P w K mg base 1 "InvalidChanges" (He.ga K "InvalidChanges") "index" := ⟨mg_InvalidChanges, O_InvalidChanges.cls, O_InvalidChanges.tk, _, fdi_InvalidChanges, _, O_InvalidChanges.ini, O_InvalidChanges.ty, Fi_InvalidChanges.bindsN fun _ _ _ _ _ _ us hl => (match us, hl with | [_, _], _ => rfl), oi_InvalidChanges⟩
  have Ek_InvalidChanges : ErK P w K mg base 1 "InvalidChanges" (He.ga K "InvalidChanges") "index" := ⟨mg_InvalidChanges, O_InvalidChanges.cls, _, fdi_InvalidChanges, _, O_InvalidChanges.ini, O_InvalidChanges.ty, fun s a u XX => bindsKn (n := 1) (is := [0]) (ps := ["self", "index"]) (ks := ["index"]) Fi_InvalidChanges (fun _ _ _ _ _ _ us ws h1 h2 => (match us, ws, h1, h2 with | [_], [_], _, _ => rfl)) s [.ref a] [u] XX rfl rfl, oi_InvalidChanges⟩
  have O_InvalidWishes := oneB_ok (List.all_eq_true.mp q2 "InvalidWishes" (by decide +kernel))
  obtain ⟨fdi_InvalidWishes, Fi_InvalidWishes⟩ := c.def_ 11 rfl
  have mg_InvalidWishes : mg "InvalidWishes" = some (.ref (He.ga K "InvalidWishes")) := He.glo_ok X G (c.fact 20 (f := .glo "InvalidWishes") rfl)
  have oi_InvalidWishes : FnOk P w K mg base CX0 1 (He.ma K (He.ga K "InvalidWishes") "__init__") fdi_InvalidWishes ["self", "index"] (spE (He.ga K "InvalidWishes") "index") := einit (He5.fun_of Fi_InvalidWishes) sc_InvalidWishes___init__ rfl O_InvalidWishes.cls O_InvalidWishes.tk rfl (.inl rfl) (.inl rfl) (by decide) (by decide) (fun _ => rfl)
  have Er_InvalidWishes : Er P w K mg base 1 "InvalidWishes" (He.ga K "InvalidWishes") "index" := ⟨mg_InvalidWishes, O_InvalidWishes.cls, O_InvalidWishes.tk, _, fdi_InvalidWishes, _, O_InvalidWishes.ini, O_InvalidWishes.ty, Fi_InvalidWishes.bindsN fun _ _ _ _ _ _ us hl => (match us, hl with | [_, _], _ => rfl), oi_InvalidWishes⟩
  have Ek_InvalidWishes : ErK P w K mg base 1 "InvalidWishes" (He.ga K "InvalidWishes") "index" := ⟨mg_InvalidWishes, O_InvalidWishes.cls, _, fdi_InvalidWishes, _, O_InvalidWishes.ini, O_InvalidWishes.ty, fun s a u XX => bindsKn (n := 1) (is := [0]) (ps := ["self", "index"]) (ks := ["index"]) Fi_InvalidWishes (fun _ _ _ _ _ _ us ws h1 h2 => (match us, ws, h1, h2 with | [_], [_], _, _ => rfl)) s [.ref a] [u] XX rfl rfl, oi_InvalidWishes⟩
  have O_UnknownName := oneB_ok (List.all_eq_true.mp q1 "UnknownName" (by decide +kernel))
  obtain ⟨fdi_UnknownName, Fi_UnknownName⟩ := c.def_ 12 rfl
  have mg_UnknownName : mg "UnknownName" = some (.ref (He.ga K "UnknownName")) := He.glo_ok X G (c.fact 22 (f := .glo "UnknownName") rfl)
  have oi_UnknownName : FnOk P w K mg base CX0 1 (He.ma K (He.ga K "UnknownName") "__init__") fdi_UnknownName ["self", "given"] (spE (He.ga K "UnknownName") "given") := einit (He5.fun_of Fi_UnknownName) sc_UnknownName___init__ rfl O_UnknownName.cls O_UnknownName.tk rfl (.inl rfl) (.inl rfl) (by decide) (by decide) (fun _ => rfl)
  have Er_UnknownName : Er P w K mg base 1 "UnknownName" (He.ga K "UnknownName") "given" := ⟨mg_UnknownName, O_UnknownName.cls, O_UnknownName.tk, _, fdi_UnknownName, _, O_UnknownName.ini, O_UnknownName.ty, Fi_UnknownName.bindsN fun _ _ _ _ _ _ us hl => (match us, hl with | [_, _], _ => rfl), oi_UnknownName⟩
  have Ek_UnknownName : ErK P w K mg base 1 "UnknownName" (He.ga K "UnknownName") "given" := ⟨mg_UnknownName, O_UnknownName.cls, _, fdi_UnknownName, _, O_UnknownName.ini, O_UnknownName.ty, fun s a u XX => bindsKn (n := 1) (is := [0]) (ps := ["self", "given"]) (ks := ["given"]) Fi_UnknownName (fun _ _ _ _ _ _ us ws h1 h2 => (match us, ws, h1, h2 with | [_], [_], _, _ => rfl)) s [.ref a] [u] XX rfl rfl, oi_UnknownName⟩
  have O_InUse := oneB_ok (List.all_eq_true.mp q2 "InUse" (by decide +kernel))
  obtain ⟨fdi_InUse, Fi_InUse⟩ := c.def_ 13 rfl
  have mg_InUse : mg "InUse" = some (.ref (He.ga K "InUse")) := He.glo_ok X G (c.fact 23 (f := .glo "InUse") rfl)
  have oi_InUse : FnOk P w K mg base CX0 1 (He.ma K (He.ga K "InUse") "__init__") fdi_InUse ["self", "index"] (spE (He.ga K "InUse") "index") := einit (He5.fun_of Fi_InUse) sc_InUse___init__ rfl O_InUse.cls O_InUse.tk rfl (.inl rfl) (.inl rfl) (by decide) (by decide) (fun _ => rfl)
  have Er_InUse : Er P w K mg base 1 "InUse" (He.ga K "InUse") "index" := ⟨mg_InUse, O_InUse.cls, O_InUse.tk, _, fdi_InUse, _, O_InUse.ini, O_InUse.ty, Fi_InUse.bindsN fun _ _ _ _ _ _ us hl => (match us, hl with | [_, _], _ => rfl), oi_InUse⟩
  have Ek_InUse : ErK P w K mg base 1 "InUse" (He.ga K "InUse") "index" := ⟨mg_InUse, O_InUse.cls, _, fdi_InUse, _, O_InUse.ini, O_InUse.ty, fun s a u XX => bindsKn (n := 1) (is := [0]) (ps := ["self", "index"]) (ks := ["index"]) Fi_InUse (fun _ _ _ _ _ _ us ws h1 h2 => (match us, ws, h1, h2 with | [_], [_], _, _ => rfl)) s [.ref a] [u] XX rfl rfl, oi_InUse⟩
  have O_OtherFactor := oneB_ok (List.all_eq_true.mp q1 "OtherFactor" (by decide +kernel))
  obtain ⟨fdi_OtherFactor, Fi_OtherFactor⟩ := c.def_ 14 rfl
  have mg_OtherFactor : mg "OtherFactor" = some (.ref (He.ga K "OtherFactor")) := He.glo_ok X G (c.fact 25 (f := .glo "OtherFactor") rfl)
  have oi_OtherFactor : FnOk P w K mg base CX0 1 (He.ma K (He.ga K "OtherFactor") "__init__") fdi_OtherFactor ["self", "given"] (spE (He.ga K "OtherFactor") "given") := einit (He5.fun_of Fi_OtherFactor) sc_OtherFactor___init__ rfl O_OtherFactor.cls O_OtherFactor.tk rfl (.inl rfl) (.inl rfl) (by decide) (by decide) (fun _ => rfl)
  have Er_OtherFactor : Er P w K mg base 1 "OtherFactor" (He.ga K "OtherFactor") "given" := ⟨mg_OtherFactor, O_OtherFactor.cls, O_OtherFactor.tk, _, fdi_OtherFactor, _, O_OtherFactor.ini, O_OtherFactor.ty, Fi_OtherFactor.bindsN fun _ _ _ _ _ _ us hl => (match us, hl with | [_, _], _ => rfl), oi_OtherFactor⟩
  have Ek_OtherFactor : ErK P w K mg base 1 "OtherFactor" (He.ga K "OtherFactor") "given" := ⟨mg_OtherFactor, O_OtherFactor.cls, _, fdi_OtherFactor, _, O_OtherFactor.ini, O_OtherFactor.ty, fun s a u XX => bindsKn (n := 1) (is := [0]) (ps := ["self", "given"]) (ks := ["given"]) Fi_OtherFactor (fun _ _ _ _ _ _ us ws h1 h2 => (match us, ws, h1, h2 with | [_], [_], _, _ => rfl)) s [.ref a] [u] XX rfl rfl, oi_OtherFactor⟩
  have O_TooDeep := oneB_ok (List.all_eq_true.mp q1 "TooDeep" (by decide +kernel))
  obtain ⟨fdi_TooDeep, Fi_TooDeep⟩ := c.def_ 15 rfl
  have mg_TooDeep : mg "TooDeep" = some (.ref (He.ga K "TooDeep")) := He.glo_ok X G (c.fact 26 (f := .glo "TooDeep") rfl)
  have oi_TooDeep : FnOk P w K mg base CX0 1 (He.ma K (He.ga K "TooDeep") "__init__") fdi_TooDeep ["self", "given"] (spE (He.ga K "TooDeep") "given") := einit (He5.fun_of Fi_TooDeep) sc_TooDeep___init__ rfl O_TooDeep.cls O_TooDeep.tk rfl (.inl rfl) (.inl rfl) (by decide) (by decide) (fun _ => rfl)
  have Er_TooDeep : Er P w K mg base 1 "TooDeep" (He.ga K "TooDeep") "given" := ⟨mg_TooDeep, O_TooDeep.cls, O_TooDeep.tk, _, fdi_TooDeep, _, O_TooDeep.ini, O_TooDeep.ty, Fi_TooDeep.bindsN fun _ _ _ _ _ _ us hl => (match us, hl with | [_, _], _ => rfl), oi_TooDeep⟩
  have Ek_TooDeep : ErK P w K mg base 1 "TooDeep" (He.ga K "TooDeep") "given" := ⟨mg_TooDeep, O_TooDeep.cls, _, fdi_TooDeep, _, O_TooDeep.ini, O_TooDeep.ty, fun s a u XX => bindsKn (n := 1) (is := [0]) (ps := ["self", "given"]) (ks := ["given"]) Fi_TooDeep (fun _ _ _ _ _ _ us ws h1 h2 => (match us, ws, h1, h2 with | [_], [_], _, _ => rfl)) s [.ref a] [u] XX rfl rfl, oi_TooDeep⟩
  have O_TooFar := oneB_ok (List.all_eq_true.mp q1 "TooFar" (by decide +kernel))
  obtain ⟨fdi_TooFar, Fi_TooFar⟩ := c.def_ 16 rfl
  have mg_TooFar : mg "TooFar" = some (.ref (He.ga K "TooFar")) := He.glo_ok X G (c.fact 27 (f := .glo "TooFar") rfl)
  have oi_TooFar : FnOk P w K mg base CX0 1 (He.ma K (He.ga K "TooFar") "__init__") fdi_TooFar ["self", "given"] (spE (He.ga K "TooFar") "given") := einit (He5.fun_of Fi_TooFar) sc_TooFar___init__ rfl O_TooFar.cls O_TooFar.tk rfl (.inl rfl) (.inl rfl) (by decide) (by decide) (fun _ => rfl)
  have Er_TooFar : Er P w K mg base 1 "TooFar" (He.ga K "TooFar") "given" := ⟨mg_TooFar, O_TooFar.cls, O_TooFar.tk, _, fdi_TooFar, _, O_TooFar.ini, O_TooFar.ty, Fi_TooFar.bindsN fun _ _ _ _ _ _ us hl => (match us, hl with | [_, _], _ => rfl), oi_TooFar⟩
  have Ek_TooFar : ErK P w K mg base 1 "TooFar" (He.ga K "TooFar") "given" := ⟨mg_TooFar, O_TooFar.cls, _, fdi_TooFar, _, O_TooFar.ini, O_TooFar.ty, fun s a u XX => bindsKn (n := 1) (is := [0]) (ps := ["self", "given"]) (ks := ["given"]) Fi_TooFar (fun _ _ _ _ _ _ us ws h1 h2 => (match us, ws, h1, h2 with | [_], [_], _, _ => rfl)) s [.ref a] [u] XX rfl rfl, oi_TooFar⟩
  have O_Broken := oneB_ok (List.all_eq_true.mp q2 "Broken" (by decide +kernel))
  obtain ⟨fdi_Broken, Fi_Broken⟩ := c.def_ 17 rfl
  have mg_Broken : mg "Broken" = some (.ref (He.ga K "Broken")) := He.glo_ok X G (c.fact 29 (f := .glo "Broken") rfl)
  have oi_Broken : FnOk P w K mg base CX0 1 (He.ma K (He.ga K "Broken") "__init__") fdi_Broken ["self", "index"] (spE (He.ga K "Broken") "index") := einit (He5.fun_of Fi_Broken) sc_Broken___init__ rfl O_Broken.cls O_Broken.tk rfl (.inl rfl) (.inl rfl) (by decide) (by decide) (fun _ => rfl)
  have Er_Broken : Er P w K mg base 1 "Broken" (He.ga K "Broken") "index" := ⟨mg_Broken, O_Broken.cls, O_Broken.tk, _, fdi_Broken, _, O_Broken.ini, O_Broken.ty, Fi_Broken.bindsN fun _ _ _ _ _ _ us hl => (match us, hl with | [_, _], _ => rfl), oi_Broken⟩
  have Ek_Broken : ErK P w K mg base 1 "Broken" (He.ga K "Broken") "index" := ⟨mg_Broken, O_Broken.cls, _, fdi_Broken, _, O_Broken.ini, O_Broken.ty, fun s a u XX => bindsKn (n := 1) (is := [0]) (ps := ["self", "index"]) (ks := ["index"]) Fi_Broken (fun _ _ _ _ _ _ us ws h1 h2 => (match us, ws, h1, h2 with | [_], [_], _, _ => rfl)) s [.ref a] [u] XX rfl rfl, oi_Broken⟩
  have mg_WrongValue : mg "WrongValue" = some (.ref (He.ga K "WrongValue")) := He.glo_ok X G (c.fact 8 (f := .glo "WrongValue") rfl)
  have mg_WrongName : mg "WrongName" = some (.ref (He.ga K "WrongName")) := He.glo_ok X G (c.fact 21 (f := .glo "WrongName") rfl)
  have mg_NotPossible : mg "NotPossible" = some (.ref (He.ga K "NotPossible")) := He.glo_ok X G (c.fact 24 (f := .glo "NotPossible") rfl)
  have mg_NothingToUndo : mg "NothingToUndo" = some (.ref (He.ga K "NothingToUndo")) := He.glo_ok X G (c.fact 28 (f := .glo "NothingToUndo") rfl)
  have Ea : E19 P w K mg base (He.ga K) := by
    refine ⟨?_, ?_, ?_, ?_, ?_, ?_, ?_, ?_, ?_, ?_, ?_, ?_, ?_, ?_, ?_⟩
    · intro x hx
      simp only [nms, List.mem_cons, List.not_mem_nil, or_false] at hx
      rcases hx with rfl | rfl | rfl | rfl | rfl | rfl | rfl | rfl | rfl | rfl | rfl | rfl | rfl | rfl | rfl | rfl | rfl | rfl | rfl
      · exact mg_InvalidText
      · exact mg_InvalidName
      · exact mg_InvalidIndex
      · exact mg_InvalidNumber
      · exact mg_InvalidPoint
      · exact mg_InvalidPlan
      · exact mg_InvalidWish
      · exact mg_NotView
      · exact mg_NotLot
      · exact mg_InvalidViews
      · exact mg_InvalidChanges
      · exact mg_InvalidWishes
      · exact mg_UnknownName
      · exact mg_InUse
      · exact mg_OtherFactor
      · exact mg_TooDeep
      · exact mg_TooFar
      · exact mg_NothingToUndo
      · exact mg_Broken
    · intro x hx
      simp only [bns, List.mem_cons, List.not_mem_nil, or_false] at hx
      rcases hx with rfl | rfl | rfl
      · exact mg_WrongValue
      · exact mg_WrongName
      · exact mg_NotPossible
    · intro x hx
      simp only [btn, List.mem_cons, List.not_mem_nil, or_false] at hx
      rcases hx with rfl | rfl | rfl
      · exact He.free_ok X G (c.fact 31 rfl)
      · exact He.free_ok X G (c.fact 32 rfl)
      · exact He.free_ok X G (c.fact 33 rfl)
    · intro x hx
      simp only [gvn, List.mem_cons, List.not_mem_nil, or_false] at hx
      rcases hx with rfl | rfl | rfl | rfl | rfl | rfl | rfl | rfl | rfl | rfl | rfl | rfl | rfl
      · exact Er_InvalidText
      · exact Er_InvalidName
      · exact Er_InvalidIndex
      · exact Er_InvalidNumber
      · exact Er_InvalidPoint
      · exact Er_InvalidPlan
      · exact Er_InvalidWish
      · exact Er_NotView
      · exact Er_NotLot
      · exact Er_UnknownName
      · exact Er_OtherFactor
      · exact Er_TooDeep
      · exact Er_TooFar
    · intro x hx
      simp only [gvn, List.mem_cons, List.not_mem_nil, or_false] at hx
      rcases hx with rfl | rfl | rfl | rfl | rfl | rfl | rfl | rfl | rfl | rfl | rfl | rfl | rfl
      · exact Ek_InvalidText
      · exact Ek_InvalidName
      · exact Ek_InvalidIndex
      · exact Ek_InvalidNumber
      · exact Ek_InvalidPoint
      · exact Ek_InvalidPlan
      · exact Ek_InvalidWish
      · exact Ek_NotView
      · exact Ek_NotLot
      · exact Ek_UnknownName
      · exact Ek_OtherFactor
      · exact Ek_TooDeep
      · exact Ek_TooFar
    · intro x hx
      simp only [ixn, List.mem_cons, List.not_mem_nil, or_false] at hx
      rcases hx with rfl | rfl | rfl | rfl | rfl
      · exact Er_InvalidViews
      · exact Er_InvalidChanges
      · exact Er_InvalidWishes
      · exact Er_InUse
      · exact Er_Broken
    · intro x hx
      simp only [ixn, List.mem_cons, List.not_mem_nil, or_false] at hx
      rcases hx with rfl | rfl | rfl | rfl | rfl
      · exact Ek_InvalidViews
      · exact Ek_InvalidChanges
      · exact Ek_InvalidWishes
      · exact Ek_InUse
      · exact Ek_Broken
    · exact ⟨_, _, _, _, F.excBase_ArithmeticError, q4a, q4b⟩
    · exact fun x hx => excB_ok (bn (List.all_eq_true.mp q3 x hx)).1
    · exact fun x hx => xfB_ok (bn (List.all_eq_true.mp q3 x hx)).2
    · exact fun x hx => (oneB_ok (List.all_eq_true.mp q1 x hx)).no
    · exact fun x hx => (oneB_ok (List.all_eq_true.mp q2 x hx)).no
    · exact fun i x hx j y hy => pairsB_ok q5 (by rw [List.getElem?_map, hx]; rfl) (by rw [List.getElem?_map, List.getElem?_map, hy]; rfl)
    · exact fun i x hx j y hy => pairsB_ok q6 (by rw [List.getElem?_map, hx]; rfl) (by rw [List.getElem?_map, List.getElem?_map, hy]; rfl)
    · exact fun i x hx j y hy => pairsB_ok q7 (by rw [List.getElem?_map, hx]; rfl) (by rw [List.getElem?_map, hy]; rfl)
  obtain ⟨fd__law_draw, F__law_draw⟩ := c.def_ 19 rfl
  have H__law_draw : Fn P w K mg base 1 "_law_draw" ["cask", "many"] cDraw := ⟨_, fd__law_draw, He.glo_ok X G (c.fact 1 (f := .glo "_law_draw") rfl), F__law_draw.kp, F__law_draw.bindsN fun _ _ _ _ _ _ us hl => (match us, hl with | [_, _], _ => rfl), ok_draw (He5.fun_of F__law_draw) B⟩
  obtain ⟨fd__law_cask, F__law_cask⟩ := c.def_ 18 rfl
  have H__law_cask : Fn P w K mg base 1 "_law_cask" ["script", "at"] cCask := ⟨_, fd__law_cask, He.glo_ok X G (c.fact 0 (f := .glo "_law_cask") rfl), F__law_cask.kp, F__law_cask.bindsN fun _ _ _ _ _ _ us hl => (match us, hl with | [_, _], _ => rfl), ok_cask (He5.fun_of F__law_cask) B⟩
  obtain ⟨fd__law_sorts, F__law_sorts⟩ := c.def_ 20 rfl
  have H__law_sorts : Fn P w K mg base 1 "_law_sorts" ["e"] (cSorts K (He.ga K)) := ⟨_, fd__law_sorts, He.glo_ok X G (c.fact 2 (f := .glo "_law_sorts") rfl), F__law_sorts.kp, F__law_sorts.bindsN fun _ _ _ _ _ _ us hl => (match us, hl with | [_], _ => rfl), ok_sorts (He5.fun_of F__law_sorts) B Ea⟩
  obtain ⟨fd__law_bases, F__law_bases⟩ := c.def_ 21 rfl
  have H__law_bases : Fn P w K mg base 1 "_law_bases" ["e"] (cBases K (He.ga K)) := ⟨_, fd__law_bases, He.glo_ok X G (c.fact 3 (f := .glo "_law_bases") rfl), F__law_bases.kp, F__law_bases.bindsN fun _ _ _ _ _ _ us hl => (match us, hl with | [_], _ => rfl), ok_bases (He5.fun_of F__law_bases) B Ea⟩
  obtain ⟨fd__law_built, F__law_built⟩ := c.def_ 22 rfl
  have H__law_built : Fn P w K mg base 3 "_law_built" ["thing"] (cBuilt K (He.ga K)) := ⟨_, fd__law_built, He.glo_ok X G (c.fact 4 (f := .glo "_law_built") rfl), F__law_built.kp, F__law_built.bindsN fun _ _ _ _ _ _ us hl => (match us, hl with | [_], _ => rfl), ok_built (He5.fun_of F__law_built) Ea⟩
  obtain ⟨fd__law_kept, F__law_kept⟩ := c.def_ 23 rfl
  have H__law_kept : Fn P w K mg base 1 "_law_kept" ["e", "at"] (cKept K (He.ga K)) := ⟨_, fd__law_kept, He.glo_ok X G (c.fact 5 (f := .glo "_law_kept") rfl), F__law_kept.kp, F__law_kept.bindsN fun _ _ _ _ _ _ us hl => (match us, hl with | [_, _], _ => rfl), ok_kept (He5.fun_of F__law_kept) Ea⟩
  obtain ⟨fd__law_right, F__law_right⟩ := c.def_ 24 rfl
  have H__law_right : Fg P w K mg base 4 "_law_right" ["cask"] cRight := ⟨_, fd__law_right, He.glo_ok X G (c.fact 6 (f := .glo "_law_right") rfl), F__law_right.kp, F__law_right.bindsN fun _ _ _ _ _ _ us hl => (match us, hl with | [_], _ => rfl), ok_right (He5.fun_of F__law_right) B hrp H__law_draw H__law_sorts H__law_bases H__law_built H__law_kept⟩
  exact ok_law (He5.fun_of Fl) B hrp Li H__law_right H__law_cask
end G
open PySem PySem.W PySem.Calls PyProof.Rows
theorem PySem.Challenge.cw_viewlots_k01_limits_and_errors_holds : PySem.Challenge.rw_viewlots_k01_limits_and_errors.Holds := by
  w_on; o_law
  refine HandSHeadRun.head_any (r := OpenLaw.row PySem.Challenge.rw_viewlots_k01_limits_and_errors) (q := view (OpenLaw.row PySem.Challenge.rw_viewlots_k01_limits_and_errors).prog [40]) (H := G.hookB 7) (ob := G.ob) (M := 60000) (loose := G.loose) (d := HandSHeadRun.topDef (OpenLaw.row PySem.Challenge.rw_viewlots_k01_limits_and_errors).prog 40) (kwd := []) G.ob_eq
    (by kernel_rfl) (fun s => by kernel_rfl) G.run (by kernel_rfl) (by kernel_rfl) (by kernel_rfl) (by rfl) (by first | assumption | decide +kernel) (by decide +kernel) ⟨rfl, rfl, rfl, rfl, rfl, by decide +kernel⟩ ?hw ?hc
  case hw => w_witness2
  case hc =>
    refine VL.walkG (l := PySem.Challenge.rw_viewlots_k01_limits_and_errors) (n := 63) (k := 5) (x := "script") (C := G.cLaw) rfl rfl (by decide) (by kernel_rfl) ⟨rfl, by decide, by decide⟩ ?F fun ns hl => ⟨ns, rfl, Nat.le_trans hl (by decide), rfl⟩
    intro w mg fa h Y G0 hmg0
    obtain ⟨K, KX, c, ex⟩ := Y
    have hmg : mg ("law" : PySem.Str) = some (.ref fa) := by
      have e : (HandSHeadRun.topDef (OpenLaw.row PySem.Challenge.rw_viewlots_k01_limits_and_errors).prog 40).name = ("law" : PySem.Str) := by kernel_rfl
      rw [← e]
      exact hmg0
    obtain ⟨fd, hb, hF⟩ := G.facts (P := (PySem.Challenge.rw_viewlots_k01_limits_and_errors).prog) (w := w) KX G0 hmg c ex
    exact ⟨K, fd, KX, hb, hF⟩

