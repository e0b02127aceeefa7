import PyProof.Rows.All
import Wide.All
import OpenK.AllK
import Wide.FinOn
import PyProof.EqAt
import PyProof.EqKinds
import PyProof.TupleCall
import HandS.Base
import HandS.Call
import HandS.List
import HandS.Comp
import HandS.Ends
import HandS.Iter
import HandS.Text
import HandS.Words
import HandS.WordsList
import HandS.More
import HandS.Wide
import HandS.Style
import HandS.Conv
import HandS.NoneIn
import HandS.IsInst
import HandS.FStr
import HandS.Slots
import HandS.SlotsOwn
import HandS.ClsMeth
import HandS.Exc
import HandS.Defaults
import HandS.MakeKw
import KE.KCallOwn
import KE.KFmtOwn
import PyProof.InstEq
import KE.OsMirror
import PyProof.ReprRoads
import HandS.FStrTup
import HandS.Head0
import HandS.Head1
import HandS.Head2
import HandS.HeadEnd
import HandS.HeadHook1
import HandS.HeadHook2
import HandS.HeadNt
import HandS.HeadHook3
import HandS.Codes
import HandS.Deep
import HandS.MakeKwOnly
import HandS.Dict
import HandS.Replace
import HandS.ReplaceLit
import PyProof.ListStr
import HandS.ReplaceList
import PySem.Challenge.RW_viewlots_k45_views_judged
set_option Elab.async false
set_option linter.all false
set_option maxRecDepth 100000
set_option maxHeartbeats 4000000
namespace VL
open PySem L2

/-! ## Data: what a value is, seen whole -/
inductive D where
  | non
  | bl (b : Bool)
  | int (i : Int)
  | str (x : Str)
  | lst (xs : List D)
  | tup (xs : List D)
  | obj (C : Addr) (xs : List D)
  | tok
  | ptr (a : Addr)

/-- three ints in a list, whatever they are: where draws come from -/
def CaskP (c : Addr) (h : Heap) : Prop := ∃ (its : List Value) (n : Nat) (i j k : Int), Vals [V.int i, V.int j, V.int k] its ∧ h.get? c = some { cls := .type "list", data := .seq its.toArray n }
def caskO (c : Addr) : HO := .ext (CaskP c)

mutual
inductive At (K : PySem.W.Frag) (H : Hp) : V → D → Prop
  | non : At K H .non .non
  | bl (b : Bool) : At K H (.bl b) (.bl b)
  | int (i : Int) : At K H (.int i) (.int i)
  | str (x : Str) : At K H (.str x) (.str x)
  | lst {a : Addr} {vs : List V} {ds : List D} : SqL K H a vs → AtL K H vs ds → At K H (.ref a) (.lst ds)
  | tup {a : Addr} {vs : List V} {ds : List D} : SqT K H a vs → AtL K H vs ds → At K H (.ref a) (.tup ds)
  | obj {a C dx : Addr} {vs : List V} {ds : List D} : SlX.Slt H a C dx (vs.map some) → AtL K H vs ds → At K H (.ref a) (.obj C ds)
  | tok {c : Addr} : H c = some (caskO c) → At K H (.ref c) .tok
  | ptr (a : Addr) : At K H (.ref a) (.ptr a)
inductive AtL (K : PySem.W.Frag) (H : Hp) : List V → List D → Prop
  | nil : AtL K H [] []
  | cons {v : V} {vs : List V} {d : D} {ds : List D} : At K H v d → AtL K H vs ds → AtL K H (v :: vs) (d :: ds)
end

def Ex (H H' : Hp) : Prop := ∀ a o, H a = some o → H' a = some o
theorem Ex.refl (H : Hp) : Ex H H := fun _ _ h => h
theorem Ex.trans {H H1 H2 : Hp} (a : Ex H H1) (b : Ex H1 H2) : Ex H H2 := fun x o h => b x o (a x o h)
theorem Ex.new {H : Hp} {p : Addr} {o : HO} (h : H p = none) : Ex H (upd H p o) := fun a u e => by
  rw [upd_ne (ne_of_none e h)]
  exact e
theorem Ex.mut {H H' : Hp} {p : Addr} {o : HO} (e : Ex H H') (h : H p = none) : Ex H (upd H' p o) := fun a u ha => by
  rw [upd_ne (ne_of_none ha h)]
  exact e a u ha
theorem Ex.back {H H' : Hp} {p : Addr} (e : Ex H H') (h : H' p = none) : H p = none := by
  cases h1 : H p with
  | none => rfl
  | some o =>
    rw [e p o h1] at h
    cases h
theorem ex_rd {H H' : Hp} {a : Addr} {u : HO} (e : Ex H H') (h : Rd H a u) : Rd H' a u := by
  rcases h with h | ⟨o, h⟩
  · exact Or.inl (e a _ h)
  · exact Or.inr ⟨o, e a _ h⟩
theorem ex_l {K : PySem.W.Frag} {H H' : Hp} {a : Addr} {xs : List V} (e : Ex H H') (h : SqL K H a xs) : SqL K H' a xs := by
  rcases h with h | h
  · exact Or.inl (ex_rd e h)
  · exact Or.inr h
theorem ex_t {K : PySem.W.Frag} {H H' : Hp} {a : Addr} {xs : List V} (e : Ex H H') (h : SqT K H a xs) : SqT K H' a xs := by
  rcases h with h | h
  · exact Or.inl (ex_rd e h)
  · exact Or.inr h
theorem ex_s {H H' : Hp} {a C dx : Addr} {vs : List (Option V)} (e : Ex H H') (h : SlX.Slt H a C dx vs) : SlX.Slt H' a C dx vs := by
  rcases h with ⟨h, q⟩ | ⟨h, q⟩
  · exact Or.inl ⟨e _ _ h, q⟩
  · exact Or.inr ⟨e _ _ h, e _ _ q⟩
mutual
theorem At.mono {K : PySem.W.Frag} {H H' : Hp} (e : Ex H H') : ∀ {v : V} {d : D}, At K H v d → At K H' v d
  | _, _, .non => .non
  | _, _, .bl b => .bl b
  | _, _, .int i => .int i
  | _, _, .str x => .str x
  | _, _, .lst h t => .lst (ex_l e h) (AtL.mono e t)
  | _, _, .tup h t => .tup (ex_t e h) (AtL.mono e t)
  | _, _, .obj h t => .obj (ex_s e h) (AtL.mono e t)
  | _, _, .tok h => .tok (e _ _ h)
  | _, _, .ptr a => .ptr a
theorem AtL.mono {K : PySem.W.Frag} {H H' : Hp} (e : Ex H H') : ∀ {vs : List V} {ds : List D}, AtL K H vs ds → AtL K H' vs ds
  | _, _, .nil => .nil
  | _, _, .cons h t => .cons (At.mono e h) (AtL.mono e t)
end
section
variable {K : PySem.W.Frag} {H : Hp}
theorem AtL.length : ∀ {vs : List V} {ds : List D}, AtL K H vs ds → vs.length = ds.length
  | _, _, .nil => rfl
  | _, _, .cons _ t => by rw [List.length_cons, List.length_cons, AtL.length t]
theorem AtL.get : ∀ {vs : List V} {ds : List D} {i : Nat} {d : D}, AtL K H vs ds → ds[i]? = some d → ∃ v, vs[i]? = some v ∧ At K H v d
  | _, _, _, _, .nil, e => by simp at e
  | _, _, 0, _, .cons h _, e => by
    simp at e
    subst e
    exact ⟨_, rfl, h⟩
  | _, _, i + 1, d, .cons _ t, e => by
    obtain ⟨v, h1, h2⟩ := AtL.get (i := i) (d := d) t (by simpa using e)
    exact ⟨v, by simpa using h1, h2⟩
theorem AtL.get' : ∀ {vs : List V} {ds : List D} {i : Nat} {v : V}, AtL K H vs ds → vs[i]? = some v → ∃ d, ds[i]? = some d ∧ At K H v d
  | _, _, _, _, .nil, e => by simp at e
  | _, _, 0, _, .cons h _, e => by
    simp at e
    subst e
    exact ⟨_, rfl, h⟩
  | _, _, i + 1, v, .cons _ t, e => by
    obtain ⟨d, h1, h2⟩ := AtL.get' (i := i) (v := v) t (by simpa using e)
    exact ⟨d, by simpa using h1, h2⟩
theorem AtL.append : ∀ {vs us : List V} {ds es : List D}, AtL K H vs ds → AtL K H us es → AtL K H (vs ++ us) (ds ++ es)
  | _, _, _, _, .nil, s => s
  | _, _, _, _, .cons h t, s => .cons h (AtL.append t s)
theorem AtL.take : ∀ {vs : List V} {ds : List D} (n : Nat), AtL K H vs ds → AtL K H (vs.take n) (ds.take n)
  | _, _, 0, _ => by simpa using AtL.nil
  | _, _, _ + 1, .nil => .nil
  | _, _, n + 1, .cons h t => .cons h (AtL.take n t)
theorem AtL.drop : ∀ {vs : List V} {ds : List D} (n : Nat), AtL K H vs ds → AtL K H (vs.drop n) (ds.drop n)
  | _, _, 0, r => r
  | _, _, _ + 1, .nil => .nil
  | _, _, n + 1, .cons _ t => AtL.drop n t
theorem AtL.set : ∀ {vs : List V} {ds : List D} {v : V} {d : D} (i : Nat), AtL K H vs ds → At K H v d → AtL K H (vs.set i v) (ds.set i d)
  | _, _, _, _, _, .nil, _ => .nil
  | _, _, _, _, 0, .cons _ t, q => .cons q t
  | _, _, _, _, i + 1, .cons h t, q => .cons h (AtL.set i t q)
theorem At.inv_int {v : V} {i : Int} (h : At K H v (.int i)) : v = .int i := by cases h; rfl
theorem At.inv_bl {v : V} {b : Bool} (h : At K H v (.bl b)) : v = .bl b := by cases h; rfl
theorem At.inv_non {v : V} (h : At K H v .non) : v = .non := by cases h; rfl
theorem At.inv_str {v : V} {x : Str} (h : At K H v (.str x)) : v = .str x := by cases h; rfl
theorem At.inv_tup {v : V} {ds : List D} (h : At K H v (.tup ds)) : ∃ a vs, v = .ref a ∧ SqT K H a vs ∧ AtL K H vs ds := by
  cases h with
  | tup h t => exact ⟨_, _, rfl, h, t⟩
theorem At.inv_lst {v : V} {ds : List D} (h : At K H v (.lst ds)) : ∃ a vs, v = .ref a ∧ SqL K H a vs ∧ AtL K H vs ds := by
  cases h with
  | lst h t => exact ⟨_, _, rfl, h, t⟩
theorem At.inv_obj {v : V} {C : Addr} {ds : List D} (h : At K H v (.obj C ds)) : ∃ a dx vs, v = .ref a ∧ SlX.Slt H a C dx (vs.map some) ∧ AtL K H vs ds := by
  cases h with
  | obj h t => exact ⟨_, _, _, rfl, h, t⟩
theorem At.inv_ptr {v : V} {a : Addr} (h : At K H v (.ptr a)) : v = .ref a := by cases h; rfl
theorem At.inv_tok {v : V} (h : At K H v .tok) : ∃ c, v = .ref c ∧ H c = some (caskO c) := by
  cases h with
  | tok h => exact ⟨_, rfl, h⟩
end

/-! ## The heap without some objects -/
def hide (S : List Addr) (H : Hp) : Hp := fun a => if a ∈ S then none else H a
theorem hide_in {S : List Addr} {H : Hp} {a : Addr} (h : a ∈ S) : hide S H a = none := if_pos h
theorem hide_out {S : List Addr} {H : Hp} {a : Addr} (h : a ∉ S) : hide S H a = H a := if_neg h
theorem hide_ex {S : List Addr} {H H' : Hp} (e : Ex H H') : Ex (hide S H) (hide S H') := fun a o h => by
  by_cases q : a ∈ S
  · rw [hide_in q] at h
    cases h
  · rw [hide_out q] at h ⊢
    exact e a o h
theorem hide_le {S : List Addr} {H : Hp} : Ex (hide S H) H := fun a o h => by
  by_cases q : a ∈ S
  · rw [hide_in q] at h
    cases h
  · rwa [hide_out q] at h
theorem hide_sub {S T : List Addr} {H : Hp} (s : ∀ a ∈ S, a ∈ T) : Ex (hide T H) (hide S H) := fun a o h => by
  by_cases q : a ∈ T
  · rw [hide_in q] at h
    cases h
  · rw [hide_out q] at h
    rw [hide_out fun z => q (s a z)]
    exact h
theorem hide_upd {S : List Addr} {H : Hp} {p : Addr} {o : HO} (h : p ∈ S) : hide S (upd H p o) = hide S H := by
  funext a
  by_cases q : a ∈ S
  · rw [hide_in q, hide_in q]
  · rw [hide_out q, hide_out q, upd_ne fun z => q (by rw [z]; exact h)]
/-- a new object, out of all that is hidden -/
theorem hide_new {S : List Addr} {H : Hp} {p : Addr} (t : ∀ a ∈ S, ∃ u, H a = some u) (h : H p = none) : p ∉ S := fun z => by
  obtain ⟨u, q⟩ := t p z
  rw [h] at q
  cases q

/-! ## The frame's names -/
inductive Ent where
  | un
  | dat (d : D)
  | own (ds : List D)
abbrev Rho := List Ent

structure EnvOk (K : PySem.W.Frag) (S : List Addr) (H : Hp) (σ : L2.St) (ρ : Rho) : Prop where
  len : σ.length = ρ.length
  trk : ∀ a ∈ S, ∃ o, H a = some o
  dat : ∀ (i : Nat) (d : D), ρ[i]? = some (.dat d) → ∃ v, σ[i]? = some (some v) ∧ At K (hide S H) v d
  own : ∀ (i : Nat) (ds : List D), ρ[i]? = some (.own ds) → ∃ p vs, σ[i]? = some (some (.ref p)) ∧ p ∈ S ∧ H p = some (.lst vs) ∧ AtL K (hide S H) vs ds
  sep : ∀ (i j : Nat) (ds es : List D) (p : Addr), ρ[i]? = some (.own ds) → ρ[j]? = some (.own es) → σ[i]? = some (some (.ref p)) → σ[j]? = some (some (.ref p)) → i = j
section
variable {K : PySem.W.Frag} {S : List Addr} {H H' : Hp} {σ : L2.St} {ρ : Rho}
theorem EnvOk.mono (E : EnvOk K S H σ ρ) (e : Ex H H') : EnvOk K S H' σ ρ :=
  ⟨E.len, fun a ha => let ⟨o, q⟩ := E.trk a ha; ⟨o, e a o q⟩, fun i d h => let ⟨v, q, r⟩ := E.dat i d h; ⟨v, q, r.mono (hide_ex e)⟩,
    fun i ds h => let ⟨p, vs, q, r, t, u⟩ := E.own i ds h; ⟨p, vs, q, r, e _ _ t, u.mono (hide_ex e)⟩, E.sep⟩
theorem ent_set {ρ : Rho} {i j : Nat} {e x : Ent} (h : (ρ.set i e)[j]? = some x) : (j = i ∧ x = e) ∨ (j ≠ i ∧ ρ[j]? = some x) := by
  by_cases q : j = i
  · subst q
    rw [List.getElem?_set] at h
    split at h
    · split at h
      · exact .inl ⟨rfl, (Option.some.inj h).symm⟩
      · cases h
    · rename_i z
      exact absurd rfl z
  · rw [List.getElem?_set_ne (Ne.symm q)] at h
    exact .inr ⟨q, h⟩
theorem get_lt {α : Type} {l : List α} {i : Nat} {x : α} (h : l[i]? = some x) : i < l.length := (List.getElem?_eq_some_iff.mp h).1
theorem set_lt {ρ : Rho} {i : Nat} {e x : Ent} (h : (ρ.set i e)[i]? = some x) : i < ρ.length := by
  have := get_lt h
  simpa using this
/-- a name is stored: data -/
theorem EnvOk.store (E : EnvOk K S H σ ρ) {i : Nat} {v : V} {d : D} (a : At K (hide S H) v d) : EnvOk K S H (σ.set i (some v)) (ρ.set i (.dat d)) := by
  refine ⟨by simp [E.len], E.trk, fun j x h => ?_, fun j ds h => ?_, fun j l ds es p h1 h2 h3 h4 => ?_⟩
  · rcases ent_set h with ⟨rfl, q⟩ | ⟨ne, q⟩
    · cases q
      exact ⟨v, List.getElem?_set_self (by rw [E.len]; exact set_lt h), a⟩
    · obtain ⟨u, h1, h2⟩ := E.dat j x q
      exact ⟨u, by rw [List.getElem?_set_ne (Ne.symm ne)]; exact h1, h2⟩
  · rcases ent_set h with ⟨rfl, q⟩ | ⟨ne, q⟩
    · cases q
    · obtain ⟨p, vs, h1, h2, h3, h4⟩ := E.own j ds q
      exact ⟨p, vs, by rw [List.getElem?_set_ne (Ne.symm ne)]; exact h1, h2, h3, h4⟩
  · rcases ent_set h1 with ⟨rfl, q⟩ | ⟨ne, q⟩
    · cases q
    · rcases ent_set h2 with ⟨rfl, r⟩ | ⟨me, r⟩
      · cases r
      · rw [List.getElem?_set_ne (Ne.symm ne)] at h3
        rw [List.getElem?_set_ne (Ne.symm me)] at h4
        exact E.sep j l ds es p q r h3 h4
/-- an object that came new is hidden too -/
theorem EnvOk.hid (E : EnvOk K S H σ ρ) (e : Ex H H') {p : Addr} {o : HO} (hn : H p = none) (hp : H' p = some o) : p ∉ S ∧ EnvOk K (p :: S) H' σ ρ := by
  have np : p ∉ S := hide_new E.trk hn
  have k : Ex (hide S H) (hide (p :: S) H') := fun a u h => by
    have ha : a ∉ S := fun z => by
      rw [hide_in z] at h
      cases h
    rw [hide_out ha] at h
    have ne : a ≠ p := fun z => by
      rw [z, hn] at h
      cases h
    rw [hide_out (by simp [ne, ha])]
    exact e a u h
  refine ⟨np, E.len, fun a ha => ?_, fun i d h => ?_, fun i ds h => ?_, E.sep⟩
  · rcases List.mem_cons.mp ha with q | q
    · exact ⟨o, by rw [q]; exact hp⟩
    · obtain ⟨u, q⟩ := E.trk a q
      exact ⟨u, e _ _ q⟩
  · obtain ⟨v, q, r⟩ := E.dat i d h
    exact ⟨v, q, r.mono k⟩
  · obtain ⟨q, vs, h1, h2, h3, h4⟩ := E.own i ds h
    exact ⟨q, vs, h1, List.mem_cons_of_mem _ h2, e _ _ h3, h4.mono k⟩
/-- a name is stored: a new list of one's own -/
theorem EnvOk.storeOwn (E : EnvOk K S H σ ρ) (e : Ex H H') {i : Nat} {p : Addr} {vs : List V} {ds : List D} (hn : H p = none) (hp : H' p = some (.lst vs)) (a : AtL K (hide (p :: S) H') vs ds) :
    EnvOk K (p :: S) H' (σ.set i (some (.ref p))) (ρ.set i (.own ds)) := by
  obtain ⟨np, un⟩ := E.hid e hn hp
  refine ⟨by simp [E.len], un.trk, fun j x h => ?_, fun j es h => ?_, fun j l es fs q h1 h2 h3 h4 => ?_⟩
  · rcases ent_set h with ⟨rfl, q⟩ | ⟨ne, q⟩
    · cases q
    · obtain ⟨u, h1, h2⟩ := un.dat j x q
      exact ⟨u, by rw [List.getElem?_set_ne (Ne.symm ne)]; exact h1, h2⟩
  · rcases ent_set h with ⟨rfl, q⟩ | ⟨ne, q⟩
    · cases q
      exact ⟨p, vs, List.getElem?_set_self (by rw [E.len]; exact set_lt h), List.mem_cons_self, hp, a⟩
    · obtain ⟨p', vs', h1, h2, h3, h4⟩ := un.own j es q
      exact ⟨p', vs', by rw [List.getElem?_set_ne (Ne.symm ne)]; exact h1, h2, h3, h4⟩
  · have old : ∀ {m : Nat} {gs : List D}, m ≠ i → ρ[m]? = some (.own gs) → (σ.set i (some (.ref p)))[m]? = some (some (.ref p)) → False := fun {m gs} ne r z => by
      obtain ⟨p', vs', k1, k2, _, _⟩ := E.own m gs r
      rw [List.getElem?_set_ne (Ne.symm ne), k1] at z
      cases z
      exact np k2
    rcases ent_set h1 with ⟨rfl, r⟩ | ⟨ne, r⟩
    · rcases ent_set h2 with ⟨rfl, t⟩ | ⟨me, t⟩
      · rfl
      · rw [List.getElem?_set_self (by rw [E.len]; exact set_lt h1)] at h3
        cases h3
        exact (old me t h4).elim
    · rcases ent_set h2 with ⟨rfl, t⟩ | ⟨me, t⟩
      · rw [List.getElem?_set_self (by rw [E.len]; exact set_lt h2)] at h4
        cases h4
        exact (old ne r h3).elim
      · rw [List.getElem?_set_ne (Ne.symm ne)] at h3
        rw [List.getElem?_set_ne (Ne.symm me)] at h4
        exact E.sep j l es fs q r t h3 h4
end
end VL

set_option Elab.async false
set_option linter.all false
set_option maxRecDepth 100000
set_option maxHeartbeats 4000000
namespace VL
open PySem L2

/-! ## Judgements -/
def tE (K : PySem.W.Frag) (ρ : Rho) (k : D → Prop) : TE := fun σ H Q => ∃ S, EnvOk K S H σ ρ ∧ ∀ v H2 d, Ex H H2 → At K (hide S H2) v d → k d → Q v H2
def tT (K : PySem.W.Frag) (ρ : Rho) (k : Bool → Prop) : TT := fun σ H Q => ∃ S, EnvOk K S H σ ρ ∧ ∀ b H2, Ex H H2 → k b → Q b H2
def tA (K : PySem.W.Frag) (ρ : Rho) (k : List D → Prop) : TA := fun σ H Q => ∃ S, EnvOk K S H σ ρ ∧ ∀ vs H2 ds, Ex H H2 → AtL K (hide S H2) vs ds → k ds → Q vs H2
/-- a list, perhaps one of the frame's own, to be read -/
def tL (K : PySem.W.Frag) (ρ : Rho) (k : List D → Prop) : TE := fun σ H Q => ∃ S, EnvOk K S H σ ρ ∧ ∀ a H2 vs ds, Ex H H2 → SqL K H2 a vs → AtL K (hide S H2) vs ds → k ds → Q (.ref a) H2
/-- a new list -/
def tN (K : PySem.W.Frag) (ρ : Rho) (k : List D → Prop) : TE := fun σ H Q => ∃ S, EnvOk K S H σ ρ ∧ ∀ p H2 vs ds, H p = none → Ex H H2 → H2 p = some (.lst vs) → AtL K (hide (p :: S) H2) vs ds → k ds → Q (.ref p) H2
def XE (X : Cx) (e : Expr) (ρ : Rho) (k : D → Prop) : Prop := PE X e (tE X.K ρ k)
def XT (X : Cx) (e : Expr) (ρ : Rho) (k : Bool → Prop) : Prop := PT X e (tT X.K ρ k)
def XW (X : Cx) (e : Expr) (ρ : Rho) (k : Bool → Prop) : Prop := PW X e (tT X.K ρ k)
def XA (X : Cx) (es : List Expr) (ρ : Rho) (k : List D → Prop) : Prop := PA X es (tA X.K ρ k)
def XL (X : Cx) (e : Expr) (ρ : Rho) (k : List D → Prop) : Prop := PE X e (tL X.K ρ k)
def XN (X : Cx) (e : Expr) (ρ : Rho) (k : List D → Prop) : Prop := PE X e (tN X.K ρ k)

/-! any reading that holds -/
def aE (X : Cx) (e : Expr) : TE := fun σ H Q => ∃ t, PE X e t ∧ t σ H Q
def aT (X : Cx) (e : Expr) : TT := fun σ H Q => ∃ t, PT X e t ∧ t σ H Q
def aW (X : Cx) (e : Expr) : TT := fun σ H Q => ∃ t, PW X e t ∧ t σ H Q
def aA (X : Cx) (es : List Expr) : TA := fun σ H Q => ∃ t, PA X es t ∧ t σ H Q
def aS (X : Cx) (st : Stmt) : TS := fun D σ H => ∃ t, PS X st t ∧ t D σ H
def aSs (X : Cx) (st : List Stmt) : TS := fun D σ H => ∃ t, PSs X st t ∧ t D σ H
section
variable {X : Cx} {e : Expr} {es : List Expr} {st : Stmt} {sts : List Stmt}
theorem anyE : PE X e (aE X e) := ⟨fun pins s σ H Q I ⟨_, h, q⟩ => h.run pins s σ H Q I q⟩
theorem anyT : PT X e (aT X e) := ⟨fun pins s σ H Q I ⟨_, h, q⟩ => h.run pins s σ H Q I q⟩
theorem anyW : PW X e (aW X e) := ⟨fun wh pins s σ H Q I ⟨_, h, q⟩ => h.run wh pins s σ H Q I q⟩
theorem anyA : PA X es (aA X es) := ⟨fun pos pins s σ H Q I ⟨_, h, q⟩ => h.run pos pins s σ H Q I q⟩
theorem anyS : PS X st (aS X st) := ⟨fun pins s σ H D I ⟨_, h, q⟩ => h.run pins s σ H D I q⟩
theorem anySs : PSs X sts (aSs X sts) := ⟨fun pins s σ H D I ⟨_, h, q⟩ => h.run pins s σ H D I q⟩
theorem impE {t t' : TE} (h : PE X e t) (i : ∀ σ H Q, t' σ H Q → t σ H Q) : PE X e t' := ⟨fun pins s σ H Q I q => h.run pins s σ H Q I (i _ _ _ q)⟩
theorem impT {t t' : TT} (h : PT X e t) (i : ∀ σ H Q, t' σ H Q → t σ H Q) : PT X e t' := ⟨fun pins s σ H Q I q => h.run pins s σ H Q I (i _ _ _ q)⟩
theorem impW {t t' : TT} (h : PW X e t) (i : ∀ σ H Q, t' σ H Q → t σ H Q) : PW X e t' := ⟨fun wh pins s σ H Q I q => h.run wh pins s σ H Q I (i _ _ _ q)⟩
theorem impA {t t' : TA} (h : PA X es t) (i : ∀ σ H Q, t' σ H Q → t σ H Q) : PA X es t' := ⟨fun pos pins s σ H Q I q => h.run pos pins s σ H Q I (i _ _ _ q)⟩
theorem impS {t t' : TS} (h : PS X st t) (i : ∀ D σ H, t' D σ H → t D σ H) : PS X st t' := ⟨fun pins s σ H D I q => h.run pins s σ H D I (i _ _ _ q)⟩
theorem impSs {t t' : TS} (h : PSs X sts t) (i : ∀ D σ H, t' D σ H → t D σ H) : PSs X sts t' := ⟨fun pins s σ H D I q => h.run pins s σ H D I (i _ _ _ q)⟩
end

section
variable {X : Cx} {ρ : Rho} {a b c e : Expr} {es : List Expr} {pos : Pos} {k : D → Prop} {kb : Bool → Prop} {kl : List D → Prop}
/-! ## use: from a judgement, a step of a reading -/
theorem useE {S : List Addr} {H : Hp} {σ : L2.St} {Q : VK} (h : XE X e ρ k) (E : EnvOk X.K S H σ ρ) (q : ∀ v H2 d, Ex H H2 → At X.K (hide S H2) v d → k d → Q v H2) : aE X e σ H Q := ⟨_, h, S, E, q⟩
theorem useT {S : List Addr} {H : Hp} {σ : L2.St} {Q : Bool → Hp → Prop} (h : XT X e ρ kb) (E : EnvOk X.K S H σ ρ) (q : ∀ v H2, Ex H H2 → kb v → Q v H2) : aT X e σ H Q := ⟨_, h, S, E, q⟩
theorem useW {S : List Addr} {H : Hp} {σ : L2.St} {Q : Bool → Hp → Prop} (h : XW X e ρ kb) (E : EnvOk X.K S H σ ρ) (q : ∀ v H2, Ex H H2 → kb v → Q v H2) : aW X e σ H Q := ⟨_, h, S, E, q⟩
theorem useA {S : List Addr} {H : Hp} {σ : L2.St} {Q : List V → Hp → Prop} (h : XA X es ρ kl) (E : EnvOk X.K S H σ ρ) (q : ∀ v H2 d, Ex H H2 → AtL X.K (hide S H2) v d → kl d → Q v H2) : aA X es σ H Q := ⟨_, h, S, E, q⟩
theorem useL {S : List Addr} {H : Hp} {σ : L2.St} {Q : VK} (h : XL X e ρ kl) (E : EnvOk X.K S H σ ρ) (q : ∀ p H2 vs ds, Ex H H2 → SqL X.K H2 p vs → AtL X.K (hide S H2) vs ds → kl ds → Q (.ref p) H2) : aE X e σ H Q := ⟨_, h, S, E, q⟩

theorem XE.imp {k' : D → Prop} (h : XE X e ρ k) (i : ∀ d, k d → k' d) : XE X e ρ k' := impE h fun _ _ _ ⟨S, E, q⟩ => ⟨S, E, fun v H2 d e a kd => q v H2 d e a (i d kd)⟩

/-! ## names, constants -/
theorem xe_var (i : Nat) {x : Str} {d : D} (hd : ρ[i]? = some (.dat d)) (h : k d) (hN : X.N[i]? = some x := by rfl) (hv : Vis X.env.scope x := by first | exact Or.inl rfl | exact Or.inr (Or.inl rfl) | exact Or.inr (Or.inr rfl))
    (h1 : (x == ("__debug__" : Str)) = false := by decide) (h2 : (x == ("__classdict__" : Str)) = false := by decide) : XE X (.Name x pos) ρ k :=
  impE (pe_var hN hv h1 h2) fun σ H Q ⟨S, E, q⟩ => by
    obtain ⟨v, e, a⟩ := E.dat i d hd
    exact ⟨v, e, q v H d (Ex.refl H) a h⟩
theorem xe_int {i : Int} {j : Nat} (h : k (.int i)) : XE X (.Constant (.int i) j pos) ρ k := impE pe_int fun σ H Q ⟨S, E, q⟩ => q _ _ _ (Ex.refl H) (.int i) h
theorem xe_bl {b : Bool} {j : Nat} (h : k (.bl b)) : XE X (.Constant (.bool b) j pos) ρ k := impE pe_bl fun σ H Q ⟨S, E, q⟩ => q _ _ _ (Ex.refl H) (.bl b) h
theorem xe_non {j : Nat} (h : k .non) : XE X (.Constant .none j pos) ρ k := impE pe_non fun σ H Q ⟨S, E, q⟩ => q _ _ _ (Ex.refl H) .non h
theorem xe_str {x : Str} {j : Nat} (h : k (.str x)) : XE X (.Constant (.str x) j pos) ρ k := impE pe_str fun σ H Q ⟨S, E, q⟩ => q _ _ _ (Ex.refl H) (.str x) h
/-- a module's constant that is plain -/
theorem xe_glob {x : Str} {u : Value} {v : V} {d : D} (hm : X.mg x = some u) (r : RelV v u) (hd : ∀ H, At X.K H v d) (h : k d) (hg : Gl X x := by rfl) (hdb : (x == ("__debug__" : Str)) = false := by decide) : XE X (.Name x pos) ρ k := impE (pe_glob hg hm r hdb) fun σ H Q ⟨S, E, q⟩ => q _ _ _ (Ex.refl H) (hd _) h

/-! ## operators on two ints -/
theorem xe_opI {op : Operator} {C : Int → Int → Prop} {g : Int → Int → V} (f : Int → Int → D) (ho : OpR X (binaryOp op) (rI C g)) (hg : ∀ i j H, At X.K H (g i j) (f i j))
    (h : XE X a ρ fun x => ∃ i, x = .int i ∧ XE X b ρ fun y => ∃ j, y = .int j ∧ C i j ∧ k (f i j)) : XE X (.BinOp a op b pos) ρ k :=
  impE (pe_op ho anyE anyE) fun σ H Q ⟨S, E, q⟩ => useE h E fun x H1 d e1 a1 ⟨i, hi, hb⟩ => useE hb (E.mono e1) fun y H2 d2 e2 a2 ⟨j, hj, hc, hk⟩ => by
    subst hi hj
    exact ⟨i, j, a1.inv_int, a2.inv_int, hc, q _ _ _ (e1.trans e2) (hg i j _) hk⟩
theorem xe_opI0 {op : Operator} {g : Int → Int → V} (f : Int → Int → D) (ho : OpR X (binaryOp op) (rI0 g)) (hg : ∀ i j H, At X.K H (g i j) (f i j))
    (h : XE X a ρ fun x => ∃ i, x = .int i ∧ XE X b ρ fun y => ∃ j, y = .int j ∧ k (f i j)) : XE X (.BinOp a op b pos) ρ k :=
  impE (pe_op ho anyE anyE) fun σ H Q ⟨S, E, q⟩ => useE h E fun x H1 d e1 a1 ⟨i, hi, hb⟩ => useE hb (E.mono e1) fun y H2 d2 e2 a2 ⟨j, hj, hk⟩ => by
    subst hi hj
    exact ⟨i, j, a1.inv_int, a2.inv_int, q _ _ _ (e1.trans e2) (hg i j _) hk⟩
theorem xe_add (h : XE X a ρ fun x => ∃ i, x = .int i ∧ XE X b ρ fun y => ∃ j, y = .int j ∧ k (.int (i + j))) : XE X (.BinOp a .Add b pos) ρ k := xe_opI0 (fun i j => .int (i + j)) op_add (fun _ _ _ => .int _) h
theorem xe_sub (h : XE X a ρ fun x => ∃ i, x = .int i ∧ XE X b ρ fun y => ∃ j, y = .int j ∧ k (.int (i - j))) : XE X (.BinOp a .Sub b pos) ρ k := xe_opI0 (fun i j => .int (i - j)) op_sub (fun _ _ _ => .int _) h
/-- a product: one factor small, or both of together less than a million bits -/
def MulOk (i j : Int) : Prop := CMul i j ∨ CMulW i j
theorem op_mulX {X : Cx} : OpR X (binaryOp .Mult) (rI MulOk fun i j => .int (i * j)) := opI fun _ _ _ _ _ _ _ hc q => PyProof.Rows.mul_int q (hc.elim (fun h => h.ok) fun h => h.ok)
theorem xe_mul (h : XE X a ρ fun x => ∃ i, x = .int i ∧ XE X b ρ fun y => ∃ j, y = .int j ∧ MulOk i j ∧ k (.int (i * j))) : XE X (.BinOp a .Mult b pos) ρ k := xe_opI (fun i j => .int (i * j)) op_mulX (fun _ _ _ => .int _) h
theorem xe_div (h : XE X a ρ fun x => ∃ i, x = .int i ∧ XE X b ρ fun y => ∃ j, y = .int j ∧ CDivW i j ∧ k (.int (i / j))) : XE X (.BinOp a .FloorDiv b pos) ρ k := xe_opI (fun i j => .int (i / j)) op_fdivW (fun _ _ _ => .int _) h
theorem xe_mod (h : XE X a ρ fun x => ∃ i, x = .int i ∧ XE X b ρ fun y => ∃ j, y = .int j ∧ 0 < j ∧ k (.int (i % j))) : XE X (.BinOp a .Mod b pos) ρ k := xe_opI (fun i j => .int (i % j)) op_mod (fun _ _ _ => .int _) h
theorem xe_pow (h : XE X a ρ fun x => ∃ i, x = .int i ∧ XE X b ρ fun y => ∃ j, y = .int j ∧ CPow i j ∧ k (.int (i ^ j.toNat))) : XE X (.BinOp a .Pow b pos) ρ k := xe_opI (fun i j => .int (i ^ j.toNat)) op_pow (fun _ _ _ => .int _) h
theorem xe_neg (h : XE X a ρ fun x => ∃ i, x = .int i ∧ k (.int (-i))) : XE X (.UnaryOp .USub a pos) ρ k :=
  impE (pe_un un_neg anyE) fun σ H Q ⟨S, E, q⟩ => useE h E fun x H1 d e1 a1 ⟨i, hi, hk⟩ => by
    subst hi
    exact ⟨i, a1.inv_int, q _ _ _ e1 (.int _) hk⟩

/-! ## comparisons of two ints, as values and as tests -/
theorem xe_cmpI {op : CmpOp} {p : Int → Int → Bool} (ho : OpR X (compareOp op) (rI0 fun i j => .bl (p i j))) (hm : behindInMarks op b = false)
    (h : XE X a ρ fun x => ∃ i, x = .int i ∧ XE X b ρ fun y => ∃ j, y = .int j ∧ k (.bl (p i j))) : XE X (.Compare a [op] [b] pos) ρ k :=
  impE (pe_cmpR ho anyE anyE hm) fun σ H Q ⟨S, E, q⟩ => useE h E fun x H1 d e1 a1 ⟨i, hi, hb⟩ => useE hb (E.mono e1) fun y H2 d2 e2 a2 ⟨j, hj, hk⟩ => by
    subst hi hj
    exact ⟨i, j, a1.inv_int, a2.inv_int, q _ _ _ (e1.trans e2) (.bl _) hk⟩
theorem xt_cmpI {op : CmpOp} {p : Int → Int → Bool} (ho : OpR X (compareOp op) (rI0 fun i j => .bl (p i j))) (hm : behindInMarks op b = false)
    (h : XE X a ρ fun x => ∃ i, x = .int i ∧ XE X b ρ fun y => ∃ j, y = .int j ∧ kb (p i j)) : XT X (.Compare a [op] [b] pos) ρ kb :=
  impT (pt_cmpR ho anyE anyE hm) fun σ H Q ⟨S, E, q⟩ => useE h E fun x H1 d e1 a1 ⟨i, hi, hb⟩ => useE hb (E.mono e1) fun y H2 d2 e2 a2 ⟨j, hj, hk⟩ => by
    subst hi hj
    exact ⟨i, j, a1.inv_int, a2.inv_int, _, rfl, q _ _ (e1.trans e2) hk⟩
theorem xe_lt (h : XE X a ρ fun x => ∃ i, x = .int i ∧ XE X b ρ fun y => ∃ j, y = .int j ∧ k (.bl (decide (i < j)))) : XE X (.Compare a [.Lt] [b] pos) ρ k := xe_cmpI (p := fun i j => decide (i < j)) op_lt (nomark _) h
theorem xe_le (h : XE X a ρ fun x => ∃ i, x = .int i ∧ XE X b ρ fun y => ∃ j, y = .int j ∧ k (.bl (decide (i ≤ j)))) : XE X (.Compare a [.LtE] [b] pos) ρ k := xe_cmpI (p := fun i j => decide (i ≤ j)) op_le (nomark _) h
theorem xe_gt (h : XE X a ρ fun x => ∃ i, x = .int i ∧ XE X b ρ fun y => ∃ j, y = .int j ∧ k (.bl (decide (j < i)))) : XE X (.Compare a [.Gt] [b] pos) ρ k := xe_cmpI (p := fun i j => decide (j < i)) op_gt (nomark _) h
theorem xe_ge (h : XE X a ρ fun x => ∃ i, x = .int i ∧ XE X b ρ fun y => ∃ j, y = .int j ∧ k (.bl (decide (j ≤ i)))) : XE X (.Compare a [.GtE] [b] pos) ρ k := xe_cmpI (p := fun i j => decide (j ≤ i)) op_ge (nomark _) h
theorem xt_lt (h : XE X a ρ fun x => ∃ i, x = .int i ∧ XE X b ρ fun y => ∃ j, y = .int j ∧ kb (decide (i < j))) : XT X (.Compare a [.Lt] [b] pos) ρ kb := xt_cmpI (p := fun i j => decide (i < j)) op_lt (nomark _) h
theorem xt_le (h : XE X a ρ fun x => ∃ i, x = .int i ∧ XE X b ρ fun y => ∃ j, y = .int j ∧ kb (decide (i ≤ j))) : XT X (.Compare a [.LtE] [b] pos) ρ kb := xt_cmpI (p := fun i j => decide (i ≤ j)) op_le (nomark _) h
theorem xt_gt (h : XE X a ρ fun x => ∃ i, x = .int i ∧ XE X b ρ fun y => ∃ j, y = .int j ∧ kb (decide (j < i))) : XT X (.Compare a [.Gt] [b] pos) ρ kb := xt_cmpI (p := fun i j => decide (j < i)) op_gt (nomark _) h
theorem xt_ge (h : XE X a ρ fun x => ∃ i, x = .int i ∧ XE X b ρ fun y => ∃ j, y = .int j ∧ kb (decide (j ≤ i))) : XT X (.Compare a [.GtE] [b] pos) ρ kb := xt_cmpI (p := fun i j => decide (j ≤ i)) op_ge (nomark _) h
/-! == and != of plain values -/
def scalD : D → D → Bool
  | .non, .non => true | .non, .int _ => true | .int _, .non => true | .non, .bl _ => true | .bl _, .non => true | .non, .str _ => true | .str _, .non => true
  | .int _, .int _ => true | .bl _, .bl _ => true | .str _, .str _ => true
  | .int _, .str _ => true | .str _, .int _ => true | .bl _, .str _ => true | .str _, .bl _ => true
  | _, _ => false
def sameD : D → D → Bool
  | .non, .non => true | .int i, .int j => decide (i = j) | .bl i, .bl j => decide (i = j) | .str i, .str j => decide (i = j)
  | _, _ => false
theorem scal_of {K : PySem.W.Frag} {H1 H2 : Hp} {x y : V} {d d2 : D} (hs : scalD d d2 = true) (h1 : At K H1 x d) (h2 : At K H2 y d2) : scal x y = true ∧ decide (x = y) = sameD d d2 := by
  cases h1 <;> cases h2 <;> first
    | exact absurd (show false = true from hs) Bool.false_ne_true
    | (refine ⟨rfl, ?_⟩; simp [sameD])
theorem xe_eq (h : XE X a ρ fun x => XE X b ρ fun y => scalD x y = true ∧ k (.bl (sameD x y))) : XE X (.Compare a [.Eq] [b] pos) ρ k :=
  impE (pe_cmpR op_eq anyE anyE (nomark _)) fun σ H Q ⟨S, E, q⟩ => useE h E fun x H1 d e1 a1 hb => useE hb (E.mono e1) fun y H2 d2 e2 a2 ⟨hs, hk⟩ => by
    obtain ⟨z1, z2⟩ := scal_of hs a1 a2
    refine ⟨z1, ?_⟩
    rw [z2]
    exact q _ _ _ (e1.trans e2) (.bl _) hk
theorem xe_ne (h : XE X a ρ fun x => XE X b ρ fun y => scalD x y = true ∧ k (.bl (!sameD x y))) : XE X (.Compare a [.NotEq] [b] pos) ρ k :=
  impE (pe_cmpR op_ne anyE anyE (nomark _)) fun σ H Q ⟨S, E, q⟩ => useE h E fun x H1 d e1 a1 hb => useE hb (E.mono e1) fun y H2 d2 e2 a2 ⟨hs, hk⟩ => by
    obtain ⟨z1, z2⟩ := scal_of hs a1 a2
    refine ⟨z1, ?_⟩
    rw [z2]
    exact q _ _ _ (e1.trans e2) (.bl _) hk
theorem xt_eq (h : XE X a ρ fun x => XE X b ρ fun y => scalD x y = true ∧ kb (sameD x y)) : XT X (.Compare a [.Eq] [b] pos) ρ kb :=
  impT (pt_cmpR op_eq anyE anyE (nomark _)) fun σ H Q ⟨S, E, q⟩ => useE h E fun x H1 d e1 a1 hb => useE hb (E.mono e1) fun y H2 d2 e2 a2 ⟨hs, hk⟩ => by
    obtain ⟨z1, z2⟩ := scal_of hs a1 a2
    refine ⟨z1, ?_⟩
    rw [z2]
    exact ⟨_, rfl, q _ _ (e1.trans e2) hk⟩
theorem xt_ne (h : XE X a ρ fun x => XE X b ρ fun y => scalD x y = true ∧ kb (!sameD x y)) : XT X (.Compare a [.NotEq] [b] pos) ρ kb :=
  impT (pt_cmpR op_ne anyE anyE (nomark _)) fun σ H Q ⟨S, E, q⟩ => useE h E fun x H1 d e1 a1 hb => useE hb (E.mono e1) fun y H2 d2 e2 a2 ⟨hs, hk⟩ => by
    obtain ⟨z1, z2⟩ := scal_of hs a1 a2
    refine ⟨z1, ?_⟩
    rw [z2]
    exact ⟨_, rfl, q _ _ (e1.trans e2) hk⟩
/-! is None -/
def isNonD : D → Bool
  | .non => true
  | _ => false
theorem non_of {K : PySem.W.Frag} {H : Hp} {x : V} {d : D} (h : At K H x d) : decide (x = .non) = isNonD d := by
  cases h <;> simp [isNonD]
theorem xe_isN {j pos'} (h : XE X a ρ fun x => k (.bl (isNonD x))) : XE X (.Compare a [.Is] [.Constant .none j pos'] pos) ρ k :=
  impE (pe_cmp (pc_isN anyE) rfl) fun σ H Q ⟨S, E, q⟩ => useE h E fun x H1 d e1 a1 hk => by
    show Q (.bl (decide (x = .non))) H1
    rw [non_of a1]
    exact q _ _ _ e1 (.bl _) hk
theorem xe_notN {j pos'} (h : XE X a ρ fun x => k (.bl (!isNonD x))) : XE X (.Compare a [.IsNot] [.Constant .none j pos'] pos) ρ k :=
  impE (pe_cmp (pc_notN anyE) rfl) fun σ H Q ⟨S, E, q⟩ => useE h E fun x H1 d e1 a1 hk => by
    show Q (.bl (!decide (x = .non))) H1
    rw [non_of a1]
    exact q _ _ _ e1 (.bl _) hk

/-! ## tests -/
theorem xt_val (h : XE X e ρ fun x => ∃ b, x = .bl b ∧ kb b) (he : ∀ whole, isTrue e X.env whole = (do let v ← whole; standAt e.pos; holding [v] (truthy v)) := by intro _; rfl) : XT X e ρ kb :=
  impT (pt_val anyE he) fun σ H Q ⟨S, E, q⟩ => useE h E fun x H1 d e1 a1 ⟨b, hb, hk⟩ => by
    subst hb
    exact ⟨b, a1.inv_bl, q _ _ e1 hk⟩
theorem xt_isN {j pos'} (h : XE X a ρ fun x => kb (isNonD x)) : XT X (.Compare a [.Is] [.Constant .none j pos'] pos) ρ kb :=
  impT (pt_cmp (pc_isN anyE) rfl) fun σ H Q ⟨S, E, q⟩ => useE h E fun x H1 d e1 a1 hk => by
    show ∃ c, V.bl (decide (x = .non)) = .bl c ∧ Q c H1
    rw [non_of a1]
    exact ⟨_, rfl, q _ _ e1 hk⟩
theorem xt_notN {j pos'} (h : XE X a ρ fun x => kb (!isNonD x)) : XT X (.Compare a [.IsNot] [.Constant .none j pos'] pos) ρ kb :=
  impT (pt_cmp (pc_notN anyE) rfl) fun σ H Q ⟨S, E, q⟩ => useE h E fun x H1 d e1 a1 hk => by
    show ∃ c, V.bl (!decide (x = .non)) = .bl c ∧ Q c H1
    rw [non_of a1]
    exact ⟨_, rfl, q _ _ e1 hk⟩
theorem xt_not (h : XT X a ρ fun b => kb (!b)) : XT X (.UnaryOp .Not a pos) ρ kb := impT (pt_not anyT) fun σ H Q ⟨S, E, q⟩ => useT h E fun b H1 e1 hk => q _ _ e1 hk
theorem xw_and1 (h : XT X a ρ kb) : XW X (.BoolOp .And [a] pos) ρ kb := pw_and1 h
theorem xw_or1 (h : XT X a ρ kb) : XW X (.BoolOp .Or [a] pos) ρ kb := pw_or1 h
theorem xw_and {rest : List Expr} (h : XT X a ρ fun c => if c = true then XW X (.BoolOp .And (b :: rest) pos) ρ kb else kb false) : XW X (.BoolOp .And (a :: b :: rest) pos) ρ kb :=
  impW (pw_and anyT anyW) fun σ H Q ⟨S, E, q⟩ => useT h E fun c H1 e1 hk => by
    cases c with
    | true => exact useW hk (E.mono e1) fun c2 H2 e2 h2 => q _ _ (e1.trans e2) h2
    | false => exact q _ _ e1 hk
theorem xw_or {rest : List Expr} (h : XT X a ρ fun c => if c = true then kb true else XW X (.BoolOp .Or (b :: rest) pos) ρ kb) : XW X (.BoolOp .Or (a :: b :: rest) pos) ρ kb :=
  impW (pw_or anyT anyW) fun σ H Q ⟨S, E, q⟩ => useT h E fun c H1 e1 hk => by
    cases c with
    | false => exact useW hk (E.mono e1) fun c2 H2 e2 h2 => q _ _ (e1.trans e2) h2
    | true => exact q _ _ e1 hk
theorem XW.t (h : XW X e ρ kb) : XT X e ρ kb := PW.pt h
/-! and, or, not as values, of truth values -/
theorem xe_one {op} (h : XE X a ρ k) : XE X (.BoolOp op [a] pos) ρ k := pe_one h
theorem xe_and {rest : List Expr} (h : XE X a ρ fun x => ∃ c, x = .bl c ∧ if c = true then XE X (.BoolOp .And (b :: rest) pos) ρ k else k (.bl false)) : XE X (.BoolOp .And (a :: b :: rest) pos) ρ k :=
  impE (pe_and anyE anyE) fun σ H Q ⟨S, E, q⟩ => useE h E fun x H1 d e1 a1 ⟨c, hc, hk⟩ => by
    subst hc
    refine ⟨c, a1.inv_bl, ?_⟩
    cases c with
    | true => exact useE hk (E.mono e1) fun c2 H2 d2 e2 a2 h2 => q _ _ _ (e1.trans e2) a2 h2
    | false => exact q _ _ _ e1 (.bl _) hk
theorem xe_or {rest : List Expr} (h : XE X a ρ fun x => ∃ c, x = .bl c ∧ if c = true then k (.bl true) else XE X (.BoolOp .Or (b :: rest) pos) ρ k) : XE X (.BoolOp .Or (a :: b :: rest) pos) ρ k :=
  impE (pe_or anyE anyE) fun σ H Q ⟨S, E, q⟩ => useE h E fun x H1 d e1 a1 ⟨c, hc, hk⟩ => by
    subst hc
    refine ⟨c, a1.inv_bl, ?_⟩
    cases c with
    | false => exact useE hk (E.mono e1) fun c2 H2 d2 e2 a2 h2 => q _ _ _ (e1.trans e2) a2 h2
    | true => exact q _ _ _ e1 (.bl _) hk
theorem xe_not (h : XE X a ρ fun x => ∃ c, x = .bl c ∧ k (.bl (!c))) : XE X (.UnaryOp .Not a pos) ρ k :=
  impE (pe_not anyE) fun σ H Q ⟨S, E, q⟩ => useE h E fun x H1 d e1 a1 ⟨c, hc, hk⟩ => by
    subst hc
    exact ⟨c, a1.inv_bl, q _ _ _ e1 (.bl _) hk⟩
theorem xe_if {c : Expr} (h : XT X c ρ fun t => if t = true then XE X a ρ k else XE X b ρ k) : XE X (.IfExp c a b pos) ρ k :=
  impE (pe_ifExp anyT anyE anyE) fun σ H Q ⟨S, E, q⟩ => useT h E fun t H1 e1 hk => by
    cases t with
    | true => exact useE hk (E.mono e1) fun c2 H2 d2 e2 a2 h2 => q _ _ _ (e1.trans e2) a2 h2
    | false => exact useE hk (E.mono e1) fun c2 H2 d2 e2 a2 h2 => q _ _ _ (e1.trans e2) a2 h2

/-! ## arguments, displays -/
theorem xa_nil (h : kl []) : XA X [] ρ kl := impA pa_nil fun σ H Q ⟨S, E, q⟩ => q _ _ _ (Ex.refl H) .nil h
theorem xa_cons (h : XE X e ρ fun x => XA X es ρ fun xs => kl (x :: xs)) (hs : starEach (e :: es) X.env = (false, eval e X.env) :: starEach es X.env := by rfl) : XA X (e :: es) ρ kl :=
  impA (pa_cons anyE anyA hs) fun σ H Q ⟨S, E, q⟩ => useE h E fun x H1 d e1 a1 hk => useA hk (E.mono e1) fun xs H2 ds e2 a2 hk2 =>
    q _ _ _ (e1.trans e2) (.cons (a1.mono (hide_ex e2)) a2) hk2
theorem sz_of {n : Nat} (h : n ≤ 100000) : n ≤ sizeLine := Nat.le_trans h (by decide)
theorem sz_lt {n : Nat} (h : n < 100000) : n < sizeLine := Nat.lt_of_lt_of_le h (by decide)
theorem xe_tup {x1} (h : XA X es ρ fun ds => ds.length ≤ 100000 ∧ k (.tup ds)) : XE X (.Tuple es x1 pos) ρ k :=
  impE (pe_tup anyA) fun σ H Q ⟨S, E, q⟩ => useA h E fun vs H1 ds e1 a1 ⟨hl, hk⟩ => ⟨sz_of (by rw [a1.length]; exact hl), fun p hp => by
    have E1 := E.mono e1
    have np := hide_new E1.trk hp
    refine q _ _ _ (e1.trans (Ex.new hp)) (.tup (SqT.of ?_) (a1.mono (hide_ex (Ex.new hp)))) hk
    rw [hide_out np]
    exact upd_same⟩
theorem xn_lst (h : XA X es ρ fun ds => ds.length ≤ 100000 ∧ kl ds) : XN X (.List es pos) ρ kl :=
  impE (pe_lst anyA) fun σ H Q ⟨S, E, q⟩ => useA h E fun vs H1 ds e1 a1 ⟨hl, hk⟩ => ⟨sz_of (by rw [a1.length]; exact hl), fun p hp => by
    have E1 := E.mono e1
    have np := hide_new E1.trk hp
    refine q p _ vs ds (e1.back hp) (e1.trans (Ex.new hp)) upd_same (a1.mono fun x o hx => ?_) hk
    have hxS : x ∉ S := fun z => by
      rw [hide_in z] at hx
      cases hx
    rw [hide_out hxS] at hx
    have ne : x ≠ p := ne_of_none hx hp
    rw [hide_out (by simp [ne, hxS]), upd_ne ne]
    exact hx⟩
/-- a new list, as data -/
theorem XN.data (h : XN X e ρ fun ds => k (.lst ds)) : XE X e ρ k := impE h fun σ H Q ⟨S, E, q⟩ => ⟨S, E, fun p H2 vs ds hn e2 hp a hk => by
  have np := hide_new E.trk hn
  refine q _ _ _ e2 (.lst (SqL.of ?_) (a.mono (hide_sub fun x hx => List.mem_cons_of_mem _ hx))) hk
  rw [hide_out np]
  exact hp⟩
/-- .. to be read -/
theorem XE.rd (h : XE X e ρ fun d => ∃ ds, d = .lst ds ∧ kl ds) : XL X e ρ kl := impE h fun σ H Q ⟨S, E, q⟩ => ⟨S, E, fun v H2 d e2 a ⟨ds, hd, hk⟩ => by
  subst hd
  obtain ⟨p, vs, rfl, h1, h2⟩ := a.inv_lst
  exact q p H2 vs ds e2 (ex_l hide_le h1) h2 hk⟩
theorem XN.rd (h : XN X e ρ kl) : XL X e ρ kl := XE.rd (XN.data (impE h fun σ H Q ⟨S, E, q⟩ => ⟨S, E, fun p H2 vs ds hn e2 hp a hk => q p H2 vs ds hn e2 hp a ⟨ds, rfl, hk⟩⟩))
/-- a name that holds a list of the frame's own -/
theorem xl_own (i : Nat) {x : Str} {ds : List D} (hd : ρ[i]? = some (.own ds)) (h : kl ds) (hN : X.N[i]? = some x := by rfl) (hv : Vis X.env.scope x := by first | exact Or.inl rfl | exact Or.inr (Or.inl rfl) | exact Or.inr (Or.inr rfl))
    (h1 : (x == ("__debug__" : Str)) = false := by decide) (h2 : (x == ("__classdict__" : Str)) = false := by decide) : XL X (.Name x pos) ρ kl :=
  impE (pe_var hN hv h1 h2) fun σ H Q ⟨S, E, q⟩ => by
    obtain ⟨p, vs, e1, hS, hp, a⟩ := E.own i ds hd
    exact ⟨.ref p, e1, q p H vs ds (Ex.refl H) (SqL.of hp) a h⟩
end
end VL

set_option Elab.async false
set_option linter.all false
set_option maxRecDepth 100000
set_option maxHeartbeats 4000000
namespace VL
open PySem L2

/-! ## Statements -/
structure J where
  nx : Rho → Prop
  rt : D → Prop
  bk : Rho → Prop := fun _ => False
  ct : Rho → Prop := fun _ => False
/-- S0, H0: what was hidden, what was tracked, when the block began -/
def StOk (K : PySem.W.Frag) (S0 : List Addr) (H0 H : Hp) (σ : L2.St) (ρ : Rho) : Prop :=
  ∃ S, (∀ a ∈ S0, a ∈ S) ∧ (∀ a ∈ S, a ∈ S0 ∨ H0 a = none) ∧ (∀ (i : Nat) (ds : List D) (p : Addr), ρ[i]? = some (.own ds) → σ[i]? = some (some (.ref p)) → H0 p = none) ∧ Ex H0 H ∧ EnvOk K S H σ ρ
structure Fit (K : PySem.W.Frag) (S0 : List Addr) (H0 : Hp) (j : J) (E : Ends) : Prop where
  nx : ∀ σ H ρ, StOk K S0 H0 H σ ρ → j.nx ρ → E.nx σ H
  rt : ∀ v H d, Ex H0 H → At K (hide S0 H) v d → j.rt d → E.rt v H
  bk : ∀ σ H ρ, StOk K S0 H0 H σ ρ → j.bk ρ → E.bk σ H
  ct : ∀ σ H ρ, StOk K S0 H0 H σ ρ → j.ct ρ → E.ct σ H
def Trk (S0 : List Addr) (H0 : Hp) : Prop := ∀ a ∈ S0, ∃ o, H0 a = some o
def tS (K : PySem.W.Frag) (S0 : List Addr) (H0 : Hp) (ρ : Rho) (j : J) : TS := fun E σ H => StOk K S0 H0 H σ ρ ∧ Fit K S0 H0 j E
def XS (X : Cx) (st : Stmt) (ρ : Rho) (j : J) : Prop := ∀ S0 H0, Trk S0 H0 → PS X st (tS X.K S0 H0 ρ j)
def XB (X : Cx) (sts : List Stmt) (ρ : Rho) (j : J) : Prop := ∀ S0 H0, Trk S0 H0 → PSs X sts (tS X.K S0 H0 ρ j)
section
variable {K : PySem.W.Frag} {S0 : List Addr} {H0 H H' : Hp} {σ : L2.St} {ρ : Rho} {j : J} {En : Ends}
theorem StOk.mono (h : StOk K S0 H0 H σ ρ) (e : Ex H H') : StOk K S0 H0 H' σ ρ :=
  let ⟨S, h1, h2, h3, h4, h5⟩ := h
  ⟨S, h1, h2, h3, h4.trans e, h5.mono e⟩
theorem StOk.store {i : Nat} {v : V} {d : D} {S : List Addr} (h1 : ∀ a ∈ S0, a ∈ S) (h2 : ∀ a ∈ S, a ∈ S0 ∨ H0 a = none) (h3 : ∀ (i : Nat) (ds : List D) (p : Addr), ρ[i]? = some (.own ds) → σ[i]? = some (some (.ref p)) → H0 p = none)
    (h4 : Ex H0 H) (E : EnvOk K S H σ ρ) (a : At K (hide S H) v d) : StOk K S0 H0 H (σ.set i (some v)) (ρ.set i (.dat d)) := by
  refine ⟨S, h1, h2, fun l ds p k1 k2 => ?_, h4, E.store a⟩
  rcases ent_set k1 with ⟨rfl, q⟩ | ⟨ne, q⟩
  · cases q
  · rw [List.getElem?_set_ne (Ne.symm ne)] at k2
    exact h3 l ds p q k2
/-- the world ahead of a loop: all but the frame's own lists -/
theorem StOk.base (tr : Trk S0 H0) {S : List Addr} (h1 : ∀ a ∈ S0, a ∈ S) (h2 : ∀ a ∈ S, a ∈ S0 ∨ H0 a = none) (h3 : ∀ (i : Nat) (ds : List D) (p : Addr), ρ[i]? = some (.own ds) → σ[i]? = some (some (.ref p)) → H0 p = none)
    (h4 : Ex H0 H) (E : EnvOk K S H σ ρ) : ∃ H1, StOk K S0 H1 H σ ρ ∧ Ex H0 H1 ∧ (∀ p, H1 p = none → H0 p = none) ∧ ∀ (H' : Hp) (S' : List Addr), (∀ a ∈ S', a ∈ S0 ∨ H1 a = none) → Ex H1 H' → Ex (hide S H) (hide S' H') := by
  let H1 : Hp := fun a => if a ∈ S ∧ a ∉ S0 then none else H a
  have e01 : Ex H0 H1 := fun a o h => by
    show (if a ∈ S ∧ a ∉ S0 then none else H a) = some o
    rw [if_neg fun z => ?_]
    · exact h4 a o h
    · rcases h2 a z.1 with q | q
      · exact z.2 q
      · rw [h] at q
        cases q
  have n10 : ∀ p, H1 p = none → H0 p = none := fun p h => e01.back h
  have e1 : Ex H1 H := fun a o h => by
    have h' : (if a ∈ S ∧ a ∉ S0 then none else H a) = some o := h
    by_cases q : a ∈ S ∧ a ∉ S0
    · rw [if_pos q] at h'
      cases h'
    · rwa [if_neg q] at h'
  have sn : ∀ a ∈ S, a ∈ S0 ∨ H1 a = none := fun a ha => by
    by_cases q : a ∈ S0
    · exact .inl q
    · exact .inr (if_pos ⟨ha, q⟩)
  refine ⟨H1, ⟨S, h1, sn, fun i ds p k1 k2 => ?_, e1, E⟩, e01, n10, fun H' S' hs e' a o h => ?_⟩
  · obtain ⟨p', vs, q1, q2, _, _⟩ := E.own i ds k1
    rw [k2] at q1
    cases q1
    have n0 := h3 i ds p k1 k2
    rcases sn p q2 with q | q
    · obtain ⟨o, r⟩ := tr p q
      rw [n0] at r
      cases r
    · exact q
  · have ha : a ∉ S := fun z => by
      rw [hide_in z] at h
      cases h
    rw [hide_out ha] at h
    have k1 : H1 a = some o := by
      show (if a ∈ S ∧ a ∉ S0 then none else H a) = some o
      rw [if_neg fun z => ha z.1]
      exact h
    have ns : a ∉ S' := fun z => by
      rcases hs a z with q | q
      · exact ha (h1 a q)
      · rw [k1] at q
        cases q
    rw [hide_out ns]
    exact e' a o k1
theorem StOk.weaken {H1 : Hp} (e : Ex H0 H1) (n : ∀ p, H1 p = none → H0 p = none) (h : StOk K S0 H1 H σ ρ) : StOk K S0 H0 H σ ρ :=
  let ⟨S, h1, h2, h3, h4, h5⟩ := h
  ⟨S, h1, fun a ha => (h2 a ha).imp_right (n a), fun i ds p a b => n p (h3 i ds p a b), e.trans h4, h5⟩
theorem Fit.weaken {H1 : Hp} (e : Ex H0 H1) (n : ∀ p, H1 p = none → H0 p = none) (f : Fit K S0 H0 j En) : Fit K S0 H1 j En :=
  ⟨fun σ H ρ h => f.nx σ H ρ (h.weaken e n), fun v H d h => f.rt v H d (e.trans h), fun σ H ρ h => f.bk σ H ρ (h.weaken e n), fun σ H ρ h => f.ct σ H ρ (h.weaken e n)⟩
end

section
variable {X : Cx} {ρ : Rho} {j : J} {st : Stmt} {rest sts : List Stmt} {e : Expr} {pos : Pos}
theorem xb_nil (h : j.nx ρ) : XB X [] ρ j := fun S0 H0 tr => impSs pss_nil fun En σ H ⟨ok, f⟩ => f.nx σ H ρ ok h
theorem xb_cons (h : XS X st ρ { j with nx := fun ρ' => XB X rest ρ' j }) : XB X (st :: rest) ρ j := fun S0 H0 tr =>
  impSs (pss_cons anyS anySs) fun En σ H ⟨ok, f⟩ => ⟨_, h S0 H0 tr, ok, ⟨fun σ' H' ρ' ok' hb => ⟨_, hb S0 H0 tr, ok', f⟩, f.rt, f.bk, f.ct⟩⟩
theorem XS.imp {j' : J} (h : XS X st ρ j) (n : ∀ ρ, j.nx ρ → j'.nx ρ) (r : ∀ d, j.rt d → j'.rt d) (b : ∀ ρ, j.bk ρ → j'.bk ρ) (c : ∀ ρ, j.ct ρ → j'.ct ρ) : XS X st ρ j' := fun S0 H0 tr =>
  impS (h S0 H0 tr) fun En σ H ⟨ok, f⟩ => ⟨ok, ⟨fun σ H ρ o k => f.nx σ H ρ o (n ρ k), fun v H d o a k => f.rt v H d o a (r d k), fun σ H ρ o k => f.bk σ H ρ o (b ρ k), fun σ H ρ o k => f.ct σ H ρ o (c ρ k)⟩⟩
theorem XB.imp {j' : J} (h : XB X sts ρ j) (n : ∀ ρ, j.nx ρ → j'.nx ρ) (r : ∀ d, j.rt d → j'.rt d) (b : ∀ ρ, j.bk ρ → j'.bk ρ) (c : ∀ ρ, j.ct ρ → j'.ct ρ) : XB X sts ρ j' := fun S0 H0 tr =>
  impSs (h S0 H0 tr) fun En σ H ⟨ok, f⟩ => ⟨ok, ⟨fun σ H ρ o k => f.nx σ H ρ o (n ρ k), fun v H d o a k => f.rt v H d o a (r d k), fun σ H ρ o k => f.bk σ H ρ o (b ρ k), fun σ H ρ o k => f.ct σ H ρ o (c ρ k)⟩⟩
/-- name = e -/
theorem xs_set (i : Nat) {x : Str} {pos' : Pos} (h : XE X e ρ fun d => j.nx (ρ.set i (.dat d))) (hN : X.N.Nodup) (hi : X.N[i]? = some x := by rfl) (hx : Loc X.env.scope x := by first | exact Or.inl rfl | exact Or.inr rfl)
    (hs : swapsWith e (some (.Name x pos')) pos.line X.env = pure false := by rfl) (hf : X.fn x = true ∨ X.env.scope.names.lookup x = some .local := by first | exact .inl rfl | exact .inr rfl) :
    XS X (.Assign [.Name x pos'] e pos) ρ j := fun S0 H0 tr =>
  impS (ps_set hN hi hx anyE hs hf) fun En σ H ⟨⟨S, h1, h2, h3, h4, E⟩, f⟩ => useE h E fun v H2 d e2 a hk =>
    f.nx _ _ _ (StOk.store h1 h2 h3 (h4.trans e2) (E.mono e2) a) hk
/-- name = a new list, the frame's own -/
theorem xs_setN (i : Nat) {x : Str} {pos' : Pos} (h : XN X e ρ fun ds => j.nx (ρ.set i (.own ds))) (hN : X.N.Nodup) (hi : X.N[i]? = some x := by rfl) (hx : Loc X.env.scope x := by first | exact Or.inl rfl | exact Or.inr rfl)
    (hs : swapsWith e (some (.Name x pos')) pos.line X.env = pure false := by rfl) (hf : X.fn x = true ∨ X.env.scope.names.lookup x = some .local := by first | exact .inl rfl | exact .inr rfl) :
    XS X (.Assign [.Name x pos'] e pos) ρ j := fun S0 H0 tr =>
  impS (ps_set hN hi hx anyE hs hf) fun En σ H ⟨⟨S, h1, h2, h3, h4, E⟩, f⟩ => ⟨_, h, S, E, fun p H2 vs ds hn e2 hp a hk => by
    refine f.nx _ _ _ ⟨p :: S, fun b hb => List.mem_cons_of_mem _ (h1 b hb), fun b hb => ?_, fun l ds' q k1 k2 => ?_, h4.trans e2, E.storeOwn e2 hn hp a⟩ hk
    · rcases List.mem_cons.mp hb with z | z
      · rw [z]
        exact .inr (h4.back hn)
      · exact h2 b z
    · rcases ent_set k1 with ⟨rfl, r⟩ | ⟨ne, r⟩
      · have hl : l < σ.length := by rw [E.len]; exact set_lt k1
        rw [List.getElem?_set_self hl] at k2
        cases k2
        exact h4.back hn
      · rw [List.getElem?_set_ne (Ne.symm ne)] at k2
        exact h3 l ds' q r k2⟩
/-- the frame's own list becomes data: it isn't written any more -/
theorem xb_data (i : Nat) {ds : List D} (hi : ρ[i]? = some (.own ds)) (h : XB X sts (ρ.set i (.dat (.lst ds))) j) : XB X sts ρ j := fun S0 H0 tr =>
  impSs (h S0 H0 tr) fun En σ H ⟨⟨S, h1, h2, h3, h4, E⟩, f⟩ => by
    obtain ⟨p, vs, g1, g2, g3, g4⟩ := E.own i ds hi
    have n0 := h3 i ds p hi g1
    have npS0 : p ∉ S0 := fun z => by
      obtain ⟨o, r⟩ := tr p z
      rw [n0] at r
      cases r
    refine ⟨⟨S.filter (fun a => decide (a ≠ p)), fun a ha => ?_, fun a ha => h2 a (List.mem_filter.mp ha).1, fun l es q k1 k2 => ?_, h4, ?_⟩, f⟩
    · exact List.mem_filter.mpr ⟨h1 a ha, by simpa using fun z => npS0 (by rw [← z]; exact ha)⟩
    · rcases ent_set k1 with ⟨rfl, r⟩ | ⟨ne, r⟩
      · cases r
      · exact h3 l es q r k2
    · have sub : Ex (hide S H) (hide (S.filter (fun a => decide (a ≠ p))) H) := hide_sub fun a ha => (List.mem_filter.mp ha).1
      have out : p ∉ S.filter (fun a => decide (a ≠ p)) := fun z => by simpa using (List.mem_filter.mp z).2
      have hil : i < ρ.length := get_lt hi
      refine ⟨by simp [E.len], fun a ha => E.trk a (List.mem_filter.mp ha).1, fun l d k => ?_, fun l es k => ?_, fun l m es fs q k1 k2 k3 k4 => ?_⟩
      · rcases ent_set k with ⟨rfl, r⟩ | ⟨ne, r⟩
        · cases r
          refine ⟨_, g1, .lst (SqL.of ?_) (g4.mono sub)⟩
          rw [hide_out out]
          exact g3
        · obtain ⟨v, r1, r2⟩ := E.dat l d r
          exact ⟨v, r1, r2.mono sub⟩
      · rcases ent_set k with ⟨rfl, r⟩ | ⟨ne, r⟩
        · cases r
        · obtain ⟨q, us, r1, r2, r3, r4⟩ := E.own l es r
          refine ⟨q, us, r1, List.mem_filter.mpr ⟨r2, ?_⟩, r3, r4.mono sub⟩
          have : q ≠ p := fun z => by
            rw [z] at r1
            exact ne (E.sep l i es ds p r hi r1 g1)
          simpa using this
      · rcases ent_set k1 with ⟨rfl, r⟩ | ⟨ne, r⟩
        · cases r
        · rcases ent_set k2 with ⟨rfl, r'⟩ | ⟨ne', r'⟩
          · cases r'
          · exact E.sep l m es fs q r r' k3 k4
theorem xs_ret (h : XE X e ρ j.rt) : XS X (.Return (some e) pos) ρ j := fun S0 H0 tr =>
  impS (ps_ret anyE) fun En σ H ⟨⟨S, h1, h2, h3, h4, E⟩, f⟩ => useE h E fun v H2 d e2 a hk => f.rt v H2 d (h4.trans e2) (a.mono (hide_sub h1)) hk
theorem xs_retN (h : j.rt .non) : XS X (.Return none pos) ρ j := fun S0 H0 tr =>
  impS ps_retN fun En σ H ⟨⟨S, h1, h2, h3, h4, E⟩, f⟩ => f.rt .non H .non h4 .non h
theorem xs_if {c : Expr} {p q : List Stmt} (h : XT X c ρ fun b => if b = true then XB X p ρ j else XB X q ρ j) : XS X (.If c p q pos) ρ j := fun S0 H0 tr =>
  impS (ps_if anyT anySs anySs) fun En σ H ⟨⟨S, h1, h2, h3, h4, E⟩, f⟩ => useT h E fun b H2 e2 hk => by
    have ok : StOk X.K S0 H0 H2 σ ρ := ⟨S, h1, h2, h3, h4.trans e2, E.mono e2⟩
    cases b with
    | true => exact ⟨_, hk S0 H0 tr, ok, f⟩
    | false => exact ⟨_, hk S0 H0 tr, ok, f⟩
theorem xs_pass (h : j.nx ρ) : XS X (.Pass pos) ρ j := fun S0 H0 tr => impS ps_pass fun En σ H ⟨ok, f⟩ => f.nx σ H ρ ok h
theorem xs_break (h : j.bk ρ) : XS X (.Break pos) ρ j := fun S0 H0 tr => impS ps_break fun En σ H ⟨ok, f⟩ => f.bk σ H ρ ok h
theorem xs_cont (h : j.ct ρ) : XS X (.Continue pos) ρ j := fun S0 H0 tr => impS ps_continue fun En σ H ⟨ok, f⟩ => f.ct σ H ρ ok h
theorem xs_expr (h : XE X e ρ fun _ => j.nx ρ) (hs : swapsWith e none pos.line X.env = pure false := by rfl) : XS X (.Expr e pos) ρ j := fun S0 H0 tr =>
  impS (ps_expr anyE hs) fun En σ H ⟨⟨S, h1, h2, h3, h4, E⟩, f⟩ => useE h E fun v H2 d e2 a hk => f.nx σ H2 ρ ⟨S, h1, h2, h3, h4.trans e2, E.mono e2⟩ hk
/-- a raise, where the way can't be -/
theorem xs_never (h : False) : XS X st ρ j := h.elim
theorem xb_never (h : False) : XB X sts ρ j := h.elim
end

section
variable {X : Cx} {ρ : Rho} {j : J} {a b c : Expr} {pos : Pos}
/-- x, y = a, b -/
theorem xs_par (i l : Nat) {x y : Str} {px py pt : Pos} {kt k2 pt2} (hc : X.calm = true) (hN : X.N.Nodup)
    (h : XE X a ρ fun d => XE X b ρ fun d' => j.nx ((ρ.set i (.dat d)).set l (.dat d')))
    (hw : swappedStores [.Tuple [.Name x px, .Name y py] kt pt] (.Tuple [a, b] k2 pt2) X.env = pure (some [x, y]))
    (hi : X.N[i]? = some x := by rfl) (hl : X.N[l]? = some y := by rfl) (hil : i ≠ l := by decide)
    (hx : X.env.scope.names.lookup x = some .local := by rfl) (hy : X.env.scope.names.lookup y = some .local := by rfl)
    (hs : swapsWithSole [.Tuple [.Name x px, .Name y py] kt pt] (.Tuple [a, b] k2 pt2) pos.line X.env = pure false := by rfl)
    (s1 : starEach [a, b] X.env = (false, eval a X.env) :: starEach [b] X.env := by rfl) (s2 : starEach [b] X.env = (false, eval b X.env) :: starEach [] X.env := by rfl) :
    XS X (.Assign [.Tuple [.Name x px, .Name y py] kt pt] (.Tuple [a, b] k2 pt2) pos) ρ j := fun S0 H0 tr =>
  impS (ps_par hc hN hi hl hil hx hy (pa_cons anyE (pa_cons anyE pa_nil s2) s1) hw hs) fun En σ H ⟨⟨S, h1, h2, h3, h4, E⟩, f⟩ =>
    useE h E fun v H1 d e1 a1 hb => useE hb (E.mono e1) fun u H2 d' e2 a2 hk => ⟨v, u, rfl, by
      have E2 := (E.mono e1).mono e2
      have ok1 := E2.store (i := i) (a1.mono (hide_ex e2))
      refine f.nx _ _ _ ⟨S, h1, h2, fun m es q k1 k2 => ?_, h4.trans (e1.trans e2), ok1.store (i := l) a2⟩ hk
      rcases ent_set k1 with ⟨rfl, r⟩ | ⟨ne, r⟩
      · cases r
      · rcases ent_set r with ⟨rfl, r'⟩ | ⟨ne', r'⟩
        · cases r'
        · rw [List.getElem?_set_ne (Ne.symm ne), List.getElem?_set_ne (Ne.symm ne')] at k2
          exact h3 m es q r' k2⟩
end
end VL

set_option Elab.async false
set_option linter.all false
set_option maxRecDepth 100000
set_option maxHeartbeats 4000000
namespace VL
open PySem L2

/-! ## Defs -/
abbrev Con := List D → (D → Prop) → Prop
def spC (K : PySem.W.Frag) (n : Nat) (C : Con) : Sp := fun vs H Q _ => ∃ S ds k, vs.length = n ∧ Trk S H ∧ AtL K (hide S H) vs ds ∧ C ds k ∧ ∀ v H2 d, Ex H H2 → At K (hide S H2) v d → k d → Q v H2
def startR (n : Nat) (ds : List D) : Rho := ds.map .dat ++ List.replicate (n - ds.length) .un
section
variable {K : PySem.W.Frag} {S : List Addr} {H : Hp}
theorem start_ok (tr : Trk S H) {N : List Str} {vs : List V} {ds : List D} (hl : vs.length ≤ N.length) (a : AtL K (hide S H) vs ds) : StOk K S H H (L2.start N vs) (startR N.length ds) := by
  have el := a.length
  have noown : ∀ (i : Nat) (es : List D), ¬ (startR N.length ds)[i]? = some (.own es) := fun i es h => by
    unfold startR at h
    by_cases hi : i < ds.length
    · rw [List.getElem?_append_left (by simpa using hi), List.getElem?_map] at h
      cases q : ds[i]? with
      | none => rw [q] at h; cases h
      | some d => rw [q] at h; cases h
    · rw [List.getElem?_append_right (by simpa using hi), List.getElem?_replicate] at h
      split at h <;> cases h
  refine ⟨S, fun _ h => h, fun _ h => .inl h, fun i es p h => absurd h (noown i es), Ex.refl H, ?_, tr, fun i d h => ?_, fun i es h => absurd h (noown i es), fun i j es fs p h => absurd h (noown i es)⟩
  · unfold startR L2.start
    simp [el]
  · unfold startR at h
    by_cases hi : i < ds.length
    · rw [List.getElem?_append_left (by simpa using hi), List.getElem?_map] at h
      cases q : ds[i]? with
      | none => rw [q] at h; cases h
      | some d' =>
        rw [q] at h
        cases h
        obtain ⟨v, hv, r⟩ := a.get q
        refine ⟨v, ?_, r⟩
        unfold L2.start
        rw [List.getElem?_append_left (by simpa [el] using hi), List.getElem?_map, hv]
        rfl
    · rw [List.getElem?_append_right (by simpa using hi), List.getElem?_replicate] at h
      split at h <;> cases h
end
section
variable {P : Program} {w : World} {K : PySem.W.Frag} {mg : Str → Option Value} {base : Heap}
/-- a def by its body -/
theorem xdef {x qual : Str} {st : Stmt} {f : Addr} {fd : FuncData} {N ps : List Str} {n : Nat} {C : Con} (F : Fun K x qual st f fd) (Sc : FnScope N ps (defScope st))
    (body : ∀ (ds : List D) (k : D → Prop), ds.length = ps.length → C ds k → ∀ (cdv : Value) (A : Around) (outer : List Env) (s : Shared) (H : Hp) (E : XK), Room n (A.deeper (PyProof.Rows.envOfC qual (defScope st) s.heap.objs.size f cdv)) →
      XB (cxOf CX0 P w K mg base N qual (defScope st) f cdv A outer s H E).nox (defBody st) (startR N.length ds) { nx := fun _ => k .non, rt := k }) : FnOk P w K mg base CX0 (n + 1) f fd ps (spC K ps.length C) := by
  have hpl : ps.length ≤ N.length := by
    have := congrArg List.length Sc.pre
    rw [List.length_take] at this
    omega
  refine F.ok Sc (fun vs H Q E h => ?_) fun cdv A outer s H vs Q E hr h => ?_
  · obtain ⟨_, _, _, hl, _⟩ := h
    exact hl
  · obtain ⟨S, ds, k, hl, tr, a, hc, q⟩ := h
    have hb := body ds k (by rw [← a.length]; exact hl) hc cdv A outer s H E hr
    refine ⟨_, hb S H tr, start_ok tr (by omega) a, ⟨fun σ' H' ρ' ok hn => ?_, fun v H' d e at_ hk => q v H' d e at_ hk, fun _ _ _ _ z => z.elim, fun _ _ _ _ z => z.elim⟩⟩
    obtain ⟨_, _, _, _, e, _⟩ := ok
    exact q .non H' .non e .non hn
/-- what callers know of a def: its name, its parameters, its contract; k: how deep it calls -/
structure Fn (P : Program) (w : World) (K : PySem.W.Frag) (mg : Str → Option Value) (base : Heap) (k : Nat) (x : Str) (ps : List Str) (C : Con) : Prop where
  ex : ∃ f fd, mg x = some (.ref f) ∧ PySem.W.keepIn K (.ref f) = true ∧ Binds K fd ps [] ∧ FnOk P w K mg base CX0 k f fd ps (spC K ps.length C)
theorem Fn.mono {j k : Nat} {x : Str} {ps : List Str} {C : Con} (F : Fn P w K mg base j x ps C) (h : j ≤ k) : Fn P w K mg base k x ps C :=
  let ⟨f, fd, h1, h2, h3, h4⟩ := F.ex
  ⟨f, fd, h1, h2, h3, h4.mono h⟩
theorem Fn.imp {k : Nat} {x : Str} {ps : List Str} {C C' : Con} (F : Fn P w K mg base k x ps C) (h : ∀ ds k, ds.length = ps.length → C' ds k → C ds k) : Fn P w K mg base k x ps C' :=
  let ⟨f, fd, h1, h2, h3, h4⟩ := F.ex
  ⟨f, fd, h1, h2, h3, h4.imp fun vs H Q E ⟨S, ds, k, hl, tr, a, hc, q⟩ => ⟨S, ds, k, hl, tr, a, h ds k (by rw [← a.length]; exact hl) hc, q⟩⟩
end
section
variable {X : Cx} {ρ : Rho} {e : Expr} {es : List Expr} {pos p : Pos} {k : D → Prop}
theorem xe_call {n m : Nat} {x : Str} {ps : List Str} {C : Con} (F : Fn X.prog X.w X.K X.mg X.base n x ps C) (hr : Room m X.A) (h : XA X (e :: es) ρ fun ds => ds.length = ps.length ∧ C ds k) (hnm : n ≤ m := by decide) (hg : Gl X x := by rfl)
    (hdb : (x == ("__debug__" : Str)) = false := by decide) (he : starEach (e :: es) X.env = (false, eval e X.env) :: starEach es X.env := by rfl) (hpl : (backTo pos (starEach es X.env)).any (·.1) = false := by rfl) :
    XE X (.Call (.Name x p) (e :: es) [] pos) ρ k := by
  obtain ⟨f, fd, h1, h2, h3, h4⟩ := F.ex
  refine impE (pe_call h4 (hr.mono hnm) hg h1 h2 h3 .nil pass0 anyA hdb he hpl) fun σ H Q ⟨S, E, q⟩ => useA h E fun vs H1 ds e1 a1 ⟨hl, hc⟩ => ?_
  rw [List.append_nil]
  exact ⟨S, ds, k, by rw [a1.length]; exact hl, (E.mono e1).trk, a1, hc, fun v H2 d e2 a2 hk => q v H2 d (e1.trans e2) a2 hk⟩
/-- a def without parameters -/
theorem xe_call0 {n m : Nat} {x : Str} {C : Con} (F : Fn X.prog X.w X.K X.mg X.base n x [] C) (hr : Room m X.A) (h : C [] k) (hnm : n ≤ m := by decide) (hg : Gl X x := by rfl) (hdb : (x == ("__debug__" : Str)) = false := by decide) :
    XE X (.Call (.Name x p) [] [] pos) ρ k := by
  obtain ⟨f, fd, h1, h2, h3, h4⟩ := F.ex
  exact impE (pe_call0 h4 (hr.mono hnm) hg h1 h2 h3 .nil pass0 hdb) fun σ H Q ⟨S, E, q⟩ => ⟨S, [], k, rfl, E.trk, .nil, h, fun v H2 d e2 a2 hk => q v H2 d e2 a2 hk⟩
end

/-! ## Subscripts, built-ins -/
section
variable {X : Cx} {ρ : Rho} {a b c e : Expr} {es : List Expr} {pos p : Pos} {k : D → Prop} {kb : Bool → Prop} {kl : List D → Prop}
theorem atI_at {K : PySem.W.Frag} {H : Hp} {vs : List V} {ds : List D} {i : Int} {d : D} (a : AtL K H vs ds) (h : atI ds i = some d) : ∃ v, atI vs i = some v ∧ At K H v d := by
  unfold atI at h ⊢
  rw [a.length]
  cases q : ixN ds.length i with
  | none => rw [q] at h; cases h
  | some j =>
    rw [q] at h
    obtain ⟨v, h1, h2⟩ := a.get (i := j) (d := d) h
    exact ⟨v, h1, h2⟩
/-- t[i] -/
theorem xe_ixT (h : XE X a ρ fun x => ∃ ds, x = .tup ds ∧ XE X b ρ fun y => ∃ i, y = .int i ∧ ∃ d, atI ds i = some d ∧ k d) (hs : PlainIx b := by exact fun _ _ => rfl) : XE X (.Subscript a b pos) ρ k :=
  impE (pe_ix ix_tup anyE anyE hs) fun σ H Q ⟨S, E, q⟩ => useE h E fun x H1 d e1 a1 ⟨ds, hd, hb⟩ => useE hb (E.mono e1) fun y H2 d2 e2 a2 ⟨i, hi, r, hr, hk⟩ => by
    subst hd hi
    obtain ⟨p, vs, rfl, h1, h2⟩ := a1.inv_tup
    obtain ⟨v, g1, g2⟩ := atI_at h2 hr
    exact ⟨p, vs, i, v, rfl, a2.inv_int, ex_t hide_le (ex_t (hide_ex e2) h1), g1, q v H2 r (e1.trans e2) (g2.mono (hide_ex e2)) hk⟩
/-- l[i] -/
theorem xe_ixL (h : XL X a ρ fun ds => XE X b ρ fun y => ∃ i, y = .int i ∧ ∃ d, atI ds i = some d ∧ k d) (hs : PlainIx b := by exact fun _ _ => rfl) : XE X (.Subscript a b pos) ρ k :=
  impE (pe_ix ix_list anyE anyE hs) fun σ H Q ⟨S, E, q⟩ => useL h E fun p H1 vs ds e1 h1 h2 hb => useE hb (E.mono e1) fun y H2 d2 e2 a2 ⟨i, hi, r, hr, hk⟩ => by
    subst hi
    obtain ⟨v, g1, g2⟩ := atI_at h2 hr
    exact ⟨p, vs, i, v, rfl, a2.inv_int, ex_l e2 h1, g1, q v H2 r (e1.trans e2) (g2.mono (hide_ex e2)) hk⟩
/-- a built-in's call, one argument of data -/
theorem xe_cb1 {x : Str} {id : String} {r : List V → Hp → VK → Prop} (hc : CallR X (.builtin id) r) (hm : X.mg x = none) (hv : bootBuiltins x = some (.builtin id)) {R : D → D → Prop}
    (hr : ∀ v d d' H S Q, At X.K (hide S H) v d → R d d' → (∀ v2, At X.K (hide S H) v2 d' → Q v2 H) → r [v] H Q) (h : XE X a ρ fun d => ∃ d', R d d' ∧ k d') (hg : Gl X x := by rfl) (hn : x ≠ "__name__" := by decide) (hdb : (x == ("__debug__" : Str)) = false := by decide)
    (he : starEach (a :: []) X.env = (false, eval a X.env) :: starEach [] X.env := by rfl) : XE X (.Call (.Name x p) [a] [] pos) ρ k :=
  impE (pe_callB hc hg hm hv (pa_cons anyE pa_nil he) hn hdb he rfl) fun σ H Q ⟨S, E, q⟩ => useE h E fun v H1 d e1 a1 ⟨d', hR, hk⟩ => hr v d d' H1 S Q a1 hR fun v2 a2 => q v2 H1 d' e1 a2 hk
theorem xe_ct1 {x : Str} {T : String} {r : List V → Hp → VK → Prop} (hc : CallR X (.type T) r) (hm : X.mg x = none) (hv : bootBuiltins x = some (.type T)) {R : D → D → Prop}
    (hr : ∀ v d d' H S Q, At X.K (hide S H) v d → R d d' → (∀ v2, At X.K (hide S H) v2 d' → Q v2 H) → r [v] H Q) (h : XE X a ρ fun d => ∃ d', R d d' ∧ k d') (hg : Gl X x := by rfl) (hn : x ≠ "__name__" := by decide) (hdb : (x == ("__debug__" : Str)) = false := by decide)
    (he : starEach (a :: []) X.env = (false, eval a X.env) :: starEach [] X.env := by rfl) : XE X (.Call (.Name x p) [a] [] pos) ρ k :=
  impE (pe_callTy hc hg hm hv (pa_cons anyE pa_nil he) hn hdb he rfl) fun σ H Q ⟨S, E, q⟩ => useE h E fun v H1 d e1 a1 ⟨d', hR, hk⟩ => hr v d d' H1 S Q a1 hR fun v2 a2 => q v2 H1 d' e1 a2 hk
theorem xe_abs (hm : X.mg "abs" = none) (h : XE X a ρ fun d => ∃ i, d = .int i ∧ k (.int (if i < 0 then -i else i))) (hg : Gl X "abs" := by rfl)
    (he : starEach (a :: []) X.env = (false, eval a X.env) :: starEach [] X.env := by rfl) : XE X (.Call (.Name "abs" p) [a] [] pos) ρ k :=
  xe_cb1 (R := fun d d' => ∃ i, d = .int i ∧ d' = .int (if i < 0 then -i else i)) call_abs hm (by decide +kernel) (fun v d d' H S Q a1 ⟨i, h1, h2⟩ q => by
    subst h1 h2
    exact ⟨i, by rw [a1.inv_int], q _ (.int _)⟩) (h.imp fun d ⟨i, h1, h2⟩ => ⟨_, ⟨i, h1, rfl⟩, h2⟩) hg (by decide) (by decide) he
/-- int(n) -/
theorem xe_intI (hm : X.mg "int" = none) (h : XE X a ρ fun d => ∃ i, d = .int i ∧ k (.int i)) (hg : Gl X "int" := by rfl)
    (he : starEach (a :: []) X.env = (false, eval a X.env) :: starEach [] X.env := by rfl) : XE X (.Call (.Name "int" p) [a] [] pos) ρ k :=
  xe_ct1 (R := fun d d' => ∃ i, d = .int i ∧ d' = .int i) call_int1 hm (by decide +kernel) (fun v d d' H S Q a1 ⟨i, h1, h2⟩ q => by
    subst h1 h2
    exact .inl ⟨i, by rw [a1.inv_int], q _ (.int _)⟩) (h.imp fun d ⟨i, h1, h2⟩ => ⟨_, ⟨i, h1, rfl⟩, h2⟩) hg (by decide) (by decide) he
theorem xe_strI (hm : X.mg "str" = none) (h : XE X a ρ fun d => ∃ i, d = .int i ∧ i.natAbs.log2 < 1920 ∧ k (.str (toString i))) (hg : Gl X "str" := by rfl)
    (he : starEach (a :: []) X.env = (false, eval a X.env) :: starEach [] X.env := by rfl) : XE X (.Call (.Name "str" p) [a] [] pos) ρ k :=
  xe_ct1 (R := fun d d' => ∃ i, d = .int i ∧ i.natAbs.log2 < 1920 ∧ d' = .str (toString i)) call_str_int hm (by decide +kernel) (fun v d d' H S Q a1 ⟨i, h1, h0, h2⟩ q => by
    subst h1 h2
    exact ⟨i, by rw [a1.inv_int], h0, q _ (.str _)⟩) (h.imp fun d ⟨i, h1, h0, h2⟩ => ⟨_, ⟨i, h1, h0, rfl⟩, h2⟩) hg (by decide) (by decide) he
/-- two arguments -/
theorem xe_cb2 {x : Str} {id : String} {r : List V → Hp → VK → Prop} (hc : CallR X (.builtin id) r) (hm : X.mg x = none) (hv : bootBuiltins x = some (.builtin id)) {R : D → D → D → Prop}
    (hr : ∀ v u d d2 d' H S Q, At X.K (hide S H) v d → At X.K (hide S H) u d2 → R d d2 d' → (∀ v2, At X.K (hide S H) v2 d' → Q v2 H) → r [v, u] H Q) (h : XE X a ρ fun d => XE X b ρ fun d2 => ∃ d', R d d2 d' ∧ k d') (hg : Gl X x := by rfl) (hn : x ≠ "__name__" := by decide) (hdb : (x == ("__debug__" : Str)) = false := by decide)
    (he : starEach (a :: b :: []) X.env = (false, eval a X.env) :: starEach [b] X.env := by rfl) (he2 : starEach (b :: []) X.env = (false, eval b X.env) :: starEach [] X.env := by rfl) (hpl : (backTo pos (starEach [b] X.env)).any (·.1) = false := by rfl) : XE X (.Call (.Name x p) [a, b] [] pos) ρ k :=
  impE (pe_callB hc hg hm hv (pa_cons anyE (pa_cons anyE pa_nil he2) he) hn hdb he hpl) fun σ H Q ⟨S, E, q⟩ => useE h E fun v H1 d e1 a1 hb => useE hb (E.mono e1) fun u H2 d2 e2 a2 ⟨d', hR, hk⟩ =>
    hr v u d d2 d' H2 S Q (a1.mono (hide_ex e2)) a2 hR fun v2 a3 => q v2 H2 d' (e1.trans e2) a3 hk
theorem xe_max (hc : X.calm = true) (hm : X.mg "max" = none) (h : XE X a ρ fun x => ∃ i, x = .int i ∧ XE X b ρ fun y => ∃ j, y = .int j ∧ k (.int (if j > i then j else i))) (hg : Gl X "max" := by rfl)
    (he : starEach (a :: b :: []) X.env = (false, eval a X.env) :: starEach [b] X.env := by rfl) (he2 : starEach (b :: []) X.env = (false, eval b X.env) :: starEach [] X.env := by rfl) (hpl : (backTo pos (starEach [b] X.env)).any (·.1) = false := by rfl) : XE X (.Call (.Name "max" p) [a, b] [] pos) ρ k :=
  xe_cb2 (R := fun d d2 d' => ∃ i j, d = .int i ∧ d2 = .int j ∧ d' = .int (if j > i then j else i)) (call_max2 hc) hm (by decide +kernel) (fun v u d d2 d' H S Q a1 a2 ⟨i, j, h1, h2, h3⟩ q => by
    subst h1 h2 h3
    exact ⟨i, j, by rw [a1.inv_int, a2.inv_int], q _ (.int _)⟩) (h.imp fun d ⟨i, h1, h2⟩ => h2.imp fun d2 ⟨j, h3, h4⟩ => ⟨_, ⟨i, j, h1, h3, rfl⟩, h4⟩) hg (by decide) (by decide) he he2 hpl
theorem xe_min (hc : X.calm = true) (hm : X.mg "min" = none) (h : XE X a ρ fun x => ∃ i, x = .int i ∧ XE X b ρ fun y => ∃ j, y = .int j ∧ k (.int (if j < i then j else i))) (hg : Gl X "min" := by rfl)
    (he : starEach (a :: b :: []) X.env = (false, eval a X.env) :: starEach [b] X.env := by rfl) (he2 : starEach (b :: []) X.env = (false, eval b X.env) :: starEach [] X.env := by rfl) (hpl : (backTo pos (starEach [b] X.env)).any (·.1) = false := by rfl) : XE X (.Call (.Name "min" p) [a, b] [] pos) ρ k :=
  xe_cb2 (R := fun d d2 d' => ∃ i j, d = .int i ∧ d2 = .int j ∧ d' = .int (if j < i then j else i)) (call_min2 hc) hm (by decide +kernel) (fun v u d d2 d' H S Q a1 a2 ⟨i, j, h1, h2, h3⟩ q => by
    subst h1 h2 h3
    exact ⟨i, j, by rw [a1.inv_int, a2.inv_int], q _ (.int _)⟩) (h.imp fun d ⟨i, h1, h2⟩ => h2.imp fun d2 ⟨j, h3, h4⟩ => ⟨_, ⟨i, j, h1, h3, rfl⟩, h4⟩) hg (by decide) (by decide) he he2 hpl
/-- len of a tuple, of a list -/
theorem xe_lenT (hm : X.mg "len" = none) (h : XE X a ρ fun x => ∃ ds, x = .tup ds ∧ k (.int ds.length)) (hg : Gl X "len" := by rfl)
    (he : starEach (a :: []) X.env = (false, eval a X.env) :: starEach [] X.env := by rfl) : XE X (.Call (.Name "len" p) [a] [] pos) ρ k :=
  xe_cb1 (R := fun d d' => ∃ ds, d = .tup ds ∧ d' = .int ds.length) call_len_seq hm (by decide +kernel) (fun v d d' H S Q a1 ⟨ds, h1, h2⟩ q => by
    subst h1 h2
    obtain ⟨p, vs, rfl, g1, g2⟩ := a1.inv_tup
    refine ⟨p, vs, rfl, .inr (ex_t hide_le g1), ?_⟩
    rw [g2.length]
    exact q _ (.int _)) (h.imp fun d ⟨i, h1, h2⟩ => ⟨_, ⟨i, h1, rfl⟩, h2⟩) hg (by decide) (by decide) he
theorem xe_lenL (hm : X.mg "len" = none) (h : XL X a ρ fun ds => k (.int ds.length)) (hg : Gl X "len" := by rfl)
    (he : starEach (a :: []) X.env = (false, eval a X.env) :: starEach [] X.env := by rfl) : XE X (.Call (.Name "len" p) [a] [] pos) ρ k :=
  impE (pe_callB call_len_seq hg hm (by decide +kernel) (pa_cons anyE pa_nil he) (by decide) (by decide) he rfl) fun σ H Q ⟨S, E, q⟩ => useL h E fun p H1 vs ds e1 h1 h2 hk => by
    refine ⟨p, vs, rfl, .inl h1, ?_⟩
    rw [h2.length]
    exact q _ _ _ e1 (.int _) hk
theorem xe_lenS (hm : X.mg "len" = none) (h : XE X a ρ fun x => ∃ z, x = .str z ∧ z.length ≤ sizeLine ∧ k (.int z.length)) (hg : Gl X "len" := by rfl)
    (he : starEach (a :: []) X.env = (false, eval a X.env) :: starEach [] X.env := by rfl) : XE X (.Call (.Name "len" p) [a] [] pos) ρ k :=
  xe_cb1 (R := fun d d' => ∃ z, d = .str z ∧ z.length ≤ sizeLine ∧ d' = .int z.length) call_len_str hm (by decide +kernel) (fun v d d' H S Q a1 ⟨ds, h1, h0, h2⟩ q => by
    subst h1 h2
    exact ⟨ds, by rw [a1.inv_str], h0, q _ (.int _)⟩) (h.imp fun d ⟨i, h1, h0, h2⟩ => ⟨_, ⟨i, h1, h0, rfl⟩, h2⟩) hg (by decide) (by decide) he
/-- tuple(list) -/
theorem xe_tupL (hm : X.mg "tuple" = none) (h : XL X a ρ fun ds => k (.tup ds)) (hg : Gl X "tuple" := by rfl)
    (he : starEach (a :: []) X.env = (false, eval a X.env) :: starEach [] X.env := by rfl) : XE X (.Call (.Name "tuple" p) [a] [] pos) ρ k :=
  impE (pe_callTy call_tuple_of hg hm (by decide +kernel) (pa_cons anyE pa_nil he) (by decide) (by decide) he rfl) fun σ H Q ⟨S, E, q⟩ => useL h E fun p H1 vs ds e1 h1 h2 hk =>
    ⟨p, vs, rfl, .inl ⟨h1, fun l hl => by
      have np := hide_new (E.mono e1).trk hl
      refine q _ _ _ (e1.trans (Ex.new hl)) (.tup (SqT.of ?_) (h2.mono (hide_ex (Ex.new hl)))) hk
      rw [hide_out np]
      exact upd_same⟩⟩
/-- all(list of truth values) -/
theorem bls_of {K : PySem.W.Frag} {H : Hp} : ∀ {vs : List V} {bs : List Bool}, AtL K H vs (bs.map D.bl) → vs = bs.map V.bl
  | [], [], _ => rfl
  | _ :: _, [], h => by cases h
  | [], _ :: _, h => by cases h
  | v :: vs, b :: bs, h => by
    cases h with
    | cons h t =>
      rw [h.inv_bl, bls_of t]
      rfl
theorem xe_all (hc : X.calm = true) (hm : X.mg "all" = none) (h : XL X a ρ fun ds => ∃ bs : List Bool, ds = bs.map D.bl ∧ k (.bl (bs.all id))) (hg : Gl X "all" := by rfl)
    (he : starEach (a :: []) X.env = (false, eval a X.env) :: starEach [] X.env := by rfl) : XE X (.Call (.Name "all" p) [a] [] pos) ρ k :=
  impE (pe_callB (cr_all hc) hg hm (by decide +kernel) (pa_cons anyE pa_nil he) (by decide) (by decide) he rfl) fun σ H Q ⟨S, E, q⟩ => useL h E fun p H1 vs ds e1 h1 h2 ⟨bs, hb, hk⟩ => by
    subst hb
    have ev := bls_of h2
    subst ev
    exact ⟨p, bs, rfl, h1, q _ _ _ e1 (.bl _) hk⟩
end

/-! ## Lists of the frame's own: append, a store -/
section
variable {K : PySem.W.Frag} {S0 S : List Addr} {H0 H : Hp} {σ : L2.St} {ρ : Rho}
theorem StOk.write {i : Nat} {ds es : List D} {p : Addr} {us : List V} (tr : Trk S0 H0) (h1 : ∀ a ∈ S0, a ∈ S) (h2 : ∀ a ∈ S, a ∈ S0 ∨ H0 a = none) (h3 : ∀ (i : Nat) (ds : List D) (p : Addr), ρ[i]? = some (.own ds) → σ[i]? = some (some (.ref p)) → H0 p = none)
    (h4 : Ex H0 H) (E : EnvOk K S H σ ρ) (hi : ρ[i]? = some (.own ds)) (hp : σ[i]? = some (some (.ref p))) (pS : p ∈ S) (a : AtL K (hide S H) us es) : StOk K S0 H0 (upd H p (.lst us)) σ (ρ.set i (.own es)) := by
  have n0 := h3 i ds p hi hp
  have eq : hide S (upd H p (.lst us)) = hide S H := hide_upd pS
  refine ⟨S, h1, h2, fun l fs q k1 k2 => ?_, h4.mut n0, by simp [E.len], fun b hb => ?_, fun l d k => ?_, fun l fs k => ?_, fun l m fs gs q k1 k2 k3 k4 => ?_⟩
  · rcases ent_set k1 with ⟨rfl, r⟩ | ⟨ne, r⟩
    · exact h3 l ds q hi k2
    · exact h3 l fs q r k2
  · by_cases z : b = p
    · exact ⟨_, by rw [z]; exact upd_same⟩
    · obtain ⟨o, q⟩ := E.trk b hb
      exact ⟨o, by rw [upd_ne z]; exact q⟩
  · rcases ent_set k with ⟨rfl, r⟩ | ⟨ne, r⟩
    · cases r
    · rw [eq]
      exact E.dat l d r
  · rw [eq]
    rcases ent_set k with ⟨rfl, r⟩ | ⟨ne, r⟩
    · cases r
      exact ⟨p, us, hp, pS, upd_same, a⟩
    · obtain ⟨q, vs, r1, r2, r3, r4⟩ := E.own l fs r
      have : q ≠ p := fun z => by
        rw [z] at r1
        exact ne (E.sep l i fs ds p r hi r1 hp)
      exact ⟨q, vs, r1, r2, by rw [upd_ne this]; exact r3, r4⟩
  · have fix : ∀ {m : Nat} {gs : List D}, (ρ.set i (.own es))[m]? = some (.own gs) → ∃ gs', ρ[m]? = some (.own gs') := fun {m gs} k => by
      rcases ent_set k with ⟨rfl, r⟩ | ⟨ne, r⟩
      · exact ⟨_, hi⟩
      · exact ⟨_, r⟩
    obtain ⟨_, r1⟩ := fix k1
    obtain ⟨_, r2⟩ := fix k2
    exact E.sep l m _ _ q r1 r2 k3 k4
end
section
variable {X : Cx} {ρ : Rho} {j : J} {e ix : Expr} {pos apos cpos p : Pos}
/-- name.append(e) -/
theorem xs_app (i : Nat) {x : Str} {ds : List D} (hi : ρ[i]? = some (.own ds)) (h : XE X e ρ fun d => ds.length < 100000 ∧ j.nx (ρ.set i (.own (ds ++ [d])))) (hN : X.N[i]? = some x := by rfl)
    (hv : Vis X.env.scope x := by first | exact Or.inl rfl | exact Or.inr (Or.inl rfl) | exact Or.inr (Or.inr rfl)) (h1' : (x == ("__debug__" : Str)) = false := by decide) (h2' : (x == ("__classdict__" : Str)) = false := by decide)
    (he : starEach (e :: []) X.env = (false, eval e X.env) :: starEach [] X.env := by rfl) (hs : swapsWith (.Call (.Attribute (.Name x p) "append" apos) [e] [] cpos) none pos.line X.env = pure false := by rfl)
    (hfew : ((backTo cpos (starEach [e] X.env)).all (fun x => !x.1) && (backToKw cpos (keywordEach [] X.env)).all (fun x => x.1.isSome) && decide (([e] : List Expr).length + ([] : List Keyword).length + (if ([] : List Keyword).isEmpty then 0 else 1) < 30)) = true := by rfl)
    (hline : (apos.endLine == cpos.line) = true := by rfl) :
    XS X (.Expr (.Call (.Attribute (.Name x p) "append" apos) [e] [] cpos) pos) ρ j := fun S0 H0 tr =>
  impS (ps_expr (pe_bm PySem.F.plainAttrs_list PySem.F.slot_list_append PySem.F.type_list_append mt_append (pe_var hN hv h1' h2') (pa_cons anyE pa_nil he) (hfew := hfew) (hline := hline) (hs := he)) hs) fun En σ H ⟨⟨S, h1, h2, h3, h4, E⟩, f⟩ => by
    obtain ⟨q, vs, g1, g2, g3, g4⟩ := E.own i ds hi
    refine ⟨_, g1, .inl ⟨rfl, vs, SqL.of g3⟩, useE h E fun v H2 d e2 a2 ⟨hl, hk⟩ => ⟨q, vs, v, rfl, rfl, e2 _ _ g3, sz_lt (by rw [g4.length]; exact hl), ?_⟩⟩
    exact f.nx _ _ _ (StOk.write tr h1 h2 h3 (h4.trans e2) (E.mono e2) hi g1 g2 ((g4.mono (hide_ex e2)).append (.cons a2 .nil))) hk
/-- name[ix] = e -/
theorem xs_put (i : Nat) {x : Str} {ds : List D} (hi : ρ[i]? = some (.own ds)) (h : XE X e ρ fun d => XE X ix ρ fun y => ∃ n : Nat, y = .int n ∧ n < ds.length ∧ j.nx (ρ.set i (.own (ds.set n d)))) (hN : X.N[i]? = some x := by rfl)
    (hv : Vis X.env.scope x := by first | exact Or.inl rfl | exact Or.inr (Or.inl rfl) | exact Or.inr (Or.inr rfl)) (h1' : (x == ("__debug__" : Str)) = false := by decide) (h2' : (x == ("__classdict__" : Str)) = false := by decide)
    (ha : ∀ v, assign (.Subscript (.Name x p) ix apos) X.env v = (do
      let ov ← holding [v] (eval (.Name x p) X.env)
      let iv ← holding [v, ov] (eval ix X.env)
      standAt apos
      holding [v, ov, iv] (setItem ov iv v)
      release [v, ov, iv] []) := by intro _; rfl)
    (hs : swapsWithSole [.Subscript (.Name x p) ix apos] e pos.line X.env = pure false := by rfl) (hw : swappedStores [.Subscript (.Name x p) ix apos] e X.env = pure none := by rfl)
    (h1 : (assignEach [.Subscript (.Name x p) ix apos] X.env).map (·.2) = [assign (.Subscript (.Name x p) ix apos) X.env] := by rfl) :
    XS X (.Assign [.Subscript (.Name x p) ix apos] e pos) ρ j := fun S0 H0 tr =>
  impS (ps_asg anyE (pg_sub (pe_var hN hv h1' h2') anyE set_list ha) hs hw h1) fun En σ H ⟨⟨S, h1, h2, h3, h4, E⟩, f⟩ => useE h E fun v H2 d e2 a2 hb => by
    obtain ⟨q, vs, g1, g2, g3, g4⟩ := (E.mono e2).own i ds hi
    refine ⟨_, g1, useE hb (E.mono e2) fun y H3 d3 e3 a3 ⟨n, hn, hl, hk⟩ => ?_⟩
    subst hn
    refine ⟨q, vs, _, n, rfl, a3.inv_int, e3 _ _ g3, ?_, ?_⟩
    · unfold ixN
      rw [if_pos (by omega), if_pos (by rw [g4.length]; omega)]
      simp
    · exact f.nx _ _ _ (StOk.write tr h1 h2 h3 (h4.trans (e2.trans e3)) ((E.mono e2).mono e3) hi g1 g2 ((g4.mono (hide_ex e3)).set n (a2.mono (hide_ex e3)))) hk
end
end VL

set_option Elab.async false
set_option linter.all false
set_option maxRecDepth 100000
set_option maxHeartbeats 4000000
namespace VL
open PySem L2

/-! ## Loops -/
section
variable {X : Cx} {ρ : Rho} {j : J} {c it e : Expr} {body : List Stmt} {pos p p2 : Pos}
/-- while: W a word of what is left to do and of the names -/
theorem xs_while (W : Nat → Rho → Prop) (h0 : ∃ m, W m ρ) (h : ∀ m ρ', W m ρ' → XT X c ρ' fun b => if b = true then XB X body ρ' { nx := fun ρ2 => ∃ m', m' < m ∧ W m' ρ2, rt := j.rt, bk := j.nx, ct := fun ρ2 => ∃ m', m' < m ∧ W m' ρ2 } else j.nx ρ')
    (hp : PassesOwn (model X.prog X.w) X.A X.env X.xe := by exact PassesOwn.never) : XS X (.While c body [] pos) ρ j := fun S0 H0 tr =>
  impS (ps_while hp anyT anySs) fun En σ H ⟨ok, f⟩ => by
    obtain ⟨m0, w0⟩ := h0
    refine ⟨fun m σ' H' => ∃ ρ', StOk X.K S0 H0 H' σ' ρ' ∧ W m ρ', ⟨m0, ρ, ok, w0⟩, ?_⟩
    rintro m σ' H' ⟨ρ', ⟨S, h1, h2, h3, h4, E⟩, hw⟩
    refine useT (h m ρ' hw) E fun b H2 e2 hk => ?_
    have ok2 : StOk X.K S0 H0 H2 σ' ρ' := ⟨S, h1, h2, h3, h4.trans e2, E.mono e2⟩
    cases b with
    | true =>
      refine ⟨fun σ3 H3 => ∃ m', m' < m ∧ ∃ ρ3, StOk X.K S0 H0 H3 σ3 ρ3 ∧ W m' ρ3, fun σ3 H3 ⟨m', hm, r⟩ => ⟨m', hm, r⟩, _, hk S0 H0 tr, ok2, ⟨?_, f.rt, f.nx, ?_⟩⟩
      · rintro σ3 H3 ρ3 ok3 ⟨m', hm, hw'⟩
        exact ⟨m', hm, ρ3, ok3, hw'⟩
      · rintro σ3 H3 ρ3 ok3 ⟨m', hm, hw'⟩
        exact ⟨m', hm, ρ3, ok3, hw'⟩
    | false => exact f.nx σ' H2 ρ' ok2 hk
/-- for name in range(e) -/
theorem xs_forR (i : Nat) {x : Str} (h : XE X e ρ fun d => ∃ n : Int, d = .int n ∧ (-(2 ^ 62) ≤ n ∧ n < 2 ^ 62) ∧ ∃ W : Nat → Rho → Prop, W 0 ρ ∧
      (∀ (m : Nat) ρ', (m : Int) < n → W m ρ' → XB X body (ρ'.set i (.dat (.int m))) { nx := W (m + 1), rt := j.rt, bk := j.nx, ct := W (m + 1) }) ∧ ∀ ρ', W n.toNat ρ' → j.nx ρ') (hm : X.mg "range" = none) (hN : X.N.Nodup)
    (hc : X.calm = true := by rfl) (hg : Gl X "range" := by rfl) (hi : X.N[i]? = some x := by rfl) (hx : Loc X.env.scope x := by first | exact Or.inl rfl | exact Or.inr rfl) (hf : X.fn x = true ∨ X.env.scope.names.lookup x = some .local := by first | exact .inl rfl | exact .inr rfl)
    (he : starEach (e :: []) X.env = (false, eval e X.env) :: starEach [] X.env := by rfl) (he2 : starEach [e] X.env = [(false, eval e X.env)] := by rfl) (hp : PassesOwn (model X.prog X.w) X.A X.env X.xe := by exact PassesOwn.never)
    (hs : ∀ y, foldedSetIterable (.Call (.Name "range" p) [e] [] p2) X.env y = pure y := by intro _; rfl) {px : Pos} :
    XS X (.For (.Name x px) (.Call (.Name "range" p) [e] [] p2) body [] pos) ρ j := fun S0 H0 tr =>
  impS (ps_for hp hc (pi_range1 hg hm (pa_cons anyE pa_nil he) he2) (pg_name hN hi hx hf) anySs hs) fun En σ H ⟨⟨S, h1, h2, h3, h4, E⟩, f⟩ => useE h E fun v H1 d e1 a1 ⟨n, hn, hb, W, w0, hw, hd⟩ => by
    subst hn
    have ok1 : StOk X.K S0 H0 H1 σ ρ := ⟨S, h1, h2, h3, h4.trans e1, E.mono e1⟩
    refine ⟨n, by rw [a1.inv_int], hb.1, hb.2, for_range (lo := 0) (n := n.toNat) (fun m σ' H' => ∃ ρ', StOk X.K S0 H0 H' σ' ρ' ∧ W m ρ') ⟨ρ, ok1, w0⟩ ?_ ?_⟩
    · rintro m σ' H' hm ⟨ρ', ⟨S', k1, k2, k3, k4, E'⟩, w'⟩
      have e0 : (0 : Int) + (m : Int) = (m : Int) := Int.zero_add _
      rw [e0]
      refine ⟨_, hw m ρ' (by omega) w' S0 H0 tr, StOk.store k1 k2 k3 k4 E' (.int _), ⟨?_, f.rt, f.nx, ?_⟩⟩
      · exact fun σ3 H3 ρ3 ok3 hw3 => ⟨ρ3, ok3, hw3⟩
      · exact fun σ3 H3 ρ3 ok3 hw3 => ⟨ρ3, ok3, hw3⟩
    · rintro σ' H' ⟨ρ', ok', w'⟩
      exact f.nx σ' H' ρ' ok' (hd ρ' w')
/-- for target in a list that stands still; the target by its own rule -/
theorem xs_forL (i : Nat) {x : Str} (h : XE X it ρ fun d => ∃ ds, d = .lst ds ∧ ∃ W : Nat → Rho → Prop, W 0 ρ ∧
      (∀ (m : Nat) d ρ', ds[m]? = some d → W m ρ' → XB X body (ρ'.set i (.dat d)) { nx := W (m + 1), rt := j.rt, bk := j.nx, ct := W (m + 1) }) ∧ ∀ ρ', W ds.length ρ' → j.nx ρ') (hN : X.N.Nodup)
    (hc : X.calm = true := by rfl) (hi : X.N[i]? = some x := by rfl) (hx : Loc X.env.scope x := by first | exact Or.inl rfl | exact Or.inr rfl) (hf : X.fn x = true ∨ X.env.scope.names.lookup x = some .local := by first | exact .inl rfl | exact .inr rfl)
    (hp : PassesOwn (model X.prog X.w) X.A X.env X.xe := by exact PassesOwn.never)
    (hs : ∀ y, foldedSetIterable it X.env y = pure y := by intro _; rfl) {px : Pos} :
    XS X (.For (.Name x px) it body [] pos) ρ j := fun S0 H0 tr =>
  impS (ps_for hp hc (pi_list anyE) (pg_name hN hi hx hf) anySs hs) fun En σ H ⟨⟨S, h1, h2, h3, h4, E⟩, f⟩ => useE h E fun v H1 d e1 a1 ⟨ds, hd, W, w0, hw, hd2⟩ => by
    subst hd
    obtain ⟨a, vs, rfl, g1, g2⟩ := a1.inv_lst
    obtain ⟨H2, ok2, x1, x2, x3⟩ := StOk.base tr h1 h2 h3 (h4.trans e1) (E.mono e1)
    have f2 := f.weaken x1 x2
    have tr2 : Trk S0 H2 := fun b hb => let ⟨o, q⟩ := tr b hb; ⟨o, x1 _ _ q⟩
    refine ⟨a, rfl, ⟨vs, ex_l hide_le g1⟩, for_list (K := X.K) (a := a) (xs := vs) (fun m σ' H' => ∃ ρ', StOk X.K S0 H2 H' σ' ρ' ∧ W m ρ') ⟨ρ, ok2, w0⟩ ?_ ?_ ?_⟩
    · rintro m σ' H' _ ⟨ρ', ⟨S', k1, k2, k3, k4, E'⟩, w'⟩
      exact ex_l hide_le (ex_l (x3 H' S' k2 k4) g1)
    · rintro m y σ' H' hm ⟨ρ', ⟨S', k1, k2, k3, k4, E'⟩, w'⟩
      obtain ⟨d, q1, q2⟩ := g2.get' hm
      refine ⟨_, hw m d ρ' q1 w' S0 H2 tr2, StOk.store k1 k2 k3 k4 E' (q2.mono (x3 H' S' k2 k4)), ⟨?_, f2.rt, f2.nx, ?_⟩⟩
      · exact fun σ3 H3 ρ3 ok3 hw3 => ⟨ρ3, ok3, hw3⟩
      · exact fun σ3 H3 ρ3 ok3 hw3 => ⟨ρ3, ok3, hw3⟩
    · rintro σ' H' ⟨ρ', ok', w'⟩
      rw [g2.length] at w'
      exact f2.nx σ' H' ρ' ok' (hd2 ρ' w')
end

/-! ## Comprehensions: one for, its name in a slot of its own -/
section
variable {K : PySem.W.Frag} {S : List Addr} {H : Hp} {σ : L2.St} {ρ : Rho}
theorem EnvOk.wipe1 (E : EnvOk K S H σ ρ) (i : Nat) : EnvOk K S H (σ.set i none) (ρ.set i .un) := by
  refine ⟨by simp [E.len], E.trk, fun j x h => ?_, fun j ds h => ?_, fun j l ds es p h1 h2 h3 h4 => ?_⟩
  · rcases ent_set h with ⟨rfl, q⟩ | ⟨ne, q⟩
    · cases q
    · obtain ⟨u, h1, h2⟩ := E.dat j x q
      exact ⟨u, by rw [List.getElem?_set_ne (Ne.symm ne)]; exact h1, h2⟩
  · rcases ent_set h with ⟨rfl, q⟩ | ⟨ne, q⟩
    · cases q
    · obtain ⟨p, vs, h1, h2, h3, h4⟩ := E.own j ds q
      exact ⟨p, vs, by rw [List.getElem?_set_ne (Ne.symm ne)]; exact h1, h2, h3, h4⟩
  · rcases ent_set h1 with ⟨rfl, q⟩ | ⟨ne, q⟩
    · cases q
    · rcases ent_set h2 with ⟨rfl, r⟩ | ⟨me, r⟩
      · cases r
      · rw [List.getElem?_set_ne (Ne.symm ne)] at h3
        rw [List.getElem?_set_ne (Ne.symm me)] at h4
        exact E.sep j l ds es p q r h3 h4
end
theorem wipe_again (σ : L2.St) (i : Nat) (x : V) : wipe ((wipe σ [i]).set i (some x)) [i] = wipe σ [i] := by
  show ((σ.set i none).set i (some x)).set i none = σ.set i none
  simp
/-- the state of a comprehension: the list at Dl holds acc, all else grew -/
def Cw (K : PySem.W.Frag) (S : List Addr) (H : Hp) (W : Nat → List D → Prop) (Dl : Addr) (i : Nat) (H' : Hp) : Prop := H Dl = none ∧ Ex H H' ∧ ∃ vs acc, H' Dl = some (.lst vs) ∧ AtL K (hide (Dl :: S) H') vs acc ∧ W i acc
section
variable {X : Cx} {ρ : Rho} {elt it e : Expr} {scope : Scope} {pos p p2 px : Pos} {kl : List D → Prop}
/-- one turn without a test -/
theorem cw_turn {K : PySem.W.Frag} {S : List Addr} {H H' : Hp} {W : Nat → List D → Prop} {Dl : Addr} {m : Nat} {σ2 : L2.St} {te : TE} {kd : List D → D → Prop} (p : Cw K S H W Dl m H')
    (tr : Trk S H) (hstep : ∀ acc, W m acc → ∀ Q : VK, (∀ v H4 d, Ex H' H4 → At K (hide (Dl :: S) H4) v d → acc.length < 100000 ∧ W (m + 1) (acc ++ [d]) → Q v H4) → te σ2 H' Q) :
    te σ2 H' fun y H4 => ∃ acc, H4 Dl = some (.lst acc) ∧ acc.length < sizeLine ∧ Cw K S H W Dl (m + 1) (upd H4 Dl (.lst (acc ++ [y]))) := by
  obtain ⟨p1, p2, vs, acc, p3, p4, p5⟩ := p
  refine hstep acc p5 _ fun v H4 d e4 a4 ⟨hl, hw⟩ => ⟨vs, e4 _ _ p3, sz_lt (by rw [p4.length]; exact hl), p1, (p2.trans e4).mut p1, vs ++ [v], acc ++ [d], upd_same, ?_, hw⟩
  rw [hide_upd List.mem_cons_self]
  exact (p4.mono (hide_ex e4)).append (.cons a4 .nil)
theorem at_hid {K : PySem.W.Frag} {S : List Addr} {H : Hp} {p : Addr} {v : V} {d : D} (hn : H p = none) (h : At K (hide S H) v d) : At K (hide (p :: S) H) v d := h.mono fun a o q => by
  have ha : a ∉ S := fun z => by
    rw [hide_in z] at q
    cases q
  rw [hide_out ha] at q
  have ne : a ≠ p := ne_of_none q hn
  rw [hide_out (by simp [ne, ha])]
  exact q
theorem atL_hid {K : PySem.W.Frag} {S : List Addr} {H : Hp} {p : Addr} {v : List V} {d : List D} (hn : H p = none) (h : AtL K (hide S H) v d) : AtL K (hide (p :: S) H) v d := h.mono fun a o q => by
  have ha : a ∉ S := fun z => by
    rw [hide_in z] at q
    cases q
  rw [hide_out ha] at q
  have ne : a ≠ p := ne_of_none q hn
  rw [hide_out (by simp [ne, ha])]
  exact q
/-- the context of the element -/
abbrev Blk (X : Cx) (scope : Scope) (k : Cx → Prop) : Prop := ∀ (s : Shared) (H : Hp) (C : Addr) (cl : List (Str × Addr)) (fp : List Addr), k (X.blk s H scope (compEnvC scope cl C X.env) fp)
def cE (X : Cx) (scope : Scope) (elt : Expr) : TE := fun σ H Q => Blk X scope fun Y => aE Y elt σ H Q
/-- what a comprehension over range(e) reads -/
theorem rd_lcR (i : Nat) {W : Nat → List D → Prop} {n : Int} (h : XE X e ρ fun d => d = .int n ∧ (-(2 ^ 62) ≤ n ∧ n < 2 ^ 62) ∧ W 0 [] ∧ ∀ acc, W n.toNat acc → kl acc)
    (he : Blk X scope fun Y => ∀ (m : Nat) acc, (m : Int) < n → W m acc → XE Y elt ((ρ.set i .un).set i (.dat (.int m))) fun d => acc.length < 100000 ∧ W (m + 1) (acc ++ [d])) (σ : L2.St) (H : Hp) (Q : VK) (z : tN X.K ρ kl σ H Q) :
    tLc (iRng1 (tCons (aE X e) tNil)) (gName i) tYes (cE X scope elt) [i] σ H Q := by
  obtain ⟨S, E, q⟩ := z
  refine useE h E fun v H1 d e1 a1 ⟨hd, hb, w0, hend⟩ => ?_
  · subst hd
    refine ⟨n, by rw [a1.inv_int], hb.1, hb.2, fun Dl hD => ?_⟩
    have E1 := E.mono e1
    have nD := hide_new E1.trk hD
    refine lc_range (lo := 0) (n := n.toNat) (g := gName i) (tt := tYes) (te := cE X scope elt) (vs := [i]) (σ := σ) (Qd := fun H' => Q (.ref Dl) H') (Cw X.K S H1 W Dl) ⟨hD, Ex.new hD, [], [], upd_same, .nil, w0⟩ ?_ ?_
    · rintro m H2 hm' p
      have e0 : (0 : Int) + (m : Int) = (m : Int) := Int.zero_add _
      rw [e0]
      refine ⟨wipe_again σ i _, ?_⟩
      show cE X scope elt ((wipe σ [i]).set i (some (.int m))) H2 fun y H4 => ∃ acc, H4 Dl = some (.lst acc) ∧ acc.length < sizeLine ∧ Cw X.K S H1 W Dl (m + 1) (upd H4 Dl (.lst (acc ++ [y])))
      refine cw_turn p E1.trk (kd := fun _ _ => True) fun acc hw Q' q' s H' C cl fp => ?_
      obtain ⟨p1, p2, vs, acc', p3, p4, p5⟩ := p
      have E2 : EnvOk X.K (Dl :: S) H2 (wipe σ [i]) (ρ.set i .un) := (E1.hid p2 hD p3).2.wipe1 i
      exact useE (he s H' C cl fp m acc (by omega) hw) (E2.store (.int _)) fun v3 H4 d3 e4 a4 hk => q' v3 H4 d3 e4 a4 hk
    · rintro H2 ⟨p1, p2, vs, acc, p3, p4, p5⟩
      exact q Dl H2 vs acc (e1.back hD) (e1.trans p2) p3 p4 (hend acc p5)
/-- [elt for name in range(e)] -/
theorem xn_lcR (i : Nat) {x : Str} {W : Nat → List D → Prop} {n : Int} (h : XE X e ρ fun d => d = .int n ∧ (-(2 ^ 62) ≤ n ∧ n < 2 ^ 62) ∧ W 0 [] ∧ ∀ acc, W n.toNat acc → kl acc)
    (he : Blk X scope fun Y => ∀ (m : Nat) acc, (m : Int) < n → W m acc → XE Y elt ((ρ.set i .un).set i (.dat (.int m))) fun d => acc.length < 100000 ∧ W (m + 1) (acc ++ [d])) (hm : X.mg "range" = none) (hN : X.N.Nodup)
    (hB : blkC X.N X.env.scope scope [(x, i)] = true := by first | decide +kernel | rfl) (hc : X.calm = true := by rfl) (hg : Gl X "range" := by rfl) (hi : X.N[i]? = some x := by rfl)
    (hx : Blk X scope fun Y => L2.Loc Y.env.scope x := by first | exact fun _ _ _ _ _ => Or.inl rfl | exact fun _ _ _ _ _ => Or.inr rfl)
    (hf : Blk X scope fun Y => Y.fn x = true ∨ Y.env.scope.names.lookup x = some .local := by first | exact fun _ _ _ _ _ => Or.inr rfl | exact fun _ _ _ _ _ => Or.inl rfl)
    (hs1 : starEach (e :: []) X.env = (false, eval e X.env) :: starEach [] X.env := by rfl) (hs2 : starEach [e] X.env = [(false, eval e X.env)] := by rfl)
    (hs : ∀ y, foldedSetIterable (.Call (.Name "range" p) [e] [] p2) X.env y = pure y := by intro _; rfl) :
    XN X (.ListComp elt [⟨.Name x px, .Call (.Name "range" p) [e] [] p2, [], 0⟩] scope pos) ρ kl :=
  impE (pe_lc (own := [(x, i)]) (g := gName i) (tt := tYes) (te := cE X scope elt) hc hN (pi_range1 hg hm (pa_cons anyE pa_nil hs1) hs2) (blkOk_by hB)
    (fun s H C cl fp => pg_name hN hi (hx s H C cl fp) (hf s H C cl fp)) (fun _ _ _ _ _ => pts_nil) (fun s H C cl fp => impE anyE fun σ H Q q => q s _ C cl fp) hs) fun σ H Q z => rd_lcR i h he σ H Q z
/-- name = a comprehension, on one line -/
theorem xs_ofN (l : Nat) {st : Stmt} {tl : TE} {j : J} (hps : PS X st (tAsg tl (gName l))) (hrd : ∀ σ H Q, tN X.K ρ kl σ H Q → tl σ H Q) (h : ∀ ds, kl ds → j.nx (ρ.set l (.dat (.lst ds)))) : XS X st ρ j := fun S0 H0 tr =>
  impS hps fun En σ H ⟨⟨S, h1, h2, h3, h4, E⟩, f⟩ => hrd σ H _ ⟨S, E, fun p H2 vs ds hn e2 hp a hk => by
    have np := hide_new E.trk hn
    have at_ : At X.K (hide S H2) (.ref p) (.lst ds) := .lst (SqL.of (by rw [hide_out np]; exact hp)) (a.mono (hide_sub fun x hx => List.mem_cons_of_mem _ hx))
    exact f.nx _ _ _ (StOk.store h1 h2 h3 (h4.trans e2) (E.mono e2) at_) (h ds hk)⟩
theorem xs_lcR (l i : Nat) {x y : Str} {py spos : Pos} {j : J} {W : Nat → List D → Prop} {n : Int} (h : XE X e ρ fun d => d = .int n ∧ (-(2 ^ 62) ≤ n ∧ n < 2 ^ 62) ∧ W 0 [] ∧ ∀ acc, W n.toNat acc → j.nx (ρ.set l (.dat (.lst acc))))
    (he : Blk X scope fun Y => ∀ (m : Nat) acc, (m : Int) < n → W m acc → XE Y elt ((ρ.set i .un).set i (.dat (.int m))) fun d => acc.length < 100000 ∧ W (m + 1) (acc ++ [d])) (hm : X.mg "range" = none) (hN : X.N.Nodup)
    (hB : blkC X.N X.env.scope scope [(x, i)] = true := by first | decide +kernel | rfl) (hc : X.calm = true := by rfl) (hg : Gl X "range" := by rfl) (hi : X.N[i]? = some x := by rfl) (hy : X.N[l]? = some y := by rfl) (hyl : X.env.scope.names.lookup y = some .local := by rfl)
    (hsw : swapsWith (.ListComp elt [⟨.Name x px, .Call (.Name "range" p) [e] [] p2, [], 0⟩] scope pos) (some (.Name y py)) spos.line X.env = pure true := by rfl)
    (hx : Blk X scope fun Y => L2.Loc Y.env.scope x := by first | exact fun _ _ _ _ _ => Or.inl rfl | exact fun _ _ _ _ _ => Or.inr rfl)
    (hf : Blk X scope fun Y => Y.fn x = true ∨ Y.env.scope.names.lookup x = some .local := by first | exact fun _ _ _ _ _ => Or.inr rfl | exact fun _ _ _ _ _ => Or.inl rfl)
    (hs1 : starEach (e :: []) X.env = (false, eval e X.env) :: starEach [] X.env := by rfl) (hs2 : starEach [e] X.env = [(false, eval e X.env)] := by rfl)
    (hs : ∀ y, foldedSetIterable (.Call (.Name "range" p) [e] [] p2) X.env y = pure y := by intro _; rfl) :
    XS X (.Assign [.Name y py] (.ListComp elt [⟨.Name x px, .Call (.Name "range" p) [e] [] p2, [], 0⟩] scope pos) spos) ρ j :=
  xs_ofN l (ps_setLc (own := [(x, i)]) (g := gName i) (tt := tYes) (te := cE X scope elt) hc hN hy hyl hsw (pi_range1 hg hm (pa_cons anyE pa_nil hs1) hs2) (blkOk_by hB)
    (fun s H C cl fp => pg_name hN hi (hx s H C cl fp) (hf s H C cl fp)) (fun _ _ _ _ _ => pts_nil) (fun s H C cl fp => impE anyE fun σ H Q q => q s _ C cl fp) hs) (fun σ H Q z => rd_lcR i h he σ H Q z) fun ds hk => hk
end
end VL

set_option Elab.async false
set_option linter.all false
set_option maxRecDepth 100000
set_option maxHeartbeats 4000000
namespace VL
open PySem L2

/-! ## More comprehensions: over lists and tuples that stand still -/
section
variable {X : Cx} {ρ : Rho} {elt it e : Expr} {scope : Scope} {pos p p2 px : Pos} {kl : List D → Prop}
theorem xn_lcL (i : Nat) {x : Str} {W : Nat → List D → Prop} {ds : List D} (h : XL X it ρ fun es => es = ds ∧ W 0 [] ∧ ∀ acc, W ds.length acc → kl acc)
    (he : Blk X scope fun Y => ∀ (m : Nat) d acc, ds[m]? = some d → W m acc → XE Y elt ((ρ.set i .un).set i (.dat d)) fun d' => acc.length < 100000 ∧ W (m + 1) (acc ++ [d'])) (hN : X.N.Nodup)
    (hB : blkC X.N X.env.scope scope [(x, i)] = true := by first | decide +kernel | rfl) (hc : X.calm = true := by rfl) (hi : X.N[i]? = some x := by rfl)
    (hx : Blk X scope fun Y => L2.Loc Y.env.scope x := by first | exact fun _ _ _ _ _ => Or.inl rfl | exact fun _ _ _ _ _ => Or.inr rfl)
    (hf : Blk X scope fun Y => Y.fn x = true ∨ Y.env.scope.names.lookup x = some .local := by first | exact fun _ _ _ _ _ => Or.inr rfl | exact fun _ _ _ _ _ => Or.inl rfl)
    (hs : ∀ y, foldedSetIterable it X.env y = pure y := by intro _; rfl) :
    XN X (.ListComp elt [⟨.Name x px, it, [], 0⟩] scope pos) ρ kl := by
  refine impE (pe_lc (own := [(x, i)]) (g := gName i) (tt := tYes) (te := cE X scope elt) hc hN (pi_list anyE) (blkOk_by hB)
    (fun s H C cl fp => pg_name hN hi (hx s H C cl fp) (hf s H C cl fp)) (fun _ _ _ _ _ => pts_nil) (fun s H C cl fp => impE anyE fun σ H Q q => q s _ C cl fp) hs) fun σ H Q ⟨S, E, q⟩ => useL h E fun a H1 vs0 es e1 hL a1 ⟨hd, w0, hend⟩ => ?_
  subst hd
  refine ⟨a, rfl, ⟨vs0, hL⟩, fun Dl hD => ?_⟩
  have E1 := E.mono e1
  refine lc_list (K := X.K) (a := a) (xs := vs0) (g := gName i) (tt := tYes) (te := cE X scope elt) (vs := [i]) (σ := σ) (Qd := fun H' => Q (.ref Dl) H') (Cw X.K S H1 W Dl) ⟨hD, Ex.new hD, [], [], upd_same, .nil, w0⟩ (fun m H2 _ p => ex_l p.2.1 hL) ?_ ?_
  · rintro m x0 H2 hm' p
    obtain ⟨d, hd, ad⟩ := a1.get' hm'
    refine ⟨wipe_again σ i _, ?_⟩
    show cE X scope elt ((wipe σ [i]).set i (some x0)) H2 fun y H4 => ∃ acc, H4 Dl = some (.lst acc) ∧ acc.length < sizeLine ∧ Cw X.K S H1 W Dl (m + 1) (upd H4 Dl (.lst (acc ++ [y])))
    refine cw_turn p E1.trk (kd := fun _ _ => True) fun acc hw Q' q' s H' C cl fp => ?_
    obtain ⟨p1, p2, vs, acc', p3, p4, p5⟩ := p
    have E2 : EnvOk X.K (Dl :: S) H2 (wipe σ [i]) (ρ.set i .un) := (E1.hid p2 hD p3).2.wipe1 i
    refine useE (he s H' C cl fp m d acc hd hw) (E2.store ?_) fun v3 H4 d3 e4 a4 hk => q' v3 H4 d3 e4 a4 hk
    exact (at_hid hD ad).mono (hide_ex p2)
  · rintro H2 ⟨p1, p2, vs, acc, p3, p4, p5⟩
    rw [a1.length] at p5
    exact q Dl H2 vs acc (e1.back hD) (e1.trans p2) p3 p4 (hend acc p5)
theorem xn_lcT (i : Nat) {x : Str} {W : Nat → List D → Prop} {ds : List D} (h : XE X it ρ fun z => z = .tup ds ∧ W 0 [] ∧ ∀ acc, W ds.length acc → kl acc)
    (he : Blk X scope fun Y => ∀ (m : Nat) d acc, ds[m]? = some d → W m acc → XE Y elt ((ρ.set i .un).set i (.dat d)) fun d' => acc.length < 100000 ∧ W (m + 1) (acc ++ [d'])) (hN : X.N.Nodup)
    (hB : blkC X.N X.env.scope scope [(x, i)] = true := by first | decide +kernel | rfl) (hc : X.calm = true := by rfl) (hi : X.N[i]? = some x := by rfl)
    (hx : Blk X scope fun Y => L2.Loc Y.env.scope x := by first | exact fun _ _ _ _ _ => Or.inl rfl | exact fun _ _ _ _ _ => Or.inr rfl)
    (hf : Blk X scope fun Y => Y.fn x = true ∨ Y.env.scope.names.lookup x = some .local := by first | exact fun _ _ _ _ _ => Or.inr rfl | exact fun _ _ _ _ _ => Or.inl rfl)
    (hs : ∀ y, foldedSetIterable it X.env y = pure y := by intro _; rfl) :
    XN X (.ListComp elt [⟨.Name x px, it, [], 0⟩] scope pos) ρ kl := by
  refine impE (pe_lc (own := [(x, i)]) (g := gName i) (tt := tYes) (te := cE X scope elt) hc hN (pi_tup anyE) (blkOk_by hB)
    (fun s H C cl fp => pg_name hN hi (hx s H C cl fp) (hf s H C cl fp)) (fun _ _ _ _ _ => pts_nil) (fun s H C cl fp => impE anyE fun σ H Q q => q s _ C cl fp) hs) fun σ H Q ⟨S, E, q⟩ => useE h E fun v H1 z e1 az ⟨hd, w0, hend⟩ => ?_
  subst hd
  obtain ⟨a, vs0, rfl, hL, a1⟩ := az.inv_tup
  have hL := ex_t hide_le hL
  refine ⟨a, rfl, ⟨vs0, hL⟩, fun Dl hD => ?_⟩
  have E1 := E.mono e1
  refine lc_tup (K := X.K) (a := a) (xs := vs0) (g := gName i) (tt := tYes) (te := cE X scope elt) (vs := [i]) (σ := σ) (Qd := fun H' => Q (.ref Dl) H') (Cw X.K S H1 W Dl) ⟨hD, Ex.new hD, [], [], upd_same, .nil, w0⟩ (fun m H2 _ p => ex_t p.2.1 hL) ?_ ?_
  · rintro m x0 H2 hm' p
    obtain ⟨d, hd, ad⟩ := a1.get' hm'
    refine ⟨wipe_again σ i _, ?_⟩
    show cE X scope elt ((wipe σ [i]).set i (some x0)) H2 fun y H4 => ∃ acc, H4 Dl = some (.lst acc) ∧ acc.length < sizeLine ∧ Cw X.K S H1 W Dl (m + 1) (upd H4 Dl (.lst (acc ++ [y])))
    refine cw_turn p E1.trk (kd := fun _ _ => True) fun acc hw Q' q' s H' C cl fp => ?_
    obtain ⟨p1, p2, vs, acc', p3, p4, p5⟩ := p
    have E2 : EnvOk X.K (Dl :: S) H2 (wipe σ [i]) (ρ.set i .un) := (E1.hid p2 hD p3).2.wipe1 i
    refine useE (he s H' C cl fp m d acc hd hw) (E2.store ?_) fun v3 H4 d3 e4 a4 hk => q' v3 H4 d3 e4 a4 hk
    exact (at_hid hD ad).mono (hide_ex p2)
  · rintro H2 ⟨p1, p2, vs, acc, p3, p4, p5⟩
    rw [a1.length] at p5
    exact q Dl H2 vs acc (e1.back hD) (e1.trans p2) p3 p4 (hend acc p5)
end

/-! ## Targets: names, tuples of targets -/
def Kept (ρ ρ' : Rho) (σ σ' : L2.St) : Prop := ∀ (i : Nat) (ds : List D) (p : Addr), ρ'[i]? = some (.own ds) → σ'[i]? = some (some (.ref p)) → ρ[i]? = some (.own ds) ∧ σ[i]? = some (some (.ref p))
theorem Kept.refl (ρ : Rho) (σ : L2.St) : Kept ρ ρ σ σ := fun _ _ _ a b => ⟨a, b⟩
theorem Kept.trans {a b c : Rho} {x y z : L2.St} (h : Kept a b x y) (g : Kept b c y z) : Kept a c x z := fun i ds p u v => let ⟨q, r⟩ := g i ds p u v; h i ds p q r
theorem Kept.set {ρ : Rho} {σ : L2.St} {i : Nat} {d : D} {v : V} : Kept ρ (ρ.set i (.dat d)) σ (σ.set i (some v)) := fun l ds p k1 k2 => by
  rcases ent_set k1 with ⟨rfl, q⟩ | ⟨ne, q⟩
  · cases q
  · rw [List.getElem?_set_ne (Ne.symm ne)] at k2
    exact ⟨q, k2⟩
def tG (K : PySem.W.Frag) (ρ : Rho) (d : D) (k : Rho → Prop) : TG := fun v σ H Q => ∃ S, EnvOk K S H σ ρ ∧ At K (hide S H) v d ∧ ∀ σ' ρ', EnvOk K S H σ' ρ' → Kept ρ ρ' σ σ' → k ρ' → Q σ' H
def tGs (K : PySem.W.Frag) (ρ : Rho) (ds : List D) (k : Rho → Prop) : TGs := fun vs σ H Q => ∃ S, EnvOk K S H σ ρ ∧ AtL K (hide S H) vs ds ∧ ∀ σ' ρ', EnvOk K S H σ' ρ' → Kept ρ ρ' σ σ' → k ρ' → Q σ' H
def XG (X : Cx) (tg : Expr) (d : D) (ρ : Rho) (k : Rho → Prop) : Prop := PG X tg (tG X.K ρ d k)
def XGs (X : Cx) (tgs : List Expr) (ds : List D) (ρ : Rho) (k : Rho → Prop) : Prop := PGs X tgs (tGs X.K ρ ds k)
def aG (X : Cx) (tg : Expr) : TG := fun v σ H Q => ∃ t, PG X tg t ∧ t v σ H Q
def aGs (X : Cx) (tgs : List Expr) : TGs := fun v σ H Q => ∃ t, PGs X tgs t ∧ t v σ H Q
section
variable {X : Cx} {ρ : Rho} {tg e : Expr} {es : List Expr} {pos : Pos} {k : Rho → Prop} {j : J}
theorem anyG : PG X tg (aG X tg) := ⟨fun pins s σ H v u Q I r ⟨_, h, q⟩ => h.run pins s σ H v u Q I r q⟩
theorem anyGs : PGs X es (aGs X es) := ⟨fun pins s σ H v u Q I r ⟨_, h, q⟩ => h.run pins s σ H v u Q I r q⟩
theorem impG {t t' : TG} (h : PG X tg t) (i : ∀ v σ H Q, t' v σ H Q → t v σ H Q) : PG X tg t' := ⟨fun pins s σ H v u Q I r q => h.run pins s σ H v u Q I r (i _ _ _ _ q)⟩
theorem impGs {t t' : TGs} (h : PGs X es t) (i : ∀ v σ H Q, t' v σ H Q → t v σ H Q) : PGs X es t' := ⟨fun pins s σ H v u Q I r q => h.run pins s σ H v u Q I r (i _ _ _ _ q)⟩
theorem xg_name (i : Nat) {x : Str} {d : D} (h : k (ρ.set i (.dat d))) (hN : X.N.Nodup) (hi : X.N[i]? = some x := by rfl) (hx : Loc X.env.scope x := by first | exact Or.inl rfl | exact Or.inr rfl)
    (hf : X.fn x = true ∨ X.env.scope.names.lookup x = some .local := by first | exact .inl rfl | exact .inr rfl) : XG X (.Name x pos) d ρ k :=
  impG (pg_name hN hi hx hf) fun v σ H Q ⟨S, E, a, q⟩ => q _ _ (E.store a) Kept.set h
theorem xgs_nil (h : k ρ) : XGs X [] [] ρ k := impGs pgs_nil fun vs σ H Q ⟨S, E, a, q⟩ => by
  cases a
  exact ⟨rfl, q _ _ E (Kept.refl _ _) h⟩
theorem xgs_cons {d : D} {ds : List D} (h : XG X e d ρ fun ρ' => XGs X es ds ρ' k) (hs : (assignEach (e :: es) X.env).map (·.2) = assign e X.env :: (assignEach es X.env).map (·.2) := by rfl) : XGs X (e :: es) (d :: ds) ρ k :=
  impGs (pgs_cons anyG anyGs hs) fun vs σ H Q ⟨S, E, a, q⟩ => by
    cases a with
    | cons a1 a2 => exact ⟨_, _, rfl, _, h, S, E, a1, fun σ' ρ' E' k' h' => ⟨_, h', S, E', a2, fun σ2 ρ2 E2 k2 h2 => q σ2 ρ2 E2 (k'.trans k2) h2⟩⟩
theorem xg_tup {ds : List D} {n : Nat} (h : XGs X es ds ρ k) (hl : ds.length = n) (hc : X.calm = true := by rfl) (hn : (assignEach es X.env).length = n := by rfl) (hst : (assignEach es X.env).findIdx? (·.1) = none := by rfl) {kk : Nat} :
    XG X (.Tuple es kk pos) (.tup ds) ρ k := impG (pg_tup hc anyGs hn hst) fun v σ H Q ⟨S, E, a, q⟩ => by
  obtain ⟨p, vs, rfl, h1, h2⟩ := a.inv_tup
  exact ⟨p, vs, rfl, ex_t hide_le h1, by rw [h2.length]; exact hl, _, h, S, E, h2, q⟩
theorem xg_lst {ds : List D} {n : Nat} (h : XGs X es ds ρ k) (hl : ds.length = n) (hc : X.calm = true := by rfl) (hn : (assignEach es X.env).length = n := by rfl) (hst : (assignEach es X.env).findIdx? (·.1) = none := by rfl) {kk : Nat} :
    XG X (.Tuple es kk pos) (.lst ds) ρ k := impG (pg_unl hc anyGs hn hst) fun v σ H Q ⟨S, E, a, q⟩ => by
  obtain ⟨p, vs, rfl, h1, h2⟩ := a.inv_lst
  exact ⟨p, vs, rfl, ex_l hide_le h1, by rw [h2.length]; exact hl, _, h, S, E, h2, q⟩
/-- target = e -/
theorem xs_asg (h : XE X e ρ fun d => XG X tg d ρ j.nx) (hs : swapsWithSole [tg] e pos.line X.env = pure false := by rfl) (hw : swappedStores [tg] e X.env = pure none := by rfl) (h1 : (assignEach [tg] X.env).map (·.2) = [assign tg X.env] := by rfl) :
    XS X (.Assign [tg] e pos) ρ j := fun S0 H0 tr =>
  impS (ps_asg anyE anyG hs hw h1) fun En σ H ⟨⟨S, h1, h2, h3, h4, E⟩, f⟩ => useE h E fun v H2 d e2 a2 hk => ⟨_, hk, S, E.mono e2, a2, fun σ' ρ' E' kp hn =>
    f.nx _ _ _ ⟨S, h1, h2, fun i ds p u w => let ⟨q, r⟩ := kp i ds p u w; h3 i ds p q r, h4.trans e2, E'⟩ hn⟩
/-- name op= e, ints -/
theorem xs_augI (i : Nat) {x : Str} {op : Operator} {C : Int → Int → Prop} {f : Int → Int → Int} (ho : OpR X (inplaceOp op) (rI C fun a b => .int (f a b))) {a : Int} {px : Pos} (hi0 : ρ[i]? = some (.dat (.int a))) (h : XE X e ρ fun d => ∃ b, d = .int b ∧ C a b ∧ j.nx (ρ.set i (.dat (.int (f a b))))) (hN : X.N.Nodup)
    (hi : X.N[i]? = some x := by rfl) (hx : Loc X.env.scope x := by first | exact Or.inl rfl | exact Or.inr rfl) (hf : X.fn x = true ∨ X.env.scope.names.lookup x = some .local := by first | exact .inl rfl | exact .inr rfl) :
    XS X (.AugAssign (.Name x px) op e pos) ρ j := fun S0 H0 tr =>
  impS (ps_aug hN hi hx anyE (ti := rI C fun a b => .int (f a b)) (fun pins s σ H x y v u Q I rx ry q => ho pins s σ H x y v u Q I rx ry q) hf) fun En σ H ⟨⟨S, h1, h2, h3, h4, E⟩, fi⟩ => by
    obtain ⟨v, ev, av⟩ := E.dat i _ hi0
    refine ⟨v, ev, useE h E fun u H2 d e2 a2 ⟨b, hb, hc, hk⟩ => ?_⟩
    subst hb
    exact ⟨a, b, av.inv_int, a2.inv_int, hc, fi.nx _ _ _ (StOk.store h1 h2 h3 (h4.trans e2) (E.mono e2) (.int _)) hk⟩
theorem iop_mulX {X : Cx} : OpR X (inplaceOp .Mult) (rI MulOk fun i j => .int (i * j)) := opI fun _ _ _ _ _ _ _ hc q => PyProof.Rows.imul_int q (hc.elim (fun h => h.ok) fun h => h.ok)
theorem iop_addX {X : Cx} : OpR X (inplaceOp .Add) (rI (fun _ _ => True) fun i j => .int (i + j)) := opI fun _ _ _ _ _ _ _ _ q => PyProof.Rows.iadd_int q
end
end VL

set_option Elab.async false
set_option linter.all false
set_option maxRecDepth 100000
set_option maxHeartbeats 4000000
namespace VL
open PySem L2

/-! ## isinstance -/
def tyD : D → Option String
  | .non => some "NoneType" | .bl _ => some "bool" | .int _ => some "int" | .str _ => some "str" | .lst _ => some "list" | .tup _ => some "tuple"
  | _ => none
theorem tyx_of {K : PySem.W.Frag} {S : List Addr} {H : Hp} {v : V} {d : D} {T : String} (h : At K (hide S H) v d) (e : tyD d = some T) : TyX K H v (.type T) := by
  cases h with
  | non => cases e; exact .base .non
  | bl b => cases e; exact .base (.bl b)
  | int i => cases e; exact .base (.int i)
  | str x => cases e; exact .base (.str x)
  | lst h t =>
    cases e
    rcases ex_l hide_le h with (q | ⟨o, q⟩) | ⟨o, its, n, q, c, _⟩
    · exact .base (.lst q)
    · exact .base (.frz q)
    · exact .kList q c
  | tup h t =>
    cases e
    rcases ex_t hide_le h with (q | ⟨o, q⟩) | ⟨o, its, n, q, c, _⟩
    · exact .base (.tup q)
    · exact .fTuple q
    · exact .kTuple q c
  | obj h t => cases e
  | tok h => cases e
  | ptr a => cases e
section
variable {X : Cx} {ρ : Rho} {a b c e : Expr} {pos p p2 : Pos} {k : D → Prop} {kb : Bool → Prop} {kl : List D → Prop} {j : J}
/-- isinstance(a, T), T a built-in type, the value no instance of one's own -/
theorem xe_isi (hm : X.mg "isinstance" = none) {T : Str} {tn : String} (hmT : X.mg T = none) (hT : bootBuiltins T = some (.type tn)) (h : XE X a ρ fun d => ∃ t, tyD d = some t ∧ ∃ b, kitB t tn = some b ∧ k (.bl b))
    (hg : Gl X "isinstance" := by rfl) (hgT : Gl X T := by rfl) (hnT : T ≠ "__name__" := by decide) (hdT : (T == ("__debug__" : Str)) = false := by decide)
    (he : starEach (a :: .Name T p2 :: []) X.env = (false, eval a X.env) :: starEach [.Name T p2] X.env := by rfl) (he2 : starEach (.Name T p2 :: []) X.env = (false, eval (.Name T p2) X.env) :: starEach [] X.env := by rfl) (hpl : (backTo pos (starEach [.Name T p2] X.env)).any (·.1) = false := by rfl) :
    XE X (.Call (.Name "isinstance" p) [a, .Name T p2] [] pos) ρ k :=
  impE (pe_callB call_isi hg hm (by decide +kernel) (pa_cons anyE (pa_cons (pe_bltn hgT hmT hT (v := .ty tn) rfl hnT hdT) pa_nil he2) he) (by decide) (by decide) he hpl) fun σ H Q ⟨S, E, q⟩ => useE h E fun v H1 d e1 a1 ⟨t, ht, b, hb, hk⟩ =>
    ⟨v, .ty tn, .type t, .type tn, b, rfl, .ty tn, tyx_of a1 ht, kit_ty hb, q _ _ _ e1 (.bl b) hk⟩
/-- isinstance(a, C), C a class of the text; the value plain -/
theorem xe_isiC (hm : X.mg "isinstance" = none) {x : Str} {C : Addr} (hmC : X.mg x = some (.ref C)) (h : XE X a ρ fun d => ∃ t, tyD d = some t ∧ ∃ b, PySem.W.kitOne X.K (.type t) (.ref C) = some b ∧ k (.bl b))
    (hg : Gl X "isinstance" := by rfl) (hgT : Gl X x := by rfl) (hdT : (x == ("__debug__" : Str)) = false := by decide)
    (he : starEach (a :: .Name x p2 :: []) X.env = (false, eval a X.env) :: starEach [.Name x p2] X.env := by rfl) (he2 : starEach (.Name x p2 :: []) X.env = (false, eval (.Name x p2) X.env) :: starEach [] X.env := by rfl) (hpl : (backTo pos (starEach [.Name x p2] X.env)).any (·.1) = false := by rfl) :
    XE X (.Call (.Name "isinstance" p) [a, .Name x p2] [] pos) ρ k :=
  impE (pe_callB call_isi hg hm (by decide +kernel) (pa_cons anyE (pa_cons (pe_glob hgT hmC (v := .ref C) rfl hdT) pa_nil he2) he) (by decide) (by decide) he hpl) fun σ H Q ⟨S, E, q⟩ => useE h E fun v H1 d e1 a1 ⟨t, ht, b, hb, hk⟩ =>
    ⟨v, .ref C, .type t, .ref C, b, rfl, .own C, tyx_of a1 ht, hb, q _ _ _ e1 (.bl b) hk⟩
/-- isinstance(a, C); the value an instance of one's own -/
theorem xe_isiO (hm : X.mg "isinstance" = none) {x : Str} {C : Addr} (hmC : X.mg x = some (.ref C)) (h : XE X a ρ fun d => ∃ C' ds b, d = .obj C' ds ∧ SlX.SCls X.K C' ∧ SlX.SIsi X.K C' ∧ PySem.W.kitOne X.K (.ref C') (.ref C) = some b ∧ k (.bl b))
    (hg : Gl X "isinstance" := by rfl) (hgT : Gl X x := by rfl) (hdT : (x == ("__debug__" : Str)) = false := by decide)
    (he : starEach (a :: .Name x p2 :: []) X.env = (false, eval a X.env) :: starEach [.Name x p2] X.env := by rfl) (he2 : starEach (.Name x p2 :: []) X.env = (false, eval (.Name x p2) X.env) :: starEach [] X.env := by rfl) (hpl : (backTo pos (starEach [.Name x p2] X.env)).any (·.1) = false := by rfl) :
    XE X (.Call (.Name "isinstance" p) [a, .Name x p2] [] pos) ρ k :=
  impE (pe_callB (SlX.call_isiSl (.ref C)) hg hm (by decide +kernel) (pa_cons anyE (pa_cons (pe_glob hgT hmC (v := .ref C) rfl hdT) pa_nil he2) he) (by decide) (by decide) he hpl) fun σ H Q ⟨S, E, q⟩ => useE h E fun v H1 d e1 a1 ⟨C', ds, b, hd, sc, si, hb, hk⟩ => by
    subst hd
    obtain ⟨a, dx, vs, rfl, h1, h2⟩ := a1.inv_obj
    exact ⟨a, C', dx, vs.map some, .ref C, b, rfl, rfl, fun w r => r, ex_s hide_le h1, sc, si, hb, q _ _ _ e1 (.bl b) hk⟩
/-- isinstance(a, T), T a built-in type; the value an instance of one's own -/
theorem xe_isiOB (hm : X.mg "isinstance" = none) {T : Str} {tn : String} (hmT : X.mg T = none) (hT : bootBuiltins T = some (.type tn)) (h : XE X a ρ fun d => ∃ C' ds b, d = .obj C' ds ∧ SlX.SCls X.K C' ∧ SlX.SIsi X.K C' ∧ PySem.W.kitOne X.K (.ref C') (.type tn) = some b ∧ k (.bl b))
    (hg : Gl X "isinstance" := by rfl) (hgT : Gl X T := by rfl) (hnT : T ≠ "__name__" := by decide) (hdT : (T == ("__debug__" : Str)) = false := by decide)
    (he : starEach (a :: .Name T p2 :: []) X.env = (false, eval a X.env) :: starEach [.Name T p2] X.env := by rfl) (he2 : starEach (.Name T p2 :: []) X.env = (false, eval (.Name T p2) X.env) :: starEach [] X.env := by rfl) (hpl : (backTo pos (starEach [.Name T p2] X.env)).any (·.1) = false := by rfl) :
    XE X (.Call (.Name "isinstance" p) [a, .Name T p2] [] pos) ρ k :=
  impE (pe_callB (SlX.call_isiSl (.type tn)) hg hm (by decide +kernel) (pa_cons anyE (pa_cons (pe_bltn hgT hmT hT (v := .ty tn) rfl hnT hdT) pa_nil he2) he) (by decide) (by decide) he hpl) fun σ H Q ⟨S, E, q⟩ => useE h E fun v H1 d e1 a1 ⟨C', ds, b, hd, sc, si, hb, hk⟩ => by
    subst hd
    obtain ⟨a, dx, vs, rfl, h1, h2⟩ := a1.inv_obj
    exact ⟨a, C', dx, vs.map some, .ty tn, b, rfl, rfl, fun w r => r, ex_s hide_le h1, sc, si, hb, q _ _ _ e1 (.bl b) hk⟩

/-! ## a <= b <= c -/
theorem xe_lele (h : XE X a ρ fun x => ∃ i, x = .int i ∧ XE X b ρ fun y => ∃ j, y = .int j ∧ if i ≤ j then XE X c ρ fun z => ∃ l, z = .int l ∧ k (.bl (decide (j ≤ l))) else k (.bl false))
    (hm : lastMarks [.LtE, .LtE] [b, c] = false := by with_unfolding_all rfl) : XE X (.Compare a [.LtE, .LtE] [b, c] pos) ρ k :=
  impE (pe_chain op_le op_le anyE anyE anyE hm) fun σ H Q ⟨S, E, q⟩ => useE h E fun x H1 d e1 a1 ⟨i, hi, hb⟩ => useE hb (E.mono e1) fun y H2 d2 e2 a2 ⟨j, hj, hc⟩ => by
    subst hi hj
    refine ⟨i, j, a1.inv_int, a2.inv_int, _, rfl, ?_⟩
    by_cases z : i ≤ j
    · rw [if_pos z] at hc
      rw [if_pos (decide_eq_true z)]
      exact useE hc ((E.mono e1).mono e2) fun w H3 d3 e3 a3 ⟨l, hl, hk⟩ => by
        subst hl
        exact ⟨j, l, a2.inv_int, a3.inv_int, q _ _ _ ((e1.trans e2).trans e3) (.bl _) hk⟩
    · rw [if_neg z] at hc
      rw [if_neg (by simpa using z)]
      exact q _ _ _ (e1.trans e2) (.bl false) hc
theorem xt_lele (h : XE X a ρ fun x => ∃ i, x = .int i ∧ XE X b ρ fun y => ∃ j, y = .int j ∧ if i ≤ j then XE X c ρ fun z => ∃ l, z = .int l ∧ kb (decide (j ≤ l)) else kb false)
    (hm : lastMarks [.LtE, .LtE] [b, c] = false := by with_unfolding_all rfl) : XT X (.Compare a [.LtE, .LtE] [b, c] pos) ρ kb :=
  impT (pt_chain op_le op_le anyE anyE anyE hm) fun σ H Q ⟨S, E, q⟩ => useE h E fun x H1 d e1 a1 ⟨i, hi, hb⟩ => useE hb (E.mono e1) fun y H2 d2 e2 a2 ⟨j, hj, hc⟩ => by
    subst hi hj
    refine ⟨i, j, a1.inv_int, a2.inv_int, _, rfl, ?_⟩
    by_cases z : i ≤ j
    · rw [if_pos z] at hc
      rw [if_pos (decide_eq_true z)]
      exact useE hc ((E.mono e1).mono e2) fun w H3 d3 e3 a3 ⟨l, hl, hk⟩ => by
        subst hl
        exact ⟨j, l, a2.inv_int, a3.inv_int, _, rfl, q _ _ ((e1.trans e2).trans e3) hk⟩
    · rw [if_neg z] at hc
      rw [if_neg (by simpa using z)]
      exact ⟨_, rfl, q _ _ (e1.trans e2) hc⟩

/-! ## texts -/
theorem xe_addS (h : XE X a ρ fun x => ∃ s, x = .str s ∧ XE X b ρ fun y => ∃ t, y = .str t ∧ s.length + t.length ≤ sizeLine ∧ k (.str (s ++ t))) : XE X (.BinOp a .Add b pos) ρ k :=
  impE (pe_op op_add_str anyE anyE) fun σ H Q ⟨S, E, q⟩ => useE h E fun x H1 d e1 a1 ⟨i, hi, hb⟩ => useE hb (E.mono e1) fun y H2 d2 e2 a2 ⟨j, hj, hc, hk⟩ => by
    subst hi hj
    exact ⟨i, j, a1.inv_str, a2.inv_str, hc, q _ _ _ (e1.trans e2) (.str _) hk⟩
theorem strs_of {K : PySem.W.Frag} {H : Hp} : ∀ {vs : List V} {ys : List Str}, AtL K H vs (ys.map D.str) → vs = ys.map V.str
  | [], [], _ => rfl
  | _ :: _, [], h => by cases h
  | [], _ :: _, h => by cases h
  | v :: vs, b :: bs, h => by
    cases h with
    | cons h t =>
      rw [h.inv_str, strs_of t]
      rfl
/-- sep.join(list of texts) -/
theorem xe_join {apos : Pos} (h : XE X a ρ fun x => ∃ s, x = .str s ∧ XL X b ρ fun ds => ∃ ys : List Str, ds = ys.map D.str ∧ (ys.map (·.length)).sum + ys.length * s.length ≤ 16777216 ∧ k (.str (Txt.join s ys)))
    (hs : starEach [b] X.env = [(false, eval b X.env)] := by rfl) (hbase : attributeBase a "join" X.env (eval a X.env) = eval a X.env := by rfl) (hline : (apos.endLine == pos.line) = true := by rfl) :
    XE X (.Call (.Attribute a "join" apos) [b] [] pos) ρ k :=
  impE (pe_join anyE anyE hs hbase hline) fun σ H Q ⟨S, E, q⟩ => useE h E fun x H1 d e1 a1 ⟨s, hs, hb⟩ => by
    subst hs
    have ex := a1.inv_str
    subst ex
    exact ⟨⟨s, rfl⟩, useL hb (E.mono e1) fun p H2 vs ds e2 h1 h2 ⟨ys, hy, hz, hk⟩ => by
      subst hy
      have ev := strs_of h2
      subst ev
      exact ⟨s, p, ys, rfl, rfl, .inl h1, hz, q _ _ _ (e1.trans e2) (.str _) hk⟩⟩
/-- f-string parts -/
def fmtD : D → Option Str
  | .str y => some y
  | .int i => some (toString i)
  | _ => none
theorem xe_fmt (h : XE X a ρ fun d => (∃ y, d = .str y ∧ y.length ≤ sizeLine ∧ k (.str y)) ∨ ∃ i, d = .int i ∧ i.natAbs.log2 < 1920 ∧ k (.str (toString i))) : XE X (.FormattedValue a (-1) none pos) ρ k :=
  impE (pe_fmt anyE) fun σ H Q ⟨S, E, q⟩ => useE h E fun x H1 d e1 a1 hd => by
    rcases hd with ⟨y, rfl, hy, hk⟩ | ⟨i, rfl, hi, hk⟩
    · exact .inl ⟨y, a1.inv_str, hy, q _ _ _ e1 (.str _) hk⟩
    · exact .inr ⟨i, a1.inv_int, hi, q _ _ _ e1 (.str _) hk⟩
/-- f-strings: the parts one behind the other -/
def XJ (X : Cx) : List Expr → Str → Rho → (D → Prop) → Prop
  | [], acc, ρ, k => k (.str acc)
  | e :: es, acc, ρ, k => XE X e ρ fun d => ∃ y, d = .str y ∧ (acc ++ y).length ≤ sizeLine ∧ XJ X es (acc ++ y) ρ k
theorem pj_any : ∀ es : List Expr, PJ X es (es.map (aE X))
  | [] => .nil
  | _ :: es => .cons anyE (pj_any es)
theorem xj_use {S : List Addr} {σ : L2.St} {Q : VK} : ∀ {es : List Expr} {acc : Str} {H : Hp}, XJ X es acc ρ k → EnvOk X.K S H σ ρ → (∀ v H2 d, Ex H H2 → At X.K (hide S H2) v d → k d → Q v H2) → tJs (es.map (aE X)) acc σ H fun out H1 => Q (.str out) H1
  | [], acc, H, h, E, q => q _ _ _ (Ex.refl H) (.str acc) h
  | e :: es, acc, H, h, E, q => useE h E fun v H1 d e1 a1 ⟨y, hy, hz, hk⟩ => by
      subst hy
      exact ⟨y, a1.inv_str, hz, xj_use hk (E.mono e1) fun v2 H2 d2 e2 a2 h2 => q v2 H2 d2 (e1.trans e2) a2 h2⟩
theorem xe_joined {v1 v2 : Expr} {rest : List Expr} (h : XJ X (v1 :: v2 :: rest) Str.empty ρ k) : XE X (.JoinedStr (v1 :: v2 :: rest) pos) ρ k :=
  impE (pe_joined (pj_any _)) fun σ H Q ⟨S, E, q⟩ => xj_use h E q
/-- name.extend(a new list) -/
theorem xs_ext (i : Nat) {x : Str} {apos cpos : Pos} {ds : List D} (hi : ρ[i]? = some (.own ds)) (h : XN X e ρ fun es => ds.length + es.length ≤ 100000 ∧ j.nx (ρ.set i (.own (ds ++ es)))) (hN : X.N[i]? = some x := by rfl)
    (hv : Vis X.env.scope x := by first | exact Or.inl rfl | exact Or.inr (Or.inl rfl) | exact Or.inr (Or.inr rfl)) (h1' : (x == ("__debug__" : Str)) = false := by decide) (h2' : (x == ("__classdict__" : Str)) = false := by decide)
    (he : starEach (e :: []) X.env = (false, eval e X.env) :: starEach [] X.env := by rfl) (hs : swapsWith (.Call (.Attribute (.Name x p) "extend" apos) [e] [] cpos) none pos.line X.env = pure false := by rfl)
    (hfew : ((backTo cpos (starEach [e] X.env)).all (fun x => !x.1) && (backToKw cpos (keywordEach [] X.env)).all (fun x => x.1.isSome) && decide (([e] : List Expr).length + ([] : List Keyword).length + (if ([] : List Keyword).isEmpty then 0 else 1) < 30)) = true := by rfl)
    (hline : (apos.endLine == cpos.line) = true := by rfl) :
    XS X (.Expr (.Call (.Attribute (.Name x p) "extend" apos) [e] [] cpos) pos) ρ j := fun S0 H0 tr =>
  impS (ps_expr (pe_bm PySem.F.plainAttrs_list PySem.F.slot_list_extend PySem.F.type_list_extend mt_extend (pe_var hN hv h1' h2') (pa_cons anyE pa_nil he) (hfew := hfew) (hline := hline) (hs := he)) hs) fun En σ H ⟨⟨S, h1, h2, h3, h4, E⟩, f⟩ => by
    obtain ⟨q, vs, g1, g2, g3, g4⟩ := E.own i ds hi
    refine ⟨_, g1, .inl ⟨rfl, vs, SqL.of g3⟩, _, h, S, E, fun b H2 us es hn e2 hp a2 ⟨hl, hk⟩ => ⟨q, b, vs, us, rfl, rfl, e2 _ _ g3, hp, sz_of (by rw [g4.length, a2.length]; exact hl), ?_⟩⟩
    have a3 : AtL X.K (hide S H2) us es := a2.mono (hide_sub fun x hx => List.mem_cons_of_mem _ hx)
    exact f.nx _ _ _ (StOk.write tr h1 h2 h3 (h4.trans e2) (E.mono e2) hi g1 g2 ((g4.mono (hide_ex e2)).append a3)) hk

/-! ## new lists: slices, sums -/
def cutD (xs : List D) (lo hi : Option Int) : List D := (xs.drop (HT.sIx xs.length 0 lo)).take (HT.sIx xs.length xs.length hi - HT.sIx xs.length 0 lo)
theorem cut_of {K : PySem.W.Frag} {H : Hp} {vs : List V} {ds : List D} {lo hi : Option Int} (a : AtL K H vs ds) : AtL K H (cutV vs lo hi) (cutD ds lo hi) := by
  unfold cutV cutD
  rw [a.length]
  exact (a.drop _).take _
theorem newL {K : PySem.W.Frag} {S : List Addr} {H1 : Hp} {p : Addr} {vs us : List V} {ds : List D} (tr : ∀ a ∈ S, ∃ o, H1 a = some o) (hp : H1 p = none) (a : AtL K (hide S H1) us ds) : AtL K (hide (p :: S) (upd H1 p (.lst vs))) us ds := a.mono fun x o hx => by
  have hxS : x ∉ S := fun z => by
    rw [hide_in z] at hx
    cases hx
  rw [hide_out hxS] at hx
  have ne : x ≠ p := ne_of_none hx hp
  rw [hide_out (by simp [ne, hxS]), upd_ne ne]
  exact hx
theorem xn_cutTo {i : Int} {cj : Nat} {cp : Pos} (h : XL X a ρ fun ds => kl (cutD ds none (some i))) : XN X (.Subscript a (.Slice none (some (.Constant (.int i) cj cp)) none p2) pos) ρ kl :=
  impE (pe_slice sl_list anyE po_none (po_some pe_int)) fun σ H Q ⟨S, E, q⟩ => useL h E fun p H1 vs ds e1 h1 h2 hk => ⟨i, rfl, p, vs, rfl, h1, fun r hr => q r _ _ _ (e1.back hr) (e1.trans (Ex.new hr)) upd_same (newL (E.mono e1).trk hr (cut_of h2)) hk⟩
/-- both new -/
theorem xn_cat (h : XN X a ρ fun ds => XN X b ρ fun es => ds.length + es.length ≤ 100000 ∧ kl (ds ++ es)) : XN X (.BinOp a .Add b pos) ρ kl :=
  impE (pe_op op_cat anyE anyE) fun σ H Q ⟨S, E, q⟩ => ⟨_, h, S, E, fun p H1 vs ds hn1 e1 hp1 a1 hb => ⟨_, hb, p :: S, (E.hid e1 hn1 hp1).2, fun r H2 us es hn2 e2 hp2 a2 ⟨hl, hk⟩ => by
    have a1' : AtL X.K (hide S H2) vs ds := (a1.mono (hide_ex e2)).mono (hide_sub fun x hx => List.mem_cons_of_mem _ hx)
    have a2' : AtL X.K (hide S H2) us es := a2.mono (hide_sub fun x hx => List.mem_cons_of_mem _ (List.mem_cons_of_mem _ hx))
    refine ⟨p, r, vs, us, rfl, rfl, e2 _ _ hp1, hp2, sz_of (by rw [a1.length, a2.length]; exact hl), fun z hz => q z _ _ _ ((e1.trans e2).back hz) ((e1.trans e2).trans (Ex.new hz)) upd_same (newL (E.mono (e1.trans e2)).trk hz (a1'.append a2')) hk⟩⟩⟩
end
end VL

set_option Elab.async false
set_option linter.all false
set_option maxRecDepth 100000
set_option maxHeartbeats 4000000
namespace VL
open PySem L2

/-! ## Keyword calls -/
def pick {α : Type} (is : List Nat) (l : List α) : List α := is.filterMap fun i => l[i]?
theorem vals_pick {vs : List V} {us : List Value} (r : Vals vs us) : ∀ is : List Nat, Vals (pick is vs) (pick is us)
  | [] => .nil
  | i :: is => by
    unfold pick
    rw [List.filterMap_cons, List.filterMap_cons]
    cases e : vs[i]? with
    | none =>
      have e2 : us[i]? = none := by
        rw [List.getElem?_eq_none_iff] at e ⊢
        rw [← r.length]
        exact e
      rw [e2]
      exact vals_pick r is
    | some v =>
      obtain ⟨u, hu, rv⟩ := r.get e
      rw [hu]
      exact .cons rv (vals_pick r is)
theorem AtL.pick {K : PySem.W.Frag} {H : Hp} {vs : List V} {ds : List D} (a : AtL K H vs ds) : ∀ is : List Nat, AtL K H (pick is vs) (pick is ds)
  | [] => .nil
  | i :: is => by
    unfold VL.pick
    rw [List.filterMap_cons, List.filterMap_cons]
    cases e : ds[i]? with
    | none =>
      have e2 : vs[i]? = none := by
        rw [List.getElem?_eq_none_iff] at e ⊢
        rw [a.length]
        exact e
      rw [e2]
      exact a.pick is
    | some d =>
      obtain ⟨v, hv, av⟩ := a.get e
      rw [hv]
      exact .cons av (a.pick is)
structure FnK (P : Program) (w : World) (K : PySem.W.Frag) (mg : Str → Option Value) (base : Heap) (k : Nat) (x : Str) (ps ks : List Str) (is : List Nat) (C : Con) : Prop where
  ex : ∃ f fd, mg x = some (.ref f) ∧ PySem.W.keepIn K (.ref f) = true ∧ (∀ (s : Shared) (ws : List Value), K.In s.heap → ws.length = ks.length → BindsTo s fd ⟨[], ks.zip ws⟩ (ps.zip (pick is ws))) ∧ FnOk P w K mg base CX0 k f fd ps (spC K ps.length C)
def XK' (X : Cx) (kws : List Keyword) (ρ : Rho) (k : List D → Prop) : Prop := PK X kws (tA X.K ρ k)
def aK (X : Cx) (kws : List Keyword) : TA := fun σ H Q => ∃ t, PK X kws t ∧ t σ H Q
section
variable {X : Cx} {ρ : Rho} {a b c e : Expr} {kws : List Keyword} {pos p p2 : Pos} {k : D → Prop} {kb : Bool → Prop} {kl : List D → Prop} {j : J}
theorem anyK : PK X kws (aK X kws) := ⟨fun pos pins s σ H Q I ⟨_, h, q⟩ => h.run pos pins s σ H Q I q⟩
theorem impK {t t' : TA} (h : PK X kws t) (i : ∀ σ H Q, t' σ H Q → t σ H Q) : PK X kws t' := ⟨fun pos pins s σ H Q I q => h.run pos pins s σ H Q I (i _ _ _ q)⟩
theorem xk_nil (h : kl []) : XK' X [] ρ kl := impK pk_nil fun σ H Q ⟨S, E, q⟩ => q [] H [] (Ex.refl H) .nil h
theorem xk_cons {nm : Option Str} {kpos : Pos} (h : XE X e ρ fun d => XK' X kws ρ fun ds => kl (d :: ds)) : XK' X (⟨nm, e, kpos⟩ :: kws) ρ kl :=
  impK (pk_cons anyE anyK) fun σ H Q ⟨S, E, q⟩ => useE h E fun v H1 d e1 a1 hb => ⟨_, hb, S, E.mono e1, fun vs H2 ds e2 a2 hk => q (v :: vs) H2 (d :: ds) (e1.trans e2) (.cons (a1.mono (hide_ex e2)) a2) hk⟩
/-- f(k = e, ..) -/
theorem xe_kw {n m : Nat} {x : Str} {ps ks : List Str} {is : List Nat} {C : Con} (F : FnK X.prog X.w X.K X.mg X.base n x ps ks is C) (hr : Room m X.A) (h : XK' X kws ρ fun ds => ds.length = ks.length ∧ (pick is ds).length = ps.length ∧ C (pick is ds) k) (hnm : n ≤ m := by decide) (hg : Gl X x := by rfl)
    (hall : (backToKw pos (keywordEach kws X.env)).all (·.1.isSome) = true := by rfl) (hks : (backToKw pos (keywordEach kws X.env)).filterMap (·.1) = ks := by rfl)
    (hdb : (x == ("__debug__" : Str)) = false := by decide) (hpl : ((backTo pos (starEach [] X.env)).any (·.1) || (backToKw pos (keywordEach kws X.env)).any (·.1.isNone)) = false := by rfl) :
    XE X (.Call (.Name x p) [] kws pos) ρ k := by
  obtain ⟨f, fd, h1, h2, h3, h4⟩ := F.ex
  refine ⟨fun pins s σ H Q I ⟨S, E, q⟩ => ?_⟩
  refine wpAny_Call_Name_kw (ld_glob I hg h1 ?_ hdb)
  refine PySem.W.callWith_KW0 (h₀ := X.base) I.ok.mod.kin h2 hall ?_ hpl
  refine thn (anyK.run pos pins s σ H (fun vs H2 => ∃ ds, Ex H H2 ∧ AtL X.K (hide S H2) vs ds ∧ ds.length = ks.length ∧ (pick is ds).length = ps.length ∧ C (pick is ds) k) I ⟨_, h, S, E, fun vs H2 ds e2 a2 hk => ⟨ds, e2, a2, hk⟩⟩) fun ws s2 ⟨zs, H2, I2, rz, ds, e2, a2, l1, l2, hc⟩ => ⟨I2.kIn, ?_⟩
  rw [hks]
  have lw : ws.length = ks.length := by rw [← rz.length, a2.length]; exact l1
  have ap := a2.pick is
  refine wpAny_call (codeAny_mono (h4.run X.A X.stack s2 H2 ⟨[], ks.zip ws⟩ (pick is ws) (pick is zs) Q (fun _ _ _ => False) (hr.mono hnm) I2.env0 (h3 s2 ws I2.kIn lw) (vals_pick rz is) ⟨S, pick is ds, k, by rw [ap.length]; exact l2, (E.mono e2).trk, ap, hc, fun v H3 d e3 a3 hk => q v H3 d (e2.trans e3) a3 hk⟩) fun r s' hq => ?_)
  cases r with
  | error e => exact (show False from hq).elim
  | ok fl =>
    cases fl with
    | ret u => exact I2.after hq
    | next => exact False.elim hq
    | brk => exact False.elim hq
    | cont => exact False.elim hq

/-! ## == and != of data -/
mutual
def pyD : D → Option PyData
  | .non => some .none | .bl b => some (.bool b) | .int i => some (.int i) | .str x => some (.str x)
  | .lst xs => (pyL xs).map .list | .tup xs => (pyL xs).map .tuple
  | .obj _ _ => none | .tok => none | .ptr _ => none
def pyL : List D → Option (List PyData)
  | [] => some []
  | d :: ds => match pyD d, pyL ds with
    | some x, some xs => some (x :: xs)
    | _, _ => none
end
mutual
theorem dp_of {K : PySem.W.Frag} {S : List Addr} {H : Hp} : ∀ {v : V} {d : D} {y : PyData}, At K (hide S H) v d → pyD d = some y → Dp K H v y
  | _, _, _, .non, e => by cases (Option.some.inj (by simpa [pyD] using e)); exact .non
  | _, _, _, .bl b, e => by
    unfold pyD at e
    cases e
    exact .bl b
  | _, _, _, .int i, e => by
    unfold pyD at e
    cases e
    exact .int i
  | _, _, _, .str x, e => by
    unfold pyD at e
    cases e
    exact .str x
  | _, _, _, .lst (ds := ds) h t, e => by
    unfold pyD at e
    cases q : pyL ds with
    | none => rw [q] at e; cases e
    | some ys =>
      rw [q] at e
      cases e
      exact .lst (ex_l hide_le h) (dpl_of t q)
  | _, _, _, .tup (ds := ds) h t, e => by
    unfold pyD at e
    cases q : pyL ds with
    | none => rw [q] at e; cases e
    | some ys =>
      rw [q] at e
      cases e
      exact .tup (ex_t hide_le h) (dpl_of t q)
  | _, _, _, .obj h t, e => by
    unfold pyD at e
    cases e
  | _, _, _, .tok h, e => by
    unfold pyD at e
    cases e
  | _, _, _, .ptr a, e => by
    unfold pyD at e
    cases e
theorem dpl_of {K : PySem.W.Frag} {S : List Addr} {H : Hp} : ∀ {vs : List V} {ds : List D} {ys : List PyData}, AtL K (hide S H) vs ds → pyL ds = some ys → DpAll K H vs ys
  | _, _, _, .nil, e => by
    unfold pyL at e
    cases e
    exact .nil
  | _, _, _, .cons (d := d) (ds := ds) h t, e => by
    unfold pyL at e
    cases q1 : pyD d with
    | none => rw [q1] at e; cases e
    | some x =>
      cases q2 : pyL ds with
      | none => rw [q1, q2] at e; cases e
      | some xs =>
        rw [q1, q2] at e
        cases e
        exact .cons (dp_of h q1) (dpl_of t q2)
end
/-- what == asks of both sides -/
def EqD (x y : D) (r : Bool) : Prop := ∃ d e, pyD x = some d ∧ pyD y = some e ∧ SeqAt.shaped d = true ∧ SeqAt.shaped e = true ∧ PyData.eqv d e = r
theorem xe_eqD {n : Nat} (hr : Room n X.A) (h : XE X a ρ fun x => XE X b ρ fun y => ∃ r, EqD x y r ∧ k (.bl r)) : XE X (.Compare a [.Eq] [b] pos) ρ k :=
  impE (pe_cmpR (op_eqD hr.units) anyE anyE (nomark _)) fun σ H Q ⟨S, E, q⟩ => useE h E fun x H1 d e1 a1 hb => useE hb (E.mono e1) fun y H2 d2 e2 a2 ⟨r, ⟨u, w, p1, p2, s1, s2, er⟩, hk⟩ => by
    subst er
    exact ⟨u, w, dp_of (a1.mono (hide_ex e2)) p1, dp_of a2 p2, s1, s2, q _ _ _ (e1.trans e2) (.bl _) hk⟩
theorem xe_neD {n : Nat} (hr : Room n X.A) (h : XE X a ρ fun x => XE X b ρ fun y => ∃ r, EqD x y r ∧ k (.bl (!r))) : XE X (.Compare a [.NotEq] [b] pos) ρ k :=
  impE (pe_cmpR (op_neD hr.units) anyE anyE (nomark _)) fun σ H Q ⟨S, E, q⟩ => useE h E fun x H1 d e1 a1 hb => useE hb (E.mono e1) fun y H2 d2 e2 a2 ⟨r, ⟨u, w, p1, p2, s1, s2, er⟩, hk⟩ => by
    subst er
    exact ⟨u, w, dp_of (a1.mono (hide_ex e2)) p1, dp_of a2 p2, s1, s2, q _ _ _ (e1.trans e2) (.bl _) hk⟩
theorem xt_eqD {n : Nat} (hr : Room n X.A) (h : XE X a ρ fun x => XE X b ρ fun y => ∃ r, EqD x y r ∧ kb r) : XT X (.Compare a [.Eq] [b] pos) ρ kb :=
  impT (pt_cmpR (op_eqD hr.units) anyE anyE (nomark _)) fun σ H Q ⟨S, E, q⟩ => useE h E fun x H1 d e1 a1 hb => useE hb (E.mono e1) fun y H2 d2 e2 a2 ⟨r, ⟨u, w, p1, p2, s1, s2, er⟩, hk⟩ => by
    subst er
    exact ⟨u, w, dp_of (a1.mono (hide_ex e2)) p1, dp_of a2 p2, s1, s2, _, rfl, q _ _ (e1.trans e2) hk⟩
theorem xt_neD {n : Nat} (hr : Room n X.A) (h : XE X a ρ fun x => XE X b ρ fun y => ∃ r, EqD x y r ∧ kb (!r)) : XT X (.Compare a [.NotEq] [b] pos) ρ kb :=
  impT (pt_cmpR (op_neD hr.units) anyE anyE (nomark _)) fun σ H Q ⟨S, E, q⟩ => useE h E fun x H1 d e1 a1 hb => useE hb (E.mono e1) fun y H2 d2 e2 a2 ⟨r, ⟨u, w, p1, p2, s1, s2, er⟩, hk⟩ => by
    subst er
    exact ⟨u, w, dp_of (a1.mono (hide_ex e2)) p1, dp_of a2 p2, s1, s2, _, rfl, q _ _ (e1.trans e2) hk⟩

/-! ## Instances with slots: reads, properties -/
theorem slt_get {K : PySem.W.Frag} {H : Hp} {vs : List V} {ds : List D} {i : Nat} {d : D} (a : AtL K H vs ds) (h : ds[i]? = some d) : ∃ v, (vs.map some)[i]? = some (some v) ∧ At K H v d := by
  obtain ⟨v, h1, h2⟩ := a.get h
  exact ⟨v, by rw [List.getElem?_map, h1]; rfl, h2⟩
theorem xe_slot {f : Str} {C pa : Addr} {i : Nat} (sc : SlX.SCls X.K C) (t : SlX.Slot1 X.K C f pa i) (h : XE X a ρ fun d => ∃ ds d', d = .obj C ds ∧ ds[i]? = some d' ∧ k d') (hb : attributeBase a f X.env (eval a X.env) = eval a X.env := by rfl) :
    XE X (.Attribute a f pos) ρ k :=
  impE (SlX.pe_sl anyE hb) fun σ H Q ⟨S, E, q⟩ => useE h E fun v H1 d e1 a1 ⟨ds, d', hd, hi, hk⟩ => by
    subst hd
    obtain ⟨x, dx, vs, rfl, h1, h2⟩ := a1.inv_obj
    obtain ⟨v, g1, g2⟩ := slt_get h2 hi
    exact ⟨x, C, dx, pa, _, i, v, rfl, ex_s hide_le h1, sc, t, g1, q _ _ _ e1 g2 hk⟩
/-- a property of the class at C -/
structure PropAt (K : PySem.W.Frag) (C : Addr) (f : Str) (pa g : Addr) : Prop where
  at_ : PySem.W.findIn K (.ref C) f = some (some (.ref pa))
  get : PySem.W.specialIn K (.ref pa) "__get__" = some (some (.builtin "property.__get__"))
  tk : PySem.W.takesIn K (.ref pa) = some true
  rc : ∃ rest, PySem.W.recIn K pa "property" = some (.ref g :: rest)
/-- a def of the class, by its address -/
structure FnA (P : Program) (w : World) (K : PySem.W.Frag) (mg : Str → Option Value) (base : Heap) (k : Nat) (g : Addr) (ps : List Str) (C : Con) : Prop where
  ex : ∃ fd, PySem.W.keepIn K (.ref g) = true ∧ Binds K fd ps [] ∧ FnOk P w K mg base CX0 k g fd ps (spC K ps.length C)
theorem FnA.raw {P : Program} {w : World} {K : PySem.W.Frag} {mg : Str → Option Value} {base : Heap} {k : Nat} {g : Addr} {ps : List Str} {C : Con} (F : FnA P w K mg base k g ps C) : FnR P w K mg base CX0 k g (spC K ps.length C) := by
  obtain ⟨fd, h1, h2, h3⟩ := F.ex
  exact (FnOk.raw h3 h2 .nil).imp fun vs H Q E h => by rw [List.append_nil]; exact h
theorem xe_prop {f : Str} {C pa g : Addr} {n m : Nat} {s : Str} {Cn : Con} (sc : SlX.SCls X.K C) (pr : PropAt X.K C f pa g) (F : FnA X.prog X.w X.K X.mg X.base n g [s] Cn) (hr : Room m X.A) (h : XE X a ρ fun d => ∃ ds, d = .obj C ds ∧ Cn [d] k) (hnm : n + 1 ≤ m := by decide)
    (hb : attributeBase a f X.env (eval a X.env) = eval a X.env := by rfl) : XE X (.Attribute a f pos) ρ k :=
  impE (SlX.pe_propSl (E := fun _ _ _ => False) anyE sc pr.at_ pr.get pr.tk pr.rc F.raw (hr.mono hnm) (fun _ _ _ _ h => h) hb) fun σ H Q ⟨S, E, q⟩ => useE h E fun v H1 d e1 a1 ⟨ds, hd, hc⟩ => by
    subst hd
    have a1' := a1
    obtain ⟨x, dx, vs, rfl, h1, h2⟩ := a1.inv_obj
    exact ⟨x, dx, vs.map some, rfl, ex_s hide_le h1, S, _, k, rfl, (E.mono e1).trk, .cons a1' .nil, hc, fun v H2 d2 e2 a2 hk => q v H2 d2 (e1.trans e2) a2 hk⟩

/-! ## C(..) of a class with slots -/
/-- __init__: what it asks of the arguments (it raises nothing then), and stores them in the slots in order -/
def spI (K : PySem.W.Frag) (C : Addr) (n : Nat) (g : List D → List D) (Ok : List D → Prop) : Sp := fun vs H Q _ => ∃ S x dx us ds, vs = .ref x :: us ∧ us.length = n ∧ Trk S H ∧ x ∈ S ∧ dx ∈ S ∧ H x = some (.ins C dx []) ∧ H dx = some (.own x) ∧ dx ≠ x ∧ AtL K (hide S H) us ds ∧ Ok ds ∧
  ∀ H2 ws, Ex (hide [x, dx] H) H2 → AtL K (hide S H2) ws (g ds) → SlX.Slt H2 x C dx (ws.map some) → Q .non H2
structure Mkr (P : Program) (w : World) (K : PySem.W.Frag) (mg : Str → Option Value) (base : Heap) (k : Nat) (x : Str) (C : Addr) (n : Nat) (g : List D → List D) (Ok : List D → Prop) : Prop where
  ex : ∃ f fd ps, mg x = some (.ref C) ∧ Mk K C f ∧ Binds K fd ps [] ∧ FnOk P w K mg base CX0 k f fd ps (spI K C n g Ok)
theorem xe_new {n m N : Nat} {x : Str} {C : Addr} {g : List D → List D} {Ok : List D → Prop} {es : List Expr} (M : Mkr X.prog X.w X.K X.mg X.base n x C N g Ok) (hr : Room m X.A) (h : XA X (e :: es) ρ fun ds => ds.length = N ∧ Ok ds ∧ k (.obj C (g ds))) (hnm : n + 1 ≤ m := by decide) (hg : Gl X x := by rfl)
    (hdb : (x == ("__debug__" : Str)) = false := by decide) (he : starEach (e :: es) X.env = (false, eval e X.env) :: starEach es X.env := by rfl) (hpl : (backTo pos (starEach es X.env)).any (·.1) = false := by rfl) :
    XE X (.Call (.Name x p) (e :: es) [] pos) ρ k := by
  obtain ⟨f, fd, ps, h1, h2, h3, h4⟩ := M.ex
  refine impE (pe_make (E := fun _ _ _ => False) h2 h4 (hr.mono hnm) hg h1 h3 .nil pass0 anyA hdb he hpl) fun σ H Q ⟨S, E, q⟩ => useA h E fun vs H1 ds e1 a1 ⟨hl, hok, hk⟩ => fun y dx hy hdx ne => ?_
  rw [List.append_nil]
  have E1 := E.mono e1
  have ny := hide_new E1.trk hy
  have nd := hide_new E1.trk hdx
  have gy : upd (upd H1 dx (.own y)) y (.ins C dx []) y = some (.ins C dx []) := upd_same
  have gd : upd (upd H1 dx (.own y)) y (.ins C dx []) dx = some (.own y) := by rw [upd_ne ne, upd_same]
  have go : ∀ z, z ≠ y → z ≠ dx → upd (upd H1 dx (.own y)) y (.ins C dx []) z = H1 z := fun z z1 z2 => by rw [upd_ne z1, upd_ne z2]
  have nn : ∀ z u, H1 z = some u → z ≠ y ∧ z ≠ dx := fun z u q => ⟨ne_of_none q hy, ne_of_none q hdx⟩
  refine ⟨y :: dx :: S, y, dx, vs, ds, rfl, by rw [a1.length]; exact hl, fun z hz => ?_, by simp, by simp, gy, gd, ne, a1.mono fun z o hz => ?_, hok, fun H2 ws e2 aw sl => ⟨rfl, ?_⟩⟩
  · rcases List.mem_cons.mp hz with w | w
    · exact ⟨_, by rw [w]; exact gy⟩
    · rcases List.mem_cons.mp w with w | w
      · exact ⟨_, by rw [w]; exact gd⟩
      · obtain ⟨o, w2⟩ := E1.trk z w
        obtain ⟨z1, z2⟩ := nn z o w2
        exact ⟨o, by rw [go z z1 z2]; exact w2⟩
  · have zS : z ∉ S := fun w => by
      rw [hide_in w] at hz
      cases hz
    rw [hide_out zS] at hz
    obtain ⟨z1, z2⟩ := nn z o hz
    rw [hide_out (by simp [z1, z2, zS]), go z z1 z2]
    exact hz
  · have e12 : Ex H1 H2 := fun z o hz => by
      obtain ⟨z1, z2⟩ := nn z o hz
      refine e2 z o ?_
      rw [hide_out (by simp [z1, z2]), go z z1 z2]
      exact hz
    refine q (.ref y) H2 _ (e1.trans e12) (.obj (C := C) (dx := dx) (vs := ws) ?_ (aw.mono (hide_sub fun z hz => List.mem_cons_of_mem _ (List.mem_cons_of_mem _ hz)))) hk
    rcases sl with ⟨s1, s2⟩ | ⟨s1, s2⟩
    · exact .inl ⟨by rw [hide_out ny]; exact s1, s2⟩
    · exact .inr ⟨by rw [hide_out ny]; exact s1, by rw [hide_out nd]; exact s2⟩
end
end VL

set_option Elab.async false
set_option linter.all false
set_option maxRecDepth 100000
set_option maxHeartbeats 4000000
namespace VL
open PySem L2

/-! ## __init__ of a class with slots: checks that raise nothing, then the stores -/
section
variable {K : PySem.W.Frag} {S0 : List Addr} {H0 H : Hp} {σ : L2.St} {ρ : Rho}
/-- slots, some of them filled -/
inductive AtO (K : PySem.W.Frag) (H : Hp) : List (Option V) → List (Option D) → Prop
  | nil : AtO K H [] []
  | non {vs : List (Option V)} {ds : List (Option D)} : AtO K H vs ds → AtO K H (none :: vs) (none :: ds)
  | has {v : V} {d : D} {vs : List (Option V)} {ds : List (Option D)} : At K H v d → AtO K H vs ds → AtO K H (some v :: vs) (some d :: ds)
def putD (i : Nat) (v : D) (vs : List (Option D)) : List (Option D) := (vs ++ List.replicate (i + 1 - vs.length) none).set i (some v)
theorem AtO.len : ∀ {vs : List (Option V)} {ds : List (Option D)}, AtO K H vs ds → vs.length = ds.length
  | _, _, .nil => rfl
  | _, _, .non t => by rw [List.length_cons, List.length_cons, t.len]
  | _, _, .has _ t => by rw [List.length_cons, List.length_cons, t.len]
theorem AtO.nones : ∀ n : Nat, AtO K H (List.replicate n none) (List.replicate n none)
  | 0 => .nil
  | n + 1 => .non (AtO.nones n)
theorem AtO.app : ∀ {vs us : List (Option V)} {ds es : List (Option D)}, AtO K H vs ds → AtO K H us es → AtO K H (vs ++ us) (ds ++ es)
  | _, _, _, _, .nil, q => q
  | _, _, _, _, .non t, q => .non (t.app q)
  | _, _, _, _, .has h t, q => .has h (t.app q)
theorem AtO.set : ∀ {vs : List (Option V)} {ds : List (Option D)} {v : V} {d : D} (i : Nat), AtO K H vs ds → At K H v d → AtO K H (vs.set i (some v)) (ds.set i (some d))
  | _, _, _, _, _, .nil, _ => .nil
  | _, _, _, _, 0, .non t, q => .has q t
  | _, _, _, _, 0, .has _ t, q => .has q t
  | _, _, _, _, i + 1, .non t, q => .non (t.set i q)
  | _, _, _, _, i + 1, .has h t, q => .has h (t.set i q)
theorem AtO.put {vs : List (Option V)} {ds : List (Option D)} {v : V} {d : D} (i : Nat) (h : AtO K H vs ds) (q : At K H v d) : AtO K H (SlX.putS i v vs) (putD i d ds) := by
  unfold SlX.putS putD
  rw [h.len]
  exact (h.app (AtO.nones _)).set i q
theorem AtO.full : ∀ {vs : List (Option V)} {ds : List D}, AtO K H vs (ds.map some) → ∃ us, vs = us.map some ∧ AtL K H us ds
  | _, [], .nil => ⟨[], rfl, .nil⟩
  | _, d :: ds, .has h t => by
    obtain ⟨us, e, a⟩ := AtO.full t
    exact ⟨_ :: us, by rw [e]; rfl, .cons h a⟩
/-- between the stores: os are in the slots -/
def Sto (K : PySem.W.Frag) (S0 : List Addr) (H0 : Hp) (ρ : Rho) (x C dx : Addr) (os : List (Option D)) (σ : L2.St) (H : Hp) : Prop :=
  ∃ H1 us, StOk K S0 H0 H1 σ ρ ∧ AtO K (hide S0 H1) us os ∧ H1 x = some (.ins C dx []) ∧ H1 dx = some (.own x) ∧ dx ≠ x ∧ ((us = [] ∧ H = H1) ∨ H = SlX.slH H1 x C dx us)
end
def XR (X : Cx) (sts : List Stmt) (ρ : Rho) (S0 : List Addr) (H0 : Hp) (R : L2.St → Hp → Prop) : Prop := PSs X sts fun En σ H => StOk X.K S0 H0 H σ ρ ∧ ∀ σ' H', R σ' H' → En.nx σ' H'
def XQ (X : Cx) (sts : List Stmt) (ρ : Rho) (S0 : List Addr) (H0 : Hp) (x C dx : Addr) (ds : List (Option D)) (R : L2.St → Hp → Prop) : Prop := PSs X sts fun En σ H => Sto X.K S0 H0 ρ x C dx ds σ H ∧ ∀ σ' H', R σ' H' → En.nx σ' H'
section
variable {X : Cx} {ρ : Rho} {S0 : List Addr} {H0 : Hp} {R : L2.St → Hp → Prop} {st : Stmt} {rest sts : List Stmt} {x C dx : Addr} {ds : List (Option D)}
theorem xr_cons (tr : Trk S0 H0) (h : XS X st ρ { nx := fun ρ' => XR X rest ρ' S0 H0 R, rt := fun _ => False }) : XR X (st :: rest) ρ S0 H0 R :=
  impSs (pss_cons anyS anySs) fun En σ H ⟨ok, f⟩ => ⟨_, h S0 H0 tr, ok, ⟨fun σ' H' ρ' ok' hb => ⟨_, hb, ok', f⟩, fun _ _ _ _ _ z => z.elim, fun _ _ _ _ z => z.elim, fun _ _ _ _ z => z.elim⟩⟩
theorem xr_stores (hx : H0 x = some (.ins C dx [])) (hd : H0 dx = some (.own x)) (ne : dx ≠ x) (h : XQ X sts ρ S0 H0 x C dx [] R) : XR X sts ρ S0 H0 R :=
  impSs h fun En σ H ⟨ok, f⟩ => ⟨⟨H, [], ok, .nil, let ⟨_, _, _, _, e, _⟩ := ok; e _ _ hx, let ⟨_, _, _, _, e, _⟩ := ok; e _ _ hd, ne, .inl ⟨rfl, rfl⟩⟩, f⟩
theorem xq_nil (h : ∀ σ H, Sto X.K S0 H0 ρ x C dx ds σ H → R σ H) : XQ X [] ρ S0 H0 x C dx ds R := impSs pss_nil fun En σ H ⟨st, f⟩ => f σ H (h σ H st)
theorem xq_cons (i : Nat) {f sn y : Str} {pa : Addr} {n : Nat} {d : D} {p1 p2 p3 pos : Pos} (h0 : ρ[0]? = some (.dat (.ptr x))) (hi : ρ[i]? = some (.dat d)) (sc : SlX.SCls X.K C) (t : SlX.Slot1 X.K C f pa n)
    (h : XQ X rest ρ S0 H0 x C dx (putD n d ds) R) (hN0 : X.N[0]? = some sn := by rfl) (hNi : X.N[i]? = some y := by rfl)
    (hv0 : Vis X.env.scope sn := by first | exact Or.inl rfl | exact Or.inr (Or.inl rfl) | exact Or.inr (Or.inr rfl)) (hvi : Vis X.env.scope y := by first | exact Or.inl rfl | exact Or.inr (Or.inl rfl) | exact Or.inr (Or.inr rfl))
    (a1 : (sn == ("__debug__" : Str)) = false := by decide) (a2 : (sn == ("__classdict__" : Str)) = false := by decide) (b1 : (y == ("__debug__" : Str)) = false := by decide) (b2 : (y == ("__classdict__" : Str)) = false := by decide)
    (hs : swapsWith (.Name y p3) (some (.Attribute (.Name sn p1) f p2)) pos.line X.env = pure false := by rfl) :
    XQ X (.Assign [.Attribute (.Name sn p1) f p2] (.Name y p3) pos :: rest) ρ S0 H0 x C dx ds R :=
  impSs (pss_cons (SlX.ps_sl (pe_var hN0 hv0 a1 a2) (pe_var hNi hvi b1 b2) hs) h) fun En σ H ⟨⟨H1, us, ⟨S, g1, g2, g3, g4, E⟩, au, gx, gd, ne, hH⟩, fin⟩ => by
    obtain ⟨v, ev, av⟩ := E.dat i d hi
    obtain ⟨s, es, as⟩ := E.dat 0 _ h0
    have e0 := as.inv_ptr
    subst e0
    have ok : StOk X.K S0 H0 H1 σ ρ := ⟨S, g1, g2, g3, g4, E⟩
    have av' : At X.K (hide S0 H1) v d := av.mono (hide_sub g1)
    have slt : SlX.Slt H x C dx us := by
      rcases hH with ⟨z, w⟩ | w
      · rw [w, z]
        exact .inl ⟨gx, rfl⟩
      · rw [w]
        exact SlX.slH_slt ne
    refine ⟨v, ev, _, es, x, C, dx, pa, us, n, rfl, slt, sc, t, ⟨H1, SlX.putS n v us, ok, au.put n av', gx, gd, ne, .inr ?_⟩, fin⟩
    rcases hH with ⟨z, w⟩ | w
    · rw [w]
    · rw [w, SlX.slH_twice ne]
end
section
variable {P : Program} {w : World} {K : PySem.W.Frag} {mg : Str → Option Value} {base : Heap}
/-- __init__ by its body -/
theorem xinit {x qual : Str} {st : Stmt} {f : Addr} {fd : FuncData} {N ps : List Str} {n m : Nat} {C : Addr} {g : List D → List D} {Ok : List D → Prop} (F : Fun K x qual st f fd) (Sc : FnScope N ps (defScope st)) (hm : ps.length = m + 1)
    (body : ∀ (ds : List D), ds.length = m → Ok ds → ∀ (cdv : Value) (A : Around) (outer : List Env) (s : Shared) (H : Hp) (E : XK), Room n (A.deeper (PyProof.Rows.envOfC qual (defScope st) s.heap.objs.size f cdv)) →
      ∀ (x dx : Addr) (S0 : List Addr) (H0 : Hp) (R : L2.St → Hp → Prop), Trk S0 H0 → H0 x = some (.ins C dx []) → H0 dx = some (.own x) → dx ≠ x → (∀ ρ σ H, Sto K S0 H0 ρ x C dx ((g ds).map some) σ H → R σ H) →
      XR (cxOf CX0 P w K mg base N qual (defScope st) f cdv A outer s H E).nox (defBody st) (startR N.length (.ptr x :: ds)) S0 H0 R) : FnOk P w K mg base CX0 (n + 1) f fd ps (spI K C m g Ok) := by
  have hpl : ps.length ≤ N.length := by
    have := congrArg List.length Sc.pre
    rw [List.length_take] at this
    omega
  refine F.ok Sc (fun vs H Q E h => ?_) fun cdv A outer s H vs Q E hr h => ?_
  · obtain ⟨S, x, dx, us, ds, rfl, hl, _⟩ := h
    rw [List.length_cons, hl, hm]
  · obtain ⟨S, x, dx, us, ds, rfl, hl, tr, xS, dS, hx, hd, ne, a, hok, q⟩ := h
    refine ⟨_, body ds (by rw [← a.length]; exact hl) hok cdv A outer s H E hr x dx S H (fun _ H' => Q .non H') tr hx hd ne (fun ρ σ H2 sto => ?_), start_ok tr (by rw [List.length_cons]; omega) (.cons (.ptr x) a), fun σ' H' h => h⟩
    obtain ⟨H1, us2, ⟨S1, g1, g2, g3, g4, E1⟩, aw0, gx, gd, _, hH⟩ := sto
    obtain ⟨ws, e2, aw⟩ := aw0.full
    subst e2
    have hide2 : ∀ vs, hide S (SlX.slH H1 x C dx vs) = hide S H1 := fun vs => by
      unfold SlX.slH
      rw [hide_upd xS, hide_upd dS]
    rcases hH with ⟨z, w⟩ | w
    · rw [w]
      refine q H1 ws (fun b o hb => ?_) aw (.inl ⟨gx, z⟩)
      exact g4 _ _ (hide_le _ _ hb)
    · rw [w]
      refine q _ ws (fun b o hb => ?_) (by rw [hide2]; exact aw) (SlX.slH_slt ne)
      by_cases hbm : b ∈ [x, dx]
      · rw [hide_in hbm] at hb
        cases hb
      · rw [hide_out hbm] at hb
        simp only [List.mem_cons, List.not_mem_nil, or_false, not_or] at hbm
        rw [SlX.slH_ne hbm.1 hbm.2]
        exact g4 _ _ hb
end

/-! ## own == and !=, str -/
structure EqAt (K : PySem.W.Frag) (C g : Addr) : Prop where
  eq : PySem.W.findIn K (.ref C) "__eq__" = some (some (.ref g))
  fn : PySem.W.isFn K (.ref g) = true
  ne : PySem.W.findIn K (.ref C) "__ne__" = some (some (.builtin "object.__ne__"))
  nf : PySem.W.notFirst K C (.ref C) = true
  cm : PySem.W.mroIn K C (.type "object") = some true
section
open PySem.W in
/-- x != y by an own __eq__ -/
theorem ne_own {prog : Program} {w : World} {A : Around} {E : Value → Shared → Prop} {s : Shared} {K : PySem.W.Frag} {x C f : Addr} {ox : Obj} {od : Option Obj} {b tb : Value} {Q : Value → Shared → Prop} (hu : A.units + 1 < cLine) (Xk : K.In s.heap) (I : PySem.W.InstAt s.heap x ox C od)
    (hb : PySem.W.Looks (model prog w) s.heap (typeOf b) tb) (hn : PySem.W.notFirst K C tb = true) (hs : PySem.W.findIn K (.ref C) "__ne__" = some (some (.builtin "object.__ne__"))) (he : PySem.W.findIn K (.ref C) "__eq__" = some (some (.ref f))) (hf : PySem.W.isFn K (.ref f) = true)
    (hm : PySem.W.mroIn K C (.type "object") = some true) (h : wpAny (model prog w) A.in1 (call (.ref f) [.ref x, b]) (fun v s' => ∃ r, v = .bool r ∧ Q (.bool (!r)) s') E s) : wpAny (model prog w) A (richCompare .NotEq (.ref x) b) Q E s := by
  have hcall : wpAny (model prog w) A (call (.builtin "object.__ne__") [.ref x, b]) (fun v s' => ∃ r, v = .bool r ∧ Q v s') E s := by
    refine wpAny_call (codeAny_call_builtin (by decide +kernel) F.cmpEntry_ne (check_slot (i := "object.__ne__") (owner := "object") (n := "__ne__") F.cmpKind_ne F.cmpSplit_ne (I.type.andThen (looks_mroIn Xk hm)) (F.cmpArgs_ne _ _) ?_))
    unfold Builtin.«object.__ne__»
    refine wpAny_bind (m := slotArgs "__ne__" 1 _) (wpAny_pure ?_)
    refine wpAny_bind (m := cRoomFor _ _) (wpAny_cRoomFor (by show A.units + 1 < _; exact hu) ?_)
    refine wpAny_bind (m := callSpecialIfBound? (.ref x) (Str.ofString "__eq__") _) (ifBound_K Xk I he hf (wpAny_mono h (fun r s' hq => ?_) fun _ _ y => y))
    obtain ⟨r, rfl, hq⟩ := hq
    exact wpAny_bind (wpAny_truthy_bool (wpAny_pure ⟨_, rfl, hq⟩))
  have one : wpAny (model prog w) A (tryCompare (.ref x) (cmpInfo .NotEq).2.1 b) (fun r s' => ∃ v, r = some v ∧ Q v s') E s := by
    unfold tryCompare
    refine wpAny_bind ?_
    simp only [callSpecialIfBound?, bindSpecialIfBound?]
    have hs' : PySem.W.findIn K (.ref C) (cmpInfo .NotEq).2.1 = some (some (.builtin "object.__ne__")) := hs
    refine wpAny_holding (wpAny_bind (wpAny_bind (wpAny_bind (I.type.here ((looks_findIn Xk hs').here ?_)))))
    have hbd : ∀ self, bindSpecial (.builtin "object.__ne__") self = pure (.builtin "object.__ne__", [self]) := F.slot_object_ne.bind
    have fin : wpAny (model prog w) A (call (.builtin "object.__ne__") ([.ref x] ++ [b]) >>= fun v => pure (some v)) (fun r s' => wpAny (model prog w) A (match r with | some .notImplemented => pure none | none => pure none | some z => pure (some z)) (fun r s' => ∃ v, r = some v ∧ Q v s') E s') E s := by
      refine wpAny_bind (wpAny_mono hcall (fun v s' h' => ?_) fun _ _ h' => h')
      obtain ⟨r, rfl, hq⟩ := h'
      exact wpAny_pure (wpAny_pure ⟨_, rfl, hq⟩)
    refine wpAny_bind (wpAny_askSetting (wpAny_ite ?_))
    split
    · exact wpAny_bind ((Looks.of_pure (hbd (.ref x))).here (wpAny_pure (by exact fin)))
    · exact wpAny_tryCatch (wpAny_bind ((Looks.of_pure (hbd (.ref x))).here (wpAny_pure (by exact fin))))
  unfold richCompare
  simp only [oneThing_ref]
  refine wpAny_holding (wpAny_bind (wpAny_cRoomFor (Nat.lt_of_succ_lt hu) (wpAny_bind (I.type.here (wpAny_bind (hb.here ?_))))))
  have ends : ∀ {f : Option Value → Sem Value}, (∀ v, f (some v) = pure v) → wpAny (model prog w) A (tryCompare (.ref x) (cmpInfo .NotEq).2.1 b >>= f) Q E s := fun hf2 => wpAny_bind (wpAny_mono one (fun r s2 z2 => by
    obtain ⟨v, rfl, hq⟩ := z2
    rw [hf2]
    exact wpAny_pure hq) fun _ _ y => y)
  split
  · rename_i differ
    have below : PySem.W.subIn K tb (.ref C) = some false := (Bool.or_eq_true_iff.mp hn).elim (fun same => by rw [beq_iff_eq.mp same] at differ; simp at differ) fun z => beq_iff_eq.mp z
    refine wpAny_bind ((looks_subIn Xk below).here ?_)
    simp only [if_false, Bool.false_eq_true]
    exact ends fun _ => rfl
  · refine wpAny_bind (wpAny_pure ?_)
    simp only [if_false, Bool.false_eq_true]
    exact ends fun _ => rfl
end
end VL

set_option Elab.async false
set_option linter.all false
set_option maxRecDepth 100000
set_option maxHeartbeats 4000000
namespace VL
open PySem L2

/-! ## own ==, !=, str -/
section
variable {X : Cx} {ρ : Rho} {a b c e : Expr} {pos p p2 : Pos} {k : D → Prop} {kb : Bool → Prop} {kl : List D → Prop} {j : J} {C g : Addr} {n m : Nat} {s1 s2 : Str} {Cn : Con}
def rNeO (C : Addr) (sp : Sp) : R2 := fun x y H Q => ∃ a dx vs b dy ws, x = .ref a ∧ y = .ref b ∧ SlX.Slt H a C dx vs ∧ SlX.Slt H b C dy ws ∧ sp [x, y] H (fun v H' => ∃ r, v = .bl r ∧ Q (.bl (!r)) H') fun _ _ _ => False
theorem op_neO {sp : Sp} (q : EqAt X.K C g) (F : FnR X.prog X.w X.K X.mg X.base CX0 n g sp) (hr : Room (n + 1) X.A) : OpR X (compareOp .NotEq) (rNeO C sp) := by
  intro pins s σ H x y v u Q I rx ry h
  obtain ⟨a, dx, vs, b, dy, ws, rfl, rfl, ha, hb, h⟩ := h
  cases (show v = Value.ref a from rx)
  cases (show u = Value.ref b from ry)
  obtain ⟨sl, od, _, J1, _⟩ := SlX.slt_inst I ha
  obtain ⟨sl', od', _, J2, _⟩ := SlX.slt_inst I hb
  have un := hr.units
  show wpAny _ _ (richCompare .NotEq (.ref a) (.ref b)) _ _ _
  refine ne_own (by omega) I.kIn J1 J2.type q.nf q.ne q.eq q.fn q.cm ?_
  refine wpAny_mono (wpAny_call (SlX.run_at (us := [.ref a, .ref b]) (ws := [.ref a, .ref b]) F hr.in1 I.env0.in1 pass0 I (.cons rfl (.cons rfl .nil)) h)) (fun w s' z => ?_) fun _ _ x => x
  obtain ⟨z', H', I', rz, r, er, qz⟩ := z
  subst er
  cases (show w = Value.bool r from rz)
  exact ⟨r, rfl, .bl (!r), H', I', rfl, qz⟩
theorem sp2 {S : List Addr} {H : Hp} {K : PySem.W.Frag} {x y : V} {d d2 : D} {Q : VK} (E : ∀ a ∈ S, ∃ o, H a = some o) (a1 : At K (hide S H) x d) (a2 : At K (hide S H) y d2) (hc : Cn [d, d2] k) (q : ∀ v H2 d, Ex H H2 → At K (hide S H2) v d → k d → Q v H2) : spC K 2 Cn [x, y] H Q fun _ _ _ => False :=
  ⟨S, _, k, rfl, E, .cons a1 (.cons a2 .nil), hc, q⟩
theorem xe_neO (q : EqAt X.K C g) (F : FnA X.prog X.w X.K X.mg X.base n g [s1, s2] Cn) (hr : Room m X.A) (h : XE X a ρ fun x => ∃ xs, x = .obj C xs ∧ XE X b ρ fun y => ∃ ys, y = .obj C ys ∧ Cn [x, y] fun r => ∃ t, r = .bl t ∧ k (.bl (!t))) (hnm : n + 1 ≤ m := by decide) : XE X (.Compare a [.NotEq] [b] pos) ρ k :=
  impE (pe_cmpR (op_neO q F.raw (hr.mono hnm)) anyE anyE (nomark _)) fun σ H Q ⟨S, E, qq⟩ => useE h E fun x H1 d e1 a1 ⟨xs, hx, hb⟩ => useE hb (E.mono e1) fun y H2 d2 e2 a2 ⟨ys, hy, hc⟩ => by
    subst hx hy
    obtain ⟨a, dx, vs, rfl, h1, h2⟩ := a1.inv_obj
    obtain ⟨b, dy, ws, rfl, h3, h4⟩ := a2.inv_obj
    exact ⟨a, dx, _, b, dy, _, rfl, rfl, ex_s hide_le (ex_s (hide_ex e2) h1), ex_s hide_le h3, sp2 (E.mono (e1.trans e2)).trk (a1.mono (hide_ex e2)) a2 hc fun v H3 d3 e3 a3 ⟨t, ht, hk⟩ => by
      subst ht
      exact ⟨t, a3.inv_bl, qq _ _ _ ((e1.trans e2).trans e3) (.bl _) hk⟩⟩
theorem xt_neO (q : EqAt X.K C g) (F : FnA X.prog X.w X.K X.mg X.base n g [s1, s2] Cn) (hr : Room m X.A) (h : XE X a ρ fun x => ∃ xs, x = .obj C xs ∧ XE X b ρ fun y => ∃ ys, y = .obj C ys ∧ Cn [x, y] fun r => ∃ t, r = .bl t ∧ kb (!t)) (hnm : n + 1 ≤ m := by decide) : XT X (.Compare a [.NotEq] [b] pos) ρ kb :=
  impT (pt_cmpR (op_neO q F.raw (hr.mono hnm)) anyE anyE (nomark _)) fun σ H Q ⟨S, E, qq⟩ => useE h E fun x H1 d e1 a1 ⟨xs, hx, hb⟩ => useE hb (E.mono e1) fun y H2 d2 e2 a2 ⟨ys, hy, hc⟩ => by
    subst hx hy
    obtain ⟨a, dx, vs, rfl, h1, h2⟩ := a1.inv_obj
    obtain ⟨b, dy, ws, rfl, h3, h4⟩ := a2.inv_obj
    exact ⟨a, dx, _, b, dy, _, rfl, rfl, ex_s hide_le (ex_s (hide_ex e2) h1), ex_s hide_le h3, sp2 (E.mono (e1.trans e2)).trk (a1.mono (hide_ex e2)) a2 hc fun v H3 d3 e3 a3 ⟨t, ht, hk⟩ => by
      subst ht
      exact ⟨t, a3.inv_bl, _, rfl, qq _ _ ((e1.trans e2).trans e3) hk⟩⟩
theorem xe_eqO (q : EqAt X.K C g) (F : FnA X.prog X.w X.K X.mg X.base n g [s1, s2] Cn) (hr : Room m X.A) (h : XE X a ρ fun x => ∃ xs, x = .obj C xs ∧ XE X b ρ fun y => ∃ ys, y = .obj C ys ∧ Cn [x, y] k) (hnm : n ≤ m := by decide) : XE X (.Compare a [.Eq] [b] pos) ρ k :=
  impE (pe_cmpR (SlX.op_own (op := .Eq) (E := fun _ _ _ => False) (fun _ _ => rfl) q.eq q.fn F.raw (hr.mono hnm) pass0) anyE anyE (nomark _)) fun σ H Q ⟨S, E, qq⟩ => useE h E fun x H1 d e1 a1 ⟨xs, hx, hb⟩ => useE hb (E.mono e1) fun y H2 d2 e2 a2 ⟨ys, hy, hc⟩ => by
    subst hx hy
    obtain ⟨a, dx, vs, rfl, h1, h2⟩ := a1.inv_obj
    obtain ⟨b, dy, ws, rfl, h3, h4⟩ := a2.inv_obj
    exact ⟨a, dx, _, b, C, dy, _, rfl, rfl, ex_s hide_le (ex_s (hide_ex e2) h1), ex_s hide_le h3, q.nf, sp2 (E.mono (e1.trans e2)).trk (a1.mono (hide_ex e2)) a2 hc fun v H3 d3 e3 a3 hk => qq _ _ _ ((e1.trans e2).trans e3) a3 hk⟩
/-- str(x) of an own class -/
def rStrO (C : Addr) (sp : Sp) : List V → Hp → VK → Prop := fun xs H Q => ∃ a dx vs, xs = [V.ref a] ∧ SlX.Slt H a C dx vs ∧ sp [.ref a] H (fun z H' => ∃ y, z = .str y ∧ Q z H') fun _ _ _ => False
theorem call_strO {sp : Sp} (hs : PySem.W.findIn X.K (.ref C) "__str__" = some (some (.ref g))) (hf : PySem.W.isFn X.K (.ref g) = true) (F : FnR X.prog X.w X.K X.mg X.base CX0 n g sp) (hr : Room (n + 2) X.A) : CallR X (.type "str") (rStrO C sp) := by
  intro pins s σ H xs us Q I r h
  obtain ⟨a, dx, vs, rfl, hsl, q⟩ := h
  obtain ⟨u, rfl, ru⟩ := r.one
  cases (show u = Value.ref a from ru)
  obtain ⟨sl, od, _, J1, _⟩ := SlX.slt_inst I hsl
  have hr2 : Room n X.A.in1.in1 := (show Room (n + 1) X.A.in1 from Room.in1 hr).in1
  have un := hr2.units
  refine PySem.W.kso_call (by omega) I.kIn J1 hs hf (wpAny_mono (wpAny_call (SlX.run_at (us := [.ref a]) (ws := [.ref a]) F hr2 I.env0.in1.in1 pass0 I (.cons rfl .nil) q)) (fun w s' z => ?_) fun _ _ x => x)
  obtain ⟨z', H', I', rz, y, ey, qz⟩ := z
  subst ey
  obtain ⟨t, e⟩ := (show ∃ t, w = Value.str y t from rz)
  cases e
  exact ⟨.str y, H', I', ⟨t, rfl⟩, qz⟩
theorem xe_strO (hm0 : X.mg "str" = none) (hs : PySem.W.findIn X.K (.ref C) "__str__" = some (some (.ref g))) (hf : PySem.W.isFn X.K (.ref g) = true) (F : FnA X.prog X.w X.K X.mg X.base n g [s1] Cn) (hr : Room m X.A)
    (h : XE X a ρ fun x => ∃ xs, x = .obj C xs ∧ Cn [x] fun r => ∃ y, r = .str y ∧ k r) (hnm : n + 2 ≤ m := by decide) (hg : Gl X "str" := by rfl)
    (he : starEach (a :: []) X.env = (false, eval a X.env) :: starEach [] X.env := by rfl) : XE X (.Call (.Name "str" p) [a] [] pos) ρ k :=
  impE (pe_callTy (call_strO hs hf F.raw (hr.mono hnm)) hg hm0 (by decide +kernel) (pa_cons anyE pa_nil he) (by decide) (by decide) he rfl) fun σ H Q ⟨S, E, q⟩ => useE h E fun x H1 d e1 a1 ⟨xs, hx, hc⟩ => by
    subst hx
    have a1' := a1
    obtain ⟨a, dx, vs, rfl, h1, h2⟩ := a1.inv_obj
    exact ⟨a, dx, _, rfl, ex_s hide_le h1, S, _, _, rfl, (E.mono e1).trk, .cons a1' .nil, hc, fun v H2 d2 e2 a2 ⟨y, hy, hk⟩ => by
      subst hy
      exact ⟨y, a2.inv_str, q _ _ _ (e1.trans e2) a2 hk⟩⟩

/-! ## x, y, z = a, b, c; try -/
theorem xs_par3 (i1 i2 i3 : Nat) {x y z : Str} {px py pz pt : Pos} {kt k2 pt2} (hc : X.calm = true) (hN : X.N.Nodup)
    (h : XE X a ρ fun d1 => XE X b ρ fun d2 => XE X c ρ fun d3 => j.nx (((ρ.set i1 (.dat d1)).set i2 (.dat d2)).set i3 (.dat d3)))
    (hw : swappedStores [.Tuple [.Name x px, .Name y py, .Name z pz] kt pt] (.Tuple [a, b, c] k2 pt2) X.env = pure (some [x, y, z]))
    (h1 : X.N[i1]? = some x := by rfl) (h2 : X.N[i2]? = some y := by rfl) (h3 : X.N[i3]? = some z := by rfl) (h12 : i1 ≠ i2 := by decide) (h13 : i1 ≠ i3 := by decide) (h23 : i2 ≠ i3 := by decide)
    (hx : X.env.scope.names.lookup x = some .local := by rfl) (hy : X.env.scope.names.lookup y = some .local := by rfl) (hz : X.env.scope.names.lookup z = some .local := by rfl)
    (hs : swapsWithSole [.Tuple [.Name x px, .Name y py, .Name z pz] kt pt] (.Tuple [a, b, c] k2 pt2) pos.line X.env = pure false := by rfl)
    (s1 : starEach [a, b, c] X.env = (false, eval a X.env) :: starEach [b, c] X.env := by rfl) (s2 : starEach [b, c] X.env = (false, eval b X.env) :: starEach [c] X.env := by rfl) (s3 : starEach [c] X.env = (false, eval c X.env) :: starEach [] X.env := by rfl) :
    XS X (.Assign [.Tuple [.Name x px, .Name y py, .Name z pz] kt pt] (.Tuple [a, b, c] k2 pt2) pos) ρ j := fun S0 H0 tr =>
  impS (ps_par3 hc hN h1 h2 h3 h12 h13 h23 hx hy hz (pa_cons anyE (pa_cons anyE (pa_cons anyE pa_nil s3) s2) s1) hw hs) fun En σ H ⟨⟨S, g1, g2, g3, g4, E⟩, f⟩ =>
    useE h E fun v1 H1 d1 e1 a1 hb => useE hb (E.mono e1) fun v2 H2 d2 e2 a2 hc => useE hc ((E.mono e1).mono e2) fun v3 H3 d3 e3 a3 hk => ⟨v1, v2, v3, rfl, by
      have E3 := ((E.mono e1).mono e2).mono e3
      have o1 : StOk X.K S0 H0 H3 _ _ := StOk.store (i := i1) g1 g2 g3 (g4.trans ((e1.trans e2).trans e3)) E3 (a1.mono (hide_ex (e2.trans e3)))
      have k1 : Kept ρ (ρ.set i1 (.dat d1)) σ (σ.set i1 (some v1)) := Kept.set
      have k2 : Kept _ ((ρ.set i1 (.dat d1)).set i2 (.dat d2)) _ ((σ.set i1 (some v1)).set i2 (some v2)) := Kept.set
      have k3 : Kept _ (((ρ.set i1 (.dat d1)).set i2 (.dat d2)).set i3 (.dat d3)) _ (((σ.set i1 (some v1)).set i2 (some v2)).set i3 (some v3)) := Kept.set
      have kk := (k1.trans k2).trans k3
      have E4 := ((E3.store (i := i1) (a1.mono (hide_ex (e2.trans e3)))).store (i := i2) (a2.mono (hide_ex e3))).store (i := i3) a3
      exact f.nx _ _ _ ⟨S, g1, g2, fun l ds q u w => let ⟨r, t⟩ := kk l ds q u w; g3 l ds q r t, g4.trans ((e1.trans e2).trans e3), E4⟩ hk⟩
/-- try: a body that raises nothing -/
theorem xs_try {body : List Stmt} {h₀ : ExceptHandler} {hs : List ExceptHandler} (hn : ∀ e s, ¬ X.xe e s) (h : XB X body ρ j) : XS X (.Try body (h₀ :: hs) [] [] pos) ρ j := fun S0 H0 tr => ps_try_never (u := tNext) hn (h S0 H0 tr) pss_nil
end
end VL

set_option Elab.async false
set_option linter.all false
set_option maxRecDepth 100000
set_option maxHeartbeats 4000000
namespace VL
open PySem L2

/-! ## Sources of draws: three ints in a list, not told which -/
def Loose : HO → Prop
  | .lst _ => True
  | .ext _ => True
  | _ => False
theorem hok_swap {P : Program} {w : World} {H : Hp} {h : Heap} {c : Addr} {u o : HO} (x : HOk P w H h) (e : H c = some u) (lu : Loose u) (n : ObjOk P w (upd H c o) h c o) : HOk P w (upd H c o) h := fun b v q => by
  by_cases hb : b = c
  · subst hb
    rw [upd_same] at q
    cases q
    exact n
  · rw [upd_ne hb] at q
    refine (x b v q).stay (fun _ _ _ r => r) (fun d r => ?_) (fun d xs r => ?_)
    · have : d ≠ c := fun z => by
        rw [z, e] at r
        cases r
        exact lu
      rw [upd_ne this]
      exact r
    · have : d ≠ c := fun z => by
        rw [z, e] at r
        cases r
        exact lu
      rw [upd_ne this]
      exact r
theorem inv_swap {X : Cx} {pins : List (Addr × Obj)} {σ : L2.St} {H : Hp} {s : Shared} {c : Addr} {u o : HO} (I : Inv X pins σ H s) (e : H c = some u) (lu : Loose u) (n : ObjOk X.prog X.w (upd H c o) s.heap c o) : Inv X pins σ (upd H c o) s := by
  have ne : ∀ b, H b = none → b ≠ c := fun b q z => by
    rw [z, e] at q
    cases q
  have nl : ∀ b v, H b = some v → ¬ Loose v → b ≠ c := fun b v q nv z => by
    rw [z, e] at q
    cases q
    exact nv lu
  refine ⟨I.ok, I.os, I.bare, ⟨fun b ob q n1 n2 n3 => I.base.keep b ob q n1 n2 n3, fun b ob q n1 n2 n3 => I.base.slot b ob q n1 n2 n3, fun b ob q n1 n2 => ?_, fun b ob q n1 => I.base.there b ob q n1, fun b xs q => ?_, fun b ob v q => ?_, fun b ps q => ?_⟩, I.loc, I.cell, ?_, fun x d q => ?_, fun p hp => ?_, hok_swap I.hok e lu n, I.len⟩
  · have := I.base.free b ob q n1 n2
    rw [upd_ne (ne b this)]
    exact this
  · have := I.base.tups b xs q
    rw [upd_ne (nl b _ this fun z => z)]
    exact this
  · have := I.base.frzs b ob v q
    rw [upd_ne (nl b _ this fun z => z)]
    exact this
  · obtain ⟨m, this⟩ := I.base.tbls b ps q
    refine ⟨m, ?_⟩
    rw [upd_ne (nl b _ this fun z => z)]
    exact this
  · rw [upd_ne (ne _ I.free)]
    exact I.free
  · have := I.freeC x d q
    rw [upd_ne (ne _ this)]
    exact this
  · obtain ⟨g1, g2, g3⟩ := I.pin p hp
    exact ⟨g1, by rw [upd_ne (ne _ g2)]; exact g2, g3⟩
theorem upd_twice {H : Hp} {c : Addr} {o o' : HO} : upd (upd H c o) c o' = upd H c o' := by
  funext b
  by_cases z : b = c
  · rw [z, upd_same, upd_same]
  · rw [upd_ne z, upd_ne z, upd_ne z]
theorem upd_id {H : Hp} {c : Addr} {o : HO} (e : H c = some o) : upd H c o = H := by
  funext b
  by_cases z : b = c
  · rw [z, upd_same, e]
  · rw [upd_ne z]
def L3 (i j k : Int) : HO := .lst [.int i, .int j, .int k]
section
variable {X : Cx} {pins : List (Addr × Obj)} {σ : L2.St} {H : Hp} {s : Shared} {c : Addr}
theorem inv_in (I : Inv X pins σ H s) (e : H c = some (caskO c)) : ∃ i j k, Inv X pins σ (upd H c (L3 i j k)) s := by
  obtain ⟨⟨its, n, i, j, k, r, ho⟩, _, _⟩ := I.hok c _ e
  exact ⟨i, j, k, inv_swap I e trivial ⟨by show 3 ≤ sizeLine; decide, its, n, r, ho⟩⟩
theorem inv_out {i j k : Int} (I : Inv X pins σ H s) (e : H c = some (L3 i j k)) : Inv X pins σ (upd H c (caskO c)) s := by
  obtain ⟨_, its, n, r, ho⟩ := I.hok c _ e
  exact inv_swap I e trivial ⟨⟨its, n, i, j, k, r, ho⟩, ⟨_, ho⟩, fun h1 h2 ⟨its, n, i, j, k, r, q⟩ st => ⟨its, n, i, j, k, r, st _ q⟩⟩
end
section
variable {X : Cx} {ρ : Rho} {a b e ix : Expr} {pos p apos : Pos} {k : D → Prop} {j : J}
def rTok : R2 := fun x y H Q => ∃ c, ∃ n : Nat, x = .ref c ∧ y = .int n ∧ H c = some (caskO c) ∧ n < 3 ∧ ∀ i, Q (.int i) H
theorem ix_tok : IxR X rTok := by
  intro value slice pins s σ H x y v u Q I rx ry h hs
  obtain ⟨c, n, rfl, rfl, hc, hn, q⟩ := h
  obtain ⟨i, j, k, I2⟩ := inv_in I hc
  have at3 : ∃ z, atI [V.int i, V.int j, V.int k] (n : Int) = some (.int z) := by
    rcases n with _ | _ | _ | n
    · exact ⟨i, rfl⟩
    · exact ⟨j, rfl⟩
    · exact ⟨k, rfl⟩
    · omega
  obtain ⟨z, hz⟩ := at3
  refine wpAny_mono (ix_list value slice pins s σ _ (.ref c) (.int n) v u (fun v' H' => v' = .int z ∧ H' = upd H c (L3 i j k)) I2 rx ry ⟨c, _, n, .int z, rfl, rfl, SqL.of upd_same, hz, rfl, rfl⟩ hs) (fun w s1 hw => ?_) fun _ _ y => y
  obtain ⟨v', H', I3, r3, rfl, rfl⟩ := hw
  have I4 := inv_out I3 (c := c) (i := i) (j := j) (k := k) upd_same
  rw [upd_twice, upd_id hc] at I4
  exact ⟨.int z, H, I4, r3, q z⟩
def sTok : TSet := fun o i v H Q => ∃ c, ∃ n : Nat, ∃ z, o = .ref c ∧ i = .int n ∧ v = .int z ∧ H c = some (caskO c) ∧ n < 3 ∧ Q H
theorem set_tok : PSet X sTok := by
  intro pins s σ H o i v ov iv u Q I ro ri rv h
  obtain ⟨c, n, z, rfl, rfl, rfl, hc, hn, q⟩ := h
  obtain ⟨i0, j0, k0, I2⟩ := inv_in I hc
  have hset : ∃ i1 j1 k1, ([V.int i0, V.int j0, V.int k0].set n (.int z)) = [V.int i1, V.int j1, V.int k1] := by
    rcases n with _ | _ | _ | n
    · exact ⟨_, _, _, rfl⟩
    · exact ⟨_, _, _, rfl⟩
    · exact ⟨_, _, _, rfl⟩
    · omega
  obtain ⟨i1, j1, k1, e1⟩ := hset
  have hix : ixN ([V.int i0, V.int j0, V.int k0]).length (n : Int) = some n := by
    unfold ixN
    rw [if_pos (by omega), if_pos (by show (n : Int) < 3; omega)]
    simp
  refine wpAny_mono (set_list pins s σ _ (.ref c) (.int n) (.int z) ov iv u (fun H' => H' = upd (upd H c (L3 i0 j0 k0)) c (L3 i1 j1 k1)) I2 ro ri rv ⟨c, _, n, n, rfl, rfl, upd_same, hix, by rw [e1]; rfl⟩) (fun w s1 hw => ?_) fun _ _ y => y
  obtain ⟨H', I3, rfl⟩ := hw
  have I4 := inv_out I3 (c := c) (i := i1) (j := j1) (k := k1) upd_same
  rw [upd_twice, upd_twice, upd_id hc] at I4
  exact ⟨H, I4, q⟩
theorem xe_tokIx (h : XE X a ρ fun x => x = .tok ∧ XE X b ρ fun y => ∃ n : Nat, y = .int n ∧ n < 3 ∧ ∀ i, k (.int i)) (hs : PlainIx b := by exact fun _ _ => rfl) : XE X (.Subscript a b pos) ρ k :=
  impE (pe_ix ix_tok anyE anyE hs) fun σ H Q ⟨S, E, q⟩ => useE h E fun x H1 d e1 a1 ⟨hd, hb⟩ => useE hb (E.mono e1) fun y H2 d2 e2 a2 ⟨n, hn, hl, hk⟩ => by
    subst hd hn
    obtain ⟨c, rfl, hc⟩ := a1.inv_tok
    exact ⟨c, n, rfl, a2.inv_int, e2 _ _ (hide_le _ _ hc), hl, fun i => q _ _ _ (e1.trans e2) (.int i) (hk i)⟩
theorem xg_tok {d : D} {z : Int} {kr : Rho → Prop} (hd : d = .int z) (h : XE X a ρ fun x => x = .tok ∧ XE X b ρ fun y => ∃ n : Nat, y = .int n ∧ n < 3 ∧ kr ρ)
    (ha : ∀ v, assign (.Subscript a b pos) X.env v = (do
      let ov ← holding [v] (eval a X.env)
      let iv ← holding [v, ov] (eval b X.env)
      standAt pos
      holding [v, ov, iv] (setItem ov iv v)
      release [v, ov, iv] []) := by intro _; rfl) : PG X (.Subscript a b pos) fun v σ H Q => ∃ S, EnvOk X.K S H σ ρ ∧ At X.K (hide S H) v d ∧ ∀ H', Ex H H' → kr ρ → Q σ H' :=
  impG (pg_sub anyE anyE set_tok ha) fun v σ H Q ⟨S, E, av, q⟩ => useE h E fun x H1 d1 e1 a1 ⟨hx, hb⟩ => useE hb (E.mono e1) fun y H2 d2 e2 a2 ⟨n, hn, hl, hk⟩ => by
    subst hd hx hn
    obtain ⟨c, rfl, hc⟩ := a1.inv_tok
    exact ⟨c, n, z, rfl, a2.inv_int, av.inv_int, e2 _ _ (hide_le _ _ hc), hl, q _ (e1.trans e2) hk⟩
/-- cask[i] = an int -/
theorem xs_tok (h : XE X e ρ fun d => ∃ z, d = .int z ∧ XE X a ρ fun x => x = .tok ∧ XE X b ρ fun y => ∃ n : Nat, y = .int n ∧ n < 3 ∧ j.nx ρ)
    (ha : ∀ v, assign (.Subscript a b apos) X.env v = (do
      let ov ← holding [v] (eval a X.env)
      let iv ← holding [v, ov] (eval b X.env)
      standAt apos
      holding [v, ov, iv] (setItem ov iv v)
      release [v, ov, iv] []) := by intro _; rfl)
    (hs : swapsWithSole [.Subscript a b apos] e pos.line X.env = pure false := by rfl) (hw : swappedStores [.Subscript a b apos] e X.env = pure none := by rfl)
    (h1 : (assignEach [.Subscript a b apos] X.env).map (·.2) = [assign (.Subscript a b apos) X.env] := by rfl) :
    XS X (.Assign [.Subscript a b apos] e pos) ρ j := fun S0 H0 tr =>
  impS (ps_asg anyE (pg_sub anyE anyE set_tok ha) hs hw h1) fun En σ H ⟨⟨S, g1, g2, g3, g4, E⟩, f⟩ => useE h E fun v H1 d e1 av ⟨z, hz, hx⟩ => useE hx (E.mono e1) fun x H2 d2 e2 a2 ⟨hd, hb⟩ => useE hb ((E.mono e1).mono e2) fun y H3 d3 e3 a3 ⟨n, hn, hl, hk⟩ => by
    subst hz hd hn
    obtain ⟨c, rfl, hc⟩ := a2.inv_tok
    exact ⟨c, n, z, rfl, a3.inv_int, av.inv_int, e3 _ _ (hide_le _ _ hc), hl, f.nx _ _ _ ⟨S, g1, g2, g3, g4.trans ((e1.trans e2).trans e3), E.mono ((e1.trans e2).trans e3)⟩ hk⟩
/-- cask[i], name = divmod(u, v) and the like: a tuple of two ints -/
theorem xs_tok2 (i : Nat) {x : Str} {px pt : Pos} {kt : Nat} (h : XE X e ρ fun d => ∃ z w, d = .tup [.int z, .int w] ∧ XE X a ρ fun x => x = .tok ∧ XE X b ρ fun y => ∃ n : Nat, y = .int n ∧ n < 3 ∧ j.nx (ρ.set i (.dat (.int w)))) (hN : X.N.Nodup)
    (hi : X.N[i]? = some x := by rfl) (hx : Loc X.env.scope x := by first | exact Or.inl rfl | exact Or.inr rfl) (hf : X.fn x = true ∨ X.env.scope.names.lookup x = some .local := by first | exact .inl rfl | exact .inr rfl)
    (ha : ∀ v, assign (.Subscript a b apos) X.env v = (do
      let ov ← holding [v] (eval a X.env)
      let iv ← holding [v, ov] (eval b X.env)
      standAt apos
      holding [v, ov, iv] (setItem ov iv v)
      release [v, ov, iv] []) := by intro _; rfl) (hc : X.calm = true := by rfl)
    (hs : swapsWithSole [.Tuple [.Subscript a b apos, .Name x px] kt pt] e pos.line X.env = pure false := by rfl) (hw : swappedStores [.Tuple [.Subscript a b apos, .Name x px] kt pt] e X.env = pure none := by rfl)
    (h1 : (assignEach [.Tuple [.Subscript a b apos, .Name x px] kt pt] X.env).map (·.2) = [assign (.Tuple [.Subscript a b apos, .Name x px] kt pt) X.env] := by rfl)
    (c1 : (assignEach [.Subscript a b apos, .Name x px] X.env).map (·.2) = assign (.Subscript a b apos) X.env :: (assignEach [.Name x px] X.env).map (·.2) := by rfl) (c2 : (assignEach [.Name x px] X.env).map (·.2) = assign (.Name x px) X.env :: (assignEach [] X.env).map (·.2) := by rfl)
    (hn : (assignEach [.Subscript a b apos, .Name x px] X.env).length = 2 := by rfl) (hst : (assignEach [.Subscript a b apos, .Name x px] X.env).findIdx? (·.1) = none := by rfl) :
    XS X (.Assign [.Tuple [.Subscript a b apos, .Name x px] kt pt] e pos) ρ j := fun S0 H0 tr =>
  impS (ps_asg anyE (pg_tup hc (pgs_cons (pg_sub anyE anyE set_tok ha) (pgs_cons (pg_name hN hi hx hf) pgs_nil c2) c1) hn hst) hs hw h1) fun En σ H ⟨⟨S, g1, g2, g3, g4, E⟩, f⟩ => useE h E fun v H1 d e1 av ⟨z, w, hz, hx⟩ => by
    subst hz
    obtain ⟨t, vs, rfl, ht, av⟩ := av.inv_tup
    cases av with
    | cons av1 av =>
      cases av with
      | cons av2 av =>
        cases av
        refine ⟨t, _, rfl, ex_t hide_le ht, rfl, _, _, rfl, useE hx (E.mono e1) fun x H2 d2 e2 a2 ⟨hd, hb⟩ => useE hb ((E.mono e1).mono e2) fun y H3 d3 e3 a3 ⟨n, hn, hl, hk⟩ => ?_⟩
        subst hd hn
        obtain ⟨c, rfl, hc⟩ := a2.inv_tok
        have e12 := (e1.trans e2).trans e3
        refine ⟨c, n, z, rfl, a3.inv_int, av1.inv_int, e3 _ _ (hide_le _ _ hc), hl, _, _, rfl, rfl, f.nx _ _ _ (StOk.store g1 g2 g3 (g4.trans e12) (E.mono e12) ?_) hk⟩
        rw [av2.inv_int]
        exact .int w
/-- divmod -/
theorem xe_divmod (hm : X.mg "divmod" = none) (h : XE X a ρ fun x => ∃ i, x = .int i ∧ XE X b ρ fun y => ∃ l, y = .int l ∧ CDiv i l ∧ k (.tup [.int (i / l), .int (i % l)])) (hg : Gl X "divmod" := by rfl)
    (he : starEach (a :: b :: []) X.env = (false, eval a X.env) :: starEach [b] X.env := by rfl) (he2 : starEach (b :: []) X.env = (false, eval b X.env) :: starEach [] X.env := by rfl) (hpl : (backTo pos (starEach [b] X.env)).any (·.1) = false := by rfl) :
    XE X (.Call (.Name "divmod" p) [a, b] [] pos) ρ k :=
  impE (pe_callB call_divmod hg hm (by decide +kernel) (pa_cons anyE (pa_cons anyE pa_nil he2) he) (by decide) (by decide) he hpl) fun σ H Q ⟨S, E, q⟩ => useE h E fun x H1 d e1 a1 ⟨i, hi, hb⟩ => useE hb (E.mono e1) fun y H2 d2 e2 a2 ⟨l, hl, hc, hk⟩ => by
    subst hi hl
    refine ⟨i, l, by rw [a1.inv_int, a2.inv_int], hc, fun r hr => ?_⟩
    have nr := hide_new ((E.mono e1).mono e2).trk hr
    refine q _ _ _ ((e1.trans e2).trans (Ex.new hr)) (.tup (SqT.of ?_) (.cons (.int _) (.cons (.int _) .nil))) hk
    rw [hide_out nr]
    exact upd_same
/-- a new list of three ints, from here on a source of draws -/
theorem xe_tok (h : XN X e ρ fun ds => ∃ i l m, ds = [.int i, .int l, .int m] ∧ k .tok) : XE X e ρ k := by
  refine ⟨fun pins s σ H Q I ⟨S, E, q⟩ => ?_⟩
  refine thn ((show PE X e (tN X.K ρ _) from h).run pins s σ H (fun v H' => ∃ p i l m, v = .ref p ∧ H p = none ∧ H' p = some (L3 i l m) ∧ Ex H H' ∧ k .tok) I ⟨S, E, fun p H2 vs ds hn e2 hp a2 ⟨i, l, m, hd, hk⟩ => ?_⟩) fun u s1 ⟨v, H', I1, r1, p, i, l, m, ev, hn, hp, ex, hk⟩ => ?_
  · subst hd
    cases a2 with
    | cons b1 a2 =>
      cases a2 with
      | cons b2 a2 =>
        cases a2 with
        | cons b3 a2 =>
          cases a2
          have := b1.inv_int
          have := b2.inv_int
          have := b3.inv_int
          subst_vars
          exact ⟨p, i, l, m, rfl, hn, hp, e2, hk⟩
  · subst ev
    have np := hide_new E.trk hn
    exact ⟨.ref p, upd H' p (caskO p), inv_out I1 hp, r1, q _ _ _ (ex.mut hn) (.tok (by rw [hide_out np]; exact upd_same)) hk⟩
end
end VL

set_option Elab.async false
set_option linter.all false
namespace VM
/-! ## Integers: divisors, sizes -/
theorem gcd_step (x y : Int) : Int.gcd y (x % y) = Int.gcd x y := by
  have h : x % y = x + (-(x / y)) * y := by
    have := Int.emod_add_mul_ediv x y
    grind
  rw [h, Int.gcd_add_mul_right_right, Int.gcd_comm]
/-- fewer than B bits -/
def Sz (B : Nat) (i : Int) : Prop := i.natAbs < 2 ^ B
theorem Sz.mono {B C : Nat} {i : Int} (h : Sz B i) (l : B ≤ C) : Sz C i := Nat.lt_of_lt_of_le h (Nat.pow_le_pow_right (by decide) l)
theorem Sz.mul {B C : Nat} {i j : Int} (h : Sz B i) (g : Sz C j) : Sz (B + C) (i * j) := by
  unfold Sz at *
  rw [Int.natAbs_mul, Nat.pow_add]
  exact Nat.mul_lt_mul'' h g
theorem Sz.add {B : Nat} {i j : Int} (h : Sz B i) (g : Sz B j) : Sz (B + 1) (i + j) := by
  unfold Sz at *
  have := Int.natAbs_add_le i j
  rw [Nat.pow_succ]
  omega
theorem Sz.neg {B : Nat} {i : Int} (h : Sz B i) : Sz B (-i) := by
  unfold Sz at *
  rw [Int.natAbs_neg]
  exact h
theorem Sz.sub {B : Nat} {i j : Int} (h : Sz B i) (g : Sz B j) : Sz (B + 1) (i - j) := by
  rw [Int.sub_eq_add_neg]
  exact h.add g.neg
theorem Sz.abs {B : Nat} {i : Int} (h : Sz B i) : Sz B (if i < 0 then -i else i) := by
  split
  · exact h.neg
  · exact h
theorem Sz.dvd {B : Nat} {i j : Int} (h : Sz B i) (d : j ∣ i) (n : i ≠ 0) : Sz B j := by
  unfold Sz at *
  have := Nat.le_of_dvd (Int.natAbs_pos.mpr n) (Int.natAbs_dvd_natAbs.mpr d)
  omega
theorem Sz.div {B : Nat} {i j : Int} (h : Sz B i) (d : j ∣ i) : Sz B (i / j) := by
  by_cases n : i = 0
  · subst n
    simp [Sz, Nat.pow_pos]
  · obtain ⟨c, hc⟩ := d
    have hj : j ≠ 0 := fun z => n (by rw [hc, z, Int.zero_mul])
    rw [hc, Int.mul_ediv_cancel_left _ hj]
    exact h.dvd ⟨j, by rw [hc, Int.mul_comm]⟩ n
theorem Sz.of {B : Nat} {i : Int} (h1 : -(2 ^ B : Nat) < i) (h2 : i < (2 ^ B : Nat)) : Sz B i := by
  unfold Sz
  omega
theorem Sz.log {B : Nat} {i : Int} (h : Sz B i) : i.natAbs.log2 ≤ B := by
  by_cases n : i.natAbs = 0
  · rw [n]; exact Nat.zero_le _
  · exact Nat.le_of_lt ((Nat.log2_lt n).mpr h)
theorem Sz.pow {B : Nat} {i : Int} (h : Sz B i) : ∀ e : Nat, Sz (B * e + 1) (i ^ e)
  | 0 => by simp [Sz]
  | e + 1 => by
    have := (Sz.pow h e).mul h
    rw [Int.pow_succ]
    exact this.mono (by rw [Nat.mul_succ]; omega)
/-! ## Fractions in lowest terms -/
theorem low_num (a b : Int) (hb : 0 < b) : a / (Int.gcd a b : Int) = ((a : Rat) / (b : Rat)).num := by
  rw [← Rat.divInt_eq_div, Rat.num_divInt, Int.gcd_comm, Int.sign_eq_one_of_pos hb, Int.one_mul]
theorem low_den (a b : Int) (hb : 0 < b) : b / (Int.gcd a b : Int) = (((a : Rat) / (b : Rat)).den : Int) := by
  rw [← Rat.divInt_eq_div, Rat.den_divInt, if_neg (by omega), Int.gcd_comm]
  rw [Int.natCast_ediv]
  congr 1
  omega
/-- a fraction's two numbers, below 2 ^ B -/
def SzQ (B : Nat) (x : Rat) : Prop := Sz B x.num ∧ Sz B x.den
theorem SzQ.mono {B C : Nat} {x : Rat} (h : SzQ B x) (l : B ≤ C) : SzQ C x := ⟨h.1.mono l, h.2.mono l⟩
theorem szq_div {B : Nat} {a b : Int} (hb : 0 < b) (h1 : Sz B a) (h2 : Sz B b) : SzQ B ((a : Rat) / (b : Rat)) := by
  refine ⟨?_, ?_⟩
  · rw [← low_num a b hb]
    exact h1.div (Int.gcd_dvd_left ..)
  · rw [← low_den a b hb]
    exact h2.div (Int.gcd_dvd_right ..)
theorem ratNz {b : Int} (h : b ≠ 0) : (b : Rat) ≠ 0 := by simpa using h
theorem den_nz (x : Rat) : (x.den : Rat) ≠ 0 := by
  have := x.den_nz
  simpa using this
theorem num_den (x : Rat) : (x.num : Rat) / (x.den : Rat) = x := by
  have := Rat.num_divInt_den x
  rw [Rat.divInt_eq_div] at this
  exact this
theorem num_eq (x : Rat) : (x.num : Rat) = x * (x.den : Rat) := by
  have h := num_den x
  have := den_nz x
  grind
theorem den_pos (x : Rat) : 0 < (x.den : Int) := by
  have := x.den_pos
  omega
theorem gcd_num_den (x : Rat) : Int.gcd x.num x.den = 1 := x.reduced
theorem SzQ.add {B C : Nat} {x y : Rat} (h : SzQ B x) (g : SzQ C y) : SzQ (B + C + 1) (x + y) := by
  have e : x + y = ((x.num * y.den + y.num * x.den : Int) : Rat) / ((x.den * y.den : Int) : Rat) := by
    have h1 := num_eq x
    have h2 := num_eq y
    have h3 := den_nz x
    have h4 := den_nz y
    push_cast
    rw [h1, h2]
    grind
  rw [e]
  refine szq_div (Int.mul_pos (den_pos x) (den_pos y)) ?_ ?_
  · exact (h.1.mul g.2).add ((g.1.mul h.2).mono (by omega))
  · exact (h.2.mul g.2).mono (by omega)
theorem SzQ.mul {B C : Nat} {x y : Rat} (h : SzQ B x) (g : SzQ C y) : SzQ (B + C) (x * y) := by
  have e : x * y = ((x.num * y.num : Int) : Rat) / ((x.den * y.den : Int) : Rat) := by
    have h1 := num_eq x
    have h2 := num_eq y
    have h3 := den_nz x
    have h4 := den_nz y
    push_cast
    rw [h1, h2]
    grind
  rw [e]
  exact szq_div (Int.mul_pos (den_pos x) (den_pos y)) (h.1.mul g.1) (h.2.mul g.2)
theorem SzQ.neg {B : Nat} {x : Rat} (h : SzQ B x) : SzQ B (-x) := ⟨h.1.neg, h.2⟩

/-! ## Triples -/
structure IsTri (x y : Rat) (a b c : Int) : Prop where
  pos : 0 < c
  ea : (a : Rat) = x * c
  eb : (b : Rat) = y * c
  one : Int.gcd (Int.gcd a b) c = 1
theorem tri_dvd {x y : Rat} {a b c a' b' c' : Int} (h : IsTri x y a b c) (pos : 0 < c') (ea : (a' : Rat) = x * c') (eb : (b' : Rat) = y * c') : c ∣ c' := by
  have h0 := ratNz (Int.ne_of_gt h.pos)
  have h0' := ratNz (Int.ne_of_gt pos)
  have e1 : a * c' = a' * c := by
    have h1 := h.ea
    rw [← Rat.intCast_inj]
    push_cast
    grind
  have e2 : b * c' = b' * c := by
    have h1 := h.eb
    rw [← Rat.intCast_inj]
    push_cast
    grind
  have d1 : c ∣ a * c' := ⟨a', by rw [e1, Int.mul_comm]⟩
  have d2 : c ∣ b * c' := ⟨b', by rw [e2, Int.mul_comm]⟩
  have d3 : c ∣ (Int.gcd a b : Int) * c' := by
    have := Int.dvd_coe_gcd d1 d2
    rw [Int.gcd_mul_right, Int.natCast_mul] at this
    have h2 : (c'.natAbs : Int) = c' := by omega
    rwa [h2] at this
  have d4 : c ∣ c * c' := ⟨c', rfl⟩
  have := Int.dvd_coe_gcd d3 d4
  rw [Int.gcd_mul_right, Int.natCast_mul, h.one] at this
  have h2 : (c'.natAbs : Int) = c' := by omega
  rw [h2] at this
  simpa using this
theorem IsTri.uniq {x y : Rat} {a b c a' b' c' : Int} (h : IsTri x y a b c) (g : IsTri x y a' b' c') : a = a' ∧ b = b' ∧ c = c' := by
  have d1 := tri_dvd h g.pos g.ea g.eb
  have d2 := tri_dvd g h.pos h.ea h.eb
  have e : c = c' := Int.dvd_antisymm (Int.le_of_lt h.pos) (Int.le_of_lt g.pos) d1 d2
  subst e
  exact ⟨Rat.intCast_inj.mp (h.ea.trans g.ea.symm), Rat.intCast_inj.mp (h.eb.trans g.eb.symm), rfl⟩
theorem gcd3_ne {a b c : Int} (hc : c ≠ 0) : (Int.gcd (Int.gcd a b) c : Int) ≠ 0 := by
  intro h
  have := Int.gcd_dvd_right (Int.gcd a b : Int) c
  rw [h] at this
  exact hc (Int.zero_dvd.mp this)
theorem tri_made {a b c g : Int} (hc : c ≠ 0) (hg : g = if c > 0 then (Int.gcd (Int.gcd a b) c : Int) else -(Int.gcd (Int.gcd a b) c : Int)) :
    IsTri ((a : Rat) / c) ((b : Rat) / c) (a / g) (b / g) (c / g) ∧ g ∣ a ∧ g ∣ b ∧ g ∣ c := by
  have hn := gcd3_ne (a := a) (b := b) hc
  have ge : (Int.gcd (Int.gcd a b) c : Int) = Int.gcd (Int.gcd a b) c := rfl
  have dc : (Int.gcd (Int.gcd a b) c : Int) ∣ c := Int.gcd_dvd_right ..
  have dab : (Int.gcd (Int.gcd a b) c : Int) ∣ (Int.gcd a b : Int) := Int.gcd_dvd_left ..
  have da : (Int.gcd (Int.gcd a b) c : Int) ∣ a := Int.dvd_trans dab (Int.gcd_dvd_left ..)
  have db : (Int.gcd (Int.gcd a b) c : Int) ∣ b := Int.dvd_trans dab (Int.gcd_dvd_right ..)
  have pos : 0 ≤ (Int.gcd (Int.gcd a b) c : Int) := Int.natCast_nonneg _
  have abs : (g.natAbs : Int) = (Int.gcd (Int.gcd a b) c : Int) := by
    rw [hg]
    split <;> omega
  have dv : ∀ z : Int, (Int.gcd (Int.gcd a b) c : Int) ∣ z → g ∣ z := fun z hz => by
    rw [hg]
    split
    · exact hz
    · exact Int.neg_dvd.mpr hz
  have hga := dv a da
  have hgb := dv b db
  have hgc := dv c dc
  have gn : g ≠ 0 := by
    rw [hg]
    split <;> omega
  have ga := Int.ediv_mul_cancel hga
  have gb := Int.ediv_mul_cancel hgb
  have gc := Int.ediv_mul_cancel hgc
  have cp : 0 < c / g := by
    have hs : 0 < g ↔ 0 < c := by
      rw [hg]
      split <;> omega
    rcases Int.lt_or_gt_of_ne hc with z | z
    · have gneg : g < 0 := by omega
      have : c / g ≠ 0 := fun w => by rw [w] at gc; omega
      have : ¬ c / g < 0 := fun w => by
        have := Int.mul_pos_of_neg_of_neg w gneg
        omega
      omega
    · have gp : 0 < g := hs.mpr z
      have : c / g ≠ 0 := fun w => by rw [w] at gc; omega
      have : ¬ c / g < 0 := fun w => by
        have := Int.mul_neg_of_neg_of_pos w gp
        omega
      omega
  have rc := ratNz hc
  have rg := ratNz gn
  have rcg := ratNz (Int.ne_of_gt cp)
  refine ⟨⟨cp, ?_, ?_, ?_⟩, hga, hgb, hgc⟩
  · have h1 : ((a / g : Int) : Rat) * g = a := by rw [← Rat.intCast_mul, ga]
    have h2 : ((c / g : Int) : Rat) * g = c := by rw [← Rat.intCast_mul, gc]
    grind
  · have h1 : ((b / g : Int) : Rat) * g = b := by rw [← Rat.intCast_mul, gb]
    have h2 : ((c / g : Int) : Rat) * g = c := by rw [← Rat.intCast_mul, gc]
    grind
  · have h1 : Int.gcd (Int.gcd a b) c = Int.gcd (Int.gcd (a / g) (b / g)) (c / g) * g.natAbs := by
      have e1 : Int.gcd a b = Int.gcd (a / g) (b / g) * g.natAbs := by
        rw [← Int.gcd_mul_right, ga, gb]
      have e2 : ((Int.gcd a b : Nat) : Int) = (Int.gcd (a / g) (b / g) : Int) * (g.natAbs : Int) := by rw [e1, Int.natCast_mul]
      have e3 : Int.gcd ((Int.gcd (a / g) (b / g) : Int) * (g.natAbs : Int)) c = Int.gcd ((Int.gcd (a / g) (b / g) : Int) * (g.natAbs : Int)) (c / g * (g.natAbs : Int)) := by
        have : c.natAbs = (c / g * (g.natAbs : Int)).natAbs := by
          rw [Int.natAbs_mul, Int.natAbs_natCast, ← Int.natAbs_mul, gc]
        unfold Int.gcd
        rw [← this]
      rw [e2, e3, Int.gcd_mul_right, Int.natAbs_natCast]
    have h2 : (Int.gcd (Int.gcd a b) c : Int) = g.natAbs := abs.symm
    have h3 : Int.gcd (Int.gcd a b) c = g.natAbs := by omega
    rw [h3] at h1
    have gp : 0 < g.natAbs := Int.natAbs_pos.mpr gn
    have : 1 * g.natAbs = Int.gcd (Int.gcd (a / g) (b / g)) (c / g) * g.natAbs := by rw [Nat.one_mul]; exact h1
    exact (Nat.eq_of_mul_eq_mul_right gp this).symm
theorem IsTri.xe {x y : Rat} {a b c : Int} (h : IsTri x y a b c) : x = (a : Rat) / c := by
  have := h.ea
  have := ratNz (Int.ne_of_gt h.pos)
  grind
theorem IsTri.ye {x y : Rat} {a b c : Int} (h : IsTri x y a b c) : y = (b : Rat) / c := by
  have := h.eb
  have := ratNz (Int.ne_of_gt h.pos)
  grind
/-- a triple's three numbers -/
def Sz3 (B : Nat) (a b c : Int) : Prop := Sz B a ∧ Sz B b ∧ Sz B c
theorem IsTri.szq {x y : Rat} {a b c : Int} {B : Nat} (h : IsTri x y a b c) (s : Sz3 B a b c) : SzQ B x ∧ SzQ B y := by
  rw [h.xe, h.ye]
  exact ⟨szq_div h.pos s.1 s.2.2, szq_div h.pos s.2.1 s.2.2⟩
end VM
namespace VM
/-! ## Scales and moves -/
def sc (n k : Int) : Rat := (n : Rat) ^ k
theorem sc_add {n : Int} (h : n ≠ 0) (k l : Int) : sc n (k + l) = sc n k * sc n l := Rat.zpow_add (ratNz h) k l
theorem sc_zero (n : Int) : sc n 0 = 1 := Rat.zpow_zero _
theorem sc_nat (n : Int) (e : Nat) : sc n e = ((n ^ e : Int) : Rat) := by
  rw [Rat.intCast_pow]
  exact Rat.zpow_natCast _ _
theorem sc_neg {n : Int} (h : n ≠ 0) (k : Int) : sc n (-k) * sc n k = 1 := by
  rw [← sc_add h, show -k + k = 0 by omega, sc_zero]
theorem sc_nonneg {n k : Int} (h : 0 ≤ k) : sc n k = ((n ^ k.toNat : Int) : Rat) := by
  rw [← sc_nat]
  congr 1
  omega
theorem sc_neg_eq {n k : Int} (hn : n ≠ 0) (h : k ≤ 0) : sc n k = 1 / ((n ^ (-k).toNat : Int) : Rat) := by
  have h1 := sc_neg hn (-k)
  have h2 := sc_nonneg (n := n) (k := -k) (by omega)
  rw [h2, show - -k = k by omega] at h1
  have : ((n ^ (-k).toNat : Int) : Rat) ≠ 0 := by
    intro z
    rw [z] at h1
    grind
  grind
theorem pow_pos' {n : Int} (h : 0 < n) (e : Nat) : 0 < n ^ e := Int.pow_pos h
theorem sc_nz {n : Int} (h : n ≠ 0) (k : Int) : sc n k ≠ 0 := fun z => by
  have := sc_neg h k
  rw [z] at this
  grind
theorem sz_small {n : Int} (h1 : 2 ≤ n) (h2 : n ≤ 10) : Sz 4 n := by
  unfold Sz
  omega
theorem szq_sc {n k : Int} (h1 : 2 ≤ n) (h2 : n ≤ 10) : SzQ (4 * k.natAbs + 1) (sc n k) := by
  have p : ∀ e, Sz (4 * e + 1) (n ^ e) := fun e => (sz_small h1 h2).pow e
  by_cases hk : 0 ≤ k
  · rw [sc_nonneg hk]
    have e : k.toNat = k.natAbs := by omega
    rw [e]
    refine ⟨p _, ?_⟩
    rw [Rat.den_intCast]
    exact Sz.of (by have := Nat.pow_pos (n := 4 * k.natAbs + 1) (show 0 < 2 by decide); omega) (by rw [Nat.pow_succ]; have := Nat.pow_pos (n := 4 * k.natAbs) (show 0 < 2 by decide); omega)
  · rw [sc_neg_eq (by omega) (by omega)]
    have e : (-k).toNat = k.natAbs := by omega
    rw [e]
    have q := szq_div (a := 1) (b := n ^ k.natAbs) (B := 4 * k.natAbs + 1) (pow_pos' (by omega) _) (by
      exact Sz.of (by have := Nat.pow_pos (n := 4 * k.natAbs + 1) (show 0 < 2 by decide); omega) (by rw [Nat.pow_succ]; have := Nat.pow_pos (n := 4 * k.natAbs) (show 0 < 2 by decide); omega)) (p _)
    exact q
/-- turned by quarters -/
def rx (q : Int) (x y : Rat) : Rat := if q % 4 = 0 then x else if q % 4 = 1 then -y else if q % 4 = 2 then -x else y
def ry (q : Int) (x y : Rat) : Rat := if q % 4 = 0 then y else if q % 4 = 1 then x else if q % 4 = 2 then -y else -x
theorem four (q : Int) : q % 4 = 0 ∨ q % 4 = 1 ∨ q % 4 = 2 ∨ q % 4 = 3 := by omega
theorem rx_mod (q : Int) (x y : Rat) : rx (q % 4) x y = rx q x y := by
  unfold rx
  rw [Int.emod_emod_of_dvd q (Int.dvd_refl 4)]
theorem ry_mod (q : Int) (x y : Rat) : ry (q % 4) x y = ry q x y := by
  unfold ry
  rw [Int.emod_emod_of_dvd q (Int.dvd_refl 4)]
theorem r_add (p q : Int) (x y : Rat) : rx (p + q) x y = rx p (rx q x y) (ry q x y) ∧ ry (p + q) x y = ry p (rx q x y) (ry q x y) := by
  have e : (p + q) % 4 = (p % 4 + q % 4) % 4 := by omega
  rcases four p with hp | hp | hp | hp <;> rcases four q with hq | hq | hq | hq <;> (rw [hp, hq] at e; unfold rx ry; rw [hp, hq, e]; constructor <;> simp <;> grind)
theorem r_lin (q : Int) (x y z w s : Rat) : rx q (x + s * z) (y + s * w) = rx q x y + s * rx q z w ∧ ry q (x + s * z) (y + s * w) = ry q x y + s * ry q z w := by
  rcases four q with h | h | h | h <;> (unfold rx ry; rw [h]; constructor <;> simp <;> grind)
theorem r_mul (q : Int) (s z w : Rat) : rx q (s * z) (s * w) = s * rx q z w ∧ ry q (s * z) (s * w) = s * ry q z w := by
  rcases four q with h | h | h | h <;> (unfold rx ry; rw [h]; constructor <;> simp <;> grind)
theorem r_zero (x y : Rat) : rx 0 x y = x ∧ ry 0 x y = y := by unfold rx ry; simp
theorem r_one (x y : Rat) : rx 1 x y = -y ∧ ry 1 x y = x := by unfold rx ry; simp
theorem szq_r {B : Nat} {q : Int} {x y : Rat} (h : SzQ B x ∧ SzQ B y) : SzQ B (rx q x y) ∧ SzQ B (ry q x y) := by
  have := h.1.neg
  have := h.2.neg
  unfold rx ry
  constructor <;> (repeat' split) <;> grind
/-- a move: zoom, turn, middle -/
structure Mv where
  k : Int
  q : Int
  x : Rat
  y : Rat
def Mv.then (n : Int) (a b : Mv) : Mv := ⟨a.k + b.k, (a.q + b.q) % 4, a.x + sc n a.k * rx a.q b.x b.y, a.y + sc n a.k * ry a.q b.x b.y⟩
def Mv.back (n : Int) (a : Mv) : Mv := ⟨-a.k, -a.q % 4, -(sc n (-a.k) * rx (-a.q) a.x a.y), -(sc n (-a.k) * ry (-a.q) a.x a.y)⟩
def Mv.plain : Mv := ⟨0, 0, 0, 0⟩
theorem mv_ext {a b : Mv} (h1 : a.k = b.k) (h2 : a.q = b.q) (h3 : a.x = b.x) (h4 : a.y = b.y) : a = b := by
  cases a; cases b
  simp only at h1 h2 h3 h4
  subst h1 h2 h3 h4
  rfl
theorem then_assoc {n : Int} (hn : n ≠ 0) (a b c : Mv) : (a.then n b).then n c = a.then n (b.then n c) := by
  have h := r_add a.q b.q c.x c.y
  have l := r_lin a.q b.x b.y (rx b.q c.x c.y) (ry b.q c.x c.y) (sc n b.k)
  refine mv_ext (Int.add_assoc ..) (by show ((a.q + b.q) % 4 + c.q) % 4 = (a.q + (b.q + c.q) % 4) % 4; omega) ?_ ?_
  · show a.x + sc n a.k * rx a.q b.x b.y + sc n (a.k + b.k) * rx ((a.q + b.q) % 4) c.x c.y = a.x + sc n a.k * rx a.q (b.x + sc n b.k * rx b.q c.x c.y) (b.y + sc n b.k * ry b.q c.x c.y)
    rw [rx_mod, h.1, l.1, sc_add hn]
    grind
  · show a.y + sc n a.k * ry a.q b.x b.y + sc n (a.k + b.k) * ry ((a.q + b.q) % 4) c.x c.y = a.y + sc n a.k * ry a.q (b.x + sc n b.k * rx b.q c.x c.y) (b.y + sc n b.k * ry b.q c.x c.y)
    rw [ry_mod, h.2, l.2, sc_add hn]
    grind
theorem then_plain {n : Int} (a : Mv) (h : 0 ≤ a.q ∧ a.q < 4) : a.then n .plain = a := by
  refine mv_ext (Int.add_zero _) (by show (a.q + 0) % 4 = a.q; omega) ?_ ?_
  · show a.x + sc n a.k * rx a.q 0 0 = a.x
    have : rx a.q 0 0 = 0 := by unfold rx; repeat' split <;> simp
    rw [this]
    grind
  · show a.y + sc n a.k * ry a.q 0 0 = a.y
    have : ry a.q 0 0 = 0 := by unfold ry; repeat' split <;> simp
    rw [this]
    grind
theorem plain_then {n : Int} (a : Mv) (h : 0 ≤ a.q ∧ a.q < 4) : Mv.plain.then n a = a := by
  have r := r_zero a.x a.y
  refine mv_ext (Int.zero_add _) (by show (0 + a.q) % 4 = a.q; omega) ?_ ?_
  · show 0 + sc n 0 * rx 0 a.x a.y = a.x
    rw [sc_zero, r.1]
    grind
  · show 0 + sc n 0 * ry 0 a.x a.y = a.y
    rw [sc_zero, r.2]
    grind
theorem r_inv (q : Int) (x y : Rat) : rx q (rx (-q) x y) (ry (-q) x y) = x ∧ ry q (rx (-q) x y) (ry (-q) x y) = y := by
  have h := r_add q (-q) x y
  have z := r_zero x y
  rw [show q + -q = 0 by omega] at h
  exact ⟨h.1 ▸ z.1, h.2 ▸ z.2⟩
theorem then_back {n : Int} (hn : n ≠ 0) (a : Mv) : a.then n (a.back n) = .plain := by
  have i := r_inv a.q a.x a.y
  have m := r_mul a.q (-(sc n (-a.k))) (rx (-a.q) a.x a.y) (ry (-a.q) a.x a.y)
  have s : sc n a.k * sc n (-a.k) = 1 := by rw [← sc_add hn, show a.k + -a.k = 0 by omega, sc_zero]
  have e1 : -(sc n (-a.k) * rx (-a.q) a.x a.y) = -(sc n (-a.k)) * rx (-a.q) a.x a.y := by grind
  have e2 : -(sc n (-a.k) * ry (-a.q) a.x a.y) = -(sc n (-a.k)) * ry (-a.q) a.x a.y := by grind
  refine mv_ext (by show a.k + -a.k = 0; omega) (by show (a.q + -a.q % 4) % 4 = 0; omega) ?_ ?_
  · show a.x + sc n a.k * rx a.q (-(sc n (-a.k) * rx (-a.q) a.x a.y)) (-(sc n (-a.k) * ry (-a.q) a.x a.y)) = 0
    rw [e1, e2, m.1, i.1]
    grind
  · show a.y + sc n a.k * ry a.q (-(sc n (-a.k) * rx (-a.q) a.x a.y)) (-(sc n (-a.k) * ry (-a.q) a.x a.y)) = 0
    rw [e1, e2, m.2, i.2]
    grind
theorem back_turn (n : Int) (a : Mv) : 0 ≤ (a.back n).q ∧ (a.back n).q < 4 := by
  show 0 ≤ -a.q % 4 ∧ -a.q % 4 < 4
  omega
theorem then_turn (n : Int) (a b : Mv) : 0 ≤ (a.then n b).q ∧ (a.then n b).q < 4 := by
  show 0 ≤ (a.q + b.q) % 4 ∧ (a.q + b.q) % 4 < 4
  omega
theorem back_uniq {n : Int} (hn : n ≠ 0) {a b : Mv} (ha : 0 ≤ a.q ∧ a.q < 4) (hb : 0 ≤ b.q ∧ b.q < 4) (h : a.then n b = .plain) : b.then n a = .plain ∧ b = a.back n := by
  -- the inverse of b
  have h1 : (b.then n (b.back n)) = .plain := then_back hn b
  have e : a = b.back n := by
    have := then_assoc hn a b (b.back n)
    rw [h, h1, then_plain a ha, plain_then _ (back_turn n b)] at this
    exact this.symm
  have h2 : b.then n a = .plain := by rw [e]; exact h1
  refine ⟨h2, ?_⟩
  have := then_assoc hn b a (a.back n)
  rw [h2, then_back hn a, then_plain b hb, plain_then _ (back_turn n a)] at this
  exact this.symm
theorem back_then {n : Int} (hn : n ≠ 0) (a : Mv) (ha : 0 ≤ a.q ∧ a.q < 4) : (a.back n).then n a = .plain := (back_uniq hn ha (back_turn n a) (then_back hn a)).1
theorem back_back {n : Int} (hn : n ≠ 0) (a : Mv) (ha : 0 ≤ a.q ∧ a.q < 4) : (a.back n).back n = a := (back_uniq hn (back_turn n a) ha (back_then hn a ha)).2.symm
theorem back_of_then {n : Int} (hn : n ≠ 0) (a b : Mv) (ha : 0 ≤ a.q ∧ a.q < 4) (hb : 0 ≤ b.q ∧ b.q < 4) : (a.then n b).back n = (b.back n).then n (a.back n) := by
  refine (back_uniq hn (then_turn n a b) (then_turn n _ _) ?_).2.symm
  rw [then_assoc hn a b, ← then_assoc hn b (b.back n) (a.back n), then_back hn b, plain_then _ (back_turn n a), then_back hn a]
/-! ## Bottoms that divide a power -/
def Fit (n : Int) (x y : Rat) : Prop := ∃ (e : Nat) (a b : Int), x * sc n e = a ∧ y * sc n e = b
theorem Fit.more {n : Int} (hn : n ≠ 0) {x y : Rat} {e : Nat} {a b : Int} (h : x * sc n e = a ∧ y * sc n e = b) (f : Nat) : x * sc n (e + f : Nat) = (a * n ^ f : Int) ∧ y * sc n (e + f : Nat) = (b * n ^ f : Int) := by
  have : sc n (e + f : Nat) = sc n e * ((n ^ f : Int) : Rat) := by
    rw [← sc_nat, ← sc_add hn]
    rfl
  rw [this, Rat.intCast_mul, Rat.intCast_mul, ← h.1, ← h.2]
  constructor <;> grind
theorem Fit.add {n : Int} (hn : n ≠ 0) {x y z w : Rat} (h : Fit n x y) (g : Fit n z w) : Fit n (x + z) (y + w) := by
  obtain ⟨e, a, b, h⟩ := h
  obtain ⟨f, c, d, g⟩ := g
  have h' := Fit.more hn h f
  have g' := Fit.more hn g e
  rw [Nat.add_comm f e] at g'
  refine ⟨e + f, a * n ^ f + c * n ^ e, b * n ^ f + d * n ^ e, ?_, ?_⟩
  · rw [Rat.intCast_add, ← h'.1, ← g'.1]; grind
  · rw [Rat.intCast_add, ← h'.2, ← g'.2]; grind
theorem Fit.sc {n : Int} (hn : n ≠ 0) {x y : Rat} (h : Fit n x y) (k : Int) : Fit n (sc n k * x) (sc n k * y) := by
  obtain ⟨e, a, b, h⟩ := h
  have key : ∃ f g : Nat, VM.sc n k * VM.sc n (e + f : Nat) = VM.sc n (e : Nat) * ((n ^ g : Int) : Rat) := by
    by_cases hk : 0 ≤ k
    · refine ⟨0, k.toNat, ?_⟩
      rw [← sc_nat, ← sc_add hn, ← sc_add hn]
      congr 1
      omega
    · refine ⟨k.natAbs, 0, ?_⟩
      rw [← sc_nat, ← sc_add hn, ← sc_add hn]
      congr 1
      omega
  obtain ⟨f, g, key⟩ := key
  refine ⟨e + f, a * n ^ g, b * n ^ g, ?_, ?_⟩
  · rw [Rat.intCast_mul, ← h.1]; grind
  · rw [Rat.intCast_mul, ← h.2]; grind
theorem Fit.r {n : Int} {x y : Rat} (h : Fit n x y) (q : Int) : Fit n (rx q x y) (ry q x y) := by
  obtain ⟨e, a, b, h⟩ := h
  rcases four q with hq | hq | hq | hq
  · exact ⟨e, a, b, by unfold rx; rw [hq]; simpa using h.1, by unfold ry; rw [hq]; simpa using h.2⟩
  · refine ⟨e, -b, a, ?_, ?_⟩
    · unfold rx; rw [hq]; simp; rw [← h.2]; grind
    · unfold ry; rw [hq]; simpa using h.1
  · refine ⟨e, -a, -b, ?_, ?_⟩
    · unfold rx; rw [hq]; simp; rw [← h.1]; grind
    · unfold ry; rw [hq]; simp; rw [← h.2]; grind
  · refine ⟨e, b, -a, ?_, ?_⟩
    · unfold rx; rw [hq]; simpa using h.2
    · unfold ry; rw [hq]; simp; rw [← h.1]; grind
theorem Fit.neg {n : Int} {x y : Rat} (h : Fit n x y) : Fit n (-x) (-y) := by
  obtain ⟨e, a, b, h⟩ := h
  exact ⟨e, -a, -b, by rw [Rat.intCast_neg, ← h.1]; grind, by rw [Rat.intCast_neg, ← h.2]; grind⟩
theorem Fit.dvd {n : Int} {x y : Rat} {a b c : Int} (h : Fit n x y) (hn : n ≠ 0) (pn : 0 < n) (t : IsTri x y a b c) : ∃ e : Nat, c ∣ n ^ e := by
  obtain ⟨e, u, v, h⟩ := h
  refine ⟨e, tri_dvd t (pow_pos' pn e) ?_ ?_ (a' := u) (b' := v)⟩
  · rw [← sc_nat]; exact h.1.symm
  · rw [← sc_nat]; exact h.2.symm
theorem Fit.of_dvd {n : Int} {x y : Rat} {a b c : Int} (t : IsTri x y a b c) {e : Nat} (h : c ∣ n ^ e) : Fit n x y := by
  obtain ⟨d, hd⟩ := h
  refine ⟨e, a * d, b * d, ?_, ?_⟩
  · rw [sc_nat, hd, Rat.intCast_mul, Rat.intCast_mul, t.ea]; grind
  · rw [sc_nat, hd, Rat.intCast_mul, Rat.intCast_mul, t.eb]; grind
end VM
namespace VM
/-! ## Moves done many times -/
def pw (n : Int) (m : Mv) : Nat → Mv
  | 0 => .plain
  | j + 1 => (pw n m j).then n m
theorem plain_turn : 0 ≤ Mv.plain.q ∧ Mv.plain.q < 4 := by decide
theorem pw_turn (n : Int) (m : Mv) : ∀ j, 0 ≤ (pw n m j).q ∧ (pw n m j).q < 4
  | 0 => plain_turn
  | j + 1 => then_turn n _ _
theorem pw_one (n : Int) (m : Mv) (h : 0 ≤ m.q ∧ m.q < 4) : pw n m 1 = m := plain_then m h
theorem pw_comm {n : Int} (hn : n ≠ 0) (m : Mv) (h : 0 ≤ m.q ∧ m.q < 4) : ∀ j, (pw n m j).then n m = m.then n (pw n m j)
  | 0 => by
    show Mv.plain.then n m = m.then n .plain
    rw [plain_then m h, then_plain m h]
  | j + 1 => by
    show ((pw n m j).then n m).then n m = m.then n ((pw n m j).then n m)
    rw [← then_assoc hn, pw_comm hn m h j]
theorem pw_back {n : Int} (hn : n ≠ 0) (m : Mv) (h : 0 ≤ m.q ∧ m.q < 4) : ∀ j, pw n (m.back n) j = (pw n m j).back n
  | 0 => by
    show Mv.plain = Mv.plain.back n
    exact (back_uniq hn plain_turn plain_turn (then_plain .plain plain_turn)).2
  | j + 1 => by
    show (pw n (m.back n) j).then n (m.back n) = ((pw n m j).then n m).back n
    rw [pw_back hn m h j, pw_comm hn m h j, back_of_then hn _ _ h (pw_turn n m j)]
def pz (n : Int) (m : Mv) (z : Int) : Mv := if 0 ≤ z then pw n m z.toNat else pw n (m.back n) (-z).toNat
theorem pz_nat (n : Int) (m : Mv) (j : Nat) : pz n m j = pw n m j := by
  unfold pz
  rw [if_pos (by omega)]
  rfl
theorem pz_turn (n : Int) (m : Mv) (z : Int) : 0 ≤ (pz n m z).q ∧ (pz n m z).q < 4 := by
  unfold pz
  split
  · exact pw_turn ..
  · exact pw_turn ..
theorem pz_succ {n : Int} (hn : n ≠ 0) (m : Mv) (h : 0 ≤ m.q ∧ m.q < 4) (z : Int) : pz n m (z + 1) = (pz n m z).then n m := by
  by_cases hz : 0 ≤ z
  · unfold pz
    rw [if_pos hz, if_pos (by omega), show (z + 1).toNat = z.toNat + 1 by omega]
    rfl
  · have key : (pw n (m.back n) ((-(z + 1)).toNat + 1)).then n m = pw n (m.back n) (-(z + 1)).toNat := by
      show ((pw n (m.back n) (-(z + 1)).toNat).then n (m.back n)).then n m = _
      rw [then_assoc hn, back_then hn m h, then_plain _ (pw_turn ..)]
    have e : (-z).toNat = (-(z + 1)).toNat + 1 := by omega
    by_cases h1 : z + 1 = 0
    · unfold pz
      rw [if_neg hz, h1, if_pos (by omega), e, key, h1]
      rfl
    · unfold pz
      rw [if_neg hz, if_neg (by omega), e, key]
theorem pz_pred {n : Int} (hn : n ≠ 0) (m : Mv) (h : 0 ≤ m.q ∧ m.q < 4) (z : Int) : pz n m (z - 1) = (pz n m z).then n (m.back n) := by
  have e := pz_succ hn m h (z - 1)
  rw [show z - 1 + 1 = z by omega] at e
  rw [e, then_assoc hn, then_back hn, then_plain _ (pz_turn ..)]
theorem pz_zero (n : Int) (m : Mv) : pz n m 0 = .plain := rfl
theorem pz_add {n : Int} (hn : n ≠ 0) (m : Mv) (h : 0 ≤ m.q ∧ m.q < 4) (a b : Int) : pz n m (a + b) = (pz n m a).then n (pz n m b) := by
  have up : ∀ j : Nat, pz n m (a + j) = (pz n m a).then n (pz n m j) := fun j => by
    induction j with
    | zero =>
      show pz n m (a + 0) = (pz n m a).then n .plain
      rw [Int.add_zero, then_plain _ (pz_turn ..)]
    | succ j ih =>
      have e1 : a + ((j + 1 : Nat) : Int) = (a + j) + 1 := by omega
      have e2 : ((j + 1 : Nat) : Int) = (j : Int) + 1 := by omega
      rw [e1, e2, pz_succ hn m h, pz_succ hn m h, ih, then_assoc hn]
  have down : ∀ j : Nat, pz n m (a - j) = (pz n m a).then n (pz n m (-(j : Int))) := fun j => by
    induction j with
    | zero =>
      show pz n m (a - 0) = (pz n m a).then n .plain
      rw [Int.sub_zero, then_plain _ (pz_turn ..)]
    | succ j ih =>
      have e1 : a - ((j + 1 : Nat) : Int) = (a - j) - 1 := by omega
      have e2 : -((j + 1 : Nat) : Int) = -(j : Int) - 1 := by omega
      rw [e1, e2, pz_pred hn m h, pz_pred hn m h, ih, then_assoc hn]
  by_cases hb : 0 ≤ b
  · have := up b.toNat
    rw [show ((b.toNat : Nat) : Int) = b by omega] at this
    exact this
  · have := down (-b).toNat
    rw [show (((-b).toNat : Nat) : Int) = -b by omega, show - -b = b by omega, show a - -b = a + b by omega] at this
    exact this
theorem pz_mul {n : Int} (hn : n ≠ 0) (m : Mv) (h : 0 ≤ m.q ∧ m.q < 4) (a b : Int) : pz n m (a * b) = pz n (pz n m a) b := by
  have hp := pz_turn n m a
  have up : ∀ j : Nat, pz n m (a * j) = pz n (pz n m a) j := fun j => by
    induction j with
    | zero =>
      show pz n m (a * 0) = _
      rw [Int.mul_zero]
      rfl
    | succ j ih =>
      have e1 : a * ((j + 1 : Nat) : Int) = a * j + a := by
        have : ((j + 1 : Nat) : Int) = (j : Int) + 1 := by omega
        rw [this, Int.mul_add, Int.mul_one]
      have e2 : ((j + 1 : Nat) : Int) = (j : Int) + 1 := by omega
      rw [e1, e2, pz_succ hn _ hp, pz_add hn m h, ih]
  have down : ∀ j : Nat, pz n m (a * -(j : Int)) = pz n (pz n m a) (-(j : Int)) := fun j => by
    induction j with
    | zero =>
      show pz n m (a * -0) = _
      rw [show a * -(0 : Int) = 0 by omega]
      rfl
    | succ j ih =>
      have e2 : -((j + 1 : Nat) : Int) = -(j : Int) - 1 := by omega
      have e1 : a * (-(j : Int) - 1) + a = a * -(j : Int) := by
        rw [Int.mul_sub, Int.mul_one]
        omega
      rw [e2, pz_pred hn _ hp, ← ih, ← e1, pz_add hn m h, then_assoc hn, then_back hn, then_plain _ (pz_turn ..)]
  by_cases hb : 0 ≤ b
  · have := up b.toNat
    rw [show ((b.toNat : Nat) : Int) = b by omega] at this
    exact this
  · have := down (-b).toNat
    rw [show (((-b).toNat : Nat) : Int) = -b by omega, show - -b = b by omega] at this
    exact this
theorem pz_neg {n : Int} (hn : n ≠ 0) (m : Mv) (h : 0 ≤ m.q ∧ m.q < 4) (z : Int) : pz n m (-z) = (pz n m z).back n := by
  have e : (pz n m z).then n (pz n m (-z)) = .plain := by
    rw [← pz_add hn m h, show z + -z = 0 by omega]
    rfl
  exact (back_uniq hn (pz_turn ..) (pz_turn ..) e).2
/-! shifts, turns -/
theorem sc1 (n : Int) : sc n 0 = 1 := sc_zero n
theorem pw_flat (n : Int) (x y : Rat) : ∀ j : Nat, pw n ⟨0, 0, x, y⟩ j = ⟨0, 0, (j : Rat) * x, (j : Rat) * y⟩
  | 0 => by
    show Mv.plain = _
    refine mv_ext rfl rfl ?_ ?_ <;> (show (0 : Rat) = _ ; simp)
  | j + 1 => by
    show (pw n ⟨0, 0, x, y⟩ j).then n ⟨0, 0, x, y⟩ = _
    rw [pw_flat n x y j]
    have r := r_zero x y
    refine mv_ext rfl rfl ?_ ?_
    · show (j : Rat) * x + sc n 0 * rx 0 x y = ((j + 1 : Nat) : Rat) * x
      rw [sc1, r.1]
      push_cast
      grind
    · show (j : Rat) * y + sc n 0 * ry 0 x y = ((j + 1 : Nat) : Rat) * y
      rw [sc1, r.2]
      push_cast
      grind
theorem pw_four {n : Int} (q : Int) (x y : Rat) (h : q = 1 ∨ q = 2 ∨ q = 3) : pw n ⟨0, q, x, y⟩ 4 = .plain := by
  rcases h with h | h | h <;> subst h <;> (simp only [pw, Mv.then, Mv.plain, sc1, rx, ry]; refine mv_ext ?_ ?_ ?_ ?_ <;> simp [sc1] <;> grind)
end VM
namespace VM
theorem pw_plain (n : Int) : ∀ j, pw n .plain j = .plain
  | 0 => rfl
  | j + 1 => by
    show (pw n .plain j).then n .plain = .plain
    rw [pw_plain n j, then_plain _ plain_turn]
theorem plain_back {n : Int} (hn : n ≠ 0) : Mv.plain.back n = .plain := (back_uniq hn plain_turn plain_turn (then_plain .plain plain_turn)).2.symm
theorem pz_plain {n : Int} (hn : n ≠ 0) (z : Int) : pz n .plain z = .plain := by
  unfold pz
  rw [plain_back hn, pw_plain, pw_plain]
  split <;> rfl
theorem pz_mod {n : Int} (hn : n ≠ 0) (m : Mv) (hk : m.k = 0) (hq : m.q = 1 ∨ m.q = 2 ∨ m.q = 3) (z : Int) : pz n m z = pw n m (z % 4).toNat := by
  have ht : 0 ≤ m.q ∧ m.q < 4 := by omega
  have four : pz n m 4 = .plain := by
    rw [show (4 : Int) = ((4 : Nat) : Int) by rfl, pz_nat]
    have := pw_four (n := n) m.q m.x m.y hq
    have e : m = ⟨0, m.q, m.x, m.y⟩ := mv_ext hk rfl rfl rfl
    rw [e]
    exact this
  have e : z = 4 * (z / 4) + z % 4 := by omega
  have e2 : pz n m (z % 4) = pw n m (z % 4).toNat := by
    unfold pz
    rw [if_pos (by omega)]
  rw [← e2]
  conv => lhs; rw [e]
  rw [pz_add hn m ht, pz_mul hn m ht, four, pz_plain hn, plain_then _ (pz_turn ..)]
/-! sizes over a common bottom -/
def Rp (n : Int) (e b : Nat) (x : Rat) : Prop := ∃ A : Int, x * sc n e = A ∧ Sz b A
theorem Rp.mono {n : Int} {e b c : Nat} {x : Rat} (h : Rp n e b x) (l : b ≤ c) : Rp n e c x := let ⟨A, h1, h2⟩ := h; ⟨A, h1, h2.mono l⟩
theorem Rp.add {n : Int} {e b : Nat} {x y : Rat} (h : Rp n e b x) (g : Rp n e b y) : Rp n e (b + 1) (x + y) := by
  obtain ⟨A, h1, h2⟩ := h
  obtain ⟨B, g1, g2⟩ := g
  refine ⟨A + B, ?_, h2.add g2⟩
  rw [Rat.intCast_add, ← h1, ← g1]
  grind
theorem Rp.neg {n : Int} {e b : Nat} {x : Rat} (h : Rp n e b x) : Rp n e b (-x) := by
  obtain ⟨A, h1, h2⟩ := h
  refine ⟨-A, ?_, h2.neg⟩
  rw [Rat.intCast_neg, ← h1]
  grind
theorem Rp.r {n : Int} {e b : Nat} {x y : Rat} (h : Rp n e b x) (g : Rp n e b y) (q : Int) : Rp n e b (rx q x y) ∧ Rp n e b (ry q x y) := by
  have := h.neg
  have := g.neg
  unfold rx ry
  constructor <;> (repeat' split) <;> grind
/-- times n to the k, over a greater bottom -/
theorem Rp.sc {n : Int} (n1 : 2 ≤ n) (n2 : n ≤ 10) {e b : Nat} {x : Rat} (h : Rp n e b x) (k : Int) (f : Nat) (hk : -(f : Int) ≤ k) : Rp n (e + f) (b + (4 * (k + f).toNat + 1)) (VM.sc n k * x) := by
  obtain ⟨A, h1, h2⟩ := h
  refine ⟨A * n ^ (k + f).toNat, ?_, h2.mul ((sz_small n1 n2).pow _)⟩
  have e1 : VM.sc n k * VM.sc n (e + f : Nat) = VM.sc n (e : Nat) * ((n ^ (k + f).toNat : Int) : Rat) := by
    rw [← sc_nat, ← sc_add (by omega), ← sc_add (by omega)]
    congr 1
    omega
  rw [Rat.intCast_mul, ← h1]
  grind
theorem Rp.szq {n : Int} (n1 : 2 ≤ n) (n2 : n ≤ 10) {e b B : Nat} {x : Rat} (h : Rp n e b x) (l1 : b ≤ B) (l2 : 4 * e + 1 ≤ B) : SzQ B x := by
  obtain ⟨A, h1, h2⟩ := h
  have p : ((n ^ e : Int) : Rat) ≠ 0 := ratNz (Int.ne_of_gt (pow_pos' (by omega) _))
  have ex : x = (A : Rat) / ((n ^ e : Int) : Rat) := by
    rw [sc_nat] at h1
    grind
  rw [ex]
  exact szq_div (pow_pos' (by omega) _) (h2.mono l1) (((sz_small n1 n2).pow e).mono l2)
theorem Rp.fit {n : Int} {e b : Nat} {x y : Rat} (h : Rp n e b x) (g : Rp n e b y) : Fit n x y := let ⟨A, h1, _⟩ := h; let ⟨B, g1, _⟩ := g; ⟨e, A, B, h1, g1⟩
theorem pw_k (n : Int) (m : Mv) : ∀ j : Nat, (pw n m j).k = j * m.k
  | 0 => by show (0 : Int) = ((0 : Nat) : Int) * m.k; simp
  | j + 1 => by
    show (pw n m j).k + m.k = _
    rw [pw_k n m j]
    push_cast
    rw [Int.add_mul, Int.one_mul]
/-- the middle of a move done j times, j at most J -/
theorem pw_rp {n : Int} (n1 : 2 ≤ n) (n2 : n ≤ 10) {m : Mv} {e b J : Nat} (h : Rp n e b m.x) (g : Rp n e b m.y) : ∀ j : Nat, j ≤ J → Rp n (e + J * m.k.natAbs) (b + (4 * (2 * (J * m.k.natAbs)) + 1) + j) (pw n m j).x ∧ Rp n (e + J * m.k.natAbs) (b + (4 * (2 * (J * m.k.natAbs)) + 1) + j) (pw n m j).y
  | 0, _ => by
    have z : Rp n (e + J * m.k.natAbs) (b + (4 * (2 * (J * m.k.natAbs)) + 1) + 0) (0 : Rat) := ⟨0, by simp, by unfold Sz; simp [Nat.pow_pos]⟩
    exact ⟨z, z⟩
  | j + 1, hj => by
    have ih := pw_rp (J := J) n1 n2 h g j (by omega)
    have r := Rp.r h g (pw n m j).q
    have kj : (pw n m j).k.natAbs ≤ J * m.k.natAbs := by
      rw [pw_k, Int.natAbs_mul, Int.natAbs_natCast]
      exact Nat.mul_le_mul_right _ (by omega)
    have t1 := r.1.sc n1 n2 (pw n m j).k (J * m.k.natAbs) (by omega)
    have t2 := r.2.sc n1 n2 (pw n m j).k (J * m.k.natAbs) (by omega)
    have l : b + (4 * ((pw n m j).k + ((J * m.k.natAbs : Nat) : Int)).toNat + 1) ≤ b + (4 * (2 * (J * m.k.natAbs)) + 1) + j := by omega
    exact ⟨ih.1.add (t1.mono l), ih.2.add (t2.mono l)⟩
end VM
namespace VM
theorem Rp.up {n : Int} (n1 : 2 ≤ n) (n2 : n ≤ 10) {e b : Nat} {x : Rat} (h : Rp n e b x) (f : Nat) : Rp n (e + f) (b + (4 * f + 1)) x := by
  have t := Rp.sc n1 n2 h 0 f (by omega)
  rw [show ((0 : Int) + (f : Int)).toNat = f by omega, show VM.sc n 0 = 1 from sc1 n, Rat.one_mul] at t
  exact t
theorem Rp.to {n : Int} (n1 : 2 ≤ n) (n2 : n ≤ 10) {e b e' b' : Nat} {x : Rat} (h : Rp n e b x) (l1 : e ≤ e') (l2 : b + 4 * (e' - e) + 1 ≤ b') : Rp n e' b' x := by
  have t := h.up n1 n2 (e' - e)
  rw [show e + (e' - e) = e' by omega] at t
  exact t.mono (by omega)
/-- a move over a common bottom -/
structure Rm (n : Int) (c e b : Nat) (m : Mv) : Prop where
  k : m.k.natAbs ≤ c
  q1 : 0 ≤ m.q
  q2 : m.q < 4
  x : Rp n e b m.x
  y : Rp n e b m.y
theorem Rm.back {n : Int} (n1 : 2 ≤ n) (n2 : n ≤ 10) {c e b : Nat} {m : Mv} (h : Rm n c e b m) : Rm n c (e + c) (b + (8 * c + 1)) (m.back n) := by
  have hk := h.k
  have r := Rp.r h.x h.y (-m.q)
  have t1 := r.1.sc n1 n2 (-m.k) c (by omega)
  have t2 := r.2.sc n1 n2 (-m.k) c (by omega)
  refine ⟨?_, (back_turn n m).1, (back_turn n m).2, (t1.mono (by omega)).neg, (t2.mono (by omega)).neg⟩
  show (-m.k).natAbs ≤ _
  omega
theorem Rm.pw {n : Int} (n1 : 2 ≤ n) (n2 : n ≤ 10) {c e b J j : Nat} {m : Mv} (h : Rm n c e b m) (hj : j ≤ J) : Rm n (J * c) (e + J * c) (b + 8 * (J * c) + J + 2) (VM.pw n m j) := by
  have t := pw_rp (J := J) n1 n2 h.x h.y j hj
  have l : J * m.k.natAbs ≤ J * c := Nat.mul_le_mul_left _ h.k
  refine ⟨?_, (pw_turn n m j).1, (pw_turn n m j).2, t.1.to n1 n2 (by omega) (by omega), t.2.to n1 n2 (by omega) (by omega)⟩
  rw [pw_k, Int.natAbs_mul, Int.natAbs_natCast]
  exact Nat.mul_le_mul hj h.k
theorem Rm.pz {n : Int} (n1 : 2 ≤ n) (n2 : n ≤ 10) {c e b J : Nat} {j : Int} {m : Mv} (h : Rm n c e b m) (hj : j.natAbs ≤ J) : Rm n (J * c) (e + c + J * c) (b + 8 * c + 8 * (J * c) + J + 3) (VM.pz n m j) := by
  unfold VM.pz
  split
  · have t := h.pw n1 n2 (J := J) (j := j.toNat) (by omega)
    exact ⟨t.k, t.q1, t.q2, t.x.to n1 n2 (by omega) (by omega), t.y.to n1 n2 (by omega) (by omega)⟩
  · have t := (h.back n1 n2).pw n1 n2 (J := J) (j := (-j).toNat) (by omega)
    exact ⟨t.k, t.q1, t.q2, t.x.mono (by omega), t.y.mono (by omega)⟩
end VM
namespace VM
/-! ## The point that stays -/
theorem sc_pos {n : Int} (h : 0 < n) (k : Int) : 0 < sc n k := by
  have pos : ∀ e : Nat, (0 : Rat) < ((n ^ e : Int) : Rat) := fun e => by
    have := pow_pos' h e
    exact_mod_cast this
  by_cases hk : 0 ≤ k
  · rw [sc_nonneg hk]
    exact pos _
  · rw [sc_neg_eq (by omega) (by omega), Rat.div_def, Rat.one_mul]
    exact Rat.inv_pos.mpr (pos _)
theorem pow_two_le {n : Int} (h : 2 ≤ n) : ∀ e : Nat, 0 < e → 2 ≤ n ^ e
  | 0, z => absurd z (by decide)
  | e + 1, _ => by
    have p := pow_pos' (n := n) (by omega) e
    rw [Int.pow_succ]
    have : 1 * 2 ≤ n ^ e * n := Int.mul_le_mul (by omega) h (by decide) (by omega)
    omega
theorem sc_one {n k : Int} (h : 2 ≤ n) (e : sc n k = 1) : k = 0 := by
  have up : ∀ j : Int, 0 < j → sc n j ≠ 1 := fun j hj q => by
    rw [sc_nonneg (by omega)] at q
    have := pow_two_le h j.toNat (by omega)
    have : n ^ j.toNat = 1 := by exact_mod_cast q
    omega
  by_cases h1 : 0 < k
  · exact absurd e (up k h1)
  · by_cases h2 : k = 0
    · exact h2
    · have := sc_neg (n := n) (by omega) k
      rw [e, Rat.mul_one] at this
      exact absurd this (up (-k) (by omega))
theorem rsq (x : Rat) : 0 ≤ x * x := by
  rcases Rat.le_total (a := 0) (b := x) with h | h
  · exact Rat.mul_nonneg h h
  · have : 0 ≤ -x := by grind
    have := Rat.mul_nonneg this this
    grind
theorem rsq0 {x y : Rat} (h : x * x + y * y = 0) : x = 0 ∧ y = 0 := by
  have hx := rsq x
  have hy := rsq y
  have h1 : x * x = 0 := by grind
  have h2 : y * y = 0 := by grind
  exact ⟨by rcases Rat.mul_eq_zero.mp h1 with h | h <;> exact h, by rcases Rat.mul_eq_zero.mp h2 with h | h <;> exact h⟩
/-- 1 less what a move multiplies by -/
def lsx (n : Int) (m : Mv) : Rat := 1 - sc n m.k * rx m.q 1 0
def lsy (n : Int) (m : Mv) : Rat := -(sc n m.k * ry m.q 1 0)
def Ml (m : Mv) : Prop := m.k ≠ 0 ∨ m.q ≠ 0
theorem ls_nz {n : Int} (hn : 2 ≤ n) {m : Mv} (q1 : 0 ≤ m.q) (q2 : m.q < 4) (h : Ml m) : lsx n m * lsx n m + lsy n m * lsy n m ≠ 0 := fun z => by
  obtain ⟨z1, z2⟩ := rsq0 z
  have p := sc_pos (n := n) (by omega) m.k
  unfold lsx lsy rx ry at *
  have : m.q = 0 ∨ m.q = 1 ∨ m.q = 2 ∨ m.q = 3 := by omega
  rcases this with hq | hq | hq | hq <;> rw [hq] at z1 z2 <;> simp at z1 z2
  · have := sc_one (n := n) (k := m.k) hn (by grind)
    rcases h with h | h <;> contradiction
  · grind
  · grind
  · grind
/-- a point stays with a move -/
def St (n : Int) (m : Mv) (x y : Rat) : Prop := m.x + sc n m.k * rx m.q x y = x ∧ m.y + sc n m.k * ry m.q x y = y
theorem cm (n k q : Int) (x y : Rat) : sc n k * rx q x y = sc n k * rx q 1 0 * x - sc n k * ry q 1 0 * y ∧ sc n k * ry q x y = sc n k * rx q 1 0 * y + sc n k * ry q 1 0 * x := by
  rcases four q with h | h | h | h <;> (unfold rx ry; rw [h]; constructor <;> simp <;> grind)
theorem st_iff {n : Int} {m : Mv} {x y : Rat} : St n m x y ↔ m.x = lsx n m * x - lsy n m * y ∧ m.y = lsx n m * y + lsy n m * x := by
  unfold St lsx lsy
  rw [(cm n m.k m.q x y).1, (cm n m.k m.q x y).2]
  constructor
  · rintro ⟨h1, h2⟩
    constructor <;> grind
  · rintro ⟨h1, h2⟩
    constructor <;> grind
theorem st_at {n : Int} {m : Mv} (h : lsx n m * lsx n m + lsy n m * lsy n m ≠ 0) : St n m ((m.x * lsx n m + m.y * lsy n m) / (lsx n m * lsx n m + lsy n m * lsy n m)) ((m.y * lsx n m - m.x * lsy n m) / (lsx n m * lsx n m + lsy n m * lsy n m)) := by
  rw [st_iff]
  generalize lsx n m = u at *
  generalize lsy n m = v at *
  constructor <;> grind
theorem st_uniq {n : Int} {m : Mv} (h : lsx n m * lsx n m + lsy n m * lsy n m ≠ 0) {x y z w : Rat} (a : St n m x y) (b : St n m z w) : x = z ∧ y = w := by
  rw [st_iff] at a b
  generalize lsx n m = u at *
  generalize lsy n m = v at *
  obtain ⟨a1, a2⟩ := a
  obtain ⟨b1, b2⟩ := b
  have e1 : (u * u + v * v) * (x - z) = 0 := by grind
  have e2 : (u * u + v * v) * (y - w) = 0 := by grind
  constructor
  · rcases Rat.mul_eq_zero.mp e1 with q | q
    · exact absurd q h
    · grind
  · rcases Rat.mul_eq_zero.mp e2 with q | q
    · exact absurd q h
    · grind
/-- the move with a scale about a point -/
theorem st_about (n k q : Int) (x y : Rat) : St n ⟨k, q, x - sc n k * rx q x y, y - sc n k * ry q x y⟩ x y := by
  constructor
  · show x - sc n k * rx q x y + sc n k * rx q x y = x
    grind
  · show y - sc n k * ry q x y + sc n k * ry q x y = y
    grind
theorem St.then {n : Int} (hn : n ≠ 0) {a b : Mv} {x y z w : Rat} (h : b.x + sc n b.k * rx b.q x y = z ∧ b.y + sc n b.k * ry b.q x y = w) : (a.then n b).x + sc n (a.then n b).k * rx (a.then n b).q x y = a.x + sc n a.k * rx a.q z w ∧ (a.then n b).y + sc n (a.then n b).k * ry (a.then n b).q x y = a.y + sc n a.k * ry a.q z w := by
  obtain ⟨h1, h2⟩ := h
  subst h1 h2
  unfold Mv.then
  simp only []
  rw [rx_mod, ry_mod, sc_add hn, (r_add a.q b.q x y).1, (r_add a.q b.q x y).2, (r_lin a.q b.x b.y _ _ _).1, (r_lin a.q b.x b.y _ _ _).2]
  constructor <;> grind
theorem St.pw {n : Int} (hn : n ≠ 0) {m : Mv} {x y : Rat} (h : St n m x y) : ∀ j, St n (pw n m j) x y
  | 0 => by
    unfold St
    show (0 : Rat) + sc n 0 * rx 0 x y = x ∧ (0 : Rat) + sc n 0 * ry 0 x y = y
    rw [sc_zero, (r_zero x y).1, (r_zero x y).2]
    constructor <;> grind
  | j + 1 => by
    have t := St.then hn (a := VM.pw n m j) (b := m) (z := x) (w := y) h
    have ih := St.pw hn h j
    exact ⟨t.1.trans ih.1, t.2.trans ih.2⟩
theorem plain_at (n : Int) (x y : Rat) : Mv.plain.x + sc n Mv.plain.k * rx Mv.plain.q x y = x ∧ Mv.plain.y + sc n Mv.plain.k * ry Mv.plain.q x y = y := by
  show (0 : Rat) + sc n 0 * rx 0 x y = x ∧ (0 : Rat) + sc n 0 * ry 0 x y = y
  rw [sc_zero, (r_zero x y).1, (r_zero x y).2]
  constructor <;> grind
theorem St.back {n : Int} (hn : n ≠ 0) {m : Mv} (q : 0 ≤ m.q ∧ m.q < 4) {x y : Rat} (h : St n m x y) : St n (m.back n) x y := by
  have t := St.then hn (a := m.back n) (b := m) (z := x) (w := y) h
  rw [back_then hn m q, (plain_at n x y).1, (plain_at n x y).2] at t
  exact ⟨t.1.symm, t.2.symm⟩
/-- what stays, moved by another move -/
theorem St.conj {n : Int} (hn : n ≠ 0) {g m : Mv} (q : 0 ≤ g.q ∧ g.q < 4) {x y : Rat} (h : St n m x y) : St n ((g.then n m).then n (g.back n)) (g.x + sc n g.k * rx g.q x y) (g.y + sc n g.k * ry g.q x y) := by
  have t := St.then hn (a := g.back n) (b := g) (x := x) (y := y) ⟨rfl, rfl⟩
  rw [back_then hn g q, (plain_at n x y).1, (plain_at n x y).2] at t
  have u := St.then hn (a := g) (b := m) (z := x) (w := y) h
  exact St.then hn (a := g.then n m) (b := g.back n) (x := g.x + sc n g.k * rx g.q x y) (y := g.y + sc n g.k * ry g.q x y) (z := x) (w := y) ⟨t.1.symm, t.2.symm⟩ |>.imp (fun e => e.trans u.1) (fun e => e.trans u.2)
end VM
namespace VM
/-! ## Orders -/
theorem pw_q (n : Int) (m : Mv) : ∀ j : Nat, (pw n m j).q = (j * m.q) % 4
  | 0 => by show (0 : Int) = ((0 : Nat) : Int) * m.q % 4; simp
  | j + 1 => by
    show ((pw n m j).q + m.q) % 4 = _
    rw [pw_q n m j]
    have e : ((j + 1 : Nat) : Int) * m.q = (j : Int) * m.q + m.q := by
      push_cast
      rw [Int.add_mul, Int.one_mul]
    rw [e]
    omega
theorem pw_two (n : Int) (x y : Rat) : pw n ⟨0, 2, x, y⟩ 2 = .plain := by
  simp only [pw, Mv.then, Mv.plain, sc1, rx, ry]
  refine mv_ext ?_ ?_ ?_ ?_ <;> simp [sc1] <;> grind
def ordO (m : Mv) : Option Nat := if m.k ≠ 0 then none else if m.q = 0 then (if m.x = 0 ∧ m.y = 0 then some 1 else none) else if m.q = 2 then some 2 else some 4
theorem ord_some {n : Int} {m : Mv} (h : 0 ≤ m.q ∧ m.q < 4) {o : Nat} (e : ordO m = some o) : 1 ≤ o ∧ o ≤ 4 ∧ pw n m o = .plain ∧ ∀ j, 1 ≤ j → j < o → pw n m j ≠ .plain := by
  unfold ordO at e
  split at e
  · cases e
  · rename_i hk
    have hk0 : m.k = 0 := by omega
    split at e
    · rename_i hq
      split at e
      · rename_i hz
        cases e
        refine ⟨by decide, by decide, ?_, fun j a b => by omega⟩
        rw [pw_one n m h]
        exact mv_ext hk0 hq hz.1 hz.2
      · cases e
    · rename_i hq
      split at e
      · rename_i h2
        cases e
        refine ⟨by decide, by decide, ?_, fun j a b p => ?_⟩
        · have em : m = ⟨0, 2, m.x, m.y⟩ := mv_ext hk0 h2 rfl rfl
          rw [em]
          exact pw_two n m.x m.y
        · have : j = 1 := by omega
          subst this
          have q := pw_q n m 1
          rw [p, h2] at q
          exact absurd q (by decide)
      · rename_i h2
        cases e
        refine ⟨by decide, by decide, ?_, fun j a b p => ?_⟩
        · have em : m = ⟨0, m.q, m.x, m.y⟩ := mv_ext hk0 rfl rfl rfl
          rw [em]
          exact pw_four m.q m.x m.y (by omega)
        · have q := pw_q n m j
          rw [p] at q
          have q' : (0 : Int) = (j * m.q) % 4 := q
          have : m.q = 1 ∨ m.q = 3 := by omega
          have : j = 1 ∨ j = 2 ∨ j = 3 := by omega
          rcases ‹m.q = 1 ∨ m.q = 3› with hq | hq <;> rcases this with hj | hj | hj <;> (subst hj; rw [hq] at q'; exact absurd q' (by decide))
theorem ord_none {n : Int} {m : Mv} (h : 0 ≤ m.q ∧ m.q < 4) (e : ordO m = none) (j : Nat) (hj : 1 ≤ j) : pw n m j ≠ .plain := fun p => by
  unfold ordO at e
  split at e
  · rename_i hk
    have k := pw_k n m j
    rw [p] at k
    have k' : (0 : Int) = j * m.k := k
    have : (j : Int) * m.k ≠ 0 := Int.mul_ne_zero (by omega) hk
    omega
  · rename_i hk
    have hk0 : m.k = 0 := by omega
    split at e
    · rename_i hq
      split at e
      · cases e
      · rename_i hz
        have em : m = ⟨0, 0, m.x, m.y⟩ := mv_ext hk0 hq rfl rfl
        rw [em, pw_flat] at p
        have jz : (j : Rat) ≠ 0 := by
          intro z
          have : j = 0 := by exact_mod_cast z
          omega
        have ex : (j : Rat) * m.x = 0 := congrArg Mv.x p
        have ey : (j : Rat) * m.y = 0 := congrArg Mv.y p
        rcases Rat.mul_eq_zero.mp ex with z | z
        · exact jz z
        · rcases Rat.mul_eq_zero.mp ey with z' | z'
          · exact jz z'
          · exact hz ⟨z, z'⟩
    · split at e <;> cases e
theorem ord_least {n : Int} {m : Mv} (h : 0 ≤ m.q ∧ m.q < 4) {i : Nat} (i1 : 1 ≤ i) (p : pw n m i = .plain) (l : ∀ j, 1 ≤ j → j < i → pw n m j ≠ .plain) : ordO m = some i := by
  cases e : ordO m with
  | none => exact absurd p (ord_none h e i i1)
  | some o =>
    obtain ⟨o1, _, op, ol⟩ := ord_some (n := n) h e
    have : o = i := by
      rcases Nat.lt_trichotomy o i with z | z | z
      · exact absurd op (l o o1 z)
      · exact z
      · exact absurd p (ol i i1 z)
    rw [this]
theorem ord_over {n : Int} {m : Mv} (h : 0 ≤ m.q ∧ m.q < 4) (l : ∀ j, 1 ≤ j → j ≤ 8 → pw n m j ≠ .plain) : ordO m = none := by
  cases e : ordO m with
  | none => rfl
  | some o =>
    obtain ⟨o1, o4, op, _⟩ := ord_some (n := n) h e
    exact absurd op (l o o1 (by omega))
theorem ord_same {n : Int} {a b : Mv} (ha : 0 ≤ a.q ∧ a.q < 4) (hb : 0 ≤ b.q ∧ b.q < 4) (e : ∀ j, pw n a j = .plain ↔ pw n b j = .plain) : ordO a = ordO b := by
  cases ea : ordO a with
  | none => exact (ord_over (n := n) hb fun j h1 _ p => ord_none ha ea j h1 ((e j).mpr p)).symm
  | some o =>
    obtain ⟨o1, o4, op, ol⟩ := ord_some (n := n) ha ea
    exact (ord_least hb o1 ((e o).mp op) fun j h1 h2 p => ol j h1 h2 ((e j).mpr p)).symm
theorem ord_back {n : Int} (hn : n ≠ 0) {m : Mv} (h : 0 ≤ m.q ∧ m.q < 4) : ordO (m.back n) = ordO m := ord_same (n := n) (back_turn n m) h fun j => by
  rw [pw_back hn m h]
  constructor
  · intro p
    have := back_back hn _ (pw_turn n m j)
    rw [p, plain_back hn] at this
    exact this.symm
  · intro p
    rw [p]
    exact plain_back hn
theorem pw_conj {n : Int} (hn : n ≠ 0) {g m : Mv} (hg : 0 ≤ g.q ∧ g.q < 4) : ∀ j, pw n ((g.then n m).then n (g.back n)) j = (g.then n (pw n m j)).then n (g.back n)
  | 0 => by
    show Mv.plain = (g.then n .plain).then n (g.back n)
    rw [then_plain g hg, then_back hn]
  | j + 1 => by
    show (pw n ((g.then n m).then n (g.back n)) j).then n ((g.then n m).then n (g.back n)) = (g.then n ((pw n m j).then n m)).then n (g.back n)
    rw [pw_conj hn hg j, ← then_assoc hn, ← then_assoc hn, then_assoc hn _ (g.back n) g, back_then hn g hg, then_plain _ (then_turn ..), then_assoc hn g]
theorem ord_conj {n : Int} (hn : n ≠ 0) {g m : Mv} (hg : 0 ≤ g.q ∧ g.q < 4) (hm : 0 ≤ m.q ∧ m.q < 4) : ordO ((g.then n m).then n (g.back n)) = ordO m := ord_same (n := n) (then_turn ..) hm fun j => by
  rw [pw_conj hn hg]
  constructor
  · intro p
    have e : (g.back n).then n (((g.then n (pw n m j)).then n (g.back n)).then n g) = pw n m j := by
      rw [then_assoc hn _ (g.back n) g, back_then hn g hg, then_plain _ (then_turn ..), ← then_assoc hn, back_then hn g hg, plain_then _ (pw_turn ..)]
    rw [p, plain_then g hg, back_then hn g hg] at e
    exact e.symm
  · intro p
    rw [p, then_plain g hg, then_back hn]
end VM
namespace VM
/-! ## Moves that commute -/
instance : DecidableEq Mv := fun a b => decidable_of_iff (a.k = b.k ∧ a.q = b.q ∧ a.x = b.x ∧ a.y = b.y) ⟨fun h => mv_ext h.1 h.2.1 h.2.2.1 h.2.2.2, fun h => by subst h; exact ⟨rfl, rfl, rfl, rfl⟩⟩
def heX (n : Int) (m m' : Mv) : Rat := lsx n m' * m.x - lsy n m' * m.y
def heY (n : Int) (m m' : Mv) : Rat := lsx n m' * m.y + lsy n m' * m.x
theorem then_x (n : Int) (m m' : Mv) : (m.then n m').x = m.x + m'.x - heX n m' m ∧ (m.then n m').y = m.y + m'.y - heY n m' m := by
  unfold Mv.then heX heY lsx lsy
  simp only []
  rw [(cm n m.k m.q m'.x m'.y).1, (cm n m.k m.q m'.x m'.y).2]
  constructor <;> grind
theorem comm_iff (n : Int) (m m' : Mv) : (m.then n m' = m'.then n m) ↔ (heX n m m' = heX n m' m ∧ heY n m m' = heY n m' m) := by
  have a := then_x n m m'
  have b := then_x n m' m
  constructor
  · intro e
    rw [e] at a
    constructor <;> grind
  · rintro ⟨h1, h2⟩
    refine mv_ext ?_ ?_ ?_ ?_
    · show m.k + m'.k = m'.k + m.k
      omega
    · show (m.q + m'.q) % 4 = (m'.q + m.q) % 4
      rw [Int.add_comm]
    · rw [a.1, b.1]
      grind
    · rw [a.2, b.2]
      grind
end VM

set_option Elab.async false
set_option linter.all false
set_option maxRecDepth 100000
set_option maxHeartbeats 4000000
namespace G
open PySem L2 VL VM
def top (i : Nat) : Stmt := PySem.Challenge.pw_viewlots_k45_views_judged.main.body.getD i (.Pass ⟨0, 0, 0, 0⟩)
def inner : Stmt → List Stmt
  | .ClassDef _ _ _ b _ _ _ _ _ _ _ => b
  | _ => []
def meth (i j : Nat) : Stmt := (inner (top i)).getD j (.Pass ⟨0, 0, 0, 0⟩)
/-- the built-in names that the text leaves alone -/
structure Bt (mg : Str → Option Value) : Prop where
  isi : mg "isinstance" = none
  int : mg "int" = none
  bool : mg "bool" = none
  tuple : mg "tuple" = none
  str : mg "str" = none
  len : mg "len" = none
  abs : mg "abs" = none
  all : mg "all" = none
  range : mg "range" = none
  max : mg "max" = none
  min : mg "min" = none
  divmod : mg "divmod" = none
theorem mulSz {B C : Nat} {i j : Int} (h : Sz B i) (g : Sz C j) (l : B + C < 1000000 := by omega) : MulOk i j := .inr (by
  have := h.log
  have := g.log
  show i.natAbs.log2 + j.natAbs.log2 < 1000000
  omega)
theorem divSz {B : Nat} {i j : Int} (h : 0 < j) (g : Sz B j) (l : B < 9000 := by omega) : CDivW i j := ⟨h, by have := g.log; omega⟩
local macro_rules | `(tactic| mi_while ["vl var"] []) => `(tactic| first | refine xe_var 0 rfl ?_ | refine xe_var 1 rfl ?_ | refine xe_var 2 rfl ?_ | refine xe_var 3 rfl ?_ | refine xe_var 4 rfl ?_ | refine xe_var 5 rfl ?_ | refine xe_var 6 rfl ?_ | refine xe_var 7 rfl ?_ | refine xe_var 8 rfl ?_ | refine xe_var 9 rfl ?_ | refine xe_var 10 rfl ?_ | refine xe_var 11 rfl ?_ | refine xe_var 12 rfl ?_ | refine xe_var 13 rfl ?_ | refine xe_var 14 rfl ?_ | refine xe_var 15 rfl ?_ | refine xe_var 16 rfl ?_)
local macro_rules | `(tactic| mi_while ["vl exp"] []) => `(tactic| first
  | refine ⟨_, rfl, ?_⟩ | refine ⟨rfl, ?_⟩ | refine ⟨Nat.le_of_ble_eq_true rfl, ?_⟩
  | mi_while ["vl var"] []
  | refine xe_int ?_ | refine xe_str ?_ | refine xe_bl ?_ | refine xe_non ?_
  | refine xe_ixL (XN.rd (xn_lst ?_)) | refine xe_ixT ?_ | refine xe_add ?_ | refine xe_mul ?_ | refine xe_sub ?_ | refine xe_div ?_ | refine xe_mod ?_ | refine xe_neg ?_
  | refine ⟨mulSz (by assumption) (by assumption), ?_⟩ | refine ⟨divSz (by assumption) (by assumption), ?_⟩
  | refine xt_gt ?_ | refine xt_lt ?_ | refine xt_le ?_ | refine xt_ge ?_ | refine xe_gt ?_ | refine xe_lt ?_ | refine xe_le ?_ | refine xe_ge ?_
  | refine xe_if ?_ | refine xe_tup ?_ | refine xa_cons ?_ | refine xa_nil ?_
  | refine XN.data (xn_lst ?_) | refine xn_lst ?_
  | (refine' xe_call ?hF ?hR ?hA ?hN; (case hF => assumption); (case hR => assumption); (case hN => decide)))
local macro_rules | `(tactic| mi_while ["vl set"] []) => `(tactic| first | refine xb_cons (xs_set 0 ?_ (by assumption)) | refine xb_cons (xs_set 1 ?_ (by assumption)) | refine xb_cons (xs_set 2 ?_ (by assumption)) | refine xb_cons (xs_set 3 ?_ (by assumption)) | refine xb_cons (xs_set 4 ?_ (by assumption)) | refine xb_cons (xs_set 5 ?_ (by assumption)) | refine xb_cons (xs_set 6 ?_ (by assumption)) | refine xb_cons (xs_set 7 ?_ (by assumption)) | refine xb_cons (xs_set 8 ?_ (by assumption)) | refine xb_cons (xs_set 9 ?_ (by assumption)) | refine xb_cons (xs_set 10 ?_ (by assumption)) | refine xb_cons (xs_set 11 ?_ (by assumption)) | refine xb_cons (xs_set 12 ?_ (by assumption)))
local macro_rules | `(tactic| mi_while ["vl tg"] []) => `(tactic| first | refine xgs_nil ?_ | refine xgs_cons ?_ | refine xg_tup ?_ rfl | refine xg_lst ?_ rfl | refine xg_name 0 ?_ (by assumption) | refine xg_name 1 ?_ (by assumption) | refine xg_name 2 ?_ (by assumption) | refine xg_name 3 ?_ (by assumption) | refine xg_name 4 ?_ (by assumption) | refine xg_name 5 ?_ (by assumption) | refine xg_name 6 ?_ (by assumption) | refine xg_name 7 ?_ (by assumption) | refine xg_name 8 ?_ (by assumption))
local macro_rules | `(tactic| mi_while ["vl st"] []) => `(tactic| first
  | refine xb_cons (xs_ret ?_)
  | mi_while ["vl set"] []
  | mi_while ["vl tg"] []
  | refine xb_cons (xs_asg (tg := .Tuple _ _ _) ?_)
  | refine xb_nil ?_)
local macro_rules | `(tactic| mi_while ["vl"] []) => `(tactic| repeat (first | mi_while ["vl exp"] [] | mi_while ["vl st"] []))
abbrev triD (a b c : Int) : D := .tup [.int a, .int b, .int c]
abbrev frD (x : Rat) : D := .tup [.int x.num, .int x.den]
abbrev ptD (x y : Rat) : D := .tup [frD x, frD y]
def cShared : Con := fun ds k => ∃ a b : Int, ds = [.int a, .int b] ∧ k (.int (Int.gcd a b))
section
variable {P : Program} {w : World} {K : PySem.W.Frag} {mg : Str → Option Value} {base : Heap} {f : Addr} {fd : FuncData}
theorem sc_shared : FnScope ["one", "other"] ["one", "other"] (defScope (top 22)) := ⟨rfl, rfl, rfl, by decide +kernel, rfl, by decide +kernel, by decide +kernel⟩
theorem ok_shared (F : Fun K "shared" "shared" (top 22) f fd) (B : Bt mg) : FnOk P w K mg base CX0 1 f fd ["one", "other"] (spC K 2 cShared) := by
  refine xdef F sc_shared fun ds k hl hc cdv A outer s H E hr => ?_
  obtain ⟨a, b, rfl, hk⟩ := hc
  refine xb_cons (xs_par 0 1 rfl sc_shared.nd (xe_abs B.abs (xe_var 0 rfl ⟨_, rfl, xe_abs B.abs (xe_var 1 rfl ⟨_, rfl, ?_⟩)⟩)) rfl)
  refine xb_cons (xs_while (fun m ρ => ∃ x y : Int, ρ = [.dat (.int x), .dat (.int y)] ∧ 0 ≤ x ∧ 0 ≤ y ∧ m = y.toNat ∧ Int.gcd x y = Int.gcd a b) ⟨_, _, _, rfl, ?_, ?_, rfl, ?_⟩ ?_)
  · split <;> omega
  · split <;> omega
  · split <;> split <;> simp
  · rintro m ρ' ⟨x, y, rfl, hx, hy, hm, hg⟩
    refine xt_gt (xe_var 1 rfl ⟨_, rfl, xe_int ⟨_, rfl, ?_⟩⟩)
    by_cases c : 0 < y
    · rw [decide_eq_true c]
      refine iteT ?_
      refine xb_cons (xs_par 0 1 rfl sc_shared.nd (xe_var 1 rfl (xe_mod (xe_var 0 rfl ⟨_, rfl, xe_var 1 rfl ⟨_, rfl, c, ?_⟩⟩))) rfl)
      refine xb_nil ⟨(x % y).toNat, ?_, y, x % y, rfl, hy, Int.emod_nonneg _ (by omega), rfl, ?_⟩
      · have := Int.emod_lt_of_pos x c
        have := Int.emod_nonneg x (show y ≠ 0 by omega)
        omega
      · rw [← hg, gcd_step]
    · rw [decide_eq_false c]
      refine iteF ?_
      have : y = 0 := by omega
      subst this
      refine xb_cons (xs_ret (xe_var 0 rfl ?_))
      have e : x = (Int.gcd a b : Int) := by
        rw [← hg]
        simp
        omega
      rw [e]
      exact hk
/-! made -/
theorem gcd_pos {a b c : Int} (h : 0 < c) : 0 < (Int.gcd (Int.gcd a b) c : Int) := by
  have := gcd3_ne (a := a) (b := b) (c := c) (by omega)
  omega
def cMade : Con := fun ds k => ∃ (a b c : Int) (B : Nat), ds = [.int a, .int b, .int c] ∧ 0 < c ∧ Sz3 B a b c ∧ B < 9000 ∧ ∀ a' b' c', IsTri ((a : Rat) / c) ((b : Rat) / c) a' b' c' → Sz3 B a' b' c' → k (triD a' b' c')
theorem sc_made : FnScope ["a", "b", "c", "by"] ["a", "b", "c"] (defScope (top 27)) := ⟨rfl, rfl, rfl, by decide +kernel, rfl, by decide +kernel, by decide +kernel⟩
theorem ok_made (F : Fun K "made" "made" (top 27) f fd) (Hs : Fn P w K mg base 1 "shared" ["one", "other"] cShared) : FnOk P w K mg base CX0 2 f fd ["a", "b", "c"] (spC K 3 cMade) := by
  refine xdef F sc_made fun ds k hl hc cdv A outer s H E hr => ?_
  have nd := sc_made.nd
  obtain ⟨a, b, c, B, rfl, hc0, ⟨sa, sb, sc⟩, hB, hk⟩ := hc
  have hg := gcd_pos (a := a) (b := b) hc0
  have hs : Sz B (Int.gcd (Int.gcd a b) c : Int) := sc.dvd (Int.gcd_dvd_right ..) (by omega)
  obtain ⟨t, da, db, dc⟩ := tri_made (a := a) (b := b) (g := (Int.gcd (Int.gcd a b) c : Int)) (show c ≠ 0 by omega) (by rw [if_pos hc0])
  mi_while ["vl"] []
  refine ⟨a, b, rfl, ?_⟩
  mi_while ["vl"] []
  refine ⟨_, c, rfl, ?_⟩
  mi_while ["vl"] []
  rw [decide_eq_true hc0]
  refine iteT ?_
  mi_while ["vl"] []
  exact hk _ _ _ t ⟨sa.div da, sb.div db, sc.div dc⟩
/-! number_of -/
def cNum : Con := fun ds k => ∃ (x y : Rat) (B : Nat), ds = [ptD x y] ∧ SzQ B x ∧ SzQ B y ∧ B < 4400 ∧ ∀ a b c, IsTri x y a b c → Sz3 (B + B) a b c → k (triD a b c)
theorem num_cross (x y : Rat) : ((x.num * y.den : Int) : Rat) / ((x.den * y.den : Int) : Rat) = x ∧ ((y.num * x.den : Int) : Rat) / ((x.den * y.den : Int) : Rat) = y := by
  have h1 := num_eq x
  have h2 := num_eq y
  have h3 := den_nz x
  have h4 := den_nz y
  push_cast
  rw [h1, h2]
  constructor <;> grind
theorem sc_number_of : FnScope ["point", "a", "c", "b", "d"] ["point"] (defScope (top 28)) := ⟨rfl, rfl, rfl, by decide +kernel, rfl, by decide +kernel, by decide +kernel⟩
theorem ok_number_of (F : Fun K "number_of" "number_of" (top 28) f fd) (Hm : Fn P w K mg base 2 "made" ["a", "b", "c"] cMade) : FnOk P w K mg base CX0 3 f fd ["point"] (spC K 1 cNum) := by
  refine xdef F sc_number_of fun ds k hl hc cdv A outer s H E hr => ?_
  have nd := sc_number_of.nd
  obtain ⟨x, y, B, rfl, ⟨s1, s2⟩, ⟨s3, s4⟩, hB, hk⟩ := hc
  mi_while ["vl"] []
  refine ⟨_, _, _, B + B, rfl, Int.mul_pos (den_pos x) (den_pos y), ⟨s1.mul s4, s3.mul s2, s2.mul s4⟩, by omega, ?_⟩
  rw [(num_cross x y).1, (num_cross x y).2]
  exact hk
/-! part_of, point_of -/
def cPart : Con := fun ds k => ∃ (a c : Int) (B : Nat), ds = [.int a, .int c] ∧ 0 < c ∧ Sz B c ∧ B < 9000 ∧ k (frD ((a : Rat) / c))
def cPt : Con := fun ds k => ∃ (x y : Rat) (a b c : Int) (B : Nat), ds = [triD a b c] ∧ IsTri x y a b c ∧ Sz B c ∧ B < 9000 ∧ k (ptD x y)
/-! added, times, minus -/
def cAdd : Con := fun ds k => ∃ (x y z w : Rat) (a b c a' b' c' : Int) (B C : Nat), ds = [triD a b c, triD a' b' c'] ∧ IsTri x y a b c ∧ IsTri z w a' b' c' ∧ Sz3 B a b c ∧ Sz3 C a' b' c' ∧ B + C < 8990 ∧ ∀ p q r, IsTri (x + z) (y + w) p q r → Sz3 (B + C + 1) p q r → k (triD p q r)
theorem add_cross {x y z w : Rat} {a b c a' b' c' : Int} (t : IsTri x y a b c) (u : IsTri z w a' b' c') : ((a * c' + a' * c : Int) : Rat) / ((c * c' : Int) : Rat) = x + z ∧ ((b * c' + b' * c : Int) : Rat) / ((c * c' : Int) : Rat) = y + w := by
  have h1 := t.ea
  have h2 := t.eb
  have h3 := u.ea
  have h4 := u.eb
  have h5 := ratNz (Int.ne_of_gt t.pos)
  have h6 := ratNz (Int.ne_of_gt u.pos)
  push_cast
  rw [h1, h2, h3, h4]
  constructor <;> grind
theorem sc_added : FnScope ["one", "other"] ["one", "other"] (defScope (top 29)) := ⟨rfl, rfl, rfl, by decide +kernel, rfl, by decide +kernel, by decide +kernel⟩
theorem ok_added (F : Fun K "added" "added" (top 29) f fd) (Hm : Fn P w K mg base 2 "made" ["a", "b", "c"] cMade) : FnOk P w K mg base CX0 3 f fd ["one", "other"] (spC K 2 cAdd) := by
  refine xdef F sc_added fun ds k hl hc cdv A outer s H E hr => ?_
  have nd := sc_added.nd
  obtain ⟨x, y, z, w, a, b, c, a', b', c', B, C, rfl, t, u, ⟨s1, s2, s3⟩, ⟨s4, s5, s6⟩, hB, hk⟩ := hc
  mi_while ["vl"] []
  refine ⟨_, _, _, B + C + 1, rfl, Int.mul_pos t.pos u.pos, ⟨(s1.mul s6).add ((s4.mul s3).mono (by omega)), (s2.mul s6).add ((s5.mul s3).mono (by omega)), (s3.mul s6).mono (by omega)⟩, by omega, ?_⟩
  rw [(add_cross t u).1, (add_cross t u).2]
  exact hk
def cTimes : Con := fun ds k => ∃ (x y z w : Rat) (a b c a' b' c' : Int) (B C : Nat), ds = [triD a b c, triD a' b' c'] ∧ IsTri x y a b c ∧ IsTri z w a' b' c' ∧ Sz3 B a b c ∧ Sz3 C a' b' c' ∧ B + C < 8990 ∧ ∀ p q r, IsTri (x * z - y * w) (x * w + y * z) p q r → Sz3 (B + C + 1) p q r → k (triD p q r)
theorem mul_cross {x y z w : Rat} {a b c a' b' c' : Int} (t : IsTri x y a b c) (u : IsTri z w a' b' c') : ((a * a' - b * b' : Int) : Rat) / ((c * c' : Int) : Rat) = x * z - y * w ∧ ((a * b' + b * a' : Int) : Rat) / ((c * c' : Int) : Rat) = x * w + y * z := by
  have h1 := t.ea
  have h2 := t.eb
  have h3 := u.ea
  have h4 := u.eb
  have h5 := ratNz (Int.ne_of_gt t.pos)
  have h6 := ratNz (Int.ne_of_gt u.pos)
  push_cast
  rw [h1, h2, h3, h4]
  constructor <;> grind
theorem sc_times : FnScope ["one", "other", "top"] ["one", "other"] (defScope (top 30)) := ⟨rfl, rfl, rfl, by decide +kernel, rfl, by decide +kernel, by decide +kernel⟩
theorem ok_times (F : Fun K "times" "times" (top 30) f fd) (Hm : Fn P w K mg base 2 "made" ["a", "b", "c"] cMade) : FnOk P w K mg base CX0 3 f fd ["one", "other"] (spC K 2 cTimes) := by
  refine xdef F sc_times fun ds k hl hc cdv A outer s H E hr => ?_
  have nd := sc_times.nd
  obtain ⟨x, y, z, w, a, b, c, a', b', c', B, C, rfl, t, u, ⟨s1, s2, s3⟩, ⟨s4, s5, s6⟩, hB, hk⟩ := hc
  mi_while ["vl"] []
  refine ⟨_, _, _, B + C + 1, rfl, Int.mul_pos t.pos u.pos, ⟨(s1.mul s4).sub (s2.mul s5), (s1.mul s5).add (s2.mul s4), (s3.mul s6).mono (by omega)⟩, by omega, ?_⟩
  rw [(mul_cross t u).1, (mul_cross t u).2]
  exact hk
def cMinus : Con := fun ds k => ∃ (a b c : Int), ds = [triD a b c] ∧ k (triD (-a) (-b) c)
theorem sc_minus : FnScope ["number"] ["number"] (defScope (top 31)) := ⟨rfl, rfl, rfl, by decide +kernel, rfl, by decide +kernel, by decide +kernel⟩
theorem ok_minus (F : Fun K "minus" "minus" (top 31) f fd) : FnOk P w K mg base CX0 1 f fd ["number"] (spC K 1 cMinus) := by
  refine xdef F sc_minus fun ds k hl hc cdv A outer s H E hr => ?_
  have nd := sc_minus.nd
  obtain ⟨a, b, c, rfl, hk⟩ := hc
  mi_while ["vl"] []
  exact hk
theorem tri_neg {x y : Rat} {a b c : Int} (t : IsTri x y a b c) : IsTri (-x) (-y) (-a) (-b) c := ⟨t.pos, by rw [Rat.intCast_neg, t.ea]; grind, by rw [Rat.intCast_neg, t.eb]; grind, by have := t.one; rw [Int.gcd_neg, Int.neg_gcd]; exact this⟩
/-! power -/
def cPower : Con := fun ds k => ∃ (n : Int) (e : Nat), ds = [.int n, .int e] ∧ Sz 60 n ∧ e < 2 ^ 61 ∧ k (.int (n ^ e))
theorem mulL {i j : Int} (h : Sz 60 j) : MulOk i j := .inl (.inr (by unfold Sz at h; omega))
theorem sc_power : FnScope ["base", "exponent", "found", "turn"] ["base", "exponent"] (defScope (top 33)) := ⟨rfl, rfl, rfl, by decide +kernel, rfl, by decide +kernel, by decide +kernel⟩
theorem ok_power (F : Fun K "power" "power" (top 33) f fd) (B : Bt mg) : FnOk P w K mg base CX0 1 f fd ["base", "exponent"] (spC K 2 cPower) := by
  refine xdef F sc_power fun ds k hl hc cdv A outer s H E hr => ?_
  have nd := sc_power.nd
  obtain ⟨n, e, rfl, hn, he, hk⟩ := hc
  mi_while ["vl"] []
  refine xb_cons (xs_forR 3 ?_ B.range nd)
  refine xe_var 1 rfl ?_
  refine ⟨e, rfl, by omega, fun m ρ => ∃ d, ρ = [.dat (.int n), .dat (.int e), .dat (.int (n ^ m)), d], ⟨.un, by rw [Int.pow_zero]; rfl⟩, ?_, ?_⟩
  · rintro m ρ hm ⟨d, rfl⟩
    refine xb_cons (xs_augI 2 iop_mulX rfl ?_ nd)
    refine xe_var 0 rfl ⟨_, rfl, mulL hn, ?_⟩
    refine xb_nil ⟨.dat (.int m), ?_⟩
    rw [Int.pow_succ]
    rfl
  · rintro ρ ⟨d, rfl⟩
    mi_while ["vl"] []
    simpa using hk
end
end G

set_option Elab.async false
set_option linter.all false
set_option maxRecDepth 100000
set_option maxHeartbeats 4000000
namespace VL
open PySem L2

/-! ## Defs where no repr is under way: FnOk, told that the stack has no guard -/
structure FnG (P : Program) (w : World) (K : PySem.W.Frag) (mg : Str → Option Value) (base : Heap) (k : Nat) (f : Addr) (fd : FuncData) (ps : List Str) (sp : Sp) : Prop where
  len : ∀ vs H Q E, sp vs H Q E → vs.length = ps.length
  run : ∀ (A : Around) (outer : List Env) (s : Shared) (H : Hp) (args : Args) (us : List Value) (vs : List V) (Q : VK) (E : XK), A.guards = some [] → Room k A → Env0 P w K mg base A outer s H → BindsTo s fd args (ps.zip us) → Vals vs us → sp vs H Q E →
    codeAny (model P w) A (.call (.ref f) args) (CR CX0 outer P w H s Q E) s
section
variable {P : Program} {w : World} {K : PySem.W.Frag} {mg : Str → Option Value} {base : Heap}
theorem FnG.mono {j k : Nat} {f : Addr} {fd : FuncData} {ps : List Str} {sp : Sp} (F : FnG P w K mg base j f fd ps sp) (h : j ≤ k) : FnG P w K mg base k f fd ps sp :=
  ⟨F.len, fun A outer s H args us vs Q E g hr => F.run A outer s H args us vs Q E g (hr.mono h)⟩
open PySem.Spec PyProof.Rows in
theorem fnG_of {k : Nat} {f : Addr} {name qual : Str} {params : Arguments} {body : List Stmt} {scope : Scope} {dV kV doc pm cdv ct oc : Value} {an od : Option Addr} {osl : Array (Option Value)} {N ps : List Str} {sp : Sp}
    (at_ : K.lookup f = some ⟨oc, od, .func (PySem.W.fnOf name qual params body scope dV kV doc pm an cdv ct), osl⟩) (code : PySem.W.codeIn K cdv qual = true) (S : FnScope N ps scope) (len : ∀ vs H Q E, sp vs H Q E → vs.length = ps.length)
    (hbody : ∀ (A : Around) (outer : List Env) (s : Shared) (H : Hp) (vs : List V) (Q : VK) (E : XK), A.guards = some [] → Room k (A.deeper (PyProof.Rows.envOfC qual scope s.heap.objs.size f cdv)) → sp vs H Q E →
      ∃ t, PSs (cxOf CX0 P w K mg base N qual scope f cdv A outer s H E) body t ∧ t { nx := fun _ H' => Q .non H', rt := Q } (L2.start N vs) H) :
    FnG P w K mg base (k + 1) f (PySem.W.fnOf name qual params body scope dV kV doc pm an cdv ct) ps sp := by
  constructor
  · exact len
  intro A outer s H args us vs Q E gd room env0 bnd rel hsp
  have many := len vs H Q E hsp
  have KX : K.In s.heap := env0.mod.kin.keeps fun b o z => (env0.bs b o z).1
  have noLim : s.heap.NoLimit := env0.mod.nolimit.keeps fun b o z => (env0.bs b o z).1
  have kinds : ∀ y ∈ ps.zip us, scope.names.lookup y.1 = some .local ∨ (scope.names.lookup y.1 = some .cell ∧ ((cellsFrom (s.heap.objs.size + 1) scope.names []).lookup y.1).isSome = true) := by
    rintro ⟨n, v⟩ hy
    have inP : n ∈ ps := (List.of_mem_zip hy).1
    cases S.par n inP with
    | inl z => exact .inl z
    | inr z => exact .inr ⟨z, PySem.W.cellsFrom_some _ _ _ (.inl z)⟩
  refine codeAny_call_function room.depth (KX _ _ at_) rfl S.co S.gen rfl (PySem.W.codeRec_of KX code) (bnd _ _ _ _ ?_)
  refine wpAny_newFunctionEnv_cells S.kind kinds fun ev hev s1 laid => ?_
  subst hev
  refine ⟨noLim.keeps laid.toInCall.keep, codeAny_func ?_⟩
  obtain ⟨t, walk, hq⟩ := hbody A outer s H vs Q E gd (room.deeper _) hsp
  have I0 : Inv (cxOf CX0 P w K mg base N qual scope f cdv A outer s H E) [] (L2.start N vs) H s1 := inv_start S room.hd env0 many rel laid
  have ends : ∀ {σ' : L2.St} {H' : Hp} {v : V} {u : Value} {s' : Shared}, Inv (cxOf CX0 P w K mg base N qual scope f cdv A outer s H E) [] σ' H' s' → RelV v u → Q v H' → CE outer P w H s Q u s' :=
    fun {σ' H' v u s'} J rv q => ⟨v, H', J.os, J.bare, J.base, J.hok, rv, q⟩
  refine wpAny_mono (walk.run [] s1 (L2.start N vs) H _ I0 hq) (fun fl s' out => ?_) fun e s' out => out
  match fl, out with
  | .ret u, ⟨v, σ', H', J, rv, q⟩ => exact ends J rv q
  | .next, ⟨σ', H', J, q⟩ => exact ends (v := .non) (u := .none) J rfl q
  | .brk, ⟨_, _, _, q⟩ => exact q.elim
  | .cont, ⟨_, _, _, q⟩ => exact q.elim
/-- a def by its body, told that no repr is under way -/
theorem xdefG {x qual : Str} {st : Stmt} {f : Addr} {fd : FuncData} {N ps : List Str} {n : Nat} {C : Con} (F : Fun K x qual st f fd) (Sc : FnScope N ps (defScope st))
    (body : ∀ (ds : List D) (k : D → Prop), ds.length = ps.length → C ds k → ∀ (cdv : Value) (A : Around) (outer : List Env) (s : Shared) (H : Hp) (E : XK), A.guards = some [] → Room n (A.deeper (PyProof.Rows.envOfC qual (defScope st) s.heap.objs.size f cdv)) →
      XB (cxOf CX0 P w K mg base N qual (defScope st) f cdv A outer s H E).nox (defBody st) (startR N.length ds) { nx := fun _ => k .non, rt := k }) : FnG P w K mg base (n + 1) f fd ps (spC K ps.length C) := by
  have hpl : ps.length ≤ N.length := by
    have := congrArg List.length Sc.pre
    rw [List.length_take] at this
    omega
  obtain ⟨oc, od, kV, doc, pm, an, cdv, ct, osl, rfl, lk, hcd⟩ := F.ex
  refine fnG_of lk hcd Sc (fun vs H Q E h => ?_) fun A outer s H vs Q E gd hr h => ?_
  · obtain ⟨_, _, _, hl, _⟩ := h
    exact hl
  · obtain ⟨S, ds, k, hl, tr, a, hc, q⟩ := h
    have hb := body ds k (by rw [← a.length]; exact hl) hc cdv A outer s H E gd hr
    refine ⟨_, PSs.nox (hb S H tr), start_ok tr (by omega) a, ⟨fun σ' H' ρ' ok hn => ?_, fun v H' d e at_ hk => q v H' d e at_ hk, fun _ _ _ _ z => z.elim, fun _ _ _ _ z => z.elim⟩⟩
    obtain ⟨_, _, _, _, e, _⟩ := ok
    exact q .non H' .non e .non hn
structure Fg (P : Program) (w : World) (K : PySem.W.Frag) (mg : Str → Option Value) (base : Heap) (k : Nat) (x : Str) (ps : List Str) (C : Con) : Prop where
  ex : ∃ f fd, mg x = some (.ref f) ∧ PySem.W.keepIn K (.ref f) = true ∧ Binds K fd ps [] ∧ FnG P w K mg base k f fd ps (spC K ps.length C)
end
section
variable {X : Cx} {ρ : Rho} {e : Expr} {es : List Expr} {pos p : Pos} {k : D → Prop}
theorem xe_callG {n m : Nat} {x : Str} {ps : List Str} {C : Con} (F : Fg X.prog X.w X.K X.mg X.base n x ps C) (gd : X.A.guards = some []) (hr : Room m X.A) (h : XA X (e :: es) ρ fun ds => ds.length = ps.length ∧ C ds k) (hnm : n ≤ m := by decide) (hg : Gl X x := by rfl)
    (hdb : (x == ("__debug__" : Str)) = false := by decide) (he : starEach (e :: es) X.env = (false, eval e X.env) :: starEach es X.env := by rfl) (hpl : (backTo pos (starEach es X.env)).any (·.1) = false := by rfl) :
    XE X (.Call (.Name x p) (e :: es) [] pos) ρ k := by
  obtain ⟨f, fd, h1, h2, h3, h4⟩ := F.ex
  refine ⟨fun pins s σ H Q I ⟨S, E, q⟩ => ?_⟩
  refine wpAny_Call_Name_kw (ld_glob I hg h1 ?_ hdb)
  refine PySem.W.callWith_K (h₀ := X.base) I.ok.mod.kin h2 (thn (anyA.run pos pins s σ H (fun vs H2 => ∃ ds, Ex H H2 ∧ AtL X.K (hide S H2) vs ds ∧ ds.length = ps.length ∧ C ds k) I ⟨_, h, S, E, fun vs H2 ds e2 a2 hk => ⟨ds, e2, a2, hk⟩⟩) fun us s2 ⟨zs, H2, I2, rz, ds, e2, a2, l1, hc⟩ => ⟨I2.kIn, ?_⟩) he hpl
  have lz : zs.length = ps.length := by rw [a2.length]; exact l1
  have lu : us.length = ps.length := by rw [← rz.length]; exact lz
  have hb := h3 s2 us I2.kIn (by rw [List.append_nil]; exact lu)
  rw [List.append_nil] at hb
  refine wpAny_call (codeAny_mono (h4.run X.A X.stack s2 H2 ⟨us, []⟩ us zs Q (fun _ _ _ => False) gd (hr.mono hnm) I2.env0 hb rz ⟨S, ds, k, lz, (E.mono e2).trk, a2, hc, fun v H3 d e3 a3 hk => q v H3 d (e2.trans e3) a3 hk⟩) fun r s' hq => ?_)
  match r, hq with
  | .error _, hq => exact (show False from hq).elim
  | .ok (.ret u), hq => exact I2.after hq
  | .ok .next, hq => exact False.elim hq
  | .ok .brk, hq => exact False.elim hq
  | .ok .cont, hq => exact False.elim hq
end

/-! ## A law's end, no guard on the stack -/
/-- the script, known to the object, where it isn't the module's own -/
def scrH (K : PySem.W.Frag) (a : Addr) (vs : List Value) (ns : List Int) : Hp := fun b => if b = a ∧ K.lookup a = none then some (.frz { cls := .type "list", data := .seq vs.toArray } (.lst (ns.map V.int))) else none
theorem scr_some {K : PySem.W.Frag} {a b : Addr} {vs : List Value} {ns : List Int} {u : HO} (h : scrH K a vs ns b = some u) : b = a ∧ K.lookup a = none ∧ u = .frz { cls := .type "list", data := .seq vs.toArray } (.lst (ns.map V.int)) := by
  unfold scrH at h
  split at h
  · rename_i z
    exact ⟨z.1, z.2, (Option.some.inj h).symm⟩
  · cases h
open PySem.Spec PyProof.Rows in
theorem lawG {P : Program} {w : World} {K : PySem.W.Frag} {mg mb : Str → Option Value} {k : Nat} {fa a : Addr} {fd : FuncData} {x : Str} {C : Con} {s₁ : Shared} {vs : List Value} {ns : List Int}
    (KX : K.In s₁.heap) (hns : s₁.heap.Ns mainGlobals mg) (hb : s₁.heap.Ns builtinsNs mb) (hbb : ∀ x : Str, x ≠ "__name__" → mb x = bootBuiltins x) (hlim : s₁.heap.NoLimit) (hg : s₁.gens = #[])
    (ha : s₁.heap.get? a = some { cls := .type "list", data := .seq vs.toArray }) (hi : IntsAre vs ns) (hl : ns.length ≤ sizeLine) (hr : Room k callerA)
    (F : ∀ base : Heap, K.In base → base.Ns mainGlobals mg → FnG P w K mg base k fa fd [x] (spC K 1 C)) (hbind : ∀ (s : Shared) (u : Value), BindsTo s fd ⟨[u], []⟩ [(x, u)]) (hC : C [.lst (ns.map .int)] fun d => d = .bl true) :
    codeAny (model P w) callerA (.call (.ref fa) ⟨[.ref a], []⟩) (fun r s' => r = .ok (.ret (.bool true)) ∧ OldK s₁.heap s'.heap ∧ s'.os = s₁.os ∧ AllBare s'.gens) s₁ := by
  have rv := vals_ints hi
  have lv : vs.length = ns.length := hi.length
  have seen : ∀ {b : Addr} {o : Obj}, s₁.heap.get? b = some o → scrH K a vs ns b = none → (hidT s₁.heap (scrH K a vs ns)).get? b = some o := fun z n => hidT_get z n
  have dictNo : ∀ {b : Addr} {o : Obj} {es : Array DictEntry} {ep : Nat}, s₁.heap.get? b = some o → o.data = .dict es ep → scrH K a vs ns b = none := fun {b o es ep} z d => by
    match q : scrH K a vs ns b with
    | none => rfl
    | some u =>
      obtain ⟨r, _, _⟩ := scr_some q
      rw [r, ha] at z
      rw [← Option.some.inj z] at d
      cases d
  have names : ∀ {b : Addr} {m : Str → Option Value}, s₁.heap.Ns b m → (hidT s₁.heap (scrH K a vs ns)).Ns b m := fun {b m} ⟨o, es, ep, z, d, r⟩ => ⟨o, es, ep, seen z (dictNo z d), d, r⟩
  have Kb : K.In (hidT s₁.heap (scrH K a vs ns)) := fun b o z => seen (KX b o z) (by
    match q : scrH K a vs ns b with
    | none => rfl
    | some u =>
      obtain ⟨r, r2, _⟩ := scr_some q
      rw [r, r2] at z
      cases z)
  have Md : Mod K mg (hidT s₁.heap (scrH K a vs ns)) := ⟨Kb, names hns, ⟨mb, names hb, hbb⟩, let ⟨mc, h1, h2⟩ := hlim; ⟨mc, names h1, h2⟩⟩
  have ok : HOk P w (scrH K a vs ns) s₁.heap := fun b u z => by
    obtain ⟨r, _, r2⟩ := scr_some z
    rw [r, r2]
    exact ⟨ha, by rw [List.length_map]; exact hl, vs, _, rv, ha⟩
  have sq : SqL K (scrH K a vs ns) a (ns.map V.int) := by
    match q : K.lookup a with
    | some o =>
      have z := KX a o q
      rw [ha] at z
      have z2 := Option.some.inj z
      exact .inr ⟨o, vs.toArray, 0, q, by rw [← z2], by rw [← z2], by rw [← z2], by rw [List.size_toArray, lv]; exact hl, by simpa using rv⟩
    | none => exact .inl (.inr ⟨_, if_pos ⟨rfl, q⟩⟩)
  have allInt : ∀ ms : List Int, AtL K (scrH K a vs ns) (ms.map V.int) (ms.map D.int) := fun ms => by
    induction ms with
    | nil => exact .nil
    | cons m r ih => exact .cons (.int m) ih
  have hid0 : hide [] (scrH K a vs ns) = scrH K a vs ns := funext fun b => hide_out List.not_mem_nil
  have e0 : Env0 P w K mg (hidT s₁.heap (scrH K a vs ns)) callerA [] s₁ (scrH K a vs ns) := ⟨rfl, Md, fun b o z => of_hidT z, Nat.le_of_eq (hidT_size _ _), trivial, fun b z => (List.not_mem_nil z).elim, ok, .of_eq hg⟩
  refine codeAny_mono ((F _ Kb (names hns)).run callerA [] s₁ (scrH K a vs ns) ⟨[.ref a], []⟩ [.ref a] [.ref a] (fun v _ => v = .bl true) (fun _ _ _ => False) rfl hr e0 (hbind s₁ (.ref a)) (.cons rfl .nil)
    ⟨[], [.lst (ns.map .int)], fun d => d = .bl true, rfl, fun b z => (List.not_mem_nil z).elim, .cons (.lst (by rw [hid0]; exact sq) (by rw [hid0]; exact allInt ns)) .nil, hC, fun v H2 d _ at_ hd => by
      subst hd
      exact at_.inv_bl⟩) fun r s' out => ?_
  match r, out with
  | .error _, out => exact (show False from out).elim
  | .ok .next, out => exact False.elim out
  | .ok .brk, out => exact False.elim out
  | .ok .cont, out => exact False.elim out
  | .ok (.ret u), ⟨v, H', os, bare, un, okE, rE, qE⟩ =>
    subst qE
    cases (show u = Value.bool true from rE)
    refine ⟨rfl, OldK.of_keep fun b o z => ?_, os, bare⟩
    match q : scrH K a vs ns b with
    | none => exact un.keep b o z q (fun y => List.not_mem_nil y) (fun y => List.not_mem_nil y)
    | some u2 =>
      obtain ⟨r1, r2, r3⟩ := scr_some q
      rw [r3] at q
      have kept := un.frzs b _ _ q
      obtain ⟨y1, _⟩ := ok b _ q
      obtain ⟨y2, _⟩ := okE b _ kept
      rw [z] at y1
      rw [Option.some.inj y1]
      exact y2
open PySem.Spec PyProof.Rows in
/-- a law: F gives the written part, the function object, the promise over every base -/
theorem walkG {l : PySem.W.OpenLaw} {n k : Nat} {q : Program} {loose : List Str} {XP : (Str → Option Value) → Heap → Prop} {YP : World → Heap → Prop} {d : DefRec} {x : Str} {C : Con}
    (hn : l.most = some n) (hn2 : n ≤ sizeLine) (hdf : d.params.defaults = []) (hr : Room k callerA)
    (F : ∀ (w : World) (mg : Str → Option Value) (fa : Addr) (h : Heap), YP w h → h.Ns mainGlobals mg → mg d.name = some (.ref fa) →
      ∃ (K : PySem.W.Frag) (fd : FuncData), K.In h ∧ (∀ (s : Shared) (u : Value), BindsTo s fd ⟨[u], []⟩ [(x, u)]) ∧ ∀ base : Heap, K.In base → base.Ns mainGlobals mg → FnG l.prog w K mg base k fa fd [x] (spC K 1 C))
    (hC : ∀ ns : List Int, ns.length ≤ n → C [.lst (ns.map .int)] fun d => d = .bl true) :
    PySem.W.WalkO q loose XP YP l.row.toRowW d [] (fun f vs => PySem.call f vs) := by
  refine Att.attach_call hn hdf fun w s₀ s₁ mg mb fa o pm cd doc a vs ns G Y ho hd hcd hmg hobj hints hlen hg => ?_
  obtain ⟨K, fd, KX, hb, hF⟩ := F w mg fa _ Y G.T.g hmg
  exact lawG KX G.T.g G.T.b G.T.builtins G.T.nolimit hg hobj hints (Nat.le_trans hlen hn2) hr hF hb (hC ns hlen)
end VL

set_option Elab.async false
set_option linter.all false
set_option maxRecDepth 100000
set_option maxHeartbeats 4000000
namespace VL
open PySem L2

/-! ## repr of lists and tuples, where no repr is under way -/
theorem from_len : ∀ (ts : List Str) (k : Nat) (acc : Str), (textFrom k acc ts).length ≤ acc.length + (ts.map fun t => t.length + 2).sum
  | [], k, acc => by show acc.length ≤ _; simp
  | t :: r, k, acc => by
    have h := from_len r (k + 1) (acc ++ (if k > 0 then ", " else "" : String) ++ t)
    have e : (acc ++ (if k > 0 then ", " else "" : String) ++ t).length ≤ acc.length + 2 + t.length := by
      rw [strLen_append, strLen_append]
      have : (Str.ofString (if k > 0 then ", " else "")).length ≤ 2 := by split <;> decide +kernel
      omega
    show (textFrom (k + 1) _ r).length ≤ _
    rw [List.map_cons, List.sum_cons]
    omega
theorem piled_sum : ∀ ts : List Str, piled ts = (ts.map fun t => t.length + 2).sum
  | [] => rfl
  | t :: r => by
    rw [piled_cons, piled_sum r, List.map_cons, List.sum_cons]
mutual
/-- a bound of the text of data without texts -/
def lenB : PyData → Nat
  | .list xs => lenBs xs + 3
  | .tuple xs => lenBs xs + 3
  | .str x => (reprText x).length
  | .dict _ => 0
  | .none => 1921 | .bool _ => 1921 | .int _ => 1921
def lenBs : List PyData → Nat
  | [] => 0
  | x :: xs => lenB x + 2 + lenBs xs
end
mutual
theorem shown_le : ∀ d : PyData, d.showable = true → d.hasDict = false → d.shown.length ≤ lenB d
  | .none, _, _ => by simp only [PyData.shown, lenB]; decide +kernel
  | .bool b, _, _ => by
    simp only [PyData.shown, lenB]
    cases b <;> decide +kernel
  | .int i, h, _ => by
    simp only [PyData.shown, lenB]
    have h2 : i.natAbs.log2 < 1920 := of_decide_eq_true (by simpa [PyData.showable] using h)
    exact PyProof.Rows.int_text_len_1921 h2
  | .str x, _, _ => by simp only [PyData.shown, lenB]; exact Nat.le_refl _
  | .list xs, h, g => by
    have := shown_les xs (by simpa [PyData.showable] using h) (by simpa [PyData.hasDict] using g)
    simp only [PyData.shown, lenB]
    unfold listText
    rw [strLen_append]
    have h2 := from_len (PyData.shownAll xs) 0 "["
    have e1 : (("[" : Str)).length = 1 := rfl
    have e2 : (("]" : Str)).length = 1 := rfl
    omega
  | .tuple xs, h, g => by
    have := shown_les xs (by simpa [PyData.showable] using h) (by simpa [PyData.hasDict] using g)
    simp only [PyData.shown, lenB]
    have h2 := fmt_text (PyData.shownAll xs)
    rw [piled_sum] at h2
    omega
  | .dict kvs, _, g => by simp [PyData.hasDict] at g
theorem shown_les : ∀ ds : List PyData, PyData.showableAll ds = true → PyData.hasDictAll ds = false → ((PyData.shownAll ds).map fun t => t.length + 2).sum ≤ lenBs ds
  | [], _, _ => Nat.zero_le _
  | d :: ds, h, g => by
    simp only [PyData.showableAll, Bool.and_eq_true] at h
    simp only [PyData.hasDictAll, Bool.or_eq_false_iff] at g
    have h1 := shown_le d h.1 g.1
    have h2 := shown_les ds h.2 g.2
    simp only [PyData.shownAll, List.map_cons, List.sum_cons, lenBs]
    omega
end
/-- what repr asks -/
structure ReprOk (d : PyData) : Prop where
  s : d.showable = true
  n : d.hasDict = false
  dp : d.depth ≤ 60
  l : lenB d ≤ 16777216
def rRepr (K : PySem.W.Frag) : List V → Hp → VK → Prop := fun xs H Q => ∃ a d, xs = [V.ref a] ∧ Dp K H (.ref a) d ∧ ReprOk d ∧ Q (.str d.shown) H
theorem call_reprD {X : Cx} {n : Nat} (gd : X.A.guards = some []) (hr : Room n X.A) : CallR X (.builtin "repr") (rRepr X.K) := by
  intro pins s σ H xs us Q I r h
  obtain ⟨a, d, rfl, hd, ok, q⟩ := h
  obtain ⟨u, rfl, ru⟩ := r.one
  cases (show u = Value.ref a from ru)
  obtain ⟨as, rd⟩ := Dp.reads I d _ _ hd rfl
  have un := hr.units
  have dp := ok.dp
  exact repr_of_reads' rd ok.s (fun z => by rw [ok.n] at z; cases z) gd (by omega) (fun _ _ z => z) (fun h' t tk hk => ⟨.str d.shown, H, I.kept (t' := tk) hk, ⟨t, rfl⟩, q⟩) (by rw [sizeLine_eq]; exact Nat.le_trans (shown_le d ok.s ok.n) ok.l)
section
variable {X : Cx} {ρ : Rho} {e : Expr} {pos p : Pos} {k : D → Prop}
def isSq : D → Bool
  | .lst _ => true
  | .tup _ => true
  | _ => false
theorem xe_repr {n : Nat} (hm : X.mg "repr" = none) (gd : X.A.guards = some []) (hr : Room n X.A) (h : XE X e ρ fun x => ∃ d, pyD x = some d ∧ isSq x = true ∧ ReprOk d ∧ k (.str d.shown)) (hg : Gl X "repr" := by rfl)
    (he : starEach (e :: []) X.env = (false, eval e X.env) :: starEach [] X.env := by rfl) : XE X (.Call (.Name "repr" p) [e] [] pos) ρ k :=
  impE (pe_callB (call_reprD gd hr) hg hm (by decide +kernel) (pa_cons anyE pa_nil he) (by decide) (by decide) he rfl) fun σ H Q ⟨S, E, q⟩ => useE h E fun v H1 x e1 a1 ⟨d, hd, hs, ok, hk⟩ => by
    have dp := dp_of a1 hd
    cases a1 with
    | lst _ _ => exact ⟨_, d, rfl, dp, ok, q _ _ _ e1 (.str _) hk⟩
    | tup _ _ => exact ⟨_, d, rfl, dp, ok, q _ _ _ e1 (.str _) hk⟩
    | _ => cases hs
end
end VL

set_option Elab.async false
set_option linter.all false
set_option maxRecDepth 100000
set_option maxHeartbeats 4000000
namespace VL
open PySem L2

/-! ## Constants of the module: ints, and tuples of such, read in the written part -/
def isTupO (o : Obj) : Option (Array Value) := match o with
  | ⟨.type c, _, .seq its _, _⟩ => if c = "tuple" then some its else none
  | _ => none
theorem isTupO_ok {o : Obj} {its : Array Value} (h : isTupO o = some its) : o.cls = .type "tuple" ∧ ∃ n, o.data = .seq its n := by
  unfold isTupO at h
  split at h
  · split at h
    · rename_i c
      cases h
      exact ⟨by rw [c], _, rfl⟩
    · cases h
  · cases h
mutual
def atB (K : PySem.W.Frag) : D → Value → Bool
  | .int i, u => match u with
    | .int j _ => decide (i = j)
    | _ => false
  | .tup ds, u => match u with
    | .ref a => match (K.lookup a).bind isTupO with
      | some its => decide (its.size ≤ 1000) && atBs K ds its.toList
      | none => false
    | _ => false
  | _, _ => false
def atBs (K : PySem.W.Frag) : List D → List Value → Bool
  | [], us => us.isEmpty
  | d :: ds, us => match us with
    | u :: us => atB K d u && atBs K ds us
    | [] => false
end
mutual
theorem atB_ok {K : PySem.W.Frag} : ∀ {d : D} {u : Value}, atB K d u = true → ∃ v, RelV v u ∧ ∀ H, At K H v d
  | .int i, u, h => by
    unfold atB at h
    split at h
    · rename_i j t
      have e := of_decide_eq_true h
      subst e
      exact ⟨.int i, ⟨t, rfl⟩, fun H => .int i⟩
    · cases h
  | .tup ds, u, h => by
    unfold atB at h
    split at h
    · rename_i a
      cases q : (K.lookup a).bind isTupO with
      | none =>
        rw [q] at h
        cases h
      | some its =>
        rw [q] at h
        simp only [Bool.and_eq_true, decide_eq_true_eq] at h
        obtain ⟨o, q1, q2⟩ := Option.bind_eq_some_iff.mp q
        obtain ⟨c1, n, c2⟩ := isTupO_ok q2
        obtain ⟨vs, r, at_⟩ := atBs_ok h.2
        exact ⟨.ref a, rfl, fun H => .tup (.inr ⟨o, its, n, q1, c1, c2, Nat.le_trans h.1 (by decide), r⟩) (at_ H)⟩
    · cases h
  | .non, u, h => by unfold atB at h; cases h
  | .bl _, u, h => by unfold atB at h; cases h
  | .str _, u, h => by unfold atB at h; cases h
  | .lst _, u, h => by unfold atB at h; cases h
  | .obj _ _, u, h => by unfold atB at h; cases h
  | .tok, u, h => by unfold atB at h; cases h
  | .ptr _, u, h => by unfold atB at h; cases h
theorem atBs_ok {K : PySem.W.Frag} : ∀ {ds : List D} {us : List Value}, atBs K ds us = true → ∃ vs, Vals vs us ∧ ∀ H, AtL K H vs ds
  | [], us, h => by
    unfold atBs at h
    cases us with
    | nil => exact ⟨[], .nil, fun H => .nil⟩
    | cons u us => cases h
  | d :: ds, us, h => by
    unfold atBs at h
    cases us with
    | nil => cases h
    | cons u us =>
      have h' : (atB K d u && atBs K ds us) = true := h
      rw [Bool.and_eq_true] at h'
      obtain ⟨v, r1, a1⟩ := atB_ok h'.1
      obtain ⟨vs, r2, a2⟩ := atBs_ok h'.2
      exact ⟨v :: vs, .cons r1 r2, fun H => .cons (a1 H) (a2 H)⟩
end
end VL

set_option Elab.async false
set_option linter.all false
set_option maxRecDepth 100000
set_option maxHeartbeats 0
namespace G
open PySem L2 VL VM
/-! ## the head: what stands behind the top -/
def prG (K : PySem.W.Frag) (C : Addr) (f : Str) : Addr := match PySem.W.recIn K (He.ma K C f) "property" with
  | some (.ref g :: _) => g
  | _ => 0
def d_shared : He5.DefA := ⟨fun K => He.ga K "shared", "shared", "shared", defArgs (top 22), defBody (top 22), defScope (top 22), [], []⟩
def d_is_integer : He5.DefA := ⟨fun K => He.ga K "is_integer", "is_integer", "is_integer", defArgs (top 17), defBody (top 17), defScope (top 17), [], []⟩
def d_is_fraction : He5.DefA := ⟨fun K => He.ga K "is_fraction", "is_fraction", "is_fraction", defArgs (top 20), defBody (top 20), defScope (top 20), [], []⟩
def d_is_point : He5.DefA := ⟨fun K => He.ga K "is_point", "is_point", "is_point", defArgs (top 21), defBody (top 21), defScope (top 21), [], []⟩
def d_free_part : He5.DefA := ⟨fun K => He.ga K "free_part", "free_part", "free_part", defArgs (top 23), defBody (top 23), defScope (top 23), [], []⟩
def d_fraction_text : He5.DefA := ⟨fun K => He.ga K "fraction_text", "fraction_text", "fraction_text", defArgs (top 24), defBody (top 24), defScope (top 24), [], []⟩
def d_made : He5.DefA := ⟨fun K => He.ga K "made", "made", "made", defArgs (top 27), defBody (top 27), defScope (top 27), [], []⟩
def d_number_of : He5.DefA := ⟨fun K => He.ga K "number_of", "number_of", "number_of", defArgs (top 28), defBody (top 28), defScope (top 28), [], []⟩
def d_added : He5.DefA := ⟨fun K => He.ga K "added", "added", "added", defArgs (top 29), defBody (top 29), defScope (top 29), [], []⟩
def d_times : He5.DefA := ⟨fun K => He.ga K "times", "times", "times", defArgs (top 30), defBody (top 30), defScope (top 30), [], []⟩
def d_minus : He5.DefA := ⟨fun K => He.ga K "minus", "minus", "minus", defArgs (top 31), defBody (top 31), defScope (top 31), [], []⟩
def d_power : He5.DefA := ⟨fun K => He.ga K "power", "power", "power", defArgs (top 33), defBody (top 33), defScope (top 33), [], []⟩
def d_scale_of : He5.DefA := ⟨fun K => He.ga K "scale_of", "scale_of", "scale_of", defArgs (top 32), defBody (top 32), defScope (top 32), [], []⟩
def d_fits : He5.DefA := ⟨fun K => He.ga K "fits", "fits", "fits", defArgs (top 34), defBody (top 34), defScope (top 34), [], []⟩
def d_scale : He5.DefA := ⟨fun K => He.ga K "scale", "scale", "scale", defArgs (top 52), defBody (top 52), defScope (top 52), [], []⟩
def d_then_move : He5.DefA := ⟨fun K => He.ga K "then_move", "then_move", "then_move", defArgs (top 53), defBody (top 53), defScope (top 53), [], []⟩
def d_undone_move : He5.DefA := ⟨fun K => He.ga K "undone_move", "undone_move", "undone_move", defArgs (top 54), defBody (top 54), defScope (top 54), [], []⟩
def d_is_factor : He5.DefA := ⟨fun K => He.ga K "is_factor", "is_factor", "is_factor", defArgs (top 37), defBody (top 37), defScope (top 37), [], []⟩
def d_is_between : He5.DefA := ⟨fun K => He.ga K "is_between", "is_between", "is_between", defArgs (top 38), defBody (top 38), defScope (top 38), [], []⟩
def d_check_factor : He5.DefA := ⟨fun K => He.ga K "check_factor", "check_factor", "check_factor", defArgs (top 44), defBody (top 44), defScope (top 44), [], []⟩
def d_move_of : He5.DefA := ⟨fun K => He.ga K "move_of", "move_of", "move_of", defArgs (top 40), defBody (top 40), defScope (top 40), [], []⟩
def d_written_integer : He5.DefA := ⟨fun K => He.ga K "written_integer", "written_integer", "written_integer", defArgs (top 19), defBody (top 19), defScope (top 19), [], []⟩
def d_written_fraction : He5.DefA := ⟨fun K => He.ga K "written_fraction", "written_fraction", "written_fraction", defArgs (top 25), defBody (top 25), defScope (top 25), [], []⟩
def d_text_view : He5.DefA := ⟨fun K => He.ga K "text_view", "text_view", "text_view", defArgs (top 41), defBody (top 41), defScope (top 41), [], []⟩
def d_shows_alike : He5.DefA := ⟨fun K => He.ga K "shows_alike", "shows_alike", "shows_alike", defArgs (top 92), defBody (top 92), defScope (top 92), [], []⟩
def d_shows_root : He5.DefA := ⟨fun K => He.ga K "shows_root", "shows_root", "shows_root", defArgs (top 93), defBody (top 93), defScope (top 93), [], []⟩
def d_shows_of_view : He5.DefA := ⟨fun K => He.ga K "shows_of_view", "shows_of_view", "shows_of_view", defArgs (top 94), defBody (top 94), defScope (top 94), [], []⟩
def d_accepts : He5.DefA := ⟨fun K => He.ga K "accepts", "accepts", "accepts", defArgs (top 96), defBody (top 96), defScope (top 96), [], []⟩
def d__law_draw : He5.DefA := ⟨fun K => He.ga K "_law_draw", "_law_draw", "_law_draw", defArgs (top 99), defBody (top 99), defScope (top 99), [], []⟩
def d__law_well : He5.DefA := ⟨fun K => He.ga K "_law_well", "_law_well", "_law_well", defArgs (top 98), defBody (top 98), defScope (top 98), [], []⟩
def d__law_pick : He5.DefA := ⟨fun K => He.ga K "_law_pick", "_law_pick", "_law_pick", defArgs (top 100), defBody (top 100), defScope (top 100), [], []⟩
def d__law_shared : He5.DefA := ⟨fun K => He.ga K "_law_shared", "_law_shared", "_law_shared", defArgs (top 101), defBody (top 101), defScope (top 101), [], []⟩
def d__law_num : He5.DefA := ⟨fun K => He.ga K "_law_num", "_law_num", "_law_num", defArgs (top 102), defBody (top 102), defScope (top 102), [], []⟩
def d__law_plus : He5.DefA := ⟨fun K => He.ga K "_law_plus", "_law_plus", "_law_plus", defArgs (top 103), defBody (top 103), defScope (top 103), [], []⟩
def d__law_mul : He5.DefA := ⟨fun K => He.ga K "_law_mul", "_law_mul", "_law_mul", defArgs (top 104), defBody (top 104), defScope (top 104), [], []⟩
def d__law_less : He5.DefA := ⟨fun K => He.ga K "_law_less", "_law_less", "_law_less", defArgs (top 105), defBody (top 105), defScope (top 105), [], []⟩
def d__law_power : He5.DefA := ⟨fun K => He.ga K "_law_power", "_law_power", "_law_power", defArgs (top 106), defBody (top 106), defScope (top 106), [], []⟩
def d__law_scale : He5.DefA := ⟨fun K => He.ga K "_law_scale", "_law_scale", "_law_scale", defArgs (top 107), defBody (top 107), defScope (top 107), [], []⟩
def d__law_point : He5.DefA := ⟨fun K => He.ga K "_law_point", "_law_point", "_law_point", defArgs (top 108), defBody (top 108), defScope (top 108), [], []⟩
def d__law_behind : He5.DefA := ⟨fun K => He.ga K "_law_behind", "_law_behind", "_law_behind", defArgs (top 109), defBody (top 109), defScope (top 109), [], []⟩
def d__law_back : He5.DefA := ⟨fun K => He.ga K "_law_back", "_law_back", "_law_back", defArgs (top 110), defBody (top 110), defScope (top 110), [], []⟩
def d__law_times : He5.DefA := ⟨fun K => He.ga K "_law_times", "_law_times", "_law_times", defArgs (top 111), defBody (top 111), defScope (top 111), [], []⟩
def d__law_word : He5.DefA := ⟨fun K => He.ga K "_law_word", "_law_word", "_law_word", defArgs (top 112), defBody (top 112), defScope (top 112), [], []⟩
def d__law_text : He5.DefA := ⟨fun K => He.ga K "_law_text", "_law_text", "_law_text", defArgs (top 113), defBody (top 113), defScope (top 113), [], []⟩
def d__law_spot : He5.DefA := ⟨fun K => He.ga K "_law_spot", "_law_spot", "_law_spot", defArgs (top 114), defBody (top 114), defScope (top 114), [], []⟩
def d__law_move : He5.DefA := ⟨fun K => He.ga K "_law_move", "_law_move", "_law_move", defArgs (top 115), defBody (top 115), defScope (top 115), [], []⟩
def d__law_text_near : He5.DefA := ⟨fun K => He.ga K "_law_text_near", "_law_text_near", "_law_text_near", defArgs (top 116), defBody (top 116), defScope (top 116), [], []⟩
def d__law_both : He5.DefA := ⟨fun K => He.ga K "_law_both", "_law_both", "_law_both", defArgs (top 117), defBody (top 117), defScope (top 117), [], []⟩
def d__law_right : He5.DefA := ⟨fun K => He.ga K "_law_right", "_law_right", "_law_right", defArgs (top 118), defBody (top 118), defScope (top 118), [], []⟩
def d_often_move : He5.DefA := ⟨fun K => He.ga K "often_move", "often_move", "often_move", defArgs (top 55), defBody (top 55), defScope (top 55), [], []⟩
def d_View_zoom : He5.DefA := ⟨fun K => prG K (He.ga K "View") "zoom", "zoom", "View.zoom", defArgs (meth 39 4), defBody (meth 39 4), defScope (meth 39 4), [], []⟩
def d_View___init__ : He5.DefA := ⟨fun K => He.ma K (He.ga K "View") "__init__", "__init__", "View.__init__", defArgs (meth 39 1), defBody (meth 39 1), defScope (meth 39 1), [], []⟩
def d_View_factor : He5.DefA := ⟨fun K => prG K (He.ga K "View") "factor", "factor", "View.factor", defArgs (meth 39 3), defBody (meth 39 3), defScope (meth 39 3), [], []⟩
def d_View_text : He5.DefA := ⟨fun K => prG K (He.ga K "View") "text", "text", "View.text", defArgs (meth 39 7), defBody (meth 39 7), defScope (meth 39 7), [], []⟩
def d_View___eq__ : He5.DefA := ⟨fun K => He.ma K (He.ga K "View") "__eq__", "__eq__", "View.__eq__", defArgs (meth 39 9), defBody (meth 39 9), defScope (meth 39 9), [], []⟩
def d_View___str__ : He5.DefA := ⟨fun K => He.ma K (He.ga K "View") "__str__", "__str__", "View.__str__", defArgs (meth 39 10), defBody (meth 39 10), defScope (meth 39 10), [], []⟩
def d_law : He5.DefA := ⟨fun K => He.ga K "law", "law", "law", defArgs (top 119), defBody (top 119), defScope (top 119), [], []⟩
def fn0 : List He5.DefA := [d_shared, d_is_integer, d_is_fraction, d_is_point, d_free_part, d_fraction_text, d_made, d_number_of, d_added, d_times, d_minus, d_power, d_scale_of, d_fits, d_scale, d_then_move, d_undone_move, d_is_factor, d_is_between, d_check_factor, d_move_of, d_written_integer, d_written_fraction, d_text_view, d_shows_alike, d_shows_root, d_shows_of_view, d_accepts, d__law_draw, d__law_well]
def fn1 : List He5.DefA := [d__law_pick, d__law_shared, d__law_num, d__law_plus, d__law_mul, d__law_less, d__law_power, d__law_scale, d__law_point, d__law_behind, d__law_back, d__law_times, d__law_word, d__law_text, d__law_spot, d__law_move, d__law_text_near, d__law_both, d__law_right, d_often_move, d_View_zoom, d_View___init__, d_View_factor, d_View_text, d_View___eq__, d_View___str__, d_law]
def fn : List He5.DefA := fn0 ++ fn1
def fa0 : List He.Fa := [.glo "shared", .glo "is_integer", .glo "is_fraction", .glo "is_point", .glo "free_part", .glo "fraction_text", .glo "made", .glo "number_of", .glo "added", .glo "times", .glo "minus", .glo "power", .glo "scale_of", .glo "fits", .glo "scale", .glo "then_move", .glo "undone_move", .glo "is_factor", .glo "is_between", .glo "check_factor", .glo "move_of", .glo "written_integer", .glo "written_fraction", .glo "text_view", .glo "shows_alike", .glo "shows_root", .glo "shows_of_view", .glo "accepts", .glo "_law_draw", .glo "_law_well"]
def fa1 : List He.Fa := [.glo "_law_pick", .glo "_law_shared", .glo "_law_num", .glo "_law_plus", .glo "_law_mul", .glo "_law_less", .glo "_law_power", .glo "_law_scale", .glo "_law_point", .glo "_law_behind", .glo "_law_back", .glo "_law_times", .glo "_law_word", .glo "_law_text", .glo "_law_spot", .glo "_law_move", .glo "_law_text_near", .glo "_law_both", .glo "_law_right", .glo "often_move", .glo "law", .glo "View", .glo "PLAIN", .free "repr", .free "isinstance", .free "int", .free "bool", .free "tuple", .free "str", .free "len"]
def fa2 : List He.Fa := [.free "abs", .free "all", .free "range", .free "max", .free "min", .free "divmod", .free "list", .glo "LENGTHS", .str "DIGITS" "0123456789", .int "MOST_ZOOM" 400, .int "MOST_FACTOR" 10, .mkr "View"]
def fa : List He.Fa := fa0 ++ fa1 ++ fa2
def loose0 : List PySem.Str := ["_wall", "__name__", "WrongValue", "InvalidText", "InvalidNumber", "InvalidPoint", "InvalidViews", "MOST_FACTOR", "MOST_ZOOM", "MOST_VIEWS", "MOST_STEP", "MOST_PLACE", "NEAR_ZOOM", "NEAR_PLACE", "MOST_DEPTH", "DIGITS", "is_integer", "is_count", "written_integer", "is_fraction", "is_point", "shared", "free_part", "fraction_text", "written_fraction", "made", "number_of", "added", "times", "minus"]
def loose1 : List PySem.Str := ["scale_of", "power", "fits", "is_zero", "is_factor", "is_between", "View", "move_of", "text_view", "is_within", "is_near", "check_factor", "wrong_member", "Lot", "lot_lines", "text_lot", "PLAIN", "scale", "then_move", "undone_move", "often_move", "Row", "multiplied", "summed", "inverse", "rest_in", "whole_step", "fitting_step", "step_by", "lead_of"]
def loose2 : List PySem.Str := ["cut", "is_in", "less", "Made", "Shape", "mode_of", "base_powers", "rest_of", "does_make", "part_move", "plan_move", "LENGTHS", "shows_made", "is_free", "are_whole_rows", "are_fitting_rows", "are_rows", "is_reduced", "are_numbers", "is_closed", "told_shape", "shows_missed", "shows_all", "shows_same", "shows_alike", "shows_root", "shows_of_view", "shows_of_lot", "accepts", "_law_well"]
def loose3 : List PySem.Str := ["_law_draw", "_law_pick", "_law_shared", "_law_num", "_law_plus", "_law_mul", "_law_less", "_law_power", "_law_scale", "_law_point", "_law_behind", "_law_back", "_law_times", "_law_word", "_law_text", "_law_spot", "_law_move", "_law_text_near", "_law_both", "_law_right"]
def loose : List PySem.Str := loose0 ++ loose1 ++ loose2 ++ loose3
theorem ba {a b : Bool} (h : (a && b) = true) : a = true ∧ b = true := Bool.and_eq_true_iff.mp h
def sclsB (K : PySem.W.Frag) (C : Addr) : Bool := PySem.W.plainGet K C Str.empty && (PySem.W.isClsIn K C && (PySem.W.plainOver K C && He.eqO (PySem.W.findIn K (.ref C) "__setattr__") (some (some (.builtin "object.__setattr__")))))
theorem sclsB_ok {K : PySem.W.Frag} {C : Addr} (h : sclsB K C = true) : SlX.SCls K C := by
  obtain ⟨h1, h⟩ := ba h
  obtain ⟨h2, h⟩ := ba h
  obtain ⟨h3, h4⟩ := ba h
  exact ⟨h1, h2, h3, He.eqO_ok h4⟩
def sisiB (K : PySem.W.Frag) (C : Addr) : Bool := He.eqO (PySem.W.findIn K (.ref C) "__class__") (some (some (.builtin "object.__class__"))) && (He.eqO (PySem.W.specialIn K (.builtin "object.__class__") "__get__") (some (some (.builtin "getset_descriptor.__get__"))) &&
  (decide (PySem.W.takesIn K (.builtin "object.__class__") = some true) && decide (PySem.W.mroIn K C (.type "object") = some true)))
theorem sisiB_ok {K : PySem.W.Frag} {C : Addr} (h : sisiB K C = true) : SlX.SIsi K C := by
  obtain ⟨h1, h⟩ := ba h
  obtain ⟨h2, h⟩ := ba h
  obtain ⟨h3, h4⟩ := ba h
  exact ⟨He.eqO_ok h1, He.eqO_ok h2, of_decide_eq_true h3, of_decide_eq_true h4⟩
def slotB (K : PySem.W.Frag) (C : Addr) (f : Str) (i : Nat) : Bool := He.eqO (PySem.W.findIn K (.ref C) f) (some (some (.ref (He.ma K C f)))) && (He.eqO (PySem.W.specialIn K (.ref (He.ma K C f)) "__get__") (some (some (.builtin "member_descriptor.__get__"))) &&
  (decide (PySem.W.takesIn K (.ref (He.ma K C f)) = some true) && (decide (PySem.W.typeIn K (.ref (He.ma K C f)) = some (.type "member_descriptor")) && decide (PySem.W.slotIn K (He.ma K C f) C = some i))))
theorem slotB_ok {K : PySem.W.Frag} {C : Addr} {f : Str} {i : Nat} (h : slotB K C f i = true) (hi : i < 1000) : ∃ p, SlX.Slot1 K C f p i := by
  obtain ⟨h1, h⟩ := ba h
  obtain ⟨h2, h⟩ := ba h
  obtain ⟨h3, h⟩ := ba h
  obtain ⟨h4, h5⟩ := ba h
  exact ⟨_, He.eqO_ok h1, He.eqO_ok h2, of_decide_eq_true h3, of_decide_eq_true h4, of_decide_eq_true h5, hi⟩
def propB (K : PySem.W.Frag) (C : Addr) (f : Str) : Bool := He.eqO (PySem.W.findIn K (.ref C) f) (some (some (.ref (He.ma K C f)))) && (He.eqO (PySem.W.specialIn K (.ref (He.ma K C f)) "__get__") (some (some (.builtin "property.__get__"))) &&
  (decide (PySem.W.takesIn K (.ref (He.ma K C f)) = some true) && (match PySem.W.recIn K (He.ma K C f) "property" with
    | some (.ref _ :: _) => true
    | _ => false)))
theorem propB_ok {K : PySem.W.Frag} {C : Addr} {f : Str} (h : propB K C f = true) : PropAt K C f (He.ma K C f) (prG K C f) := by
  obtain ⟨h1, h⟩ := ba h
  obtain ⟨h2, h⟩ := ba h
  obtain ⟨h3, h4⟩ := ba h
  refine ⟨He.eqO_ok h1, He.eqO_ok h2, of_decide_eq_true h3, ?_⟩
  unfold prG
  split at h4
  · rename_i g r e
    exact ⟨r, by rw [e]⟩
  · cases h4
def eqB (K : PySem.W.Frag) (C : Addr) : Bool := He.eqO (PySem.W.findIn K (.ref C) "__eq__") (some (some (.ref (He.ma K C "__eq__")))) && (PySem.W.isFn K (.ref (He.ma K C "__eq__")) && (He.eqO (PySem.W.findIn K (.ref C) "__ne__") (some (some (.builtin "object.__ne__"))) &&
  (PySem.W.notFirst K C (.ref C) && decide (PySem.W.mroIn K C (.type "object") = some true))))
theorem eqB_ok {K : PySem.W.Frag} {C : Addr} (h : eqB K C = true) : EqAt K C (He.ma K C "__eq__") := by
  obtain ⟨h1, h⟩ := ba h
  obtain ⟨h2, h⟩ := ba h
  obtain ⟨h3, h⟩ := ba h
  obtain ⟨h4, h5⟩ := ba h
  exact ⟨He.eqO_ok h1, h2, He.eqO_ok h3, h4, of_decide_eq_true h5⟩
def strB (K : PySem.W.Frag) (C : Addr) : Bool := He.eqO (PySem.W.findIn K (.ref C) "__str__") (some (some (.ref (He.ma K C "__str__")))) && PySem.W.isFn K (.ref (He.ma K C "__str__"))
def exB0 (K : PySem.W.Frag) : Bool := sclsB K (He.ga K "View") && (sisiB K (He.ga K "View") && (slotB K (He.ga K "View") "own_factor" 0 && (slotB K (He.ga K "View") "own_zoom" 3 && (slotB K (He.ga K "View") "own_turn" 2 && (slotB K (He.ga K "View") "own_middle" 1 &&
  (decide (PySem.W.kitOne K (.ref (He.ga K "View")) (.ref (He.ga K "View")) = some true) && (propB K (He.ga K "View") "factor" && (propB K (He.ga K "View") "text" && (eqB K (He.ga K "View") && strB K (He.ga K "View"))))))))))
def exB (K : PySem.W.Frag) : Bool := exB0 K && (propB K (He.ga K "View") "zoom" && (atB K (.tup [.int 0, .int 0, .tup [.int 0, .int 0, .int 1]]) (.ref (He.ga K "PLAIN")) && (He.valsB K (He.ga K "LENGTHS") [("alike", .int 3), ("root", .int 3)])))
/-! the Hook -/
theorem says_app {fa : List He.Fa} {l1 l2 : List He5.DefA} {K : PySem.W.Frag} (h : He5.SaysA fa l1 K) (g : He5.SaysA [] l2 K) : He5.SaysA fa (l1 ++ l2) K := by
  have h1 := congrArg (fun z : He.AlD => z.1) h
  have h2 := congrArg (fun z : He.AlD => z.2) h
  have g1 := congrArg (fun z : He.AlD => z.1) g
  have g2 := congrArg (fun z : He.AlD => z.2) g
  simp only [He5.obsA, He5.valA, Bool.and_eq_true, List.all_nil, true_and] at h1 h2 g1 g2
  unfold He5.SaysA He5.obsA He5.valA
  rw [List.all_append, List.map_append, List.map_append, h1.1, h1.2, g1, h2, g2]
  rfl
theorem two {S A B β : Type} {x : Option S} {a : S → Bool} {b : S → β} {o1 : S → A} {o2 : S → B} {t : Bool} {g : β} {v1 : A} {v2 : B} (h1 : x.map (fun s => (a s, b s, o1 s)) = some (t, g, v1)) (h2 : x.map (fun s => (a s, b s, o2 s)) = some (t, g, v2)) : x.map (fun s => (a s, b s, (o1 s, o2 s))) = some (t, g, (v1, v2)) := by
  cases x with
  | none => cases h1
  | some s =>
    simp only [Option.map_some, Option.some.injEq, Prod.mk.injEq] at h1 h2 ⊢
    exact ⟨h1.1, h1.2.1, h1.2.2, h2.2.2⟩
def hk (α : Type) (v : α) : PySem.W.Hook where
  α := α
  obs := fun _ => v
  val := fun _ => v
  says := fun _ _ => True
  of := fun _ _ _ => trivial
  keeps := fun _ _ _ _ _ => trivial
abbrev R : PySem.W.OpenRow := PySem.W.OpenLaw.row PySem.Challenge.rw_viewlots_k45_views_judged
/-! which objects are looked at: what the module names, what these name, and what View names, five times -/
def frA (g : Addr → Option Obj) (a : Addr) : List Addr := match g a with
  | some o => He.refsD o
  | none => []
def stA (g : Addr → Option Obj) (as : List Addr) : List Addr := ((as.flatMap (frA g)).filter fun a => !(a == mainGlobals || a == builtinsNs)).eraseDups
def asX (g : Addr → Option Obj) : Nat → List Addr → List Addr
  | 0, _ => []
  | n + 1, v => v ++ asX g n (stA g v)
def asV (g : Addr → Option Obj) (n : Nat) : List Addr := mainGlobals :: cStatics :: (asX g 2 (frA g mainGlobals) ++ asX g n [He.ga (He.frG g [mainGlobals]) "View"])
def KT (s : PySem.W.SharedT) : PySem.W.Frag := He.frG (HandSHeadRun.getT s) (asV (HandSHeadRun.getT s) 7)
def tabK : List Str := ["makes", "misses", "same", "alike", "root"]
abbrev AlX : Type := He.AlD × (Bool × Option (List (Option (Str × Int))))
def obsK (K : PySem.W.Frag) : AlX := (He5.obsA fa fn K, exB K, He.dicW K (He.ga K "LENGTHS"))
def valK (w : World) : AlX := (He5.valA fn, true, some (He.keysIn w.params tabK))
theorem two3 {S A B D : Type} {x : Option S} {a : S → A} {b : S → B} {o : S → D} {t : A} {g : B} {v : D} (h1 : x.map (fun s => (a s, b s)) = some (t, g)) (h2 : x.map o = some v) : x.map (fun s => (a s, b s, o s)) = some (t, g, v) := by
  cases x with
  | none => cases h1
  | some s =>
    simp only [Option.map_some, Option.some.injEq, Prod.mk.injEq] at h1 h2 ⊢
    exact ⟨h1.1, h1.2, h2⟩
section
open PySem PySem.W HandSHeadRun
theorem run_af (w : World) (os : OsState) : (endF (stepQ (denQ tabQ) R.prog (w.withFollow "special-get-raises" false)) 60000 R.prog (w.withFollow "special-get-raises" false) os).map (fun s => (looksF R.prog (boot_heap (w.withFollow "special-get-raises" false).params) s.abs, seenQ (PySem.W.view R.prog [119]) loose (importedModules R.prog.main.body) (fun s => xlAt (PySem.W.view R.prog [119]) [] s && recOk R.toRowW.records s) s.abs)) = some (true, openGood (PySem.W.view R.prog [119]) loose) := by
  kernel_rfl
theorem run_bf (w : World) (os : OsState) : (endF (stepQ (denQ tabQ) R.prog (w.withFollow "special-get-raises" false)) 60000 R.prog (w.withFollow "special-get-raises" false) os).map (fun s => obsK (KT s)) = some (valK (w.withFollow "special-get-raises" false)) := by
  kernel_rfl
theorem run0f (w : World) : HandSHeadRun.RunEq R (PySem.W.view R.prog [119]) (hk AlX (valK (w.withFollow "special-get-raises" false))) (fun s => obsK (KT s)) 60000 loose (w.withFollow "special-get-raises" false) := fun os => two3 (run_af w os) (run_bf w os)
theorem run_at (w : World) (os : OsState) : (endF (stepQ (denQ tabQ) R.prog (w.withFollow "special-get-raises" true)) 60000 R.prog (w.withFollow "special-get-raises" true) os).map (fun s => (looksF R.prog (boot_heap (w.withFollow "special-get-raises" true).params) s.abs, seenQ (PySem.W.view R.prog [119]) loose (importedModules R.prog.main.body) (fun s => xlAt (PySem.W.view R.prog [119]) [] s && recOk R.toRowW.records s) s.abs)) = some (true, openGood (PySem.W.view R.prog [119]) loose) := by
  kernel_rfl
theorem run_bt (w : World) (os : OsState) : (endF (stepQ (denQ tabQ) R.prog (w.withFollow "special-get-raises" true)) 60000 R.prog (w.withFollow "special-get-raises" true) os).map (fun s => obsK (KT s)) = some (valK (w.withFollow "special-get-raises" true)) := by
  kernel_rfl
theorem run0t (w : World) : HandSHeadRun.RunEq R (PySem.W.view R.prog [119]) (hk AlX (valK (w.withFollow "special-get-raises" true))) (fun s => obsK (KT s)) 60000 loose (w.withFollow "special-get-raises" true) := fun os => two3 (run_at w os) (run_bt w os)
end
theorem run0 (w : World) : HandSHeadRun.RunEq R (PySem.W.view R.prog [119]) (hk AlX (valK w)) (fun s => obsK (KT s)) 60000 loose w :=
  PySem.W.byRow2 "special-get-raises" (P := fun w => HandSHeadRun.RunEq R (PySem.W.view R.prog [119]) (hk AlX (valK w)) (fun s => obsK (KT s)) 60000 loose w) run0f run0t w
def hookB (n : Nat) : PySem.W.Hook where
  α := AlX
  obs := fun s => obsK (He.frG s.heap.get? (asV s.heap.get? n))
  val := valK
  says := fun w h => ∃ K : PySem.W.Frag, K.In h ∧ He5.SaysA fa fn K ∧ exB K = true ∧ He.dicW K (He.ga K "LENGTHS") = some (He.keysIn w.params tabK)
  of := fun _ _ e => ⟨_, He.frG_in, congrArg (fun z : AlX => z.1) e, congrArg (fun z : AlX => z.2.1) e, congrArg (fun z : AlX => z.2.2) e⟩
  keeps := fun _ _ _ ⟨K, hK, c⟩ k => ⟨K, PySem.W.Frag.In.keeps hK k, c⟩
def ob (s : PySem.W.SharedT) : AlX := obsK (KT s)
theorem ob_eq (s : PySem.W.SharedT) : ob s = (hookB 7).obs s.abs := by
  have e : HandSHeadRun.getT s = s.abs.heap.get? := funext (HandSHeadRun.getT_eq s)
  show obsK (He.frG (HandSHeadRun.getT s) (asV (HandSHeadRun.getT s) 7)) = obsK (He.frG s.abs.heap.get? (asV s.abs.heap.get? 7))
  rw [e]
theorem run (w : World) : HandSHeadRun.RunEq R (PySem.W.view R.prog [119]) (hookB 7) ob 60000 loose w := fun os => run0 w os
end G

set_option Elab.async false
set_option linter.all false
set_option maxRecDepth 100000
set_option maxHeartbeats 4000000
namespace G
open PySem L2 VL VM
local macro_rules | `(tactic| mi_while ["vl var"] []) => `(tactic| first | refine xe_var 0 rfl ?_ | refine xe_var 1 rfl ?_ | refine xe_var 2 rfl ?_ | refine xe_var 3 rfl ?_ | refine xe_var 4 rfl ?_ | refine xe_var 5 rfl ?_ | refine xe_var 6 rfl ?_ | refine xe_var 7 rfl ?_ | refine xe_var 8 rfl ?_ | refine xe_var 9 rfl ?_ | refine xe_var 10 rfl ?_ | refine xe_var 11 rfl ?_ | refine xe_var 12 rfl ?_ | refine xe_var 13 rfl ?_ | refine xe_var 14 rfl ?_ | refine xe_var 15 rfl ?_ | refine xe_var 16 rfl ?_)
local macro_rules | `(tactic| mi_while ["vl exp"] []) => `(tactic| first
  | refine ⟨_, rfl, ?_⟩ | refine ⟨rfl, ?_⟩ | refine ⟨Nat.le_of_ble_eq_true rfl, ?_⟩
  | mi_while ["vl var"] []
  | refine xe_int ?_ | refine xe_str ?_ | refine xe_bl ?_ | refine xe_non ?_
  | refine xe_ixL (XN.rd (xn_lst ?_)) | refine xe_ixT ?_ | refine xe_add ?_ | refine xe_mul ?_ | refine xe_sub ?_ | refine xe_div ?_ | refine xe_mod ?_ | refine xe_neg ?_
  | refine ⟨mulSz (by assumption) (by assumption), ?_⟩ | refine ⟨divSz (by assumption) (by assumption), ?_⟩
  | refine xt_gt ?_ | refine xt_lt ?_ | refine xt_le ?_ | refine xt_ge ?_ | refine xe_gt ?_ | refine xe_lt ?_ | refine xe_le ?_ | refine xe_ge ?_
  | refine xe_if ?_ | refine xe_tup ?_ | refine xa_cons ?_ | refine xa_nil ?_
  | refine XN.data (xn_lst ?_) | refine xn_lst ?_
  | (refine' xe_call ?hF ?hR ?hA ?hN; (case hF => assumption); (case hR => assumption); (case hN => decide)))
local macro_rules | `(tactic| mi_while ["vl set"] []) => `(tactic| first | refine xb_cons (xs_set 0 ?_ (by assumption)) | refine xb_cons (xs_set 1 ?_ (by assumption)) | refine xb_cons (xs_set 2 ?_ (by assumption)) | refine xb_cons (xs_set 3 ?_ (by assumption)) | refine xb_cons (xs_set 4 ?_ (by assumption)) | refine xb_cons (xs_set 5 ?_ (by assumption)) | refine xb_cons (xs_set 6 ?_ (by assumption)) | refine xb_cons (xs_set 7 ?_ (by assumption)) | refine xb_cons (xs_set 8 ?_ (by assumption)) | refine xb_cons (xs_set 9 ?_ (by assumption)) | refine xb_cons (xs_set 10 ?_ (by assumption)) | refine xb_cons (xs_set 11 ?_ (by assumption)) | refine xb_cons (xs_set 12 ?_ (by assumption)))
local macro_rules | `(tactic| mi_while ["vl tg"] []) => `(tactic| first | refine xgs_nil ?_ | refine xgs_cons ?_ | refine xg_tup ?_ rfl | refine xg_lst ?_ rfl | refine xg_name 0 ?_ (by assumption) | refine xg_name 1 ?_ (by assumption) | refine xg_name 2 ?_ (by assumption) | refine xg_name 3 ?_ (by assumption) | refine xg_name 4 ?_ (by assumption) | refine xg_name 5 ?_ (by assumption) | refine xg_name 6 ?_ (by assumption) | refine xg_name 7 ?_ (by assumption) | refine xg_name 8 ?_ (by assumption))
local macro_rules | `(tactic| mi_while ["vl st"] []) => `(tactic| first
  | refine xb_cons (xs_ret ?_)
  | mi_while ["vl set"] []
  | mi_while ["vl tg"] []
  | refine xb_cons (xs_asg (tg := .Tuple _ _ _) ?_)
  | refine xb_nil ?_)
local macro_rules | `(tactic| mi_while ["vl"] []) => `(tactic| repeat (first | mi_while ["vl exp"] [] | mi_while ["vl st"] []))
section
variable {P : Program} {w : World} {K : PySem.W.Frag} {mg : Str → Option Value} {base : Heap} {f : Addr} {fd : FuncData}
/-! is_integer, is_fraction, is_point -/
theorem kb1 : kitB "int" "int" = some true := by decide +kernel
theorem kb2 : kitB "int" "bool" = some false := by decide +kernel
theorem kb3 : kitB "tuple" "tuple" = some true := by decide +kernel
theorem bo1 : bootBuiltins "int" = some (.type "int") := by decide +kernel
theorem bo2 : bootBuiltins "bool" = some (.type "bool") := by decide +kernel
theorem bo3 : bootBuiltins "tuple" = some (.type "tuple") := by decide +kernel
theorem bo4 : bootBuiltins "str" = some (.type "str") := by decide +kernel
def cIsInt : Con := fun ds k => ∃ i : Int, ds = [.int i] ∧ k (.bl true)
theorem sc_is_integer : FnScope ["value"] ["value"] (defScope (top 17)) := ⟨rfl, rfl, rfl, by decide +kernel, rfl, by decide +kernel, by decide +kernel⟩
theorem ok_is_integer (F : Fun K "is_integer" "is_integer" (top 17) f fd) (B : Bt mg) : FnOk P w K mg base CX0 1 f fd ["value"] (spC K 1 cIsInt) := by
  refine xdef F sc_is_integer fun ds k hl hc cdv A outer s H E hr => ?_
  have nd := sc_is_integer.nd
  obtain ⟨i, rfl, hk⟩ := hc
  refine xb_cons (xs_ret (xe_and (xe_isi B.isi B.int bo1 ?_)))
  mi_while ["vl"] []
  refine iteT (xe_one (xe_not (xe_isi B.isi B.bool bo2 ?_)))
  mi_while ["vl"] []
  exact hk
def cIsFr : Con := fun ds k => ∃ (x : Rat), ds = [frD x] ∧ k (.bl true)
theorem sc_is_fraction : FnScope ["value"] ["value"] (defScope (top 20)) := ⟨rfl, rfl, rfl, by decide +kernel, rfl, by decide +kernel, by decide +kernel⟩
theorem ok_is_fraction (F : Fun K "is_fraction" "is_fraction" (top 20) f fd) (B : Bt mg) (Hi : Fn P w K mg base 1 "is_integer" ["value"] cIsInt) (Hs : Fn P w K mg base 1 "shared" ["one", "other"] cShared) : FnOk P w K mg base CX0 2 f fd ["value"] (spC K 1 cIsFr) := by
  refine xdef F sc_is_fraction fun ds k hl hc cdv A outer s H E hr => ?_
  have nd := sc_is_fraction.nd
  obtain ⟨x, rfl, hk⟩ := hc
  refine xb_cons (xs_if (XW.t (xw_or (xt_not (xt_val (xe_isi B.isi B.tuple bo3 ?_))))))
  mi_while ["vl"] []
  refine iteF (xw_or (xt_ne (xe_lenT B.len ?_)))
  mi_while ["vl"] []
  refine iteF (xw_or (xt_not (xt_val ?_)))
  mi_while ["vl"] []
  refine iteF (xw_or1 (xt_not (xt_val ?_)))
  mi_while ["vl"] []
  refine xe_and ?_
  mi_while ["vl"] []
  rw [decide_eq_true (den_pos x)]
  refine iteT (xe_one (xe_eq ?_))
  mi_while ["vl"] []
  refine ⟨_, _, rfl, ?_⟩
  mi_while ["vl"] []
  rw [gcd_num_den x]
  exact hk
def cIsPt : Con := fun ds k => ∃ (x y : Rat), ds = [ptD x y] ∧ k (.bl true)
theorem sc_is_point : FnScope ["value", "part"] ["value"] (defScope (top 21)) := ⟨rfl, rfl, rfl, by decide +kernel, rfl, by decide +kernel, by decide +kernel⟩
theorem ok_is_point (F : Fun K "is_point" "is_point" (top 21) f fd) (B : Bt mg) (Hf : Fn P w K mg base 2 "is_fraction" ["value"] cIsFr) : FnOk P w K mg base CX0 3 f fd ["value"] (spC K 1 cIsPt) := by
  refine xdef F sc_is_point fun ds k hl hc cdv A outer s H E hr => ?_
  have nd := sc_is_point.nd
  obtain ⟨x, y, rfl, hk⟩ := hc
  refine xb_cons (xs_ret (xe_and (xe_isi B.isi B.tuple bo3 ?_)))
  mi_while ["vl"] []
  refine iteT (xe_and (xe_eq (xe_lenT B.len ?_)))
  mi_while ["vl"] []
  refine iteT (xe_one (xe_all rfl B.all (XN.rd (xn_lcT 1 (W := fun m acc => acc = List.replicate m (.bl true)) (ds := [frD x, frD y]) ?_ ?_ nd))))
  · refine xe_var 0 rfl ⟨rfl, rfl, fun acc hacc => ⟨[true, true], by rw [hacc]; rfl, hk⟩⟩
  · intro s2 H2 C cl fp m d acc hd hacc
    have hm : m < 2 := get_lt hd
    have : ∃ z, d = frD z := by
      match m, hm with
      | 0, _ => exact ⟨x, (Option.some.inj hd).symm⟩
      | 1, _ => exact ⟨y, (Option.some.inj hd).symm⟩
    obtain ⟨z, rfl⟩ := this
    mi_while ["vl"] []
    refine ⟨?_, ?_⟩
    · rw [hacc, List.length_replicate]; omega
    · rw [hacc, List.replicate_succ']
/-! free_part, fits -/
def cFree : Con := fun ds k => ∃ (c n : Int) (B : Nat), ds = [.int c, .int n] ∧ 0 < c ∧ 0 < n ∧ Sz B c ∧ B < 9000 ∧ ∀ r : Int, (r = 1 ↔ ∃ e : Nat, c ∣ n ^ e) → k (.int r)
theorem free_step {c n g : Int} (hn : 0 < n) (hg : g = Int.gcd c n) : (∃ e : Nat, c / g ∣ n ^ e) ↔ ∃ e : Nat, c ∣ n ^ e := by
  have d1 : g ∣ c := by rw [hg]; exact Int.gcd_dvd_left ..
  have d2 : g ∣ n := by rw [hg]; exact Int.gcd_dvd_right ..
  have hc := Int.ediv_mul_cancel d1
  constructor
  · rintro ⟨e, he⟩
    refine ⟨e + 1, ?_⟩
    rw [← hc, Int.pow_succ]
    exact Int.mul_dvd_mul he d2
  · rintro ⟨e, he⟩
    exact ⟨e, Int.dvd_trans ⟨g, hc.symm⟩ he⟩
theorem free_end {c n : Int} (hc : 0 < c) (hg : Int.gcd c n = 1) : (c = 1 ↔ ∃ e : Nat, c ∣ n ^ e) := by
  constructor
  · intro h
    exact ⟨0, by rw [h]; exact Int.one_dvd _⟩
  · rintro ⟨e, he⟩
    have : Int.gcd c (n ^ e) = 1 := by
      have := Nat.Coprime.pow_right e (show Nat.Coprime c.natAbs n.natAbs from hg)
      show Nat.gcd _ _ = 1
      rw [Int.natAbs_pow]
      exact this
    have d := Int.dvd_coe_gcd (Int.dvd_refl c) he
    rw [this] at d
    exact Int.eq_one_of_dvd_one (by omega) d
theorem sc_free_part : FnScope ["number", "factor", "by"] ["number", "factor"] (defScope (top 23)) := ⟨rfl, rfl, rfl, by decide +kernel, rfl, by decide +kernel, by decide +kernel⟩
theorem ok_free_part (F : Fun K "free_part" "free_part" (top 23) f fd) (Hs : Fn P w K mg base 1 "shared" ["one", "other"] cShared) : FnOk P w K mg base CX0 2 f fd ["number", "factor"] (spC K 2 cFree) := by
  refine xdef F sc_free_part fun ds k hl hc cdv A outer s H E hr => ?_
  have nd := sc_free_part.nd
  obtain ⟨c, n, B, rfl, c0, n0, sc, hB, hk⟩ := hc
  mi_while ["vl"] []
  refine ⟨c, n, rfl, ?_⟩
  refine xb_cons (xs_while (fun m ρ => ∃ c', ρ = [.dat (.int c'), .dat (.int n), .dat (.int (Int.gcd c' n))] ∧ 0 < c' ∧ Sz B c' ∧ m = c'.toNat ∧ ((∃ e : Nat, c' ∣ n ^ e) ↔ ∃ e : Nat, c ∣ n ^ e)) ⟨_, c, rfl, c0, sc, rfl, Iff.rfl⟩ ?_)
  rintro m ρ' ⟨c', rfl, hc', sc', hm, hiff⟩
  mi_while ["vl"] []
  by_cases g1 : 1 < (Int.gcd c' n : Int)
  · rw [decide_eq_true g1]
    refine iteT ?_
    have hg : 0 < (Int.gcd c' n : Int) := by omega
    have hs : Sz B (Int.gcd c' n : Int) := sc'.dvd (Int.gcd_dvd_left ..) (by omega)
    mi_while ["vl"] []
    refine ⟨_, n, rfl, ?_⟩
    have dv := Int.gcd_dvd_left c' n
    have hd := Int.ediv_mul_cancel dv
    have pos : 0 < c' / (Int.gcd c' n : Int) := by
      have := Int.ediv_nonneg (Int.le_of_lt hc') (Int.le_of_lt hg)
      have : c' / (Int.gcd c' n : Int) ≠ 0 := fun z => by rw [z] at hd; omega
      omega
    refine xb_nil ⟨(c' / (Int.gcd c' n : Int)).toNat, ?_, _, rfl, pos, sc'.div dv, rfl, (free_step n0 rfl).trans hiff⟩
    have : c' / (Int.gcd c' n : Int) < c' := by
      have h2 : c' / (Int.gcd c' n : Int) * 2 ≤ c' / (Int.gcd c' n : Int) * (Int.gcd c' n : Int) := Int.mul_le_mul_of_nonneg_left (by omega) (by omega)
      omega
    omega
  · rw [decide_eq_false g1]
    refine iteF ?_
    mi_while ["vl"] []
    refine hk c' ?_
    have : Int.gcd c' n = 1 := by
      have := Int.gcd_pos_of_ne_zero_left n (show c' ≠ 0 by omega)
      omega
    exact (free_end hc' this).trans hiff
def cFits : Con := fun ds k => ∃ (x y : Rat) (a b c n : Int) (B : Nat), ds = [triD a b c, .int n] ∧ IsTri x y a b c ∧ 0 < n ∧ Sz B c ∧ B < 9000 ∧ ∀ t : Bool, (t = true ↔ Fit n x y) → k (.bl t)
theorem sc_fits : FnScope ["number", "factor"] ["number", "factor"] (defScope (top 34)) := ⟨rfl, rfl, rfl, by decide +kernel, rfl, by decide +kernel, by decide +kernel⟩
theorem ok_fits (F : Fun K "fits" "fits" (top 34) f fd) (Hf : Fn P w K mg base 2 "free_part" ["number", "factor"] cFree) : FnOk P w K mg base CX0 3 f fd ["number", "factor"] (spC K 2 cFits) := by
  refine xdef F sc_fits fun ds k hl hc cdv A outer s H E hr => ?_
  have nd := sc_fits.nd
  obtain ⟨x, y, a, b, c, n, B, rfl, t, n0, sc, hB, hk⟩ := hc
  refine xb_cons (xs_ret (xe_eq ?_))
  mi_while ["vl"] []
  refine ⟨c, n, B, rfl, t.pos, n0, sc, hB, fun r hr => ?_⟩
  mi_while ["vl"] []
  refine hk _ ?_
  show decide (r = 1) = true ↔ _
  rw [decide_eq_true_eq, hr]
  exact ⟨fun ⟨e, he⟩ => Fit.of_dvd t he, fun h => h.dvd (by omega) n0 t⟩
end
end G

set_option Elab.async false
set_option linter.all false
set_option maxRecDepth 100000
set_option maxHeartbeats 4000000
namespace G
open PySem L2 VL VM
local macro_rules | `(tactic| mi_while ["vl var"] []) => `(tactic| first | refine xe_var 0 rfl ?_ | refine xe_var 1 rfl ?_ | refine xe_var 2 rfl ?_ | refine xe_var 3 rfl ?_ | refine xe_var 4 rfl ?_ | refine xe_var 5 rfl ?_ | refine xe_var 6 rfl ?_ | refine xe_var 7 rfl ?_ | refine xe_var 8 rfl ?_ | refine xe_var 9 rfl ?_ | refine xe_var 10 rfl ?_ | refine xe_var 11 rfl ?_ | refine xe_var 12 rfl ?_ | refine xe_var 13 rfl ?_ | refine xe_var 14 rfl ?_ | refine xe_var 15 rfl ?_ | refine xe_var 16 rfl ?_)
local macro_rules | `(tactic| mi_while ["vl exp"] []) => `(tactic| first
  | refine ⟨_, rfl, ?_⟩ | refine ⟨rfl, ?_⟩ | refine ⟨Nat.le_of_ble_eq_true rfl, ?_⟩
  | mi_while ["vl var"] []
  | refine xe_int ?_ | refine xe_str ?_ | refine xe_bl ?_ | refine xe_non ?_
  | refine xe_ixL (XN.rd (xn_lst ?_)) | refine xe_ixT ?_ | refine xe_add ?_ | refine xe_mul ?_ | refine xe_sub ?_ | refine xe_div ?_ | refine xe_mod ?_ | refine xe_neg ?_
  | refine ⟨mulSz (by assumption) (by assumption), ?_⟩ | refine ⟨divSz (by assumption) (by assumption), ?_⟩
  | refine xt_gt ?_ | refine xt_lt ?_ | refine xt_le ?_ | refine xt_ge ?_ | refine xe_gt ?_ | refine xe_lt ?_ | refine xe_le ?_ | refine xe_ge ?_
  | refine xe_if ?_ | refine xe_tup ?_ | refine xa_cons ?_ | refine xa_nil ?_
  | refine XN.data (xn_lst ?_) | refine xn_lst ?_
  | (refine' xe_call ?hF ?hR ?hA ?hN; (case hF => assumption); (case hR => assumption); (case hN => decide)))
local macro_rules | `(tactic| mi_while ["vl set"] []) => `(tactic| first | refine xb_cons (xs_set 0 ?_ (by assumption)) | refine xb_cons (xs_set 1 ?_ (by assumption)) | refine xb_cons (xs_set 2 ?_ (by assumption)) | refine xb_cons (xs_set 3 ?_ (by assumption)) | refine xb_cons (xs_set 4 ?_ (by assumption)) | refine xb_cons (xs_set 5 ?_ (by assumption)) | refine xb_cons (xs_set 6 ?_ (by assumption)) | refine xb_cons (xs_set 7 ?_ (by assumption)) | refine xb_cons (xs_set 8 ?_ (by assumption)) | refine xb_cons (xs_set 9 ?_ (by assumption)) | refine xb_cons (xs_set 10 ?_ (by assumption)) | refine xb_cons (xs_set 11 ?_ (by assumption)) | refine xb_cons (xs_set 12 ?_ (by assumption)))
local macro_rules | `(tactic| mi_while ["vl tg"] []) => `(tactic| first | refine xgs_nil ?_ | refine xgs_cons ?_ | refine xg_tup ?_ rfl | refine xg_lst ?_ rfl | refine xg_name 0 ?_ (by assumption) | refine xg_name 1 ?_ (by assumption) | refine xg_name 2 ?_ (by assumption) | refine xg_name 3 ?_ (by assumption) | refine xg_name 4 ?_ (by assumption) | refine xg_name 5 ?_ (by assumption) | refine xg_name 6 ?_ (by assumption) | refine xg_name 7 ?_ (by assumption) | refine xg_name 8 ?_ (by assumption))
local macro_rules | `(tactic| mi_while ["vl st"] []) => `(tactic| first
  | refine xb_cons (xs_ret ?_)
  | mi_while ["vl set"] []
  | mi_while ["vl tg"] []
  | refine xb_cons (xs_asg (tg := .Tuple _ _ _) ?_)
  | refine xb_nil ?_)
local macro_rules | `(tactic| mi_while ["vl"] []) => `(tactic| repeat (first | mi_while ["vl exp"] [] | mi_while ["vl st"] []))
structure Cst (mg : Str → Option Value) : Prop where
  mz : ∃ t, mg "MOST_ZOOM" = some (.int 400 t)
  mf : ∃ t, mg "MOST_FACTOR" = some (.int 10 t)
section
variable {P : Program} {w : World} {K : PySem.W.Frag} {mg : Str → Option Value} {base : Heap} {f : Addr} {fd : FuncData} {C : Addr}
/-! scale_of -/
theorem rxi (q : Int) : ∃ a b : Int, rx q 1 0 = (a : Rat) ∧ ry q 1 0 = (b : Rat) ∧ Sz 1 a ∧ Sz 1 b ∧ atI [D.tup [.int 1, .int 0], .tup [.int 0, .int 1], .tup [.int (-1), .int 0], .tup [.int 0, .int (-1)]] (q % 4) = some (.tup [.int a, .int b]) := by
  rcases four q with h | h | h | h <;> unfold rx ry <;> rw [h]
  · exact ⟨1, 0, by simp, by simp, by unfold Sz; decide, by unfold Sz; decide, rfl⟩
  · exact ⟨0, 1, by simp, by simp, by unfold Sz; decide, by unfold Sz; decide, rfl⟩
  · exact ⟨-1, 0, by simp, by simp, by unfold Sz; decide, by unfold Sz; decide, rfl⟩
  · exact ⟨0, -1, by simp, by simp, by unfold Sz; decide, by unfold Sz; decide, rfl⟩
def cScaleOf : Con := fun ds k => ∃ n z q : Int, ds = [.int n, .int z, .int q] ∧ 2 ≤ n ∧ n ≤ 10 ∧ z.natAbs ≤ 1000 ∧ ∀ a b c, IsTri (sc n z * rx q 1 0) (sc n z * ry q 1 0) a b c → Sz3 (4 * z.natAbs + 2) a b c → k (triD a b c)
theorem absN (z : Int) : (if z < 0 then -z else z) = (z.natAbs : Int) := by split <;> omega
theorem sc_scale_of : FnScope ["factor", "zoom", "turn", "a", "b", "by"] ["factor", "zoom", "turn"] (defScope (top 32)) := ⟨rfl, rfl, rfl, by decide +kernel, rfl, by decide +kernel, by decide +kernel⟩
theorem ok_scale_of (F : Fun K "scale_of" "scale_of" (top 32) f fd) (B : Bt mg) (Hp : Fn P w K mg base 1 "power" ["base", "exponent"] cPower) (Hm : Fn P w K mg base 2 "made" ["a", "b", "c"] cMade) : FnOk P w K mg base CX0 3 f fd ["factor", "zoom", "turn"] (spC K 3 cScaleOf) := by
  refine xdef F sc_scale_of fun ds k hl hc cdv A outer s H E hr => ?_
  have nd := sc_scale_of.nd
  obtain ⟨n, z, q, rfl, n1, n2, hz, hk⟩ := hc
  obtain ⟨a, b, ea, eb, sa, sb, hat⟩ := rxi q
  refine xb_cons (xs_asg (xe_ixL (XN.rd (xn_lst ?_))))
  mi_while ["vl"] []
  refine ⟨by decide, _, rfl, _, hat, ?_⟩
  mi_while ["vl"] []
  refine xe_abs B.abs ?_
  mi_while ["vl"] []
  refine ⟨n, z.natAbs, by rw [absN], (sz_small n1 n2).mono (by omega), by omega, ?_⟩
  have hp : Sz (4 * z.natAbs + 1) (n ^ z.natAbs) := (sz_small n1 n2).pow _
  mi_while ["vl"] []
  by_cases h0 : 0 ≤ z
  · rw [decide_eq_true h0]
    refine iteT ?_
    mi_while ["vl"] []
    have hs : sc n z = ((n ^ z.natAbs : Int) : Rat) := by rw [sc_nonneg h0]; congr 2; omega
    refine hk _ _ _ ⟨by decide, ?_, ?_, ?_⟩ ⟨(sa.mul hp).mono (by omega), (sb.mul hp).mono (by omega), by unfold Sz; rw [show (2 : Nat) ^ (4 * z.natAbs + 2) = 4 * 2 ^ (4 * z.natAbs) by rw [Nat.pow_add, Nat.mul_comm]]; have := Nat.pow_pos (n := 4 * z.natAbs) (show 0 < 2 by decide); show 1 < _; omega⟩
    · rw [hs, ea]; push_cast; grind
    · rw [hs, eb]; push_cast; grind
    · show Nat.gcd _ 1 = 1
      exact Nat.gcd_one_right _
  · rw [decide_eq_false h0]
    refine iteF ?_
    mi_while ["vl"] []
    refine ⟨a, b, n ^ z.natAbs, 4 * z.natAbs + 2, rfl, pow_pos' (by omega) _, ⟨sa.mono (by omega), sb.mono (by omega), hp.mono (by omega)⟩, by omega, ?_⟩
    have hs : sc n z = 1 / ((n ^ z.natAbs : Int) : Rat) := by rw [sc_neg_eq (by omega) (by omega)]; congr 3; omega
    have e1 : sc n z * rx q 1 0 = (a : Rat) / ((n ^ z.natAbs : Int) : Rat) := by rw [hs, ea]; grind
    have e2 : sc n z * ry q 1 0 = (b : Rat) / ((n ^ z.natAbs : Int) : Rat) := by rw [hs, eb]; grind
    rw [← e1, ← e2]
    exact hk
abbrev mvT (m : Mv) (a b c : Int) : D := .tup [.int m.k, .int m.q, triD a b c]
def cScale : Con := fun ds k => ∃ (n : Int) (m : Mv) (a b c : Int), ds = [.int n, mvT m a b c] ∧ 2 ≤ n ∧ n ≤ 10 ∧ m.k.natAbs ≤ 1000 ∧ ∀ a b c, IsTri (sc n m.k * rx m.q 1 0) (sc n m.k * ry m.q 1 0) a b c → Sz3 (4 * m.k.natAbs + 2) a b c → k (triD a b c)
theorem sc_scale : FnScope ["factor", "move"] ["factor", "move"] (defScope (top 52)) := ⟨rfl, rfl, rfl, by decide +kernel, rfl, by decide +kernel, by decide +kernel⟩
theorem ok_scale (F : Fun K "scale" "scale" (top 52) f fd) (Hs : Fn P w K mg base 3 "scale_of" ["factor", "zoom", "turn"] cScaleOf) : FnOk P w K mg base CX0 4 f fd ["factor", "move"] (spC K 2 cScale) := by
  refine xdef F sc_scale fun ds k hl hc cdv A outer s H E hr => ?_
  have nd := sc_scale.nd
  obtain ⟨n, m, a, b, c, rfl, n1, n2, hz, hk⟩ := hc
  mi_while ["vl"] []
  exact ⟨n, m.k, m.q, rfl, n1, n2, hz, hk⟩
theorem cmul (n k q : Int) (x y : Rat) : sc n k * rx q 1 0 * x - sc n k * ry q 1 0 * y = sc n k * rx q x y ∧ sc n k * rx q 1 0 * y + sc n k * ry q 1 0 * x = sc n k * ry q x y := by
  rcases four q with h | h | h | h <;> (unfold rx ry; rw [h]; constructor <;> simp <;> grind)
def cThenMv : Con := fun ds k => ∃ (n : Int) (m m' : Mv) (a b c a' b' c' : Int) (B C : Nat), ds = [.int n, mvT m a b c, mvT m' a' b' c'] ∧ IsTri m.x m.y a b c ∧ IsTri m'.x m'.y a' b' c' ∧ Sz3 B a b c ∧ Sz3 C a' b' c' ∧ 2 ≤ n ∧ n ≤ 10 ∧ m.k.natAbs ≤ 1000 ∧ B + (4 * m.k.natAbs + C + 3) < 8990 ∧
  ∀ p q r, IsTri (m.then n m').x (m.then n m').y p q r → Sz3 (B + (4 * m.k.natAbs + C + 3) + 1) p q r → k (mvT (m.then n m') p q r)
theorem sc_then_move : FnScope ["factor", "one", "other"] ["factor", "one", "other"] (defScope (top 53)) := ⟨rfl, rfl, rfl, by decide +kernel, rfl, by decide +kernel, by decide +kernel⟩
theorem ok_then_move (F : Fun K "then_move" "then_move" (top 53) f fd) (Hs : Fn P w K mg base 4 "scale" ["factor", "move"] cScale) (Ht : Fn P w K mg base 3 "times" ["one", "other"] cTimes) (Ha : Fn P w K mg base 3 "added" ["one", "other"] cAdd) : FnOk P w K mg base CX0 5 f fd ["factor", "one", "other"] (spC K 3 cThenMv) := by
  refine xdef F sc_then_move fun ds k hl hc cdv A outer s H E hr => ?_
  have nd := sc_then_move.nd
  obtain ⟨n, m, m', a, b, c, a', b', c', B, C, rfl, t, u, st, su, n1, n2, hz, hB, hk⟩ := hc
  mi_while ["vl"] []
  refine ⟨by decide, ?_⟩
  mi_while ["vl"] []
  refine ⟨n, m, a, b, c, rfl, n1, n2, hz, fun e1 e2 e3 v sv => ?_⟩
  mi_while ["vl"] []
  refine ⟨_, _, _, _, e1, e2, e3, a', b', c', _, C, rfl, v, u, sv, su, by omega, fun g1 g2 g3 y sy => ?_⟩
  rw [(cmul n m.k m.q m'.x m'.y).1, (cmul n m.k m.q m'.x m'.y).2] at y
  mi_while ["vl"] []
  refine ⟨_, _, _, _, a, b, c, g1, g2, g3, B, _, rfl, t, y, st, sy, by omega, fun p q r z sz => ?_⟩
  mi_while ["vl"] []
  exact hk p q r z ⟨sz.1.mono (by omega), sz.2.1.mono (by omega), sz.2.2.mono (by omega)⟩
def cBackMv : Con := fun ds k => ∃ (n : Int) (m : Mv) (a b c : Int) (B : Nat), ds = [.int n, mvT m a b c] ∧ IsTri m.x m.y a b c ∧ Sz3 B a b c ∧ 2 ≤ n ∧ n ≤ 10 ∧ m.k.natAbs ≤ 1000 ∧ 4 * m.k.natAbs + B < 8900 ∧
  ∀ p q r, IsTri (m.back n).x (m.back n).y p q r → Sz3 (4 * m.k.natAbs + B + 3) p q r → k (mvT (m.back n) p q r)
theorem sc_undone_move : FnScope ["factor", "move"] ["factor", "move"] (defScope (top 54)) := ⟨rfl, rfl, rfl, by decide +kernel, rfl, by decide +kernel, by decide +kernel⟩
theorem ok_undone_move (F : Fun K "undone_move" "undone_move" (top 54) f fd) (Hs : Fn P w K mg base 3 "scale_of" ["factor", "zoom", "turn"] cScaleOf) (Ht : Fn P w K mg base 3 "times" ["one", "other"] cTimes) (Hm : Fn P w K mg base 1 "minus" ["number"] cMinus) : FnOk P w K mg base CX0 4 f fd ["factor", "move"] (spC K 2 cBackMv) := by
  refine xdef F sc_undone_move fun ds k hl hc cdv A outer s H E hr => ?_
  have nd := sc_undone_move.nd
  obtain ⟨n, m, a, b, c, B, rfl, t, st, n1, n2, hz, hB, hk⟩ := hc
  mi_while ["vl"] []
  refine ⟨by decide, ?_⟩
  mi_while ["vl"] []
  refine ⟨n, -m.k, -m.q, rfl, n1, n2, by omega, fun e1 e2 e3 v sv => ?_⟩
  rw [Int.natAbs_neg] at sv
  mi_while ["vl"] []
  refine ⟨_, _, _, _, e1, e2, e3, a, b, c, _, B, rfl, v, t, sv, st, by omega, fun g1 g2 g3 y sy => ?_⟩
  rw [(cmul n (-m.k) (-m.q) m.x m.y).1, (cmul n (-m.k) (-m.q) m.x m.y).2] at y
  mi_while ["vl"] []
  refine ⟨g1, g2, g3, rfl, ?_⟩
  mi_while ["vl"] []
  exact hk _ _ _ (tri_neg y) ⟨(sy.1.mono (by omega)).neg, (sy.2.1.mono (by omega)).neg, sy.2.2.mono (by omega)⟩
end
end G

set_option Elab.async false
set_option linter.all false
set_option maxRecDepth 100000
set_option maxHeartbeats 4000000
namespace G
open PySem L2 VL VM
local macro_rules | `(tactic| mi_while ["vl var"] []) => `(tactic| first | refine xe_var 0 rfl ?_ | refine xe_var 1 rfl ?_ | refine xe_var 2 rfl ?_ | refine xe_var 3 rfl ?_ | refine xe_var 4 rfl ?_ | refine xe_var 5 rfl ?_ | refine xe_var 6 rfl ?_ | refine xe_var 7 rfl ?_ | refine xe_var 8 rfl ?_ | refine xe_var 9 rfl ?_ | refine xe_var 10 rfl ?_ | refine xe_var 11 rfl ?_ | refine xe_var 12 rfl ?_ | refine xe_var 13 rfl ?_ | refine xe_var 14 rfl ?_ | refine xe_var 15 rfl ?_ | refine xe_var 16 rfl ?_)
local macro_rules | `(tactic| mi_while ["vl exp"] []) => `(tactic| first
  | refine ⟨_, rfl, ?_⟩ | refine ⟨rfl, ?_⟩ | refine ⟨Nat.le_of_ble_eq_true rfl, ?_⟩
  | mi_while ["vl var"] []
  | refine xe_int ?_ | refine xe_str ?_ | refine xe_bl ?_ | refine xe_non ?_
  | refine xe_ixL (XN.rd (xn_lst ?_)) | refine xe_ixT ?_ | refine xe_add ?_ | refine xe_mul ?_ | refine xe_sub ?_ | refine xe_div ?_ | refine xe_mod ?_ | refine xe_neg ?_
  | refine ⟨mulSz (by assumption) (by assumption), ?_⟩ | refine ⟨divSz (by assumption) (by assumption), ?_⟩
  | refine xt_gt ?_ | refine xt_lt ?_ | refine xt_le ?_ | refine xt_ge ?_ | refine xe_gt ?_ | refine xe_lt ?_ | refine xe_le ?_ | refine xe_ge ?_
  | refine xe_if ?_ | refine xe_tup ?_ | refine xa_cons ?_ | refine xa_nil ?_
  | refine XN.data (xn_lst ?_) | refine xn_lst ?_
  | (refine' xe_call ?hF ?hR ?hA ?hN; (case hF => assumption); (case hR => assumption); (case hN => decide)))
local macro_rules | `(tactic| mi_while ["vl set"] []) => `(tactic| first | refine xb_cons (xs_set 0 ?_ (by assumption)) | refine xb_cons (xs_set 1 ?_ (by assumption)) | refine xb_cons (xs_set 2 ?_ (by assumption)) | refine xb_cons (xs_set 3 ?_ (by assumption)) | refine xb_cons (xs_set 4 ?_ (by assumption)) | refine xb_cons (xs_set 5 ?_ (by assumption)) | refine xb_cons (xs_set 6 ?_ (by assumption)) | refine xb_cons (xs_set 7 ?_ (by assumption)) | refine xb_cons (xs_set 8 ?_ (by assumption)) | refine xb_cons (xs_set 9 ?_ (by assumption)) | refine xb_cons (xs_set 10 ?_ (by assumption)) | refine xb_cons (xs_set 11 ?_ (by assumption)) | refine xb_cons (xs_set 12 ?_ (by assumption)))
local macro_rules | `(tactic| mi_while ["vl tg"] []) => `(tactic| first | refine xgs_nil ?_ | refine xgs_cons ?_ | refine xg_tup ?_ rfl | refine xg_lst ?_ rfl | refine xg_name 0 ?_ (by assumption) | refine xg_name 1 ?_ (by assumption) | refine xg_name 2 ?_ (by assumption) | refine xg_name 3 ?_ (by assumption) | refine xg_name 4 ?_ (by assumption) | refine xg_name 5 ?_ (by assumption) | refine xg_name 6 ?_ (by assumption) | refine xg_name 7 ?_ (by assumption) | refine xg_name 8 ?_ (by assumption))
local macro_rules | `(tactic| mi_while ["vl st"] []) => `(tactic| first
  | refine xb_cons (xs_ret ?_)
  | mi_while ["vl set"] []
  | mi_while ["vl tg"] []
  | refine xb_cons (xs_asg (tg := .Tuple _ _ _) ?_)
  | refine xb_nil ?_)
local macro_rules | `(tactic| mi_while ["vl"] []) => `(tactic| repeat (first | mi_while ["vl exp"] [] | mi_while ["vl st"] []))
section
variable {P : Program} {w : World} {K : PySem.W.Frag} {mg : Str → Option Value} {base : Heap} {f : Addr} {fd : FuncData} {C : Addr}
/-! what makes a view -/
structure VOk (n : Int) (m : Mv) : Prop where
  n1 : 2 ≤ n
  n2 : n ≤ 10
  k1 : -400 ≤ m.k
  k2 : m.k ≤ 400
  q1 : 0 ≤ m.q
  q2 : m.q ≤ 3
  fit : Fit n m.x m.y
  sx : SzQ 4300 m.x
  sy : SzQ 4300 m.y
def cIsFactor : Con := fun ds k => ∃ n : Int, ds = [.int n] ∧ ∀ t : Bool, (t = true ↔ 2 ≤ n ∧ n ≤ 10) → k (.bl t)
theorem sc_is_factor : FnScope ["value"] ["value"] (defScope (top 37)) := ⟨rfl, rfl, rfl, by decide +kernel, rfl, by decide +kernel, by decide +kernel⟩
theorem ok_is_factor (F : Fun K "is_factor" "is_factor" (top 37) f fd) (Cs : Cst mg) (Hi : Fn P w K mg base 1 "is_integer" ["value"] cIsInt) : FnOk P w K mg base CX0 2 f fd ["value"] (spC K 1 cIsFactor) := by
  refine xdef F sc_is_factor fun ds k hl hc cdv A outer s H E hr => ?_
  have nd := sc_is_factor.nd
  obtain ⟨n, rfl, hk⟩ := hc
  obtain ⟨t, ht⟩ := Cs.mf
  refine xb_cons (xs_ret (xe_and ?_))
  mi_while ["vl"] []
  refine iteT (xe_one (xe_lele ?_))
  mi_while ["vl"] []
  by_cases h : 2 ≤ n
  · rw [if_pos h]
    refine xe_glob (v := .int 10) ht ⟨t, rfl⟩ (fun _ => .int 10) ?_
    refine ⟨_, rfl, hk _ ?_⟩
    rw [decide_eq_true_eq]
    exact ⟨fun z => ⟨h, z⟩, fun z => z.2⟩
  · rw [if_neg h]
    exact hk _ ⟨fun z => (nomatch z), fun z => absurd z.1 h⟩
def cIsBetween : Con := fun ds k => ∃ v a b : Int, ds = [.int v, .int a, .int b] ∧ ∀ t : Bool, (t = true ↔ a ≤ v ∧ v ≤ b) → k (.bl t)
theorem sc_is_between : FnScope ["value", "least", "most"] ["value", "least", "most"] (defScope (top 38)) := ⟨rfl, rfl, rfl, by decide +kernel, rfl, by decide +kernel, by decide +kernel⟩
theorem ok_is_between (F : Fun K "is_between" "is_between" (top 38) f fd) (Hi : Fn P w K mg base 1 "is_integer" ["value"] cIsInt) : FnOk P w K mg base CX0 2 f fd ["value", "least", "most"] (spC K 3 cIsBetween) := by
  refine xdef F sc_is_between fun ds k hl hc cdv A outer s H E hr => ?_
  have nd := sc_is_between.nd
  obtain ⟨v, a, b, rfl, hk⟩ := hc
  refine xb_cons (xs_ret (xe_and ?_))
  mi_while ["vl"] []
  refine iteT (xe_one (xe_lele ?_))
  mi_while ["vl"] []
  by_cases h : a ≤ v
  · rw [if_pos h]
    mi_while ["vl"] []
    refine hk _ ?_
    rw [decide_eq_true_eq]
    exact ⟨fun z => ⟨h, z⟩, fun z => z.2⟩
  · rw [if_neg h]
    exact hk _ ⟨fun z => (nomatch z), fun z => absurd z.1 h⟩
def cCkF : Con := fun ds k => ∃ n : Int, ds = [.int n] ∧ 2 ≤ n ∧ n ≤ 10 ∧ k .non
theorem sc_check_factor : FnScope ["value"] ["value"] (defScope (top 44)) := ⟨rfl, rfl, rfl, by decide +kernel, rfl, by decide +kernel, by decide +kernel⟩
theorem ok_check_factor (F : Fun K "check_factor" "check_factor" (top 44) f fd) (Hi : Fn P w K mg base 2 "is_factor" ["value"] cIsFactor) : FnOk P w K mg base CX0 3 f fd ["value"] (spC K 1 cCkF) := by
  refine xdef F sc_check_factor fun ds k hl hc cdv A outer s H E hr => ?_
  have nd := sc_check_factor.nd
  obtain ⟨n, rfl, h1, h2, hk⟩ := hc
  refine xb_cons (xs_if (xt_not (xt_val ?_)))
  mi_while ["vl"] []
  refine fun t ht => ⟨t, rfl, ?_⟩
  rw [ht.mpr ⟨h1, h2⟩]
  exact iteF (xb_nil (xb_nil hk))
abbrev vwD (C : Addr) (n : Int) (m : Mv) : D := .obj C [.int n, ptD m.x m.y, .int m.q, .int m.k]
/-- the arguments in the slots' order -/
def gV : List D → List D
  | [a, b, c, d] => [a, d, c, b]
  | l => l
def OkV (ds : List D) : Prop := ∃ n m, ds = [.int n, .int m.k, .int m.q, ptD m.x m.y] ∧ VOk n m
/-! the class -/
structure Vc (K : PySem.W.Frag) (C : Addr) : Prop where
  sc : SlX.SCls K C
  si : SlX.SIsi K C
  s0 : ∃ p, SlX.Slot1 K C "own_factor" p 0
  s1 : ∃ p, SlX.Slot1 K C "own_zoom" p 3
  s2 : ∃ p, SlX.Slot1 K C "own_turn" p 2
  s3 : ∃ p, SlX.Slot1 K C "own_middle" p 1
  same : PySem.W.kitOne K (.ref C) (.ref C) = some true
theorem sc_View___init__ : FnScope ["self", "factor", "zoom", "turn", "middle"] ["self", "factor", "zoom", "turn", "middle"] (defScope (meth 39 1)) := ⟨rfl, rfl, rfl, by decide +kernel, rfl, by decide +kernel, by decide +kernel⟩
theorem ok_init (F : Fun K "__init__" "View.__init__" (meth 39 1) f fd) (Cs : Cst mg) (V : Vc K C) (Hc : Fn P w K mg base 3 "check_factor" ["value"] cCkF) (Hb : Fn P w K mg base 2 "is_between" ["value", "least", "most"] cIsBetween)
    (Hp : Fn P w K mg base 3 "is_point" ["value"] cIsPt) (Hn : Fn P w K mg base 3 "number_of" ["point"] cNum) (Hf : Fn P w K mg base 3 "fits" ["number", "factor"] cFits) : FnOk P w K mg base CX0 4 f fd ["self", "factor", "zoom", "turn", "middle"] (spI K C 4 gV OkV) := by
  refine xinit F sc_View___init__ rfl fun ds hl hok cdv A outer s H E hr x dx S0 H0 R tr hx hd ne hfin => ?_
  have nd := sc_View___init__.nd
  obtain ⟨n, m, rfl, h⟩ := hok
  obtain ⟨tz, hz⟩ := Cs.mz
  obtain ⟨p0, t0⟩ := V.s0
  obtain ⟨p1, t1⟩ := V.s1
  obtain ⟨p2, t2⟩ := V.s2
  obtain ⟨p3, t3⟩ := V.s3
  refine xr_cons tr (xs_expr ?_)
  mi_while ["vl"] []
  refine ⟨h.n1, h.n2, ?_⟩
  refine xr_cons tr (xs_if (xt_not (xt_val ?_)))
  mi_while ["vl"] []
  refine xe_glob (v := .int 400) hz ⟨tz, rfl⟩ (fun _ => .int 400) ?_
  mi_while ["vl"] []
  refine xe_glob (v := .int 400) hz ⟨tz, rfl⟩ (fun _ => .int 400) ?_
  mi_while ["vl"] []
  refine ⟨_, _, _, rfl, fun t ht => ⟨t, rfl, ?_⟩⟩
  rw [ht.mpr ⟨h.k1, h.k2⟩]
  refine iteF (xb_nil ?_)
  refine xr_cons tr (xs_if (xt_not (xt_val ?_)))
  mi_while ["vl"] []
  refine ⟨_, _, _, rfl, fun t ht => ⟨t, rfl, ?_⟩⟩
  rw [ht.mpr ⟨h.q1, h.q2⟩]
  refine iteF (xb_nil ?_)
  refine xr_cons tr (xs_if (XW.t (xw_or (xt_not (xt_val ?_)))))
  mi_while ["vl"] []
  refine ⟨m.x, m.y, rfl, _, rfl, iteF (xw_or1 (xt_not (xt_val ?_)))⟩
  mi_while ["vl"] []
  refine ⟨m.x, m.y, 4300, rfl, h.sx, h.sy, by decide, fun a b c t st => ?_⟩
  mi_while ["vl"] []
  refine ⟨m.x, m.y, a, b, c, n, _, rfl, t, by have := h.n1; omega, st.2.2, by decide, fun r hr2 => ⟨r, rfl, ?_⟩⟩
  rw [hr2.mpr h.fit]
  refine iteF (xb_nil ?_)
  refine xr_stores hx hd ne ?_
  refine xq_cons 1 rfl rfl V.sc t0 (xq_cons 2 rfl rfl V.sc t1 (xq_cons 3 rfl rfl V.sc t2 (xq_cons 4 rfl rfl V.sc t3 (xq_nil fun σ H h => hfin _ σ H h))))
/-! a property: a slot's value -/
def cSlot (C : Addr) (i : Nat) : Con := fun ds k => ∃ n m d, ds = [vwD C n m] ∧ [D.int n, ptD m.x m.y, .int m.q, .int m.k][i]? = some d ∧ k d
theorem sc_View_factor : FnScope ["self"] ["self"] (defScope (meth 39 3)) := ⟨rfl, rfl, rfl, by decide +kernel, rfl, by decide +kernel, by decide +kernel⟩
theorem ok_factor (F : Fun K "factor" "View.factor" (meth 39 3) f fd) (V : Vc K C) : FnOk P w K mg base CX0 1 f fd ["self"] (spC K 1 (cSlot C 0)) := by
  refine xdef F sc_View_factor fun ds k hl hc cdv A outer s H E hr => ?_
  obtain ⟨n, m, d, rfl, hd, hk⟩ := hc
  obtain ⟨p0, t0⟩ := V.s0
  refine xb_cons (xs_ret (xe_slot V.sc t0 ?_))
  mi_while ["vl var"] []
  exact ⟨_, _, rfl, hd, hk⟩
def cMvOf (C : Addr) : Con := fun ds k => ∃ (n : Int) (m : Mv) (B : Nat), ds = [vwD C n m] ∧ SzQ B m.x ∧ SzQ B m.y ∧ B < 4400 ∧ ∀ a b c, IsTri m.x m.y a b c → Sz3 (B + B) a b c → k (mvT m a b c)
theorem sc_move_of : FnScope ["view"] ["view"] (defScope (top 40)) := ⟨rfl, rfl, rfl, by decide +kernel, rfl, by decide +kernel, by decide +kernel⟩
theorem ok_move_of (F : Fun K "move_of" "move_of" (top 40) f fd) (V : Vc K C) (Hn : Fn P w K mg base 3 "number_of" ["point"] cNum) : FnOk P w K mg base CX0 4 f fd ["view"] (spC K 1 (cMvOf C)) := by
  refine xdef F sc_move_of fun ds k hl hc cdv A outer s H E hr => ?_
  obtain ⟨n, m, B, rfl, sx, sy, hB, hk⟩ := hc
  obtain ⟨p1, t1⟩ := V.s1
  obtain ⟨p2, t2⟩ := V.s2
  obtain ⟨p3, t3⟩ := V.s3
  refine xb_cons (xs_ret (xe_tup (xa_cons (xe_slot V.sc t1 ?_))))
  mi_while ["vl var"] []
  refine ⟨_, _, rfl, rfl, xa_cons (xe_slot V.sc t2 ?_)⟩
  mi_while ["vl var"] []
  refine ⟨_, _, rfl, rfl, ?_⟩
  mi_while ["vl"] []
  refine xe_slot V.sc t3 ?_
  mi_while ["vl var"] []
  refine ⟨_, _, rfl, rfl, ?_⟩
  mi_while ["vl"] []
  refine ⟨m.x, m.y, B, rfl, sx, sy, hB, fun a b c t st => ?_⟩
  mi_while ["vl"] []
  exact hk a b c t st
def cMkV (C : Addr) : Con := fun ds k => ∃ (n : Int) (m : Mv) (a b c : Int) (B : Nat), ds = [.int n, mvT m a b c] ∧ IsTri m.x m.y a b c ∧ Sz3 B a b c ∧ B < 9000 ∧ VOk n m ∧ k (vwD C n m)
end
end G

set_option Elab.async false
set_option linter.all false
set_option maxRecDepth 100000
set_option maxHeartbeats 4000000
namespace G
open PySem L2 VL VM
local macro_rules | `(tactic| mi_while ["vl var"] []) => `(tactic| first | refine xe_var 0 rfl ?_ | refine xe_var 1 rfl ?_ | refine xe_var 2 rfl ?_ | refine xe_var 3 rfl ?_ | refine xe_var 4 rfl ?_ | refine xe_var 5 rfl ?_ | refine xe_var 6 rfl ?_ | refine xe_var 7 rfl ?_ | refine xe_var 8 rfl ?_ | refine xe_var 9 rfl ?_ | refine xe_var 10 rfl ?_ | refine xe_var 11 rfl ?_ | refine xe_var 12 rfl ?_ | refine xe_var 13 rfl ?_ | refine xe_var 14 rfl ?_ | refine xe_var 15 rfl ?_ | refine xe_var 16 rfl ?_)
local macro_rules | `(tactic| mi_while ["vl exp"] []) => `(tactic| first
  | refine ⟨_, rfl, ?_⟩ | refine ⟨rfl, ?_⟩ | refine ⟨Nat.le_of_ble_eq_true rfl, ?_⟩
  | mi_while ["vl var"] []
  | refine xe_int ?_ | refine xe_str ?_ | refine xe_bl ?_ | refine xe_non ?_
  | refine xe_ixL (XN.rd (xn_lst ?_)) | refine xe_ixT ?_ | refine xe_add ?_ | refine xe_mul ?_ | refine xe_sub ?_ | refine xe_div ?_ | refine xe_mod ?_ | refine xe_neg ?_
  | refine ⟨mulSz (by assumption) (by assumption), ?_⟩ | refine ⟨divSz (by assumption) (by assumption), ?_⟩
  | refine xt_gt ?_ | refine xt_lt ?_ | refine xt_le ?_ | refine xt_ge ?_ | refine xe_gt ?_ | refine xe_lt ?_ | refine xe_le ?_ | refine xe_ge ?_
  | refine xe_if ?_ | refine xe_tup ?_ | refine xa_cons ?_ | refine xa_nil ?_
  | refine XN.data (xn_lst ?_) | refine xn_lst ?_
  | (refine' xe_call ?hF ?hR ?hA ?hN; (case hF => assumption); (case hR => assumption); (case hN => decide)))
local macro_rules | `(tactic| mi_while ["vl set"] []) => `(tactic| first | refine xb_cons (xs_set 0 ?_ (by assumption)) | refine xb_cons (xs_set 1 ?_ (by assumption)) | refine xb_cons (xs_set 2 ?_ (by assumption)) | refine xb_cons (xs_set 3 ?_ (by assumption)) | refine xb_cons (xs_set 4 ?_ (by assumption)) | refine xb_cons (xs_set 5 ?_ (by assumption)) | refine xb_cons (xs_set 6 ?_ (by assumption)) | refine xb_cons (xs_set 7 ?_ (by assumption)) | refine xb_cons (xs_set 8 ?_ (by assumption)) | refine xb_cons (xs_set 9 ?_ (by assumption)) | refine xb_cons (xs_set 10 ?_ (by assumption)) | refine xb_cons (xs_set 11 ?_ (by assumption)) | refine xb_cons (xs_set 12 ?_ (by assumption)))
local macro_rules | `(tactic| mi_while ["vl tg"] []) => `(tactic| first | refine xgs_nil ?_ | refine xgs_cons ?_ | refine xg_tup ?_ rfl | refine xg_lst ?_ rfl | refine xg_name 0 ?_ (by assumption) | refine xg_name 1 ?_ (by assumption) | refine xg_name 2 ?_ (by assumption) | refine xg_name 3 ?_ (by assumption) | refine xg_name 4 ?_ (by assumption) | refine xg_name 5 ?_ (by assumption) | refine xg_name 6 ?_ (by assumption) | refine xg_name 7 ?_ (by assumption) | refine xg_name 8 ?_ (by assumption))
local macro_rules | `(tactic| mi_while ["vl st"] []) => `(tactic| first
  | refine xb_cons (xs_ret ?_)
  | mi_while ["vl set"] []
  | mi_while ["vl tg"] []
  | refine xb_cons (xs_asg (tg := .Tuple _ _ _) ?_)
  | refine xb_nil ?_)
local macro_rules | `(tactic| mi_while ["vl"] []) => `(tactic| repeat (first | mi_while ["vl exp"] [] | mi_while ["vl st"] []))
/-! texts -/
def frS (x : Rat) : Str := if (x.den : Int) = 1 then (toString x.num : Str) else ((toString x.num : Str) ++ "/") ++ (toString (x.den : Int) : Str)
def pgS (n : Int) (m : Mv) : Str := (((("factor " : Str) ++ (toString n : Str)) ++ " zoom " ++ (toString m.k : Str)) ++ " turn " ++ (toString m.q : Str)) ++ " at " ++ ((frS m.x ++ " ") ++ frS m.y)
section
variable {P : Program} {w : World} {K : PySem.W.Frag} {mg : Str → Option Value} {base : Heap} {f : Addr} {fd : FuncData} {C : Addr}
theorem numLen {B : Nat} {i : Int} (h : Sz B i) (l : B < 1920 := by omega) : i.natAbs.log2 < 1920 ∧ ((toString i : Str)).length ≤ 1921 := by
  have := h.log
  exact ⟨by omega, PyProof.Rows.int_text_len_1921 (by omega)⟩
theorem slashLen : (("/" : Str)).length = 1 := rfl
theorem frLen {x : Rat} (h : SzQ 1900 x) : (frS x).length ≤ 3850 := by
  have h1 := (numLen h.1).2
  have h2 := (numLen h.2).2
  unfold frS
  split
  · omega
  · rw [strLen_append, strLen_append, slashLen]
    omega
def cFrText : Con := fun ds k => ∃ x : Rat, ds = [frD x] ∧ SzQ 1900 x ∧ k (.str (frS x))
theorem sc_fraction_text : FnScope ["value"] ["value"] (defScope (top 24)) := ⟨rfl, rfl, rfl, by decide +kernel, rfl, by decide +kernel, by decide +kernel⟩
theorem ok_fraction_text (F : Fun K "fraction_text" "fraction_text" (top 24) f fd) (B : Bt mg) : FnOk P w K mg base CX0 1 f fd ["value"] (spC K 1 cFrText) := by
  refine xdef F sc_fraction_text fun ds k hl hc cdv A outer s H E hr => ?_
  have nd := sc_fraction_text.nd
  obtain ⟨x, rfl, hx, hk⟩ := hc
  have h1 := numLen hx.1
  have h2 := numLen hx.2
  have sl := sizeLine_eq
  refine xb_cons (xs_ret (xe_if (xt_eq ?_)))
  mi_while ["vl"] []
  show if decide ((x.den : Int) = 1) = true then _ else _
  by_cases h : (x.den : Int) = 1
  · rw [decide_eq_true h]
    refine iteT (xe_strI B.str ?_)
    mi_while ["vl"] []
    refine ⟨h1.1, ?_⟩
    unfold frS at hk
    rw [if_pos h] at hk
    exact hk
  · rw [decide_eq_false h]
    refine iteF (xe_joined ?_)
    show VL.XE _ _ _ _
    refine xe_fmt ?_
    mi_while ["vl"] []
    refine .inr ⟨_, rfl, h1.1, _, rfl, ?_, ?_⟩
    · rw [Str.empty_append]; omega
    rw [Str.empty_append]
    refine xe_str ⟨_, rfl, ?_, ?_⟩
    · rw [strLen_append, slashLen]; omega
    refine xe_fmt ?_
    mi_while ["vl"] []
    refine .inr ⟨_, rfl, h2.1, _, rfl, ?_, ?_⟩
    · rw [strLen_append, strLen_append, slashLen]; omega
    unfold frS at hk
    rw [if_neg h] at hk
    exact hk
def cStr (C : Addr) : Con := fun ds k => ∃ n m, ds = [vwD C n m] ∧ VOk n m ∧ SzQ 1900 m.x ∧ SzQ 1900 m.y ∧ k (.str (pgS n m))
theorem joinP (a b c x y : Str) : Txt.join " " ["factor", a, "zoom", b, "turn", c, "at", x, y] = (((("factor " : Str) ++ a) ++ " zoom " ++ b) ++ " turn " ++ c) ++ " at " ++ ((x ++ " ") ++ y) := by
  have e1 : ("factor " : Str) = ("factor" : Str) ++ " " := by decide +kernel
  have e2 : (" zoom " : Str) = (" " : Str) ++ "zoom" ++ " " := by decide +kernel
  have e3 : (" turn " : Str) = (" " : Str) ++ "turn" ++ " " := by decide +kernel
  have e4 : (" at " : Str) = (" " : Str) ++ "at" ++ " " := by decide +kernel
  rw [e1, e2, e3, e4]
  refine Str.ext' ?_
  unfold Txt.join Builtin.Str.glued
  simp only [List.drop_succ_cons, List.drop_zero, List.foldl_cons, List.foldl_nil, List.headD_cons, Str.cps_append, Array.append_assoc]
theorem sc_View___str__ : FnScope ["self", "words", "part"] ["self"] (defScope (meth 39 10)) := ⟨rfl, rfl, rfl, by decide +kernel, rfl, by decide +kernel, by decide +kernel⟩
theorem ok_str (F : Fun K "__str__" "View.__str__" (meth 39 10) f fd) (B : Bt mg) (V : Vc K C) (Ht : Fn P w K mg base 1 "fraction_text" ["value"] cFrText) : FnOk P w K mg base CX0 2 f fd ["self"] (spC K 1 (cStr C)) := by
  refine xdef F sc_View___str__ fun ds k hl hc cdv A outer s H E hr => ?_
  have nd := sc_View___str__.nd
  obtain ⟨n, m, rfl, h, sx, sy, hk⟩ := hc
  obtain ⟨p0, t0⟩ := V.s0
  obtain ⟨p1, t1⟩ := V.s1
  obtain ⟨p2, t2⟩ := V.s2
  obtain ⟨p3, t3⟩ := V.s3
  have hn := numLen (B := 60) (i := n) (by have := h.n1; have := h.n2; unfold Sz; omega)
  have hz := numLen (B := 60) (i := m.k) (by have := h.k1; have := h.k2; unfold Sz; omega)
  have hq := numLen (B := 60) (i := m.q) (by have := h.q1; have := h.q2; unfold Sz; omega)
  have lx := frLen sx
  have ly := frLen sy
  refine xb_cons (xs_setN 1 (xn_lst ?_) nd)
  mi_while ["vl"] []
  refine xe_strI B.str (xe_slot V.sc t0 ?_)
  mi_while ["vl var"] []
  refine ⟨_, _, rfl, rfl, _, rfl, hn.1, ?_⟩
  mi_while ["vl"] []
  refine xe_strI B.str (xe_slot V.sc t1 ?_)
  mi_while ["vl var"] []
  refine ⟨_, _, rfl, rfl, _, rfl, hz.1, ?_⟩
  mi_while ["vl"] []
  refine xe_strI B.str (xe_slot V.sc t2 ?_)
  mi_while ["vl var"] []
  refine ⟨_, _, rfl, rfl, _, rfl, hq.1, ?_⟩
  mi_while ["vl"] []
  refine xb_cons (xs_ext 1 rfl (xn_lcT 2 (W := fun i acc => acc = ([m.x, m.y].take i).map fun z => D.str (frS z)) (ds := [frD m.x, frD m.y]) (xe_slot V.sc t3 ?_) ?_ nd))
  · mi_while ["vl var"] []
    refine ⟨_, _, rfl, rfl, rfl, rfl, fun acc hacc => ?_⟩
    subst hacc
    refine ⟨by simp, ?_⟩
    refine xb_cons (xs_ret (xe_join (xe_str ⟨_, rfl, xl_own 1 rfl ⟨["factor", (toString n : Str), "zoom", (toString m.k : Str), "turn", (toString m.q : Str), "at", frS m.x, frS m.y], rfl, ?_, ?_⟩⟩)))
    · have l1 : (("factor" : Str)).length = 6 := rfl
      have l2 : (("zoom" : Str)).length = 4 := rfl
      have l3 : (("turn" : Str)).length = 4 := rfl
      have l4 : (("at" : Str)).length = 2 := rfl
      have l5 : ((" " : Str)).length = 1 := rfl
      simp only [List.map_cons, List.map_nil, List.sum_cons, List.sum_nil, List.length_cons, List.length_nil, l1, l2, l3, l4, l5]
      omega
    · rw [joinP]
      exact hk
  · intro s2 H2 C2 cl fp i d acc hd hacc
    have hi : i < 2 := get_lt hd
    have : ∃ z, SzQ 1900 z ∧ d = frD z ∧ [m.x, m.y][i]? = some z := by
      match i, hi with
      | 0, _ => exact ⟨m.x, sx, (Option.some.inj hd).symm, rfl⟩
      | 1, _ => exact ⟨m.y, sy, (Option.some.inj hd).symm, rfl⟩
    obtain ⟨z, sz, rfl, hz2⟩ := this
    mi_while ["vl"] []
    refine ⟨sz, ?_, ?_⟩
    · subst hacc
      simp
      omega
    · subst hacc
      rw [List.take_succ, hz2]
      simp
theorem sc_View_text : FnScope ["self"] ["self"] (defScope (meth 39 7)) := ⟨rfl, rfl, rfl, by decide +kernel, rfl, by decide +kernel, by decide +kernel⟩
theorem ok_text (F : Fun K "text" "View.text" (meth 39 7) f fd) (B : Bt mg) {g : Addr} (hs : PySem.W.findIn K (.ref C) "__str__" = some (some (.ref g))) (hf : PySem.W.isFn K (.ref g) = true) (Hs : FnA P w K mg base 2 g ["self"] (cStr C)) : FnOk P w K mg base CX0 5 f fd ["self"] (spC K 1 (cStr C)) := by
  refine xdef F sc_View_text fun ds k hl hc cdv A outer s H E hr => ?_
  have nd := sc_View_text.nd
  obtain ⟨n, m, rfl, h, sx, sy, hk⟩ := hc
  refine xb_cons (xs_ret (xe_strO B.str hs hf Hs hr ?_))
  mi_while ["vl var"] []
  exact ⟨_, rfl, n, m, rfl, h, sx, sy, _, rfl, hk⟩
end
end G

set_option Elab.async false
set_option linter.all false
set_option maxRecDepth 100000
set_option maxHeartbeats 4000000
namespace G
open PySem L2 VL VM
local macro_rules | `(tactic| mi_while ["vl var"] []) => `(tactic| first | refine xe_var 0 rfl ?_ | refine xe_var 1 rfl ?_ | refine xe_var 2 rfl ?_ | refine xe_var 3 rfl ?_ | refine xe_var 4 rfl ?_ | refine xe_var 5 rfl ?_ | refine xe_var 6 rfl ?_ | refine xe_var 7 rfl ?_ | refine xe_var 8 rfl ?_ | refine xe_var 9 rfl ?_ | refine xe_var 10 rfl ?_ | refine xe_var 11 rfl ?_ | refine xe_var 12 rfl ?_ | refine xe_var 13 rfl ?_ | refine xe_var 14 rfl ?_ | refine xe_var 15 rfl ?_ | refine xe_var 16 rfl ?_)
local macro_rules | `(tactic| mi_while ["vl exp"] []) => `(tactic| first
  | refine ⟨_, rfl, ?_⟩ | refine ⟨rfl, ?_⟩ | refine ⟨Nat.le_of_ble_eq_true rfl, ?_⟩
  | mi_while ["vl var"] []
  | refine xe_int ?_ | refine xe_str ?_ | refine xe_bl ?_ | refine xe_non ?_
  | refine xe_ixL (XN.rd (xn_lst ?_)) | refine xe_ixT ?_ | refine xe_add ?_ | refine xe_mul ?_ | refine xe_sub ?_ | refine xe_div ?_ | refine xe_mod ?_ | refine xe_neg ?_
  | refine ⟨mulSz (by assumption) (by assumption), ?_⟩ | refine ⟨divSz (by assumption) (by assumption), ?_⟩
  | refine xt_gt ?_ | refine xt_lt ?_ | refine xt_le ?_ | refine xt_ge ?_ | refine xe_gt ?_ | refine xe_lt ?_ | refine xe_le ?_ | refine xe_ge ?_
  | refine xe_if ?_ | refine xe_tup ?_ | refine xa_cons ?_ | refine xa_nil ?_
  | refine XN.data (xn_lst ?_) | refine xn_lst ?_
  | (refine' xe_call ?hF ?hR ?hA ?hN; (case hF => assumption); (case hR => assumption); (case hN => decide)))
local macro_rules | `(tactic| mi_while ["vl set"] []) => `(tactic| first | refine xb_cons (xs_set 0 ?_ (by assumption)) | refine xb_cons (xs_set 1 ?_ (by assumption)) | refine xb_cons (xs_set 2 ?_ (by assumption)) | refine xb_cons (xs_set 3 ?_ (by assumption)) | refine xb_cons (xs_set 4 ?_ (by assumption)) | refine xb_cons (xs_set 5 ?_ (by assumption)) | refine xb_cons (xs_set 6 ?_ (by assumption)) | refine xb_cons (xs_set 7 ?_ (by assumption)) | refine xb_cons (xs_set 8 ?_ (by assumption)) | refine xb_cons (xs_set 9 ?_ (by assumption)) | refine xb_cons (xs_set 10 ?_ (by assumption)) | refine xb_cons (xs_set 11 ?_ (by assumption)) | refine xb_cons (xs_set 12 ?_ (by assumption)))
local macro_rules | `(tactic| mi_while ["vl tg"] []) => `(tactic| first | refine xgs_nil ?_ | refine xgs_cons ?_ | refine xg_tup ?_ rfl | refine xg_lst ?_ rfl | refine xg_name 0 ?_ (by assumption) | refine xg_name 1 ?_ (by assumption) | refine xg_name 2 ?_ (by assumption) | refine xg_name 3 ?_ (by assumption) | refine xg_name 4 ?_ (by assumption) | refine xg_name 5 ?_ (by assumption) | refine xg_name 6 ?_ (by assumption) | refine xg_name 7 ?_ (by assumption) | refine xg_name 8 ?_ (by assumption))
local macro_rules | `(tactic| mi_while ["vl st"] []) => `(tactic| first
  | refine xb_cons (xs_ret ?_)
  | mi_while ["vl set"] []
  | mi_while ["vl tg"] []
  | refine xb_cons (xs_asg (tg := .Tuple _ _ _) ?_)
  | refine xb_nil ?_)
local macro_rules | `(tactic| mi_while ["vl"] []) => `(tactic| repeat (first | mi_while ["vl exp"] [] | mi_while ["vl st"] []))
section
variable {P : Program} {w : World} {K : PySem.W.Frag} {mg : Str → Option Value} {base : Heap} {f : Addr} {fd : FuncData} {C : Addr}
/-! checks -/
def cCkV (C : Addr) : Con := fun ds k => ∃ n m, ds = [vwD C n m] ∧ k .non
/-- the property factor -/
structure Pf (P : Program) (w : World) (K : PySem.W.Frag) (mg : Str → Option Value) (base : Heap) (C : Addr) : Prop where
  ex : ∃ pa g, PropAt K C "factor" pa g ∧ FnA P w K mg base 1 g ["self"] (cSlot C 0)
/-! then, undone -/
def SzM (B : Nat) (m : Mv) : Prop := SzQ B m.x ∧ SzQ B m.y
/-! == of views -/
theorem fr_inj {x y : Rat} (h1 : x.num = y.num) (h2 : (x.den : Int) = y.den) : x = y := Rat.ext h1 (by omega)
def cEq (C : Addr) : Con := fun ds k => ∃ n m n' m', ds = [vwD C n m, vwD C n' m'] ∧ ∀ t : Bool, (t = true ↔ n = n' ∧ m = m') → k (.bl t)
def py4 (n : Int) (m : Mv) : PyData := .tuple [.int n, .int m.k, .int m.q, .tuple [.tuple [.int m.x.num, .int m.x.den], .tuple [.int m.y.num, .int m.y.den]]]
theorem py4_shaped (n : Int) (m : Mv) : SeqAt.shaped (py4 n m) = true := by
  unfold SeqAt.shaped py4
  simp [PyData.canLay0, PyData.canLayAll0, PyData.depth, PyData.depthAll]
theorem py4_eq (n n' : Int) (m m' : Mv) : PyData.eqv (py4 n m) (py4 n' m') = true ↔ n = n' ∧ m = m' := by
  unfold py4
  simp only [PyData.eqv, PyData.eqvAll, Bool.and_true, Bool.and_eq_true, beq_iff_eq]
  constructor
  · rintro ⟨h1, h2, h3, ⟨h4, h5⟩, h6, h7⟩
    exact ⟨h1, mv_ext h2 h3 (fr_inj h4 h5) (fr_inj h6 h7)⟩
  · rintro ⟨h1, h2⟩
    subst h1 h2
    exact ⟨rfl, rfl, rfl, ⟨rfl, rfl⟩, rfl, rfl⟩
theorem sc_View___eq__ : FnScope ["self", "other", "mine"] ["self", "other"] (defScope (meth 39 9)) := ⟨rfl, rfl, rfl, by decide +kernel, rfl, by decide +kernel, by decide +kernel⟩
theorem ok_eq (F : Fun K "__eq__" "View.__eq__" (meth 39 9) f fd) (B : Bt mg) (V : Vc K C) (hC : mg "View" = some (.ref C)) : FnOk P w K mg base CX0 1 f fd ["self", "other"] (spC K 2 (cEq C)) := by
  refine xdef F sc_View___eq__ fun ds k hl hc cdv A outer s H E hr => ?_
  have nd := sc_View___eq__.nd
  obtain ⟨n, m, n', m', rfl, hk⟩ := hc
  obtain ⟨p0, t0⟩ := V.s0
  obtain ⟨p1, t1⟩ := V.s1
  obtain ⟨p2, t2⟩ := V.s2
  obtain ⟨p3, t3⟩ := V.s3
  refine xb_cons (xs_if (xt_not (xt_val (xe_isiO B.isi hC ?_))))
  mi_while ["vl var"] []
  refine ⟨C, _, true, rfl, V.sc, V.si, V.same, true, rfl, iteF (xb_nil ?_)⟩
  refine xb_cons (xs_set 2 (xe_tup (xa_cons (xe_slot V.sc t0 ?_))) nd)
  mi_while ["vl var"] []
  refine ⟨_, _, rfl, rfl, xa_cons (xe_slot V.sc t1 ?_)⟩
  mi_while ["vl var"] []
  refine ⟨_, _, rfl, rfl, xa_cons (xe_slot V.sc t2 ?_)⟩
  mi_while ["vl var"] []
  refine ⟨_, _, rfl, rfl, xa_cons (xe_slot V.sc t3 ?_)⟩
  mi_while ["vl var"] []
  refine ⟨_, _, rfl, rfl, xa_nil ⟨Nat.le_of_ble_eq_true rfl, ?_⟩⟩
  refine xb_cons (xs_ret (xe_eqD hr ?_))
  mi_while ["vl var"] []
  refine xe_tup (xa_cons (xe_slot V.sc t0 ?_))
  mi_while ["vl var"] []
  refine ⟨_, _, rfl, rfl, xa_cons (xe_slot V.sc t1 ?_)⟩
  mi_while ["vl var"] []
  refine ⟨_, _, rfl, rfl, xa_cons (xe_slot V.sc t2 ?_)⟩
  mi_while ["vl var"] []
  refine ⟨_, _, rfl, rfl, xa_cons (xe_slot V.sc t3 ?_)⟩
  mi_while ["vl var"] []
  refine ⟨_, _, rfl, rfl, xa_nil ⟨Nat.le_of_ble_eq_true rfl, ?_⟩⟩
  refine ⟨PyData.eqv (py4 n m) (py4 n' m'), ⟨py4 n m, py4 n' m', ?_, ?_, py4_shaped .., py4_shaped .., rfl⟩, hk _ (py4_eq n n' m m')⟩
  · simp [pyD, pyL, py4]
  · simp [pyD, pyL, py4]
end
end G

set_option Elab.async false
set_option linter.all false
set_option maxRecDepth 100000
set_option maxHeartbeats 4000000
namespace G
open PySem L2 VL VM
local macro_rules | `(tactic| mi_while ["vl var"] []) => `(tactic| first | refine xe_var 0 rfl ?_ | refine xe_var 1 rfl ?_ | refine xe_var 2 rfl ?_ | refine xe_var 3 rfl ?_ | refine xe_var 4 rfl ?_ | refine xe_var 5 rfl ?_ | refine xe_var 6 rfl ?_ | refine xe_var 7 rfl ?_ | refine xe_var 8 rfl ?_ | refine xe_var 9 rfl ?_ | refine xe_var 10 rfl ?_ | refine xe_var 11 rfl ?_ | refine xe_var 12 rfl ?_ | refine xe_var 13 rfl ?_ | refine xe_var 14 rfl ?_ | refine xe_var 15 rfl ?_ | refine xe_var 16 rfl ?_)
local macro_rules | `(tactic| mi_while ["vl exp"] []) => `(tactic| first
  | refine ⟨_, rfl, ?_⟩ | refine ⟨rfl, ?_⟩ | refine ⟨Nat.le_of_ble_eq_true rfl, ?_⟩
  | mi_while ["vl var"] []
  | refine xe_int ?_ | refine xe_str ?_ | refine xe_bl ?_ | refine xe_non ?_
  | refine xe_ixL (XN.rd (xn_lst ?_)) | refine xe_ixT ?_ | refine xe_add ?_ | refine xe_mul ?_ | refine xe_sub ?_ | refine xe_div ?_ | refine xe_mod ?_ | refine xe_neg ?_
  | refine ⟨mulSz (by assumption) (by assumption), ?_⟩ | refine ⟨divSz (by assumption) (by assumption), ?_⟩
  | refine xt_gt ?_ | refine xt_lt ?_ | refine xt_le ?_ | refine xt_ge ?_ | refine xe_gt ?_ | refine xe_lt ?_ | refine xe_le ?_ | refine xe_ge ?_
  | refine xe_if ?_ | refine xe_tup ?_ | refine xa_cons ?_ | refine xa_nil ?_
  | refine XN.data (xn_lst ?_) | refine xn_lst ?_
  | (refine' xe_call ?hF ?hR ?hA ?hN; (case hF => assumption); (case hR => assumption); (case hN => decide)))
local macro_rules | `(tactic| mi_while ["vl set"] []) => `(tactic| first | refine xb_cons (xs_set 0 ?_ (by assumption)) | refine xb_cons (xs_set 1 ?_ (by assumption)) | refine xb_cons (xs_set 2 ?_ (by assumption)) | refine xb_cons (xs_set 3 ?_ (by assumption)) | refine xb_cons (xs_set 4 ?_ (by assumption)) | refine xb_cons (xs_set 5 ?_ (by assumption)) | refine xb_cons (xs_set 6 ?_ (by assumption)) | refine xb_cons (xs_set 7 ?_ (by assumption)) | refine xb_cons (xs_set 8 ?_ (by assumption)) | refine xb_cons (xs_set 9 ?_ (by assumption)) | refine xb_cons (xs_set 10 ?_ (by assumption)) | refine xb_cons (xs_set 11 ?_ (by assumption)) | refine xb_cons (xs_set 12 ?_ (by assumption)))
local macro_rules | `(tactic| mi_while ["vl tg"] []) => `(tactic| first | refine xgs_nil ?_ | refine xgs_cons ?_ | refine xg_tup ?_ rfl | refine xg_lst ?_ rfl | refine xg_name 0 ?_ (by assumption) | refine xg_name 1 ?_ (by assumption) | refine xg_name 2 ?_ (by assumption) | refine xg_name 3 ?_ (by assumption) | refine xg_name 4 ?_ (by assumption) | refine xg_name 5 ?_ (by assumption) | refine xg_name 6 ?_ (by assumption) | refine xg_name 7 ?_ (by assumption) | refine xg_name 8 ?_ (by assumption))
local macro_rules | `(tactic| mi_while ["vl st"] []) => `(tactic| first
  | refine xb_cons (xs_ret ?_)
  | mi_while ["vl set"] []
  | mi_while ["vl tg"] []
  | refine xb_cons (xs_asg (tg := .Tuple _ _ _) ?_)
  | refine xb_nil ?_)
local macro_rules | `(tactic| mi_while ["vl"] []) => `(tactic| repeat (first | mi_while ["vl exp"] [] | mi_while ["vl st"] []))
section
variable {P : Program} {w : World} {K : PySem.W.Frag} {mg : Str → Option Value} {base : Heap} {f : Addr} {fd : FuncData} {C : Addr}
/-! draws -/
theorem iteB {A B : Prop} (b : Bool) (h1 : A) (h2 : B) : if b = true then A else B := by cases b with
  | true => exact iteT h1
  | false => exact iteF h2
def cDraw : Con := fun ds k => ∃ many : Int, ds = [.tok, .int many] ∧ 0 < many ∧ many < 1073741824 ∧ ∀ r, 0 ≤ r → r < many → k (.int r)
theorem atT {ds : List D} {i : Nat} {d : D} (h : ds[i]? = some d) : atI ds (i : Int) = some d := by
  have := get_lt h
  unfold atI ixN
  rw [if_pos (by omega), if_pos (by omega)]
  simpa using h
def cCask : Con := fun ds k => ∃ (ns : List Int) (at_ : Nat), ds = [.lst (ns.map .int), .int at_] ∧ ns.length ≤ 1000 ∧ k .tok
theorem cut_int (ns : List Int) (lo hi : Option Int) : ∃ ms : List Int, cutD (ns.map D.int) lo hi = ms.map D.int ∧ ms.length ≤ ns.length := by
  unfold cutD
  refine ⟨(ns.drop (HT.sIx ns.length 0 lo)).take (HT.sIx ns.length ns.length hi - HT.sIx ns.length 0 lo), ?_, ?_⟩
  · rw [List.length_map, List.map_take, List.map_drop]
  · rw [List.length_take, List.length_drop]; omega
end
end G

set_option Elab.async false
set_option linter.all false
set_option maxRecDepth 100000
set_option maxHeartbeats 4000000
namespace G
open PySem L2 VL VM
local macro_rules | `(tactic| mi_while ["vl var"] []) => `(tactic| first | refine xe_var 0 rfl ?_ | refine xe_var 1 rfl ?_ | refine xe_var 2 rfl ?_ | refine xe_var 3 rfl ?_ | refine xe_var 4 rfl ?_ | refine xe_var 5 rfl ?_ | refine xe_var 6 rfl ?_ | refine xe_var 7 rfl ?_ | refine xe_var 8 rfl ?_ | refine xe_var 9 rfl ?_ | refine xe_var 10 rfl ?_ | refine xe_var 11 rfl ?_ | refine xe_var 12 rfl ?_ | refine xe_var 13 rfl ?_ | refine xe_var 14 rfl ?_ | refine xe_var 15 rfl ?_ | refine xe_var 16 rfl ?_)
local macro_rules | `(tactic| mi_while ["vl exp"] []) => `(tactic| first
  | refine ⟨_, rfl, ?_⟩ | refine ⟨rfl, ?_⟩ | refine ⟨Nat.le_of_ble_eq_true rfl, ?_⟩
  | mi_while ["vl var"] []
  | refine xe_int ?_ | refine xe_str ?_ | refine xe_bl ?_ | refine xe_non ?_
  | refine xe_ixL (XN.rd (xn_lst ?_)) | refine xe_ixT ?_ | refine xe_add ?_ | refine xe_mul ?_ | refine xe_sub ?_ | refine xe_div ?_ | refine xe_mod ?_ | refine xe_neg ?_
  | refine ⟨mulSz (by assumption) (by assumption), ?_⟩ | refine ⟨divSz (by assumption) (by assumption), ?_⟩
  | refine xt_gt ?_ | refine xt_lt ?_ | refine xt_le ?_ | refine xt_ge ?_ | refine xe_gt ?_ | refine xe_lt ?_ | refine xe_le ?_ | refine xe_ge ?_
  | refine xe_if ?_ | refine xe_tup ?_ | refine xa_cons ?_ | refine xa_nil ?_
  | refine XN.data (xn_lst ?_) | refine xn_lst ?_
  | (refine' xe_call ?hF ?hR ?hA ?hN; (case hF => assumption); (case hR => assumption); (case hN => decide)))
local macro_rules | `(tactic| mi_while ["vl set"] []) => `(tactic| first | refine xb_cons (xs_set 0 ?_ (by assumption)) | refine xb_cons (xs_set 1 ?_ (by assumption)) | refine xb_cons (xs_set 2 ?_ (by assumption)) | refine xb_cons (xs_set 3 ?_ (by assumption)) | refine xb_cons (xs_set 4 ?_ (by assumption)) | refine xb_cons (xs_set 5 ?_ (by assumption)) | refine xb_cons (xs_set 6 ?_ (by assumption)) | refine xb_cons (xs_set 7 ?_ (by assumption)) | refine xb_cons (xs_set 8 ?_ (by assumption)) | refine xb_cons (xs_set 9 ?_ (by assumption)) | refine xb_cons (xs_set 10 ?_ (by assumption)) | refine xb_cons (xs_set 11 ?_ (by assumption)) | refine xb_cons (xs_set 12 ?_ (by assumption)))
local macro_rules | `(tactic| mi_while ["vl tg"] []) => `(tactic| first | refine xgs_nil ?_ | refine xgs_cons ?_ | refine xg_tup ?_ rfl | refine xg_lst ?_ rfl | refine xg_name 0 ?_ (by assumption) | refine xg_name 1 ?_ (by assumption) | refine xg_name 2 ?_ (by assumption) | refine xg_name 3 ?_ (by assumption) | refine xg_name 4 ?_ (by assumption) | refine xg_name 5 ?_ (by assumption) | refine xg_name 6 ?_ (by assumption) | refine xg_name 7 ?_ (by assumption) | refine xg_name 8 ?_ (by assumption))
local macro_rules | `(tactic| mi_while ["vl st"] []) => `(tactic| first
  | refine xb_cons (xs_ret ?_)
  | mi_while ["vl set"] []
  | mi_while ["vl tg"] []
  | refine xb_cons (xs_asg (tg := .Tuple _ _ _) ?_)
  | refine xb_nil ?_)
local macro_rules | `(tactic| mi_while ["vl"] []) => `(tactic| repeat (first | mi_while ["vl exp"] [] | mi_while ["vl st"] []))
section
variable {P : Program} {w : World} {K : PySem.W.Frag} {mg : Str → Option Value} {base : Heap} {f : Addr} {fd : FuncData} {C : Addr}
/-! the law's own fractions -/
theorem sc__law_power : FnScope ["n", "many", "found", "turn"] ["n", "many"] (defScope (top 106)) := ⟨rfl, rfl, rfl, by decide +kernel, rfl, by decide +kernel, by decide +kernel⟩
theorem ok_lpower (F : Fun K "_law_power" "_law_power" (top 106) f fd) (B : Bt mg) : FnOk P w K mg base CX0 1 f fd ["n", "many"] (spC K 2 cPower) := by
  refine xdef F sc__law_power fun ds k hl hc cdv A outer s H E hr => ?_
  have nd := sc__law_power.nd
  obtain ⟨n, e, rfl, hn, he, hk⟩ := hc
  mi_while ["vl"] []
  refine xb_cons (xs_forR 3 ?_ B.range nd)
  refine xe_var 1 rfl ?_
  refine ⟨e, rfl, by omega, fun m ρ => ∃ d, ρ = [.dat (.int n), .dat (.int e), .dat (.int (n ^ m)), d], ⟨.un, by rw [Int.pow_zero]; rfl⟩, ?_, ?_⟩
  · rintro m ρ hm ⟨d, rfl⟩
    refine xb_cons (xs_set 2 (xe_mul (xe_var 2 rfl ⟨_, rfl, xe_var 0 rfl ⟨_, rfl, mulL hn, ?_⟩⟩)) nd)
    refine xb_nil ⟨.dat (.int m), ?_⟩
    rw [Int.pow_succ]
    rfl
  · rintro ρ ⟨d, rfl⟩
    mi_while ["vl"] []
    simpa using hk
end
end G

set_option Elab.async false
set_option linter.all false
set_option maxRecDepth 100000
set_option maxHeartbeats 4000000
namespace G
open PySem L2 VL VM
local macro_rules | `(tactic| mi_while ["vl var"] []) => `(tactic| first | refine xe_var 0 rfl ?_ | refine xe_var 1 rfl ?_ | refine xe_var 2 rfl ?_ | refine xe_var 3 rfl ?_ | refine xe_var 4 rfl ?_ | refine xe_var 5 rfl ?_ | refine xe_var 6 rfl ?_ | refine xe_var 7 rfl ?_ | refine xe_var 8 rfl ?_ | refine xe_var 9 rfl ?_ | refine xe_var 10 rfl ?_ | refine xe_var 11 rfl ?_ | refine xe_var 12 rfl ?_ | refine xe_var 13 rfl ?_ | refine xe_var 14 rfl ?_ | refine xe_var 15 rfl ?_ | refine xe_var 16 rfl ?_)
local macro_rules | `(tactic| mi_while ["vl exp"] []) => `(tactic| first
  | refine ⟨_, rfl, ?_⟩ | refine ⟨rfl, ?_⟩ | refine ⟨Nat.le_of_ble_eq_true rfl, ?_⟩
  | mi_while ["vl var"] []
  | refine xe_int ?_ | refine xe_str ?_ | refine xe_bl ?_ | refine xe_non ?_
  | refine xe_ixL (XN.rd (xn_lst ?_)) | refine xe_ixT ?_ | refine xe_add ?_ | refine xe_mul ?_ | refine xe_sub ?_ | refine xe_div ?_ | refine xe_mod ?_ | refine xe_neg ?_
  | refine ⟨mulSz (by assumption) (by assumption), ?_⟩ | refine ⟨divSz (by assumption) (by assumption), ?_⟩
  | refine xt_gt ?_ | refine xt_lt ?_ | refine xt_le ?_ | refine xt_ge ?_ | refine xe_gt ?_ | refine xe_lt ?_ | refine xe_le ?_ | refine xe_ge ?_
  | refine xe_if ?_ | refine xe_tup ?_ | refine xa_cons ?_ | refine xa_nil ?_
  | refine XN.data (xn_lst ?_) | refine xn_lst ?_
  | (refine' xe_call ?hF ?hR ?hA ?hN; (case hF => assumption); (case hR => assumption); (case hN => decide)))
local macro_rules | `(tactic| mi_while ["vl set"] []) => `(tactic| first | refine xb_cons (xs_set 0 ?_ (by assumption)) | refine xb_cons (xs_set 1 ?_ (by assumption)) | refine xb_cons (xs_set 2 ?_ (by assumption)) | refine xb_cons (xs_set 3 ?_ (by assumption)) | refine xb_cons (xs_set 4 ?_ (by assumption)) | refine xb_cons (xs_set 5 ?_ (by assumption)) | refine xb_cons (xs_set 6 ?_ (by assumption)) | refine xb_cons (xs_set 7 ?_ (by assumption)) | refine xb_cons (xs_set 8 ?_ (by assumption)) | refine xb_cons (xs_set 9 ?_ (by assumption)) | refine xb_cons (xs_set 10 ?_ (by assumption)) | refine xb_cons (xs_set 11 ?_ (by assumption)) | refine xb_cons (xs_set 12 ?_ (by assumption)))
local macro_rules | `(tactic| mi_while ["vl tg"] []) => `(tactic| first | refine xgs_nil ?_ | refine xgs_cons ?_ | refine xg_tup ?_ rfl | refine xg_lst ?_ rfl | refine xg_name 0 ?_ (by assumption) | refine xg_name 1 ?_ (by assumption) | refine xg_name 2 ?_ (by assumption) | refine xg_name 3 ?_ (by assumption) | refine xg_name 4 ?_ (by assumption) | refine xg_name 5 ?_ (by assumption) | refine xg_name 6 ?_ (by assumption) | refine xg_name 7 ?_ (by assumption) | refine xg_name 8 ?_ (by assumption))
local macro_rules | `(tactic| mi_while ["vl st"] []) => `(tactic| first
  | refine xb_cons (xs_ret ?_)
  | mi_while ["vl set"] []
  | mi_while ["vl tg"] []
  | refine xb_cons (xs_asg (tg := .Tuple _ _ _) ?_)
  | refine xb_nil ?_)
local macro_rules | `(tactic| mi_while ["vl"] []) => `(tactic| repeat (first | mi_while ["vl exp"] [] | mi_while ["vl st"] []))
section
variable {P : Program} {w : World} {K : PySem.W.Frag} {mg : Str → Option Value} {base : Heap} {f : Addr} {fd : FuncData} {C : Addr}
/-! drawn points and looks -/
theorem rp_frac {n t : Int} (n1 : 2 ≤ n) (n2 : n ≤ 10) (st : Sz 7 t) (j : Nat) (hj : j ≤ 2) : Rp n 2 16 ((t : Rat) / ((n ^ j : Int) : Rat)) := by
  have h : Rp n j 7 ((t : Rat) / ((n ^ j : Int) : Rat)) := by
    refine ⟨t, ?_, st⟩
    have : ((n ^ j : Int) : Rat) ≠ 0 := ratNz (Int.ne_of_gt (pow_pos' (by omega) _))
    rw [sc_nat]
    grind
  exact h.to n1 n2 hj (by omega)
def cSpot : Con := fun ds k => ∃ n : Int, ds = [.tok, .int n] ∧ 2 ≤ n ∧ n ≤ 10 ∧ ∀ x y, SzQ 7 x → SzQ 7 y → Rp n 2 16 x → Rp n 2 16 y → k (ptD x y)
abbrev lkD (m : Mv) : D := .lst [.int m.k, .int m.q, ptD m.x m.y]
/-- what a drawn look keeps -/
structure Lk (n : Int) (m : Mv) : Prop where
  k1 : -4 ≤ m.k
  k2 : m.k ≤ 3
  q1 : 0 ≤ m.q
  q2 : m.q ≤ 3
  sx : SzQ 7 m.x
  sy : SzQ 7 m.y
  fit : Fit n m.x m.y
  rm : Rm n 4 2 16 m
def cLook : Con := fun ds k => ∃ n : Int, ds = [.tok, .int n] ∧ 2 ≤ n ∧ n ≤ 10 ∧ ∀ m, Lk n m → k (lkD m)
theorem Lk.ok {n : Int} {m : Mv} (h : Lk n m) (n1 : 2 ≤ n) (n2 : n ≤ 10) : VOk n m := ⟨n1, n2, by have := h.k1; omega, by have := h.k2; omega, h.q1, h.q2, h.fit, h.sx.mono (by decide), h.sy.mono (by decide)⟩
def cMk (C : Addr) : Con := fun ds k => ∃ n m, ds = [.int n, lkD m] ∧ VOk n m ∧ k (vwD C n m)
end
end G

set_option Elab.async false
set_option linter.all false
set_option maxRecDepth 100000
set_option maxHeartbeats 4000000
namespace G
open PySem L2 VL VM
local macro_rules | `(tactic| mi_while ["vl var"] []) => `(tactic| first | refine xe_var 0 rfl ?_ | refine xe_var 1 rfl ?_ | refine xe_var 2 rfl ?_ | refine xe_var 3 rfl ?_ | refine xe_var 4 rfl ?_ | refine xe_var 5 rfl ?_ | refine xe_var 6 rfl ?_ | refine xe_var 7 rfl ?_ | refine xe_var 8 rfl ?_ | refine xe_var 9 rfl ?_ | refine xe_var 10 rfl ?_ | refine xe_var 11 rfl ?_ | refine xe_var 12 rfl ?_ | refine xe_var 13 rfl ?_ | refine xe_var 14 rfl ?_ | refine xe_var 15 rfl ?_ | refine xe_var 16 rfl ?_)
local macro_rules | `(tactic| mi_while ["vl exp"] []) => `(tactic| first
  | refine ⟨_, rfl, ?_⟩ | refine ⟨rfl, ?_⟩ | refine ⟨Nat.le_of_ble_eq_true rfl, ?_⟩
  | mi_while ["vl var"] []
  | refine xe_int ?_ | refine xe_str ?_ | refine xe_bl ?_ | refine xe_non ?_
  | refine xe_ixL (XN.rd (xn_lst ?_)) | (refine xe_ixT ?_; mi_while ["vl var"] []; refine ⟨_, rfl, ?_⟩) | (refine xe_ixL (XE.rd ?_); mi_while ["vl var"] []; refine ⟨_, rfl, ?_⟩) | refine xe_ixT ?_ | refine xe_add ?_ | refine xe_mul ?_ | refine xe_sub ?_ | refine xe_div ?_ | refine xe_mod ?_ | refine xe_neg ?_
  | refine ⟨mulSz (by assumption) (by assumption), ?_⟩ | refine ⟨divSz (by assumption) (by assumption), ?_⟩
  | refine xt_gt ?_ | refine xt_lt ?_ | refine xt_le ?_ | refine xt_ge ?_ | refine xe_gt ?_ | refine xe_lt ?_ | refine xe_le ?_ | refine xe_ge ?_
  | refine xe_if ?_ | refine xe_tup ?_ | refine xa_cons ?_ | refine xa_nil ?_
  | refine XN.data (xn_lst ?_) | refine xn_lst ?_
  | (refine' xe_call ?hF ?hR ?hA ?hN; (case hF => assumption); (case hR => assumption); (case hN => decide)))
local macro_rules | `(tactic| mi_while ["vl set"] []) => `(tactic| first | refine xb_cons (xs_set 0 ?_ (by assumption)) | refine xb_cons (xs_set 1 ?_ (by assumption)) | refine xb_cons (xs_set 2 ?_ (by assumption)) | refine xb_cons (xs_set 3 ?_ (by assumption)) | refine xb_cons (xs_set 4 ?_ (by assumption)) | refine xb_cons (xs_set 5 ?_ (by assumption)) | refine xb_cons (xs_set 6 ?_ (by assumption)) | refine xb_cons (xs_set 7 ?_ (by assumption)) | refine xb_cons (xs_set 8 ?_ (by assumption)) | refine xb_cons (xs_set 9 ?_ (by assumption)) | refine xb_cons (xs_set 10 ?_ (by assumption)) | refine xb_cons (xs_set 11 ?_ (by assumption)) | refine xb_cons (xs_set 12 ?_ (by assumption)))
local macro_rules | `(tactic| mi_while ["vl tg"] []) => `(tactic| first | refine xgs_nil ?_ | refine xgs_cons ?_ | refine xg_tup ?_ rfl | refine xg_lst ?_ rfl | refine xg_name 0 ?_ (by assumption) | refine xg_name 1 ?_ (by assumption) | refine xg_name 2 ?_ (by assumption) | refine xg_name 3 ?_ (by assumption) | refine xg_name 4 ?_ (by assumption) | refine xg_name 5 ?_ (by assumption) | refine xg_name 6 ?_ (by assumption) | refine xg_name 7 ?_ (by assumption) | refine xg_name 8 ?_ (by assumption) | refine xg_name 9 ?_ (by assumption) | refine xg_name 10 ?_ (by assumption) | refine xg_name 11 ?_ (by assumption) | refine xg_name 12 ?_ (by assumption))
local macro_rules | `(tactic| mi_while ["vl st"] []) => `(tactic| first
  | refine xb_cons (xs_ret ?_)
  | mi_while ["vl set"] []
  | mi_while ["vl tg"] []
  | refine xb_cons (xs_asg (tg := .Tuple _ _ _) ?_)
  | refine xb_nil ?_)
local macro_rules | `(tactic| mi_while ["vl"] []) => `(tactic| repeat (first | mi_while ["vl exp"] [] | mi_while ["vl st"] []))
/-! moves within bounds -/
structure Good (n : Int) (c B : Nat) (m : Mv) : Prop where
  k : m.k.natAbs ≤ c
  q1 : 0 ≤ m.q
  q2 : m.q ≤ 3
  fit : Fit n m.x m.y
  s : SzM B m
theorem Good.mono {n : Int} {c d B C : Nat} {m : Mv} (h : Good n c B m) (l1 : c ≤ d) (l2 : B ≤ C) : Good n d C m := ⟨Nat.le_trans h.k l1, h.q1, h.q2, h.fit, h.s.1.mono l2, h.s.2.mono l2⟩
theorem Good.then {n : Int} {c d B C : Nat} {m m' : Mv} (n1 : 2 ≤ n) (n2 : n ≤ 10) (h : Good n c B m) (g : Good n d C m') : Good n (c + d) (B + (4 * c + 1 + C) + 1) (m.then n m') := by
  have hs := (szq_sc (k := m.k) n1 n2).mono (show 4 * m.k.natAbs + 1 ≤ 4 * c + 1 by have := h.k; omega)
  have hr := szq_r (q := m.q) g.s
  refine ⟨?_, (then_turn n m m').1, by have := (then_turn n m m').2; omega, ?_, (h.s.1.add (hs.mul hr.1)), (h.s.2.add (hs.mul hr.2))⟩
  · show (m.k + m'.k).natAbs ≤ _
    have := h.k
    have := g.k
    omega
  · exact h.fit.add (by omega) ((g.fit.r m.q).sc (by omega) m.k)
theorem Good.back {n : Int} {c B : Nat} {m : Mv} (n1 : 2 ≤ n) (n2 : n ≤ 10) (h : Good n c B m) : Good n c (4 * c + 1 + B) (m.back n) := by
  have hs := (szq_sc (k := -m.k) n1 n2).mono (show 4 * (-m.k).natAbs + 1 ≤ 4 * c + 1 by have := h.k; omega)
  have hr := szq_r (q := -m.q) h.s
  refine ⟨?_, (back_turn n m).1, by have := (back_turn n m).2; omega, ?_, (hs.mul hr.1).neg, (hs.mul hr.2).neg⟩
  · show (-m.k).natAbs ≤ _
    have := h.k
    omega
  · exact ((h.fit.r (-m.q)).sc (by omega) (-m.k)).neg
theorem Good.ok {n : Int} {c B : Nat} {m : Mv} (n1 : 2 ≤ n) (n2 : n ≤ 10) (h : Good n c B m) (l1 : c ≤ 400) (l2 : B ≤ 4300) : VOk n m :=
  ⟨n1, n2, by have := h.k; omega, by have := h.k; omega, h.q1, h.q2, h.fit, h.s.1.mono l2, h.s.2.mono l2⟩
theorem Lk.good {n : Int} {m : Mv} (h : Lk n m) : Good n 4 7 m := ⟨by have := h.k1; have := h.k2; omega, h.q1, h.q2, h.fit, h.sx, h.sy⟩
theorem _root_.VM.Rm.good {n : Int} {c e b B : Nat} {m : Mv} (n1 : 2 ≤ n) (n2 : n ≤ 10) (h : Rm n c e b m) (l1 : b ≤ B) (l2 : 4 * e + 1 ≤ B) : Good n c B m := ⟨h.k, h.q1, by have := h.q2; omega, h.x.fit h.y, h.x.szq n1 n2 l1 l2, h.y.szq n1 n2 l1 l2⟩
theorem good_plain (n : Int) : Good n 0 1 .plain := ⟨by decide, by decide, by decide, ⟨0, 0, 0, by show (0 : Rat) * _ = _; simp, by show (0 : Rat) * _ = _; simp⟩, ⟨by unfold Sz; decide, by unfold Sz; decide⟩, ⟨by unfold Sz; decide, by unfold Sz; decide⟩⟩
theorem int_ok (i : Int) : PyData.strOk (toString i : Str) = true := by
  unfold PyData.strOk
  rw [Array.all_eq_true_iff_forall_mem]
  intro c hc
  by_cases h : c ≠ 45 ∧ (c < 48 ∨ 57 < c)
  · exact absurd (by simpa using hc) (PyProof.Rows.int_text_free' c h i)
  · simp only [decide_eq_true_eq]
    omega
theorem app_ok {a b : Str} (h : PyData.strOk a = true) (g : PyData.strOk b = true) : PyData.strOk (a ++ b) = true := by
  unfold PyData.strOk at *
  rw [Str.cps_append, Array.all_append, h, g]
  rfl
theorem fr_ok (x : Rat) : PyData.strOk (frS x) = true := by
  unfold frS
  split
  · exact int_ok _
  · exact app_ok (app_ok (int_ok _) (by decide +kernel)) (int_ok _)
theorem pg_ok (n : Int) (m : Mv) : PyData.strOk (pgS n m) = true :=
  app_ok (app_ok (app_ok (app_ok (app_ok (app_ok (app_ok (by decide +kernel) (int_ok _)) (by decide +kernel)) (int_ok _)) (by decide +kernel)) (int_ok _)) (by decide +kernel)) (app_ok (app_ok (fr_ok _) (by decide +kernel)) (fr_ok _))
section
variable {P : Program} {w : World} {K : PySem.W.Frag} {mg : Str → Option Value} {base : Heap} {f : Addr} {fd : FuncData} {C : Addr}
end
end G

set_option Elab.async false
set_option linter.all false
set_option maxRecDepth 100000
set_option maxHeartbeats 4000000
namespace VL
open PySem L2
section
variable {X : Cx} {a b : Expr} {ρ : Rho} {kl : List D → Prop} {pos : Pos}
/-! a new list times an integer -/
theorem at_rep {K : PySem.W.Frag} {H : Hp} {vs : List V} {ds : List D} (a : AtL K H vs ds) : ∀ k : Nat, AtL K H (List.replicate k vs).flatten (List.replicate k ds).flatten
  | 0 => .nil
  | k + 1 => by
    rw [List.replicate_succ, List.flatten_cons, List.replicate_succ, List.flatten_cons]
    exact a.append (at_rep a k)
theorem xn_rep (h : XN X a ρ fun ds => XE X b ρ fun y => ∃ i, y = .int i ∧ (-(2 ^ 63) ≤ i ∧ i < 2 ^ 63) ∧ ds.length * i.toNat ≤ 100000 ∧ kl (List.replicate i.toNat ds).flatten) : XN X (.BinOp a .Mult b pos) ρ kl :=
  impE (pe_op op_rep anyE anyE) fun σ H Q ⟨S, E, q⟩ => ⟨_, h, S, E, fun p H1 vs ds hn1 e1 hp1 a1 hb => ⟨_, hb, p :: S, (E.hid e1 hn1 hp1).2, fun v H2 d e2 a2 ⟨i, hi, ⟨h1, h2⟩, hl, hk⟩ => by
    subst hi
    have a1' : AtL X.K (hide S H2) vs ds := (a1.mono (hide_ex e2)).mono (hide_sub fun x hx => List.mem_cons_of_mem _ hx)
    refine ⟨p, i, vs, rfl, a2.inv_int, e2 _ _ hp1, h1, h2, sz_of (by rw [a1.length]; exact hl), fun z hz => q z _ _ _ ((e1.trans e2).back hz) ((e1.trans e2).trans (Ex.new hz)) upd_same (newL (E.mono (e1.trans e2)).trk hz (at_rep a1' _)) hk⟩⟩⟩
end
end VL

set_option Elab.async false
set_option linter.all false
set_option maxRecDepth 100000
set_option maxHeartbeats 4000000
namespace VL
open PySem L2
/-! ## a def that returns a new list; range(a, b) -/
def spN (K : PySem.W.Frag) (n : Nat) (C : List D → (List D → Prop) → Prop) : Sp := fun vs H Q _ => ∃ S ds k, vs.length = n ∧ Trk S H ∧ AtL K (hide S H) vs ds ∧ C ds k ∧ ∀ p H2 us es, H p = none → Ex H H2 → H2 p = some (.lst us) → AtL K (hide (p :: S) H2) us es → k es → Q (.ref p) H2
def tSN (K : PySem.W.Frag) (S0 : List Addr) (H0 : Hp) (ρ : Rho) (kN : List D → Prop) : TS := fun E σ H => StOk K S0 H0 H σ ρ ∧ ∀ p H2 us es, H0 p = none → Ex H0 H2 → H2 p = some (.lst us) → AtL K (hide (p :: S0) H2) us es → kN es → E.rt (.ref p) H2
def XBN (X : Cx) (sts : List Stmt) (ρ : Rho) (kN : List D → Prop) : Prop := ∀ S0 H0, Trk S0 H0 → PSs X sts (tSN X.K S0 H0 ρ kN)
section
variable {X : Cx} {ρ : Rho} {j : J} {st : Stmt} {rest sts : List Stmt} {e a b : Expr} {es : List Expr} {pos p p2 : Pos} {kN kl : List D → Prop}
theorem xbn_cons (h : XS X st ρ { nx := fun ρ' => XBN X rest ρ' kN, rt := fun _ => False }) : XBN X (st :: rest) ρ kN := fun S0 H0 tr =>
  impSs (pss_cons anyS anySs) fun En σ H ⟨ok, f⟩ => ⟨_, h S0 H0 tr, ok, ⟨fun σ' H' ρ' ok' hb => ⟨_, hb S0 H0 tr, ok', f⟩, fun _ _ _ _ _ z => z.elim, fun _ _ _ _ z => z.elim, fun _ _ _ _ z => z.elim⟩⟩
theorem xbn_ret (h : XN X e ρ kN) : XBN X [.Return (some e) pos] ρ kN := fun S0 H0 tr =>
  impSs (pss_cons (ps_ret h) pss_nil) fun En σ H ⟨⟨S, h1, h2, h3, h4, E⟩, f⟩ => ⟨S, E, fun p H2 us es hn e2 hp a hk => f p H2 us es (h4.back hn) (h4.trans e2) hp (a.mono (hide_sub fun x hx => by
    rcases List.mem_cons.mp hx with z | z
    · exact List.mem_cons.mpr (.inl z)
    · exact List.mem_cons.mpr (.inr (h1 x z)))) hk⟩
/-- x, y = a, b: the first a new list, the frame's own -/
theorem xs_parN (i l : Nat) {x y : Str} {px py pt : Pos} {kt k2 pt2} (hc : X.calm = true) (hN : X.N.Nodup)
    (h : XN X a ρ fun ds => XE X b ρ fun d' => j.nx ((ρ.set i (.own ds)).set l (.dat d')))
    (hw : swappedStores [.Tuple [.Name x px, .Name y py] kt pt] (.Tuple [a, b] k2 pt2) X.env = pure (some [x, y]))
    (hi : X.N[i]? = some x := by rfl) (hl : X.N[l]? = some y := by rfl) (hil : i ≠ l := by decide)
    (hx : X.env.scope.names.lookup x = some .local := by rfl) (hy : X.env.scope.names.lookup y = some .local := by rfl)
    (hs : swapsWithSole [.Tuple [.Name x px, .Name y py] kt pt] (.Tuple [a, b] k2 pt2) pos.line X.env = pure false := by rfl)
    (s1 : starEach [a, b] X.env = (false, eval a X.env) :: starEach [b] X.env := by rfl) (s2 : starEach [b] X.env = (false, eval b X.env) :: starEach [] X.env := by rfl) :
    XS X (.Assign [.Tuple [.Name x px, .Name y py] kt pt] (.Tuple [a, b] k2 pt2) pos) ρ j := fun S0 H0 tr =>
  impS (ps_par hc hN hi hl hil hx hy (pa_cons anyE (pa_cons anyE pa_nil s2) s1) hw hs) fun En σ H ⟨⟨S, h1, h2, h3, h4, E⟩, f⟩ =>
    ⟨_, h, S, E, fun q H1 vs ds hn e1 hp a1 hb => useE hb (E.hid e1 hn hp).2 fun u H2 d' e2 a2 hk => ⟨.ref q, u, rfl, by
      have Ep := E.storeOwn (i := i) e1 hn hp a1
      have E2 := (Ep.mono e2).store (i := l) a2
      refine f.nx _ _ _ ⟨q :: S, fun b hb => List.mem_cons_of_mem _ (h1 b hb), fun b hb => ?_, fun m fs r k1 k2 => ?_, h4.trans (e1.trans e2), E2⟩ hk
      · rcases List.mem_cons.mp hb with z | z
        · rw [z]
          exact .inr (h4.back hn)
        · exact h2 b z
      · rcases ent_set k1 with ⟨rfl, r'⟩ | ⟨ne, r'⟩
        · cases r'
        · rw [List.getElem?_set_ne (Ne.symm ne)] at k2
          rcases ent_set r' with ⟨rfl, r''⟩ | ⟨ne', r''⟩
          · have hlt : m < σ.length := by
              have := get_lt k2
              rwa [List.length_set] at this
            rw [List.getElem?_set_self hlt] at k2
            cases k2
            exact h4.back hn
          · rw [List.getElem?_set_ne (Ne.symm ne')] at k2
            exact h3 m fs r r'' k2⟩⟩
/-- for name in range(a, b) -/
theorem xs_forR2 (i : Nat) {x : Str} {body : List Stmt} (h : XE X a ρ fun d => ∃ lo : Int, d = .int lo ∧ XE X b ρ fun d => ∃ n : Int, d = .int n ∧ (-(2 ^ 62) ≤ lo ∧ lo < 2 ^ 62) ∧ (-(2 ^ 62) ≤ n ∧ n < 2 ^ 62) ∧ ∃ W : Nat → Rho → Prop, W 0 ρ ∧
      (∀ (m : Nat) ρ', lo + (m : Int) < n → W m ρ' → XB X body (ρ'.set i (.dat (.int (lo + m)))) { nx := W (m + 1), rt := j.rt, bk := j.nx, ct := W (m + 1) }) ∧ ∀ ρ', W (n - lo).toNat ρ' → j.nx ρ') (hm : X.mg "range" = none) (hN : X.N.Nodup)
    (hc : X.calm = true := by rfl) (hg : Gl X "range" := by rfl) (hi : X.N[i]? = some x := by rfl) (hx : Loc X.env.scope x := by first | exact Or.inl rfl | exact Or.inr rfl) (hf : X.fn x = true ∨ X.env.scope.names.lookup x = some .local := by first | exact .inl rfl | exact .inr rfl)
    (s1 : starEach [a, b] X.env = (false, eval a X.env) :: starEach [b] X.env := by rfl) (s2 : starEach [b] X.env = (false, eval b X.env) :: starEach [] X.env := by rfl)
    (t1 : starEach [a, b] X.env = [(false, eval a X.env), (false, eval b X.env)] := by rfl) (t2 : starEach [b] X.env = [(false, eval b X.env)] := by rfl) (hp : PassesOwn (model X.prog X.w) X.A X.env X.xe := by exact PassesOwn.never)
    (hs : ∀ y, foldedSetIterable (.Call (.Name "range" p) [a, b] [] p2) X.env y = pure y := by intro _; rfl) {px : Pos} :
    XS X (.For (.Name x px) (.Call (.Name "range" p) [a, b] [] p2) body [] pos) ρ j := fun S0 H0 tr =>
  impS (ps_for hp hc (pi_range2 hg hm (pa_cons anyE (pa_cons anyE pa_nil s2) s1) t1 t2) (pg_name hN hi hx hf) anySs hs) fun En σ H ⟨⟨S, h1, h2, h3, h4, E⟩, f⟩ => useE h E fun v H1 d e1 a1 ⟨lo, hlo, hb⟩ => useE hb (E.mono e1) fun v2 H2 d2 e2 a2 ⟨n, hn, hb1, hb2, W, w0, hw, hd⟩ => by
    subst hlo hn
    have ok1 : StOk X.K S0 H0 H2 σ ρ := ⟨S, h1, h2, h3, h4.trans (e1.trans e2), (E.mono e1).mono e2⟩
    refine ⟨lo, n, by rw [a1.inv_int, a2.inv_int], ⟨hb1.1, hb1.2, hb2.1, hb2.2⟩, for_range (lo := lo) (n := (n - lo).toNat) (fun m σ' H' => ∃ ρ', StOk X.K S0 H0 H' σ' ρ' ∧ W m ρ') ⟨ρ, ok1, w0⟩ ?_ ?_⟩
    · rintro m σ' H' hm ⟨ρ', ⟨S', k1, k2, k3, k4, E'⟩, w'⟩
      refine ⟨_, hw m ρ' (by omega) w' S0 H0 tr, StOk.store k1 k2 k3 k4 E' (.int _), ⟨?_, f.rt, f.nx, ?_⟩⟩
      · exact fun σ3 H3 ρ3 ok3 hw3 => ⟨ρ3, ok3, hw3⟩
      · exact fun σ3 H3 ρ3 ok3 hw3 => ⟨ρ3, ok3, hw3⟩
    · rintro σ' H' ⟨ρ', ok', w'⟩
      exact f.nx σ' H' ρ' ok' (hd ρ' w')
end
section
variable {P : Program} {w : World} {K : PySem.W.Frag} {mg : Str → Option Value} {base : Heap}
theorem xdefN {x qual : Str} {st : Stmt} {f : Addr} {fd : FuncData} {N ps : List Str} {n : Nat} {C : List D → (List D → Prop) → Prop} (F : Fun K x qual st f fd) (Sc : FnScope N ps (defScope st))
    (body : ∀ (ds : List D) (k : List D → Prop), ds.length = ps.length → C ds k → ∀ (cdv : Value) (A : Around) (outer : List Env) (s : Shared) (H : Hp) (E : XK), Room n (A.deeper (PyProof.Rows.envOfC qual (defScope st) s.heap.objs.size f cdv)) →
      XBN (cxOf CX0 P w K mg base N qual (defScope st) f cdv A outer s H E).nox (defBody st) (startR N.length ds) k) (hne : ∀ (E : Ends) σ H, False → E.nx σ H := fun _ _ _ z => z.elim) : FnOk P w K mg base CX0 (n + 1) f fd ps (spN K ps.length C) := by
  have hpl : ps.length ≤ N.length := by
    have := congrArg List.length Sc.pre
    rw [List.length_take] at this
    omega
  refine F.ok Sc (fun vs H Q E h => ?_) fun cdv A outer s H vs Q E hr h => ?_
  · obtain ⟨_, _, _, hl, _⟩ := h
    exact hl
  · obtain ⟨S, ds, k, hl, tr, a, hc, q⟩ := h
    have hb := body ds k (by rw [← a.length]; exact hl) hc cdv A outer s H E hr
    exact ⟨_, hb S H tr, start_ok tr (by omega) a, fun p H2 us es hn e hp at_ hk => q p H2 us es hn e hp at_ hk⟩
structure FnN (P : Program) (w : World) (K : PySem.W.Frag) (mg : Str → Option Value) (base : Heap) (k : Nat) (x : Str) (ps : List Str) (C : List D → (List D → Prop) → Prop) : Prop where
  ex : ∃ f fd, mg x = some (.ref f) ∧ PySem.W.keepIn K (.ref f) = true ∧ Binds K fd ps [] ∧ FnOk P w K mg base CX0 k f fd ps (spN K ps.length C)
end
section
variable {X : Cx} {ρ : Rho} {e : Expr} {es : List Expr} {pos p : Pos} {kl : List D → Prop}
theorem xn_call {n m : Nat} {x : Str} {ps : List Str} {C : List D → (List D → Prop) → Prop} (F : FnN X.prog X.w X.K X.mg X.base n x ps C) (hr : Room m X.A) (h : XA X (e :: es) ρ fun ds => ds.length = ps.length ∧ C ds kl) (hnm : n ≤ m := by decide) (hg : Gl X x := by rfl)
    (hdb : (x == ("__debug__" : Str)) = false := by decide) (he : starEach (e :: es) X.env = (false, eval e X.env) :: starEach es X.env := by rfl) (hpl : (backTo pos (starEach es X.env)).any (·.1) = false := by rfl) :
    XN X (.Call (.Name x p) (e :: es) [] pos) ρ kl := by
  obtain ⟨f, fd, h1, h2, h3, h4⟩ := F.ex
  refine impE (pe_call h4 (hr.mono hnm) hg h1 h2 h3 .nil pass0 anyA hdb he hpl) fun σ H Q ⟨S, E, q⟩ => useA h E fun vs H1 ds e1 a1 ⟨hl, hc⟩ => ?_
  rw [List.append_nil]
  exact ⟨S, ds, kl, by rw [a1.length]; exact hl, (E.mono e1).trk, a1, hc, fun p H2 us es hn e2 hp a hk => q p H2 us es (e1.back hn) (e1.trans e2) hp a hk⟩
end
end VL

set_option Elab.async false
set_option linter.all false
set_option maxRecDepth 100000
set_option maxHeartbeats 4000000
namespace VL
open PySem PySem.Spec PyProof.Rows L2 ClX
/-! ## Texts read: membership, slices by steps, signs, int of a text, a classmethod -/
section
variable {X : Cx} {ρ : Rho} {a b e it elt o : Expr} {es : List Expr} {scope : Scope} {pos p p1 p2 p3 p4 apos px : Pos} {k : D → Prop} {kb : Bool → Prop} {kl : List D → Prop}
def rInT (K : PySem.W.Frag) : R2 := fun x y H Q => ∃ d ds, Dp K H x d ∧ Dp K H y (.tuple ds) ∧ SeqAt.shaped d = true ∧ SeqAt.shaped (.tuple ds) = true ∧ Q (.bl (ds.any fun z => PyData.eqv z d)) H
theorem op_inT {X : Cx} (hu : X.A.units + 65 < cLine) : OpR X (compareOp .In) (rInT X.K) := by
  intro pins s σ H x y v u Q I rx ry h
  obtain ⟨d, ds, hd, he, sd, se, q⟩ := h
  obtain ⟨as, r1⟩ := Dp.reads I d x v hd rx
  obtain ⟨bs, r2⟩ := Dp.reads I (.tuple ds) y u he ry
  exact SeqAt.in_tuple_reads r2 r1 (SeqAt.canLay_of_shaped se) (SeqAt.canLay_of_shaped sd) (room_in_shaped sd hu) ⟨.bl _, H, I, rfl, q⟩
/-- x in [..], x in (..) : data -/
def InL (x y : D) (r : Bool) : Prop := ∃ d ds, pyD x = some d ∧ pyD y = some (.list ds) ∧ SeqAt.shaped d = true ∧ SeqAt.shaped (.list ds) = true ∧ (ds.any fun z => PyData.eqv z d) = r
def InT (x y : D) (r : Bool) : Prop := ∃ d ds, pyD x = some d ∧ pyD y = some (.tuple ds) ∧ SeqAt.shaped d = true ∧ SeqAt.shaped (.tuple ds) = true ∧ (ds.any fun z => PyData.eqv z d) = r
theorem xt_inL {n : Nat} (hr : Room n X.A) (h : XE X a ρ fun x => XE X b ρ fun y => ∃ r, InL x y r ∧ kb r) (hmk : behindInMarks .In b = false := by with_unfolding_all rfl) : XT X (.Compare a [.In] [b] pos) ρ kb :=
  impT (pt_cmpR (op_inD (by have := hr.un; omega)) anyE anyE hmk) fun σ H Q ⟨S, E, q⟩ => useE h E fun x H1 d e1 a1 hb => useE hb (E.mono e1) fun y H2 d2 e2 a2 ⟨r, ⟨u, w, p1, p2, s1, s2, er⟩, hk⟩ => by
    subst er
    exact ⟨u, w, dp_of (a1.mono (hide_ex e2)) p1, dp_of a2 p2, s1, s2, _, rfl, q _ _ (e1.trans e2) hk⟩
theorem xt_inT {n : Nat} (hr : Room n X.A) (h : XE X a ρ fun x => XE X b ρ fun y => ∃ r, InT x y r ∧ kb r) (hmk : behindInMarks .In b = false := by with_unfolding_all rfl) : XT X (.Compare a [.In] [b] pos) ρ kb :=
  impT (pt_cmpR (op_inT (by have := hr.un; omega)) anyE anyE hmk) fun σ H Q ⟨S, E, q⟩ => useE h E fun x H1 d e1 a1 hb => useE hb (E.mono e1) fun y H2 d2 e2 a2 ⟨r, ⟨u, w, p1, p2, s1, s2, er⟩, hk⟩ => by
    subst er
    exact ⟨u, w, dp_of (a1.mono (hide_ex e2)) p1, dp_of a2 p2, s1, s2, _, rfl, q _ _ (e1.trans e2) hk⟩
/-- one sign in a text -/
theorem xe_inC (h : XE X a ρ fun x => ∃ c : Nat, x = .str ⟨#[c]⟩ ∧ XE X b ρ fun y => ∃ z : Str, y = .str z ∧ k (.bl (decide (c ∈ z.cps.toList)))) (hmk : behindInMarks .In b = false := by with_unfolding_all rfl) : XE X (.Compare a [.In] [b] pos) ρ k :=
  impE (pe_cmpR op_in_sign anyE anyE hmk) fun σ H Q ⟨S, E, q⟩ => useE h E fun x H1 d e1 a1 ⟨c, hc, hb⟩ => useE hb (E.mono e1) fun y H2 d2 e2 a2 ⟨z, hz, hk⟩ => by
    subst hc hz
    exact ⟨c, z, a1.inv_str, a2.inv_str, q _ _ _ (e1.trans e2) (.bl _) hk⟩
/-- x[i:], x[:i] of a text -/
theorem xe_cutFrom {i : Int} {cj : Nat} {cp : Pos} (h : XE X a ρ fun x => ∃ z, x = .str z ∧ z.length ≤ sizeLine ∧ k (.str (Txt.slice z (some i) none))) : XE X (.Subscript a (.Slice (some (.Constant (.int i) cj cp)) none none p2) pos) ρ k :=
  impE (pe_slice C8.sl_txt anyE (po_some pe_int) po_none) fun σ H Q ⟨S, E, q⟩ => useE h E fun x H1 d e1 a1 ⟨z, hz, hl, hk⟩ => by
    subst hz
    exact ⟨i, rfl, z, a1.inv_str, hl, q _ _ _ e1 (.str _) hk⟩
theorem xe_cutTo {i : Int} {cj : Nat} {cp : Pos} (h : XE X a ρ fun x => ∃ z, x = .str z ∧ z.length ≤ sizeLine ∧ k (.str (Txt.slice z none (some i)))) : XE X (.Subscript a (.Slice none (some (.Constant (.int i) cj cp)) none p2) pos) ρ k :=
  impE (pe_slice C8.sl_txt anyE po_none (po_some pe_int)) fun σ H Q ⟨S, E, q⟩ => useE h E fun x H1 d e1 a1 ⟨z, hz, hl, hk⟩ => by
    subst hz
    exact ⟨i, rfl, z, a1.inv_str, hl, q _ _ _ e1 (.str _) hk⟩
/-- x.split(sep) -/
theorem at_strs {K : PySem.W.Frag} {H : Hp} : ∀ ys : List Str, AtL K H (ys.map V.str) (ys.map D.str)
  | [] => .nil
  | y :: ys => .cons (.str y) (at_strs ys)
theorem xn_split (h : XE X a ρ fun x => ∃ s, x = .str s ∧ XE X b ρ fun y => ∃ t, y = .str t ∧ (t.length == 0) = false ∧ s.length + 2 ≤ sizeLine ∧ kl ((Txt.split s t).map D.str)) (hs : starEach [b] X.env = [(false, eval b X.env)] := by rfl)
    (hbase : attributeBase a "split" X.env (eval a X.env) = eval a X.env := by rfl) (hline : (apos.endLine == pos.line) = true := by rfl) : XN X (.Call (.Attribute a "split" apos) [b] [] pos) ρ kl :=
  impE (pe_split anyE anyE hs hbase hline) fun σ H Q ⟨S, E, q⟩ => useE h E fun x H1 d e1 a1 ⟨s, hs, hb⟩ => by
    subst hs
    refine ⟨⟨s, a1.inv_str⟩, useE hb (E.mono e1) fun y H2 d2 e2 a2 ⟨t, ht, h0, hl, hk⟩ => ?_⟩
    subst ht
    exact ⟨s, t, a1.inv_str, by rw [a2.inv_str], h0, hl, fun z hz => q z _ _ _ ((e1.trans e2).back hz) ((e1.trans e2).trans (Ex.new hz)) upd_same (at_strs _) hk⟩
/-- int(text) -/
theorem xe_intS (hm : X.mg "int" = none) (h : XE X a ρ fun d => ∃ z n, d = .str z ∧ PySem.intText? z = some n ∧ z.length ≤ 640 ∧ k (.int n)) (hg : Gl X "int" := by rfl)
    (he : starEach (a :: []) X.env = (false, eval a X.env) :: starEach [] X.env := by rfl) : XE X (.Call (.Name "int" p) [a] [] pos) ρ k :=
  xe_ct1 (R := fun d d' => ∃ z n, d = .str z ∧ PySem.intText? z = some n ∧ z.length ≤ 640 ∧ d' = .int n) call_int_str hm (by decide +kernel) (fun v d d' H S Q a1 ⟨z, n, h1, h2, h3, h4⟩ q => by
    subst h1 h4
    exact ⟨z, n, by rw [a1.inv_str], h2, h3, q _ (.int _)⟩) (h.imp fun d ⟨z, n, h1, h2, h3, h4⟩ => ⟨_, ⟨z, n, h1, h2, h3, rfl⟩, h4⟩) hg (by decide) (by decide) he
end
/-! ### a comprehension over a text's signs -/
theorem lc_str {x : Str} {g : TG} {tt : TT} {te : TE} {vs : List Nat} {σ : L2.St} {H1 : Hp} {D : Addr} {Qd : Hp → Prop} (Pv : Nat → Hp → Prop) (h0 : Pv 0 (upd H1 D (.lst [])))
    (hs : ∀ i c H, x.cps[i]? = some c → Pv i H → g (.str ⟨#[c]⟩) (wipe σ vs) H fun σ2 H2 => wipe σ2 vs = wipe σ vs ∧ tt σ2 H2 fun b H3 =>
      if b = true then te σ2 H3 fun y H4 => ∃ acc, H4 D = some (.lst acc) ∧ acc.length < sizeLine ∧ Pv (i + 1) (upd H4 D (.lst (acc ++ [y]))) else Pv (i + 1) H3) (hd : ∀ H, Pv x.cps.size H → Qd H) :
    ∃ W : Nat → Nat → Hp → Prop, (∃ m, W 0 m (upd H1 D (.lst []))) ∧ ∀ i m H, W i m H →
      ((Its x).stop i H ∧ Qd H) ∨ ((Its x).go i H ∧ ∃ Nx : Hp → Prop, (∀ H', Nx H' → ∃ m', m' < m ∧ W (i + 1) m' H') ∧ ∀ v H', (Its x).yld i H v H' → g v (wipe σ vs) H' fun σ2 H2 => wipe σ2 vs = wipe σ vs ∧ tt σ2 H2 fun b H3 =>
        if b = true then te σ2 H3 fun y H4 => ∃ acc, H4 D = some (.lst acc) ∧ acc.length < sizeLine ∧ Nx (upd H4 D (.lst (acc ++ [y]))) else Nx H3) := by
  refine ⟨fun i m H => m = x.cps.size - i ∧ i ≤ x.cps.size ∧ Pv i H, ⟨x.cps.size, by simp, Nat.zero_le _, h0⟩, ?_⟩
  rintro i m H ⟨rfl, hi, p⟩
  by_cases hlt : i < x.cps.size
  · refine .inr ⟨hlt, Pv (i + 1), fun H' p' => ⟨x.cps.size - (i + 1), by omega, rfl, hlt, p'⟩, fun v H' y => ?_⟩
    obtain ⟨e, c, hc, hv⟩ := y
    subst e hv
    exact hs i c _ hc p
  · have e : i = x.cps.size := by omega
    subst e
    exact .inl ⟨Nat.le_refl _, hd H p⟩
section
variable {X : Cx} {ρ : Rho} {a b e it elt o : Expr} {es : List Expr} {scope : Scope} {pos p p1 p2 p3 p4 apos px : Pos} {k : D → Prop} {kb : Bool → Prop} {kl : List D → Prop}
theorem xn_lcS (i : Nat) {x : Str} {W : Nat → List D → Prop} {z : Str} (h : XE X it ρ fun d => d = .str z ∧ W 0 [] ∧ ∀ acc, W z.cps.size acc → kl acc)
    (he : Blk X scope fun Y => ∀ (m c : Nat) acc, z.cps[m]? = some c → W m acc → XE Y elt ((ρ.set i .un).set i (.dat (.str ⟨#[c]⟩))) fun d' => acc.length < 100000 ∧ W (m + 1) (acc ++ [d'])) (hN : X.N.Nodup)
    (hB : blkC X.N X.env.scope scope [(x, i)] = true := by first | decide +kernel | rfl) (hc : X.calm = true := by rfl) (hi : X.N[i]? = some x := by rfl)
    (hx : Blk X scope fun Y => L2.Loc Y.env.scope x := by first | exact fun _ _ _ _ _ => Or.inl rfl | exact fun _ _ _ _ _ => Or.inr rfl)
    (hf : Blk X scope fun Y => Y.fn x = true ∨ Y.env.scope.names.lookup x = some .local := by first | exact fun _ _ _ _ _ => Or.inr rfl | exact fun _ _ _ _ _ => Or.inl rfl)
    (hs : ∀ y, foldedSetIterable it X.env y = pure y := by intro _; rfl) :
    XN X (.ListComp elt [⟨.Name x px, it, [], 0⟩] scope pos) ρ kl := by
  refine impE (pe_lc (own := [(x, i)]) (g := gName i) (tt := tYes) (te := cE X scope elt) hc hN (pi_str anyE) (blkOk_by hB)
    (fun s H C cl fp => pg_name hN hi (hx s H C cl fp) (hf s H C cl fp)) (fun _ _ _ _ _ => pts_nil) (fun s H C cl fp => impE anyE fun σ H Q q => q s _ C cl fp) hs) fun σ H Q ⟨S, E, q⟩ => useE h E fun v H1 d e1 az ⟨hd, w0, hend⟩ => ?_
  subst hd
  refine ⟨z, az.inv_str, fun Dl hD => ?_⟩
  have E1 := E.mono e1
  refine lc_str (x := z) (g := gName i) (tt := tYes) (te := cE X scope elt) (vs := [i]) (σ := σ) (Qd := fun H' => Q (.ref Dl) H') (Cw X.K S H1 W Dl) ⟨hD, Ex.new hD, [], [], upd_same, .nil, w0⟩ ?_ ?_
  · rintro m c H2 hm' p
    refine ⟨wipe_again σ i _, ?_⟩
    show cE X scope elt ((wipe σ [i]).set i (some (.str ⟨#[c]⟩))) H2 fun y H4 => ∃ acc, H4 Dl = some (.lst acc) ∧ acc.length < sizeLine ∧ Cw X.K S H1 W Dl (m + 1) (upd H4 Dl (.lst (acc ++ [y])))
    refine cw_turn p E1.trk (kd := fun _ _ => True) fun acc hw Q' q' s H' C cl fp => ?_
    obtain ⟨p1, p2, vs, acc', p3, p4, p5⟩ := p
    have E2 : EnvOk X.K (Dl :: S) H2 (wipe σ [i]) (ρ.set i .un) := (E1.hid p2 hD p3).2.wipe1 i
    exact useE (he s H' C cl fp m c acc hm' hw) (E2.store (.str _)) fun v3 H4 d3 e4 a4 hk => q' v3 H4 d3 e4 a4 hk
  · rintro H2 ⟨p1, p2, vs, acc, p3, p4, p5⟩
    exact q Dl H2 vs acc (e1.back hD) (e1.trans p2) p3 p4 (hend acc p5)
/-- name = [.. for x in a list], on one line, name a local -/
theorem xs_lcL (l i : Nat) {x y : Str} {py spos : Pos} {j : J} {W : Nat → List D → Prop} {ds : List D} (h : XL X it ρ fun es => es = ds ∧ W 0 [] ∧ ∀ acc, W ds.length acc → j.nx (ρ.set l (.dat (.lst acc))))
    (he : Blk X scope fun Y => ∀ (m : Nat) d acc, ds[m]? = some d → W m acc → XE Y elt ((ρ.set i .un).set i (.dat d)) fun d' => acc.length < 100000 ∧ W (m + 1) (acc ++ [d'])) (hN : X.N.Nodup)
    (hB : blkC X.N X.env.scope scope [(x, i)] = true := by first | decide +kernel | rfl) (hc : X.calm = true := by rfl) (hi : X.N[i]? = some x := by rfl) (hy : X.N[l]? = some y := by rfl) (hyl : X.env.scope.names.lookup y = some .local := by rfl)
    (hsw : swapsWith (.ListComp elt [⟨.Name x px, it, [], 0⟩] scope pos) (some (.Name y py)) spos.line X.env = pure true := by rfl)
    (hx : Blk X scope fun Y => L2.Loc Y.env.scope x := by first | exact fun _ _ _ _ _ => Or.inl rfl | exact fun _ _ _ _ _ => Or.inr rfl)
    (hf : Blk X scope fun Y => Y.fn x = true ∨ Y.env.scope.names.lookup x = some .local := by first | exact fun _ _ _ _ _ => Or.inr rfl | exact fun _ _ _ _ _ => Or.inl rfl)
    (hs : ∀ y, foldedSetIterable it X.env y = pure y := by intro _; rfl) :
    XS X (.Assign [.Name y py] (.ListComp elt [⟨.Name x px, it, [], 0⟩] scope pos) spos) ρ j := by
  refine xs_ofN l (kl := fun acc => j.nx (ρ.set l (.dat (.lst acc)))) (ps_setLc (own := [(x, i)]) (g := gName i) (tt := tYes) (te := cE X scope elt) hc hN hy hyl hsw (pi_list anyE) (blkOk_by hB)
    (fun s H C cl fp => pg_name hN hi (hx s H C cl fp) (hf s H C cl fp)) (fun _ _ _ _ _ => pts_nil) (fun s H C cl fp => impE anyE fun σ H Q q => q s _ C cl fp) hs) (fun σ H Q z => ?_) fun ds hk => hk
  obtain ⟨S, E, q⟩ := z
  refine useL h E fun a H1 vs0 es e1 hL a1 ⟨hd, w0, hend⟩ => ?_
  subst hd
  refine ⟨a, rfl, ⟨vs0, hL⟩, fun Dl hD => ?_⟩
  have E1 := E.mono e1
  refine lc_list (K := X.K) (a := a) (xs := vs0) (g := gName i) (tt := tYes) (te := cE X scope elt) (vs := [i]) (σ := σ) (Qd := fun H' => Q (.ref Dl) H') (Cw X.K S H1 W Dl) ⟨hD, Ex.new hD, [], [], upd_same, .nil, w0⟩ (fun m H2 _ p => ex_l p.2.1 hL) ?_ ?_
  · rintro m x0 H2 hm' p
    obtain ⟨d, hd, ad⟩ := a1.get' hm'
    refine ⟨wipe_again σ i _, ?_⟩
    show cE X scope elt ((wipe σ [i]).set i (some x0)) H2 fun y H4 => ∃ acc, H4 Dl = some (.lst acc) ∧ acc.length < sizeLine ∧ Cw X.K S H1 W Dl (m + 1) (upd H4 Dl (.lst (acc ++ [y])))
    refine cw_turn p E1.trk (kd := fun _ _ => True) fun acc hw Q' q' s H' C cl fp => ?_
    obtain ⟨p1, p2, vs, acc', p3, p4, p5⟩ := p
    have E2 : EnvOk X.K (Dl :: S) H2 (wipe σ [i]) (ρ.set i .un) := (E1.hid p2 hD p3).2.wipe1 i
    refine useE (he s H' C cl fp m d acc hd hw) (E2.store ?_) fun v3 H4 d3 e4 a4 hk => q' v3 H4 d3 e4 a4 hk
    exact (at_hid hD ad).mono (hide_ex p2)
  · rintro H2 ⟨p1, p2, vs, acc, p3, p4, p5⟩
    rw [a1.length] at p5
    exact q Dl H2 vs acc (e1.back hD) (e1.trans p2) p3 p4 (hend acc p5)
/-- a list by steps -/
theorem pick_eq {α : Type} (l : List α) (is : List Nat) : is.filterMap (l.toArray[·]?) = pick is l := by
  unfold pick
  congr 1
  funext i
  simp
def stepsOf (lo hi st : Option Int) (n : Nat) : List Nat := sliceRange (sliceBounds lo hi st n).1 (sliceBounds lo hi st n).2.1 (sliceBounds lo hi st n).2.2
theorem xn_stp {lo hi : Option Expr} {l h : Option Int} {st : Int} {cj : Nat} {cp : Pos} {tl th : TO} (hl : PO X lo tl) (hh : PO X hi th) (hl' : ∀ σ H, tl σ H fun o H2 => o = l ∧ H2 = H) (hh' : ∀ σ H, th σ H fun o H2 => o = h ∧ H2 = H) (h0 : st ≠ 0)
    (ha : XL X a ρ fun ds => kl (pick (stepsOf l h (some st) ds.length) ds)) : XN X (.Subscript a (.Slice lo hi (some (.Constant (.int st) cj cp)) p3) pos) ρ kl := by
  refine ⟨fun pins s σ H Q I hq => ?_⟩
  obtain ⟨S, E, q⟩ := hq
  refine Subscript_ (thn (ha.run pins s σ H (fun v H1 => ∃ p vs ds, v = .ref p ∧ Ex H H1 ∧ SqL X.K H1 p vs ∧ AtL X.K (hide S H1) vs ds ∧ kl (pick (stepsOf l h (some st) ds.length) ds)) I ⟨S, E, fun p H2 vs ds e h1 h2 h3 => ⟨p, vs, ds, rfl, e, h1, h2, h3⟩⟩) fun v s1 ⟨x, H1, I1, r1, q1⟩ => ?_)
  obtain ⟨ad, vs, ds, ex, e1, hx, at_, hk⟩ := q1
  subst ex
  cases r1
  have hst : PO X (some (.Constant (.int st) cj cp)) (tPart (tC (.int st))) := po_some pe_int
  refine wpAny_Slice (thn (hl.run pins s1 σ H1 (fun o H2 => o = l ∧ H2 = H1) I1 (hl' σ H1)) fun vl s2 ⟨lq, H2, I2, pl, el, e2⟩ => ?_)
  subst el e2
  refine thn (hh.run pins s2 σ H2 (fun o H3 => o = h ∧ H3 = H2) I2 (hh' σ H2)) fun vu s3 ⟨u, H3, I3, pu, eu, e3⟩ => ?_
  subst eu e3
  refine thn (hst.run pins s3 σ H3 (fun o H4 => o = some st ∧ H4 = H3) I3 ⟨st, rfl, rfl, rfl⟩) fun vst s4 ⟨ost, H4, I4, ps, eo, e4⟩ => ?_
  subst eo e4
  have I5 : Inv X pins σ H4 { s4 with heap := s4.heap.push { cls := .type "slice", data := .fields #[vl, vu, vst] } } := I4.kept (t' := s4.toks) fun b ob q => Heap.get?_push_of_some _ q
  obtain ⟨its, r, ht, hz⟩ := I5.list hx
  have hlen := r.length
  show wpAny (model X.prog X.w) X.A (subscriptTail a (.Slice lo hi (some (.Constant (.int st) cj cp)) p3) (.ref ad) (.ref s4.heap.objs.size)) (EP X pins σ Q) X.xe { s4 with heap := s4.heap.push { cls := .type "slice", data := .fields #[vl, vu, vst] } }
  refine tail_any (ops := [.ref ad, .ref s4.heap.objs.size]) ht.isList.typeIs (PySem.slot_list_getitem.lookup) ?_ (by with_unfolding_all rfl)
  refine wpAny_getItem_list_slice ht.isList (Heap.IsSliceOf.new _ vl vu vst) pl pu ps (by simpa using h0) ?_ (by rw [List.size_toArray]; omega)
  have hp : slicePick its.toArray lq u (some st) = (pick (stepsOf lq u (some st) ds.length) its).toArray := by
    unfold slicePick
    rw [pick_eq]
    unfold stepsOf
    rw [List.size_toArray, ← hlen, at_.length]
  rw [hp]
  have hn := I5.hok.fresh (Nat.le_refl _)
  refine ⟨.ref _, _, I5.laid (t' := s4.toks) (o := .lst (pick (stepsOf lq u (some st) ds.length) vs)) (fun b ob q => Heap.get?_push_of_some _ q) (Nat.le_refl _) ?_, rfl, q _ _ _ _ (e1.back hn) (e1.trans (Ex.new hn)) upd_same (newL (E.mono e1).trk hn (at_.pick _)) hk⟩
  have hle : (pick (stepsOf lq u (some st) ds.length) vs).length ≤ sizeLine := by
    have h1 := slicePick_size_le its.toArray lq u (some st)
    rw [hp, List.size_toArray, List.size_toArray] at h1
    have h2 := (vals_pick r (stepsOf lq u (some st) ds.length)).length
    omega
  exact ⟨hle, _, 0, vals_pick r _, Heap.get?_push_size _ rfl⟩
/-- C.m(x), m a classmethod of the class at C -/
theorem xe_cmeth {n j : Nat} {m x : Str} {C pa g : Addr} {mc : Value} {ps : Str} {s1 : Str} {Cn : Con} (hm : X.mg x = some (.ref C)) (r : CRead X.K C mc) (c : CMet X.K C mc m pa g) (F : FnA X.prog X.w X.K X.mg X.base n g [s1, ps] Cn) (hr : Room j X.A)
    (h : XE X e ρ fun d => Cn [.ptr C, d] k) (hnm : n ≤ j := by decide) (hg : Gl X x := by rfl) (hdb : (x == ("__debug__" : Str)) = false := by decide)
    (hst : starEach (e :: []) X.env = (false, eval e X.env) :: starEach [] X.env := by rfl) (hpl : (backTo pos (starEach [] X.env)).any (·.1) = false := by rfl) {pl : Sem Bool}
    (ht : eval (.Call (.Attribute (.Name x p) m apos) (e :: []) [] pos) X.env = (do
      let ov ← eval (.Name x p) X.env
      standAt apos.atName
      let (f, first) ← holding [ov] (getMethod ov m pl)
      callWith pos f first (backTo pos (starEach (e :: []) X.env)) (backToKw pos (keywordEach [] X.env))) := by rfl) :
    XE X (.Call (.Attribute (.Name x p) m apos) [e] [] pos) ρ k :=
  impE (pe_cmeth (pl := pl) (pe_glob hg hm (show RelV (.ref C) (.ref C) from rfl) hdb) r c F.raw (hr.mono hnm) pass0 (pa_cons anyE pa_nil hst) hst hpl ht) fun σ H Q ⟨S, E, q⟩ =>
    ⟨rfl, useE h E fun v H1 d e1 a1 hc => ⟨S, [.ptr C, d], k, rfl, (E.mono e1).trk, .cons (.ptr C) (.cons a1 .nil), hc, fun v2 H2 d2 e2 a2 hk => q v2 H2 d2 (e1.trans e2) a2 hk⟩⟩
end
end VL

set_option Elab.async false
set_option linter.all false
set_option maxRecDepth 100000
set_option maxHeartbeats 4000000
namespace VL
open PySem L2
section
variable {X : Cx} {ρ : Rho} {j : J} {a b : Expr} {pos p2 : Pos} {kl : List D → Prop}
/-- x, y = a, b : two new lists, the frame's own -/
theorem xs_twoN (i l : Nat) {x y : Str} {px py pt : Pos} {kt k2 pt2} (hN : X.N.Nodup) (h : XN X a ρ fun ds => XN X b ρ fun es => j.nx ((ρ.set i (.own ds)).set l (.own es)))
    (hi : X.N[i]? = some x := by rfl) (hl : X.N[l]? = some y := by rfl) (hil : i ≠ l := by decide) (hc : X.calm = true := by rfl)
    (hx : Loc X.env.scope x := by first | exact Or.inl rfl | exact Or.inr rfl) (hfx : X.fn x = true ∨ X.env.scope.names.lookup x = some .local := by first | exact .inl rfl | exact .inr rfl)
    (hy : Loc X.env.scope y := by first | exact Or.inl rfl | exact Or.inr rfl) (hfy : X.fn y = true ∨ X.env.scope.names.lookup y = some .local := by first | exact .inl rfl | exact .inr rfl)
    (s1 : starEach [a, b] X.env = (false, eval a X.env) :: starEach [b] X.env := by rfl) (s2 : starEach [b] X.env = (false, eval b X.env) :: starEach [] X.env := by rfl)
    (hn : (assignEach [Expr.Name x px, .Name y py] X.env).length = 2 := by rfl) (hst : (assignEach [Expr.Name x px, .Name y py] X.env).findIdx? (·.1) = none := by rfl)
    (hs : swapsWithSole [.Tuple [.Name x px, .Name y py] kt pt] (.Tuple [a, b] k2 pt2) pos.line X.env = pure false := by rfl) (hw : swappedStores [.Tuple [.Name x px, .Name y py] kt pt] (.Tuple [a, b] k2 pt2) X.env = pure none := by rfl)
    (h1 : (assignEach [.Tuple [.Name x px, .Name y py] kt pt] X.env).map (·.2) = [assign (.Tuple [.Name x px, .Name y py] kt pt) X.env] := by rfl)
    (t1 : (assignEach [Expr.Name x px, .Name y py] X.env).map (·.2) = assign (.Name x px) X.env :: (assignEach [Expr.Name y py] X.env).map (·.2) := by rfl) (t2 : (assignEach [Expr.Name y py] X.env).map (·.2) = assign (.Name y py) X.env :: (assignEach [] X.env).map (·.2) := by rfl) :
    XS X (.Assign [.Tuple [.Name x px, .Name y py] kt pt] (.Tuple [a, b] k2 pt2) pos) ρ j := fun S0 H0 tr =>
  impS (ps_asg (pe_tup (pa_cons anyE (pa_cons anyE pa_nil s2) s1)) (pg_tup hc (pgs_cons (pg_name hN hi hx hfx) (pgs_cons (pg_name hN hl hy hfy) pgs_nil t2) t1) hn hst) hs hw h1) fun En σ H ⟨⟨S, h1, h2, h3, h4, E⟩, f⟩ =>
    ⟨_, h, S, E, fun p H1 vs ds hn1 e1 hp1 a1 hb => ⟨_, hb, p :: S, (E.hid e1 hn1 hp1).2, fun q H2 us es hn2 e2 hp2 a2 hk => ⟨Nat.le_of_ble_eq_true rfl, fun t ht =>
      ⟨t, _, rfl, SqT.of upd_same, rfl, _, _, rfl, _, _, rfl, rfl, by
        have E1 := E.storeOwn (i := i) e1 hn1 hp1 a1
        have E2 := E1.storeOwn (i := l) e2 hn2 hp2 a2
        have E3 := E2.mono (Ex.new (o := .tup [.ref p, .ref q]) ht)
        have p0 : H0 p = none := h4.back hn1
        have q0 : H0 q = none := (h4.trans e1).back hn2
        refine f.nx _ _ _ ⟨q :: p :: S, fun b hb => List.mem_cons_of_mem _ (List.mem_cons_of_mem _ (h1 b hb)), fun b hb => ?_, fun m fs r k1 k2 => ?_, (h4.trans (e1.trans e2)).trans (Ex.new ht), E3⟩ hk
        · rcases List.mem_cons.mp hb with z | z
          · rw [z]
            exact .inr q0
          · rcases List.mem_cons.mp z with z | z
            · rw [z]
              exact .inr p0
            · exact h2 b z
        · by_cases hml : m = l
          · subst hml
            have hlt := get_lt k2
            rw [List.length_set] at hlt
            rw [List.getElem?_set_self hlt] at k2
            cases k2
            exact q0
          · rw [List.getElem?_set_ne (Ne.symm hml)] at k1 k2
            by_cases hmi : m = i
            · subst hmi
              have hlt := get_lt k2
              rw [List.length_set] at hlt
              rw [List.getElem?_set_self hlt] at k2
              cases k2
              exact p0
            · rw [List.getElem?_set_ne (Ne.symm hmi)] at k1 k2
              exact h3 m fs r k1 k2⟩⟩⟩⟩
def rCatS (K : PySem.W.Frag) : R2 := fun x y H Q => ∃ l b xs zs, x = .ref l ∧ y = .ref b ∧ SqL K H l xs ∧ SqL K H b zs ∧ xs.length + zs.length ≤ sizeLine ∧ ∀ p, H p = none → Q (.ref p) (upd H p (.lst (xs ++ zs)))
theorem op_catS {X : Cx} : OpR X (binaryOp .Add) (rCatS X.K) := by
  intro pins s σ H x y v u Q I rx ry h
  obtain ⟨l, b, xs, zs, rfl, rfl, hL, hB, hz, q⟩ := h
  cases rx
  cases ry
  obtain ⟨its, r, pl, _⟩ := I.list hL
  obtain ⟨its2, r2, pl2, _⟩ := I.list hB
  obtain ⟨⟨cls, dd, data, sl⟩, ho, hc, n, hd⟩ := id pl.isList
  obtain ⟨⟨cls2, dd2, data2, sl2⟩, ho2, hc2, n2, hd2⟩ := id pl2.isList
  simp only at hc hd hc2 hd2
  subst hc hd hc2 hd2
  have e : its.toArray ++ its2.toArray = (its ++ its2).toArray := by simp
  have l1 := r.length
  have l2 := r2.length
  refine PySem.concat_meets ⟨_, ho, rfl⟩ ⟨_, ho2, rfl⟩ PySem.noFill_list_add PySem.seq_list_add PySem.F.slot_list_add PySem.F.entry_list_add (PySem.F.args_list_add_2 _ _) (PyProof.Rows.list_addW l b its.toArray its2.toArray n n2 dd dd2 sl sl2 (by rw [List.size_toArray, List.size_toArray]; omega)) ⟨ho, ho2, ?_⟩
  rw [e]
  exact ⟨.ref _, _, I.lnew (t' := s.toks) (r.append r2) (by rw [List.length_append]; omega), rfl, q _ I.fresh⟩
/-- a new list and any list -/
theorem xn_catL (h : XN X a ρ fun ds => XL X b ρ fun es => ds.length + es.length ≤ 100000 ∧ kl (ds ++ es)) : XN X (.BinOp a .Add b pos) ρ kl :=
  impE (pe_op op_catS anyE anyE) fun σ H Q ⟨S, E, q⟩ => ⟨_, h, S, E, fun p H1 vs ds hn1 e1 hp1 a1 hb => useL hb (E.hid e1 hn1 hp1).2 fun r H2 us es e2 hL a2 ⟨hl, hk⟩ => by
    have a1' : AtL X.K (hide S H2) vs ds := (a1.mono (hide_ex e2)).mono (hide_sub fun x hx => List.mem_cons_of_mem _ hx)
    have a2' : AtL X.K (hide S H2) us es := a2.mono (hide_sub fun x hx => List.mem_cons_of_mem _ hx)
    exact ⟨p, r, vs, us, rfl, rfl, SqL.of (e2 _ _ hp1), hL, sz_of (by rw [a1.length, a2.length]; exact hl), fun z hz => q z _ _ _ ((e1.trans e2).back hz) ((e1.trans e2).trans (Ex.new hz)) upd_same (newL (E.mono (e1.trans e2)).trk hz (a1'.append a2')) hk⟩⟩
/-- a list from a place on -/
theorem xn_cutFrom {i : Int} {cj : Nat} {cp : Pos} (h : XL X a ρ fun ds => kl (cutD ds (some i) none)) : XN X (.Subscript a (.Slice (some (.Constant (.int i) cj cp)) none none p2) pos) ρ kl :=
  impE (pe_slice sl_list anyE (po_some pe_int) po_none) fun σ H Q ⟨S, E, q⟩ => useL h E fun p H1 vs ds e1 h1 h2 hk => ⟨i, rfl, p, vs, rfl, h1, fun r hr => q r _ _ _ (e1.back hr) (e1.trans (Ex.new hr)) upd_same (newL (E.mono e1).trk hr (cut_of h2)) hk⟩
end
section
variable {X : Cx} {ρ : Rho} {a b : Expr} {pos : Pos} {kb : Bool → Prop} {C g : Addr} {n m : Nat} {s1 s2 : Str} {Cn : Con}
theorem xt_eqO (q : EqAt X.K C g) (F : FnA X.prog X.w X.K X.mg X.base n g [s1, s2] Cn) (hr : Room m X.A) (h : XE X a ρ fun x => ∃ xs, x = .obj C xs ∧ XE X b ρ fun y => ∃ ys, y = .obj C ys ∧ Cn [x, y] fun r => ∃ t, r = .bl t ∧ kb t) (hnm : n ≤ m := by decide) : XT X (.Compare a [.Eq] [b] pos) ρ kb :=
  impT (pt_cmpR (SlX.op_own (op := .Eq) (E := fun _ _ _ => False) (fun _ _ => rfl) q.eq q.fn F.raw (hr.mono hnm) pass0) anyE anyE (nomark _)) fun σ H Q ⟨S, E, qq⟩ => useE h E fun x H1 d e1 a1 ⟨xs, hx, hb⟩ => useE hb (E.mono e1) fun y H2 d2 e2 a2 ⟨ys, hy, hc⟩ => by
    subst hx hy
    obtain ⟨a, dx, vs, rfl, h1, h2⟩ := a1.inv_obj
    obtain ⟨b, dy, ws, rfl, h3, h4⟩ := a2.inv_obj
    exact ⟨a, dx, _, b, C, dy, _, rfl, rfl, ex_s hide_le (ex_s (hide_ex e2) h1), ex_s hide_le h3, q.nf, sp2 (E.mono (e1.trans e2)).trk (a1.mono (hide_ex e2)) a2 hc fun v H3 d3 e3 a3 ⟨t, ht, hk⟩ => by
      subst ht
      exact ⟨t, a3.inv_bl, qq _ _ ((e1.trans e2).trans e3) hk⟩⟩
end
end VL

set_option Elab.async false
set_option linter.all false
set_option maxRecDepth 100000
set_option maxHeartbeats 4000000
namespace VL
open PySem L2
section
variable {X : Cx} {ρ : Rho} {a lo hi : Expr} {pos p2 : Pos} {kl : List D → Prop}
/-- a list from a reckoned place to another one -/
theorem xn_cutE (h : XL X a ρ fun ds => XE X lo ρ fun x => ∃ i, x = .int i ∧ XE X hi ρ fun y => ∃ j, y = .int j ∧ kl (cutD ds (some i) (some j))) : XN X (.Subscript a (.Slice (some lo) (some hi) none p2) pos) ρ kl :=
  impE (pe_slice sl_list anyE (po_some anyE) (po_some anyE)) fun σ H Q ⟨S, E, q⟩ => useL h E fun p H1 vs ds e1 h1 h2 hb => useE hb (E.mono e1) fun x H2 d e2 a2 ⟨i, hi, hc⟩ => by
    subst hi
    refine ⟨i, a2.inv_int, useE hc ((E.mono e1).mono e2) fun y H3 d3 e3 a3 ⟨j, hj, hk⟩ => ?_⟩
    subst hj
    exact ⟨j, a3.inv_int, p, vs, rfl, ex_l (e2.trans e3) h1, fun r hr => q r _ _ _ ((e1.trans (e2.trans e3)).back hr) ((e1.trans (e2.trans e3)).trans (Ex.new hr)) upd_same (newL (E.mono (e1.trans (e2.trans e3))).trk hr (cut_of (h2.mono (hide_ex (e2.trans e3))))) hk⟩
end
end VL

set_option Elab.async false
set_option linter.all false
set_option maxRecDepth 100000
set_option maxHeartbeats 4000000
namespace G
open PySem L2 VL VM
local macro_rules | `(tactic| mi_while ["vl var"] []) => `(tactic| first | refine xe_var 0 rfl ?_ | refine xe_var 1 rfl ?_ | refine xe_var 2 rfl ?_ | refine xe_var 3 rfl ?_ | refine xe_var 4 rfl ?_ | refine xe_var 5 rfl ?_ | refine xe_var 6 rfl ?_ | refine xe_var 7 rfl ?_ | refine xe_var 8 rfl ?_ | refine xe_var 9 rfl ?_ | refine xe_var 10 rfl ?_ | refine xe_var 11 rfl ?_ | refine xe_var 12 rfl ?_ | refine xe_var 13 rfl ?_ | refine xe_var 14 rfl ?_ | refine xe_var 15 rfl ?_ | refine xe_var 16 rfl ?_)
local macro_rules | `(tactic| mi_while ["vl exp"] []) => `(tactic| first
  | refine ⟨_, rfl, ?_⟩ | refine ⟨rfl, ?_⟩ | refine ⟨Nat.le_of_ble_eq_true rfl, ?_⟩
  | mi_while ["vl var"] []
  | refine xe_int ?_ | refine xe_str ?_ | refine xe_bl ?_ | refine xe_non ?_
  | refine xe_ixL (XN.rd (xn_lst ?_)) | (refine xe_ixT ?_; mi_while ["vl var"] []; refine ⟨_, rfl, ?_⟩) | (refine xe_ixL (XE.rd ?_); mi_while ["vl var"] []; refine ⟨_, rfl, ?_⟩) | refine xe_ixT ?_ | refine xe_add ?_ | refine xe_mul ?_ | refine xe_sub ?_ | refine xe_div ?_ | refine xe_mod ?_ | refine xe_neg ?_
  | refine ⟨mulSz (by assumption) (by assumption), ?_⟩ | refine ⟨divSz (by assumption) (by assumption), ?_⟩
  | refine xt_gt ?_ | refine xt_lt ?_ | refine xt_le ?_ | refine xt_ge ?_ | refine xe_gt ?_ | refine xe_lt ?_ | refine xe_le ?_ | refine xe_ge ?_
  | refine xe_if ?_ | refine xe_tup ?_ | refine xa_cons ?_ | refine xa_nil ?_
  | refine XN.data (xn_lst ?_) | refine xn_lst ?_
  | (refine' xe_call ?hF ?hR ?hA ?hN; (case hF => assumption); (case hR => assumption); (case hN => decide)))
local macro_rules | `(tactic| mi_while ["vl set"] []) => `(tactic| first | refine xb_cons (xs_set 0 ?_ (by assumption)) | refine xb_cons (xs_set 1 ?_ (by assumption)) | refine xb_cons (xs_set 2 ?_ (by assumption)) | refine xb_cons (xs_set 3 ?_ (by assumption)) | refine xb_cons (xs_set 4 ?_ (by assumption)) | refine xb_cons (xs_set 5 ?_ (by assumption)) | refine xb_cons (xs_set 6 ?_ (by assumption)) | refine xb_cons (xs_set 7 ?_ (by assumption)) | refine xb_cons (xs_set 8 ?_ (by assumption)) | refine xb_cons (xs_set 9 ?_ (by assumption)) | refine xb_cons (xs_set 10 ?_ (by assumption)) | refine xb_cons (xs_set 11 ?_ (by assumption)) | refine xb_cons (xs_set 12 ?_ (by assumption)))
local macro_rules | `(tactic| mi_while ["vl tg"] []) => `(tactic| first | refine xgs_nil ?_ | refine xgs_cons ?_ | refine xg_tup ?_ rfl | refine xg_lst ?_ rfl | refine xg_name 0 ?_ (by assumption) | refine xg_name 1 ?_ (by assumption) | refine xg_name 2 ?_ (by assumption) | refine xg_name 3 ?_ (by assumption) | refine xg_name 4 ?_ (by assumption) | refine xg_name 5 ?_ (by assumption) | refine xg_name 6 ?_ (by assumption) | refine xg_name 7 ?_ (by assumption) | refine xg_name 8 ?_ (by assumption) | refine xg_name 9 ?_ (by assumption) | refine xg_name 10 ?_ (by assumption) | refine xg_name 11 ?_ (by assumption) | refine xg_name 12 ?_ (by assumption))
local macro_rules | `(tactic| mi_while ["vl st"] []) => `(tactic| first
  | refine xb_cons (xs_ret ?_)
  | mi_while ["vl set"] []
  | mi_while ["vl tg"] []
  | refine xb_cons (xs_asg (tg := .Tuple _ _ _) ?_)
  | refine xb_nil ?_)
local macro_rules | `(tactic| mi_while ["vl"] []) => `(tactic| repeat (first | mi_while ["vl exp"] [] | mi_while ["vl st"] []))
section
variable {P : Program} {w : World} {K : PySem.W.Frag} {mg : Str → Option Value} {base : Heap} {f : Addr} {fd : FuncData} {C : Addr}
/-! wells -/
theorem sc__law_draw : FnScope ["well", "many", "digit", "seed"] ["well", "many"] (defScope (top 99)) := ⟨rfl, rfl, rfl, by decide +kernel, rfl, by decide +kernel, by decide +kernel⟩
theorem ok_wdraw (F : Fun K "_law_draw" "_law_draw" (top 99) f fd) (B : Bt mg) : FnOk P w K mg base CX0 1 f fd ["well", "many"] (spC K 2 cDraw) := by
  refine xdef F sc__law_draw fun ds k hl hc cdv A outer s H E hr => ?_
  have nd := sc__law_draw.nd
  obtain ⟨many, rfl, m1, m2, hk⟩ := hc
  refine xb_cons (xs_if (xt_gt (xe_tokIx ?_)))
  mi_while ["vl var"] []
  refine ⟨rfl, xe_int ⟨2, rfl, by decide, fun i => ⟨i, rfl, xe_int ⟨0, rfl, ?_⟩⟩⟩⟩
  by_cases h : 0 < i
  · rw [decide_eq_true h]
    refine iteT ?_
    refine xb_cons (xs_tok2 2 (xe_divmod B.divmod (xe_tokIx ?_)) nd)
    mi_while ["vl var"] []
    refine ⟨rfl, xe_int ⟨2, rfl, by decide, fun j => ⟨j, rfl, ?_⟩⟩⟩
    mi_while ["vl var"] []
    refine ⟨many, rfl, ⟨m1, m2⟩, _, _, rfl, ?_⟩
    mi_while ["vl var"] []
    refine ⟨rfl, xe_int ⟨2, rfl, by decide, ?_⟩⟩
    mi_while ["vl"] []
    exact hk _ (Int.emod_nonneg _ (by omega)) (Int.emod_lt_of_pos _ m1)
  · rw [decide_eq_false h]
    refine iteF (xb_nil ?_)
    refine xb_cons (xs_tok (xe_add (xe_tokIx ?_)))
    mi_while ["vl var"] []
    refine ⟨rfl, xe_int ⟨1, rfl, by decide, fun j => ⟨j, rfl, ?_⟩⟩⟩
    mi_while ["vl"] []
    refine xe_intI B.int (xe_tokIx ?_)
    mi_while ["vl var"] []
    refine ⟨rfl, xe_int ⟨0, rfl, by decide, fun z => ⟨z, rfl, ?_⟩⟩⟩
    refine xb_cons (xs_tok (xe_mod (xe_intI B.int (xe_add (xe_add (xe_mul ?_))))))
    mi_while ["vl var"] []
    refine ⟨z, rfl, xe_int ⟨_, rfl, mulL (by unfold Sz; decide), _, rfl, xe_mul (xe_tokIx ?_)⟩⟩
    mi_while ["vl var"] []
    refine ⟨rfl, xe_int ⟨1, rfl, by decide, fun j2 => ⟨j2, rfl, xe_int ⟨_, rfl, mulL (by unfold Sz; decide), _, rfl, _, rfl, xe_int ⟨_, rfl, _, rfl, _, rfl, xe_int ⟨_, rfl, by decide, _, rfl, ?_⟩⟩⟩⟩⟩⟩
    mi_while ["vl var"] []
    refine ⟨rfl, xe_int ⟨0, rfl, by decide, ?_⟩⟩
    refine xb_cons (xs_ret (xe_mod (xe_intI B.int (xe_div (xe_tokIx ?_)))))
    mi_while ["vl var"] []
    refine ⟨rfl, xe_int ⟨0, rfl, by decide, fun j3 => ⟨j3, rfl, xe_int ⟨_, rfl, ⟨by decide, by decide +kernel⟩, _, rfl, _, rfl, ?_⟩⟩⟩⟩
    mi_while ["vl var"] []
    exact ⟨many, rfl, m1, hk _ (Int.emod_nonneg _ (by omega)) (Int.emod_lt_of_pos _ m1)⟩
theorem sc__law_well : FnScope ["script", "spot", "state", "cell", "own"] ["script", "spot"] (defScope (top 98)) := ⟨rfl, rfl, rfl, by decide +kernel, rfl, by decide +kernel, by decide +kernel⟩
theorem ok_well (F : Fun K "_law_well" "_law_well" (top 98) f fd) (B : Bt mg) : FnOk P w K mg base CX0 1 f fd ["script", "spot"] (spC K 2 cCask) := by
  refine xdef F sc__law_well fun ds k hl hc cdv A outer s H E hr => ?_
  have nd := sc__law_well.nd
  obtain ⟨ns, i, rfl, hns, hk⟩ := hc
  refine xb_cons (xs_set 2 (xe_add (xe_int ⟨_, rfl, xe_mul (xe_int ⟨_, rfl, ?_⟩)⟩)) nd)
  mi_while ["vl var"] []
  refine ⟨_, rfl, .inl (.inl (by decide)), _, rfl, ?_⟩
  obtain ⟨ms, hms, hlen⟩ := cut_int ns none (some 4)
  obtain ⟨us, hus, hlen2⟩ := cut_int ns (some (i : Int)) (some ((i : Int) + 1))
  refine xb_cons (xs_forL 3 (XN.data (xn_cat (xn_cutTo (XE.rd ?_)))) nd)
  mi_while ["vl var"] []
  refine ⟨_, rfl, xn_cutE (XE.rd ?_)⟩
  mi_while ["vl var"] []
  refine ⟨_, rfl, ?_⟩
  mi_while ["vl var"] []
  refine ⟨i, rfl, xe_add ?_⟩
  mi_while ["vl var"] []
  refine ⟨i, rfl, xe_int ⟨_, rfl, _, rfl, ?_⟩⟩
  refine ⟨?_, _, rfl, fun m ρ => ∃ z d e, ρ = [.dat (.lst (ns.map .int)), .dat (.int i), .dat (.int z), d, e], ⟨_, _, _, rfl⟩, ?_, ?_⟩
  · rw [hms, hus, List.length_map, List.length_map]
    omega
  · rintro m d ρ hd ⟨z, d0, e0, rfl⟩
    have : ∃ j, d = .int j := by
      rw [hms, hus] at hd
      have hmem := List.mem_of_getElem? hd
      rcases List.mem_append.mp hmem with h | h
      · obtain ⟨j, _, hj⟩ := List.mem_map.mp h
        exact ⟨j, hj.symm⟩
      · obtain ⟨j, _, hj⟩ := List.mem_map.mp h
        exact ⟨j, hj.symm⟩
    obtain ⟨j, rfl⟩ := this
    refine xb_cons (xs_set 2 (xe_mod (xe_intI B.int (xe_add (xe_add (xe_mul ?_))))) nd)
    mi_while ["vl var"] []
    refine ⟨z, rfl, xe_int ⟨_, rfl, mulL (by unfold Sz; decide), _, rfl, ?_⟩⟩
    mi_while ["vl var"] []
    refine ⟨j, rfl, _, rfl, xe_int ⟨_, rfl, _, rfl, _, rfl, xe_int ⟨_, rfl, by decide, ?_⟩⟩⟩
    exact xb_nil ⟨_, _, _, rfl⟩
  · rintro ρ ⟨z, d0, e0, rfl⟩
    refine xb_cons (xs_set 4 (XE.imp (k := fun d => ∃ g : Int, d = .int g) (xe_if (xt_lt ?_)) ?_) nd)
    · mi_while ["vl var"] []
      refine ⟨i, rfl, xe_lenL B.len (XE.rd ?_)⟩
      mi_while ["vl var"] []
      refine ⟨_, rfl, _, rfl, ?_⟩
      by_cases h : i < ns.length
      · rw [decide_eq_true (by simpa using h)]
        refine iteT (xe_ixL (XE.rd ?_))
        mi_while ["vl var"] []
        refine ⟨_, rfl, ?_⟩
        mi_while ["vl var"] []
        exact ⟨i, rfl, .int ns[i], atT (by simp [h]), _, rfl⟩
      · rw [decide_eq_false (by simpa using h)]
        exact iteF (xe_int ⟨_, rfl⟩)
    rintro d ⟨fig, rfl⟩
    refine xb_cons (xs_ret (xe_tok (xn_lst (xa_cons ?_))))
    mi_while ["vl"] []
    refine xe_abs B.abs ?_
    mi_while ["vl var"] []
    refine ⟨fig, rfl, _, rfl, xe_pow (xe_int ⟨_, rfl, xe_int ⟨_, rfl, ⟨by decide, by decide, by decide⟩, _, rfl, ?_⟩⟩)⟩
    refine iteB _ ?_ ?_
    · refine xe_abs B.abs ?_
      mi_while ["vl var"] []
      refine ⟨fig, rfl, xa_nil ⟨Nat.le_of_ble_eq_true rfl, _, _, _, rfl, hk⟩⟩
    · exact xe_int (xa_nil ⟨Nat.le_of_ble_eq_true rfl, _, _, _, rfl, hk⟩)
def cPick : Con := fun ds k => ∃ cs : List D, ds = [.tok, .lst cs] ∧ 0 < cs.length ∧ cs.length < 1000 ∧ ∀ (i : Nat) (c : D), cs[i]? = some c → k c
theorem sc__law_pick : FnScope ["well", "choices"] ["well", "choices"] (defScope (top 100)) := ⟨rfl, rfl, rfl, by decide +kernel, rfl, by decide +kernel, by decide +kernel⟩
theorem ok_pick (F : Fun K "_law_pick" "_law_pick" (top 100) f fd) (B : Bt mg) (Hd : Fn P w K mg base 1 "_law_draw" ["well", "many"] cDraw) : FnOk P w K mg base CX0 2 f fd ["well", "choices"] (spC K 2 cPick) := by
  refine xdef F sc__law_pick fun ds k hl hc cdv A outer s H E hr => ?_
  have nd := sc__law_pick.nd
  obtain ⟨cs, rfl, h0, h1, hk⟩ := hc
  refine xb_cons (xs_ret (xe_ixL (XE.rd ?_)))
  mi_while ["vl var"] []
  refine ⟨_, rfl, xe_call Hd hr (xa_cons ?_)⟩
  mi_while ["vl var"] []
  refine xa_cons (xe_lenL B.len (XE.rd ?_))
  mi_while ["vl var"] []
  refine ⟨_, rfl, xa_nil ⟨rfl, _, rfl, by omega, by omega, fun r r1 r2 => ?_⟩⟩
  have hr2 : r.toNat < cs.length := by omega
  have e : ((r.toNat : Nat) : Int) = r := by omega
  have hat : atI cs ((r.toNat : Nat) : Int) = some cs[r.toNat] := atT (by simp [hr2])
  rw [e] at hat
  exact ⟨r, rfl, cs[r.toNat], hat, hk r.toNat _ (by simp [hr2])⟩
end
end G

set_option Elab.async false
set_option linter.all false
set_option maxRecDepth 100000
set_option maxHeartbeats 4000000
namespace G
open PySem L2 VL VM
local macro_rules | `(tactic| mi_while ["vl var"] []) => `(tactic| first | refine xe_var 0 rfl ?_ | refine xe_var 1 rfl ?_ | refine xe_var 2 rfl ?_ | refine xe_var 3 rfl ?_ | refine xe_var 4 rfl ?_ | refine xe_var 5 rfl ?_ | refine xe_var 6 rfl ?_ | refine xe_var 7 rfl ?_ | refine xe_var 8 rfl ?_ | refine xe_var 9 rfl ?_ | refine xe_var 10 rfl ?_ | refine xe_var 11 rfl ?_ | refine xe_var 12 rfl ?_ | refine xe_var 13 rfl ?_ | refine xe_var 14 rfl ?_ | refine xe_var 15 rfl ?_ | refine xe_var 16 rfl ?_)
local macro_rules | `(tactic| mi_while ["vl exp"] []) => `(tactic| first
  | refine ⟨_, rfl, ?_⟩ | refine ⟨rfl, ?_⟩ | refine ⟨Nat.le_of_ble_eq_true rfl, ?_⟩
  | mi_while ["vl var"] []
  | refine xe_int ?_ | refine xe_str ?_ | refine xe_bl ?_ | refine xe_non ?_
  | refine xe_ixL (XN.rd (xn_lst ?_)) | (refine xe_ixT ?_; mi_while ["vl var"] []; refine ⟨_, rfl, ?_⟩) | (refine xe_ixL (XE.rd ?_); mi_while ["vl var"] []; refine ⟨_, rfl, ?_⟩) | refine xe_ixT ?_ | refine xe_add ?_ | refine xe_mul ?_ | refine xe_sub ?_ | refine xe_div ?_ | refine xe_mod ?_ | refine xe_neg ?_
  | refine ⟨mulSz (by assumption) (by assumption), ?_⟩ | refine ⟨divSz (by assumption) (by assumption), ?_⟩
  | refine xt_gt ?_ | refine xt_lt ?_ | refine xt_le ?_ | refine xt_ge ?_ | refine xe_gt ?_ | refine xe_lt ?_ | refine xe_le ?_ | refine xe_ge ?_
  | refine xe_if ?_ | refine xe_tup ?_ | refine xa_cons ?_ | refine xa_nil ?_
  | refine XN.data (xn_lst ?_) | refine xn_lst ?_
  | (refine' xe_call ?hF ?hR ?hA ?hN; (case hF => assumption); (case hR => assumption); (case hN => decide)))
local macro_rules | `(tactic| mi_while ["vl set"] []) => `(tactic| first | refine xb_cons (xs_set 0 ?_ (by assumption)) | refine xb_cons (xs_set 1 ?_ (by assumption)) | refine xb_cons (xs_set 2 ?_ (by assumption)) | refine xb_cons (xs_set 3 ?_ (by assumption)) | refine xb_cons (xs_set 4 ?_ (by assumption)) | refine xb_cons (xs_set 5 ?_ (by assumption)) | refine xb_cons (xs_set 6 ?_ (by assumption)) | refine xb_cons (xs_set 7 ?_ (by assumption)) | refine xb_cons (xs_set 8 ?_ (by assumption)) | refine xb_cons (xs_set 9 ?_ (by assumption)) | refine xb_cons (xs_set 10 ?_ (by assumption)) | refine xb_cons (xs_set 11 ?_ (by assumption)) | refine xb_cons (xs_set 12 ?_ (by assumption)))
local macro_rules | `(tactic| mi_while ["vl tg"] []) => `(tactic| first | refine xgs_nil ?_ | refine xgs_cons ?_ | refine xg_tup ?_ rfl | refine xg_lst ?_ rfl | refine xg_name 0 ?_ (by assumption) | refine xg_name 1 ?_ (by assumption) | refine xg_name 2 ?_ (by assumption) | refine xg_name 3 ?_ (by assumption) | refine xg_name 4 ?_ (by assumption) | refine xg_name 5 ?_ (by assumption) | refine xg_name 6 ?_ (by assumption) | refine xg_name 7 ?_ (by assumption) | refine xg_name 8 ?_ (by assumption) | refine xg_name 9 ?_ (by assumption) | refine xg_name 10 ?_ (by assumption) | refine xg_name 11 ?_ (by assumption) | refine xg_name 12 ?_ (by assumption))
local macro_rules | `(tactic| mi_while ["vl st"] []) => `(tactic| first
  | refine xb_cons (xs_ret ?_)
  | mi_while ["vl set"] []
  | mi_while ["vl tg"] []
  | refine xb_cons (xs_asg (tg := .Tuple _ _ _) ?_)
  | refine xb_nil ?_)
local macro_rules | `(tactic| mi_while ["vl"] []) => `(tactic| repeat (first | mi_while ["vl exp"] [] | mi_while ["vl st"] []))
section
variable {P : Program} {w : World} {K : PySem.W.Frag} {mg : Str → Option Value} {base : Heap} {f : Addr} {fd : FuncData} {C : Addr}
/-! the law's own numbers -/
theorem gcd_turn (a b c : Int) : Int.gcd ((Int.gcd c a : Nat) : Int) b = Int.gcd ((Int.gcd a b : Nat) : Int) c := by
  show Nat.gcd ((Int.gcd c a : Nat) : Int).natAbs b.natAbs = Nat.gcd ((Int.gcd a b : Nat) : Int).natAbs c.natAbs
  rw [Int.natAbs_natCast, Int.natAbs_natCast]
  show Nat.gcd (Nat.gcd c.natAbs a.natAbs) b.natAbs = Nat.gcd (Nat.gcd a.natAbs b.natAbs) c.natAbs
  rw [Nat.gcd_assoc, Nat.gcd_comm]
theorem sc__law_shared : FnScope ["one_here", "other"] ["one_here", "other"] (defScope (top 101)) := ⟨rfl, rfl, rfl, by decide +kernel, rfl, by decide +kernel, by decide +kernel⟩
theorem ok_lshared (F : Fun K "_law_shared" "_law_shared" (top 101) f fd) (B : Bt mg) : FnOk P w K mg base CX0 1 f fd ["one_here", "other"] (spC K 2 cShared) := by
  refine xdef F sc__law_shared fun ds k hl hc cdv A outer s H E hr => ?_
  obtain ⟨a, b, rfl, hk⟩ := hc
  refine xb_cons (xs_par 0 1 rfl sc__law_shared.nd (xe_abs B.abs (xe_var 0 rfl ⟨_, rfl, xe_abs B.abs (xe_var 1 rfl ⟨_, rfl, ?_⟩)⟩)) rfl)
  refine xb_cons (xs_while (fun m ρ => ∃ x y : Int, ρ = [.dat (.int x), .dat (.int y)] ∧ 0 ≤ x ∧ 0 ≤ y ∧ m = y.toNat ∧ Int.gcd x y = Int.gcd a b) ⟨_, _, _, rfl, ?_, ?_, rfl, ?_⟩ ?_)
  · split <;> omega
  · split <;> omega
  · split <;> split <;> simp
  · rintro m ρ' ⟨x, y, rfl, hx, hy, hm, hg⟩
    refine xt_gt (xe_var 1 rfl ⟨_, rfl, xe_int ⟨_, rfl, ?_⟩⟩)
    by_cases c : 0 < y
    · rw [decide_eq_true c]
      refine iteT ?_
      refine xb_cons (xs_par 0 1 rfl sc__law_shared.nd (xe_var 1 rfl (xe_mod (xe_intI B.int (xe_var 0 rfl ⟨_, rfl, _, rfl, xe_var 1 rfl ⟨_, rfl, c, ?_⟩⟩)))) rfl)
      refine xb_nil ⟨(x % y).toNat, ?_, y, x % y, rfl, hy, Int.emod_nonneg _ (by omega), rfl, ?_⟩
      · have := Int.emod_lt_of_pos x c
        have := Int.emod_nonneg x (show y ≠ 0 by omega)
        omega
      · rw [← hg, gcd_step]
    · rw [decide_eq_false c]
      refine iteF ?_
      have : y = 0 := by omega
      subst this
      refine xb_cons (xs_ret (xe_var 0 rfl ?_))
      have e : x = (Int.gcd a b : Int) := by
        rw [← hg]
        simp
        omega
      rw [e]
      exact hk
theorem sc__law_num : FnScope ["a", "b", "c", "by"] ["a", "b", "c"] (defScope (top 102)) := ⟨rfl, rfl, rfl, by decide +kernel, rfl, by decide +kernel, by decide +kernel⟩
theorem ok_num (F : Fun K "_law_num" "_law_num" (top 102) f fd) (Hs : Fn P w K mg base 1 "_law_shared" ["one_here", "other"] cShared) : FnOk P w K mg base CX0 2 f fd ["a", "b", "c"] (spC K 3 cMade) := by
  refine xdef F sc__law_num fun ds k hl hc cdv A outer s H E hr => ?_
  have nd := sc__law_num.nd
  obtain ⟨a, b, c, B, rfl, hc0, ⟨sa, sb, sc⟩, hB, hk⟩ := hc
  have hg := gcd_pos (a := a) (b := b) hc0
  have hs : Sz B (Int.gcd (Int.gcd a b) c : Int) := sc.dvd (Int.gcd_dvd_right ..) (by omega)
  obtain ⟨t, da, db, dc⟩ := tri_made (a := a) (b := b) (g := (Int.gcd (Int.gcd a b) c : Int)) (show c ≠ 0 by omega) (by rw [if_pos hc0])
  mi_while ["vl"] []
  refine ⟨c, a, rfl, ?_⟩
  mi_while ["vl"] []
  refine ⟨_, b, rfl, ?_⟩
  rw [gcd_turn a b c]
  mi_while ["vl"] []
  rw [decide_eq_true hc0]
  refine iteT ?_
  mi_while ["vl"] []
  exact hk _ _ _ t ⟨sa.div da, sb.div db, sc.div dc⟩
theorem sc__law_plus : FnScope ["one_here", "two"] ["one_here", "two"] (defScope (top 103)) := ⟨rfl, rfl, rfl, by decide +kernel, rfl, by decide +kernel, by decide +kernel⟩
theorem ok_wplus (F : Fun K "_law_plus" "_law_plus" (top 103) f fd) (Hm : Fn P w K mg base 2 "_law_num" ["a", "b", "c"] cMade) : FnOk P w K mg base CX0 3 f fd ["one_here", "two"] (spC K 2 cAdd) := by
  refine xdef F sc__law_plus fun ds k hl hc cdv A outer s H E hr => ?_
  have nd := sc__law_plus.nd
  obtain ⟨x, y, z, w, a, b, c, a', b', c', B, C, rfl, t, u, ⟨s1, s2, s3⟩, ⟨s4, s5, s6⟩, hB, hk⟩ := hc
  mi_while ["vl"] []
  refine ⟨_, _, _, B + C + 1, rfl, Int.mul_pos t.pos u.pos, ⟨(s1.mul s6).add ((s4.mul s3).mono (by omega)), (s2.mul s6).add ((s5.mul s3).mono (by omega)), (s3.mul s6).mono (by omega)⟩, by omega, ?_⟩
  rw [(add_cross t u).1, (add_cross t u).2]
  exact hk
theorem sc__law_mul : FnScope ["one_here", "two", "a"] ["one_here", "two"] (defScope (top 104)) := ⟨rfl, rfl, rfl, by decide +kernel, rfl, by decide +kernel, by decide +kernel⟩
theorem ok_mul (F : Fun K "_law_mul" "_law_mul" (top 104) f fd) (Hm : Fn P w K mg base 2 "_law_num" ["a", "b", "c"] cMade) : FnOk P w K mg base CX0 3 f fd ["one_here", "two"] (spC K 2 cTimes) := by
  refine xdef F sc__law_mul fun ds k hl hc cdv A outer s H E hr => ?_
  have nd := sc__law_mul.nd
  obtain ⟨x, y, z, w, a, b, c, a', b', c', B, C, rfl, t, u, ⟨s1, s2, s3⟩, ⟨s4, s5, s6⟩, hB, hk⟩ := hc
  mi_while ["vl"] []
  refine ⟨_, _, _, B + C + 1, rfl, Int.mul_pos t.pos u.pos, ⟨(s1.mul s4).sub (s2.mul s5), (s1.mul s5).add (s2.mul s4), (s3.mul s6).mono (by omega)⟩, by omega, ?_⟩
  rw [(mul_cross t u).1, (mul_cross t u).2]
  exact hk
def cLess : Con := fun ds k => ∃ (x y z w : Rat) (a b c a' b' c' : Int) (B C : Nat), ds = [triD a b c, triD a' b' c'] ∧ IsTri x y a b c ∧ IsTri z w a' b' c' ∧ Sz3 B a b c ∧ Sz3 C a' b' c' ∧ B + C < 8990 ∧ ∀ p q r, IsTri (x + -z) (y + -w) p q r → Sz3 (B + C + 1) p q r → k (triD p q r)
theorem sc__law_less : FnScope ["one_here", "two"] ["one_here", "two"] (defScope (top 105)) := ⟨rfl, rfl, rfl, by decide +kernel, rfl, by decide +kernel, by decide +kernel⟩
theorem ok_less (F : Fun K "_law_less" "_law_less" (top 105) f fd) (Hm : Fn P w K mg base 3 "_law_plus" ["one_here", "two"] cAdd) : FnOk P w K mg base CX0 4 f fd ["one_here", "two"] (spC K 2 cLess) := by
  refine xdef F sc__law_less fun ds k hl hc cdv A outer s H E hr => ?_
  have nd := sc__law_less.nd
  obtain ⟨x, y, z, w, a, b, c, a', b', c', B, C, rfl, t, u, st, su, hB, hk⟩ := hc
  mi_while ["vl"] []
  have e : ∀ i : Int, 0 - i = -i := fun i => by omega
  rw [e, e]
  exact ⟨x, y, -z, -w, a, b, c, -a', -b', c', B, C, rfl, t, tri_neg u, st, ⟨su.1.neg, su.2.1.neg, su.2.2⟩, hB, hk⟩
theorem sc__law_scale : FnScope ["n", "zoom_here", "turn_here", "a", "b", "by"] ["n", "zoom_here", "turn_here"] (defScope (top 107)) := ⟨rfl, rfl, rfl, by decide +kernel, rfl, by decide +kernel, by decide +kernel⟩
theorem ok_wscale (F : Fun K "_law_scale" "_law_scale" (top 107) f fd) (B : Bt mg) (Hp : Fn P w K mg base 1 "_law_power" ["n", "many"] cPower) (Hm : Fn P w K mg base 2 "_law_num" ["a", "b", "c"] cMade) : FnOk P w K mg base CX0 3 f fd ["n", "zoom_here", "turn_here"] (spC K 3 cScaleOf) := by
  refine xdef F sc__law_scale fun ds k hl hc cdv A outer s H E hr => ?_
  have nd := sc__law_scale.nd
  obtain ⟨n, z, q, rfl, n1, n2, hz, hk⟩ := hc
  obtain ⟨a, b, ea, eb, sa, sb, hat⟩ := rxi q
  refine xb_cons (xs_asg (xe_ixL (XN.rd (xn_lst ?_))))
  mi_while ["vl"] []
  refine xe_intI B.int ?_
  mi_while ["vl"] []
  refine ⟨by decide, _, rfl, _, hat, ?_⟩
  mi_while ["vl"] []
  refine xe_abs B.abs ?_
  mi_while ["vl"] []
  refine ⟨n, z.natAbs, by rw [absN], (sz_small n1 n2).mono (by omega), by omega, ?_⟩
  have hp : Sz (4 * z.natAbs + 1) (n ^ z.natAbs) := (sz_small n1 n2).pow _
  mi_while ["vl"] []
  by_cases h0 : 0 ≤ z
  · rw [decide_eq_true h0]
    refine iteT ?_
    mi_while ["vl"] []
    have hs : sc n z = ((n ^ z.natAbs : Int) : Rat) := by rw [sc_nonneg h0]; congr 2; omega
    refine hk _ _ _ ⟨by decide, ?_, ?_, ?_⟩ ⟨(sa.mul hp).mono (by omega), (sb.mul hp).mono (by omega), by unfold Sz; rw [show (2 : Nat) ^ (4 * z.natAbs + 2) = 4 * 2 ^ (4 * z.natAbs) by rw [Nat.pow_add, Nat.mul_comm]]; have := Nat.pow_pos (n := 4 * z.natAbs) (show 0 < 2 by decide); show 1 < _; omega⟩
    · rw [hs, ea]; push_cast; grind
    · rw [hs, eb]; push_cast; grind
    · show Nat.gcd _ 1 = 1
      exact Nat.gcd_one_right _
  · rw [decide_eq_false h0]
    refine iteF ?_
    mi_while ["vl"] []
    refine ⟨a, b, n ^ z.natAbs, 4 * z.natAbs + 2, rfl, pow_pos' (by omega) _, ⟨sa.mono (by omega), sb.mono (by omega), hp.mono (by omega)⟩, by omega, ?_⟩
    have hs : sc n z = 1 / ((n ^ z.natAbs : Int) : Rat) := by rw [sc_neg_eq (by omega) (by omega)]; congr 3; omega
    have e1 : sc n z * rx q 1 0 = (a : Rat) / ((n ^ z.natAbs : Int) : Rat) := by rw [hs, ea]; grind
    have e2 : sc n z * ry q 1 0 = (b : Rat) / ((n ^ z.natAbs : Int) : Rat) := by rw [hs, eb]; grind
    rw [← e1, ← e2]
    exact hk
theorem sc__law_point : FnScope ["number", "a", "b", "c", "by", "other"] ["number"] (defScope (top 108)) := ⟨rfl, rfl, rfl, by decide +kernel, rfl, by decide +kernel, by decide +kernel⟩
theorem ok_wpoint (F : Fun K "_law_point" "_law_point" (top 108) f fd) (Hs : Fn P w K mg base 1 "_law_shared" ["one_here", "other"] cShared) : FnOk P w K mg base CX0 2 f fd ["number"] (spC K 1 cPt) := by
  refine xdef F sc__law_point fun ds k hl hc cdv A outer s H E hr => ?_
  have nd := sc__law_point.nd
  obtain ⟨x, y, a, b, c, B, rfl, t, sc, hB, hk⟩ := hc
  have c0 := t.pos
  have hg : 0 < (Int.gcd a c : Int) := by
    have := Int.gcd_pos_of_ne_zero_right a (show c ≠ 0 by omega)
    omega
  have hg2 : 0 < (Int.gcd b c : Int) := by
    have := Int.gcd_pos_of_ne_zero_right b (show c ≠ 0 by omega)
    omega
  have hs : Sz B (Int.gcd a c : Int) := sc.dvd (Int.gcd_dvd_right ..) (by omega)
  have hs2 : Sz B (Int.gcd b c : Int) := sc.dvd (Int.gcd_dvd_right ..) (by omega)
  mi_while ["vl"] []
  refine xb_cons (xs_par 4 5 rfl nd ?_ rfl)
  mi_while ["vl"] []
  refine ⟨a, c, rfl, ?_⟩
  mi_while ["vl"] []
  refine ⟨b, c, rfl, ?_⟩
  mi_while ["vl"] []
  rw [low_num a c c0, low_den a c c0, low_num b c c0, low_den b c c0, ← t.xe, ← t.ye]
  exact hk
theorem sc__law_behind : FnScope ["n", "one_here", "two", "spot"] ["n", "one_here", "two"] (defScope (top 109)) := ⟨rfl, rfl, rfl, by decide +kernel, rfl, by decide +kernel, by decide +kernel⟩
theorem ok_behind (F : Fun K "_law_behind" "_law_behind" (top 109) f fd) (Bl : Bt mg) (Hs : Fn P w K mg base 3 "_law_scale" ["n", "zoom_here", "turn_here"] cScaleOf) (Ht : Fn P w K mg base 3 "_law_mul" ["one_here", "two"] cTimes) (Ha : Fn P w K mg base 3 "_law_plus" ["one_here", "two"] cAdd) : FnOk P w K mg base CX0 4 f fd ["n", "one_here", "two"] (spC K 3 cThenMv) := by
  refine xdef F sc__law_behind fun ds k hl hc cdv A outer s H E hr => ?_
  have nd := sc__law_behind.nd
  obtain ⟨n, m, m', a, b, c, a', b', c', B, C, rfl, t, u, st, su, n1, n2, hz, hB, hk⟩ := hc
  mi_while ["vl"] []
  refine ⟨n, m.k, m.q, rfl, n1, n2, hz, fun e1 e2 e3 v sv => ?_⟩
  mi_while ["vl"] []
  refine ⟨_, _, _, _, e1, e2, e3, a', b', c', _, C, rfl, v, u, sv, su, by omega, fun g1 g2 g3 y sy => ?_⟩
  rw [(cmul n m.k m.q m'.x m'.y).1, (cmul n m.k m.q m'.x m'.y).2] at y
  mi_while ["vl"] []
  refine ⟨_, _, _, _, a, b, c, g1, g2, g3, B, _, rfl, t, y, st, sy, by omega, fun p q r z sz => ?_⟩
  mi_while ["vl"] []
  refine xe_intI Bl.int ?_
  mi_while ["vl"] []
  refine ⟨by decide, ?_⟩
  mi_while ["vl"] []
  exact hk p q r z ⟨sz.1.mono (by omega), sz.2.1.mono (by omega), sz.2.2.mono (by omega)⟩
def cBackW : Con := fun ds k => ∃ (n : Int) (m : Mv) (a b c : Int) (B : Nat), ds = [.int n, mvT m a b c] ∧ IsTri m.x m.y a b c ∧ Sz3 B a b c ∧ 2 ≤ n ∧ n ≤ 10 ∧ m.k.natAbs ≤ 1000 ∧ 4 * m.k.natAbs + B < 8900 ∧
  ∀ p q r, IsTri (m.back n).x (m.back n).y p q r → Sz3 (4 * m.k.natAbs + B + 6) p q r → k (mvT (m.back n) p q r)
theorem sc__law_back : FnScope ["n", "one_here", "by"] ["n", "one_here"] (defScope (top 110)) := ⟨rfl, rfl, rfl, by decide +kernel, rfl, by decide +kernel, by decide +kernel⟩
theorem ok_wback (F : Fun K "_law_back" "_law_back" (top 110) f fd) (Bl : Bt mg) (Hs : Fn P w K mg base 3 "_law_scale" ["n", "zoom_here", "turn_here"] cScaleOf) (Ht : Fn P w K mg base 3 "_law_mul" ["one_here", "two"] cTimes) (Hm : Fn P w K mg base 4 "_law_less" ["one_here", "two"] cLess) : FnOk P w K mg base CX0 5 f fd ["n", "one_here"] (spC K 2 cBackW) := by
  refine xdef F sc__law_back fun ds k hl hc cdv A outer s H E hr => ?_
  have nd := sc__law_back.nd
  obtain ⟨n, m, a, b, c, B, rfl, t, st, n1, n2, hz, hB, hk⟩ := hc
  mi_while ["vl"] []
  refine ⟨n, 0 - m.k, 0 - m.q, rfl, n1, n2, by omega, fun e1 e2 e3 v sv => ?_⟩
  rw [show 0 - m.k = -m.k by omega, show 0 - m.q = -m.q by omega] at v
  rw [show (0 - m.k).natAbs = m.k.natAbs by omega] at sv
  mi_while ["vl"] []
  refine xe_intI Bl.int ?_
  mi_while ["vl"] []
  refine ⟨by decide, ?_⟩
  mi_while ["vl"] []
  refine ⟨_, _, _, _, e1, e2, e3, a, b, c, _, B, rfl, v, t, sv, st, by omega, fun g1 g2 g3 y sy => ?_⟩
  rw [(cmul n (-m.k) (-m.q) m.x m.y).1, (cmul n (-m.k) (-m.q) m.x m.y).2] at y
  mi_while ["vl"] []
  have t0 : IsTri 0 0 0 0 1 := ⟨by decide, by simp, by simp, by decide⟩
  refine ⟨0, 0, _, _, 0, 0, 1, g1, g2, g3, 1, _, rfl, t0, y, ⟨by unfold Sz; decide, by unfold Sz; decide, by unfold Sz; decide⟩, sy, by omega, fun p q r z sz => ?_⟩
  mi_while ["vl"] []
  rw [Rat.zero_add, Rat.zero_add] at z
  rw [show 0 - m.k = -m.k by omega, show 0 - m.q = -m.q by omega]
  exact hk p q r z ⟨sz.1.mono (by omega), sz.2.1.mono (by omega), sz.2.2.mono (by omega)⟩
theorem sc__law_word : FnScope ["part"] ["part"] (defScope (top 112)) := ⟨rfl, rfl, rfl, by decide +kernel, rfl, by decide +kernel, by decide +kernel⟩
theorem ok_word (F : Fun K "_law_word" "_law_word" (top 112) f fd) (B : Bt mg) : FnOk P w K mg base CX0 1 f fd ["part"] (spC K 1 cFrText) := by
  refine xdef F sc__law_word fun ds k hl hc cdv A outer s H E hr => ?_
  have nd := sc__law_word.nd
  obtain ⟨x, rfl, hx, hk⟩ := hc
  have h1 := numLen hx.1
  have h2 := numLen hx.2
  have sl := sizeLine_eq
  refine xb_cons (xs_ret (xe_if (xt_eq ?_)))
  mi_while ["vl"] []
  show if decide ((x.den : Int) = 1) = true then _ else _
  unfold frS at hk
  by_cases h : (x.den : Int) = 1
  · rw [decide_eq_true h]
    rw [if_pos h] at hk
    refine iteT (xe_strI B.str ?_)
    mi_while ["vl"] []
    exact ⟨h1.1, hk⟩
  · rw [decide_eq_false h]
    rw [if_neg h] at hk
    refine iteF (xe_addS (xe_addS (xe_strI B.str ?_)))
    mi_while ["vl"] []
    refine ⟨h1.1, _, rfl, xe_str ⟨_, rfl, ?_, _, rfl, xe_strI B.str ?_⟩⟩
    · rw [slashLen]; omega
    mi_while ["vl"] []
    refine ⟨h2.1, _, rfl, ?_, hk⟩
    rw [strLen_append, slashLen]; omega
def cText : Con := fun ds k => ∃ (n : Int) (m : Mv) (a b c : Int) (B : Nat), ds = [.int n, mvT m a b c] ∧ 2 ≤ n ∧ n ≤ 10 ∧ m.k.natAbs ≤ 400 ∧ 0 ≤ m.q ∧ m.q ≤ 3 ∧ IsTri m.x m.y a b c ∧ Sz3 B a b c ∧ B ≤ 1900 ∧ k (.str (pgS n m))
theorem sc__law_text : FnScope ["n", "one_here", "first", "second", "head"] ["n", "one_here"] (defScope (top 113)) := ⟨rfl, rfl, rfl, by decide +kernel, rfl, by decide +kernel, by decide +kernel⟩
theorem ok_wtext (F : Fun K "_law_text" "_law_text" (top 113) f fd) (B : Bt mg) (Hp : Fn P w K mg base 2 "_law_point" ["number"] cPt) (Hw : Fn P w K mg base 1 "_law_word" ["part"] cFrText) : FnOk P w K mg base CX0 3 f fd ["n", "one_here"] (spC K 2 cText) := by
  refine xdef F sc__law_text fun ds k hl hc cdv A outer s H E hr => ?_
  have nd := sc__law_text.nd
  obtain ⟨n, m, a, b, c, Bd, rfl, n1, n2, hz4, q1, q2, t, st, hB, hk⟩ := hc
  have sq := t.szq st
  have sx : SzQ 1900 m.x := sq.1.mono hB
  have sy : SzQ 1900 m.y := sq.2.mono hB
  have hn := numLen (B := 60) (i := n) (by unfold Sz; omega)
  have hz := numLen (B := 60) (i := m.k) (by unfold Sz; omega)
  have hq := numLen (B := 60) (i := m.q) (by unfold Sz; omega)
  have lx := frLen sx
  have ly := frLen sy
  have sl := sizeLine_eq
  have len7 : (("factor " : Str)).length = 7 := rfl
  have len6 : ((" zoom " : Str)).length = 6 := rfl
  have len6' : ((" turn " : Str)).length = 6 := rfl
  have len4 : ((" at " : Str)).length = 4 := rfl
  have len1 : ((" " : Str)).length = 1 := rfl
  mi_while ["vl"] []
  refine ⟨m.x, m.y, a, b, c, Bd, rfl, t, st.2.2, by omega, xg_tup (xgs_cons (xg_name 2 (xgs_cons (xg_name 3 (xgs_nil ?_) nd)) nd)) rfl⟩
  refine xb_cons (xs_set 4 (xe_addS (xe_addS (xe_addS (xe_addS (xe_addS (xe_str ⟨_, rfl, xe_strI B.str ?_⟩)))))) nd)
  mi_while ["vl"] []
  refine ⟨hn.1, _, rfl, ?_, _, rfl, xe_str ⟨_, rfl, ?_, _, rfl, xe_strI B.str ?_⟩⟩
  · rw [len7]; omega
  · rw [strLen_append, len7, len6]; omega
  mi_while ["vl"] []
  refine ⟨hz.1, _, rfl, ?_, _, rfl, xe_str ⟨_, rfl, ?_, _, rfl, xe_strI B.str ?_⟩⟩
  · rw [strLen_append, strLen_append, len7, len6]; omega
  · rw [strLen_append, strLen_append, strLen_append, len7, len6, len6']; omega
  mi_while ["vl"] []
  refine ⟨hq.1, _, rfl, ?_, ?_⟩
  · rw [strLen_append, strLen_append, strLen_append, strLen_append, len7, len6, len6']; omega
  refine xb_cons (xs_ret (xe_addS (xe_addS (xe_addS (xe_addS ?_)))))
  mi_while ["vl var"] []
  refine ⟨_, rfl, xe_str ⟨_, rfl, ?_, _, rfl, ?_⟩⟩
  · rw [strLen_append, strLen_append, strLen_append, strLen_append, strLen_append, len7, len6, len6', len4]; omega
  mi_while ["vl"] []
  refine ⟨sx, _, rfl, ?_, _, rfl, xe_str ⟨_, rfl, ?_, _, rfl, ?_⟩⟩
  · rw [strLen_append, strLen_append, strLen_append, strLen_append, strLen_append, strLen_append, len7, len6, len6', len4]; omega
  · rw [strLen_append, strLen_append, strLen_append, strLen_append, strLen_append, strLen_append, strLen_append, len7, len6, len6', len4, len1]; omega
  mi_while ["vl"] []
  refine ⟨sy, _, rfl, ?_, ?_⟩
  · rw [strLen_append, strLen_append, strLen_append, strLen_append, strLen_append, strLen_append, strLen_append, strLen_append, len7, len6, len6', len4, len1]; omega
  unfold pgS at hk
  simp only [Str.append_assoc] at hk ⊢
  exact hk
end
end G

set_option Elab.async false
set_option linter.all false
set_option maxRecDepth 100000
set_option maxHeartbeats 4000000
namespace G
open PySem L2 VL VM
local macro_rules | `(tactic| mi_while ["vl var"] []) => `(tactic| first | refine xe_var 0 rfl ?_ | refine xe_var 1 rfl ?_ | refine xe_var 2 rfl ?_ | refine xe_var 3 rfl ?_ | refine xe_var 4 rfl ?_ | refine xe_var 5 rfl ?_ | refine xe_var 6 rfl ?_ | refine xe_var 7 rfl ?_ | refine xe_var 8 rfl ?_ | refine xe_var 9 rfl ?_ | refine xe_var 10 rfl ?_ | refine xe_var 11 rfl ?_ | refine xe_var 12 rfl ?_ | refine xe_var 13 rfl ?_ | refine xe_var 14 rfl ?_ | refine xe_var 15 rfl ?_ | refine xe_var 16 rfl ?_)
local macro_rules | `(tactic| mi_while ["vl exp"] []) => `(tactic| first
  | refine ⟨_, rfl, ?_⟩ | refine ⟨rfl, ?_⟩ | refine ⟨Nat.le_of_ble_eq_true rfl, ?_⟩
  | mi_while ["vl var"] []
  | refine xe_int ?_ | refine xe_str ?_ | refine xe_bl ?_ | refine xe_non ?_
  | refine xe_ixL (XN.rd (xn_lst ?_)) | (refine xe_ixT ?_; mi_while ["vl var"] []; refine ⟨_, rfl, ?_⟩) | (refine xe_ixL (XE.rd ?_); mi_while ["vl var"] []; refine ⟨_, rfl, ?_⟩) | refine xe_ixT ?_ | refine xe_add ?_ | refine xe_mul ?_ | refine xe_sub ?_ | refine xe_div ?_ | refine xe_mod ?_ | refine xe_neg ?_
  | refine ⟨mulSz (by assumption) (by assumption), ?_⟩ | refine ⟨divSz (by assumption) (by assumption), ?_⟩
  | refine xt_gt ?_ | refine xt_lt ?_ | refine xt_le ?_ | refine xt_ge ?_ | refine xe_gt ?_ | refine xe_lt ?_ | refine xe_le ?_ | refine xe_ge ?_
  | refine xe_if ?_ | refine xe_tup ?_ | refine xa_cons ?_ | refine xa_nil ?_
  | refine XN.data (xn_lst ?_) | refine xn_lst ?_
  | (refine' xe_call ?hF ?hR ?hA ?hN; (case hF => assumption); (case hR => assumption); (case hN => decide)))
local macro_rules | `(tactic| mi_while ["vl set"] []) => `(tactic| first | refine xb_cons (xs_set 0 ?_ (by assumption)) | refine xb_cons (xs_set 1 ?_ (by assumption)) | refine xb_cons (xs_set 2 ?_ (by assumption)) | refine xb_cons (xs_set 3 ?_ (by assumption)) | refine xb_cons (xs_set 4 ?_ (by assumption)) | refine xb_cons (xs_set 5 ?_ (by assumption)) | refine xb_cons (xs_set 6 ?_ (by assumption)) | refine xb_cons (xs_set 7 ?_ (by assumption)) | refine xb_cons (xs_set 8 ?_ (by assumption)) | refine xb_cons (xs_set 9 ?_ (by assumption)) | refine xb_cons (xs_set 10 ?_ (by assumption)) | refine xb_cons (xs_set 11 ?_ (by assumption)) | refine xb_cons (xs_set 12 ?_ (by assumption)))
local macro_rules | `(tactic| mi_while ["vl tg"] []) => `(tactic| first | refine xgs_nil ?_ | refine xgs_cons ?_ | refine xg_tup ?_ rfl | refine xg_lst ?_ rfl | refine xg_name 0 ?_ (by assumption) | refine xg_name 1 ?_ (by assumption) | refine xg_name 2 ?_ (by assumption) | refine xg_name 3 ?_ (by assumption) | refine xg_name 4 ?_ (by assumption) | refine xg_name 5 ?_ (by assumption) | refine xg_name 6 ?_ (by assumption) | refine xg_name 7 ?_ (by assumption) | refine xg_name 8 ?_ (by assumption) | refine xg_name 9 ?_ (by assumption) | refine xg_name 10 ?_ (by assumption) | refine xg_name 11 ?_ (by assumption) | refine xg_name 12 ?_ (by assumption))
local macro_rules | `(tactic| mi_while ["vl st"] []) => `(tactic| first
  | refine xb_cons (xs_ret ?_)
  | mi_while ["vl set"] []
  | mi_while ["vl tg"] []
  | refine xb_cons (xs_asg (tg := .Tuple _ _ _) ?_)
  | refine xb_nil ?_)
local macro_rules | `(tactic| mi_while ["vl"] []) => `(tactic| repeat (first | mi_while ["vl exp"] [] | mi_while ["vl st"] []))
section
variable {P : Program} {w : World} {K : PySem.W.Frag} {mg : Str → Option Value} {base : Heap} {f : Addr} {fd : FuncData} {C : Addr}
/-! moves done so many times -/
def cWTimes : Con := fun ds k => ∃ (n : Int) (m : Mv) (a b c j : Int), ds = [.int n, mvT m a b c, .int j] ∧ 2 ≤ n ∧ n ≤ 10 ∧ m.k.natAbs ≤ 3 ∧ 0 ≤ m.q ∧ m.q < 4 ∧ IsTri m.x m.y a b c ∧ Sz3 40 a b c ∧ j.natAbs ≤ 3 ∧ ∀ p q r, IsTri (pz n m j).x (pz n m j).y p q r → Sz3 600 p q r → k (mvT (pz n m j) p q r)
theorem sc__law_times : FnScope ["n", "one_here", "many", "found", "turn"] ["n", "one_here", "many"] (defScope (top 111)) := ⟨rfl, rfl, rfl, by decide +kernel, rfl, by decide +kernel, by decide +kernel⟩
theorem ok_wtimes (F : Fun K "_law_times" "_law_times" (top 111) f fd) (Bl : Bt mg) (Hb : Fn P w K mg base 5 "_law_back" ["n", "one_here"] cBackW) (Hm : Fn P w K mg base 3 "_law_mul" ["one_here", "two"] cTimes) (Ha : Fn P w K mg base 4 "_law_behind" ["n", "one_here", "two"] cThenMv) : FnOk P w K mg base CX0 6 f fd ["n", "one_here", "many"] (spC K 3 cWTimes) := by
  refine xdef F sc__law_times fun ds k hl hc cdv A outer s H E hr => ?_
  have nd := sc__law_times.nd
  obtain ⟨n, m, a, b, c, j, rfl, n1, n2, hk3, q1, q2, t, st, hj, hk⟩ := hc
  have nz : n ≠ 0 := by omega
  refine xb_cons (XS.imp (j := { nx := fun ρ' => ∃ (m' : Mv) (a b c j' : Int), ρ' = [.dat (.int n), .dat (mvT m' a b c), .dat (.int j'), .un, .un] ∧ 0 ≤ j' ∧ j' ≤ 3 ∧ pz n m' j' = pz n m j ∧ IsTri m'.x m'.y a b c ∧ Sz3 60 a b c ∧ m'.k.natAbs ≤ 3 ∧ 0 ≤ m'.q ∧ m'.q < 4, rt := fun _ => False }) (xs_if (xt_lt ?_)) ?_ (fun _ z => z.elim) (fun _ z => z.elim) (fun _ z => z.elim))
  · mi_while ["vl"] []
    by_cases h : j < 0
    · rw [decide_eq_true h]
      refine iteT ?_
      refine xb_cons (xs_par 1 2 rfl nd ?_ rfl)
      mi_while ["vl"] []
      refine ⟨n, m, a, b, c, 40, rfl, t, st, n1, n2, by omega, by omega, fun p q r u su => ?_⟩
      mi_while ["vl"] []
      have e : pz n (m.back n) (0 - j) = pz n m j := by
        have h1 := pz_mul nz m ⟨q1, q2⟩ (-1) (-j)
        have h2 : pz n m (-1) = m.back n := by
          have : pz n m 1 = m := pw_one n m ⟨q1, q2⟩
          rw [pz_neg nz m ⟨q1, q2⟩, this]
        rw [h2] at h1
        rw [show 0 - j = -j by omega, ← h1]
        congr 1
        omega
      exact ⟨m.back n, p, q, r, 0 - j, rfl, by omega, by omega, e, u, ⟨su.1.mono (by omega), su.2.1.mono (by omega), su.2.2.mono (by omega)⟩, by show (-m.k).natAbs ≤ 3; omega, (back_turn n m).1, (back_turn n m).2⟩
    · rw [decide_eq_false h]
      exact iteF (xb_nil ⟨m, a, b, c, j, rfl, by omega, by omega, rfl, t, ⟨st.1.mono (by omega), st.2.1.mono (by omega), st.2.2.mono (by omega)⟩, hk3, q1, q2⟩)
  clear t st hj hk3 q1 q2
  rintro ρ' ⟨m', a, b, c, j', rfl, j0, j3, ez, t, st, hk3, q1, q2⟩
  rw [← ez] at hk
  clear ez
  have loop : ¬ (m'.k = 0 ∧ m'.q = 0) → XB (cxOf CX0 P w K mg base ["n", "one_here", "many", "found", "turn"] "_law_times" (defScope (top 111)) f cdv A outer s H E).nox ((defBody (top 111)).drop 2) [.dat (.int n), .dat (mvT m' a b c), .dat (.int j'), .un, .un] { nx := fun _ => k .non, rt := k } := fun hne => by
    show VL.XB _ [_, _, _] _ _
    mi_while ["vl"] []
    refine xb_cons (xs_forR 4 (XE.imp (k := fun d => d = .int j') (xe_if (xt_eq ?_)) ?_) Bl.range nd)
    · mi_while ["vl"] []
      show if decide (m'.k = 0) = true then _ else _
      by_cases h : m'.k = 0
      · rw [decide_eq_true h]
        refine iteT (xe_mod (xe_intI Bl.int ?_))
        mi_while ["vl"] []
        refine ⟨by decide, ?_⟩
        show D.int (j' % 4) = D.int j'
        rw [show j' % 4 = j' by omega]
      · rw [decide_eq_false h]
        refine iteF ?_
        mi_while ["vl var"] []
        rfl
    rintro d rfl
    refine ⟨j', rfl, by omega, fun i ρ => ∃ (p q r : Int) (d : Ent), ρ = [.dat (.int n), .dat (mvT m' a b c), .dat (.int j'), .dat (mvT (pw n m' i) p q r), d] ∧ IsTri (pw n m' i).x (pw n m' i).y p q r ∧ Sz3 (1 + i * 130) p q r, ?_, ?_, ?_⟩
    · exact ⟨0, 0, 1, .un, rfl, ⟨by decide, by show (0 : Rat) = 0 * _; simp, by show (0 : Rat) = 0 * _; simp, by decide⟩, by unfold Sz; simp, by unfold Sz; simp, by unfold Sz; simp⟩
    · rintro i ρ hi ⟨p, q, r, d, rfl, u, su⟩
      mi_while ["vl"] []
      have kj : (pw n m' i).k.natAbs ≤ 9 := by
        rw [pw_k, Int.natAbs_mul, Int.natAbs_natCast]
        have : i * m'.k.natAbs ≤ 3 * 3 := Nat.mul_le_mul (by omega) hk3
        omega
      refine ⟨n, pw n m' i, m', p, q, r, a, b, c, _, 60, rfl, u, t, su, st, n1, n2, by omega, by omega, fun p' q' r' u' su' => ?_⟩
      exact xb_nil ⟨p', q', r', _, rfl, u', su'.1.mono (by omega), su'.2.1.mono (by omega), su'.2.2.mono (by omega)⟩
    · rintro ρ ⟨p, q, r, d, rfl, u, su⟩
      mi_while ["vl"] []
      have e : pw n m' j'.toNat = pz n m' j' := by unfold pz; rw [if_pos j0]
      rw [e] at u ⊢
      exact hk _ _ _ u ⟨su.1.mono (by omega), su.2.1.mono (by omega), su.2.2.mono (by omega)⟩
  refine xb_cons (xs_if (XW.t (xw_and (xt_eq ?_))))
  mi_while ["vl"] []
  show if decide (m'.k = 0) = true then _ else _
  by_cases h1 : m'.k = 0
  · rw [decide_eq_true h1]
    refine iteT (xw_and1 (xt_eq ?_))
    mi_while ["vl"] []
    show if decide (m'.q = 0) = true then _ else _
    by_cases h2 : m'.q = 0
    · rw [decide_eq_true h2]
      refine iteT ?_
      mi_while ["vl"] []
      have tj : IsTri (j' : Rat) 0 j' 0 1 := ⟨by decide, by simp, by simp, by show Nat.gcd _ 1 = 1; exact Nat.gcd_one_right _⟩
      refine ⟨m'.x, m'.y, (j' : Rat), 0, a, b, c, j', 0, 1, 60, 10, rfl, t, tj, st, ⟨by unfold Sz; omega, by unfold Sz; decide, by unfold Sz; decide⟩, by omega, fun p q r u su => ?_⟩
      mi_while ["vl"] []
      have em : m' = ⟨0, 0, m'.x, m'.y⟩ := mv_ext h1 h2 rfl rfl
      have ez : pz n m' j' = ⟨0, 0, (j' : Rat) * m'.x, (j' : Rat) * m'.y⟩ := by
        conv => lhs; rw [em]
        unfold pz
        rw [if_pos j0, pw_flat]
        have : ((j'.toNat : Nat) : Rat) = (j' : Rat) := by
          rw [← Rat.intCast_natCast]
          congr 1
          omega
        rw [this]
      have hk' := hk p q r
      rw [ez] at hk'
      refine hk' ?_ ⟨su.1.mono (by omega), su.2.1.mono (by omega), su.2.2.mono (by omega)⟩
      have e1 : m'.x * (j' : Rat) - m'.y * 0 = (j' : Rat) * m'.x := by grind
      have e2 : m'.x * 0 + m'.y * (j' : Rat) = (j' : Rat) * m'.y := by grind
      rw [e1, e2] at u
      exact u
    · rw [decide_eq_false h2]
      exact iteF (xb_nil (loop fun z => h2 z.2))
  · rw [decide_eq_false h1]
    exact iteF (xb_nil (loop fun z => h1 z.1))
/-! drawn numbers, moves, pairs -/
def cWSpot : Con := fun ds k => ∃ (n wide deep : Int), ds = [.tok, .int n, .int wide, .int deep] ∧ 2 ≤ n ∧ n ≤ 10 ∧ 0 ≤ wide ∧ wide ≤ 9 ∧ 0 ≤ deep ∧ deep ≤ 2 ∧ ∀ x y a b c, Rp n 2 16 x → Rp n 2 16 y → IsTri x y a b c → Sz3 12 a b c → k (triD a b c)
theorem sc__law_spot : FnScope ["well", "n", "wide", "deep", "c", "way", "a", "b"] ["well", "n", "wide", "deep"] (defScope (top 114)) := ⟨rfl, rfl, rfl, by decide +kernel, rfl, by decide +kernel, by decide +kernel⟩
theorem ok_wspot (F : Fun K "_law_spot" "_law_spot" (top 114) f fd) (Hd : Fn P w K mg base 1 "_law_draw" ["well", "many"] cDraw) (Hp : Fn P w K mg base 1 "_law_power" ["n", "many"] cPower) (Hn : Fn P w K mg base 2 "_law_num" ["a", "b", "c"] cMade) : FnOk P w K mg base CX0 3 f fd ["well", "n", "wide", "deep"] (spC K 4 cWSpot) := by
  refine xdef F sc__law_spot fun ds k hl hc cdv A outer s H E hr => ?_
  have nd := sc__law_spot.nd
  obtain ⟨n, wide, deep, rfl, n1, n2, w1, w2, d1, d2, hk⟩ := hc
  mi_while ["vl"] []
  refine ⟨by omega, by omega, fun e e1 e2 => ?_⟩
  mi_while ["vl"] []
  refine ⟨n, e.toNat, by rw [show ((e.toNat : Nat) : Int) = e by omega], (sz_small n1 n2).mono (by decide), by omega, ?_⟩
  have he : e.toNat ≤ 2 := by omega
  generalize e.toNat = e at he
  mi_while ["vl"] []
  refine ⟨by decide, by decide, fun way y1 y2 => ?_⟩
  refine xb_cons (xs_par 6 7 rfl nd ?_ rfl)
  mi_while ["vl"] []
  refine ⟨mulL (by unfold Sz; omega), ?_⟩
  mi_while ["vl"] []
  refine ⟨by omega, by omega, fun u u1 u2 => ⟨_, rfl, ?_⟩⟩
  mi_while ["vl"] []
  refine ⟨mulL (by unfold Sz; omega), ?_⟩
  mi_while ["vl"] []
  refine ⟨by omega, by omega, fun v v1 v2 => ⟨_, rfl, ?_⟩⟩
  mi_while ["vl var"] []
  refine ⟨_, rfl, ?_⟩
  have su : Sz 7 (u - wide) := by unfold Sz; omega
  have sv : Sz 7 (v - wide) := by unfold Sz; omega
  have s0 : Sz 7 0 := by unfold Sz; decide
  generalize u - wide = A at su
  generalize v - wide = B at sv
  refine xb_cons (xs_ret (xe_call Hn hr (xa_cons (XE.imp (k := fun d => ∃ A' : Int, d = .int A' ∧ Sz 7 A') (xe_if (xt_lt ?_)) ?_))))
  · mi_while ["vl"] []
    refine iteB _ ?_ ?_
    · mi_while ["vl var"] []
      exact ⟨A, rfl, su⟩
    · exact xe_int ⟨0, rfl, s0⟩
  rintro d ⟨A', rfl, sA⟩
  refine xa_cons (XE.imp (k := fun d => ∃ B' : Int, d = .int B' ∧ Sz 7 B') (xe_if (XW.t (xw_and (xt_gt ?_)))) ?_)
  · mi_while ["vl"] []
    refine iteB _ (xw_and1 (xt_ne ?_)) (iteF (xe_int ⟨0, rfl, s0⟩))
    mi_while ["vl"] []
    refine iteB _ ?_ ?_
    · mi_while ["vl var"] []
      exact ⟨B, rfl, sv⟩
    · exact xe_int ⟨0, rfl, s0⟩
  rintro d ⟨B', rfl, sB⟩
  have sp : Sz 12 (n ^ e) := ((sz_small n1 n2).pow e).mono (by omega)
  exact xa_cons (xe_var 4 rfl (xa_nil ⟨rfl, A', B', n ^ e, 12, rfl, pow_pos' (by omega) _, ⟨sA.mono (by decide), sB.mono (by decide), sp⟩, by decide, fun a b c t st => hk _ _ a b c (rp_frac n1 n2 sA e he) (rp_frac n1 n2 sB e he) t st⟩))
def cWMove : Con := fun ds k => ∃ n : Int, ds = [.tok, .int n, .int 3, .int 9] ∧ 2 ≤ n ∧ n ≤ 10 ∧ ∀ m a b c, Rm n 3 2 16 m → IsTri m.x m.y a b c → Sz3 12 a b c → k (mvT m a b c)
theorem rp0 (n : Int) (e b : Nat) : Rp n e b 0 := ⟨0, by simp, by unfold Sz; simp [Nat.pow_pos]⟩
theorem tri0 : IsTri 0 0 0 0 1 := ⟨by decide, by simp, by simp, by decide⟩
theorem sz30 (b : Nat) : Sz3 (b + 1) 0 0 1 := ⟨by unfold Sz; exact Nat.pow_pos (by decide), by unfold Sz; exact Nat.pow_pos (by decide), by unfold Sz; show 1 < 2 ^ (b + 1); have := Nat.pow_pos (n := b) (show 0 < 2 by decide); rw [Nat.pow_succ]; omega⟩
theorem sc__law_move : FnScope ["well", "n", "zooms", "wide", "way", "zoom_here", "turn_here", "spot"] ["well", "n", "zooms", "wide"] (defScope (top 115)) := ⟨rfl, rfl, rfl, by decide +kernel, rfl, by decide +kernel, by decide +kernel⟩
theorem ok_wmove (F : Fun K "_law_move" "_law_move" (top 115) f fd) (Hd : Fn P w K mg base 1 "_law_draw" ["well", "many"] cDraw) (Hs : Fn P w K mg base 3 "_law_spot" ["well", "n", "wide", "deep"] cWSpot) : FnOk P w K mg base CX0 4 f fd ["well", "n", "zooms", "wide"] (spC K 4 cWMove) := by
  refine xdef F sc__law_move fun ds k hl hc cdv A outer s H E hr => ?_
  have nd := sc__law_move.nd
  obtain ⟨n, rfl, n1, n2, hk⟩ := hc
  mi_while ["vl"] []
  refine ⟨by decide, by decide, fun way y1 y2 => ?_⟩
  refine xb_cons (xs_par 5 6 rfl nd ?_ rfl)
  mi_while ["vl"] []
  refine ⟨mulL (by unfold Sz; decide), ?_⟩
  mi_while ["vl"] []
  refine ⟨by decide, by decide, fun u u1 u2 => ⟨_, rfl, ?_⟩⟩
  mi_while ["vl"] []
  refine ⟨by decide, by decide, fun q q1 q2 => ?_⟩
  have hu : (u - 3).natAbs ≤ 3 := by omega
  generalize u - 3 = z at hu
  refine xb_cons (xs_set 7 ?_ nd)
  refine xe_call Hs hr (xa_cons (xe_var 0 rfl (xa_cons (xe_var 1 rfl (xa_cons (xe_var 3 rfl (xa_cons (xe_int (xa_nil ⟨rfl, n, 9, 2, rfl, n1, n2, by decide, by decide, by decide, by decide, fun x y a b c rx ry t st => ?_⟩)))))))))
  refine xb_cons (xs_if (xt_eq ?_))
  mi_while ["vl"] []
  refine iteB _ ?_ (xb_nil ?_)
  · mi_while ["vl"] []
    exact hk ⟨0, 0, x, y⟩ a b c ⟨by show (0 : Int).natAbs ≤ 3; decide, Int.le_refl 0, show (0 : Int) < 4 by decide, rx, ry⟩ t st
  refine xb_cons (xs_if (xt_eq ?_))
  mi_while ["vl"] []
  refine iteB _ ?_ (xb_nil ?_)
  · mi_while ["vl"] []
    exact hk ⟨0, q, x, y⟩ a b c ⟨by show (0 : Int).natAbs ≤ 3; decide, q1, q2, rx, ry⟩ t st
  refine xb_cons (xs_ret (xe_tup (xa_cons (xe_var 5 rfl (xa_cons (XE.imp (k := fun d => ∃ q' : Int, d = .int q' ∧ 0 ≤ q' ∧ q' < 4) (xe_if (xt_eq ?_)) ?_))))))
  · mi_while ["vl"] []
    refine iteB _ (xe_int ⟨0, rfl, by decide, by decide⟩) ?_
    mi_while ["vl var"] []
    exact ⟨q, rfl, q1, q2⟩
  rintro d ⟨q', rfl, q1', q2'⟩
  refine xa_cons (XE.imp (k := fun d => ∃ (x y : Rat) (a b c : Int), d = triD a b c ∧ Rp n 2 16 x ∧ Rp n 2 16 y ∧ IsTri x y a b c ∧ Sz3 12 a b c) (xe_if (xt_eq ?_)) ?_)
  · mi_while ["vl"] []
    refine iteB _ ?_ ?_
    · mi_while ["vl"] []
      exact ⟨0, 0, 0, 0, 1, rfl, rp0 n 2 16, rp0 n 2 16, tri0, sz30 11⟩
    · mi_while ["vl var"] []
      exact ⟨x, y, a, b, c, rfl, rx, ry, t, st⟩
  rintro d ⟨x', y', a', b', c', rfl, rx', ry', t', st'⟩
  exact xa_nil ⟨Nat.le_of_ble_eq_true rfl, hk ⟨z, q', x', y'⟩ a' b' c' ⟨hu, q1', q2', rx', ry'⟩ t' st'⟩
/-- a move that is told to the program -/
structure Wm (n : Int) (m : Mv) (a b c : Int) : Prop where
  g : Good n 9 900 m
  t : IsTri m.x m.y a b c
  s : Sz3 900 a b c
theorem Wm.of {n : Int} {m : Mv} {a b c : Int} (k : m.k.natAbs ≤ 9) (q1 : 0 ≤ m.q) (q2 : m.q < 4) (fit : Fit n m.x m.y) (t : IsTri m.x m.y a b c) (s : Sz3 900 a b c) : Wm n m a b c := ⟨⟨k, q1, by omega, fit, t.szq s⟩, t, s⟩
def cWPair : Con := fun ds k => ∃ n : Int, ds = [.tok, .int n] ∧ 2 ≤ n ∧ n ≤ 10 ∧ ∀ m a b c m' a' b' c', Wm n m a b c → Wm n m' a' b' c' → k (.tup [mvT m a b c, mvT m' a' b' c'])
end
end G

set_option Elab.async false
set_option linter.all false
set_option maxRecDepth 100000
set_option maxHeartbeats 4000000
namespace G
open PySem L2 VL VM
local macro_rules | `(tactic| mi_while ["vl var"] []) => `(tactic| first | refine xe_var 0 rfl ?_ | refine xe_var 1 rfl ?_ | refine xe_var 2 rfl ?_ | refine xe_var 3 rfl ?_ | refine xe_var 4 rfl ?_ | refine xe_var 5 rfl ?_ | refine xe_var 6 rfl ?_ | refine xe_var 7 rfl ?_ | refine xe_var 8 rfl ?_ | refine xe_var 9 rfl ?_ | refine xe_var 10 rfl ?_ | refine xe_var 11 rfl ?_ | refine xe_var 12 rfl ?_ | refine xe_var 13 rfl ?_ | refine xe_var 14 rfl ?_ | refine xe_var 15 rfl ?_ | refine xe_var 16 rfl ?_)
local macro_rules | `(tactic| mi_while ["vl exp"] []) => `(tactic| first
  | refine ⟨_, rfl, ?_⟩ | refine ⟨rfl, ?_⟩ | refine ⟨Nat.le_of_ble_eq_true rfl, ?_⟩
  | mi_while ["vl var"] []
  | refine xe_int ?_ | refine xe_str ?_ | refine xe_bl ?_ | refine xe_non ?_
  | refine xe_ixL (XN.rd (xn_lst ?_)) | (refine xe_ixT ?_; mi_while ["vl var"] []; refine ⟨_, rfl, ?_⟩) | (refine xe_ixL (XE.rd ?_); mi_while ["vl var"] []; refine ⟨_, rfl, ?_⟩) | refine xe_ixT ?_ | refine xe_add ?_ | refine xe_mul ?_ | refine xe_sub ?_ | refine xe_div ?_ | refine xe_mod ?_ | refine xe_neg ?_
  | refine ⟨mulSz (by assumption) (by assumption), ?_⟩ | refine ⟨divSz (by assumption) (by assumption), ?_⟩
  | refine xt_gt ?_ | refine xt_lt ?_ | refine xt_le ?_ | refine xt_ge ?_ | refine xe_gt ?_ | refine xe_lt ?_ | refine xe_le ?_ | refine xe_ge ?_
  | refine xe_if ?_ | refine xe_tup ?_ | refine xa_cons ?_ | refine xa_nil ?_
  | refine XN.data (xn_lst ?_) | refine xn_lst ?_
  | (refine' xe_call ?hF ?hR ?hA ?hN; (case hF => assumption); (case hR => assumption); (case hN => decide)))
local macro_rules | `(tactic| mi_while ["vl set"] []) => `(tactic| first | refine xb_cons (xs_set 0 ?_ (by assumption)) | refine xb_cons (xs_set 1 ?_ (by assumption)) | refine xb_cons (xs_set 2 ?_ (by assumption)) | refine xb_cons (xs_set 3 ?_ (by assumption)) | refine xb_cons (xs_set 4 ?_ (by assumption)) | refine xb_cons (xs_set 5 ?_ (by assumption)) | refine xb_cons (xs_set 6 ?_ (by assumption)) | refine xb_cons (xs_set 7 ?_ (by assumption)) | refine xb_cons (xs_set 8 ?_ (by assumption)) | refine xb_cons (xs_set 9 ?_ (by assumption)) | refine xb_cons (xs_set 10 ?_ (by assumption)) | refine xb_cons (xs_set 11 ?_ (by assumption)) | refine xb_cons (xs_set 12 ?_ (by assumption)))
local macro_rules | `(tactic| mi_while ["vl tg"] []) => `(tactic| first | refine xgs_nil ?_ | refine xgs_cons ?_ | refine xg_tup ?_ rfl | refine xg_lst ?_ rfl | refine xg_name 0 ?_ (by assumption) | refine xg_name 1 ?_ (by assumption) | refine xg_name 2 ?_ (by assumption) | refine xg_name 3 ?_ (by assumption) | refine xg_name 4 ?_ (by assumption) | refine xg_name 5 ?_ (by assumption) | refine xg_name 6 ?_ (by assumption) | refine xg_name 7 ?_ (by assumption) | refine xg_name 8 ?_ (by assumption) | refine xg_name 9 ?_ (by assumption) | refine xg_name 10 ?_ (by assumption) | refine xg_name 11 ?_ (by assumption) | refine xg_name 12 ?_ (by assumption))
local macro_rules | `(tactic| mi_while ["vl st"] []) => `(tactic| first
  | refine xb_cons (xs_ret ?_)
  | mi_while ["vl set"] []
  | mi_while ["vl tg"] []
  | refine xb_cons (xs_asg (tg := .Tuple _ _ _) ?_)
  | refine xb_nil ?_)
local macro_rules | `(tactic| mi_while ["vl"] []) => `(tactic| repeat (first | mi_while ["vl exp"] [] | mi_while ["vl st"] []))
/-- the module's constant PLAIN -/
structure Pl (K : PySem.W.Frag) (mg : Str → Option Value) : Prop where
  ex : ∃ a, mg "PLAIN" = some (.ref a) ∧ ∀ H, At K H (.ref a) (mvT .plain 0 0 1)
section
variable {P : Program} {w : World} {K : PySem.W.Frag} {mg : Str → Option Value} {base : Heap} {f : Addr} {fd : FuncData} {C : Addr}
/-! done many times -/
def cCkT : Con := fun ds k => ∃ j : Int, ds = [.int j] ∧ k .non
/-- how often the loop turns -/
def turns (m : Mv) (j : Int) : Nat := if m.k = 0 then (j % 4).toNat else j.toNat
/-- enough room for the loop's triples -/
def Oft (m : Mv) (j : Int) (B : Nat) : Prop := (m.k = 0 ∧ m.q = 0 ∧ Sz 200 j ∧ B ≤ 8000) ∨ (¬ (m.k = 0 ∧ m.q = 0) ∧ turns m j ≤ 400 ∧ ∀ i : Nat, i ≤ turns m j → 2 * m.k.natAbs * (i * i) + i * (B + 4) + 20 ≤ 8900)
def cOft (sg : Int → Prop) : Con := fun ds k => ∃ (n : Int) (m : Mv) (a b c j : Int) (B : Nat), ds = [.int n, mvT m a b c, .int j] ∧ sg j ∧ 2 ≤ n ∧ n ≤ 10 ∧ 0 ≤ m.q ∧ m.q < 4 ∧ m.k.natAbs ≤ 400 ∧ IsTri m.x m.y a b c ∧ Sz3 B a b c ∧ Oft m j B ∧ (∀ i : Nat, i ≤ turns m j → (i : Int) * m.k.natAbs ≤ 400) ∧
  ∀ p q r, IsTri (pz n m j).x (pz n m j).y p q r → Sz3 8990 p q r → k (mvT (pz n m j) p q r)
theorem sc_often_move : FnScope ["factor", "move", "many", "found", "turn"] ["factor", "move", "many"] (defScope (top 55)) := ⟨rfl, rfl, rfl, by decide +kernel, rfl, by decide +kernel, by decide +kernel⟩
theorem ok_often0 (F : Fun K "often_move" "often_move" (top 55) f fd) (B0 : Bt mg) (Pp : Pl K mg) (Ht : Fn P w K mg base 5 "then_move" ["factor", "one", "other"] cThenMv) (Hm : Fn P w K mg base 3 "times" ["one", "other"] cTimes) : FnOk P w K mg base CX0 6 f fd ["factor", "move", "many"] (spC K 3 (cOft fun j => 0 ≤ j)) := by
  refine xdef F sc_often_move fun ds k hl hc cdv A outer s H E hr => ?_
  have nd := sc_often_move.nd
  obtain ⟨n, m, a, b, c, j, B, rfl, j0, n1, n2, q1, q2, kk, t, st, ho, hkk, hk⟩ := hc
  obtain ⟨pa, hpa, hpl⟩ := Pp.ex
  have nz : n ≠ 0 := by omega
  refine xb_cons (xs_if (xt_lt ?_))
  mi_while ["vl"] []
  rw [decide_eq_false (by omega)]
  refine iteF (xb_nil ?_)
  have room : ∀ i : Nat, i ≤ turns m j → ¬ (m.k = 0 ∧ m.q = 0) → 2 * m.k.natAbs * (i * i) + i * (B + 4) + 20 ≤ 8900 := fun i hi hne => by
    rcases ho with ⟨h1, h2, _⟩ | ⟨_, _, h3⟩
    · exact absurd ⟨h1, h2⟩ hne
    · exact h3 i hi
  have loop : ¬ (m.k = 0 ∧ m.q = 0) → XB (cxOf CX0 P w K mg base ["factor", "move", "many", "found", "turn"] "often_move" (defScope (top 55)) f cdv A outer s H E).nox ((defBody (top 55)).drop 2) [.dat (.int n), .dat (mvT m a b c), .dat (.int j), .un, .un] { nx := fun _ => k .non, rt := k } := fun hne => by
    show VL.XB _ [_, _, _] _ _
    have go : ∀ many : Int, 0 ≤ many → many.toNat = turns m j → pw n m many.toNat = pz n m j → VL.XB (cxOf CX0 P w K mg base ["factor", "move", "many", "found", "turn"] "often_move" (defScope (top 55)) f cdv A outer s H E).nox ((defBody (top 55)).drop 3) [.dat (.int n), .dat (mvT m a b c), .dat (.int many), .dat (mvT .plain 0 0 1), .un] { nx := fun _ => k .non, rt := k } := fun many m0 mt mp => by
      show VL.XB _ [_, _] _ _
      have tl : turns m j ≤ 400 := by
        rcases ho with ⟨h1, h2, _⟩ | ⟨_, h3, _⟩
        · exact absurd ⟨h1, h2⟩ hne
        · exact h3
      refine xb_cons (xs_forR 4 (xe_var 2 rfl ⟨many, rfl, by omega, fun i ρ => ∃ a' b' c' d, ρ = [.dat (.int n), .dat (mvT m a b c), .dat (.int many), .dat (mvT (pw n m i) a' b' c'), d] ∧ IsTri (pw n m i).x (pw n m i).y a' b' c' ∧ Sz3 (2 * m.k.natAbs * (i * i) + i * (B + 4) + 1) a' b' c', ?_, ?_, ?_⟩) B0.range nd)
      · refine ⟨0, 0, 1, .un, rfl, ⟨by decide, by show (0 : Rat) = 0 * _; simp, by show (0 : Rat) = 0 * _; simp, by decide⟩, ?_, ?_, ?_⟩ <;> (unfold Sz; simp)
      · rintro i ρ hi ⟨a', b', c', d, rfl, t', s'⟩
        mi_while ["vl"] []
        have ri := room (i + 1) (by omega) hne
        have e1 : 2 * m.k.natAbs * ((i + 1) * (i + 1)) = 2 * m.k.natAbs * (i * i) + 4 * (m.k.natAbs * i) + 2 * m.k.natAbs := by grind
        have e2 : (i + 1) * (B + 4) = i * (B + 4) + (B + 4) := by grind
        have kj : (pw n m i).k.natAbs = m.k.natAbs * i := by
          rw [pw_k, Int.natAbs_mul, Int.natAbs_natCast, Nat.mul_comm]
        have kl := hkk i (by omega)
        have kl2 : m.k.natAbs * i ≤ 400 := by
          rw [Nat.mul_comm]
          exact_mod_cast kl
        refine ⟨n, pw n m i, m, a', b', c', a, b, c, _, B, rfl, t', t, s', st, n1, n2, by omega, by omega, fun p q r u su => ?_⟩
        exact xb_nil ⟨p, q, r, _, rfl, u, su.1.mono (by omega), su.2.1.mono (by omega), su.2.2.mono (by omega)⟩
      · rintro ρ ⟨a', b', c', d, rfl, t', s'⟩
        mi_while ["vl"] []
        rw [mp] at t' ⊢
        have rj := room many.toNat (by omega) hne
        exact hk _ _ _ t' ⟨s'.1.mono (by omega), s'.2.1.mono (by omega), s'.2.2.mono (by omega)⟩
    refine xb_cons (xs_par 3 2 rfl nd (xe_glob (v := .ref pa) hpa rfl hpl (xe_if (xt_eq ?_))) rfl)
    mi_while ["vl"] []
    show if decide (m.k = 0) = true then _ else _
    by_cases h1 : m.k = 0
    · rw [decide_eq_true h1]
      refine iteT ?_
      mi_while ["vl"] []
      refine ⟨by decide, go (j % 4) (by omega) (by unfold turns; rw [if_pos h1]) (pz_mod nz m h1 (by omega) j).symm⟩
    · rw [decide_eq_false h1]
      refine iteF ?_
      mi_while ["vl var"] []
      exact go j j0 (by unfold turns; rw [if_neg h1]) (by unfold pz; rw [if_pos j0])
  refine xb_cons (xs_if (XW.t (xw_and (xt_eq ?_))))
  mi_while ["vl"] []
  show if decide (m.k = 0) = true then _ else _
  by_cases h1 : m.k = 0
  · rw [decide_eq_true h1]
    refine iteT (xw_and1 (xt_eq ?_))
    mi_while ["vl"] []
    show if decide (m.q = 0) = true then _ else _
    by_cases h2 : m.q = 0
    · rw [decide_eq_true h2]
      refine iteT ?_
      mi_while ["vl"] []
      have hj : Sz 200 j ∧ B ≤ 8000 := by
        rcases ho with ⟨_, _, h⟩ | ⟨h, _⟩
        · exact h
        · exact absurd ⟨h1, h2⟩ h
      have tj : IsTri (j : Rat) 0 j 0 1 := ⟨by decide, by simp, by simp, by show Nat.gcd _ 1 = 1; exact Nat.gcd_one_right _⟩
      refine ⟨m.x, m.y, (j : Rat), 0, a, b, c, j, 0, 1, B, 200, rfl, t, tj, st, ⟨hj.1, by unfold Sz; decide, by unfold Sz; decide⟩, by omega, fun p q r u su => ?_⟩
      mi_while ["vl"] []
      have em : m = ⟨0, 0, m.x, m.y⟩ := mv_ext h1 h2 rfl rfl
      have ez : pz n m j = ⟨0, 0, (j : Rat) * m.x, (j : Rat) * m.y⟩ := by
        conv => lhs; rw [em]
        unfold pz
        rw [if_pos j0, pw_flat]
        have : ((j.toNat : Nat) : Rat) = (j : Rat) := by
          rw [← Rat.intCast_natCast]
          congr 1
          omega
        rw [this]
      have hk' := hk p q r
      rw [ez] at hk'
      refine hk' ?_ ⟨su.1.mono (by omega), su.2.1.mono (by omega), su.2.2.mono (by omega)⟩
      have e1 : m.x * (j : Rat) - m.y * 0 = (j : Rat) * m.x := by grind
      have e2 : m.x * 0 + m.y * (j : Rat) = (j : Rat) * m.y := by grind
      rw [e1, e2] at u
      exact u
    · rw [decide_eq_false h2]
      exact iteF (xb_nil (loop fun z => h2 z.2))
  · rw [decide_eq_false h1]
    exact iteF (xb_nil (loop fun z => h1 z.1))
end
end G

set_option Elab.async false
set_option linter.all false
set_option maxRecDepth 100000
set_option maxHeartbeats 4000000
set_option pp.maxSteps 300
namespace G
open PySem L2 VL VM
local macro_rules | `(tactic| mi_while ["vl var"] []) => `(tactic| first | refine xe_var 0 rfl ?_ | refine xe_var 1 rfl ?_ | refine xe_var 2 rfl ?_ | refine xe_var 3 rfl ?_ | refine xe_var 4 rfl ?_ | refine xe_var 5 rfl ?_ | refine xe_var 6 rfl ?_ | refine xe_var 7 rfl ?_ | refine xe_var 8 rfl ?_ | refine xe_var 9 rfl ?_ | refine xe_var 10 rfl ?_ | refine xe_var 11 rfl ?_ | refine xe_var 12 rfl ?_ | refine xe_var 13 rfl ?_ | refine xe_var 14 rfl ?_ | refine xe_var 15 rfl ?_ | refine xe_var 16 rfl ?_)
local macro_rules | `(tactic| mi_while ["vl exp"] []) => `(tactic| first
  | refine ⟨_, rfl, ?_⟩ | refine ⟨rfl, ?_⟩ | refine ⟨Nat.le_of_ble_eq_true rfl, ?_⟩
  | mi_while ["vl var"] []
  | refine xe_int ?_ | refine xe_str ?_ | refine xe_bl ?_ | refine xe_non ?_
  | refine xe_ixL (XN.rd (xn_lst ?_)) | (refine xe_ixT ?_; mi_while ["vl var"] []; refine ⟨_, rfl, ?_⟩) | (refine xe_ixL (XE.rd ?_); mi_while ["vl var"] []; refine ⟨_, rfl, ?_⟩) | refine xe_ixT ?_ | refine xe_add ?_ | refine xe_mul ?_ | refine xe_sub ?_ | refine xe_div ?_ | refine xe_mod ?_ | refine xe_neg ?_
  | refine ⟨mulSz (by assumption) (by assumption), ?_⟩ | refine ⟨divSz (by assumption) (by assumption), ?_⟩
  | refine xt_gt ?_ | refine xt_lt ?_ | refine xt_le ?_ | refine xt_ge ?_ | refine xe_gt ?_ | refine xe_lt ?_ | refine xe_le ?_ | refine xe_ge ?_
  | refine xe_if ?_ | refine xe_tup ?_ | refine xa_cons ?_ | refine xa_nil ?_
  | refine XN.data (xn_lst ?_) | refine xn_lst ?_
  | (refine' xe_call ?hF ?hR ?hA ?hN; (case hF => assumption); (case hR => assumption); (case hN => decide)))
local macro_rules | `(tactic| mi_while ["vl set"] []) => `(tactic| first | refine xb_cons (xs_set 0 ?_ (by assumption)) | refine xb_cons (xs_set 1 ?_ (by assumption)) | refine xb_cons (xs_set 2 ?_ (by assumption)) | refine xb_cons (xs_set 3 ?_ (by assumption)) | refine xb_cons (xs_set 4 ?_ (by assumption)) | refine xb_cons (xs_set 5 ?_ (by assumption)) | refine xb_cons (xs_set 6 ?_ (by assumption)) | refine xb_cons (xs_set 7 ?_ (by assumption)) | refine xb_cons (xs_set 8 ?_ (by assumption)) | refine xb_cons (xs_set 9 ?_ (by assumption)) | refine xb_cons (xs_set 10 ?_ (by assumption)) | refine xb_cons (xs_set 11 ?_ (by assumption)) | refine xb_cons (xs_set 12 ?_ (by assumption)))
local macro_rules | `(tactic| mi_while ["vl tg"] []) => `(tactic| first | refine xgs_nil ?_ | refine xgs_cons ?_ | refine xg_tup ?_ rfl | refine xg_lst ?_ rfl | refine xg_name 0 ?_ (by assumption) | refine xg_name 1 ?_ (by assumption) | refine xg_name 2 ?_ (by assumption) | refine xg_name 3 ?_ (by assumption) | refine xg_name 4 ?_ (by assumption) | refine xg_name 5 ?_ (by assumption) | refine xg_name 6 ?_ (by assumption) | refine xg_name 7 ?_ (by assumption) | refine xg_name 8 ?_ (by assumption) | refine xg_name 9 ?_ (by assumption) | refine xg_name 10 ?_ (by assumption) | refine xg_name 11 ?_ (by assumption) | refine xg_name 12 ?_ (by assumption))
local macro_rules | `(tactic| mi_while ["vl st"] []) => `(tactic| first
  | refine xb_cons (xs_ret ?_)
  | mi_while ["vl set"] []
  | mi_while ["vl tg"] []
  | refine xb_cons (xs_asg (tg := .Tuple _ _ _) ?_)
  | refine xb_nil ?_)
local macro_rules | `(tactic| mi_while ["vl"] []) => `(tactic| repeat (first | mi_while ["vl exp"] [] | mi_while ["vl st"] []))
section
variable {P : Program} {w : World} {K : PySem.W.Frag} {mg : Str → Option Value} {base : Heap} {f : Addr} {fd : FuncData} {C : Addr}
def cWT3 : Con := fun ds k => ∃ (n : Int) (m : Mv) (a b c j : Int) (B : Nat), ds = [.int n, mvT m a b c, .int j] ∧ 2 ≤ n ∧ n ≤ 10 ∧ 0 ≤ m.q ∧ m.q < 4 ∧ m.k.natAbs ≤ 30 ∧ IsTri m.x m.y a b c ∧ Sz3 B a b c ∧ B ≤ 2000 ∧ 0 ≤ j ∧ Sz 100 j ∧
  (¬ (m.k = 0 ∧ m.q = 0) → turns m j ≤ 30 ∧ turns m j * m.k.natAbs ≤ 60 ∧ ∀ i : Nat, i ≤ turns m j → ∀ p q r, IsTri (VM.pw n m i).x (VM.pw n m i).y p q r → Sz3 4000 p q r) ∧
  ∀ p q r, IsTri (VM.pw n m j.toNat).x (VM.pw n m j.toNat).y p q r → k (mvT (VM.pw n m j.toNat) p q r)
theorem ok_wtimes3 (F : Fun K "_law_times" "_law_times" (top 111) f fd) (Bl : Bt mg) (Hm : Fn P w K mg base 3 "_law_mul" ["one_here", "two"] cTimes) (Ha : Fn P w K mg base 4 "_law_behind" ["n", "one_here", "two"] cThenMv) : FnOk P w K mg base CX0 6 f fd ["n", "one_here", "many"] (spC K 3 cWT3) := by
  refine xdef F sc__law_times fun ds k hl hc cdv A outer s H E hr => ?_
  have nd := sc__law_times.nd
  obtain ⟨n, m, a, b, c, j, B, rfl, n1, n2, q1, q2, k30, t, st, hB, j0, sj, hb, hk⟩ := hc
  have nz : n ≠ 0 := by omega
  refine xb_cons (xs_if (xt_lt ?_))
  mi_while ["vl"] []
  rw [decide_eq_false (by omega)]
  refine iteF (xb_nil ?_)
  have loop : ¬ (m.k = 0 ∧ m.q = 0) → XB (cxOf CX0 P w K mg base ["n", "one_here", "many", "found", "turn"] "_law_times" (defScope (top 111)) f cdv A outer s H E).nox ((defBody (top 111)).drop 2) [.dat (.int n), .dat (mvT m a b c), .dat (.int j), .un, .un] { nx := fun _ => k .non, rt := k } := fun hne => by
    show VL.XB _ [_, _, _] _ _
    obtain ⟨b1, b2, b3⟩ := hb hne
    mi_while ["vl"] []
    have go : ∀ J : Int, 0 ≤ J → J.toNat = turns m j → VM.pw n m J.toNat = VM.pw n m j.toNat → (fun d => d = D.int J) (D.int J) := fun J _ _ _ => rfl
    have hJ : ∃ J : Int, 0 ≤ J ∧ J.toNat = turns m j ∧ VM.pw n m J.toNat = VM.pw n m j.toNat ∧ J = if m.k = 0 then j % 4 else j := by
      by_cases c : m.k = 0
      · refine ⟨j % 4, by omega, by unfold turns; rw [if_pos c], ?_, by rw [if_pos c]⟩
        have hq : m.q = 1 ∨ m.q = 2 ∨ m.q = 3 := by
          have : m.q ≠ 0 := fun h => hne ⟨c, h⟩
          omega
        have e := pz_mod nz m c hq j
        unfold pz at e
        rw [if_pos j0] at e
        exact e.symm
      · exact ⟨j, j0, by unfold turns; rw [if_neg c], rfl, by rw [if_neg c]⟩
    obtain ⟨J, J0, J1, J2, J3⟩ := hJ
    refine xb_cons (xs_forR 4 (XE.imp (k := fun d => d = .int J) (xe_if (xt_eq ?_)) ?_) Bl.range nd)
    · mi_while ["vl"] []
      show if decide (m.k = 0) = true then _ else _
      by_cases h : m.k = 0
      · rw [decide_eq_true h]
        rw [if_pos h] at J3
        refine iteT (xe_mod (xe_intI Bl.int ?_))
        mi_while ["vl"] []
        refine ⟨by decide, ?_⟩
        show D.int (j % 4) = D.int J
        rw [J3]
      · rw [decide_eq_false h]
        rw [if_neg h] at J3
        refine iteF ?_
        mi_while ["vl var"] []
        show D.int j = D.int J
        rw [J3]
    rintro d rfl
    refine ⟨J, rfl, by omega, fun i ρ => ∃ (p q r : Int) (d : Ent), ρ = [.dat (.int n), .dat (mvT m a b c), .dat (.int j), .dat (mvT (VM.pw n m i) p q r), d] ∧ IsTri (VM.pw n m i).x (VM.pw n m i).y p q r, ?_, ?_, ?_⟩
    · exact ⟨0, 0, 1, .un, rfl, ⟨by decide, by show (0 : Rat) = 0 * _; simp, by show (0 : Rat) = 0 * _; simp, by decide⟩⟩
    · rintro i ρ hi ⟨p, q, r, d, rfl, u⟩
      have su := b3 i (by omega) p q r u
      mi_while ["vl"] []
      have kj : (VM.pw n m i).k.natAbs ≤ 60 := by
        rw [pw_k, Int.natAbs_mul, Int.natAbs_natCast]
        have : i * m.k.natAbs ≤ turns m j * m.k.natAbs := Nat.mul_le_mul_right _ (by omega)
        omega
      refine ⟨n, VM.pw n m i, m, p, q, r, a, b, c, 4000, B, rfl, u, t, su, st, n1, n2, by omega, by omega, fun p' q' r' u' su' => ?_⟩
      exact xb_nil ⟨p', q', r', _, rfl, u'⟩
    · rintro ρ ⟨p, q, r, d, rfl, u⟩
      mi_while ["vl"] []
      rw [J2] at u ⊢
      exact hk _ _ _ u
  refine xb_cons (xs_if (XW.t (xw_and (xt_eq ?_))))
  mi_while ["vl"] []
  show if decide (m.k = 0) = true then _ else _
  by_cases h1 : m.k = 0
  · rw [decide_eq_true h1]
    refine iteT (xw_and1 (xt_eq ?_))
    mi_while ["vl"] []
    show if decide (m.q = 0) = true then _ else _
    by_cases h2 : m.q = 0
    · rw [decide_eq_true h2]
      refine iteT ?_
      mi_while ["vl"] []
      have tj : IsTri (j : Rat) 0 j 0 1 := ⟨by decide, by simp, by simp, by show Nat.gcd _ 1 = 1; exact Nat.gcd_one_right _⟩
      refine ⟨m.x, m.y, (j : Rat), 0, a, b, c, j, 0, 1, B, 100, rfl, t, tj, st, ⟨sj, by unfold Sz; decide, by unfold Sz; decide⟩, by omega, fun p q r u su => ?_⟩
      mi_while ["vl"] []
      have em : m = ⟨0, 0, m.x, m.y⟩ := mv_ext h1 h2 rfl rfl
      have ez : VM.pw n m j.toNat = ⟨0, 0, (j : Rat) * m.x, (j : Rat) * m.y⟩ := by
        conv => lhs; rw [em]
        rw [pw_flat]
        have : ((j.toNat : Nat) : Rat) = (j : Rat) := by
          rw [← Rat.intCast_natCast]
          congr 1
          omega
        rw [this]
      have hk' := hk p q r
      rw [ez] at hk'
      refine hk' ?_
      have e1 : m.x * (j : Rat) - m.y * 0 = (j : Rat) * m.x := by grind
      have e2 : m.x * 0 + m.y * (j : Rat) = (j : Rat) * m.y := by grind
      rw [e1, e2] at u
      exact u
    · rw [decide_eq_false h2]
      exact iteF (xb_nil (loop fun z => h2 z.2))
  · rw [decide_eq_false h1]
    exact iteF (xb_nil (loop fun z => h1 z.1))
end
end G

set_option Elab.async false
set_option linter.all false
set_option maxRecDepth 100000
set_option maxHeartbeats 4000000
namespace G
open PySem L2 VL VM
local macro_rules | `(tactic| mi_while ["vl var"] []) => `(tactic| first | refine xe_var 0 rfl ?_ | refine xe_var 1 rfl ?_ | refine xe_var 2 rfl ?_ | refine xe_var 3 rfl ?_ | refine xe_var 4 rfl ?_ | refine xe_var 5 rfl ?_ | refine xe_var 6 rfl ?_ | refine xe_var 7 rfl ?_ | refine xe_var 8 rfl ?_ | refine xe_var 9 rfl ?_ | refine xe_var 10 rfl ?_ | refine xe_var 11 rfl ?_ | refine xe_var 12 rfl ?_ | refine xe_var 13 rfl ?_ | refine xe_var 14 rfl ?_ | refine xe_var 15 rfl ?_ | refine xe_var 16 rfl ?_)
local macro_rules | `(tactic| mi_while ["vl exp"] []) => `(tactic| first
  | refine ⟨_, rfl, ?_⟩ | refine ⟨rfl, ?_⟩ | refine ⟨Nat.le_of_ble_eq_true rfl, ?_⟩
  | mi_while ["vl var"] []
  | refine xe_int ?_ | refine xe_str ?_ | refine xe_bl ?_ | refine xe_non ?_
  | refine xe_ixL (XN.rd (xn_lst ?_)) | (refine xe_ixT ?_; mi_while ["vl var"] []; refine ⟨_, rfl, ?_⟩) | (refine xe_ixL (XE.rd ?_); mi_while ["vl var"] []; refine ⟨_, rfl, ?_⟩) | refine xe_ixT ?_ | refine xe_add ?_ | refine xe_mul ?_ | refine xe_sub ?_ | refine xe_div ?_ | refine xe_mod ?_ | refine xe_neg ?_
  | refine ⟨mulSz (by assumption) (by assumption), ?_⟩ | refine ⟨divSz (by assumption) (by assumption), ?_⟩
  | refine xt_gt ?_ | refine xt_lt ?_ | refine xt_le ?_ | refine xt_ge ?_ | refine xe_gt ?_ | refine xe_lt ?_ | refine xe_le ?_ | refine xe_ge ?_
  | refine xe_if ?_ | refine xe_tup ?_ | refine xa_cons ?_ | refine xa_nil ?_
  | refine XN.data (xn_lst ?_) | refine xn_lst ?_
  | (refine' xe_call ?hF ?hR ?hA ?hN; (case hF => assumption); (case hR => assumption); (case hN => decide)))
local macro_rules | `(tactic| mi_while ["vl set"] []) => `(tactic| first | refine xb_cons (xs_set 0 ?_ (by assumption)) | refine xb_cons (xs_set 1 ?_ (by assumption)) | refine xb_cons (xs_set 2 ?_ (by assumption)) | refine xb_cons (xs_set 3 ?_ (by assumption)) | refine xb_cons (xs_set 4 ?_ (by assumption)) | refine xb_cons (xs_set 5 ?_ (by assumption)) | refine xb_cons (xs_set 6 ?_ (by assumption)) | refine xb_cons (xs_set 7 ?_ (by assumption)) | refine xb_cons (xs_set 8 ?_ (by assumption)) | refine xb_cons (xs_set 9 ?_ (by assumption)) | refine xb_cons (xs_set 10 ?_ (by assumption)) | refine xb_cons (xs_set 11 ?_ (by assumption)) | refine xb_cons (xs_set 12 ?_ (by assumption)))
local macro_rules | `(tactic| mi_while ["vl tg"] []) => `(tactic| first | refine xgs_nil ?_ | refine xgs_cons ?_ | refine xg_tup ?_ rfl | refine xg_lst ?_ rfl | refine xg_name 0 ?_ (by assumption) | refine xg_name 1 ?_ (by assumption) | refine xg_name 2 ?_ (by assumption) | refine xg_name 3 ?_ (by assumption) | refine xg_name 4 ?_ (by assumption) | refine xg_name 5 ?_ (by assumption) | refine xg_name 6 ?_ (by assumption) | refine xg_name 7 ?_ (by assumption) | refine xg_name 8 ?_ (by assumption) | refine xg_name 9 ?_ (by assumption) | refine xg_name 10 ?_ (by assumption) | refine xg_name 11 ?_ (by assumption) | refine xg_name 12 ?_ (by assumption))
local macro_rules | `(tactic| mi_while ["vl st"] []) => `(tactic| first
  | refine xb_cons (xs_ret ?_)
  | mi_while ["vl set"] []
  | mi_while ["vl tg"] []
  | refine xb_cons (xs_asg (tg := .Tuple _ _ _) ?_)
  | refine xb_nil ?_)
local macro_rules | `(tactic| mi_while ["vl"] []) => `(tactic| repeat (first | mi_while ["vl exp"] [] | mi_while ["vl st"] []))
/-! the signs of numbers, fractions -/
def numI (i : Int) : List Nat := if 0 ≤ i then TL.numL i.toNat else 45 :: TL.numL (-i).toNat
theorem int_S (i : Int) : ((toString i : Str)) = SX.S (numI i) := by
  unfold numI
  by_cases h : 0 ≤ i
  · rw [if_pos h]
    have e := SX.num_S i.toNat
    rw [show ((i.toNat : Nat) : Int) = i by omega] at e
    exact e
  · rw [if_neg h]
    have e := SX.num_S (-i).toNat
    rw [show (((-i).toNat : Nat) : Int) = 0 - i by omega] at e
    show Str.ofString (toString i) = _
    rw [PyProof.Rows.toString_neg (by omega)]
    rw [Str.ofString_eq_toList] at e ⊢
    rw [String.toList_append, List.map_append]
    have e2 : (toString (0 - i)).toList.map Char.toNat = TL.numL (-i).toNat := congrArg (fun x : Str => x.cps.toList) e
    rw [e2]
    rfl
theorem numI_ne (i : Int) : numI i ≠ [] := by
  unfold numI
  split
  · exact TL.numL_ne _
  · simp
theorem numI_free {i : Int} {s : Nat} (h : s ≠ 45 ∧ (s < 48 ∨ 57 < s)) : s ∉ numI i := by
  unfold numI
  split
  · exact TL.numL_free h.2
  · intro z
    rcases List.mem_cons.mp z with z | z
    · exact h.1 z
    · exact TL.numL_free h.2 z
theorem big1900 : 2 ^ 1900 ≤ 10 ^ 600 := by decide +kernel
theorem numL_le {n : Nat} (h : n < 2 ^ 1900) : (TL.numL n).length ≤ 600 := TL.numL_len (by decide) (Nat.lt_of_lt_of_le h big1900)
theorem numI_le {i : Int} (h : Sz 1900 i) : (numI i).length ≤ 601 := by
  unfold Sz at h
  unfold numI
  split
  · have := numL_le (n := i.toNat) (by omega)
    omega
  · have := numL_le (n := (-i).toNat) (by omega)
    rw [List.length_cons]
    omega
theorem int_read {i : Int} (h : Sz 1900 i) : intText? (toString i : Str) = some i ∧ ((toString i : Str)).length ≤ 640 := by
  have hl := numI_le h
  rw [int_S]
  refine ⟨?_, by rw [SX.S_len]; omega⟩
  have h43 : (SX.S (numI i)).length ≤ 4300 := by rw [SX.S_len]; omega
  by_cases hi : 0 ≤ i
  · have e : numI i = TL.numL i.toNat := if_pos hi
    rw [e] at h43 ⊢
    have z := intText_digits (x := SX.S (TL.numL i.toNat)) (by simpa using TL.numL_digits _) (by simpa using TL.numL_ne _) h43
    rw [z, show (SX.S (TL.numL i.toNat)).cps.toList = TL.numL i.toNat by simp, TL.numL_val]
    congr 1
    omega
  · have e : numI i = 45 :: TL.numL (-i).toNat := if_neg hi
    rw [e] at h43 ⊢
    have z := intText_neg (x := SX.S (45 :: TL.numL (-i).toNat)) (cs := TL.numL (-i).toNat) (by simp) (TL.numL_digits _) (TL.numL_ne _) h43
    rw [z, TL.numL_val]
    congr 1
    omega
theorem dig_S : (("0123456789" : Str)).cps.toList = [48, 49, 50, 51, 52, 53, 54, 55, 56, 57] := by decide +kernel
theorem dig_in {c : Nat} (h : 48 ≤ c ∧ c ≤ 57) : decide (c ∈ (("0123456789" : Str)).cps.toList) = true := by
  rw [dig_S]
  have : c = 48 ∨ c = 49 ∨ c = 50 ∨ c = 51 ∨ c = 52 ∨ c = 53 ∨ c = 54 ∨ c = 55 ∨ c = 56 ∨ c = 57 := by omega
  rcases this with h | h | h | h | h | h | h | h | h | h <;> subst h <;> decide
theorem dash_S : (("-" : Str)) = SX.S [45] := by decide +kernel
theorem empty_S : (("" : Str)) = SX.S [] := by decide +kernel
theorem sameS (a b : List Nat) : sameD (.str (SX.S a)) (.str (SX.S b)) = decide (a = b) := by
  show decide (SX.S a = SX.S b) = _
  rw [Bool.eq_iff_iff]
  simp only [decide_eq_true_eq]
  exact ⟨SX.S_inj, fun h => by rw [h]⟩
/-- the module's constant DIGITS -/
structure Dg (mg : Str → Option Value) : Prop where
  ex : ∃ t, mg "DIGITS" = some (.str "0123456789" t)
section
variable {P : Program} {w : World} {K : PySem.W.Frag} {mg : Str → Option Value} {base : Heap} {f : Addr} {fd : FuncData} {C : Addr}
def cWI : Con := fun ds k => ∃ i : Int, ds = [.str (toString i : Str)] ∧ Sz 1900 i ∧ k (.int i)
theorem sc_written_integer : FnScope ["word", "digits", "sign"] ["word"] (defScope (top 19)) := ⟨rfl, rfl, rfl, by decide +kernel, rfl, by decide +kernel, by decide +kernel⟩
theorem ok_written_integer (F : Fun K "written_integer" "written_integer" (top 19) f fd) (B : Bt mg) (Dg : Dg mg) : FnOk P w K mg base CX0 1 f fd ["word"] (spC K 1 cWI) := by
  refine xdef F sc_written_integer fun ds k hl hc cdv A outer s H E hr => ?_
  have nd := sc_written_integer.nd
  obtain ⟨i, rfl, si, hk⟩ := hc
  obtain ⟨tk, hd⟩ := Dg.ex
  have rd := int_read si
  have ln := numI_le si
  have sl := sizeLine_eq
  have hlen : ((toString i : Str)).length ≤ sizeLine := by have := rd.2; omega
  have hlog := (numLen si).1
  refine xb_cons (xs_set 1 (XE.imp (k := fun d => d = .str (SX.S (TL.numL i.natAbs))) (xe_if (xt_eq (xe_cutTo ?_))) ?_) nd)
  · mi_while ["vl var"] []
    refine ⟨_, rfl, hlen, ?_⟩
    mi_while ["vl"] []
    have e1 : sameD (.str (Txt.slice (toString i : Str) none (some 1))) (.str "-") = decide ((numI i).take (1 : Int).toNat = [45]) := by rw [int_S, SX.slice_to (by decide), dash_S, sameS]
    rw [e1]
    by_cases h : 0 ≤ i
    · have e : numI i = TL.numL i.natAbs := by
        unfold numI
        rw [if_pos h]
        congr 1
        omega
      have hne : ¬ (numI i).take (1 : Int).toNat = [45] := fun z => by
        have hm : (45 : Nat) ∈ numI i := List.mem_of_mem_take (i := (1 : Int).toNat) (by rw [z]; simp)
        rw [e] at hm
        exact TL.numL_free (by decide) hm
      rw [decide_eq_false hne]
      refine iteF ?_
      mi_while ["vl var"] []
      rw [int_S, e]
    · have e : numI i = 45 :: TL.numL i.natAbs := by
        unfold numI
        rw [if_neg h]
        congr 2
        omega
      have he : (numI i).take (1 : Int).toNat = [45] := by rw [e]; rfl
      rw [decide_eq_true he]
      refine iteT (xe_cutFrom ?_)
      mi_while ["vl var"] []
      refine ⟨_, rfl, hlen, ?_⟩
      rw [int_S, SX.slice_from (by decide), e]
      rfl
  rintro d rfl
  refine xb_cons (xs_if (XW.t (xw_or (xt_eq ?_))))
  mi_while ["vl"] []
  rw [empty_S, sameS, decide_eq_false (TL.numL_ne _)]
  refine iteF (xw_or (xt_gt (xe_lenS B.len ?_)))
  have l6 : (TL.numL i.natAbs).length ≤ 600 := numL_le si
  mi_while ["vl var"] []
  refine ⟨_, rfl, by rw [SX.S_len]; omega, _, rfl, xe_int ⟨_, rfl, ?_⟩⟩
  rw [decide_eq_false (by rw [SX.S_len]; omega)]
  refine iteF (xw_or1 (xt_not (xt_val (xe_all rfl B.all (XN.rd (xn_lcS 2 (W := fun m acc => acc = List.replicate m (D.bl true)) (z := SX.S (TL.numL i.natAbs)) ?_ ?_ nd))))))
  · mi_while ["vl var"] []
    refine ⟨rfl, rfl, fun acc hacc => ⟨List.replicate acc.length true, ?_, _, rfl, ?_⟩⟩
    · rw [List.map_replicate, hacc, List.length_replicate]
    · have e : ((List.replicate acc.length true).all id) = true := by simp
      rw [e]
      refine iteF (xb_nil ?_)
      refine xb_cons (xs_ret (xe_if (xt_eq (xe_strI B.str (xe_intS B.int ?_)))))
      mi_while ["vl var"] []
      refine ⟨_, _, rfl, rd.1, rd.2, _, rfl, hlog, ?_⟩
      mi_while ["vl var"] []
      refine ⟨rfl, ?_⟩
      rw [show sameD (.str (toString i : Str)) (.str (toString i : Str)) = true from (decide_eq_true rfl : decide ((toString i : Str) = (toString i : Str)) = true)]
      refine iteT (xe_intS B.int ?_)
      mi_while ["vl var"] []
      exact ⟨_, _, rfl, rd.1, rd.2, hk⟩
  · intro s2 H2 C2 cl fp m c acc hc hacc
    have hm : c ∈ TL.numL i.natAbs := by
      have : (SX.S (TL.numL i.natAbs)).cps.toList[m]? = some c := by simpa using hc
      exact List.mem_of_getElem? (by simpa using this)
    have hb := TL.numL_digits _ c hm
    have hml : m < (TL.numL i.natAbs).length := by
      have : (SX.S (TL.numL i.natAbs)).cps.toList[m]? = some c := by simpa using hc
      exact get_lt (by simpa using this)
    refine xe_inC ?_
    mi_while ["vl var"] []
    refine ⟨c, rfl, xe_glob (v := .str "0123456789") hd ⟨tk, rfl⟩ (fun _ => .str _) ⟨_, rfl, ?_⟩⟩
    rw [dig_in (by omega)]
    refine ⟨by rw [hacc, List.length_replicate]; omega, ?_⟩
    rw [hacc, List.replicate_succ']
/-! fractions, views read -/
theorem join1 (a : Str) : Txt.join "/" [a] = a := by
  refine Str.ext' ?_
  unfold Txt.join Builtin.Str.glued
  simp only [List.drop_succ_cons, List.drop_zero, List.foldl_nil, List.headD_cons, List.drop_nil]
theorem join2 (a b : Str) : Txt.join "/" [a, b] = (a ++ "/") ++ b := by
  refine Str.ext' ?_
  unfold Txt.join Builtin.Str.glued
  simp only [List.drop_succ_cons, List.drop_zero, List.foldl_cons, List.foldl_nil, List.headD_cons, Str.cps_append, Array.append_assoc]
theorem tlI {i : Int} {s : Nat} (h : s ≠ 45 ∧ (s < 48 ∨ 57 < s)) : s ∉ TL.tl (toString i : Str) := by
  rw [int_S]
  have := numI_free (i := i) h
  simpa using this
theorem frac_split (x : Rat) : Txt.split (frS x) "/" = if (x.den : Int) = 1 then [(toString x.num : Str)] else [(toString x.num : Str), (toString (x.den : Int) : Str)] := by
  have ey : TL.tl ("/" : Str) = 47 :: [] := by decide +kernel
  have hk : (("/" : Str)).cps.all (· < 256) = true := by decide +kernel
  unfold frS
  split
  · have h := TL.split_join ey hk (parts := [(toString x.num : Str)]) (by simp) fun p hp => by
      rw [List.mem_singleton.mp hp]
      exact tlI (by decide)
    rw [join1] at h
    exact h
  · have h := TL.split_join ey hk (parts := [(toString x.num : Str), (toString (x.den : Int) : Str)]) (by simp) fun p hp => by
      rcases List.mem_cons.mp hp with z | z
      · rw [z]
        exact tlI (by decide)
      · rw [List.mem_singleton.mp z]
        exact tlI (by decide)
    rw [join2] at h
    exact h
theorem tlF {x : Rat} {s : Nat} (h : s ≠ 45 ∧ s ≠ 47 ∧ (s < 48 ∨ 57 < s)) : s ∉ TL.tl (frS x) := by
  unfold frS
  split
  · exact tlI ⟨h.1, h.2.2⟩
  · rw [TL.tl_append, TL.tl_append]
    intro z
    have ey : TL.tl ("/" : Str) = [47] := by decide +kernel
    rcases List.mem_append.mp z with z | z
    · rcases List.mem_append.mp z with z | z
      · exact tlI ⟨h.1, h.2.2⟩ z
      · rw [ey] at z
        exact h.2.1 (List.mem_singleton.mp z)
    · exact tlI ⟨h.1, h.2.2⟩ z
theorem page_split (n : Int) (m : Mv) : Txt.split (pgS n m) " " = [("factor" : Str), (toString n : Str), "zoom", (toString m.k : Str), "turn", (toString m.q : Str), "at", frS m.x, frS m.y] := by
  have ey : TL.tl (" " : Str) = 32 :: [] := by decide +kernel
  have hk : ((" " : Str)).cps.all (· < 256) = true := by decide +kernel
  have w1 : 32 ∉ TL.tl ("factor" : Str) := by decide +kernel
  have w2 : 32 ∉ TL.tl ("zoom" : Str) := by decide +kernel
  have w3 : 32 ∉ TL.tl ("turn" : Str) := by decide +kernel
  have w4 : 32 ∉ TL.tl ("at" : Str) := by decide +kernel
  have h := TL.split_join ey hk (parts := [("factor" : Str), (toString n : Str), "zoom", (toString m.k : Str), "turn", (toString m.q : Str), "at", frS m.x, frS m.y]) (by simp) fun p hp => by
    simp only [List.mem_cons, List.not_mem_nil, or_false] at hp
    rcases hp with z | z | z | z | z | z | z | z | z <;> rw [z]
    · exact w1
    · exact tlI (by decide)
    · exact w2
    · exact tlI (by decide)
    · exact w3
    · exact tlI (by decide)
    · exact w4
    · exact tlF (by decide)
    · exact tlF (by decide)
  rw [joinP] at h
  exact h
theorem pgLen {n : Int} {m : Mv} (n1 : 2 ≤ n) (n2 : n ≤ 10) (hk : m.k.natAbs ≤ 400) (q1 : 0 ≤ m.q) (q2 : m.q ≤ 3) (sx : SzQ 1900 m.x) (sy : SzQ 1900 m.y) : (pgS n m).length ≤ 20000 := by
  have hn := (numLen (B := 60) (i := n) (by unfold Sz; omega)).2
  have hz := (numLen (B := 60) (i := m.k) (by unfold Sz; omega)).2
  have hq := (numLen (B := 60) (i := m.q) (by unfold Sz; omega)).2
  have lx := frLen sx
  have ly := frLen sy
  have l1 : (("factor " : Str)).length = 7 := rfl
  have l2 : ((" zoom " : Str)).length = 6 := rfl
  have l3 : ((" turn " : Str)).length = 6 := rfl
  have l4 : ((" at " : Str)).length = 4 := rfl
  have l5 : ((" " : Str)).length = 1 := rfl
  unfold pgS
  rw [strLen_append, strLen_append, strLen_append, strLen_append, strLen_append, strLen_append, strLen_append, strLen_append, strLen_append, l1, l2, l3, l4, l5]
  omega
def cWF : Con := fun ds k => ∃ x : Rat, ds = [.str (frS x)] ∧ SzQ 1900 x ∧ k (frD x)
theorem sc_written_fraction : FnScope ["word", "parts", "part"] ["word"] (defScope (top 25)) := ⟨rfl, rfl, rfl, by decide +kernel, rfl, by decide +kernel, by decide +kernel⟩
theorem ok_written_fraction (F : Fun K "written_fraction" "written_fraction" (top 25) f fd) (B : Bt mg) (Hw : Fn P w K mg base 1 "written_integer" ["word"] cWI) (Hf : Fn P w K mg base 2 "is_fraction" ["value"] cIsFr) : FnOk P w K mg base CX0 3 f fd ["word"] (spC K 1 cWF) := by
  refine xdef F sc_written_fraction fun ds k hl hc cdv A outer s H E hr => ?_
  have nd := sc_written_fraction.nd
  obtain ⟨x, rfl, sx, hk⟩ := hc
  have sl := sizeLine_eq
  have lx := frLen sx
  have h0 : ((("/" : Str)).length == 0) = false := by decide +kernel
  by_cases hd : (x.den : Int) = 1
  · refine xb_cons (xs_lcL 1 2 (W := fun i acc => acc = ([x.num].take i).map D.int) (ds := [.str (toString x.num : Str)]) (XN.rd (xn_split ?_)) ?_ nd)
    · mi_while ["vl var"] []
      refine ⟨_, rfl, xe_str ⟨_, rfl, h0, by omega, ?_⟩⟩
      rw [frac_split, if_pos hd]
      refine ⟨rfl, rfl, fun acc hacc => ?_⟩
      subst hacc
      show VL.XB _ _ (List.set _ _ (.dat (.lst [.int x.num]))) _
      refine xb_cons (xs_if (XW.t (xw_and (xt_eq (xe_lenL B.len (XE.rd ?_))))))
      mi_while ["vl var"] []
      refine ⟨_, rfl, xe_int ⟨rfl, ?_⟩⟩
      refine iteT (xw_and1 (xt_notN (xe_ixL (XE.rd ?_))))
      mi_while ["vl var"] []
      refine ⟨_, rfl, xe_int ⟨_, rfl, _, rfl, iteT ?_⟩⟩
      mi_while ["vl"] []
      have e : frD x = .tup [.int x.num, .int 1] := by rw [← hd]
      rw [← e]
      exact hk
    · intro s2 H2 C2 cl fp i d acc hd2 hacc
      have hi : i < 1 := get_lt hd2
      match i, hi with
      | 0, _ =>
        cases (Option.some.inj hd2)
        mi_while ["vl"] []
        refine ⟨sx.1, ?_⟩
        subst hacc
        exact ⟨by simp, rfl⟩
  · refine xb_cons (xs_lcL 1 2 (W := fun i acc => acc = ([x.num, (x.den : Int)].take i).map D.int) (ds := [.str (toString x.num : Str), .str (toString (x.den : Int) : Str)]) (XN.rd (xn_split ?_)) ?_ nd)
    · mi_while ["vl var"] []
      refine ⟨_, rfl, xe_str ⟨_, rfl, h0, by omega, ?_⟩⟩
      rw [frac_split, if_neg hd]
      refine ⟨rfl, rfl, fun acc hacc => ?_⟩
      subst hacc
      show VL.XB _ _ (List.set _ _ (.dat (.lst [.int x.num, .int x.den]))) _
      have hp := den_pos x
      refine xb_cons (xs_if (XW.t (xw_and (xt_eq (xe_lenL B.len (XE.rd ?_))))))
      mi_while ["vl var"] []
      refine ⟨_, rfl, xe_int ⟨rfl, ?_⟩⟩
      refine iteF (iteF (xb_nil ?_))
      refine xb_cons (xs_if (XW.t (xw_or (xt_ne (xe_lenL B.len (XE.rd ?_))))))
      mi_while ["vl var"] []
      refine ⟨_, rfl, xe_int ⟨rfl, ?_⟩⟩
      refine iteF (xw_or (xt_inL hr (xe_non ?_)))
      mi_while ["vl var"] []
      refine ⟨false, ⟨.none, [.int x.num, .int x.den], rfl, by simp [pyD, pyL], rfl, by simp [SeqAt.shaped, PyData.canLay0, PyData.canLayAll0, PyData.depth, PyData.depthAll], by simp [PyData.eqv]⟩, ?_⟩
      refine iteF (xw_or1 (xt_lt (xe_ixL (XE.rd ?_))))
      mi_while ["vl var"] []
      refine ⟨_, rfl, xe_int ⟨_, rfl, _, rfl, _, rfl, xe_int ⟨_, rfl, ?_⟩⟩⟩
      rw [decide_eq_false (by omega)]
      refine iteF (xb_nil ?_)
      refine xb_cons (xs_ret (xe_if (xt_val ?_)))
      mi_while ["vl"] []
      exact hk
    · intro s2 H2 C2 cl fp i d acc hd2 hacc
      have hi : i < 2 := get_lt hd2
      match i, hi with
      | 0, _ =>
        cases (Option.some.inj hd2)
        mi_while ["vl"] []
        refine ⟨sx.1, ?_⟩
        subst hacc
        exact ⟨by simp, rfl⟩
      | 1, _ =>
        cases (Option.some.inj hd2)
        mi_while ["vl"] []
        refine ⟨sx.2, ?_⟩
        subst hacc
        exact ⟨by simp, rfl⟩
def cTV (C : Addr) : Con := fun ds k => ∃ (n : Int) (m : Mv), ds = [.str (pgS n m)] ∧ VOk n m ∧ SzQ 1900 m.x ∧ SzQ 1900 m.y ∧ k (vwD C n m)
theorem kb4 : kitB "str" "str" = some true := by decide +kernel
theorem eq4 : EqD (.lst [.str "factor", .str "zoom", .str "turn", .str "at"]) (.lst [.str "factor", .str "zoom", .str "turn", .str "at"]) true := by
  refine ⟨.list [.str "factor", .str "zoom", .str "turn", .str "at"], .list [.str "factor", .str "zoom", .str "turn", .str "at"], rfl, rfl, by decide +kernel, by decide +kernel, by decide +kernel⟩
theorem sc_text_view : FnScope ["value", "words", "factor", "zoom", "turn", "middle", "word"] ["value"] (defScope (top 41)) := ⟨rfl, rfl, rfl, by decide +kernel, rfl, by decide +kernel, by decide +kernel⟩
theorem ok_text_view (F : Fun K "text_view" "text_view" (top 41) f fd) (B : Bt mg) (Cs : Cst mg) (Hw : Fn P w K mg base 1 "written_integer" ["word"] cWI) (Hwf : Fn P w K mg base 3 "written_fraction" ["word"] cWF) (Hi : Fn P w K mg base 2 "is_factor" ["value"] cIsFactor) (Hb : Fn P w K mg base 2 "is_between" ["value", "least", "most"] cIsBetween)
    (Hn : Fn P w K mg base 3 "number_of" ["point"] cNum) (Hf : Fn P w K mg base 3 "fits" ["number", "factor"] cFits) (M : Mkr P w K mg base 4 "View" C 4 gV OkV) : FnOk P w K mg base CX0 6 f fd ["value"] (spC K 1 (cTV C)) := by
  refine xdef F sc_text_view fun ds k hl hc cdv A outer s H E hr => ?_
  have nd := sc_text_view.nd
  obtain ⟨n, m, rfl, h, sx, sy, hk⟩ := hc
  obtain ⟨tz, hz⟩ := Cs.mz
  have sl := sizeLine_eq
  have k1 := h.k1
  have k2 := h.k2
  have pl := pgLen h.n1 h.n2 (by omega) h.q1 h.q2 sx sy
  have h0 : (((" " : Str)).length == 0) = false := by decide +kernel
  refine xb_cons (xs_set 1 (xe_if (xt_val (xe_isi B.isi B.str bo4 ?_))) nd)
  mi_while ["vl var"] []
  refine ⟨_, rfl, _, kb4, _, rfl, iteT (XN.data (xn_split ?_))⟩
  mi_while ["vl var"] []
  refine ⟨_, rfl, xe_str ⟨_, rfl, h0, by omega, ?_⟩⟩
  rw [page_split]
  show VL.XB _ _ (List.set _ _ (.dat (.lst [.str "factor", .str (toString n : Str), .str "zoom", .str (toString m.k : Str), .str "turn", .str (toString m.q : Str), .str "at", .str (frS m.x), .str (frS m.y)]))) _
  refine xb_cons (xs_if (XW.t (xw_or (xt_ne (xe_lenL B.len (XE.rd ?_))))))
  mi_while ["vl var"] []
  refine ⟨_, rfl, xe_int ⟨rfl, ?_⟩⟩
  refine iteF (xw_or1 (xt_neD hr (XN.data (xn_stp (l := none) (h := some 7) po_none (po_some pe_int) (fun _ _ => ⟨rfl, rfl⟩) (fun _ _ => ⟨7, rfl, rfl, rfl⟩) (by decide) (XE.rd ?_)))))
  mi_while ["vl var"] []
  refine ⟨_, rfl, XN.data (xn_lst ?_)⟩
  mi_while ["vl"] []
  refine ⟨true, eq4, iteF (xb_nil ?_)⟩
  refine xb_cons (xs_asg (tg := .Tuple _ _ _) (XN.data (xn_lcL 6 (W := fun i acc => acc = ([n, m.k, m.q].take i).map D.int) (ds := [.str (toString n : Str), .str (toString m.k : Str), .str (toString m.q : Str)]) (XN.rd (xn_stp (l := some 1) (h := some 6) (po_some pe_int) (po_some pe_int) (fun _ _ => ⟨1, rfl, rfl, rfl⟩) (fun _ _ => ⟨6, rfl, rfl, rfl⟩) (by decide) (XE.rd ?_))) ?_ nd)))
  rotate_left
  · intro s2 H2 C2 cl fp i d acc hd2 hacc
    have hi : i < 3 := get_lt hd2
    have : ∃ z : Int, Sz 1900 z ∧ d = .str (toString z : Str) ∧ [n, m.k, m.q][i]? = some z := by
      have n1 := h.n1
      have n2 := h.n2
      have q1 := h.q1
      have q2 := h.q2
      have sm : ∀ z : Int, z.natAbs ≤ 400 → Sz 1900 z := fun z hz => by
        have : Sz 10 z := by unfold Sz; omega
        exact this.mono (by decide)
      match i, hi with
      | 0, _ => exact ⟨n, sm n (by omega), (Option.some.inj hd2).symm, rfl⟩
      | 1, _ => exact ⟨m.k, sm m.k (by omega), (Option.some.inj hd2).symm, rfl⟩
      | 2, _ => exact ⟨m.q, sm m.q (by omega), (Option.some.inj hd2).symm, rfl⟩
    obtain ⟨z, sz, rfl, hz2⟩ := this
    mi_while ["vl"] []
    refine ⟨sz, ?_⟩
    subst hacc
    refine ⟨by simp; omega, ?_⟩
    rw [List.take_succ, hz2]
    simp
  mi_while ["vl var"] []
  refine ⟨_, rfl, rfl, rfl, fun acc hacc => ?_⟩
  subst hacc
  show VL.XG _ _ (.lst [.int n, .int m.k, .int m.q]) _ _
  mi_while ["vl"] []
  refine ⟨sx, ?_⟩
  mi_while ["vl"] []
  refine ⟨sy, ?_⟩
  mi_while ["vl"] []
  refine xb_cons (xs_if (XW.t (xw_or (xt_not (xt_val ?_)))))
  mi_while ["vl"] []
  refine fun t ht => ⟨t, rfl, ?_⟩
  rw [ht.mpr ⟨h.n1, h.n2⟩]
  refine iteF (xw_or (xt_not (xt_val ?_)))
  mi_while ["vl"] []
  refine xe_glob (v := .int 400) hz ⟨tz, rfl⟩ (fun _ => .int 400) ?_
  mi_while ["vl"] []
  refine xe_glob (v := .int 400) hz ⟨tz, rfl⟩ (fun _ => .int 400) ?_
  mi_while ["vl"] []
  refine ⟨_, _, _, rfl, fun t ht => ⟨t, rfl, ?_⟩⟩
  rw [ht.mpr ⟨h.k1, h.k2⟩]
  refine iteF (xw_or1 (xt_not (xt_val ?_)))
  mi_while ["vl"] []
  refine ⟨_, _, _, rfl, fun t ht => ⟨t, rfl, ?_⟩⟩
  rw [ht.mpr ⟨h.q1, h.q2⟩]
  refine iteF (xb_nil ?_)
  refine xb_cons (xs_if (XW.t (xw_or (xt_inT hr (xe_non ?_)))))
  mi_while ["vl var"] []
  refine ⟨false, ⟨.none, [.tuple [.int m.x.num, .int m.x.den], .tuple [.int m.y.num, .int m.y.den]], rfl, by simp [pyD, pyL], rfl, by simp [SeqAt.shaped, PyData.canLay0, PyData.canLayAll0, PyData.depth, PyData.depthAll], by simp [PyData.eqv]⟩, ?_⟩
  refine iteF (xw_or1 (xt_not (xt_val ?_)))
  mi_while ["vl"] []
  refine ⟨m.x, m.y, 1900, rfl, sx, sy, by decide, fun a b c t st => ?_⟩
  mi_while ["vl"] []
  refine ⟨m.x, m.y, a, b, c, n, _, rfl, t, by have := h.n1; omega, st.2.2, by decide, fun r hr2 => ⟨r, rfl, ?_⟩⟩
  rw [hr2.mpr h.fit]
  refine iteF (xb_nil ?_)
  refine xb_cons (xs_ret (xe_new M hr (xa_cons ?_)))
  mi_while ["vl"] []
  exact ⟨⟨n, m, rfl, h⟩, hk⟩
def cRd (C : Addr) : Con := fun ds k => ∃ (c : D) (n : Int) (m : Mv), ds = [c, .str (pgS n m)] ∧ VOk n m ∧ SzQ 1900 m.x ∧ SzQ 1900 m.y ∧ k (vwD C n m)
theorem sc_View_read : FnScope ["cls", "text", "found"] ["cls", "text"] (defScope (meth 39 2)) := ⟨rfl, rfl, rfl, by decide +kernel, rfl, by decide +kernel, by decide +kernel⟩
theorem ok_read (F : Fun K "read" "View.read" (meth 39 2) f fd) (Ht : Fn P w K mg base 6 "text_view" ["value"] (cTV C)) : FnOk P w K mg base CX0 7 f fd ["cls", "text"] (spC K 2 (cRd C)) := by
  refine xdef F sc_View_read fun ds k hl hc cdv A outer s H E hr => ?_
  have nd := sc_View_read.nd
  obtain ⟨c, n, m, rfl, h, sx, sy, hk⟩ := hc
  mi_while ["vl"] []
  refine ⟨n, m, rfl, h, sx, sy, ?_⟩
  refine xb_cons (xs_if (xt_isN ?_))
  mi_while ["vl var"] []
  refine iteF (xb_nil ?_)
  mi_while ["vl"] []
  exact hk
end
end G

set_option Elab.async false
set_option linter.all false
set_option maxRecDepth 100000
set_option maxHeartbeats 4000000
namespace G
open PySem L2 VL VM
local macro_rules | `(tactic| mi_while ["vl var"] []) => `(tactic| first | refine xe_var 0 rfl ?_ | refine xe_var 1 rfl ?_ | refine xe_var 2 rfl ?_ | refine xe_var 3 rfl ?_ | refine xe_var 4 rfl ?_ | refine xe_var 5 rfl ?_ | refine xe_var 6 rfl ?_ | refine xe_var 7 rfl ?_ | refine xe_var 8 rfl ?_ | refine xe_var 9 rfl ?_ | refine xe_var 10 rfl ?_ | refine xe_var 11 rfl ?_ | refine xe_var 12 rfl ?_ | refine xe_var 13 rfl ?_ | refine xe_var 14 rfl ?_ | refine xe_var 15 rfl ?_ | refine xe_var 16 rfl ?_)
local macro_rules | `(tactic| mi_while ["vl exp"] []) => `(tactic| first
  | refine ⟨_, rfl, ?_⟩ | refine ⟨rfl, ?_⟩ | refine ⟨Nat.le_of_ble_eq_true rfl, ?_⟩
  | mi_while ["vl var"] []
  | refine xe_int ?_ | refine xe_str ?_ | refine xe_bl ?_ | refine xe_non ?_
  | refine xe_ixL (XN.rd (xn_lst ?_)) | (refine xe_ixT ?_; mi_while ["vl var"] []; refine ⟨_, rfl, ?_⟩) | (refine xe_ixL (XE.rd ?_); mi_while ["vl var"] []; refine ⟨_, rfl, ?_⟩) | refine xe_ixT ?_ | refine xe_add ?_ | refine xe_mul ?_ | refine xe_sub ?_ | refine xe_div ?_ | refine xe_mod ?_ | refine xe_neg ?_
  | refine ⟨mulSz (by assumption) (by assumption), ?_⟩ | refine ⟨divSz (by assumption) (by assumption), ?_⟩
  | refine xt_gt ?_ | refine xt_lt ?_ | refine xt_le ?_ | refine xt_ge ?_ | refine xe_gt ?_ | refine xe_lt ?_ | refine xe_le ?_ | refine xe_ge ?_
  | refine xe_if ?_ | refine xe_tup ?_ | refine xa_cons ?_ | refine xa_nil ?_
  | refine XN.data (xn_lst ?_) | refine xn_lst ?_
  | (refine' xe_call ?hF ?hR ?hA ?hN; (case hF => assumption); (case hR => assumption); (case hN => decide)))
local macro_rules | `(tactic| mi_while ["vl set"] []) => `(tactic| first | refine xb_cons (xs_set 0 ?_ (by assumption)) | refine xb_cons (xs_set 1 ?_ (by assumption)) | refine xb_cons (xs_set 2 ?_ (by assumption)) | refine xb_cons (xs_set 3 ?_ (by assumption)) | refine xb_cons (xs_set 4 ?_ (by assumption)) | refine xb_cons (xs_set 5 ?_ (by assumption)) | refine xb_cons (xs_set 6 ?_ (by assumption)) | refine xb_cons (xs_set 7 ?_ (by assumption)) | refine xb_cons (xs_set 8 ?_ (by assumption)) | refine xb_cons (xs_set 9 ?_ (by assumption)) | refine xb_cons (xs_set 10 ?_ (by assumption)) | refine xb_cons (xs_set 11 ?_ (by assumption)) | refine xb_cons (xs_set 12 ?_ (by assumption)))
local macro_rules | `(tactic| mi_while ["vl tg"] []) => `(tactic| first | refine xgs_nil ?_ | refine xgs_cons ?_ | refine xg_tup ?_ rfl | refine xg_lst ?_ rfl | refine xg_name 0 ?_ (by assumption) | refine xg_name 1 ?_ (by assumption) | refine xg_name 2 ?_ (by assumption) | refine xg_name 3 ?_ (by assumption) | refine xg_name 4 ?_ (by assumption) | refine xg_name 5 ?_ (by assumption) | refine xg_name 6 ?_ (by assumption) | refine xg_name 7 ?_ (by assumption) | refine xg_name 8 ?_ (by assumption) | refine xg_name 9 ?_ (by assumption) | refine xg_name 10 ?_ (by assumption) | refine xg_name 11 ?_ (by assumption) | refine xg_name 12 ?_ (by assumption))
local macro_rules | `(tactic| mi_while ["vl st"] []) => `(tactic| first
  | refine xb_cons (xs_ret ?_)
  | mi_while ["vl set"] []
  | mi_while ["vl tg"] []
  | refine xb_cons (xs_asg (tg := .Tuple _ _ _) ?_)
  | refine xb_nil ?_)
local macro_rules | `(tactic| mi_while ["vl"] []) => `(tactic| repeat (first | mi_while ["vl exp"] [] | mi_while ["vl st"] []))
/-- the module's constant ONE -/
structure On (K : PySem.W.Frag) (mg : Str → Option Value) : Prop where
  ex : ∃ a, mg "ONE" = some (.ref a) ∧ ∀ H, At K H (.ref a) (triD 1 0 1)
section
variable {P : Program} {w : World} {K : PySem.W.Frag} {mg : Str → Option Value} {base : Heap} {f : Addr} {fd : FuncData} {C : Addr}
/-- the property zoom -/
structure Pz (P : Program) (w : World) (K : PySem.W.Frag) (mg : Str → Option Value) (base : Heap) (C : Addr) : Prop where
  ex : ∃ pa g, PropAt K C "zoom" pa g ∧ FnA P w K mg base 1 g ["self"] (cSlot C 3)
theorem sc_View_zoom : FnScope ["self"] ["self"] (defScope (meth 39 4)) := ⟨rfl, rfl, rfl, by decide +kernel, rfl, by decide +kernel, by decide +kernel⟩
theorem ok_zoom (F : Fun K "zoom" "View.zoom" (meth 39 4) f fd) (V : Vc K C) : FnOk P w K mg base CX0 1 f fd ["self"] (spC K 1 (cSlot C 3)) := by
  refine xdef F sc_View_zoom fun ds k hl hc cdv A outer s H E hr => ?_
  obtain ⟨n, m, d, rfl, hd, hk⟩ := hc
  obtain ⟨p0, t0⟩ := V.s1
  refine xb_cons (xs_ret (xe_slot V.sc t0 ?_))
  mi_while ["vl var"] []
  exact ⟨_, _, rfl, hd, hk⟩
/-- the properties turn and middle -/
structure Pt (P : Program) (w : World) (K : PySem.W.Frag) (mg : Str → Option Value) (base : Heap) (C : Addr) : Prop where
  ex : ∃ pa g, PropAt K C "turn" pa g ∧ FnA P w K mg base 1 g ["self"] (cSlot C 2)
theorem sc_View_turn : FnScope ["self"] ["self"] (defScope (meth 39 5)) := ⟨rfl, rfl, rfl, by decide +kernel, rfl, by decide +kernel, by decide +kernel⟩
theorem ok_turn (F : Fun K "turn" "View.turn" (meth 39 5) f fd) (V : Vc K C) : FnOk P w K mg base CX0 1 f fd ["self"] (spC K 1 (cSlot C 2)) := by
  refine xdef F sc_View_turn fun ds k hl hc cdv A outer s H E hr => ?_
  obtain ⟨n, m, d, rfl, hd, hk⟩ := hc
  obtain ⟨p0, t0⟩ := V.s2
  refine xb_cons (xs_ret (xe_slot V.sc t0 ?_))
  mi_while ["vl var"] []
  exact ⟨_, _, rfl, hd, hk⟩
/-- the property middle -/
structure Pm (P : Program) (w : World) (K : PySem.W.Frag) (mg : Str → Option Value) (base : Heap) (C : Addr) : Prop where
  ex : ∃ pa g, PropAt K C "middle" pa g ∧ FnA P w K mg base 1 g ["self"] (cSlot C 1)
theorem sc_View_middle : FnScope ["self"] ["self"] (defScope (meth 39 6)) := ⟨rfl, rfl, rfl, by decide +kernel, rfl, by decide +kernel, by decide +kernel⟩
theorem ok_middle (F : Fun K "middle" "View.middle" (meth 39 6) f fd) (V : Vc K C) : FnOk P w K mg base CX0 1 f fd ["self"] (spC K 1 (cSlot C 1)) := by
  refine xdef F sc_View_middle fun ds k hl hc cdv A outer s H E hr => ?_
  obtain ⟨n, m, d, rfl, hd, hk⟩ := hc
  obtain ⟨p0, t0⟩ := V.s3
  refine xb_cons (xs_ret (xe_slot V.sc t0 ?_))
  mi_while ["vl var"] []
  exact ⟨_, _, rfl, hd, hk⟩
theorem tri_zero {x y : Rat} {a b c : Int} (t : IsTri x y a b c) : (decide (a = 0) && decide (b = 0)) = decide (x = 0 ∧ y = 0) := by
  have h1 := t.ea
  have h2 := t.eb
  have h5 := ratNz (Int.ne_of_gt t.pos)
  have e1 : a = 0 ↔ x = 0 := by
    constructor
    · intro h
      rw [h] at h1
      have : (0 : Rat) = x * c := h1
      grind
    · intro h
      rw [h, Rat.zero_mul] at h1
      exact_mod_cast h1
  have e2 : b = 0 ↔ y = 0 := by
    constructor
    · intro h
      rw [h] at h2
      have : (0 : Rat) = y * c := h2
      grind
    · intro h
      rw [h, Rat.zero_mul] at h2
      exact_mod_cast h2
  rw [Bool.eq_iff_iff]
  simp [e1, e2]
def cZero : Con := fun ds k => ∃ (a b c : Int), ds = [triD a b c] ∧ k (.bl (decide (a = 0) && decide (b = 0)))
theorem sc_is_zero : FnScope ["number"] ["number"] (defScope (top 35)) := ⟨rfl, rfl, rfl, by decide +kernel, rfl, by decide +kernel, by decide +kernel⟩
theorem ok_is_zero (F : Fun K "is_zero" "is_zero" (top 35) f fd) : FnOk P w K mg base CX0 1 f fd ["number"] (spC K 1 cZero) := by
  refine xdef F sc_is_zero fun ds k hl hc cdv A outer s H E hr => ?_
  obtain ⟨a, b, c, rfl, hk⟩ := hc
  refine xb_cons (xs_ret (xe_and (xe_eq ?_)))
  mi_while ["vl"] []
  show if decide (a = 0) = true then _ else _
  by_cases h : a = 0
  · rw [decide_eq_true h] at hk ⊢
    refine iteT (xe_one (xe_eq ?_))
    mi_while ["vl"] []
    exact hk
  · rw [decide_eq_false h] at hk ⊢
    exact iteF hk
instance (m : Mv) : Decidable (Ml m) := by unfold Ml; infer_instance
def cMulti : Con := fun ds k => ∃ (m : Mv) (a b c : Int), ds = [mvT m a b c] ∧ k (.bl (decide (Ml m)))
end
end G

set_option Elab.async false
set_option linter.all false
set_option maxRecDepth 100000
set_option maxHeartbeats 4000000
namespace G
open PySem L2 VL VM
local macro_rules | `(tactic| mi_while ["vl var"] []) => `(tactic| first | refine xe_var 0 rfl ?_ | refine xe_var 1 rfl ?_ | refine xe_var 2 rfl ?_ | refine xe_var 3 rfl ?_ | refine xe_var 4 rfl ?_ | refine xe_var 5 rfl ?_ | refine xe_var 6 rfl ?_ | refine xe_var 7 rfl ?_ | refine xe_var 8 rfl ?_ | refine xe_var 9 rfl ?_ | refine xe_var 10 rfl ?_ | refine xe_var 11 rfl ?_ | refine xe_var 12 rfl ?_ | refine xe_var 13 rfl ?_ | refine xe_var 14 rfl ?_ | refine xe_var 15 rfl ?_ | refine xe_var 16 rfl ?_)
local macro_rules | `(tactic| mi_while ["vl exp"] []) => `(tactic| first
  | refine ⟨_, rfl, ?_⟩ | refine ⟨rfl, ?_⟩ | refine ⟨Nat.le_of_ble_eq_true rfl, ?_⟩
  | mi_while ["vl var"] []
  | refine xe_int ?_ | refine xe_str ?_ | refine xe_bl ?_ | refine xe_non ?_
  | refine xe_ixL (XN.rd (xn_lst ?_)) | (refine xe_ixT ?_; mi_while ["vl var"] []; refine ⟨_, rfl, ?_⟩) | (refine xe_ixL (XE.rd ?_); mi_while ["vl var"] []; refine ⟨_, rfl, ?_⟩) | refine xe_ixT ?_ | refine xe_add ?_ | refine xe_mul ?_ | refine xe_sub ?_ | refine xe_div ?_ | refine xe_mod ?_ | refine xe_neg ?_
  | refine ⟨mulSz (by assumption) (by assumption), ?_⟩ | refine ⟨divSz (by assumption) (by assumption), ?_⟩
  | refine xt_gt ?_ | refine xt_lt ?_ | refine xt_le ?_ | refine xt_ge ?_ | refine xe_gt ?_ | refine xe_lt ?_ | refine xe_le ?_ | refine xe_ge ?_
  | refine xe_if ?_ | refine xe_tup ?_ | refine xa_cons ?_ | refine xa_nil ?_
  | refine XN.data (xn_lst ?_) | refine xn_lst ?_
  | (refine' xe_call ?hF ?hR ?hA ?hN; (case hF => assumption); (case hR => assumption); (case hN => decide)))
local macro_rules | `(tactic| mi_while ["vl set"] []) => `(tactic| first | refine xb_cons (xs_set 0 ?_ (by assumption)) | refine xb_cons (xs_set 1 ?_ (by assumption)) | refine xb_cons (xs_set 2 ?_ (by assumption)) | refine xb_cons (xs_set 3 ?_ (by assumption)) | refine xb_cons (xs_set 4 ?_ (by assumption)) | refine xb_cons (xs_set 5 ?_ (by assumption)) | refine xb_cons (xs_set 6 ?_ (by assumption)) | refine xb_cons (xs_set 7 ?_ (by assumption)) | refine xb_cons (xs_set 8 ?_ (by assumption)) | refine xb_cons (xs_set 9 ?_ (by assumption)) | refine xb_cons (xs_set 10 ?_ (by assumption)) | refine xb_cons (xs_set 11 ?_ (by assumption)) | refine xb_cons (xs_set 12 ?_ (by assumption)))
local macro_rules | `(tactic| mi_while ["vl tg"] []) => `(tactic| first | refine xgs_nil ?_ | refine xgs_cons ?_ | refine xg_tup ?_ rfl | refine xg_lst ?_ rfl | refine xg_name 0 ?_ (by assumption) | refine xg_name 1 ?_ (by assumption) | refine xg_name 2 ?_ (by assumption) | refine xg_name 3 ?_ (by assumption) | refine xg_name 4 ?_ (by assumption) | refine xg_name 5 ?_ (by assumption) | refine xg_name 6 ?_ (by assumption) | refine xg_name 7 ?_ (by assumption) | refine xg_name 8 ?_ (by assumption) | refine xg_name 9 ?_ (by assumption) | refine xg_name 10 ?_ (by assumption) | refine xg_name 11 ?_ (by assumption) | refine xg_name 12 ?_ (by assumption))
local macro_rules | `(tactic| mi_while ["vl st"] []) => `(tactic| first
  | refine xb_cons (xs_ret ?_)
  | mi_while ["vl set"] []
  | mi_while ["vl tg"] []
  | refine xb_cons (xs_asg (tg := .Tuple _ _ _) ?_)
  | refine xb_nil ?_)
local macro_rules | `(tactic| mi_while ["vl"] []) => `(tactic| repeat (first | mi_while ["vl exp"] [] | mi_while ["vl st"] []))
/-- enough room to do the move j times, the loop turning at most T times -/
def OfR (m : Mv) (j : Int) (B T : Nat) : Prop := (m.k = 0 ∧ m.q = 0 ∧ Sz 200 j ∧ B ≤ 8000) ∨ (¬ (m.k = 0 ∧ m.q = 0) ∧ turns m j ≤ T ∧ T ≤ 400 ∧ T * m.k.natAbs ≤ 400 ∧ 2 * m.k.natAbs * (T * T) + T * (B + 4) + 20 ≤ 8900)
theorem OfR.oft {m : Mv} {j : Int} {B T : Nat} (h : OfR m j B T) : Oft m j B ∧ ∀ i : Nat, i ≤ turns m j → (i : Int) * m.k.natAbs ≤ 400 := by
  rcases h with ⟨h1, h2, h3, h4⟩ | ⟨h0, h1, h2, h3, h4⟩
  · refine ⟨.inl ⟨h1, h2, h3, h4⟩, fun i _ => ?_⟩
    rw [h1]
    simp
  · refine ⟨.inr ⟨h0, by omega, fun i hi => ?_⟩, fun i hi => ?_⟩
    · have e1 : 2 * m.k.natAbs * (i * i) ≤ 2 * m.k.natAbs * (T * T) := Nat.mul_le_mul_left _ (Nat.mul_le_mul (by omega) (by omega))
      have e2 : i * (B + 4) ≤ T * (B + 4) := Nat.mul_le_mul_right _ (by omega)
      omega
    · have : i * m.k.natAbs ≤ T * m.k.natAbs := Nat.mul_le_mul_right _ (by omega)
      have : i * m.k.natAbs ≤ 400 := by omega
      exact_mod_cast this
section
variable {P : Program} {w : World} {K : PySem.W.Frag} {mg : Str → Option Value} {base : Heap} {f : Addr} {fd : FuncData} {C : Addr}
def cOfN : Con := fun ds k => ∃ (n : Int) (m : Mv) (a b c j : Int) (B T : Nat), ds = [.int n, mvT m a b c, .int j] ∧ j < 0 ∧ 2 ≤ n ∧ n ≤ 10 ∧ 0 ≤ m.q ∧ m.q < 4 ∧ m.k.natAbs ≤ 400 ∧ IsTri m.x m.y a b c ∧ Sz3 B a b c ∧ 4 * m.k.natAbs + B < 8900 ∧ OfR (m.back n) (-j) (4 * m.k.natAbs + B + 3) T ∧
  ∀ p q r, IsTri (pz n m j).x (pz n m j).y p q r → Sz3 8990 p q r → k (mvT (pz n m j) p q r)
theorem ok_often1 (F : Fun K "often_move" "often_move" (top 55) f fd) (Hu : Fn P w K mg base 4 "undone_move" ["factor", "move"] cBackMv) (H0 : Fn P w K mg base 6 "often_move" ["factor", "move", "many"] (cOft fun j => 0 ≤ j)) : FnOk P w K mg base CX0 7 f fd ["factor", "move", "many"] (spC K 3 cOfN) := by
  refine xdef F sc_often_move fun ds k hl hc cdv A outer s H E hr => ?_
  obtain ⟨n, m, a, b, c, j, B, T, rfl, hj, n1, n2, q1, q2, kk, t, st, hB, hn, hk⟩ := hc
  have nz : n ≠ 0 := by omega
  refine xb_cons (xs_if (xt_lt ?_))
  mi_while ["vl"] []
  rw [decide_eq_true hj]
  refine iteT ?_
  mi_while ["vl"] []
  refine ⟨n, m, a, b, c, B, rfl, t, st, n1, n2, by omega, hB, fun p q r u su => ?_⟩
  mi_while ["vl"] []
  have ho := hn.oft
  have kb : (m.back n).k.natAbs = m.k.natAbs := by
    show (-m.k).natAbs = _
    omega
  refine ⟨n, m.back n, p, q, r, -j, _, rfl, by omega, n1, n2, (back_turn n m).1, (back_turn n m).2, by omega, u, su, ho.1, fun i hi => by simpa using ho.2 i hi, fun p' q' r' u' su' => ?_⟩
  have e : pz n (m.back n) (-j) = pz n m j := by
    have h1 := pz_mul nz m ⟨q1, q2⟩ (-1) (-j)
    have h2 : pz n m (-1) = m.back n := by
      have : pz n m 1 = m := pw_one n m ⟨q1, q2⟩
      rw [pz_neg nz m ⟨q1, q2⟩, this]
    rw [h2] at h1
    rw [← h1]
    congr 1
    omega
  rw [e] at u' ⊢
  exact hk _ _ _ u' su'
/-- a move that may be done j times -/
structure Oj (n : Int) (m : Mv) (j : Int) : Prop where
  ok : VOk n m
  ok2 : VOk n (pz n m j)
  zm : (m.k * j).natAbs ≤ 400
  rm : ∃ B T, SzM B m ∧ B ≤ 3600 ∧ (0 ≤ j → OfR m j (B + B) T) ∧ (j < 0 → OfR (m.back n) (-j) (4 * m.k.natAbs + (B + B) + 3) T)
def cOften (C : Addr) : Con := fun ds k => ∃ (n : Int) (m : Mv) (j : Int), ds = [vwD C n m, .int j] ∧ Oj n m j ∧ k (vwD C n (pz n m j))
end
end G

set_option Elab.async false
set_option linter.all false
set_option maxRecDepth 100000
set_option maxHeartbeats 4000000
namespace G
open PySem L2 VL VM
local macro_rules | `(tactic| mi_while ["vl var"] []) => `(tactic| first | refine xe_var 0 rfl ?_ | refine xe_var 1 rfl ?_ | refine xe_var 2 rfl ?_ | refine xe_var 3 rfl ?_ | refine xe_var 4 rfl ?_ | refine xe_var 5 rfl ?_ | refine xe_var 6 rfl ?_ | refine xe_var 7 rfl ?_ | refine xe_var 8 rfl ?_ | refine xe_var 9 rfl ?_ | refine xe_var 10 rfl ?_ | refine xe_var 11 rfl ?_ | refine xe_var 12 rfl ?_ | refine xe_var 13 rfl ?_ | refine xe_var 14 rfl ?_ | refine xe_var 15 rfl ?_ | refine xe_var 16 rfl ?_)
local macro_rules | `(tactic| mi_while ["vl exp"] []) => `(tactic| first
  | refine ⟨_, rfl, ?_⟩ | refine ⟨rfl, ?_⟩ | refine ⟨Nat.le_of_ble_eq_true rfl, ?_⟩
  | mi_while ["vl var"] []
  | refine xe_int ?_ | refine xe_str ?_ | refine xe_bl ?_ | refine xe_non ?_
  | refine xe_ixL (XN.rd (xn_lst ?_)) | (refine xe_ixT ?_; mi_while ["vl var"] []; refine ⟨_, rfl, ?_⟩) | (refine xe_ixL (XE.rd ?_); mi_while ["vl var"] []; refine ⟨_, rfl, ?_⟩) | refine xe_ixT ?_ | refine xe_add ?_ | refine xe_mul ?_ | refine xe_sub ?_ | refine xe_div ?_ | refine xe_mod ?_ | refine xe_neg ?_
  | refine ⟨mulSz (by assumption) (by assumption), ?_⟩ | refine ⟨divSz (by assumption) (by assumption), ?_⟩
  | refine xt_gt ?_ | refine xt_lt ?_ | refine xt_le ?_ | refine xt_ge ?_ | refine xe_gt ?_ | refine xe_lt ?_ | refine xe_le ?_ | refine xe_ge ?_
  | refine xe_if ?_ | refine xe_tup ?_ | refine xa_cons ?_ | refine xa_nil ?_
  | refine XN.data (xn_lst ?_) | refine xn_lst ?_
  | (refine' xe_call ?hF ?hR ?hA ?hN; (case hF => assumption); (case hR => assumption); (case hN => decide)))
local macro_rules | `(tactic| mi_while ["vl set"] []) => `(tactic| first | refine xb_cons (xs_set 0 ?_ (by assumption)) | refine xb_cons (xs_set 1 ?_ (by assumption)) | refine xb_cons (xs_set 2 ?_ (by assumption)) | refine xb_cons (xs_set 3 ?_ (by assumption)) | refine xb_cons (xs_set 4 ?_ (by assumption)) | refine xb_cons (xs_set 5 ?_ (by assumption)) | refine xb_cons (xs_set 6 ?_ (by assumption)) | refine xb_cons (xs_set 7 ?_ (by assumption)) | refine xb_cons (xs_set 8 ?_ (by assumption)) | refine xb_cons (xs_set 9 ?_ (by assumption)) | refine xb_cons (xs_set 10 ?_ (by assumption)) | refine xb_cons (xs_set 11 ?_ (by assumption)) | refine xb_cons (xs_set 12 ?_ (by assumption)))
local macro_rules | `(tactic| mi_while ["vl tg"] []) => `(tactic| first | refine xgs_nil ?_ | refine xgs_cons ?_ | refine xg_tup ?_ rfl | refine xg_lst ?_ rfl | refine xg_name 0 ?_ (by assumption) | refine xg_name 1 ?_ (by assumption) | refine xg_name 2 ?_ (by assumption) | refine xg_name 3 ?_ (by assumption) | refine xg_name 4 ?_ (by assumption) | refine xg_name 5 ?_ (by assumption) | refine xg_name 6 ?_ (by assumption) | refine xg_name 7 ?_ (by assumption) | refine xg_name 8 ?_ (by assumption) | refine xg_name 9 ?_ (by assumption) | refine xg_name 10 ?_ (by assumption) | refine xg_name 11 ?_ (by assumption) | refine xg_name 12 ?_ (by assumption))
local macro_rules | `(tactic| mi_while ["vl st"] []) => `(tactic| first
  | refine xb_cons (xs_ret ?_)
  | mi_while ["vl set"] []
  | mi_while ["vl tg"] []
  | refine xb_cons (xs_asg (tg := .Tuple _ _ _) ?_)
  | refine xb_nil ?_)
local macro_rules | `(tactic| mi_while ["vl"] []) => `(tactic| repeat (first | mi_while ["vl exp"] [] | mi_while ["vl st"] []))
section
variable {P : Program} {w : World} {K : PySem.W.Frag} {mg : Str → Option Value} {base : Heap} {f : Addr} {fd : FuncData} {C : Addr}
/-! views that commute -/
def cLs : Con := fun ds k => ∃ (n : Int) (m : Mv) (a b c : Int), ds = [.int n, mvT m a b c] ∧ 2 ≤ n ∧ n ≤ 10 ∧ m.k.natAbs ≤ 1000 ∧ ∀ p q r, IsTri (lsx n m) (lsy n m) p q r → Sz3 (4 * m.k.natAbs + 4) p q r → k (triD p q r)
theorem eqtri {x y z w : Rat} {a b c a' b' c' : Int} (t : IsTri x y a b c) (u : IsTri z w a' b' c') : EqD (triD a b c) (triD a' b' c') (decide (x = z ∧ y = w)) := by
  refine ⟨.tuple [.int a, .int b, .int c], .tuple [.int a', .int b', .int c'], rfl, rfl, ?_, ?_, ?_⟩
  · simp [SeqAt.shaped, PyData.canLay0, PyData.canLayAll0, PyData.depth, PyData.depthAll]
  · simp [SeqAt.shaped, PyData.canLay0, PyData.canLayAll0, PyData.depth, PyData.depthAll]
  · rw [Bool.eq_iff_iff]
    simp only [PyData.eqv, PyData.eqvAll, Bool.and_true, Bool.and_eq_true, decide_eq_true_eq, beq_iff_eq]
    constructor
    · rintro ⟨h1, h2, h3⟩
      rw [t.xe, t.ye, u.xe, u.ye, h1, h2, h3]
      exact ⟨rfl, rfl⟩
    · rintro ⟨h1, h2⟩
      subst h1 h2
      exact t.uniq u
def cCommute (C : Addr) : Con := fun ds k => ∃ (n : Int) (m m' : Mv) (B : Nat), ds = [vwD C n m, vwD C n m'] ∧ VOk n m ∧ VOk n m' ∧ SzM B m ∧ SzM B m' ∧ B < 3000 ∧ k (.bl (decide (m.then n m' = m'.then n m)))
end
end G

set_option Elab.async false
set_option linter.all false
set_option maxRecDepth 100000
set_option maxHeartbeats 4000000
namespace G
open PySem L2 VL VM
local macro_rules | `(tactic| mi_while ["vl var"] []) => `(tactic| first | refine xe_var 0 rfl ?_ | refine xe_var 1 rfl ?_ | refine xe_var 2 rfl ?_ | refine xe_var 3 rfl ?_ | refine xe_var 4 rfl ?_ | refine xe_var 5 rfl ?_ | refine xe_var 6 rfl ?_ | refine xe_var 7 rfl ?_ | refine xe_var 8 rfl ?_ | refine xe_var 9 rfl ?_ | refine xe_var 10 rfl ?_ | refine xe_var 11 rfl ?_ | refine xe_var 12 rfl ?_ | refine xe_var 13 rfl ?_ | refine xe_var 14 rfl ?_ | refine xe_var 15 rfl ?_ | refine xe_var 16 rfl ?_)
local macro_rules | `(tactic| mi_while ["vl exp"] []) => `(tactic| first
  | refine ⟨_, rfl, ?_⟩ | refine ⟨rfl, ?_⟩ | refine ⟨Nat.le_of_ble_eq_true rfl, ?_⟩
  | mi_while ["vl var"] []
  | refine xe_int ?_ | refine xe_str ?_ | refine xe_bl ?_ | refine xe_non ?_
  | refine xe_ixL (XN.rd (xn_lst ?_)) | (refine xe_ixT ?_; mi_while ["vl var"] []; refine ⟨_, rfl, ?_⟩) | (refine xe_ixL (XE.rd ?_); mi_while ["vl var"] []; refine ⟨_, rfl, ?_⟩) | refine xe_ixT ?_ | refine xe_add ?_ | refine xe_mul ?_ | refine xe_sub ?_ | refine xe_div ?_ | refine xe_mod ?_ | refine xe_neg ?_
  | refine ⟨mulSz (by assumption) (by assumption), ?_⟩ | refine ⟨divSz (by assumption) (by assumption), ?_⟩
  | refine xt_gt ?_ | refine xt_lt ?_ | refine xt_le ?_ | refine xt_ge ?_ | refine xe_gt ?_ | refine xe_lt ?_ | refine xe_le ?_ | refine xe_ge ?_
  | refine xe_if ?_ | refine xe_tup ?_ | refine xa_cons ?_ | refine xa_nil ?_
  | refine XN.data (xn_lst ?_) | refine xn_lst ?_
  | (refine' xe_call ?hF ?hR ?hA ?hN; (case hF => assumption); (case hR => assumption); (case hN => decide)))
local macro_rules | `(tactic| mi_while ["vl set"] []) => `(tactic| first | refine xb_cons (xs_set 0 ?_ (by assumption)) | refine xb_cons (xs_set 1 ?_ (by assumption)) | refine xb_cons (xs_set 2 ?_ (by assumption)) | refine xb_cons (xs_set 3 ?_ (by assumption)) | refine xb_cons (xs_set 4 ?_ (by assumption)) | refine xb_cons (xs_set 5 ?_ (by assumption)) | refine xb_cons (xs_set 6 ?_ (by assumption)) | refine xb_cons (xs_set 7 ?_ (by assumption)) | refine xb_cons (xs_set 8 ?_ (by assumption)) | refine xb_cons (xs_set 9 ?_ (by assumption)) | refine xb_cons (xs_set 10 ?_ (by assumption)) | refine xb_cons (xs_set 11 ?_ (by assumption)) | refine xb_cons (xs_set 12 ?_ (by assumption)))
local macro_rules | `(tactic| mi_while ["vl tg"] []) => `(tactic| first | refine xgs_nil ?_ | refine xgs_cons ?_ | refine xg_tup ?_ rfl | refine xg_lst ?_ rfl | refine xg_name 0 ?_ (by assumption) | refine xg_name 1 ?_ (by assumption) | refine xg_name 2 ?_ (by assumption) | refine xg_name 3 ?_ (by assumption) | refine xg_name 4 ?_ (by assumption) | refine xg_name 5 ?_ (by assumption) | refine xg_name 6 ?_ (by assumption) | refine xg_name 7 ?_ (by assumption) | refine xg_name 8 ?_ (by assumption) | refine xg_name 9 ?_ (by assumption) | refine xg_name 10 ?_ (by assumption) | refine xg_name 11 ?_ (by assumption) | refine xg_name 12 ?_ (by assumption))
local macro_rules | `(tactic| mi_while ["vl st"] []) => `(tactic| first
  | refine xb_cons (xs_ret ?_)
  | mi_while ["vl set"] []
  | mi_while ["vl tg"] []
  | refine xb_cons (xs_asg (tg := .Tuple _ _ _) ?_)
  | refine xb_nil ?_)
local macro_rules | `(tactic| mi_while ["vl"] []) => `(tactic| repeat (first | mi_while ["vl exp"] [] | mi_while ["vl st"] []))
section
variable {P : Program} {w : World} {K : PySem.W.Frag} {mg : Str → Option Value} {base : Heap} {f : Addr} {fd : FuncData} {C : Addr}
/-! shown -/
def cCkPt : Con := fun ds k => ∃ x y, ds = [ptD x y] ∧ k .non
/-- the point that a move shows -/
def shX (n : Int) (m : Mv) (x y : Rat) : Rat := m.x + sc n m.k * rx m.q x y
def shY (n : Int) (m : Mv) (x y : Rat) : Rat := m.y + sc n m.k * ry m.q x y
def cShown (C : Addr) : Con := fun ds k => ∃ (n : Int) (m : Mv) (x y : Rat) (B B' : Nat), ds = [vwD C n m, ptD x y] ∧ VOk n m ∧ SzM B m ∧ SzQ B' x ∧ SzQ B' y ∧ B < 4400 ∧ B' < 4400 ∧ B + B + (4 * m.k.natAbs + (B' + B') + 3) < 8990 ∧ k (ptD (shX n m x y) (shY n m x y))
end
end G

set_option Elab.async false
set_option linter.all false
set_option maxRecDepth 100000
set_option maxHeartbeats 4000000
namespace PySem.W
open PySem PySem.Builtin
/-! ## repr(x), bool(x) of an instance with an own __repr__, __bool__ -/
section
variable {prog : Program} {w : World} {A : Around} {E : Value → Shared → Prop} {s : Shared} {K : Frag} {x C f : Addr} {ox : Obj} {od : Option Obj}
theorem vl_repr {Q : Value → Shared → Prop} (hu : A.in1.units < cLine) (X : K.In s.heap) (I : InstAt s.heap x ox C od) (hs : findIn K (.ref C) "__repr__" = some (some (.ref f))) (hf : isFn K (.ref f) = true)
    (h : wpAny (model prog w) A.in1 (call (.ref f) [.ref x]) (fun r s' => ∃ m tk, r = .str m tk ∧ Q (.str m tk) s') E s) : wpAny (model prog w) A (call (.builtin "repr") [.ref x]) Q E s := by
  refine Calls.call_function_entry F.kind_repr F.plain_repr F.entry_repr (F.args_repr1 _) ?_
  unfold Builtin.«repr»
  refine wpAny_bind (m := oneArg "repr" _) (wpAny_pure ?_)
  refine wpAny_bind (wpAny_cRoomFor hu ?_)
  refine wpAny_bind (m := specialOf _ _) (wpAny_bind (I.type.here ((looks_findIn X hs).here ?_)))
  show wpAny _ _ (if (some (Value.ref f)).isNone = true then _ else _) _ _ _
  rw [if_neg (by simp)]
  refine wpAny_bind (m := callSpecialIfBound? (.ref x) (Str.ofString "__repr__") _) (ifBound_K X I hs hf (wpAny_mono h (fun r s' hr => ?_) fun _ _ y => y))
  obtain ⟨m, tk, rfl, hq⟩ := hr
  refine wpAny_bind (wpAny_isInstance (typeIs_str _ _ _) isSubtype_str_str ?_)
  first
    | exact wpAny_pure ⟨_, rfl, hq⟩
    | (rw [if_pos rfl]; exact wpAny_pure ⟨_, rfl, hq⟩)
    | (simp only [if_true]; exact wpAny_pure ⟨_, rfl, hq⟩)
theorem vl_truthy {M : Model} {Q : Bool → Shared → Prop} (X : K.In s.heap) (I : InstAt s.heap x ox C od) (hs : findIn K (.ref C) "__bool__" = some (some (.ref f))) (hf : isFn K (.ref f) = true)
    (h : wpAny M A (call (.ref f) [.ref x]) (fun r s' => ∃ b, r = .bool b ∧ Q b s') E s) : wpAny M A (truthy (.ref x)) Q E s := by
  unfold truthy
  first
    | (refine wpAny_bind (m := callSpecial? (.ref x) (Str.ofString "__bool__")) (special_fn X I hs (beq_iff_eq.mp hf) (wpAny_mono h (fun r s' hr => ?_) fun _ _ y => y)))
    | (refine wpAny_bind (wpAny_pure ?_); refine wpAny_bind (m := callSpecial? (.ref x) (Str.ofString "__bool__")) (special_fn X I hs (beq_iff_eq.mp hf) (wpAny_mono h (fun r s' hr => ?_) fun _ _ y => y)))
  obtain ⟨b, rfl, hq⟩ := hr
  exact wpAny_pure hq
open PySem.Sem (wp) in
theorem vl_bool {Q : Value → Shared → Prop} (X : K.In s.heap) (I : InstAt s.heap x ox C od) (hs : findIn K (.ref C) "__bool__" = some (some (.ref f))) (hf : isFn K (.ref f) = true)
    (h : wpAny (model prog w) A.in1.in1 (call (.ref f) [.ref x]) (fun r s' => ∃ b, r = .bool b ∧ Q (.bool b) s') E s) : wpAny (model prog w) A (call (.type "bool") [.ref x]) Q E s := by
  refine callType_codes (T := "bool") (Bi := Builtin.«object.__init__») (Q₁ := fun r s₁ => ∃ b, r = .bool b ∧ Q r s₁) PySem.F.called_bool (PySem.F.typeCall_bool_1 _) PySem.F.entry_object_init ?_ ?_
  · refine codeAny_of_tree ?_
    show wpAny _ A.in1.in1 (do checkBuiltinCall "bool.__new__" ⟨[.type "bool", .ref x], []⟩; again (.builtin "bool.__new__" ⟨[.type "bool", .ref x], []⟩)) _ _ s
    refine wpAny_bind (wpAny_of_eq (PySem.F.newCall_bool_1 _) (wpAny_pure ⟨plainId_quiet (by decide +kernel) _, codeAny_builtin PySem.F.entry_bool_new ?_⟩))
    rw [Around.under_plainId (by decide +kernel) _]
    have f1 := F.conv_sub_bool
    obtain ⟨hp, g, d, tk, os⟩ := s
    repeat (any_goals (first | assumption | (with_reducible refine vl_truthy X I hs hf (wpAny_mono h (fun r s' hr => ?_) fun _ _ y => y)) | wp_step))
    obtain ⟨b, rfl, hq⟩ := hr
    exact ⟨b, rfl, wpAny_pure ⟨b, rfl, hq⟩⟩
  · rintro obj s₁ ⟨b, rfl, hq⟩
    have ht : s₁.TypeIs (.bool b) "bool" := by first | exact typeIs_bool _ _ | rfl | trivial
    exact ⟨ht, PySem.F.args_object_init_2 _ _, object_init_meets PySem.F.called_bool.init.lookup PySem.F.called_bool.made (by decide) prog w A.in1 _ s₁ ⟨ht, rfl, hq⟩⟩
end
end PySem.W
namespace VL
open PySem L2
section
variable {X : Cx} {ρ : Rho} {a e : Expr} {es : List Expr} {p pos apos : Pos} {k : D → Prop} {C g : Addr} {n m : Nat} {s1 : Str} {Cn : Con}
def rReprO (C : Addr) (sp : Sp) : List V → Hp → VK → Prop := fun xs H Q => ∃ a dx vs, xs = [V.ref a] ∧ SlX.Slt H a C dx vs ∧ sp [.ref a] H (fun z H' => ∃ y, z = .str y ∧ Q z H') fun _ _ _ => False
theorem call_reprO {sp : Sp} (hs : PySem.W.findIn X.K (.ref C) "__repr__" = some (some (.ref g))) (hf : PySem.W.isFn X.K (.ref g) = true) (F : FnR X.prog X.w X.K X.mg X.base CX0 n g sp) (hr : Room (n + 1) X.A) : CallR X (.builtin "repr") (rReprO C sp) := by
  intro pins s σ H xs us Q I r h
  obtain ⟨a, dx, vs, rfl, hsl, q⟩ := h
  obtain ⟨u, rfl, ru⟩ := r.one
  cases (show u = Value.ref a from ru)
  obtain ⟨sl, od, _, J1, _⟩ := SlX.slt_inst I hsl
  have hr1 : Room n X.A.in1 := Room.in1 hr
  have un := hr1.units
  refine PySem.W.vl_repr (by omega) I.kIn J1 hs hf (wpAny_mono (wpAny_call (SlX.run_at (us := [.ref a]) (ws := [.ref a]) F hr1 I.env0.in1 pass0 I (.cons rfl .nil) q)) (fun w s' z => ?_) fun _ _ x => x)
  obtain ⟨z', H', I', rz, y, ey, qz⟩ := z
  subst ey
  obtain ⟨t, e⟩ := (show ∃ t, w = Value.str y t from rz)
  cases e
  exact ⟨y, t, rfl, .str y, H', I', ⟨t, rfl⟩, qz⟩
theorem xe_reprO (hm0 : X.mg "repr" = none) (hs : PySem.W.findIn X.K (.ref C) "__repr__" = some (some (.ref g))) (hf : PySem.W.isFn X.K (.ref g) = true) (F : FnA X.prog X.w X.K X.mg X.base n g [s1] Cn) (hr : Room m X.A)
    (h : XE X a ρ fun d => ∃ ds, d = .obj C ds ∧ Cn [d] fun r => ∃ y, r = .str y ∧ k (.str y)) (hnm : n + 1 ≤ m := by decide) (hg : Gl X "repr" := by rfl)
    (he : starEach (a :: []) X.env = (false, eval a X.env) :: starEach [] X.env := by rfl) : XE X (.Call (.Name "repr" p) [a] [] pos) ρ k :=
  impE (pe_callB (call_reprO hs hf F.raw (hr.mono hnm)) hg hm0 (by decide +kernel) (pa_cons anyE pa_nil he) (by decide) (by decide) he rfl) fun σ H Q ⟨S, E, q⟩ => useE h E fun v H1 d e1 a1 ⟨ds, hd, hc⟩ => by
    subst hd
    have a1' := a1
    obtain ⟨b, dx, vs, rfl, h1, h2⟩ := a1.inv_obj
    exact ⟨b, dx, vs.map some, rfl, ex_s hide_le h1, S, _, _, rfl, (E.mono e1).trk, .cons a1' .nil, hc, fun v2 H2 d2 e2 a2 ⟨y, hy, hk⟩ => by
      subst hy
      exact ⟨y, a2.inv_str, q _ _ _ (e1.trans e2) a2 hk⟩⟩
def rBoolO (C : Addr) (sp : Sp) : List V → Hp → VK → Prop := fun xs H Q => ∃ a dx vs, xs = [V.ref a] ∧ SlX.Slt H a C dx vs ∧ sp [.ref a] H (fun z H' => ∃ y, z = .bl y ∧ Q z H') fun _ _ _ => False
theorem call_boolO {sp : Sp} (hs : PySem.W.findIn X.K (.ref C) "__bool__" = some (some (.ref g))) (hf : PySem.W.isFn X.K (.ref g) = true) (F : FnR X.prog X.w X.K X.mg X.base CX0 n g sp) (hr : Room (n + 2) X.A) : CallR X (.type "bool") (rBoolO C sp) := by
  intro pins s σ H xs us Q I r h
  obtain ⟨a, dx, vs, rfl, hsl, q⟩ := h
  obtain ⟨u, rfl, ru⟩ := r.one
  cases (show u = Value.ref a from ru)
  obtain ⟨sl, od, _, J1, _⟩ := SlX.slt_inst I hsl
  have hr2 : Room n X.A.in1.in1 := (show Room (n + 1) X.A.in1 from Room.in1 hr).in1
  refine PySem.W.vl_bool I.kIn J1 hs hf (wpAny_mono (wpAny_call (SlX.run_at (us := [.ref a]) (ws := [.ref a]) F hr2 I.env0.in1.in1 pass0 I (.cons rfl .nil) q)) (fun w s' z => ?_) fun _ _ x => x)
  obtain ⟨z', H', I', rz, y, ey, qz⟩ := z
  subst ey
  cases (show w = Value.bool y from rz)
  exact ⟨y, rfl, .bl y, H', I', rfl, qz⟩
theorem xe_boolO (hm0 : X.mg "bool" = none) (hs : PySem.W.findIn X.K (.ref C) "__bool__" = some (some (.ref g))) (hf : PySem.W.isFn X.K (.ref g) = true) (F : FnA X.prog X.w X.K X.mg X.base n g [s1] Cn) (hr : Room m X.A)
    (h : XE X a ρ fun d => ∃ ds, d = .obj C ds ∧ Cn [d] fun r => ∃ y, r = .bl y ∧ k (.bl y)) (hnm : n + 2 ≤ m := by decide) (hg : Gl X "bool" := by rfl)
    (he : starEach (a :: []) X.env = (false, eval a X.env) :: starEach [] X.env := by rfl) : XE X (.Call (.Name "bool" p) [a] [] pos) ρ k :=
  impE (pe_callTy (call_boolO hs hf F.raw (hr.mono hnm)) hg hm0 (by decide +kernel) (pa_cons anyE pa_nil he) (by decide) (by decide) he rfl) fun σ H Q ⟨S, E, q⟩ => useE h E fun v H1 d e1 a1 ⟨ds, hd, hc⟩ => by
    subst hd
    have a1' := a1
    obtain ⟨b, dx, vs, rfl, h1, h2⟩ := a1.inv_obj
    exact ⟨b, dx, vs.map some, rfl, ex_s hide_le h1, S, _, _, rfl, (E.mono e1).trk, .cons a1' .nil, hc, fun v2 H2 d2 e2 a2 ⟨y, hy, hk⟩ => by
      subst hy
      exact ⟨y, a2.inv_bl, q _ _ _ (e1.trans e2) a2 hk⟩⟩
/-! ### C(k = v, ..) -/
structure MkrK (P : Program) (w : World) (K : PySem.W.Frag) (mg : Str → Option Value) (base : Heap) (k : Nat) (x : Str) (C : Addr) (n : Nat) (ks : List Str) (is : List Nat) (g : List D → List D) (Ok : List D → Prop) : Prop where
  ex : ∃ f fd ps, mg x = some (.ref C) ∧ Mk K C f ∧ KBn K fd ps 1 ks (fun us ws => us ++ pick is ws) (fun vs zs => vs ++ pick is zs) ∧ FnOk P w K mg base CX0 k f fd ps (spI K C n g Ok)
theorem xe_newK {n m N : Nat} {x : Str} {C : Addr} {ks : List Str} {is : List Nat} {g : List D → List D} {Ok : List D → Prop} {kws : List Keyword} (M : MkrK X.prog X.w X.K X.mg X.base n x C N ks is g Ok) (hr : Room m X.A) (h : XK' X kws ρ fun ds => ds.length = ks.length ∧ (pick is ds).length = N ∧ Ok (pick is ds) ∧ k (.obj C (g (pick is ds)))) (hnm : n + 1 ≤ m := by decide) (hg : Gl X x := by rfl)
    (hall : (backToKw pos (keywordEach kws X.env)).all (·.1.isSome) = true := by rfl) (hks : (backToKw pos (keywordEach kws X.env)).filterMap (·.1) = ks := by rfl) (hdb : (x == ("__debug__" : Str)) = false := by decide)
    (hpl : ((backTo pos (starEach [] X.env)).any (·.1) || (backToKw pos (keywordEach kws X.env)).any (·.1.isNone)) = false := by rfl) :
    XE X (.Call (.Name x p) [] kws pos) ρ k := by
  obtain ⟨f, fd, ps, h1, h2, h3, h4⟩ := M.ex
  refine impE (pe_makeK0 (E := fun _ _ _ => False) h2 h4 (hr.mono hnm) hg h1 h3 pass0 anyK hall hks hdb hpl) fun σ H Q ⟨S, E, q⟩ => ⟨_, h, S, E, fun zs H1 ds e1 a1 ⟨hl, hl2, hok, hk⟩ => ⟨rfl, by rw [a1.length]; exact hl, fun y dx hy hdx ne => ?_⟩⟩
  have E1 := E.mono e1
  have ny := hide_new E1.trk hy
  have nd := hide_new E1.trk hdx
  have gy : upd (upd H1 dx (.own y)) y (.ins C dx []) y = some (.ins C dx []) := upd_same
  have gd : upd (upd H1 dx (.own y)) y (.ins C dx []) dx = some (.own y) := by rw [upd_ne ne, upd_same]
  have go : ∀ z, z ≠ y → z ≠ dx → upd (upd H1 dx (.own y)) y (.ins C dx []) z = H1 z := fun z z1 z2 => by rw [upd_ne z1, upd_ne z2]
  have nn : ∀ z u, H1 z = some u → z ≠ y ∧ z ≠ dx := fun z u q => ⟨ne_of_none q hy, ne_of_none q hdx⟩
  refine ⟨y :: dx :: S, y, dx, pick is zs, pick is ds, rfl, by rw [(a1.pick is).length]; exact hl2, fun z hz => ?_, by simp, by simp, gy, gd, ne, (a1.pick is).mono fun z o hz => ?_, hok, fun H2 ws e2 aw sl => ⟨rfl, ?_⟩⟩
  · rcases List.mem_cons.mp hz with w | w
    · exact ⟨_, by rw [w]; exact gy⟩
    · rcases List.mem_cons.mp w with w | w
      · exact ⟨_, by rw [w]; exact gd⟩
      · obtain ⟨o, w2⟩ := E1.trk z w
        obtain ⟨z1, z2⟩ := nn z o w2
        exact ⟨o, by rw [go z z1 z2]; exact w2⟩
  · have zS : z ∉ S := fun w => by
      rw [hide_in w] at hz
      cases hz
    rw [hide_out zS] at hz
    obtain ⟨z1, z2⟩ := nn z o hz
    rw [hide_out (by simp [z1, z2, zS]), go z z1 z2]
    exact hz
  · have e12 : Ex H1 H2 := fun z o hz => by
      obtain ⟨z1, z2⟩ := nn z o hz
      refine e2 z o ?_
      rw [hide_out (by simp [z1, z2]), go z z1 z2]
      exact hz
    refine q (.ref y) H2 _ (e1.trans e12) (.obj (C := C) (dx := dx) (vs := ws) ?_ (aw.mono (hide_sub fun z hz => List.mem_cons_of_mem _ (List.mem_cons_of_mem _ hz)))) hk
    rcases sl with ⟨s1, s2⟩ | ⟨s1, s2⟩
    · exact .inl ⟨by rw [hide_out ny]; exact s1, s2⟩
    · exact .inr ⟨by rw [hide_out ny]; exact s1, by rw [hide_out nd]; exact s2⟩
/-! ### C.m(k = x), m a classmethod -/
structure FnAK (P : Program) (w : World) (K : PySem.W.Frag) (mg : Str → Option Value) (base : Heap) (C : Addr) (k : Nat) (g : Addr) (ps ks : List Str) (Cn : Con) : Prop where
  ex : ∃ fd, (∀ (s : Shared) (ws : List Value), K.In s.heap → ws.length = ks.length → BindsTo s fd ⟨[.ref C], ks.zip ws⟩ (ps.zip (.ref C :: ws))) ∧ ps.length = ks.length + 1 ∧ FnOk P w K mg base CX0 k g fd ps (spC K ps.length Cn)
theorem xe_cmethK {n j : Nat} {m x : Str} {C pa g : Addr} {mc : Value} {ps ks : List Str} {Cn : Con} {kws : List Keyword} (hm : X.mg x = some (.ref C)) (r : ClX.CRead X.K C mc) (c : ClX.CMet X.K C mc m pa g) (F : FnAK X.prog X.w X.K X.mg X.base C n g ps ks Cn) (hr : Room j X.A)
    (h : XK' X kws ρ fun ds => ds.length = ks.length ∧ Cn (.ptr C :: ds) k) (hnm : n ≤ j := by decide) (hg : Gl X x := by rfl) (hdb : (x == ("__debug__" : Str)) = false := by decide)
    (hall : (backToKw pos (keywordEach kws X.env)).all (·.1.isSome) = true := by rfl) (hks : (backToKw pos (keywordEach kws X.env)).filterMap (·.1) = ks := by rfl)
    (hpl : ((backTo pos (starEach [] X.env)).any (·.1) || (backToKw pos (keywordEach kws X.env)).any (·.1.isNone)) = false := by rfl) {pl : Sem Bool}
    (ht : eval (.Call (.Attribute (.Name x p) m apos) [] kws pos) X.env = (do
      let ov ← eval (.Name x p) X.env
      standAt apos.atName
      let (f, first) ← holding [ov] (getMethod ov m pl)
      callWith pos f first (backTo pos (starEach [] X.env)) (backToKw pos (keywordEach kws X.env))) := by rfl) :
    XE X (.Call (.Attribute (.Name x p) m apos) [] kws pos) ρ k := by
  obtain ⟨fd, h3, hlen, h4⟩ := F.ex
  refine ⟨fun pins s σ H Q I ⟨S, E, q⟩ => ?_⟩
  refine PySem.W.methodCall_KW (pl := pl) (thn ((pe_glob hg hm (show RelV (.ref C) (.ref C) from rfl) hdb).run pins s σ H (fun x H1 => x = .ref C ∧ H1 = H) I ⟨rfl, rfl⟩) fun u s1 ⟨x, H1, I1, rx, ex, eH⟩ => ?_) ht
  subst ex eH
  obtain rfl : u = Value.ref C := rx
  refine ClX.getmethcm_ok I1 r c fun s2 I2 => ?_
  refine PySem.W.callWith_of hpl (PySem.W.keeps_M (self := .ref C) c.fi) (PyProof.Rows.evalArgs_kw2_nil hall ?_)
  refine thn (anyK.run pos _ s2 σ H1 (fun vs H2 => ∃ ds, Ex H1 H2 ∧ AtL X.K (hide S H2) vs ds ∧ ds.length = ks.length ∧ Cn (.ptr C :: ds) k) I2 ⟨_, h, S, E, fun vs H2 ds e2 a2 hk => ⟨ds, e2, a2, hk⟩⟩) fun ws s3 ⟨zs, H2, I3, rz, ds, e2, a2, l1, hc⟩ => ⟨⟨ClX.pin_at I3, I3.kIn⟩, ?_⟩
  rw [hks]
  have lw : ws.length = ks.length := by rw [← rz.length, a2.length]; exact l1
  refine thn (Q := EP X ((s1.heap.objs.size, PySem.W.methodObj (.ref g) (.ref C)) :: pins) σ Q) (wpAny_call (PySem.W.method_call (ClX.pin_at I3) (codeAny_mono (h4.run X.A X.stack s3 H2 ⟨[.ref C], ks.zip ws⟩ (.ref C :: ws) (.ref C :: zs) Q (fun _ _ _ => False) (hr.mono hnm) I3.env0 (h3 s3 ws I3.kIn lw) (.cons rfl rz) ⟨S, .ptr C :: ds, k, by rw [List.length_cons, a2.length, l1]; exact hlen.symm, (E.mono e2).trk, .cons (.ptr C) a2, hc, fun v H3 d e3 a3 hk => q v H3 d (e2.trans e3) a3 hk⟩) fun r s' hq => ?_))) fun _ _ y => ClX.unpinE y
  cases r with
  | error e => exact (show False from hq).elim
  | ok fl =>
    cases fl with
    | ret u => exact I3.after hq
    | next => exact False.elim hq
    | brk => exact False.elim hq
    | cont => exact False.elim hq
end
section
variable {X : Cx} {ρ : Rho} {a b : Expr} {pos : Pos} {kl : List D → Prop}
/-- any list and a new list -/
theorem xn_catR (h : XL X a ρ fun ds => XN X b ρ fun es => ds.length + es.length ≤ 100000 ∧ kl (ds ++ es)) : XN X (.BinOp a .Add b pos) ρ kl :=
  impE (pe_op op_catS anyE anyE) fun σ H Q ⟨S, E, q⟩ => useL h E fun r H1 vs ds e1 hL a1 hb => ⟨_, hb, S, E.mono e1, fun p H2 us es hn2 e2 hp2 a2 ⟨hl, hk⟩ => by
    have a1' : AtL X.K (hide S H2) vs ds := a1.mono (hide_ex e2)
    have a2' : AtL X.K (hide S H2) us es := a2.mono (hide_sub fun x hx => List.mem_cons_of_mem _ hx)
    exact ⟨r, p, vs, us, rfl, rfl, ex_l e2 hL, SqL.of hp2, sz_of (by rw [a1.length, a2.length]; exact hl), fun z hz => q z _ _ _ ((e1.trans e2).back hz) ((e1.trans e2).trans (Ex.new hz)) upd_same (newL (E.mono (e1.trans e2)).trk hz (a1'.append a2')) hk⟩⟩
end
end VL

set_option Elab.async false
set_option linter.all false
set_option maxRecDepth 100000
set_option maxHeartbeats 4000000
namespace VL
open PySem L2
section
variable {X : Cx} {ρ : Rho} {a : Expr} {pos p2 : Pos} {k : D → Prop}
/-- the first parts of a tuple -/
theorem xe_cutT {i : Int} {cj : Nat} {cp : Pos} (h : XE X a ρ fun d => ∃ ds, d = .tup ds ∧ ¬ (HT.sIx ds.length 0 none = 0 ∧ HT.sIx ds.length ds.length (some i) = ds.length) ∧ k (.tup (cutD ds none (some i)))) : XE X (.Subscript a (.Slice none (some (.Constant (.int i) cj cp)) none p2) pos) ρ k :=
  impE (pe_slice sl_tup anyE po_none (po_some pe_int)) fun σ H Q ⟨S, E, q⟩ => useE h E fun v H1 d e1 a1 ⟨ds, hd, hw, hk⟩ => by
    subst hd
    obtain ⟨b, vs, rfl, h1, h2⟩ := a1.inv_tup
    refine ⟨i, rfl, b, vs, rfl, ex_t hide_le h1, by rw [h2.length]; exact hw, fun p hp => ?_⟩
    have np := hide_new (E.mono e1).trk hp
    refine q _ _ _ (e1.trans (Ex.new hp)) (.tup (SqT.of ?_) ((cut_of h2).mono (hide_ex (Ex.new hp)))) hk
    rw [hide_out np]
    exact upd_same
end
end VL

set_option Elab.async false
set_option linter.all false
set_option maxRecDepth 100000
set_option maxHeartbeats 4000000
namespace VL
open PySem PySem.Spec PyProof.Rows L2
/-! ## is of truths; .get of a written dict -/
section
variable {X : Cx} {ρ : Rho} {a b e f o : Expr} {pos cpos apos : Pos} {k : D → Prop} {kb : Bool → Prop}
theorem xt_isB (h : XE X a ρ fun x => ∃ p, x = .bl p ∧ XE X b ρ fun y => ∃ q, y = .bl q ∧ kb (decide (p = q))) : XT X (.Compare a [.Is] [b] pos) ρ kb :=
  impT (pt_cmpR op_isBl anyE anyE (nomark _)) fun σ H Q ⟨S, E, q⟩ => useE h E fun x H1 d e1 a1 ⟨u, hu, hb⟩ => useE hb (E.mono e1) fun y H2 d2 e2 a2 ⟨w, hw, hk⟩ => by
    subst hu hw
    exact ⟨u, w, a1.inv_bl, a2.inv_bl, _, rfl, q _ _ (e1.trans e2) hk⟩
theorem xt_notB (h : XE X a ρ fun x => ∃ p, x = .bl p ∧ XE X b ρ fun y => ∃ q, y = .bl q ∧ kb (!decide (p = q))) : XT X (.Compare a [.IsNot] [b] pos) ρ kb :=
  impT (pt_cmpR op_notBl anyE anyE (nomark _)) fun σ H Q ⟨S, E, q⟩ => useE h E fun x H1 d e1 a1 ⟨u, hu, hb⟩ => useE hb (E.mono e1) fun y H2 d2 e2 a2 ⟨w, hw, hk⟩ => by
    subst hu hw
    exact ⟨u, w, a1.inv_bl, a2.inv_bl, _, rfl, q _ _ (e1.trans e2) hk⟩
def tKGet (K : PySem.W.Frag) (c : Addr) (td ty tx : TE) : TE := fun σ H Q => td σ H fun x H1 => x = .ref c ∧ ty σ H1 fun y H2 => ∃ z : Str, y = .str z ∧ tx σ H2 fun r H3 => (∃ u v, PySem.W.nsIn K c z = some (some u) ∧ RelV v u ∧ Q v H3) ∨ (PySem.W.nsIn K c z = some none ∧ Q r H3)
theorem pe_kget {c : Addr} {es : Array DictEntry} {n : Nat} {td ty tx : TE} (D : KDict X.K X.w c es n) (ho : PE X o td) (he : PE X e ty) (hf : PE X f tx) (m : M2 X o "get" apos e f cpos) : PE X (.Call (.Attribute o "get" apos) [e, f] [] cpos) (tKGet X.K c td ty tx) := by
  refine ⟨fun pins s σ H Q I h => ?_⟩
  refine wpAny_Call_method m.base m.few m.line PySem.F.plainAttrs_dict PySem.F.slot_dict_get PySem.F.type_dict_get (thn (ho.run pins s σ H _ I h) fun u s1 ⟨x, H1, I1, rx, ex, q1⟩ => ?_)
  subst ex
  obtain rfl : u = Value.ref c := rx
  refine ⟨kd_type D I1, fun b hb => ?_, ?_⟩
  · cases hb
    exact ⟨_, I1.kIn _ _ D.at_, rfl⟩
  rw [m.trees]
  refine Calls.callWith_builtin rfl (Calls.evalArgs_plain (Calls.spliced_cons (thn (he.run pins s1 σ H1 _ I1 q1) fun iv s2 ⟨y, H2, I2, ry, z, ey, q2⟩ =>
    Calls.spliced_cons (thn (hf.run pins s2 σ H2 _ I2 q2) fun fv s3 ⟨r, H3, I3, rr, q3⟩ => Calls.spliced_nil ?_))))
  subst ey
  obtain ⟨t, rfl⟩ := (show ∃ t, iv = Value.str z t from ry)
  have hm := PySem.W.mapOf_K (prog := X.prog) (w := X.w) I3.kIn D.at_ D.lit
  refine call_meetsIn PySem.F.slot_dict_get (kd_type D I3) PySem.F.entry_dict_get (PySem.F.args_dict_get_3 _ _ _) (meets_dict_get_default (strKind X.prog X.w) c (PySem.strKind_is X.prog X.w z t) D.low fv) ⟨_, hm, ?_⟩
  rcases q3 with ⟨u, v, e1, r1, q⟩ | ⟨e1, q⟩
  · have := PySem.W.find_K D.at_ e1
    show EP X pins σ Q _ _
    simp only [this]
    exact ⟨v, H3, I3.tok _, r1, q⟩
  · have := PySem.W.find_K D.at_ e1
    show EP X pins σ Q _ _
    simp only [this]
    exact ⟨r, H3, I3.tok _, rr, q⟩
/-- d.get(k, x), d a written dict with text keys -/
theorem xe_kget {c : Addr} {es : Array DictEntry} {n : Nat} (D : KDict X.K X.w c es n) (h : XE X o ρ fun d => d = .ptr c ∧ XE X e ρ fun y => ∃ z : Str, y = .str z ∧ XE X f ρ fun r => (∃ (i : Int) (u : Value), PySem.W.nsIn X.K c z = some (some u) ∧ RelV (.int i) u ∧ k (.int i)) ∨ (PySem.W.nsIn X.K c z = some none ∧ k r))
    (h1 : attributeBase o "get" X.env (eval o X.env) = eval o X.env := by rfl)
    (h2 : ((backTo cpos (starEach [e, f] X.env)).all (fun x => !x.1) && (backToKw cpos (keywordEach [] X.env)).all (fun x => x.1.isSome) && decide (([e, f] : List Expr).length + ([] : List Keyword).length + (if ([] : List Keyword).isEmpty then 0 else 1) < 30)) = true := by rfl)
    (h3 : (apos.endLine == cpos.line) = true := by rfl) (h4 : backTo cpos (starEach [e, f] X.env) = [(false, eval e X.env), (false, eval f X.env)] := by rfl) :
    XE X (.Call (.Attribute o "get" apos) [e, f] [] cpos) ρ k :=
  impE (pe_kget D anyE anyE anyE ⟨h1, h2, h3, h4⟩) fun σ H Q ⟨S, E, q⟩ => useE h E fun x H1 d e1 a1 ⟨hd, hb⟩ => by
    subst hd
    exact ⟨a1.inv_ptr, useE hb (E.mono e1) fun y H2 d2 e2 a2 ⟨z, hz, hc⟩ => by
      subst hz
      exact ⟨z, a2.inv_str, useE hc ((E.mono e1).mono e2) fun r H3 d3 e3 a3 hk => by
        rcases hk with ⟨i, u, n1, r1, hk⟩ | ⟨n1, hk⟩
        · exact .inl ⟨u, .int i, n1, r1, q _ _ _ ((e1.trans e2).trans e3) (.int i) hk⟩
        · exact .inr ⟨n1, q _ _ _ ((e1.trans e2).trans e3) a3 hk⟩⟩⟩
end
end VL

set_option Elab.async false
set_option linter.all false
set_option maxRecDepth 100000
set_option maxHeartbeats 4000000
namespace VL
open PySem PySem.Spec PyProof.Rows L2
section
variable {X : Cx} {ρ : Rho} {a b e o : Expr} {es : List Expr} {pos p p1 p2 apos c0 c1 : Pos} {k : D → Prop} {kb : Bool → Prop} {kl : List D → Prop} {te to : TE} {y0 z : Str} {i j : Nat}
/-- o.replace("..." + e, "...") -/
def tReplA (to te : TE) (y0 z : Str) : TE := fun σ H Q => to σ H fun v H1 => (∃ x, v = .str x) ∧ te σ H1 fun u H2 => ∃ x y, v = .str x ∧ u = .str y ∧ (y0.length == 0) = false ∧ (y.length == 0) = false ∧ (y0 ++ y == z) = false ∧ (y0 ++ y).length ≤ sizeLine ∧ x.length + (x.length + 1) * z.length ≤ 16777216 ∧ Q (.str (Txt.replace x (y0 ++ y) z)) H2
theorem pe_replA (ho : PE X o to) (he : PE X e te)
    (hst : starEach [.BinOp (.Constant (.str y0) i c0) .Add e p, .Constant (.str z) j c1] X.env = [(false, eval (.BinOp (.Constant (.str y0) i c0) .Add e p) X.env), (false, eval (.Constant (.str z) j c1) X.env)] := by rfl)
    (hbase : attributeBase o "replace" X.env (eval o X.env) = eval o X.env := by rfl) (hline : (apos.endLine == pos.line) = true := by rfl) :
    PE X (.Call (.Attribute o "replace" apos) [.BinOp (.Constant (.str y0) i c0) .Add e p, .Constant (.str z) j c1] [] pos) (tReplA to te y0 z) := by
  refine ⟨fun pins s σ H Q I h => ?_⟩
  refine PySem.Call_method2 hbase hst hline (thn (ho.run pins s σ H _ I h) fun v s1 q => ?_)
  obtain ⟨v', H1, I1, r1, ⟨x, e1⟩, q⟩ := q
  subst e1
  obtain ⟨tx, e2⟩ := r1
  subst e2
  refine ⟨"str", _, PySem.F.plainAttrs_str, PySem.F.slot_str_replace, PySem.F.type_str_replace, typeIs_str _ _ _, (fun _ e => nomatch e), Calls.callWith_builtin rfl (Calls.evalArgs_plain (Calls.spliced_cons ?_))⟩
  refine wpAny_BinOp (Calls.Constant_str ?_)
  refine wpAny_mono (PySem.wpAny_toks_of (n := s1.toks + 1) (Nat.le_refl _) (he.run pins _ σ H1 _ (I1.tok _) q)) (fun u s2 q => ?_) fun _ _ z => z.2
  obtain ⟨hk, u', H2, I2, r2, x', y, ex, ey, l0, l1, hyz, hl, hb, q⟩ := q
  cases ex
  subst ey
  obtain ⟨tu, eu⟩ := r2
  subst eu
  refine PySem.P.add_str ?_
  rw [l0, l1]
  refine ⟨hl, Calls.spliced_cons (Calls.Constant_str (Calls.spliced_nil ?_))⟩
  exact PySem.SC.replace (by show s2.toks ≠ 0; omega) (by show s2.toks + 1 ≠ 0; omega) (by show s2.toks ≠ s2.toks + 1; omega) hyz hb fun t' k => ⟨.str _, H2, I2.tok k, ⟨t', rfl⟩, q⟩
theorem xe_replA (h : XE X o ρ fun x => ∃ s, x = .str s ∧ XE X e ρ fun y => ∃ t, y = .str t ∧ (y0.length == 0) = false ∧ (t.length == 0) = false ∧ (y0 ++ t == z) = false ∧ (y0 ++ t).length ≤ sizeLine ∧ s.length + (s.length + 1) * z.length ≤ 16777216 ∧ k (.str (Txt.replace s (y0 ++ t) z)))
    (hst : starEach [.BinOp (.Constant (.str y0) i c0) .Add e p, .Constant (.str z) j c1] X.env = [(false, eval (.BinOp (.Constant (.str y0) i c0) .Add e p) X.env), (false, eval (.Constant (.str z) j c1) X.env)] := by rfl)
    (hbase : attributeBase o "replace" X.env (eval o X.env) = eval o X.env := by rfl) (hline : (apos.endLine == pos.line) = true := by rfl) :
    XE X (.Call (.Attribute o "replace" apos) [.BinOp (.Constant (.str y0) i c0) .Add e p, .Constant (.str z) j c1] [] pos) ρ k :=
  impE (pe_replA anyE anyE hst hbase hline) fun σ H Q ⟨S, E, q⟩ => useE h E fun x H1 d e1 a1 ⟨s, hs, hb⟩ => by
    subst hs
    refine ⟨⟨s, a1.inv_str⟩, useE hb (E.mono e1) fun y H2 d2 e2 a2 ⟨t, ht, g0, g1, g2, g3, g4, hk⟩ => ?_⟩
    subst ht
    exact ⟨s, t, a1.inv_str, a2.inv_str, g0, g1, g2, g3, g4, q _ _ _ (e1.trans e2) (.str _) hk⟩
/-- list(text) -/
def sgn (z : Str) : List Str := z.cps.toList.map fun c => ⟨#[c]⟩
def kLstS (x : V) (H : Hp) (Q : VK) : Prop := ∃ z, x = .str z ∧ z.cps.size ≤ sizeLine ∧ ∀ q, H q = none → Q (.ref q) (upd H q (.lst ((sgn z).map V.str)))
theorem rl_listS (hc : X.calm = true) (pins : List (Addr × Obj)) (s : Shared) (σ : L2.St) (H : Hp) (x : V) (v : Value) (Q : VK) (I : Inv X pins σ H s) (r : RelV x v) (h : kLstS x H Q) :
    wpAny (model X.prog X.w) X.A (call (.type "list") [v]) (EP X pins σ Q) X.xe s := by
  obtain ⟨b, rfl, hz, q⟩ := h
  obtain ⟨t, rfl⟩ := r
  have hlen : ((sgn b).map V.str).length = b.cps.size := by
    unfold sgn
    rw [List.length_map, List.length_map, Array.length_toList]
  refine PySem.call_list_str (I.ok.hd hc) b t (fun h' tk acc c' hk e hi => ?_) hz
  refine ⟨.ref s.heap.objs.size, upd H s.heap.objs.size (.lst ((sgn b).map V.str)), I.laid hk (Nat.le_refl _) ⟨by rw [hlen]; exact hz, acc.toList, c', ?_, by rw [Array.toArray_toList]; exact e⟩, rfl, q _ (I.hok.fresh (Nat.le_refl _))⟩
  refine vals_of_idx _ _ (by rw [hlen, Array.length_toList]; exact hi.1) fun j u hj => ?_
  obtain ⟨c, t', hc, rfl⟩ := hi.2 j u (by rw [← Array.getElem?_toList]; exact hj)
  exact ⟨.str ⟨#[c]⟩, by simp [sgn, hc], ⟨_, rfl⟩⟩
theorem xn_listS (hc : X.calm = true) (hm : X.mg "list" = none) (h : XE X a ρ fun x => ∃ z, x = .str z ∧ z.cps.size ≤ sizeLine ∧ kl ((sgn z).map D.str)) (hg : Gl X "list" := by rfl)
    (na : starEach [a] X.env = (false, eval a X.env) :: starEach [] X.env := by rfl) : XN X (.Call (.Name "list" p) [a] [] pos) ρ kl :=
  impE (pe_callTy (call_r1 (rl_listS hc)) hg hm (by decide +kernel) (pa_cons anyE pa_nil na) (he := na)) fun σ H Q ⟨S, E, q⟩ => useE h E fun x H1 d e1 a1 ⟨s, hs, hl, hk⟩ => by
    subst hs
    exact ⟨s, a1.inv_str, hl, fun p hp => q p _ _ _ (e1.back hp) (e1.trans (Ex.new hp)) upd_same (at_strs _) hk⟩
end
end VL

set_option Elab.async false
set_option linter.all false
set_option maxRecDepth 100000
set_option maxHeartbeats 4000000
set_option pp.maxSteps 300
namespace G
open PySem L2 VL VM
local macro_rules | `(tactic| mi_while ["vl var"] []) => `(tactic| first | refine xe_var 0 rfl ?_ | refine xe_var 1 rfl ?_ | refine xe_var 2 rfl ?_ | refine xe_var 3 rfl ?_ | refine xe_var 4 rfl ?_ | refine xe_var 5 rfl ?_ | refine xe_var 6 rfl ?_ | refine xe_var 7 rfl ?_ | refine xe_var 8 rfl ?_ | refine xe_var 9 rfl ?_ | refine xe_var 10 rfl ?_ | refine xe_var 11 rfl ?_ | refine xe_var 12 rfl ?_ | refine xe_var 13 rfl ?_ | refine xe_var 14 rfl ?_ | refine xe_var 15 rfl ?_ | refine xe_var 16 rfl ?_)
local macro_rules | `(tactic| mi_while ["vl exp"] []) => `(tactic| first
  | refine ⟨_, rfl, ?_⟩ | refine ⟨rfl, ?_⟩ | refine ⟨Nat.le_of_ble_eq_true rfl, ?_⟩
  | mi_while ["vl var"] []
  | refine xe_int ?_ | refine xe_str ?_ | refine xe_bl ?_ | refine xe_non ?_
  | refine xe_ixL (XN.rd (xn_lst ?_)) | (refine xe_ixT ?_; mi_while ["vl var"] []; refine ⟨_, rfl, ?_⟩) | (refine xe_ixL (XE.rd ?_); mi_while ["vl var"] []; refine ⟨_, rfl, ?_⟩) | refine xe_ixT ?_ | refine xe_add ?_ | refine xe_mul ?_ | refine xe_sub ?_ | refine xe_div ?_ | refine xe_mod ?_ | refine xe_neg ?_
  | refine ⟨mulSz (by assumption) (by assumption), ?_⟩ | refine ⟨divSz (by assumption) (by assumption), ?_⟩
  | refine xt_gt ?_ | refine xt_lt ?_ | refine xt_le ?_ | refine xt_ge ?_ | refine xe_gt ?_ | refine xe_lt ?_ | refine xe_le ?_ | refine xe_ge ?_
  | refine xe_if ?_ | refine xe_tup ?_ | refine xa_cons ?_ | refine xa_nil ?_
  | refine XN.data (xn_lst ?_) | refine xn_lst ?_
  | (refine' xe_call ?hF ?hR ?hA ?hN; (case hF => assumption); (case hR => assumption); (case hN => decide)))
local macro_rules | `(tactic| mi_while ["vl set"] []) => `(tactic| first | refine xb_cons (xs_set 0 ?_ (by assumption)) | refine xb_cons (xs_set 1 ?_ (by assumption)) | refine xb_cons (xs_set 2 ?_ (by assumption)) | refine xb_cons (xs_set 3 ?_ (by assumption)) | refine xb_cons (xs_set 4 ?_ (by assumption)) | refine xb_cons (xs_set 5 ?_ (by assumption)) | refine xb_cons (xs_set 6 ?_ (by assumption)) | refine xb_cons (xs_set 7 ?_ (by assumption)) | refine xb_cons (xs_set 8 ?_ (by assumption)) | refine xb_cons (xs_set 9 ?_ (by assumption)) | refine xb_cons (xs_set 10 ?_ (by assumption)) | refine xb_cons (xs_set 11 ?_ (by assumption)) | refine xb_cons (xs_set 12 ?_ (by assumption)))
local macro_rules | `(tactic| mi_while ["vl tg"] []) => `(tactic| first | refine xgs_nil ?_ | refine xgs_cons ?_ | refine xg_tup ?_ rfl | refine xg_lst ?_ rfl | refine xg_name 0 ?_ (by assumption) | refine xg_name 1 ?_ (by assumption) | refine xg_name 2 ?_ (by assumption) | refine xg_name 3 ?_ (by assumption) | refine xg_name 4 ?_ (by assumption) | refine xg_name 5 ?_ (by assumption) | refine xg_name 6 ?_ (by assumption) | refine xg_name 7 ?_ (by assumption) | refine xg_name 8 ?_ (by assumption) | refine xg_name 9 ?_ (by assumption) | refine xg_name 10 ?_ (by assumption) | refine xg_name 11 ?_ (by assumption) | refine xg_name 12 ?_ (by assumption))
local macro_rules | `(tactic| mi_while ["vl st"] []) => `(tactic| first
  | refine xb_cons (xs_ret ?_)
  | mi_while ["vl set"] []
  | mi_while ["vl tg"] []
  | refine xb_cons (xs_asg (tg := .Tuple _ _ _) ?_)
  | refine xb_nil ?_)
local macro_rules | `(tactic| mi_while ["vl"] []) => `(tactic| repeat (first | mi_while ["vl exp"] [] | mi_while ["vl st"] []))
theorem eqmv {u v : Mv} {a b c a' b' c' : Int} (t : IsTri u.x u.y a b c) (t' : IsTri v.x v.y a' b' c') : EqD (mvT u a b c) (mvT v a' b' c') (decide (u = v)) := by
  refine ⟨.tuple [.int u.k, .int u.q, .tuple [.int a, .int b, .int c]], .tuple [.int v.k, .int v.q, .tuple [.int a', .int b', .int c']], by simp [pyD, pyL], by simp [pyD, pyL], ?_, ?_, ?_⟩
  · simp [SeqAt.shaped, PyData.canLay0, PyData.canLayAll0, PyData.depth, PyData.depthAll]
  · simp [SeqAt.shaped, PyData.canLay0, PyData.canLayAll0, PyData.depth, PyData.depthAll]
  · rw [Bool.eq_iff_iff]
    simp only [PyData.eqv, PyData.eqvAll, Bool.and_true, Bool.and_eq_true, decide_eq_true_eq, beq_iff_eq]
    constructor
    · rintro ⟨h1, h2, h3, h4, h5⟩
      exact mv_ext h1 h2 (by rw [t.xe, t'.xe, h3, h5]) (by rw [t.ye, t'.ye, h4, h5])
    · intro e
      subst e
      obtain ⟨h1, h2, h3⟩ := t.uniq t'
      exact ⟨rfl, rfl, h1, h2, h3⟩
/-- the module's table LENGTHS -/
structure Ln (w : World) (K : PySem.W.Frag) (mg : Str → Option Value) : Prop where
  ex : ∃ c es n, mg "LENGTHS" = some (.ref c) ∧ KDict K w c es n ∧ (∃ u, PySem.W.nsIn K c "alike" = some (some u) ∧ RelV (.int 3) u) ∧ ∃ u, PySem.W.nsIn K c "root" = some (some u) ∧ RelV (.int 3) u
theorem fn_or {P : Program} {w : World} {K : PySem.W.Frag} {mg : Str → Option Value} {base : Heap} {n j : Nat} {f : Addr} {fd : FuncData} {ps : List Str} {c1 c2 : Con} (h1 : FnOk P w K mg base CX0 n f fd ps (spC K j c1)) (h2 : FnOk P w K mg base CX0 n f fd ps (spC K j c2)) :
    FnOk P w K mg base CX0 n f fd ps (spC K j fun ds k => c1 ds k ∨ c2 ds k) :=
  ⟨fun vs H Q E h => by
    obtain ⟨S, ds, k, a, b, c, d, e⟩ := h
    rcases d with d | d
    · exact h1.len vs H Q E ⟨S, ds, k, a, b, c, d, e⟩
    · exact h2.len vs H Q E ⟨S, ds, k, a, b, c, d, e⟩,
  fun A outer s H args us vs Q E r e0 bt vv h => by
    obtain ⟨S, ds, k, a, b, c, d, e⟩ := h
    rcases d with d | d
    · exact h1.run A outer s H args us vs Q E r e0 bt vv ⟨S, ds, k, a, b, c, d, e⟩
    · exact h2.run A outer s H args us vs Q E r e0 bt vv ⟨S, ds, k, a, b, c, d, e⟩⟩
theorem fn_con {P : Program} {w : World} {K : PySem.W.Frag} {mg : Str → Option Value} {base : Heap} {n j : Nat} {f : Addr} {fd : FuncData} {ps : List Str} {c1 c2 : Con} (h1 : FnOk P w K mg base CX0 n f fd ps (spC K j c1)) (i : ∀ ds k, c2 ds k → c1 ds k) :
    FnOk P w K mg base CX0 n f fd ps (spC K j c2) := h1.imp fun vs H Q E ⟨S, ds, k, a, b, c, d, e⟩ => ⟨S, ds, k, a, b, c, i _ _ d, e⟩
/-- a certificate: the text of a view, or something that is none -/
def Crt (n : Int) (z : D) (o : Option Mv) : Prop :=
  (∃ g, z = .str (pgS n g) ∧ o = some g ∧ VOk n g ∧ SzM 1900 g) ∨ (o = none ∧ ((∃ g, VOk n g ∧ SzM 1900 g ∧ (z = .str (pgS n g ++ " ") ∨ z = .str (pgS 11 g))) ∨ ∃ xs, z = .lst xs))
def vwO (C : Addr) (n : Int) : Option Mv → D
  | some g => vwD C n g
  | none => .non
theorem joinP10 (a b c x y : Str) : Txt.join " " ["factor", a, "zoom", b, "turn", c, "at", x, y, ""] = ((((("factor " : Str) ++ a) ++ " zoom " ++ b) ++ " turn " ++ c) ++ " at " ++ ((x ++ " ") ++ y)) ++ " " := by
  rw [← joinP]
  refine Str.ext' ?_
  have e0 : (("" : Str)).cps = #[] := rfl
  unfold Txt.join Builtin.Str.glued
  simp only [List.drop_succ_cons, List.drop_zero, List.foldl_cons, List.foldl_nil, List.headD_cons, Str.cps_append, Array.append_assoc, e0, Array.append_empty]
theorem page_split_sp (n : Int) (m : Mv) : Txt.split (pgS n m ++ " ") " " = [("factor" : Str), (toString n : Str), "zoom", (toString m.k : Str), "turn", (toString m.q : Str), "at", frS m.x, frS m.y, ""] := by
  have ey : TL.tl (" " : Str) = 32 :: [] := by decide +kernel
  have hk : ((" " : Str)).cps.all (· < 256) = true := by decide +kernel
  have w1 : 32 ∉ TL.tl ("factor" : Str) := by decide +kernel
  have w2 : 32 ∉ TL.tl ("zoom" : Str) := by decide +kernel
  have w3 : 32 ∉ TL.tl ("turn" : Str) := by decide +kernel
  have w4 : 32 ∉ TL.tl ("at" : Str) := by decide +kernel
  have w5 : 32 ∉ TL.tl ("" : Str) := by decide +kernel
  have h := TL.split_join ey hk (parts := [("factor" : Str), (toString n : Str), "zoom", (toString m.k : Str), "turn", (toString m.q : Str), "at", frS m.x, frS m.y, ""]) (by simp) fun p hp => by
    simp only [List.mem_cons, List.not_mem_nil, or_false] at hp
    rcases hp with z | z | z | z | z | z | z | z | z | z <;> rw [z]
    · exact w1
    · exact tlI (by decide)
    · exact w2
    · exact tlI (by decide)
    · exact w3
    · exact tlI (by decide)
    · exact w4
    · exact tlF (by decide)
    · exact tlF (by decide)
    · exact w5
  rw [joinP10] at h
  exact h
theorem pgLen2 {n : Int} {m : Mv} (n1 : 2 ≤ n) (n2 : n ≤ 11) (hk : m.k.natAbs ≤ 400) (q1 : 0 ≤ m.q) (q2 : m.q ≤ 3) (sx : SzQ 1900 m.x) (sy : SzQ 1900 m.y) : (pgS n m).length ≤ 20000 := by
  have hn := (numLen (B := 60) (i := n) (by unfold Sz; omega)).2
  have hz := (numLen (B := 60) (i := m.k) (by unfold Sz; omega)).2
  have hq := (numLen (B := 60) (i := m.q) (by unfold Sz; omega)).2
  have lx := frLen sx
  have ly := frLen sy
  have l1 : (("factor " : Str)).length = 7 := rfl
  have l2 : ((" zoom " : Str)).length = 6 := rfl
  have l3 : ((" turn " : Str)).length = 6 := rfl
  have l4 : ((" at " : Str)).length = 4 := rfl
  have l5 : ((" " : Str)).length = 1 := rfl
  unfold pgS
  rw [strLen_append, strLen_append, strLen_append, strLen_append, strLen_append, strLen_append, strLen_append, strLen_append, strLen_append, l1, l2, l3, l4, l5]
  omega
theorem kb5 : kitB "list" "str" = some false := by decide +kernel
theorem kb6 : kitB "bool" "int" = some true := by decide +kernel
theorem kb7 : kitB "bool" "bool" = some true := by decide +kernel
section
variable {P : Program} {w : World} {K : PySem.W.Frag} {mg : Str → Option Value} {base : Heap} {f : Addr} {fd : FuncData} {C : Addr}
def cIsIntB : Con := fun ds k => ∃ b, ds = [.bl b] ∧ k (.bl false)
theorem ok_is_integerB (F : Fun K "is_integer" "is_integer" (top 17) f fd) (B : Bt mg) : FnOk P w K mg base CX0 1 f fd ["value"] (spC K 1 cIsIntB) := by
  refine xdef F sc_is_integer fun ds k hl hc cdv A outer s H E hr => ?_
  have nd := sc_is_integer.nd
  obtain ⟨b, rfl, hk⟩ := hc
  refine xb_cons (xs_ret (xe_and (xe_isi B.isi B.int bo1 (xe_var 0 rfl ⟨_, rfl, _, kb6, _, rfl, ?_⟩))))
  refine iteT (xe_one (xe_not (xe_isi B.isi B.bool bo2 (xe_var 0 rfl ⟨_, rfl, _, kb7, _, rfl, hk⟩))))
/-- texts that are none, other values -/
def cTB : Con := fun ds k => ∃ (n : Int) (z : D), ds = [z] ∧ Crt n z none ∧ k .non
theorem ok_text_viewB (F : Fun K "text_view" "text_view" (top 41) f fd) (B : Bt mg) (Cs : Cst mg) (Hw : Fn P w K mg base 1 "written_integer" ["word"] cWI) (Hwf : Fn P w K mg base 3 "written_fraction" ["word"] cWF) (Hi : Fn P w K mg base 2 "is_factor" ["value"] cIsFactor) : FnOk P w K mg base CX0 6 f fd ["value"] (spC K 1 cTB) := by
  refine xdef F sc_text_view fun ds k hl hc cdv A outer s H E hr => ?_
  have nd := sc_text_view.nd
  obtain ⟨n, z, rfl, hz, hk⟩ := hc
  have sl := sizeLine_eq
  have h0 : (((" " : Str)).length == 0) = false := by decide +kernel
  rcases hz with ⟨g, _, h, _⟩ | ⟨_, ⟨m, h, sm, rfl | rfl⟩ | ⟨xs, rfl⟩⟩
  · cases h
  · have k1 := h.k1
    have k2 := h.k2
    have pl := pgLen h.n1 h.n2 (by omega) h.q1 h.q2 sm.1 sm.2
    have l5 : ((" " : Str)).length = 1 := rfl
    refine xb_cons (xs_set 1 (xe_if (xt_val (xe_isi B.isi B.str bo4 (xe_var 0 rfl ⟨_, rfl, _, kb4, _, rfl, ?_⟩)))) nd)
    refine iteT (XN.data (xn_split (xe_var 0 rfl ⟨_, rfl, xe_str ⟨_, rfl, h0, by rw [strLen_append, l5]; omega, ?_⟩⟩)))
    rw [page_split_sp]
    show VL.XB _ _ (List.set _ _ (.dat (.lst [.str "factor", .str (toString n : Str), .str "zoom", .str (toString m.k : Str), .str "turn", .str (toString m.q : Str), .str "at", .str (frS m.x), .str (frS m.y), .str ""]))) _
    refine xb_cons (xs_if (XW.t (xw_or (xt_ne (xe_lenL B.len (XE.rd (xe_var 1 rfl ⟨_, rfl, xe_int ⟨rfl, ?_⟩⟩)))))))
    exact iteT (iteT (xb_cons (xs_ret (xe_non hk))))
  · have k1 := h.k1
    have k2 := h.k2
    have sx := sm.1
    have sy := sm.2
    have pl := pgLen2 (n := 11) (m := m) (by decide) (by decide) (by omega) h.q1 h.q2 sm.1 sm.2
    refine xb_cons (xs_set 1 (xe_if (xt_val (xe_isi B.isi B.str bo4 (xe_var 0 rfl ⟨_, rfl, _, kb4, _, rfl, ?_⟩)))) nd)
    refine iteT (XN.data (xn_split (xe_var 0 rfl ⟨_, rfl, xe_str ⟨_, rfl, h0, by omega, ?_⟩⟩)))
    rw [page_split]
    show VL.XB _ _ (List.set _ _ (.dat (.lst [.str "factor", .str (toString (11 : Int) : Str), .str "zoom", .str (toString m.k : Str), .str "turn", .str (toString m.q : Str), .str "at", .str (frS m.x), .str (frS m.y)]))) _
    refine xb_cons (xs_if (XW.t (xw_or (xt_ne (xe_lenL B.len (XE.rd (xe_var 1 rfl ⟨_, rfl, xe_int ⟨rfl, ?_⟩⟩)))))))
    refine iteF (xw_or1 (xt_neD hr (XN.data (xn_stp (l := none) (h := some 7) po_none (po_some pe_int) (fun _ _ => ⟨rfl, rfl⟩) (fun _ _ => ⟨7, rfl, rfl, rfl⟩) (by decide) (XE.rd ?_)))))
    mi_while ["vl var"] []
    refine ⟨_, rfl, XN.data (xn_lst ?_)⟩
    mi_while ["vl"] []
    refine ⟨true, eq4, iteF (xb_nil ?_)⟩
    refine xb_cons (xs_asg (tg := .Tuple _ _ _) (XN.data (xn_lcL 6 (W := fun i acc => acc = ([11, m.k, m.q].take i).map D.int) (ds := [.str (toString (11 : Int) : Str), .str (toString m.k : Str), .str (toString m.q : Str)]) (XN.rd (xn_stp (l := some 1) (h := some 6) (po_some pe_int) (po_some pe_int) (fun _ _ => ⟨1, rfl, rfl, rfl⟩) (fun _ _ => ⟨6, rfl, rfl, rfl⟩) (by decide) (XE.rd ?_))) ?_ nd)))
    rotate_left
    · intro s2 H2 C2 cl fp i d acc hd2 hacc
      have hi : i < 3 := get_lt hd2
      have : ∃ z : Int, Sz 1900 z ∧ d = .str (toString z : Str) ∧ [11, m.k, m.q][i]? = some z := by
        have q1 := h.q1
        have q2 := h.q2
        have sm : ∀ z : Int, z.natAbs ≤ 400 → Sz 1900 z := fun z hz => by
          have : Sz 10 z := by unfold Sz; omega
          exact this.mono (by decide)
        match i, hi with
        | 0, _ => exact ⟨11, sm 11 (by decide), (Option.some.inj hd2).symm, rfl⟩
        | 1, _ => exact ⟨m.k, sm m.k (by omega), (Option.some.inj hd2).symm, rfl⟩
        | 2, _ => exact ⟨m.q, sm m.q (by omega), (Option.some.inj hd2).symm, rfl⟩
      obtain ⟨z, sz, rfl, hz2⟩ := this
      mi_while ["vl"] []
      refine ⟨sz, ?_⟩
      subst hacc
      refine ⟨by simp; omega, ?_⟩
      rw [List.take_succ, hz2]
      simp
    mi_while ["vl var"] []
    refine ⟨_, rfl, rfl, rfl, fun acc hacc => ?_⟩
    subst hacc
    show VL.XG _ _ (.lst [.int 11, .int m.k, .int m.q]) _ _
    mi_while ["vl"] []
    refine ⟨sx, ?_⟩
    mi_while ["vl"] []
    refine ⟨sy, ?_⟩
    mi_while ["vl"] []
    refine xb_cons (xs_if (XW.t (xw_or (xt_not (xt_val ?_)))))
    mi_while ["vl"] []
    refine fun t ht => ⟨t, rfl, ?_⟩
    have tf : t = false := by
      cases t with
      | false => rfl
      | true => exact absurd (ht.mp rfl) (by decide)
    rw [tf]
    exact iteT (iteT (xb_cons (xs_ret (xe_non hk))))
  · refine xb_cons (xs_set 1 (xe_if (xt_val (xe_isi B.isi B.str bo4 (xe_var 0 rfl ⟨_, rfl, _, kb5, _, rfl, ?_⟩)))) nd)
    refine iteF (XN.data (xn_lst (xa_nil ⟨Nat.le_of_ble_eq_true rfl, ?_⟩)))
    refine xb_cons (xs_if (XW.t (xw_or (xt_ne (xe_lenL B.len (XE.rd (xe_var 1 rfl ⟨_, rfl, xe_int ⟨rfl, ?_⟩⟩)))))))
    exact iteT (iteT (xb_cons (xs_ret (xe_non hk))))
def cTX (C : Addr) : Con := fun ds k => ∃ (n : Int) (z : D) (o : Option Mv), ds = [z] ∧ Crt n z o ∧ k (vwO C n o)
theorem ok_text_viewX (F : Fun K "text_view" "text_view" (top 41) f fd) (B : Bt mg) (Cs : Cst mg) (Hw : Fn P w K mg base 1 "written_integer" ["word"] cWI) (Hwf : Fn P w K mg base 3 "written_fraction" ["word"] cWF) (Hi : Fn P w K mg base 2 "is_factor" ["value"] cIsFactor) (Hb : Fn P w K mg base 2 "is_between" ["value", "least", "most"] cIsBetween)
    (Hn : Fn P w K mg base 3 "number_of" ["point"] cNum) (Hf : Fn P w K mg base 3 "fits" ["number", "factor"] cFits) (M : Mkr P w K mg base 4 "View" C 4 gV OkV) : FnOk P w K mg base CX0 6 f fd ["value"] (spC K 1 (cTX C)) :=
  fn_con (fn_or (ok_text_view F B Cs Hw Hwf Hi Hb Hn Hf M) (ok_text_viewB F B Cs Hw Hwf Hi)) fun ds k ⟨n, z, o, e, h, hk⟩ => by
    cases o with
    | some g =>
      rcases h with ⟨g', e1, e2, ok, sm⟩ | ⟨e1, _⟩
      · cases e2
        exact .inl ⟨n, g, by rw [e, e1], ok, sm.1, sm.2, hk⟩
      · cases e1
    | none => exact .inr ⟨n, z, e, h, hk⟩
theorem Crt.of {n : Int} {m : Mv} (h : VOk n m) (s : SzM 1900 m) : Crt n (.str (pgS n m)) (some m) := .inl ⟨m, rfl, rfl, h, s⟩
theorem Crt.some {n : Int} {z : D} {g : Mv} (h : Crt n z (some g)) : VOk n g ∧ SzM 1900 g := by
  rcases h with ⟨g', _, e, ok, sm⟩ | ⟨e, _⟩
  · cases e
    exact ⟨ok, sm⟩
  · cases e
/-! the checker, of claims about views -/
def oAl (n : Int) (m m' : Mv) : Option Mv → Bool
  | some g => decide (g.then n m = m'.then n g)
  | none => false
def cSAl (C : Addr) : Con := fun ds k => ∃ (n : Int) (m m' : Mv) (z : D) (o : Option Mv) (B : Nat), ds = [vwD C n m, vwD C n m', z] ∧ VOk n m ∧ VOk n m' ∧ Crt n z o ∧ SzM B m ∧ SzM B m' ∧ B ≤ 500 ∧ k (.bl (oAl n m m' o))
theorem sc_shows_alike : FnScope ["one", "other", "certificate", "ahead", "here"] ["one", "other", "certificate"] (defScope (top 92)) := ⟨rfl, rfl, rfl, by decide +kernel, rfl, by decide +kernel, by decide +kernel⟩
theorem ok_shows_alike (F : Fun K "shows_alike" "shows_alike" (top 92) f fd) (V : Vc K C) (Pr : Pf P w K mg base C) (Htv : Fn P w K mg base 6 "text_view" ["value"] (cTX C)) (Hm : Fn P w K mg base 4 "move_of" ["view"] (cMvOf C)) (Hth : Fn P w K mg base 5 "then_move" ["factor", "one", "other"] cThenMv) : FnOk P w K mg base CX0 7 f fd ["one", "other", "certificate"] (spC K 3 (cSAl C)) := by
  refine xdef F sc_shows_alike fun ds k hl hc cdv A outer s H E hr => ?_
  have nd := sc_shows_alike.nd
  obtain ⟨n, m, m', z, o, B, rfl, h, h', cz, sm, sm', hB, hk⟩ := hc
  obtain ⟨pf, gf, prf, hpf⟩ := Pr.ex
  refine xb_cons (xs_set 3 (xe_call Htv hr (xa_cons (xe_var 2 rfl (xa_nil ⟨rfl, n, z, o, rfl, cz, ?_⟩)))) nd)
  cases o with
  | none =>
    refine xb_cons (xs_if (XW.t (xw_or (xt_isN (xe_var 3 rfl ?_)))))
    exact iteT (iteT (xb_cons (xs_ret (xe_bl hk))))
  | some g =>
    obtain ⟨og, sg⟩ := cz.some
    have gk1 := og.k1
    have gk2 := og.k2
    have mk1 := h'.k1
    have mk2 := h'.k2
    show VL.XB _ _ (List.set _ _ (.dat (vwD C n g))) _
    refine xb_cons (xs_if (XW.t (xw_or (xt_isN (xe_var 3 rfl ?_)))))
    refine iteF (xw_or (xt_ne (xe_prop V.sc prf hpf hr (xe_var 3 rfl ⟨_, rfl, n, g, _, rfl, rfl, ?_⟩))))
    refine xe_prop V.sc prf hpf hr (xe_var 0 rfl ⟨_, rfl, n, m, _, rfl, rfl, rfl, ?_⟩)
    show if (!decide (n = n)) = true then _ else _
    rw [decide_eq_true rfl]
    refine iteF (xw_or1 (xt_ne (xe_prop V.sc prf hpf hr (xe_var 0 rfl ⟨_, rfl, n, m, _, rfl, rfl, ?_⟩))))
    refine xe_prop V.sc prf hpf hr (xe_var 1 rfl ⟨_, rfl, n, m', _, rfl, rfl, rfl, ?_⟩)
    show if (!decide (n = n)) = true then _ else _
    rw [decide_eq_true rfl]
    refine iteF (xb_nil ?_)
    refine xb_cons (xs_set 4 (xe_call Hth hr (xa_cons (xe_prop V.sc prf hpf hr (xe_var 0 rfl ⟨_, rfl, n, m, _, rfl, rfl, ?_⟩)))) nd)
    refine xa_cons (xe_call Hm hr (xa_cons (xe_var 3 rfl (xa_nil ⟨rfl, n, g, 1900, rfl, sg.1, sg.2, by decide, fun a b c T sT => ?_⟩))))
    refine xa_cons (xe_call Hm hr (xa_cons (xe_var 0 rfl (xa_nil ⟨rfl, n, m, B, rfl, sm.1, sm.2, by omega, fun a' b' c' T' sT' => ?_⟩))))
    refine xa_nil ⟨rfl, n, g, m, a, b, c, a', b', c', 3800, B + B, rfl, T, T', sT, sT', h.n1, h.n2, by omega, by omega, fun p q r v sv => ?_⟩
    refine xb_cons (xs_ret (xe_eqD hr (xe_var 4 rfl ?_)))
    refine xe_call Hth hr (xa_cons (xe_prop V.sc prf hpf hr (xe_var 0 rfl ⟨_, rfl, n, m, _, rfl, rfl, ?_⟩)))
    refine xa_cons (xe_call Hm hr (xa_cons (xe_var 1 rfl (xa_nil ⟨rfl, n, m', B, rfl, sm'.1, sm'.2, by omega, fun a2 b2 c2 T2 sT2 => ?_⟩))))
    refine xa_cons (xe_call Hm hr (xa_cons (xe_var 3 rfl (xa_nil ⟨rfl, n, g, 1900, rfl, sg.1, sg.2, by decide, fun a3 b3 c3 T3 sT3 => ?_⟩))))
    exact xa_nil ⟨rfl, n, m', g, a2, b2, c2, a3, b3, c3, B + B, 3800, rfl, T2, T3, sT2, sT3, h.n1, h.n2, by omega, by omega, fun p' q' r' v' sv' => ⟨_, eqmv v v', hk⟩⟩
/-- what is told of a number of times and a root -/
def RtB (r : Mv) (M : Int) : Prop := ∃ T, (∀ p q s, IsTri r.x r.y p q s → Sz3 T p q s) ∧ Oft r M T ∧ ∀ i : Nat, i ≤ turns r M → (i : Int) * r.k.natAbs ≤ 400
def RtC (n : Int) (m : Mv) (o : Option Mv) (y : D) (k : D → Prop) : Prop := (∃ b, y = .bl b ∧ k (.bl false)) ∨ ∃ M : Int, y = .int M ∧ M < 100 ∧ (M < 1 → k (.bl false)) ∧ (o = none → k (.bl false)) ∧ ∀ r, o = some r → 1 ≤ M → RtB r M ∧ k (.bl (decide (VM.pw n r M.toNat = m)))
def cSRt (C : Addr) : Con := fun ds k => ∃ (n : Int) (m : Mv) (y z : D) (o : Option Mv), ds = [vwD C n m, y, z] ∧ VOk n m ∧ SzM 500 m ∧ Crt n z o ∧ RtC n m o y k
theorem sc_shows_root : FnScope ["view", "many", "certificate", "found"] ["view", "many", "certificate"] (defScope (top 93)) := ⟨rfl, rfl, rfl, by decide +kernel, rfl, by decide +kernel, by decide +kernel⟩
theorem ok_shows_root (F : Fun K "shows_root" "shows_root" (top 93) f fd) (V : Vc K C) (Pr : Pf P w K mg base C) (Pz : Pz P w K mg base C) (Htv : Fn P w K mg base 6 "text_view" ["value"] (cTX C)) (Hi : Fn P w K mg base 1 "is_integer" ["value"] cIsInt) (Hi2 : Fn P w K mg base 1 "is_integer" ["value"] cIsIntB) (Hm : Fn P w K mg base 4 "move_of" ["view"] (cMvOf C)) (H0 : Fn P w K mg base 6 "often_move" ["factor", "move", "many"] (cOft fun j => 0 ≤ j)) : FnOk P w K mg base CX0 7 f fd ["view", "many", "certificate"] (spC K 3 (cSRt C)) := by
  refine xdef F sc_shows_root fun ds k hl hc cdv A outer s H E hr => ?_
  have nd := sc_shows_root.nd
  obtain ⟨n, m, y, z, o, rfl, h, sm, cz, hy⟩ := hc
  obtain ⟨pf, gf, prf, hpf⟩ := Pr.ex
  obtain ⟨pz, gz, prz, hpz⟩ := Pz.ex
  refine xb_cons (xs_set 3 (xe_call Htv hr (xa_cons (xe_var 2 rfl (xa_nil ⟨rfl, n, z, o, rfl, cz, ?_⟩)))) nd)
  rcases hy with ⟨b, rfl, hk⟩ | ⟨M, rfl, hM, hk1, hk2, hk⟩
  · refine xb_cons (xs_if (XW.t (xw_or (xt_not (xt_val (xe_call Hi2 hr (xa_cons (xe_var 1 rfl (xa_nil ⟨rfl, b, rfl, _, rfl, ?_⟩)))))))))
    exact iteT (iteT (xb_cons (xs_ret (xe_bl hk))))
  refine xb_cons (xs_if (XW.t (xw_or (xt_not (xt_val (xe_call Hi hr (xa_cons (xe_var 1 rfl (xa_nil ⟨rfl, M, rfl, _, rfl, ?_⟩)))))))))
  refine iteF (xw_or (xt_lt (xe_var 1 rfl ⟨_, rfl, xe_int ⟨_, rfl, ?_⟩⟩)))
  by_cases M1 : M < 1
  · rw [decide_eq_true M1]
    exact iteT (iteT (xb_cons (xs_ret (xe_bl (hk1 M1)))))
  rw [decide_eq_false M1]
  cases o with
  | none =>
    refine iteF (xw_or (xt_isN (xe_var 3 rfl ?_)))
    exact iteT (iteT (xb_cons (xs_ret (xe_bl (hk2 rfl)))))
  | some r =>
    obtain ⟨hr2, sr⟩ := cz.some
    have hM1 : 1 ≤ M := by omega
    obtain ⟨⟨T, tri, oft, hi⟩, hk⟩ := hk r rfl hM1
    have sM : Sz 92 M := by unfold Sz; rw [show (2 : Nat) ^ 92 = 4951760157141521099596496896 from by decide]; omega
    have rk1 := hr2.k1
    have rk2 := hr2.k2
    have rq := hr2.q2
    refine iteF (xw_or (xt_isN (xe_var (d := vwD C n r) 3 rfl ?_)))
    refine iteF (xw_or1 (xt_ne (xe_prop V.sc prf hpf hr (xe_var (d := vwD C n r) 3 rfl ⟨_, rfl, n, r, _, rfl, rfl, ?_⟩))))
    refine xe_prop V.sc prf hpf hr (xe_var 0 rfl ⟨_, rfl, n, m, _, rfl, rfl, rfl, ?_⟩)
    show if (!decide (n = n)) = true then _ else _
    rw [decide_eq_true rfl]
    refine iteF (xb_nil ?_)
    refine xb_cons (xs_if (xt_ne (xe_mul (xe_prop V.sc prz hpz hr (xe_var (d := vwD C n r) 3 rfl ⟨_, rfl, n, r, _, rfl, rfl, ?_⟩)))))
    refine ⟨r.k, rfl, xe_var 1 rfl ⟨M, rfl, mulSz (B := 9) (by unfold Sz; omega) sM, ?_⟩⟩
    refine xe_prop V.sc prz hpz hr (xe_var 0 rfl ⟨_, rfl, n, m, _, rfl, rfl, rfl, ?_⟩)
    show if (!decide (r.k * M = m.k)) = true then _ else _
    by_cases ek : r.k * M = m.k
    · rw [decide_eq_true ek]
      refine iteF (xb_nil ?_)
      refine xb_cons (xs_ret (xe_eqD hr (xe_call H0 hr (xa_cons (xe_prop V.sc prf hpf hr (xe_var (d := vwD C n r) 3 rfl ⟨_, rfl, n, r, _, rfl, rfl, ?_⟩))))))
      refine xa_cons (xe_call Hm hr (xa_cons (xe_var (d := vwD C n r) 3 rfl (xa_nil ⟨rfl, n, r, 1900, rfl, sr.1, sr.2, by decide, fun a b c T1 _ => ?_⟩))))
      refine xa_cons (xe_var 1 rfl (xa_nil ⟨rfl, n, r, a, b, c, M, T, rfl, by omega, h.n1, h.n2, hr2.q1, by omega, by omega, T1, tri _ _ _ T1, oft, hi, fun p q s v _ => ?_⟩))
      refine xe_call Hm hr (xa_cons (xe_var 0 rfl (xa_nil ⟨rfl, n, m, 500, rfl, sm.1, sm.2, by decide, fun a' b' c' T' _ => ?_⟩)))
      have e2 : VM.pz n r M = VM.pw n r M.toNat := by
        unfold VM.pz
        rw [if_pos (by omega)]
      rw [e2] at v
      rw [e2]
      exact ⟨_, eqmv v T', hk⟩
    · rw [decide_eq_false ek]
      refine iteT (xb_cons (xs_ret (xe_bl ?_)))
      have ne : ¬ VM.pw n r M.toNat = m := fun e => ek (by
        rw [← e, pw_k, Int.mul_comm]
        congr 1
        omega)
      rw [decide_eq_false ne] at hk
      exact hk
/-- a claim about views with a certificate -/
def cSV0 (s : Str) (x y z : D) (k : D → Prop) : Prop :=
  (∃ (n : Int) (m m' : Mv) (o : Option Mv) (B : Nat), s = "alike" ∧ x = .str (pgS n m) ∧ y = .str (pgS n m') ∧ VOk n m ∧ VOk n m' ∧ Crt n z o ∧ SzM B m ∧ SzM B m' ∧ B ≤ 500 ∧ k (.bl (oAl n m m' o))) ∨
  (∃ (n : Int) (m : Mv) (o : Option Mv), s = "root" ∧ x = .str (pgS n m) ∧ VOk n m ∧ SzM 500 m ∧ Crt n z o ∧ RtC n m o y k)
def cSV : Con := fun ds k => ∃ (s : Str) (x y z : D), ds = [.tup [.str s, x, y], z] ∧ cSV0 s x y z k
theorem ne_ar : decide (("alike" : Str) = "root") = false := by decide +kernel
theorem sc_shows_of_view : FnScope ["claim", "certificate", "view", "second"] ["claim", "certificate"] (defScope (top 94)) := ⟨rfl, rfl, rfl, by decide +kernel, rfl, by decide +kernel, by decide +kernel⟩
theorem ok_shows_of_view (F : Fun K "shows_of_view" "shows_of_view" (top 94) f fd) (Htv : Fn P w K mg base 6 "text_view" ["value"] (cTX C)) (Ha : Fn P w K mg base 7 "shows_alike" ["one", "other", "certificate"] (cSAl C)) (Hrt : Fn P w K mg base 7 "shows_root" ["view", "many", "certificate"] (cSRt C)) : FnOk P w K mg base CX0 8 f fd ["claim", "certificate"] (spC K 2 cSV) := by
  refine xdef F sc_shows_of_view fun ds k hl hc cdv A outer s H E hr => ?_
  have nd := sc_shows_of_view.nd
  obtain ⟨s, x, y, z, rfl, hc⟩ := hc
  rcases hc with ⟨n, m, m', o, B, rfl, rfl, rfl, h, h', cz, sm, sm', hB, hk⟩ | ⟨n, m, o, rfl, rfl, h, sm, cz, hy⟩
  · refine xb_cons (xs_set 2 (xe_call Htv hr (xa_cons (xe_ixT (xe_var 0 rfl ⟨_, rfl, xe_int ⟨_, rfl, _, rfl, xa_nil ⟨rfl, n, _, some m, rfl, .of h ⟨sm.1.mono (by omega), sm.2.mono (by omega)⟩, ?_⟩⟩⟩)))) nd)
    show VL.XB _ _ (List.set _ _ (.dat (vwD C n m))) _
    refine xb_cons (xs_if (xt_isN (xe_var 2 rfl ?_)))
    refine iteF (xb_nil ?_)
    refine xb_cons (xs_if (xt_eq (xe_ixT (xe_var 0 rfl ⟨_, rfl, xe_int ⟨_, rfl, _, rfl, xe_str ⟨rfl, ?_⟩⟩⟩))))
    show if decide (("alike" : Str) = "root") = true then _ else _
    rw [ne_ar]
    refine iteF (xb_nil ?_)
    refine xb_cons (xs_set 3 (xe_call Htv hr (xa_cons (xe_ixT (xe_var 0 rfl ⟨_, rfl, xe_int ⟨_, rfl, _, rfl, xa_nil ⟨rfl, n, _, some m', rfl, .of h' ⟨sm'.1.mono (by omega), sm'.2.mono (by omega)⟩, ?_⟩⟩⟩)))) nd)
    show VL.XB _ _ (List.set _ _ (.dat (vwD C n m'))) _
    refine xb_cons (xs_ret (xe_and (xe_notN (xe_var 3 rfl ⟨true, rfl, iteT (xe_one ?_)⟩))))
    exact xe_call Ha hr (xa_cons (xe_var 2 rfl (xa_cons (xe_var 3 rfl (xa_cons (xe_var 1 rfl (xa_nil ⟨rfl, n, m, m', z, o, B, rfl, h, h', cz, sm, sm', hB, hk⟩)))))))
  · refine xb_cons (xs_set 2 (xe_call Htv hr (xa_cons (xe_ixT (xe_var 0 rfl ⟨_, rfl, xe_int ⟨_, rfl, _, rfl, xa_nil ⟨rfl, n, _, some m, rfl, .of h ⟨sm.1.mono (by decide), sm.2.mono (by decide)⟩, ?_⟩⟩⟩)))) nd)
    show VL.XB _ _ (List.set _ _ (.dat (vwD C n m))) _
    refine xb_cons (xs_if (xt_isN (xe_var 2 rfl ?_)))
    refine iteF (xb_nil ?_)
    refine xb_cons (xs_if (xt_eq (xe_ixT (xe_var 0 rfl ⟨_, rfl, xe_int ⟨_, rfl, _, rfl, xe_str ⟨rfl, ?_⟩⟩⟩))))
    show if decide (("root" : Str) = "root") = true then _ else _
    rw [decide_eq_true rfl]
    refine iteT ?_
    refine xb_cons (xs_ret (xe_call Hrt hr (xa_cons (xe_var 2 rfl (xa_cons (xe_ixT (xe_var 0 rfl ⟨_, rfl, xe_int ⟨_, rfl, _, rfl, ?_⟩⟩)))))))
    exact xa_cons (xe_var 1 rfl (xa_nil ⟨rfl, n, m, y, z, o, rfl, h, sm, cz, hy⟩))
theorem not_lot (s : Str) (h : s = "alike" ∨ s = "root") : InT (.str s) (.tup [.str "makes", .str "misses", .str "same"]) false := by
  rcases h with rfl | rfl
  · exact ⟨.str "alike", [.str "makes", .str "misses", .str "same"], rfl, rfl, by decide +kernel, by decide +kernel, by decide +kernel⟩
  · exact ⟨.str "root", [.str "makes", .str "misses", .str "same"], rfl, rfl, by decide +kernel, by decide +kernel, by decide +kernel⟩
theorem sc_accepts : FnScope ["claim", "certificate"] ["claim", "certificate"] (defScope (top 96)) := ⟨rfl, rfl, rfl, by decide +kernel, rfl, by decide +kernel, by decide +kernel⟩
theorem ok_accepts (F : Fun K "accepts" "accepts" (top 96) f fd) (B : Bt mg) (Ln : Ln w K mg) (Hv : Fn P w K mg base 8 "shows_of_view" ["claim", "certificate"] cSV) : FnOk P w K mg base CX0 9 f fd ["claim", "certificate"] (spC K 2 cSV) := by
  refine xdef F sc_accepts fun ds k hl hc cdv A outer s H E hr => ?_
  have nd := sc_accepts.nd
  obtain ⟨s, x, y, z, rfl, hc⟩ := hc
  obtain ⟨c, es, n, hg, kd, ha, hrt⟩ := Ln.ex
  have hs : s = "alike" ∨ s = "root" := by
    rcases hc with ⟨_, _, _, _, _, h, _⟩ | ⟨_, _, _, h, _⟩
    · exact .inl h
    · exact .inr h
  have hl : ∃ u, PySem.W.nsIn K c s = some (some u) ∧ RelV (.int 3) u := by
    rcases hs with h | h <;> rw [h] <;> assumption
  obtain ⟨u, hu, ru⟩ := hl
  refine xb_cons (xs_if (XW.t (xw_or (xt_not (xt_val (xe_isi B.isi B.tuple bo3 (xe_var 0 rfl ⟨_, rfl, _, kb3, _, rfl, ?_⟩)))))))
  refine iteF (xw_or (xt_eq (xe_lenT B.len (xe_var 0 rfl ⟨_, rfl, xe_int ⟨rfl, ?_⟩⟩))))
  refine iteF (xw_or1 (xt_not (xt_val (xe_isi B.isi B.str bo4 (xe_ixT (xe_var 0 rfl ⟨_, rfl, xe_int ⟨_, rfl, _, rfl, _, rfl, _, kb4, _, rfl, ?_⟩⟩))))))
  refine iteF (xb_nil ?_)
  refine xb_cons (xs_if (xt_ne (xe_kget kd (xe_glob (v := .ref c) hg rfl (fun _ => .ptr c) ⟨rfl, xe_ixT (xe_var 0 rfl ⟨_, rfl, xe_int ⟨_, rfl, _, rfl, s, rfl, xe_int (.inl ⟨3, u, hu, ru, ?_⟩)⟩⟩)⟩))))
  refine xe_lenT B.len (xe_var 0 rfl ⟨_, rfl, rfl, ?_⟩)
  refine iteF (xb_nil ?_)
  refine xb_cons (xs_if (xt_inT hr (xe_ixT (xe_var 0 rfl ⟨_, rfl, xe_int ⟨_, rfl, _, rfl, xe_tup (xa_cons (xe_str (xa_cons (xe_str (xa_cons (xe_str (xa_nil ⟨Nat.le_of_ble_eq_true rfl, false, not_lot s hs, ?_⟩)))))))⟩⟩))))
  refine iteF (xb_nil ?_)
  exact xb_cons (xs_ret (xe_call Hv hr (xa_cons (xe_var 0 rfl (xa_cons (xe_var 1 rfl (xa_nil ⟨rfl, s, x, y, z, rfl, hc⟩)))))))
end
end G

set_option Elab.async false
set_option linter.all false
namespace VM
/-! ## Roots -/
theorem sz_fac {b : Nat} {p d : Int} (h : Sz b (p * d)) (dn : d ≠ 0) : Sz b p := by
  unfold Sz at *
  rw [Int.natAbs_mul] at h
  exact Nat.lt_of_le_of_lt (Nat.le_mul_of_pos_right _ (Int.natAbs_pos.mpr dn)) h
theorem tri_le {x y : Rat} {p q r A B D : Int} {b : Nat} (t : IsTri x y p q r) (pos : 0 < D) (ea : (A : Rat) = x * D) (eb : (B : Rat) = y * D) (sa : Sz b A) (sb : Sz b B) (sd : Sz b D) : Sz3 b p q r := by
  obtain ⟨d, hd⟩ := tri_dvd t pos ea eb
  have dn : d ≠ 0 := by
    rintro rfl
    omega
  have hA : A = p * d := by
    have : (A : Rat) = ((p * d : Int) : Rat) := by
      rw [ea, hd, Rat.intCast_mul, Rat.intCast_mul, t.ea]
      grind
    exact_mod_cast this
  have hB : B = q * d := by
    have : (B : Rat) = ((q * d : Int) : Rat) := by
      rw [eb, hd, Rat.intCast_mul, Rat.intCast_mul, t.eb]
      grind
    exact_mod_cast this
  rw [hA] at sa
  rw [hB] at sb
  rw [hd] at sd
  exact ⟨sz_fac sa dn, sz_fac sb dn, sz_fac sd dn⟩
theorem rp_tri {n : Int} (n1 : 2 ≤ n) (n2 : n ≤ 10) {x y : Rat} {p q r : Int} {e b B : Nat} (h : Rp n e b x) (g : Rp n e b y) (t : IsTri x y p q r) (l1 : b ≤ B) (l2 : 4 * e + 1 ≤ B) : Sz3 B p q r := by
  obtain ⟨A, ha, sa⟩ := h
  obtain ⟨A', ha', sa'⟩ := g
  rw [sc_nat] at ha ha'
  exact tri_le t (pow_pos' (by omega) e) ha.symm ha'.symm (sa.mono l1) (sa'.mono l1) (((sz_small n1 n2).pow e).mono l2)
theorem tri_prod {x y z w : Rat} {a b c a' b' c' p q r : Int} {B C : Nat} (t : IsTri x y a b c) (u : IsTri z w a' b' c') (v : IsTri (x * z - y * w) (x * w + y * z) p q r) (s : Sz3 B a b c) (s' : Sz3 C a' b' c') : Sz3 (B + C + 1) p q r := by
  have h1 := t.ea
  have h2 := t.eb
  have h3 := u.ea
  have h4 := u.eb
  refine tri_le v (Int.mul_pos t.pos u.pos) (A := a * a' - b * b') (B := a * b' + b * a') ?_ ?_ ((s.1.mul s'.1).sub (s.2.1.mul s'.2.1)) ((s.1.mul s'.2.1).add (s.2.1.mul s'.1)) ((s.2.2.mul s'.2.2).mono (by omega))
  · push_cast
    rw [h1, h2, h3, h4]
    grind
  · push_cast
    rw [h1, h2, h3, h4]
    grind
/-- the sum of the powers of a scale -/
def sX (n k q : Int) (j : Nat) : Rat := (pw n ⟨k, q, 1, 0⟩ j).x
def sY (n k q : Int) (j : Nat) : Rat := (pw n ⟨k, q, 1, 0⟩ j).y
theorem pw_lin (n k q : Int) (x y : Rat) : ∀ j : Nat, (pw n ⟨k, q, x, y⟩ j).x = sX n k q j * x - sY n k q j * y ∧ (pw n ⟨k, q, x, y⟩ j).y = sX n k q j * y + sY n k q j * x
  | 0 => by
    have e : pw n ⟨k, q, x, y⟩ 0 = .plain := rfl
    have e1 : sX n k q 0 = 0 := rfl
    have e2 : sY n k q 0 = 0 := rfl
    rw [e, e1, e2]
    show (0 : Rat) = _ ∧ (0 : Rat) = _
    constructor <;> grind
  | j + 1 => by
    obtain ⟨h1, h2⟩ := pw_lin n k q x y j
    have e1 : (pw n ⟨k, q, x, y⟩ (j + 1)).x = (pw n ⟨k, q, x, y⟩ j).x + sc n (pw n ⟨k, q, x, y⟩ j).k * rx (pw n ⟨k, q, x, y⟩ j).q x y := rfl
    have e2 : (pw n ⟨k, q, x, y⟩ (j + 1)).y = (pw n ⟨k, q, x, y⟩ j).y + sc n (pw n ⟨k, q, x, y⟩ j).k * ry (pw n ⟨k, q, x, y⟩ j).q x y := rfl
    have e3 : sX n k q (j + 1) = sX n k q j + sc n (pw n ⟨k, q, 1, 0⟩ j).k * rx (pw n ⟨k, q, 1, 0⟩ j).q 1 0 := rfl
    have e4 : sY n k q (j + 1) = sY n k q j + sc n (pw n ⟨k, q, 1, 0⟩ j).k * ry (pw n ⟨k, q, 1, 0⟩ j).q 1 0 := rfl
    rw [e1, e2, e3, e4, pw_k, pw_k, pw_q, pw_q, h1, h2]
    show _ + sc n (j * k) * rx ((j * q) % 4) x y = _ ∧ _ + sc n (j * k) * ry ((j * q) % 4) x y = _
    rw [(cm n (j * k) ((j * q) % 4) x y).1, (cm n (j * k) ((j * q) % 4) x y).2]
    show _ = (sX n k q j + sc n (j * k) * rx ((j * q) % 4) 1 0) * x - (sY n k q j + sc n (j * k) * ry ((j * q) % 4) 1 0) * y ∧ _ = (sX n k q j + sc n (j * k) * rx ((j * q) % 4) 1 0) * y + (sY n k q j + sc n (j * k) * ry ((j * q) % 4) 1 0) * x
    generalize sc n (j * k) * rx ((j * q) % 4) 1 0 = u
    generalize sc n (j * k) * ry ((j * q) % 4) 1 0 = v
    constructor <;> grind
theorem r_norm (q : Int) (x y : Rat) : rx q x y * rx q x y + ry q x y * ry q x y = x * x + y * y := by
  rcases four q with h | h | h | h <;> (unfold rx ry; rw [h]; simp <;> grind)
theorem s_flat (n : Int) (j : Nat) : sX n 0 0 j = j ∧ sY n 0 0 j = 0 := by
  unfold sX sY
  rw [pw_flat]
  constructor <;> simp
theorem r_fix {q : Int} (h1 : 0 ≤ q) (h2 : q < 4) {x y : Rat} (hx : rx q x y = x) (hy : ry q x y = y) (nz : x * x + y * y ≠ 0) : q = 0 := by
  have : q = 0 ∨ q = 1 ∨ q = 2 ∨ q = 3 := by omega
  rcases this with h | h | h | h
  · exact h
  all_goals
    subst h
    unfold rx at hx
    unfold ry at hy
    simp at hx hy
    grind
theorem s_zero {n k q : Int} (hn : 2 ≤ n) (q1 : 0 ≤ q) (q2 : q < 4) {j : Nat} (hj : 1 ≤ j) : (sX n k q j = 0 ∧ sY n k q j = 0) ↔ (k = 0 ∧ q ≠ 0 ∧ (j * q) % 4 = 0) := by
  by_cases hm : Ml ⟨k, q, 1, 0⟩
  · have st0 := st_at (ls_nz (m := ⟨k, q, 1, 0⟩) hn q1 q2 hm)
    generalize ((⟨k, q, 1, 0⟩ : Mv).x * lsx n ⟨k, q, 1, 0⟩ + (⟨k, q, 1, 0⟩ : Mv).y * lsy n ⟨k, q, 1, 0⟩) / (lsx n ⟨k, q, 1, 0⟩ * lsx n ⟨k, q, 1, 0⟩ + lsy n ⟨k, q, 1, 0⟩ * lsy n ⟨k, q, 1, 0⟩) = px at st0
    generalize ((⟨k, q, 1, 0⟩ : Mv).y * lsx n ⟨k, q, 1, 0⟩ - (⟨k, q, 1, 0⟩ : Mv).x * lsy n ⟨k, q, 1, 0⟩) / (lsx n ⟨k, q, 1, 0⟩ * lsx n ⟨k, q, 1, 0⟩ + lsy n ⟨k, q, 1, 0⟩ * lsy n ⟨k, q, 1, 0⟩) = py at st0
    have nz : px * px + py * py ≠ 0 := fun z => by
      obtain ⟨z1, z2⟩ := rsq0 z
      subst z1 z2
      have h1 : (1 : Rat) + sc n k * rx q 0 0 = 0 := st0.1
      have h2 : rx q 0 0 = 0 := by
        unfold rx
        simp
      rw [h2] at h1
      grind
    have st := st0.pw (n := n) (by omega) j
    have k1 : (pw n ⟨k, q, 1, 0⟩ j).k = j * k := pw_k n _ j
    have q3 : (pw n ⟨k, q, 1, 0⟩ j).q = (j * q) % 4 := pw_q n _ j
    have f1 : sX n k q j + sc n (j * k) * rx ((j * q) % 4) px py = px := by
      have := st.1
      rw [k1, q3] at this
      exact this
    have f2 : sY n k q j + sc n (j * k) * ry ((j * q) % 4) px py = py := by
      have := st.2
      rw [k1, q3] at this
      exact this
    constructor
    · rintro ⟨z1, z2⟩
      rw [z1] at f1
      rw [z2] at f2
      have nm := r_norm ((j * q) % 4) px py
      have sp := sc_pos (n := n) (by omega) (j * k)
      have s1 : sc n (j * k) = 1 := by
        generalize sc n (j * k) = s at *
        generalize rx ((j * q) % 4) px py = u at *
        generalize ry ((j * q) % 4) px py = v at *
        have e : (s * s - 1) * (px * px + py * py) = 0 := by grind
        rcases Rat.mul_eq_zero.mp e with e | e
        · have e2 : (s - 1) * (s + 1) = 0 := by grind
          rcases Rat.mul_eq_zero.mp e2 with e2 | e2
          · grind
          · grind
        · exact absurd e nz
      have jk := sc_one (n := n) (k := j * k) hn s1
      have hk : k = 0 := by
        rcases Int.mul_eq_zero.mp jk with h | h
        · omega
        · exact h
      rw [s1] at f1 f2
      refine ⟨hk, fun hq => ?_, r_fix (by omega) (by omega) (by grind) (by grind) nz⟩
      rcases hm with h | h
      · exact h hk
      · exact h hq
    · rintro ⟨hk, hq, hjq⟩
      have z : (j : Int) * k = 0 := by rw [hk]; simp
      rw [z, hjq, sc_zero, (r_zero px py).1] at f1
      rw [z, hjq, sc_zero, (r_zero px py).2] at f2
      constructor <;> grind
  · have hk : k = 0 := by
      by_cases h : k = 0
      · exact h
      · exact absurd (Or.inl h) hm
    have hq : q = 0 := by
      by_cases h : q = 0
      · exact h
      · exact absurd (Or.inr h) hm
    subst hk hq
    rw [(s_flat n j).1, (s_flat n j).2]
    constructor
    · rintro ⟨h, _⟩
      have : (j : Int) = 0 := by exact_mod_cast h
      omega
    · rintro ⟨_, h, _⟩
      exact absurd rfl h
/-- what a root with a told turn would be -/
def rtM (n : Int) (m : Mv) (M t : Int) : Mv :=
  ⟨m.k / M, t, (m.x * sX n (m.k / M) t M.toNat + m.y * sY n (m.k / M) t M.toNat) / (sX n (m.k / M) t M.toNat * sX n (m.k / M) t M.toNat + sY n (m.k / M) t M.toNat * sY n (m.k / M) t M.toNat),
    (m.y * sX n (m.k / M) t M.toNat - m.x * sY n (m.k / M) t M.toNat) / (sX n (m.k / M) t M.toNat * sX n (m.k / M) t M.toNat + sY n (m.k / M) t M.toNat * sY n (m.k / M) t M.toNat)⟩
/-- the sum of the scale's powers is 0 -/
def Sz0 (n : Int) (m : Mv) (M t : Int) : Prop := sX n (m.k / M) t M.toNat = 0 ∧ sY n (m.k / M) t M.toNat = 0
structure Rt (n : Int) (m : Mv) (M t : Int) : Prop where
  k : m.k % M = 0
  q : (t * M - m.q) % 4 = 0
  z : Sz0 n m M t → m.x = 0 ∧ m.y = 0
  fit : Fit n (rtM n m M t).x (rtM n m M t).y
theorem Rt.pw {n : Int} {m : Mv} {M t : Int} (h : Rt n m M t) (hM : 1 ≤ M) (q1 : 0 ≤ m.q) (q2 : m.q < 4) : VM.pw n (rtM n m M t) M.toNat = m := by
  have hq := h.q
  have hk := h.k
  have eM : ((M.toNat : Nat) : Int) = M := by omega
  have l := pw_lin n (rtM n m M t).k (rtM n m M t).q (rtM n m M t).x (rtM n m M t).y M.toNat
  refine mv_ext ?_ ?_ ?_ ?_
  · rw [pw_k, eM]
    show M * (m.k / M) = m.k
    have := Int.emod_add_mul_ediv m.k M
    omega
  · rw [pw_q, eM]
    show M * t % 4 = m.q
    rw [Int.mul_comm]
    omega
  · refine l.1.trans ?_
    show sX n (m.k / M) t M.toNat * (rtM n m M t).x - sY n (m.k / M) t M.toNat * (rtM n m M t).y = m.x
    have z := h.z
    unfold rtM Sz0 at *
    generalize sX n (m.k / M) t M.toNat = u at *
    generalize sY n (m.k / M) t M.toNat = v at *
    by_cases c : u * u + v * v = 0
    · obtain ⟨z1, z2⟩ := rsq0 c
      obtain ⟨z3, z4⟩ := z ⟨z1, z2⟩
      rw [z1, z2, z3]
      grind
    · grind
  · refine l.2.trans ?_
    show sX n (m.k / M) t M.toNat * (rtM n m M t).y + sY n (m.k / M) t M.toNat * (rtM n m M t).x = m.y
    have z := h.z
    unfold rtM Sz0 at *
    generalize sX n (m.k / M) t M.toNat = u at *
    generalize sY n (m.k / M) t M.toNat = v at *
    by_cases c : u * u + v * v = 0
    · obtain ⟨z1, z2⟩ := rsq0 c
      obtain ⟨z3, z4⟩ := z ⟨z1, z2⟩
      rw [z1, z2, z4]
      grind
    · grind
end VM

set_option Elab.async false
set_option linter.all false
set_option maxRecDepth 100000
set_option maxHeartbeats 4000000
set_option pp.maxSteps 300
namespace G
open PySem L2 VL VM
local macro_rules | `(tactic| mi_while ["vl var"] []) => `(tactic| first | refine xe_var 0 rfl ?_ | refine xe_var 1 rfl ?_ | refine xe_var 2 rfl ?_ | refine xe_var 3 rfl ?_ | refine xe_var 4 rfl ?_ | refine xe_var 5 rfl ?_ | refine xe_var 6 rfl ?_ | refine xe_var 7 rfl ?_ | refine xe_var 8 rfl ?_ | refine xe_var 9 rfl ?_ | refine xe_var 10 rfl ?_ | refine xe_var 11 rfl ?_ | refine xe_var 12 rfl ?_ | refine xe_var 13 rfl ?_ | refine xe_var 14 rfl ?_ | refine xe_var 15 rfl ?_ | refine xe_var 16 rfl ?_)
local macro_rules | `(tactic| mi_while ["vl exp"] []) => `(tactic| first
  | refine ⟨_, rfl, ?_⟩ | refine ⟨rfl, ?_⟩ | refine ⟨Nat.le_of_ble_eq_true rfl, ?_⟩
  | mi_while ["vl var"] []
  | refine xe_int ?_ | refine xe_str ?_ | refine xe_bl ?_ | refine xe_non ?_
  | refine xe_ixL (XN.rd (xn_lst ?_)) | (refine xe_ixT ?_; mi_while ["vl var"] []; refine ⟨_, rfl, ?_⟩) | (refine xe_ixL (XE.rd ?_); mi_while ["vl var"] []; refine ⟨_, rfl, ?_⟩) | refine xe_ixT ?_ | refine xe_add ?_ | refine xe_mul ?_ | refine xe_sub ?_ | refine xe_div ?_ | refine xe_mod ?_ | refine xe_neg ?_
  | refine ⟨mulSz (by assumption) (by assumption), ?_⟩ | refine ⟨divSz (by assumption) (by assumption), ?_⟩
  | refine xt_gt ?_ | refine xt_lt ?_ | refine xt_le ?_ | refine xt_ge ?_ | refine xe_gt ?_ | refine xe_lt ?_ | refine xe_le ?_ | refine xe_ge ?_
  | refine xe_if ?_ | refine xe_tup ?_ | refine xa_cons ?_ | refine xa_nil ?_
  | refine XN.data (xn_lst ?_) | refine xn_lst ?_
  | (refine' xe_call ?hF ?hR ?hA ?hN; (case hF => assumption); (case hR => assumption); (case hN => decide)))
local macro_rules | `(tactic| mi_while ["vl set"] []) => `(tactic| first | refine xb_cons (xs_set 0 ?_ (by assumption)) | refine xb_cons (xs_set 1 ?_ (by assumption)) | refine xb_cons (xs_set 2 ?_ (by assumption)) | refine xb_cons (xs_set 3 ?_ (by assumption)) | refine xb_cons (xs_set 4 ?_ (by assumption)) | refine xb_cons (xs_set 5 ?_ (by assumption)) | refine xb_cons (xs_set 6 ?_ (by assumption)) | refine xb_cons (xs_set 7 ?_ (by assumption)) | refine xb_cons (xs_set 8 ?_ (by assumption)) | refine xb_cons (xs_set 9 ?_ (by assumption)) | refine xb_cons (xs_set 10 ?_ (by assumption)) | refine xb_cons (xs_set 11 ?_ (by assumption)) | refine xb_cons (xs_set 12 ?_ (by assumption)))
local macro_rules | `(tactic| mi_while ["vl tg"] []) => `(tactic| first | refine xgs_nil ?_ | refine xgs_cons ?_ | refine xg_tup ?_ rfl | refine xg_lst ?_ rfl | refine xg_name 0 ?_ (by assumption) | refine xg_name 1 ?_ (by assumption) | refine xg_name 2 ?_ (by assumption) | refine xg_name 3 ?_ (by assumption) | refine xg_name 4 ?_ (by assumption) | refine xg_name 5 ?_ (by assumption) | refine xg_name 6 ?_ (by assumption) | refine xg_name 7 ?_ (by assumption) | refine xg_name 8 ?_ (by assumption) | refine xg_name 9 ?_ (by assumption) | refine xg_name 10 ?_ (by assumption) | refine xg_name 11 ?_ (by assumption) | refine xg_name 12 ?_ (by assumption))
local macro_rules | `(tactic| mi_while ["vl st"] []) => `(tactic| first
  | refine xb_cons (xs_ret ?_)
  | mi_while ["vl set"] []
  | mi_while ["vl tg"] []
  | refine xb_cons (xs_asg (tg := .Tuple _ _ _) ?_)
  | refine xb_nil ?_)
local macro_rules | `(tactic| mi_while ["vl"] []) => `(tactic| repeat (first | mi_while ["vl exp"] [] | mi_while ["vl st"] []))
/-! "factor 11" for the factor -/
theorem repl_free {y' z : List Nat} {c : Nat} : ∀ {r : List Nat}, c ∉ r → StrLaws.replL (c :: y') z r = r
  | [], _ => StrLaws.replL_nil
  | d :: r, h => by
    have hd : d ≠ c := fun e => h (by rw [e]; exact List.mem_cons_self)
    rw [StrLaws.replL_miss (fun e => by
      rw [List.length_cons, List.take_succ_cons] at e
      exact hd (List.cons.inj e).1)]
    rw [repl_free (fun e => h (List.mem_cons_of_mem _ e))]
theorem repl_head {y' z r : List Nat} {c : Nat} (h : c ∉ r) : StrLaws.replL (c :: y') z ((c :: y') ++ r) = z ++ r := by
  show StrLaws.replL (c :: y') z (c :: (y' ++ r)) = z ++ r
  rw [StrLaws.replL_hit (by simp) (by
    show ((c :: y') ++ r).take (c :: y').length = c :: y'
    exact List.take_left)]
  have e : (c :: (y' ++ r)).drop (c :: y').length = r := by
    show ((c :: y') ++ r).drop (c :: y').length = r
    exact List.drop_left
  rw [e, repl_free h]
theorem pg_rest (n : Int) (m : Mv) : ∃ r : List Nat, 102 ∉ r ∧ ∀ i : Int, TL.tl (pgS i m) = TL.tl (("factor " : Str) ++ (toString i : Str)) ++ r := by
  have w1 : 102 ∉ TL.tl (" zoom " : Str) := by decide +kernel
  have w2 : 102 ∉ TL.tl (" turn " : Str) := by decide +kernel
  have w3 : 102 ∉ TL.tl (" at " : Str) := by decide +kernel
  have w4 : 102 ∉ TL.tl (" " : Str) := by decide +kernel
  have t1 : 102 ∉ TL.tl (toString m.k : Str) := tlI (by decide)
  have t2 : 102 ∉ TL.tl (toString m.q : Str) := tlI (by decide)
  have t3 : 102 ∉ TL.tl (frS m.x) := tlF (by decide)
  have t4 : 102 ∉ TL.tl (frS m.y) := tlF (by decide)
  refine ⟨TL.tl (" zoom " : Str) ++ (TL.tl (toString m.k : Str) ++ (TL.tl (" turn " : Str) ++ (TL.tl (toString m.q : Str) ++ (TL.tl (" at " : Str) ++ (TL.tl (frS m.x) ++ (TL.tl (" " : Str) ++ TL.tl (frS m.y))))))), ?_, fun i => ?_⟩
  · simp only [List.mem_append, not_or]
    exact ⟨w1, t1, w2, t2, w3, t3, w4, t4⟩
  · unfold pgS
    simp only [TL.tl_append, List.append_assoc]
theorem pg_repl (n : Int) (m : Mv) : Txt.replace (pgS n m) (("factor " : Str) ++ (toString n : Str)) "factor 11" = pgS 11 m := by
  obtain ⟨r, hr, he⟩ := pg_rest n m
  have ef : ("factor " : Str) ++ (toString (11 : Int) : Str) = "factor 11" := by decide +kernel
  have fy : TL.tl ("factor " : Str) = 102 :: TL.tl ("actor " : Str) := by decide +kernel
  have ey : TL.tl (("factor " : Str) ++ (toString n : Str)) = 102 :: (TL.tl ("actor " : Str) ++ TL.tl (toString n : Str)) := by
    rw [TL.tl_append, fy]
    rfl
  have h := StrLaws.replace_list (x := pgS n m) (y := ("factor " : Str) ++ (toString n : Str)) (z := "factor 11") (by
    rw [strLen_append]
    have : (("factor " : Str)).length = 7 := rfl
    omega)
  have h1 : TL.tl (Txt.replace (pgS n m) (("factor " : Str) ++ (toString n : Str)) "factor 11") = StrLaws.replL (TL.tl (("factor " : Str) ++ (toString n : Str))) (TL.tl ("factor 11" : Str)) (TL.tl (pgS n m)) := h
  rw [he n, ey, repl_head hr] at h1
  have h2 := he 11
  rw [ef] at h2
  have h3 : TL.tl (Txt.replace (pgS n m) (("factor " : Str) ++ (toString n : Str)) "factor 11") = TL.tl (pgS 11 m) := h1.trans h2.symm
  exact Str.ext' (Array.toList_inj.mp h3)
/-- a move near a drawn one -/
structure Gn (n : Int) (m : Mv) (a b c : Int) : Prop where
  rm : Rm n 4 2 17 m
  t : IsTri m.x m.y a b c
  s : Sz3 30 a b c
theorem Gn.ok {n : Int} {m : Mv} {a b c : Int} (n1 : 2 ≤ n) (n2 : n ≤ 10) (h : Gn n m a b c) : VOk n m := by
  have k := h.rm.k
  have q := h.rm.q2
  have sq := h.t.szq h.s
  exact ⟨n1, n2, by omega, by omega, h.rm.q1, by omega, h.rm.x.fit h.rm.y, sq.1.mono (by decide), sq.2.mono (by decide)⟩
theorem Gn.szm {n : Int} {m : Mv} {a b c : Int} (h : Gn n m a b c) (B : Nat) (l : 30 ≤ B) : SzM B m := by
  have sq := h.t.szq h.s
  exact ⟨sq.1.mono l, sq.2.mono l⟩
theorem rp1 {n : Int} (n1 : 2 ≤ n) (n2 : n ≤ 10) : Rp n 2 16 1 := by
  refine ⟨n ^ 2, ?_, ((sz_small n1 n2).pow 2).mono (by decide)⟩
  rw [sc_nat]
  grind
theorem tri1 : IsTri 1 0 1 0 1 := ⟨by decide, by simp, by simp, by decide⟩
theorem py_b2 (t : Bool) : pyD (.lst [.bl t, .bl t]) = some (.list [.bool t, .bool t]) := by simp [pyD, pyL]
theorem repr_b2 (t : Bool) : ReprOk (.list [.bool t, .bool t]) := by
  constructor <;> simp [PyData.showable, PyData.showableAll, PyData.hasDict, PyData.hasDictAll, PyData.depth, PyData.depthAll, lenB, lenBs]
theorem RtC.imp {n : Int} {m : Mv} {o : Option Mv} {y : D} {k k' : D → Prop} (h : RtC n m o y k) (i : ∀ d, k d → k' d) : RtC n m o y k' := by
  rcases h with ⟨b, e, hk⟩ | ⟨M, e, l, h1, h2, h3⟩
  · exact .inl ⟨b, e, i _ hk⟩
  · exact .inr ⟨M, e, l, fun a => i _ (h1 a), fun a => i _ (h2 a), fun r a b => ⟨(h3 r a b).1, i _ (h3 r a b).2⟩⟩
theorem cSV_imp {ds : List D} {k k' : D → Prop} (h : cSV ds k) (i : ∀ d, k d → k' d) : cSV ds k' := by
  obtain ⟨s, x, y, z, e, h⟩ := h
  refine ⟨s, x, y, z, e, ?_⟩
  rcases h with ⟨n, m, m', o, B, h1, h2, h3, h4, h5, h6, h7, h8, h9, hk⟩ | ⟨n, m, o, h1, h2, h3, h4, h5, hk⟩
  · exact .inl ⟨n, m, m', o, B, h1, h2, h3, h4, h5, h6, h7, h8, h9, i _ hk⟩
  · exact .inr ⟨n, m, o, h1, h2, h3, h4, h5, hk.imp i⟩
/-- what a text tells the law -/
def TdR (n : Int) (z td : D) (o : Option Mv) : Prop := Crt n z o ∧ match o with
  | none => td = .non
  | some g => ∃ a b c, td = mvT g a b c ∧ Gn n g a b c
section
variable {P : Program} {w : World} {K : PySem.W.Frag} {mg : Str → Option Value} {base : Heap} {f : Addr} {fd : FuncData} {C : Addr}
def cNear : Con := fun ds k => ∃ (n : Int) (m : Mv) (a b c : Int), ds = [.tok, .int n, mvT m a b c] ∧ 2 ≤ n ∧ n ≤ 10 ∧ Rm n 3 2 16 m ∧ IsTri m.x m.y a b c ∧ Sz3 12 a b c ∧ ∀ z td o, TdR n z td o → k (.tup [z, td])
theorem sc__law_text_near : FnScope ["well", "n", "one_here", "way", "text"] ["well", "n", "one_here"] (defScope (top 116)) := ⟨rfl, rfl, rfl, by decide +kernel, rfl, by decide +kernel, by decide +kernel⟩
theorem ok_text_near (F : Fun K "_law_text_near" "_law_text_near" (top 116) f fd) (Bl : Bt mg) (hlst : mg "list" = none) (Hd : Fn P w K mg base 1 "_law_draw" ["well", "many"] cDraw) (Hp : Fn P w K mg base 2 "_law_pick" ["well", "choices"] cPick) (Hpl : Fn P w K mg base 3 "_law_plus" ["one_here", "two"] cAdd) (Htx : Fn P w K mg base 3 "_law_text" ["n", "one_here"] cText) : FnOk P w K mg base CX0 5 f fd ["well", "n", "one_here"] (spC K 3 cNear) := by
  refine xdef F sc__law_text_near fun ds k hl hc cdv A outer s H E hr => ?_
  have nd := sc__law_text_near.nd
  obtain ⟨n, m, a, b, c, rfl, n1, n2, rm, T, sT, hk⟩ := hc
  have mk := rm.k
  have mk1 := rm.q1
  have mk2 := rm.q2
  have sl := sizeLine_eq
  refine xb_cons (xs_set 3 (xe_call Hd hr (xa_cons (xe_var 0 rfl (xa_cons (xe_int (xa_nil ⟨rfl, _, rfl, by decide, by decide, fun u u1 u2 => ?_⟩)))))) nd)
  refine xb_cons (XS.imp (j := { nx := fun ρ' => ∃ g a' b' c', ρ' = [.dat .tok, .dat (.int n), .dat (mvT g a' b' c'), .dat (.int u), .un] ∧ Gn n g a' b' c' ∧ g.k.natAbs ≤ 3, rt := fun _ => False }) (xs_if (xt_eq (xe_var 3 rfl (xe_int ⟨rfl, ?_⟩)))) ?_ (fun _ z => z.elim) (fun _ z => z.elim) (fun _ z => z.elim))
  · show if decide (u = 0) = true then _ else _
    by_cases h : u = 0
    · rw [decide_eq_true h]
      refine iteT (xb_cons (xs_set 2 (xe_tup (xa_cons (xe_ixT (xe_var 2 rfl ⟨_, rfl, xe_int ⟨_, rfl, _, rfl, ?_⟩⟩)))) nd))
      refine xa_cons (xe_ixT (xe_var 2 rfl ⟨_, rfl, xe_int ⟨_, rfl, _, rfl, ?_⟩⟩))
      refine xa_cons (xe_call Hpl hr (xa_cons (xe_ixT (xe_var 2 rfl ⟨_, rfl, xe_int ⟨_, rfl, _, rfl, ?_⟩⟩))))
      refine xa_cons (xe_tup (xa_cons (xe_int (xa_cons (xe_int (xa_cons (xe_int (xa_nil ⟨Nat.le_of_ble_eq_true rfl, ?_⟩))))))))
      refine xa_nil ⟨rfl, m.x, m.y, 1, 0, a, b, c, 1, 0, 1, 12, 12, rfl, T, tri1, sT, ⟨by unfold Sz; decide, by unfold Sz; decide, by unfold Sz; decide⟩, by decide, fun p q r v sv => ?_⟩
      refine xa_nil ⟨Nat.le_of_ble_eq_true rfl, xb_nil ⟨⟨m.k, m.q, m.x + 1, m.y + 0⟩, p, q, r, rfl, ⟨⟨by show m.k.natAbs ≤ 4; omega, mk1, mk2, rm.x.add (rp1 n1 n2), ?_⟩, v, ⟨sv.1.mono (by decide), sv.2.1.mono (by decide), sv.2.2.mono (by decide)⟩⟩, mk⟩⟩
      show Rp n 2 17 (m.y + 0)
      rw [Rat.add_zero]
      exact rm.y.mono (by decide)
    · rw [decide_eq_false h]
      exact iteF (xb_nil ⟨m, a, b, c, rfl, ⟨⟨by omega, mk1, mk2, rm.x.mono (by decide), rm.y.mono (by decide)⟩, T, ⟨sT.1.mono (by decide), sT.2.1.mono (by decide), sT.2.2.mono (by decide)⟩⟩, mk⟩)
  rintro ρ' ⟨g, ga, gb, gc, rfl, G, gk⟩
  refine xb_cons (XS.imp (j := { nx := fun ρ' => ∃ g a' b' c', ρ' = [.dat .tok, .dat (.int n), .dat (mvT g a' b' c'), .dat (.int u), .un] ∧ Gn n g a' b' c', rt := fun _ => False }) (xs_if (xt_eq (xe_var 3 rfl (xe_int ⟨rfl, ?_⟩)))) ?_ (fun _ z => z.elim) (fun _ z => z.elim) (fun _ z => z.elim))
  · show if decide (u = 1) = true then _ else _
    by_cases h : u = 1
    · rw [decide_eq_true h]
      refine iteT (xb_cons (xs_set 2 (xe_tup (xa_cons (xe_add (xe_ixT (xe_var 2 rfl ⟨_, rfl, xe_int ⟨_, rfl, _, rfl, ?_⟩⟩))))) nd))
      refine ⟨g.k, rfl, xe_call Hp hr (xa_cons (xe_var 0 rfl (xa_cons (XN.data (xn_lst (xa_cons (xe_int (xa_cons (xe_neg (xe_int ⟨_, rfl, xa_nil ⟨Nat.le_of_ble_eq_true rfl, ?_⟩⟩))))))))))⟩
      refine xa_nil ⟨rfl, _, rfl, by show 0 < 2; decide, by show 2 < 1000; decide, fun j d hd => ?_⟩
      have hz : ∃ z : Int, d = .int z ∧ z.natAbs ≤ 1 := by
        have hj : j < 2 := get_lt hd
        match j, hj with
        | 0, _ => exact ⟨1, (Option.some.inj hd).symm, by decide⟩
        | 1, _ => exact ⟨-1, (Option.some.inj hd).symm, by decide⟩
      obtain ⟨z, rfl, hz⟩ := hz
      refine ⟨z, rfl, ?_⟩
      refine xa_cons (xe_ixT (xe_var 2 rfl ⟨_, rfl, xe_int ⟨_, rfl, _, rfl, ?_⟩⟩))
      refine xa_cons (xe_ixT (xe_var 2 rfl ⟨_, rfl, xe_int ⟨_, rfl, _, rfl, xa_nil ⟨Nat.le_of_ble_eq_true rfl, ?_⟩⟩⟩))
      exact xb_nil ⟨⟨g.k + z, g.q, g.x, g.y⟩, ga, gb, gc, rfl, ⟨⟨by show (g.k + z).natAbs ≤ 4; omega, G.rm.q1, G.rm.q2, G.rm.x, G.rm.y⟩, G.t, G.s⟩⟩
    · rw [decide_eq_false h]
      exact iteF (xb_nil ⟨g, ga, gb, gc, rfl, G⟩)
  clear gk G g ga gb gc
  rintro ρ' ⟨g, ga, gb, gc, rfl, G⟩
  have ok := G.ok n1 n2
  have sz := G.szm 1900 (by decide)
  have gk := G.rm.k
  have gq1 := G.rm.q1
  have gq2 := G.rm.q2
  have pl := pgLen2 (n := n) (m := g) n1 (by omega) (by omega) gq1 (by omega) sz.1 sz.2
  refine xb_cons (xs_set 4 (xe_call Htx hr (xa_cons (xe_var 1 rfl (xa_cons (xe_var 2 rfl (xa_nil ⟨rfl, n, g, ga, gb, gc, 30, rfl, n1, n2, by omega, gq1, by omega, G.t, G.s, by decide, ?_⟩)))))) nd)
  refine xb_cons (xs_if (xt_eq (xe_var 3 rfl (xe_int ⟨rfl, ?_⟩))))
  show if decide (u = 2) = true then _ else _
  by_cases h2 : u = 2
  · rw [decide_eq_true h2]
    have l5 : ((" " : Str)).length = 1 := rfl
    refine iteT (xb_cons (xs_ret (xe_tup (xa_cons (xe_addS (xe_var 4 rfl ⟨_, rfl, xe_str ⟨_, rfl, by rw [l5]; omega, ?_⟩⟩))))))
    exact xa_cons (xe_non (xa_nil ⟨Nat.le_of_ble_eq_true rfl, hk _ _ none ⟨.inr ⟨rfl, .inl ⟨g, ok, sz, .inl rfl⟩⟩, rfl⟩⟩))
  rw [decide_eq_false h2]
  refine iteF (xb_nil ?_)
  refine xb_cons (xs_if (xt_eq (xe_var 3 rfl (xe_int ⟨rfl, ?_⟩))))
  show if decide (u = 3) = true then _ else _
  by_cases h3 : u = 3
  · rw [decide_eq_true h3]
    have ln := numLen (B := 60) (i := n) (by unfold Sz; omega)
    have l7 : (("factor " : Str)).length = 7 := rfl
    have l9 : (("factor 11" : Str)).length = 9 := by decide +kernel
    have hne : (toString n : Str).length ≠ 0 ∧ (("factor " : Str) ++ (toString n : Str) == "factor 11") = false := by
      have : n = 2 ∨ n = 3 ∨ n = 4 ∨ n = 5 ∨ n = 6 ∨ n = 7 ∨ n = 8 ∨ n = 9 ∨ n = 10 := by omega
      rcases this with h | h | h | h | h | h | h | h | h <;> subst h <;> decide +kernel
    refine iteT (xb_cons (xs_ret (xe_tup (xa_cons (xe_replA (xe_var 4 rfl ⟨_, rfl, xe_strI Bl.str (xe_var 1 rfl ⟨_, rfl, ln.1, _, rfl, by decide +kernel, by simpa using hne.1, hne.2, by rw [strLen_append, l7]; omega, by rw [l9]; omega, ?_⟩)⟩))))))
    refine xa_cons (xe_non (xa_nil ⟨Nat.le_of_ble_eq_true rfl, ?_⟩))
    rw [pg_repl]
    exact hk _ _ none ⟨.inr ⟨rfl, .inl ⟨g, ok, sz, .inr rfl⟩⟩, rfl⟩
  rw [decide_eq_false h3]
  refine iteF (xb_nil ?_)
  refine xb_cons (xs_ret (xe_if (xt_eq (xe_var 3 rfl (xe_int ⟨rfl, ?_⟩)))))
  show if decide (u = 4) = true then _ else _
  by_cases h4 : u = 4
  · rw [decide_eq_true h4]
    refine iteT (xe_tup (xa_cons (XN.data (xn_listS rfl hlst (xe_var 4 rfl ⟨_, rfl, by show (pgS n g).length ≤ sizeLine; omega, ?_⟩)))))
    exact xa_cons (xe_non (xa_nil ⟨Nat.le_of_ble_eq_true rfl, hk _ _ none ⟨.inr ⟨rfl, .inr ⟨_, rfl⟩⟩, rfl⟩⟩))
  rw [decide_eq_false h4]
  refine iteF (xe_tup (xa_cons (xe_var 4 rfl (xa_cons (xe_var 2 rfl (xa_nil ⟨Nat.le_of_ble_eq_true rfl, ?_⟩))))))
  exact hk _ _ (some g) ⟨.of ok sz, ga, gb, gc, rfl, G⟩
def cBoth : Con := fun ds k => ∃ (x z : D) (t : Bool), ds = [x, z, .bl t] ∧ cSV [x, z] (fun d => d = .bl t) ∧ k (.bl true)
theorem sc__law_both : FnScope ["asked", "thing", "due"] ["asked", "thing", "due"] (defScope (top 117)) := ⟨rfl, rfl, rfl, by decide +kernel, rfl, by decide +kernel, by decide +kernel⟩
theorem ok_both (F : Fun K "_law_both" "_law_both" (top 117) f fd) (hrp : mg "repr" = none) (Hac : Fn P w K mg base 9 "accepts" ["claim", "certificate"] cSV) (Hack : FnK P w K mg base 9 "accepts" ["claim", "certificate"] ["certificate", "claim"] [1, 0] cSV) : FnG P w K mg base 10 f fd ["asked", "thing", "due"] (spC K 3 cBoth) := by
  refine xdefG F sc__law_both fun ds k hl hc cdv A outer s H E gd hr => ?_
  have nd := sc__law_both.nd
  obtain ⟨x, z, t, rfl, hc, hk⟩ := hc
  have same : ∀ s : Str, sameD (.str s) (.str s) = true := fun s => decide_eq_true rfl
  refine xb_cons (xs_ret (xe_eq (xe_repr hrp gd hr (XN.data (xn_lst (xa_cons (xe_call Hac hr (xa_cons (xe_var 0 rfl (xa_cons (xe_var 1 rfl (xa_nil ⟨rfl, cSV_imp hc fun d hd => ?_⟩))))))))))))
  subst hd
  refine xa_cons (xe_kw Hack hr (xk_cons (xe_var 1 rfl (xk_cons (xe_var 0 rfl (xk_nil ⟨rfl, rfl, cSV_imp hc fun d hd => ?_⟩))))))
  subst hd
  refine xa_nil ⟨Nat.le_of_ble_eq_true rfl, _, py_b2 t, rfl, repr_b2 t, ?_⟩
  refine xe_repr hrp gd hr (XN.data (xn_lst (xa_cons (xe_var 2 rfl (xa_cons (xe_var 2 rfl (xa_nil ⟨Nat.le_of_ble_eq_true rfl, _, py_b2 t, rfl, repr_b2 t, rfl, ?_⟩)))))))
  rw [same]
  exact hk
/-- what roots are asked of -/
structure Wh (n : Int) (m : Mv) (a b c : Int) : Prop where
  rm : Rm n 15 17 143 m
  t : IsTri m.x m.y a b c
theorem Wh.s {n : Int} {m : Mv} {a b c : Int} (n1 : 2 ≤ n) (n2 : n ≤ 10) (h : Wh n m a b c) : Sz3 143 a b c := rp_tri n1 n2 h.rm.x h.rm.y h.t (by decide) (by decide)
theorem Wh.szm {n : Int} {m : Mv} {a b c : Int} (n1 : 2 ≤ n) (n2 : n ≤ 10) (h : Wh n m a b c) : SzM 143 m := ⟨h.rm.x.szq n1 n2 (by decide) (by decide), h.rm.y.szq n1 n2 (by decide) (by decide)⟩
theorem Wh.ok {n : Int} {m : Mv} {a b c : Int} (n1 : 2 ≤ n) (n2 : n ≤ 10) (h : Wh n m a b c) : VOk n m := by
  have k := h.rm.k
  have q := h.rm.q2
  exact ⟨n1, n2, by omega, by omega, h.rm.q1, by omega, h.rm.x.fit h.rm.y, (h.szm n1 n2).1.mono (by decide), (h.szm n1 n2).2.mono (by decide)⟩
theorem turns9 {m : Mv} {M : Int} (h : M ≤ 9) : turns m M ≤ 9 := by
  unfold turns
  split <;> omega
theorem rtb {n : Int} (n1 : 2 ≤ n) (n2 : n ≤ 10) {g : Mv} {M : Int} (r : Rm n 4 2 17 g) (M1 : 1 ≤ M) (M9 : M ≤ 9) : RtB g M := by
  have tb := turns9 (m := g) M9
  have gk := r.k
  refine ⟨30, fun p q s v => rp_tri n1 n2 r.x r.y v (by decide) (by decide), ?_, fun i hi => ?_⟩
  · by_cases hf : g.k = 0 ∧ g.q = 0
    · exact .inl ⟨hf.1, hf.2, by unfold Sz; rw [show (2 : Nat) ^ 200 = 1606938044258990275541962092341162602522202993782792835301376 from by decide]; omega, by decide⟩
    · refine .inr ⟨hf, by omega, fun i hi => ?_⟩
      have h1 : i * i ≤ 9 * 9 := Nat.mul_le_mul (by omega) (by omega)
      have h2 : 2 * g.k.natAbs * (i * i) ≤ 8 * 81 := Nat.mul_le_mul (by omega) h1
      omega
  · have : i * g.k.natAbs ≤ 9 * 4 := Nat.mul_le_mul (by omega) gk
    exact_mod_cast (by omega : i * g.k.natAbs ≤ 400)
def cRight : Con := fun ds k => ds = [.tok] ∧ k (.bl true)
theorem sc__law_right : FnScope ["well", "turn", "n", "one_here", "ahead", "many", "two", "whole", "again", "text", "told", "due", "number"] ["well"] (defScope (top 118)) := ⟨rfl, rfl, rfl, by decide +kernel, rfl, by decide +kernel, by decide +kernel⟩
theorem ok_right (F : Fun K "_law_right" "_law_right" (top 118) f fd) (Bl : Bt mg) 
    (Hp : Fn P w K mg base 2 "_law_pick" ["well", "choices"] cPick) (Hd : Fn P w K mg base 1 "_law_draw" ["well", "many"] cDraw) (Hmv : Fn P w K mg base 4 "_law_move" ["well", "n", "zooms", "wide"] cWMove) (Ha : Fn P w K mg base 4 "_law_behind" ["n", "one_here", "two"] cThenMv) (Hb : Fn P w K mg base 5 "_law_back" ["n", "one_here"] cBackW) (Ht : Fn P w K mg base 6 "_law_times" ["n", "one_here", "many"] cWT3)
    (Htx : Fn P w K mg base 3 "_law_text" ["n", "one_here"] cText) (Hne : Fn P w K mg base 5 "_law_text_near" ["well", "n", "one_here"] cNear) (Hbo : Fg P w K mg base 10 "_law_both" ["asked", "thing", "due"] cBoth) :
    FnG P w K mg base 11 f fd ["well"] (spC K 1 cRight) := by
  refine xdefG F sc__law_right fun ds k hl hc cdv A outer s H E gd hr => ?_
  have nd := sc__law_right.nd
  obtain ⟨rfl, hk⟩ := hc
  refine xb_cons (xs_forR 1 (xe_int ⟨6, rfl, by decide, fun m ρ => ∃ a b c d e g h i j l o u, ρ = [.dat .tok, a, b, c, d, e, g, h, i, j, l, o, u], ⟨_, _, _, _, _, _, _, _, _, _, _, _, rfl⟩, ?_, ?_⟩) Bl.range nd)
  · rintro i0 ρ hi ⟨a1, a2, a3, a4, a5, a6, a7, a8, a9, a10, a11, a12, rfl⟩
    refine xb_cons (xs_set 2 (xe_call Hp hr (xa_cons (xe_var 0 rfl (xa_cons (XN.data (xn_lst ?_)))))) nd)
    mi_while ["vl"] []
    refine fun j c hc => ?_
    have hn : ∃ n : Int, c = .int n ∧ 2 ≤ n ∧ n ≤ 10 := by
      have hj : j < 5 := get_lt hc
      match j, hj with
      | 0, _ => exact ⟨2, (Option.some.inj hc).symm, by decide, by decide⟩
      | 1, _ => exact ⟨3, (Option.some.inj hc).symm, by decide, by decide⟩
      | 2, _ => exact ⟨4, (Option.some.inj hc).symm, by decide, by decide⟩
      | 3, _ => exact ⟨6, (Option.some.inj hc).symm, by decide, by decide⟩
      | 4, _ => exact ⟨10, (Option.some.inj hc).symm, by decide, by decide⟩
    obtain ⟨n, rfl, n1, n2⟩ := hn
    have nz : n ≠ 0 := by omega
    refine xb_cons (xs_par3 3 4 5 rfl nd (xe_call Hmv hr (xa_cons (xe_var 0 rfl (xa_cons (xe_var 2 rfl (xa_cons (xe_int (xa_cons (xe_int (xa_nil ⟨rfl, n, rfl, n1, n2, fun m a b c rm T sT => ?_⟩)))))))))) rfl)
    refine xe_call Hmv hr (xa_cons (xe_var 0 rfl (xa_cons (xe_var 2 rfl (xa_cons (xe_int (xa_cons (xe_int (xa_nil ⟨rfl, n, rfl, n1, n2, fun g ga gb gc rg tg sg => ?_⟩)))))))))
    refine xe_add (xe_int ⟨_, rfl, xe_call Hd hr (xa_cons (xe_var 0 rfl (xa_cons (xe_int (xa_nil ⟨rfl, _, rfl, by decide, by decide, fun u u1 u2 => ⟨u, rfl, ?_⟩⟩)))))⟩)
    have hM : 1 ≤ 1 + u := by omega
    have hM5 : 1 + u ≤ 5 := by omega
    generalize 1 + u = M at hM hM5
    have sM : Sz 92 M := by unfold Sz; rw [show (2 : Nat) ^ 92 = 4951760157141521099596496896 from by decide]; omega
    have gk := rg.k
    have mk := rm.k
    refine xb_cons (xs_set 6 (xe_call Ha hr (xa_cons (xe_var 2 rfl (xa_cons (xe_call Ha hr (xa_cons (xe_var 2 rfl (xa_cons (xe_var 4 rfl (xa_cons (xe_var 3 rfl (xa_nil ⟨rfl, n, g, m, ga, gb, gc, a, b, c, 12, 12, rfl, tg, T, sg, sT, n1, n2, by omega, by omega, fun p q r u su => ?_⟩)))))))))))) nd)
    refine xa_cons (xe_call Hb hr (xa_cons (xe_var 2 rfl (xa_cons (xe_var 4 rfl (xa_nil ⟨rfl, n, g, ga, gb, gc, 12, rfl, tg, sg, n1, n2, by omega, by omega, fun p' q' r' u' su' => ?_⟩))))))
    have kj : (g.then n m).k.natAbs ≤ 6 := by show (g.k + m.k).natAbs ≤ 6; omega
    refine xa_nil ⟨rfl, n, g.then n m, g.back n, p, q, r, p', q', r', 60, 60, rfl, u, u', ⟨su.1.mono (by omega), su.2.1.mono (by omega), su.2.2.mono (by omega)⟩, ⟨su'.1.mono (by omega), su'.2.1.mono (by omega), su'.2.2.mono (by omega)⟩, n1, n2, by omega, by omega, fun e1 e2 e3 v sv => ?_⟩
    have v3 : Sz3 200 e1 e2 e3 := ⟨sv.1.mono (by omega), sv.2.1.mono (by omega), sv.2.2.mono (by omega)⟩
    clear sv
    have hkk : ((g.then n m).then n (g.back n)).k = m.k := by show g.k + m.k + -g.k = m.k; omega
    have hqq := then_turn n (g.then n m) (g.back n)
    have fit : Fit n ((g.then n m).then n (g.back n)).x ((g.then n m).then n (g.back n)).y := by
      have gg : Good n 3 16 g := ⟨gk, rg.q1, by have := rg.q2; omega, rg.x.fit rg.y, rg.x.szq n1 n2 (by decide) (by decide), rg.y.szq n1 n2 (by decide) (by decide)⟩
      have gm : Good n 3 16 m := ⟨mk, rm.q1, by have := rm.q2; omega, rm.x.fit rm.y, rm.x.szq n1 n2 (by decide) (by decide), rm.y.szq n1 n2 (by decide) (by decide)⟩
      exact ((gg.then n1 n2 gm).then n1 n2 (gg.back n1 n2)).fit
    have h2' : VOk n ((g.then n m).then n (g.back n)) := by
      have sq := v.szq v3
      exact ⟨n1, n2, by omega, by omega, hqq.1, by have := hqq.2; omega, fit, sq.1.mono (by decide), sq.2.mono (by decide)⟩
    have h2s : SzM 200 ((g.then n m).then n (g.back n)) := v.szq v3
    have hqq1 := hqq.1
    have hqq2 := hqq.2
    clear hqq kj su su' u u' u1 u2 fit
    generalize (g.then n m).then n (g.back n) = m2 at v h2' h2s hkk hqq1 hqq2
    refine xb_cons (xs_set 7 (xe_call Ht hr (xa_cons (xe_var 2 rfl (xa_cons (xe_var 3 rfl (xa_cons (xe_var 5 rfl (xa_nil ⟨rfl, n, m, a, b, c, M, 12, rfl, n1, n2, rm.q1, rm.q2, by omega, T, sT, by decide, by omega, sM.mono (by decide), fun _ => ?_, fun w1 w2 w3 wt => ?_⟩)))))))) nd)
    · have tb : turns m M ≤ 9 := turns9 (by omega)
      refine ⟨by omega, ?_, fun i hi p q r v => ?_⟩
      · have : turns m M * m.k.natAbs ≤ 9 * 3 := Nat.mul_le_mul tb mk
        omega
      · have z := rm.pw n1 n2 (J := 9) (j := i) (by omega)
        have s3 := rp_tri n1 n2 z.x z.y v (B := 1000) (by decide) (by decide)
        exact ⟨s3.1.mono (by decide), s3.2.1.mono (by decide), s3.2.2.mono (by decide)⟩
    have zp := rm.pw n1 n2 (J := 5) (j := M.toNat) (by omega)
    have wh : Wh n (VM.pw n m M.toNat) w1 w2 w3 := ⟨⟨zp.k, zp.q1, zp.q2, zp.x.mono (by decide), zp.y.mono (by decide)⟩, wt⟩
    clear zp wt
    generalize VM.pw n m M.toNat = W at wh
    have okW := wh.ok n1 n2
    have sW := wh.szm n1 n2
    have s3W := wh.s n1 n2
    have kW := wh.rm.k
    have qW1 := wh.rm.q1
    have qW2 := wh.rm.q2
    have okM : VOk n m := ⟨n1, n2, by omega, by omega, rm.q1, by have := rm.q2; omega, rm.x.fit rm.y, rm.x.szq n1 n2 (by decide) (by decide), rm.y.szq n1 n2 (by decide) (by decide)⟩
    have sMm : SzM 200 m := ⟨rm.x.szq n1 n2 (by decide) (by decide), rm.y.szq n1 n2 (by decide) (by decide)⟩
    have q1m := rm.q1
    have q2m := rm.q2
    refine xb_cons (xs_forR 8 (xe_int ⟨8, rfl, by decide, fun _ ρ => ∃ i j l o u, ρ = [.dat .tok, .dat (.int i0), .dat (.int n), .dat (mvT m a b c), .dat (mvT g ga gb gc), .dat (.int M), .dat (mvT m2 e1 e2 e3), .dat (mvT W w1 w2 w3), i, j, l, o, u], ⟨_, _, _, _, _, rfl⟩, ?_, ?_⟩) Bl.range nd)
    · rintro i' ρ hi' ⟨b1, b2, b3, b4, b5, rfl⟩
      refine xb_cons (xs_asg (tg := .Tuple _ _ _) (xe_call Hne hr (xa_cons (xe_var 0 rfl (xa_cons (xe_var 2 rfl (xa_cons (xe_var 4 rfl (xa_nil ⟨rfl, n, g, ga, gb, gc, rfl, n1, n2, rg, tg, sg, fun z td o hz => ?_⟩)))))))))
      refine xg_tup (xgs_cons (xg_name 9 (xgs_cons (xg_name 10 (xgs_nil ?_) nd)) nd)) rfl
      obtain ⟨cz, ho⟩ := hz
      refine xb_cons (xs_set 11 (xe_notN (xe_var 10 rfl ?_)) nd)
      refine xb_cons (XS.imp (j := { nx := fun ρ' => ρ' = [.dat .tok, .dat (.int i0), .dat (.int n), .dat (mvT m a b c), .dat (mvT g ga gb gc), .dat (.int M), .dat (mvT m2 e1 e2 e3), .dat (mvT W w1 w2 w3), .dat (.int i'), .dat z, .dat td, .dat (.bl (oAl n m m2 o)), b5], rt := fun _ => False }) (xs_if (xt_val (xe_var 11 rfl ⟨_, rfl, ?_⟩))) ?_ (fun _ z => z.elim) (fun _ z => z.elim) (fun _ z => z.elim))
      · cases o with
        | none =>
          obtain rfl : td = .non := ho
          exact iteF (xb_nil rfl)
        | some h =>
          obtain ⟨x1, x2, x3, rfl, Gh⟩ := ho
          have hk4 := Gh.rm.k
          refine iteT (xb_cons (xs_set 11 (xe_eqD hr (xe_call Ha hr (xa_cons (xe_var 2 rfl (xa_cons (xe_var 10 rfl (xa_cons (xe_var 3 rfl (xa_nil ⟨rfl, n, h, m, x1, x2, x3, a, b, c, 30, 12, rfl, Gh.t, T, Gh.s, sT, n1, n2, by omega, by omega, fun p1 q1 r1 v1 s1 => ?_⟩))))))))) nd))
          refine xe_call Ha hr (xa_cons (xe_var 2 rfl (xa_cons (xe_var 6 rfl (xa_cons (xe_var 10 rfl (xa_nil ⟨rfl, n, m2, h, e1, e2, e3, x1, x2, x3, 200, 30, rfl, v, Gh.t, v3, Gh.s, n1, n2, by omega, by omega, fun p2 q2 r2 v2' s2 => ⟨_, eqmv v1 v2', xb_nil rfl⟩⟩)))))))
      rintro ρ' rfl
      refine xb_cons (xs_if (xt_not (xt_val (xe_callG Hbo gd hr (xa_cons (xe_tup (xa_cons (xe_str (xa_cons (xe_call Htx hr (xa_cons (xe_var 2 rfl (xa_cons (xe_var 3 rfl (xa_nil ⟨rfl, n, m, a, b, c, 12, rfl, n1, n2, by omega, q1m, by omega, T, sT, by decide, ?_⟩)))))))))))))))
      refine xa_cons (xe_call Htx hr (xa_cons (xe_var 2 rfl (xa_cons (xe_var 6 rfl (xa_nil ⟨rfl, n, m2, e1, e2, e3, 200, rfl, n1, n2, by omega, hqq1, by omega, v, v3, by decide, ?_⟩))))))
      refine xa_nil ⟨Nat.le_of_ble_eq_true rfl, xa_cons (xe_var 9 rfl (xa_cons (xe_var 11 rfl (xa_nil ⟨rfl, _, _, _, rfl, ⟨_, _, _, _, rfl, .inl ⟨n, m, m2, o, 200, rfl, rfl, rfl, okM, h2', cz, sMm, h2s, by decide, rfl⟩⟩, _, rfl, ?_⟩))))⟩
      refine iteF (xb_nil ?_)
      refine xb_cons (xs_asg (tg := .Tuple _ _ _) (xe_call Hne hr (xa_cons (xe_var 0 rfl (xa_cons (xe_var 2 rfl (xa_cons (xe_var 3 rfl (xa_nil ⟨rfl, n, m, a, b, c, rfl, n1, n2, rm, T, sT, fun z td o hz => ?_⟩)))))))))
      refine xg_tup (xgs_cons (xg_name 9 (xgs_cons (xg_name 10 (xgs_nil ?_) nd)) nd)) rfl
      obtain ⟨cz, ho⟩ := hz
      refine xb_cons (xs_set 12 (xe_call Hp hr (xa_cons (xe_var 0 rfl (xa_cons (XN.data (xn_lst (xa_cons (xe_var 5 rfl (xa_cons (xe_var 5 rfl (xa_cons (xe_var 5 rfl ?_)))))))))))) nd)
      refine xa_cons (xe_add (xe_var 5 rfl ⟨_, rfl, xe_int ⟨_, rfl, ?_⟩⟩))
      refine xa_cons (xe_add (xe_var 5 rfl ⟨_, rfl, xe_int ⟨_, rfl, ?_⟩⟩))
      refine xa_cons (xe_int (xa_cons (xe_neg (xe_int ⟨_, rfl, xa_cons (xe_bl (xa_nil ⟨Nat.le_of_ble_eq_true rfl, ?_⟩))⟩))))
      refine xa_nil ⟨rfl, _, rfl, by show 0 < 8; decide, by show 8 < 1000; decide, fun j y hy => ?_⟩
      have hy' : (∃ N : Int, y = .int N ∧ N ≤ 9) ∨ y = .bl true := by
        have hj : j < 8 := get_lt hy
        match j, hj with
        | 0, _ => exact .inl ⟨M, (Option.some.inj hy).symm, by omega⟩
        | 1, _ => exact .inl ⟨M, (Option.some.inj hy).symm, by omega⟩
        | 2, _ => exact .inl ⟨M, (Option.some.inj hy).symm, by omega⟩
        | 3, _ => exact .inl ⟨M + 1, (Option.some.inj hy).symm, by omega⟩
        | 4, _ => exact .inl ⟨M + 4, (Option.some.inj hy).symm, by omega⟩
        | 5, _ => exact .inl ⟨0, (Option.some.inj hy).symm, by omega⟩
        | 6, _ => exact .inl ⟨-1, (Option.some.inj hy).symm, by omega⟩
        | 7, _ => exact .inr (Option.some.inj hy).symm
      clear hy
      refine xb_cons (XS.imp (j := { nx := fun ρ' => ∃ t0, ρ' = [.dat .tok, .dat (.int i0), .dat (.int n), .dat (mvT m a b c), .dat (mvT g ga gb gc), .dat (.int M), .dat (mvT m2 e1 e2 e3), .dat (mvT W w1 w2 w3), .dat (.int i'), .dat z, .dat td, .dat (.bl t0), .dat y] ∧ ((t0 = true ∧ ∃ h N, o = some h ∧ y = .int N ∧ 1 ≤ N ∧ N ≤ 9) ∨ (t0 = false ∧ RtC n W o y fun d => d = .bl false)), rt := fun _ => False }) (xs_set 11 (xe_and (xe_notN (xe_var 10 rfl ⟨_, rfl, ?_⟩))) nd) ?_ (fun _ z => z.elim) (fun _ z => z.elim) (fun _ z => z.elim))
      · cases o with
        | none =>
          obtain rfl : td = .non := ho
          refine iteF ⟨_, rfl, .inr ⟨rfl, ?_⟩⟩
          rcases hy' with ⟨N, rfl, hN⟩ | rfl
          · exact .inr ⟨N, rfl, by omega, fun _ => rfl, fun _ => rfl, fun r e => nomatch e⟩
          · exact .inl ⟨true, rfl, rfl⟩
        | some h =>
          obtain ⟨x1, x2, x3, rfl, Gh⟩ := ho
          refine iteT ?_
          rcases hy' with ⟨N, rfl, hN⟩ | rfl
          · refine xe_and (xe_not (xe_isi Bl.isi Bl.bool bo2 (xe_var 12 rfl ⟨_, rfl, _, kb2, _, rfl, _, rfl, ?_⟩)))
            refine iteT (xe_one (xe_gt (xe_var 12 rfl ⟨_, rfl, xe_int ⟨_, rfl, ?_⟩⟩)))
            by_cases hN1 : 0 < N
            · exact ⟨_, rfl, .inl ⟨decide_eq_true hN1, h, N, rfl, rfl, by omega, hN⟩⟩
            · exact ⟨_, rfl, .inr ⟨decide_eq_false hN1, .inr ⟨N, rfl, by omega, fun _ => rfl, fun _ => rfl, fun r e hh => absurd hh (by omega)⟩⟩⟩
          · refine xe_and (xe_not (xe_isi Bl.isi Bl.bool bo2 (xe_var 12 rfl ⟨_, rfl, _, kb7, _, rfl, _, rfl, ?_⟩)))
            exact iteF ⟨_, rfl, .inr ⟨rfl, .inl ⟨true, rfl, rfl⟩⟩⟩
      rintro ρ' ⟨t0, rfl, ht0⟩
      refine xb_cons (XS.imp (j := { nx := fun ρ' => ∃ t, ρ' = [.dat .tok, .dat (.int i0), .dat (.int n), .dat (mvT m a b c), .dat (mvT g ga gb gc), .dat (.int M), .dat (mvT m2 e1 e2 e3), .dat (mvT W w1 w2 w3), .dat (.int i'), .dat z, .dat td, .dat (.bl t), .dat y] ∧ RtC n W o y (fun d => d = .bl t), rt := fun _ => False }) (xs_if (xt_val (xe_var 11 rfl ⟨_, rfl, ?_⟩))) ?_ (fun _ z => z.elim) (fun _ z => z.elim) (fun _ z => z.elim))
      · rcases ht0 with ⟨rfl, h, N, rfl, rfl, N1, N9⟩ | ⟨rfl, hr0⟩
        · obtain ⟨x1, x2, x3, rfl, Gh⟩ := ho
          have hk4 := Gh.rm.k
          have tb := turns9 (m := h) N9
          refine iteT (xb_cons (xs_set 11 (xe_eqD hr (xe_call Ht hr (xa_cons (xe_var 2 rfl (xa_cons (xe_var 10 rfl (xa_cons (xe_var 12 rfl (xa_nil ⟨rfl, n, h, x1, x2, x3, N, 30, rfl, n1, n2, Gh.rm.q1, Gh.rm.q2, by omega, Gh.t, Gh.s, by decide, by omega, ?_, fun _ => ?_, fun p1 q1 r1 v1 => ?_⟩))))))))) nd))
          · unfold Sz
            rw [show (2 : Nat) ^ 100 = 1267650600228229401496703205376 from by decide]
            omega
          · refine ⟨by omega, ?_, fun i hi p q r v => ?_⟩
            · have : turns h N * h.k.natAbs ≤ 9 * 4 := Nat.mul_le_mul tb hk4
              omega
            · have z := Gh.rm.pw n1 n2 (J := 9) (j := i) (by omega)
              have s3 := rp_tri n1 n2 z.x z.y v (B := 1000) (by decide) (by decide)
              exact ⟨s3.1.mono (by decide), s3.2.1.mono (by decide), s3.2.2.mono (by decide)⟩
          · refine xe_var 7 rfl ⟨_, eqmv v1 wh.t, xb_nil ⟨_, rfl, .inr ⟨N, rfl, by omega, fun hh => absurd hh (by omega), (fun hh => nomatch hh), fun r e _ => ?_⟩⟩⟩
            cases e
            exact ⟨rtb n1 n2 Gh.rm N1 N9, rfl⟩
        · exact iteF (xb_nil ⟨false, rfl, hr0⟩)
      clear ht0 t0
      rintro ρ' ⟨t, rfl, ht⟩
      refine xb_cons (xs_if (xt_not (xt_val (xe_callG Hbo gd hr (xa_cons (xe_tup (xa_cons (xe_str (xa_cons (xe_call Htx hr (xa_cons (xe_var 2 rfl (xa_cons (xe_var 7 rfl (xa_nil ⟨rfl, n, W, w1, w2, w3, 143, rfl, n1, n2, by omega, qW1, by omega, wh.t, s3W, by decide, ?_⟩)))))))))))))))
      refine xa_cons (xe_var 12 rfl ?_)
      refine xa_nil ⟨Nat.le_of_ble_eq_true rfl, xa_cons (xe_var 9 rfl (xa_cons (xe_var 11 rfl (xa_nil ⟨rfl, _, _, _, rfl, ⟨_, _, _, _, rfl, .inr ⟨n, W, o, rfl, rfl, okW, ⟨sW.1.mono (by decide), sW.2.mono (by decide)⟩, cz, ht⟩⟩, _, rfl, ?_⟩))))⟩
      exact iteF (xb_nil (xb_nil ⟨_, _, _, _, _, rfl⟩))
    · rintro ρ ⟨b1, b2, b3, b4, b5, rfl⟩
      exact xb_nil ⟨_, _, _, _, _, _, _, _, _, _, _, _, rfl⟩
  · rintro ρ ⟨a1, a2, a3, a4, a5, a6, a7, a8, a9, a10, a11, a12, rfl⟩
    mi_while ["vl"] []
    exact hk
def cLaw : Con := fun ds k => ∃ ns : List Int, ds = [.lst (ns.map .int)] ∧ ns.length ≤ 1000 ∧ k (.bl true)
theorem sc_law : FnScope ["script", "spot"] ["script"] (defScope (top 119)) := ⟨rfl, rfl, rfl, by decide +kernel, rfl, by decide +kernel, by decide +kernel⟩
theorem ok_law (F : Fun K "law" "law" (top 119) f fd) (B : Bt mg) (Hq : Fg P w K mg base 11 "_law_right" ["well"] cRight) (Hk : Fn P w K mg base 1 "_law_well" ["script", "spot"] cCask) : FnG P w K mg base 12 f fd ["script"] (spC K 1 cLaw) := by
  refine xdefG F sc_law fun ds k hl hc cdv A outer s H E gd hr => ?_
  have nd := sc_law.nd
  obtain ⟨ns, rfl, hns, hk⟩ := hc
  refine xb_cons (xs_ret (xe_all rfl B.all (XN.rd (xn_lcR 1 (n := if (if (5 : Int) < (ns.length : Int) then 5 else (ns.length : Int)) > 2 then (if (5 : Int) < (ns.length : Int) then 5 else (ns.length : Int)) else 2) (W := fun m acc => acc = List.replicate m (D.bl true)) ?_ ?_ B.range nd))))
  · refine xe_max rfl B.max (xe_int ⟨_, rfl, xe_min rfl B.min (xe_lenL B.len (XE.rd ?_))⟩)
    mi_while ["vl var"] []
    refine ⟨_, rfl, _, rfl, xe_int ⟨_, rfl, _, rfl, ?_⟩⟩
    rw [List.length_map]
    refine ⟨rfl, ?_, rfl, fun acc hacc => ⟨List.replicate acc.length true, ?_, ?_⟩⟩
    · constructor <;> (repeat' split) <;> omega
    · rw [List.map_replicate, hacc, List.length_replicate]
    · have e : ((List.replicate acc.length true).all id) = true := by simp
      rw [e]
      exact hk
  · intro s2 H2 C2 cl fp m acc hm hacc
    have hm9 : m < 100000 := by
      revert hm
      (repeat' split) <;> omega
    refine xe_callG Hq gd hr (xa_cons ?_)
    mi_while ["vl"] []
    refine ⟨ns, m, rfl, hns, xa_nil ⟨rfl, rfl, ?_⟩⟩
    refine ⟨by rw [hacc, List.length_replicate]; exact hm9, ?_⟩
    rw [hacc, List.replicate_succ']
end
end G

set_option Elab.async false
set_option linter.all false
set_option maxRecDepth 100000
set_option maxHeartbeats 0
namespace G
open PySem L2 VL VM
/-! ## all together -/
section
variable {K : PySem.W.Frag} {x qual : Str} {params : Arguments} {body : List Stmt} {scope : Scope} {kws : List (Str × V)} {f : Addr} {fd : FuncData}
theorem bindsK (F : FunD K x qual params body scope [] kws f fd) {ps ks : List Str} {is : List Nat}
    (h : ∀ (kV doc pm : Value) (an : Option Addr) (cdv ct : Value) (ws : List Value), ws.length = ks.length → bindArgs (PySem.W.fnOf x qual params body scope .none kV doc pm an cdv ct) ⟨[], ks.zip ws⟩ = pure (ps.zip (pick is ws))) :
    ∀ (s : Shared) (ws : List Value), K.In s.heap → ws.length = ks.length → BindsTo s fd ⟨[], ks.zip ws⟩ (ps.zip (pick is ws)) := by
  obtain ⟨oc, od, dV, kV, doc, pm, an, cdv, ct, osl, rfl, lk, hcd, hD, hK⟩ := F.ex
  intro s ws _ hl
  rcases hD with ⟨_, e⟩ | ⟨e, _⟩
  · subst e
    exact .of_eq (h kV doc pm an cdv ct ws hl)
  · exact absurd rfl e
theorem bindsKn (F : FunD K x qual params body scope [] kws f fd) {ps ks : List Str} {is : List Nat} {n : Nat}
    (h : ∀ (kV doc pm : Value) (an : Option Addr) (cdv ct : Value) (us ws : List Value), us.length = n → ws.length = ks.length → bindArgs (PySem.W.fnOf x qual params body scope .none kV doc pm an cdv ct) ⟨us, ks.zip ws⟩ = pure (ps.zip (us ++ pick is ws))) :
    ∀ (s : Shared) (us ws : List Value), K.In s.heap → us.length = n → ws.length = ks.length → BindsTo s fd ⟨us, ks.zip ws⟩ (ps.zip (us ++ pick is ws)) := by
  obtain ⟨oc, od, dV, kV, doc, pm, an, cdv, ct, osl, rfl, lk, hcd, hD, hK⟩ := F.ex
  intro s us ws _ hu hl
  rcases hD with ⟨_, e⟩ | ⟨e, _⟩
  · subst e
    exact .of_eq (h kV doc pm an cdv ct us ws hu hl)
  · exact absurd rfl e
end
theorem hideNil {H : Hp} : hide [] H = H := by
  funext a
  exact hide_out List.not_mem_nil
theorem intsAt {K : PySem.W.Frag} {H : Hp} : ∀ ns : List Int, AtL K H (ns.map V.int) (ns.map D.int)
  | [] => .nil
  | n :: ns => .cons (.int n) (intsAt ns)
theorem facts {P : Program} {w : World} {K : PySem.W.Frag} {h : Heap} {mg : Str → Option Value} {f : Addr} (X : K.In h) (G : h.Ns mainGlobals mg) (hfa : mg ("law" : Str) = some (.ref f)) (c : He5.SaysA fa fn K) (ex : exB K = true) (tb : He.dicW K (He.ga K "LENGTHS") = some (He.keysIn w.params tabK)) :
    ∃ fd : FuncData, (∀ (s : Shared) (v : Value), BindsTo s fd ⟨[v], []⟩ [("script", v)]) ∧ ∀ base : Heap, K.In base → base.Ns mainGlobals mg → FnG P w K mg base 12 f fd ["script"] (spC K 1 cLaw) := by
  have B : Bt mg := ⟨He.free_ok X G (c.fact 54 rfl), He.free_ok X G (c.fact 55 rfl), He.free_ok X G (c.fact 56 rfl), He.free_ok X G (c.fact 57 rfl), He.free_ok X G (c.fact 58 rfl), He.free_ok X G (c.fact 59 rfl), He.free_ok X G (c.fact 60 rfl), He.free_ok X G (c.fact 61 rfl),
    He.free_ok X G (c.fact 62 rfl), He.free_ok X G (c.fact 63 rfl), He.free_ok X G (c.fact 64 rfl), He.free_ok X G (c.fact 65 rfl)⟩
  have hrp : mg "repr" = none := He.free_ok X G (c.fact 53 rfl)
  have Cs : Cst mg := ⟨He.int_ok X G (c.fact 69 rfl), He.int_ok X G (c.fact 70 rfl)⟩
  have hC : mg "View" = some (.ref (He.ga K "View")) := He.glo_ok X G (c.fact 51 rfl)
  have mk := He.mkr_ok (c.fact 71 (f := .mkr "View") rfl)
  unfold exB at ex
  obtain ⟨ex, ey⟩ := ba ex
  obtain ⟨yz, ey⟩ := ba ey
  obtain ⟨yp, ey⟩ := ba ey
  have yl := ey
  unfold exB0 at ex
  obtain ⟨e1, ex⟩ := ba ex
  obtain ⟨e2, ex⟩ := ba ex
  obtain ⟨e3, ex⟩ := ba ex
  obtain ⟨e4, ex⟩ := ba ex
  obtain ⟨e5, ex⟩ := ba ex
  obtain ⟨e6, ex⟩ := ba ex
  obtain ⟨e7, ex⟩ := ba ex
  obtain ⟨e8, ex⟩ := ba ex
  obtain ⟨e9, ex⟩ := ba ex
  obtain ⟨e10, e11⟩ := ba ex
  obtain ⟨e12, e13⟩ := ba e11
  have V : Vc K (He.ga K "View") := ⟨sclsB_ok e1, sisiB_ok e2, slotB_ok e3 (by decide), slotB_ok e4 (by decide), slotB_ok e5 (by decide), slotB_ok e6 (by decide), of_decide_eq_true e7⟩
  obtain ⟨fdl, Fl⟩ := c.def_ 56 rfl
  have el := hfa.symm.trans (He.glo_ok X G (c.fact 50 (f := .glo "law") rfl))
  cases el
  have bl := FunD.bindsA (ps := ["script"]) Fl fun _ _ _ _ _ _ us hl => match us, hl with | [_], _ => rfl
  refine ⟨fdl, fun s v => bl s [v] rfl, fun base _ _ => ?_⟩
  obtain ⟨fd_shared, F_shared⟩ := c.def_ 0 rfl
  have H_shared : Fn P w K mg base 1 "shared" ["one", "other"] cShared := ⟨_, fd_shared, He.glo_ok X G (c.fact 0 (f := .glo "shared") rfl), F_shared.kp, F_shared.bindsN fun _ _ _ _ _ _ us hl => (match us, hl with | [_, _], _ => rfl), ok_shared (He5.fun_of F_shared) B⟩
  obtain ⟨fd_is_integer, F_is_integer⟩ := c.def_ 1 rfl
  have H_is_integer : Fn P w K mg base 1 "is_integer" ["value"] cIsInt := ⟨_, fd_is_integer, He.glo_ok X G (c.fact 1 (f := .glo "is_integer") rfl), F_is_integer.kp, F_is_integer.bindsN fun _ _ _ _ _ _ us hl => (match us, hl with | [_], _ => rfl), ok_is_integer (He5.fun_of F_is_integer) B⟩
  have H2_is_integer : Fn P w K mg base 1 "is_integer" ["value"] cIsIntB := ⟨_, fd_is_integer, He.glo_ok X G (c.fact 1 (f := .glo "is_integer") rfl), F_is_integer.kp, F_is_integer.bindsN fun _ _ _ _ _ _ us hl => (match us, hl with | [_], _ => rfl), ok_is_integerB (He5.fun_of F_is_integer) B⟩
  obtain ⟨fd_is_fraction, F_is_fraction⟩ := c.def_ 2 rfl
  have H_is_fraction : Fn P w K mg base 2 "is_fraction" ["value"] cIsFr := ⟨_, fd_is_fraction, He.glo_ok X G (c.fact 2 (f := .glo "is_fraction") rfl), F_is_fraction.kp, F_is_fraction.bindsN fun _ _ _ _ _ _ us hl => (match us, hl with | [_], _ => rfl), ok_is_fraction (He5.fun_of F_is_fraction) B H_is_integer H_shared⟩
  obtain ⟨fd_is_point, F_is_point⟩ := c.def_ 3 rfl
  have H_is_point : Fn P w K mg base 3 "is_point" ["value"] cIsPt := ⟨_, fd_is_point, He.glo_ok X G (c.fact 3 (f := .glo "is_point") rfl), F_is_point.kp, F_is_point.bindsN fun _ _ _ _ _ _ us hl => (match us, hl with | [_], _ => rfl), ok_is_point (He5.fun_of F_is_point) B H_is_fraction⟩
  obtain ⟨fd_free_part, F_free_part⟩ := c.def_ 4 rfl
  have H_free_part : Fn P w K mg base 2 "free_part" ["number", "factor"] cFree := ⟨_, fd_free_part, He.glo_ok X G (c.fact 4 (f := .glo "free_part") rfl), F_free_part.kp, F_free_part.bindsN fun _ _ _ _ _ _ us hl => (match us, hl with | [_, _], _ => rfl), ok_free_part (He5.fun_of F_free_part) H_shared⟩
  obtain ⟨fd_fraction_text, F_fraction_text⟩ := c.def_ 5 rfl
  have H_fraction_text : Fn P w K mg base 1 "fraction_text" ["value"] cFrText := ⟨_, fd_fraction_text, He.glo_ok X G (c.fact 5 (f := .glo "fraction_text") rfl), F_fraction_text.kp, F_fraction_text.bindsN fun _ _ _ _ _ _ us hl => (match us, hl with | [_], _ => rfl), ok_fraction_text (He5.fun_of F_fraction_text) B⟩
  obtain ⟨fd_made, F_made⟩ := c.def_ 6 rfl
  have H_made : Fn P w K mg base 2 "made" ["a", "b", "c"] cMade := ⟨_, fd_made, He.glo_ok X G (c.fact 6 (f := .glo "made") rfl), F_made.kp, F_made.bindsN fun _ _ _ _ _ _ us hl => (match us, hl with | [_, _, _], _ => rfl), ok_made (He5.fun_of F_made) H_shared⟩
  obtain ⟨fd_number_of, F_number_of⟩ := c.def_ 7 rfl
  have H_number_of : Fn P w K mg base 3 "number_of" ["point"] cNum := ⟨_, fd_number_of, He.glo_ok X G (c.fact 7 (f := .glo "number_of") rfl), F_number_of.kp, F_number_of.bindsN fun _ _ _ _ _ _ us hl => (match us, hl with | [_], _ => rfl), ok_number_of (He5.fun_of F_number_of) H_made⟩
  obtain ⟨fd_added, F_added⟩ := c.def_ 8 rfl
  have H_added : Fn P w K mg base 3 "added" ["one", "other"] cAdd := ⟨_, fd_added, He.glo_ok X G (c.fact 8 (f := .glo "added") rfl), F_added.kp, F_added.bindsN fun _ _ _ _ _ _ us hl => (match us, hl with | [_, _], _ => rfl), ok_added (He5.fun_of F_added) H_made⟩
  obtain ⟨fd_times, F_times⟩ := c.def_ 9 rfl
  have H_times : Fn P w K mg base 3 "times" ["one", "other"] cTimes := ⟨_, fd_times, He.glo_ok X G (c.fact 9 (f := .glo "times") rfl), F_times.kp, F_times.bindsN fun _ _ _ _ _ _ us hl => (match us, hl with | [_, _], _ => rfl), ok_times (He5.fun_of F_times) H_made⟩
  obtain ⟨fd_minus, F_minus⟩ := c.def_ 10 rfl
  have H_minus : Fn P w K mg base 1 "minus" ["number"] cMinus := ⟨_, fd_minus, He.glo_ok X G (c.fact 10 (f := .glo "minus") rfl), F_minus.kp, F_minus.bindsN fun _ _ _ _ _ _ us hl => (match us, hl with | [_], _ => rfl), ok_minus (He5.fun_of F_minus) ⟩
  obtain ⟨fd_power, F_power⟩ := c.def_ 11 rfl
  have H_power : Fn P w K mg base 1 "power" ["base", "exponent"] cPower := ⟨_, fd_power, He.glo_ok X G (c.fact 11 (f := .glo "power") rfl), F_power.kp, F_power.bindsN fun _ _ _ _ _ _ us hl => (match us, hl with | [_, _], _ => rfl), ok_power (He5.fun_of F_power) B⟩
  obtain ⟨fd_scale_of, F_scale_of⟩ := c.def_ 12 rfl
  have H_scale_of : Fn P w K mg base 3 "scale_of" ["factor", "zoom", "turn"] cScaleOf := ⟨_, fd_scale_of, He.glo_ok X G (c.fact 12 (f := .glo "scale_of") rfl), F_scale_of.kp, F_scale_of.bindsN fun _ _ _ _ _ _ us hl => (match us, hl with | [_, _, _], _ => rfl), ok_scale_of (He5.fun_of F_scale_of) B H_power H_made⟩
  obtain ⟨fd_fits, F_fits⟩ := c.def_ 13 rfl
  have H_fits : Fn P w K mg base 3 "fits" ["number", "factor"] cFits := ⟨_, fd_fits, He.glo_ok X G (c.fact 13 (f := .glo "fits") rfl), F_fits.kp, F_fits.bindsN fun _ _ _ _ _ _ us hl => (match us, hl with | [_, _], _ => rfl), ok_fits (He5.fun_of F_fits) H_free_part⟩
  obtain ⟨fd_scale, F_scale⟩ := c.def_ 14 rfl
  have H_scale : Fn P w K mg base 4 "scale" ["factor", "move"] cScale := ⟨_, fd_scale, He.glo_ok X G (c.fact 14 (f := .glo "scale") rfl), F_scale.kp, F_scale.bindsN fun _ _ _ _ _ _ us hl => (match us, hl with | [_, _], _ => rfl), ok_scale (He5.fun_of F_scale) H_scale_of⟩
  obtain ⟨fd_then_move, F_then_move⟩ := c.def_ 15 rfl
  have H_then_move : Fn P w K mg base 5 "then_move" ["factor", "one", "other"] cThenMv := ⟨_, fd_then_move, He.glo_ok X G (c.fact 15 (f := .glo "then_move") rfl), F_then_move.kp, F_then_move.bindsN fun _ _ _ _ _ _ us hl => (match us, hl with | [_, _, _], _ => rfl), ok_then_move (He5.fun_of F_then_move) H_scale H_times H_added⟩
  obtain ⟨fd_undone_move, F_undone_move⟩ := c.def_ 16 rfl
  have H_undone_move : Fn P w K mg base 4 "undone_move" ["factor", "move"] cBackMv := ⟨_, fd_undone_move, He.glo_ok X G (c.fact 16 (f := .glo "undone_move") rfl), F_undone_move.kp, F_undone_move.bindsN fun _ _ _ _ _ _ us hl => (match us, hl with | [_, _], _ => rfl), ok_undone_move (He5.fun_of F_undone_move) H_scale_of H_times H_minus⟩
  obtain ⟨fd_is_factor, F_is_factor⟩ := c.def_ 17 rfl
  have H_is_factor : Fn P w K mg base 2 "is_factor" ["value"] cIsFactor := ⟨_, fd_is_factor, He.glo_ok X G (c.fact 17 (f := .glo "is_factor") rfl), F_is_factor.kp, F_is_factor.bindsN fun _ _ _ _ _ _ us hl => (match us, hl with | [_], _ => rfl), ok_is_factor (He5.fun_of F_is_factor) Cs H_is_integer⟩
  obtain ⟨fd_is_between, F_is_between⟩ := c.def_ 18 rfl
  have H_is_between : Fn P w K mg base 2 "is_between" ["value", "least", "most"] cIsBetween := ⟨_, fd_is_between, He.glo_ok X G (c.fact 18 (f := .glo "is_between") rfl), F_is_between.kp, F_is_between.bindsN fun _ _ _ _ _ _ us hl => (match us, hl with | [_, _, _], _ => rfl), ok_is_between (He5.fun_of F_is_between) H_is_integer⟩
  obtain ⟨fd_check_factor, F_check_factor⟩ := c.def_ 19 rfl
  have H_check_factor : Fn P w K mg base 3 "check_factor" ["value"] cCkF := ⟨_, fd_check_factor, He.glo_ok X G (c.fact 19 (f := .glo "check_factor") rfl), F_check_factor.kp, F_check_factor.bindsN fun _ _ _ _ _ _ us hl => (match us, hl with | [_], _ => rfl), ok_check_factor (He5.fun_of F_check_factor) H_is_factor⟩
  obtain ⟨fd_move_of, F_move_of⟩ := c.def_ 20 rfl
  have H_move_of : Fn P w K mg base 4 "move_of" ["view"] (cMvOf (He.ga K "View")) := ⟨_, fd_move_of, He.glo_ok X G (c.fact 20 (f := .glo "move_of") rfl), F_move_of.kp, F_move_of.bindsN fun _ _ _ _ _ _ us hl => (match us, hl with | [_], _ => rfl), ok_move_of (He5.fun_of F_move_of) V H_number_of⟩
  obtain ⟨fd_i, F_i⟩ := c.def_ 51 rfl
  have M : Mkr P w K mg base 4 "View" (He.ga K "View") 4 gV OkV := ⟨_, fd_i, ["self", "factor", "zoom", "turn", "middle"], hC, mk, F_i.bindsN fun _ _ _ _ _ _ us hl => (match us, hl with | [_, _, _, _, _], _ => rfl), ok_init (He5.fun_of F_i) Cs V H_check_factor H_is_between H_is_point H_number_of H_fits⟩
  obtain ⟨fd_f, F_f⟩ := c.def_ 52 rfl
  have Pr : Pf P w K mg base (He.ga K "View") := ⟨_, _, propB_ok e8, fd_f, F_f.kp, F_f.bindsN fun _ _ _ _ _ _ us hl => (match us, hl with | [_], _ => rfl), ok_factor (He5.fun_of F_f) V⟩
  have Dg0 : Dg mg := ⟨He.str_ok X G (c.fact 68 rfl)⟩
  obtain ⟨fd_written_integer, F_written_integer⟩ := c.def_ 21 rfl
  have H_written_integer : Fn P w K mg base 1 "written_integer" ["word"] cWI := ⟨_, fd_written_integer, He.glo_ok X G (c.fact 21 (f := .glo "written_integer") rfl), F_written_integer.kp, F_written_integer.bindsN fun _ _ _ _ _ _ us hl => (match us, hl with | [_], _ => rfl), ok_written_integer (He5.fun_of F_written_integer) B Dg0⟩
  obtain ⟨fd_written_fraction, F_written_fraction⟩ := c.def_ 22 rfl
  have H_written_fraction : Fn P w K mg base 3 "written_fraction" ["word"] cWF := ⟨_, fd_written_fraction, He.glo_ok X G (c.fact 22 (f := .glo "written_fraction") rfl), F_written_fraction.kp, F_written_fraction.bindsN fun _ _ _ _ _ _ us hl => (match us, hl with | [_], _ => rfl), ok_written_fraction (He5.fun_of F_written_fraction) B H_written_integer H_is_fraction⟩
  obtain ⟨fd_text_view, F_text_view⟩ := c.def_ 23 rfl
  have H_text_view : Fn P w K mg base 6 "text_view" ["value"] (cTX (He.ga K "View")) := ⟨_, fd_text_view, He.glo_ok X G (c.fact 23 (f := .glo "text_view") rfl), F_text_view.kp, F_text_view.bindsN fun _ _ _ _ _ _ us hl => (match us, hl with | [_], _ => rfl), ok_text_viewX (He5.fun_of F_text_view) B Cs H_written_integer H_written_fraction H_is_factor H_is_between H_number_of H_fits M⟩
  obtain ⟨fd_z, F_z⟩ := c.def_ 50 rfl
  have Pz0 : Pz P w K mg base (He.ga K "View") := ⟨_, _, propB_ok yz, fd_z, F_z.kp, F_z.bindsN fun _ _ _ _ _ _ us hl => (match us, hl with | [_], _ => rfl), ok_zoom (He5.fun_of F_z) V⟩
  have Pp : Pl K mg := by
    obtain ⟨v, r, a⟩ := atB_ok yp
    have r' : v = .ref (He.ga K "PLAIN") := by
      cases v <;> first | (cases r; rfl) | (obtain ⟨_, r⟩ := r; cases r) | cases r
    subst r'
    exact ⟨_, He.glo_ok X G (c.fact 52 (f := .glo "PLAIN") rfl), a⟩
  obtain ⟨fd_m, F_m⟩ := c.def_ 49 rfl
  have H0 : Fn P w K mg base 6 "often_move" ["factor", "move", "many"] (cOft fun j => 0 ≤ j) := ⟨_, fd_m, He.glo_ok X G (c.fact 49 (f := .glo "often_move") rfl), F_m.kp, F_m.bindsN fun _ _ _ _ _ _ us hl => (match us, hl with | [_, _, _], _ => rfl), ok_often0 (He5.fun_of F_m) B Pp H_then_move H_times⟩
  obtain ⟨fd_shows_alike, F_shows_alike⟩ := c.def_ 24 rfl
  have H_shows_alike : Fn P w K mg base 7 "shows_alike" ["one", "other", "certificate"] (cSAl (He.ga K "View")) := ⟨_, fd_shows_alike, He.glo_ok X G (c.fact 24 (f := .glo "shows_alike") rfl), F_shows_alike.kp, F_shows_alike.bindsN fun _ _ _ _ _ _ us hl => (match us, hl with | [_, _, _], _ => rfl), ok_shows_alike (He5.fun_of F_shows_alike) V Pr H_text_view H_move_of H_then_move⟩
  obtain ⟨fd_shows_root, F_shows_root⟩ := c.def_ 25 rfl
  have H_shows_root : Fn P w K mg base 7 "shows_root" ["view", "many", "certificate"] (cSRt (He.ga K "View")) := ⟨_, fd_shows_root, He.glo_ok X G (c.fact 25 (f := .glo "shows_root") rfl), F_shows_root.kp, F_shows_root.bindsN fun _ _ _ _ _ _ us hl => (match us, hl with | [_, _, _], _ => rfl), ok_shows_root (He5.fun_of F_shows_root) V Pr Pz0 H_text_view H_is_integer H2_is_integer H_move_of H0⟩
  obtain ⟨fd_shows_of_view, F_shows_of_view⟩ := c.def_ 26 rfl
  have H_shows_of_view : Fn P w K mg base 8 "shows_of_view" ["claim", "certificate"] cSV := ⟨_, fd_shows_of_view, He.glo_ok X G (c.fact 26 (f := .glo "shows_of_view") rfl), F_shows_of_view.kp, F_shows_of_view.bindsN fun _ _ _ _ _ _ us hl => (match us, hl with | [_, _], _ => rfl), ok_shows_of_view (He5.fun_of F_shows_of_view) H_text_view H_shows_alike H_shows_root⟩
  obtain ⟨es, nn, kd⟩ := He.dicW_ok tb
  have Ln0 : Ln w K mg := ⟨_, es, nn, He.glo_ok X G (c.fact 67 (f := .glo "LENGTHS") rfl), kd, He.valsB_ok yl (q := ("alike", .int 3)) (by simp), He.valsB_ok yl (q := ("root", .int 3)) (by simp)⟩
  obtain ⟨fd_accepts, F_accepts⟩ := c.def_ 27 rfl
  have H_accepts : Fn P w K mg base 9 "accepts" ["claim", "certificate"] cSV := ⟨_, fd_accepts, He.glo_ok X G (c.fact 27 (f := .glo "accepts") rfl), F_accepts.kp, F_accepts.bindsN fun _ _ _ _ _ _ us hl => (match us, hl with | [_, _], _ => rfl), ok_accepts (He5.fun_of F_accepts) B Ln0 H_shows_of_view⟩
  obtain ⟨fd__law_draw, F__law_draw⟩ := c.def_ 28 rfl
  have H__law_draw : Fn P w K mg base 1 "_law_draw" ["well", "many"] cDraw := ⟨_, fd__law_draw, He.glo_ok X G (c.fact 28 (f := .glo "_law_draw") rfl), F__law_draw.kp, F__law_draw.bindsN fun _ _ _ _ _ _ us hl => (match us, hl with | [_, _], _ => rfl), ok_wdraw (He5.fun_of F__law_draw) B⟩
  obtain ⟨fd__law_well, F__law_well⟩ := c.def_ 29 rfl
  have H__law_well : Fn P w K mg base 1 "_law_well" ["script", "spot"] cCask := ⟨_, fd__law_well, He.glo_ok X G (c.fact 29 (f := .glo "_law_well") rfl), F__law_well.kp, F__law_well.bindsN fun _ _ _ _ _ _ us hl => (match us, hl with | [_, _], _ => rfl), ok_well (He5.fun_of F__law_well) B⟩
  obtain ⟨fd__law_pick, F__law_pick⟩ := c.def_ 30 rfl
  have H__law_pick : Fn P w K mg base 2 "_law_pick" ["well", "choices"] cPick := ⟨_, fd__law_pick, He.glo_ok X G (c.fact 30 (f := .glo "_law_pick") rfl), F__law_pick.kp, F__law_pick.bindsN fun _ _ _ _ _ _ us hl => (match us, hl with | [_, _], _ => rfl), ok_pick (He5.fun_of F__law_pick) B H__law_draw⟩
  obtain ⟨fd__law_shared, F__law_shared⟩ := c.def_ 31 rfl
  have H__law_shared : Fn P w K mg base 1 "_law_shared" ["one_here", "other"] cShared := ⟨_, fd__law_shared, He.glo_ok X G (c.fact 31 (f := .glo "_law_shared") rfl), F__law_shared.kp, F__law_shared.bindsN fun _ _ _ _ _ _ us hl => (match us, hl with | [_, _], _ => rfl), ok_lshared (He5.fun_of F__law_shared) B⟩
  obtain ⟨fd__law_num, F__law_num⟩ := c.def_ 32 rfl
  have H__law_num : Fn P w K mg base 2 "_law_num" ["a", "b", "c"] cMade := ⟨_, fd__law_num, He.glo_ok X G (c.fact 32 (f := .glo "_law_num") rfl), F__law_num.kp, F__law_num.bindsN fun _ _ _ _ _ _ us hl => (match us, hl with | [_, _, _], _ => rfl), ok_num (He5.fun_of F__law_num) H__law_shared⟩
  obtain ⟨fd__law_plus, F__law_plus⟩ := c.def_ 33 rfl
  have H__law_plus : Fn P w K mg base 3 "_law_plus" ["one_here", "two"] cAdd := ⟨_, fd__law_plus, He.glo_ok X G (c.fact 33 (f := .glo "_law_plus") rfl), F__law_plus.kp, F__law_plus.bindsN fun _ _ _ _ _ _ us hl => (match us, hl with | [_, _], _ => rfl), ok_wplus (He5.fun_of F__law_plus) H__law_num⟩
  obtain ⟨fd__law_mul, F__law_mul⟩ := c.def_ 34 rfl
  have H__law_mul : Fn P w K mg base 3 "_law_mul" ["one_here", "two"] cTimes := ⟨_, fd__law_mul, He.glo_ok X G (c.fact 34 (f := .glo "_law_mul") rfl), F__law_mul.kp, F__law_mul.bindsN fun _ _ _ _ _ _ us hl => (match us, hl with | [_, _], _ => rfl), ok_mul (He5.fun_of F__law_mul) H__law_num⟩
  obtain ⟨fd__law_less, F__law_less⟩ := c.def_ 35 rfl
  have H__law_less : Fn P w K mg base 4 "_law_less" ["one_here", "two"] cLess := ⟨_, fd__law_less, He.glo_ok X G (c.fact 35 (f := .glo "_law_less") rfl), F__law_less.kp, F__law_less.bindsN fun _ _ _ _ _ _ us hl => (match us, hl with | [_, _], _ => rfl), ok_less (He5.fun_of F__law_less) H__law_plus⟩
  obtain ⟨fd__law_power, F__law_power⟩ := c.def_ 36 rfl
  have H__law_power : Fn P w K mg base 1 "_law_power" ["n", "many"] cPower := ⟨_, fd__law_power, He.glo_ok X G (c.fact 36 (f := .glo "_law_power") rfl), F__law_power.kp, F__law_power.bindsN fun _ _ _ _ _ _ us hl => (match us, hl with | [_, _], _ => rfl), ok_lpower (He5.fun_of F__law_power) B⟩
  obtain ⟨fd__law_scale, F__law_scale⟩ := c.def_ 37 rfl
  have H__law_scale : Fn P w K mg base 3 "_law_scale" ["n", "zoom_here", "turn_here"] cScaleOf := ⟨_, fd__law_scale, He.glo_ok X G (c.fact 37 (f := .glo "_law_scale") rfl), F__law_scale.kp, F__law_scale.bindsN fun _ _ _ _ _ _ us hl => (match us, hl with | [_, _, _], _ => rfl), ok_wscale (He5.fun_of F__law_scale) B H__law_power H__law_num⟩
  obtain ⟨fd__law_point, F__law_point⟩ := c.def_ 38 rfl
  have H__law_point : Fn P w K mg base 2 "_law_point" ["number"] cPt := ⟨_, fd__law_point, He.glo_ok X G (c.fact 38 (f := .glo "_law_point") rfl), F__law_point.kp, F__law_point.bindsN fun _ _ _ _ _ _ us hl => (match us, hl with | [_], _ => rfl), ok_wpoint (He5.fun_of F__law_point) H__law_shared⟩
  obtain ⟨fd__law_behind, F__law_behind⟩ := c.def_ 39 rfl
  have H__law_behind : Fn P w K mg base 4 "_law_behind" ["n", "one_here", "two"] cThenMv := ⟨_, fd__law_behind, He.glo_ok X G (c.fact 39 (f := .glo "_law_behind") rfl), F__law_behind.kp, F__law_behind.bindsN fun _ _ _ _ _ _ us hl => (match us, hl with | [_, _, _], _ => rfl), ok_behind (He5.fun_of F__law_behind) B H__law_scale H__law_mul H__law_plus⟩
  obtain ⟨fd__law_back, F__law_back⟩ := c.def_ 40 rfl
  have H__law_back : Fn P w K mg base 5 "_law_back" ["n", "one_here"] cBackW := ⟨_, fd__law_back, He.glo_ok X G (c.fact 40 (f := .glo "_law_back") rfl), F__law_back.kp, F__law_back.bindsN fun _ _ _ _ _ _ us hl => (match us, hl with | [_, _], _ => rfl), ok_wback (He5.fun_of F__law_back) B H__law_scale H__law_mul H__law_less⟩
  obtain ⟨fd__law_times, F__law_times⟩ := c.def_ 41 rfl
  have H__law_times : Fn P w K mg base 6 "_law_times" ["n", "one_here", "many"] cWT3 := ⟨_, fd__law_times, He.glo_ok X G (c.fact 41 (f := .glo "_law_times") rfl), F__law_times.kp, F__law_times.bindsN fun _ _ _ _ _ _ us hl => (match us, hl with | [_, _, _], _ => rfl), ok_wtimes3 (He5.fun_of F__law_times) B H__law_mul H__law_behind⟩
  obtain ⟨fd__law_word, F__law_word⟩ := c.def_ 42 rfl
  have H__law_word : Fn P w K mg base 1 "_law_word" ["part"] cFrText := ⟨_, fd__law_word, He.glo_ok X G (c.fact 42 (f := .glo "_law_word") rfl), F__law_word.kp, F__law_word.bindsN fun _ _ _ _ _ _ us hl => (match us, hl with | [_], _ => rfl), ok_word (He5.fun_of F__law_word) B⟩
  obtain ⟨fd__law_text, F__law_text⟩ := c.def_ 43 rfl
  have H__law_text : Fn P w K mg base 3 "_law_text" ["n", "one_here"] cText := ⟨_, fd__law_text, He.glo_ok X G (c.fact 43 (f := .glo "_law_text") rfl), F__law_text.kp, F__law_text.bindsN fun _ _ _ _ _ _ us hl => (match us, hl with | [_, _], _ => rfl), ok_wtext (He5.fun_of F__law_text) B H__law_point H__law_word⟩
  obtain ⟨fd__law_spot, F__law_spot⟩ := c.def_ 44 rfl
  have H__law_spot : Fn P w K mg base 3 "_law_spot" ["well", "n", "wide", "deep"] cWSpot := ⟨_, fd__law_spot, He.glo_ok X G (c.fact 44 (f := .glo "_law_spot") rfl), F__law_spot.kp, F__law_spot.bindsN fun _ _ _ _ _ _ us hl => (match us, hl with | [_, _, _, _], _ => rfl), ok_wspot (He5.fun_of F__law_spot) H__law_draw H__law_power H__law_num⟩
  obtain ⟨fd__law_move, F__law_move⟩ := c.def_ 45 rfl
  have H__law_move : Fn P w K mg base 4 "_law_move" ["well", "n", "zooms", "wide"] cWMove := ⟨_, fd__law_move, He.glo_ok X G (c.fact 45 (f := .glo "_law_move") rfl), F__law_move.kp, F__law_move.bindsN fun _ _ _ _ _ _ us hl => (match us, hl with | [_, _, _, _], _ => rfl), ok_wmove (He5.fun_of F__law_move) H__law_draw H__law_spot⟩
  have hlst : mg "list" = none := He.free_ok X G (c.fact 66 rfl)
  obtain ⟨fd__law_text_near, F__law_text_near⟩ := c.def_ 46 rfl
  have H__law_text_near : Fn P w K mg base 5 "_law_text_near" ["well", "n", "one_here"] cNear := ⟨_, fd__law_text_near, He.glo_ok X G (c.fact 46 (f := .glo "_law_text_near") rfl), F__law_text_near.kp, F__law_text_near.bindsN fun _ _ _ _ _ _ us hl => (match us, hl with | [_, _, _], _ => rfl), ok_text_near (He5.fun_of F__law_text_near) B hlst H__law_draw H__law_pick H__law_plus H__law_text⟩
  have K_accepts : FnK P w K mg base 9 "accepts" ["claim", "certificate"] ["certificate", "claim"] [1, 0] cSV := ⟨_, _, He.glo_ok X G (c.fact 27 (f := .glo "accepts") rfl), F_accepts.kp, bindsK F_accepts fun _ _ _ _ _ _ ws hl => (match ws, hl with | [_, _], _ => rfl), ok_accepts (He5.fun_of F_accepts) B Ln0 H_shows_of_view⟩
  obtain ⟨fd__law_both, F__law_both⟩ := c.def_ 47 rfl
  have H__law_both : Fg P w K mg base 10 "_law_both" ["asked", "thing", "due"] cBoth := ⟨_, fd__law_both, He.glo_ok X G (c.fact 47 (f := .glo "_law_both") rfl), F__law_both.kp, F__law_both.bindsN fun _ _ _ _ _ _ us hl => (match us, hl with | [_, _, _], _ => rfl), ok_both (He5.fun_of F__law_both) hrp H_accepts K_accepts⟩
  obtain ⟨fd__law_right, F__law_right⟩ := c.def_ 48 rfl
  have H__law_right : Fg P w K mg base 11 "_law_right" ["well"] cRight := ⟨_, fd__law_right, He.glo_ok X G (c.fact 48 (f := .glo "_law_right") rfl), F__law_right.kp, F__law_right.bindsN fun _ _ _ _ _ _ us hl => (match us, hl with | [_], _ => rfl), ok_right (He5.fun_of F__law_right) B H__law_pick H__law_draw H__law_move H__law_behind H__law_back H__law_times H__law_text H__law_text_near H__law_both⟩
  exact ok_law (He5.fun_of Fl) B H__law_right H__law_well
end G
open PySem PySem.W PySem.Calls PyProof.Rows
theorem PySem.Challenge.cw_viewlots_k45_views_judged_holds : PySem.Challenge.rw_viewlots_k45_views_judged.Holds := by
  w_on; o_law
  refine HandSHeadRun.head_any (r := OpenLaw.row PySem.Challenge.rw_viewlots_k45_views_judged) (q := view (OpenLaw.row PySem.Challenge.rw_viewlots_k45_views_judged).prog [119]) (H := G.hookB 7) (ob := G.ob) (M := 60000) (loose := G.loose) (d := HandSHeadRun.topDef (OpenLaw.row PySem.Challenge.rw_viewlots_k45_views_judged).prog 119) (kwd := []) G.ob_eq
    (by kernel_rfl) (fun s => by kernel_rfl) G.run (by kernel_rfl) (by kernel_rfl) (by kernel_rfl) (by rfl) (by first | assumption | decide +kernel) (by decide +kernel) ⟨rfl, rfl, rfl, rfl, rfl, by decide +kernel⟩ ?hw ?hc
  case hw => w_witness2
  case hc =>
    refine VL.walkG (l := PySem.Challenge.rw_viewlots_k45_views_judged) (n := 63) (k := 12) (x := "script") (C := G.cLaw) rfl (by decide) (by kernel_rfl) ⟨rfl, by decide, by decide⟩ ?F fun ns hl => ⟨ns, rfl, Nat.le_trans hl (by decide), rfl⟩
    intro w mg fa h Y G0 hmg0
    obtain ⟨K, KX, c, ex, tb⟩ := Y
    have hmg : mg ("law" : PySem.Str) = some (.ref fa) := by
      have e : (HandSHeadRun.topDef (OpenLaw.row PySem.Challenge.rw_viewlots_k45_views_judged).prog 119).name = ("law" : PySem.Str) := by kernel_rfl
      rw [← e]
      exact hmg0
    obtain ⟨fd, hb, hF⟩ := G.facts (P := (PySem.Challenge.rw_viewlots_k45_views_judged).prog) (w := w) KX G0 hmg c ex tb
    exact ⟨K, fd, KX, hb, hF⟩

