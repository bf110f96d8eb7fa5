import PyProof.Rows.All
import HandS.ForMost
import HandS.ForExc
import HandS.TupAny
import HandS.TupMul
import HandS.Gcd
import HandS.IsInst
import HandS.Style
import HandS.Wide
import HandS.WideBits
import HandS.CallSlots
import HandS.WordsExc
import KE.KTupSum
import PySem.Challenge.RW_sharesofworks_k03_whole_slopes_and_gaps
set_option Elab.async false
set_option linter.all false
set_option autoImplicit false
set_option maxRecDepth 100000
set_option maxHeartbeats 4000000
/-! A layer of data over HandS: values as data D, a state of slots, readings that compute. -/
namespace DL
open PySem PySem.Spec PyProof.Rows L2

/-! ### data, results -/
inductive D where
  | non | bl (b : Bool) | int (i : Int) | str (x : Str) | tup (xs : List D) | lst (xs : List D) | dic (kvs : List (Key × D)) | fn (n : Str) | arg (xs : List D)
inductive R (α : Type) where
  | ok (a : α) | ex (c : Str) (p : D) | no
@[reducible] def R.bind {α β : Type} (m : R α) (f : α → R β) : R β := match m with
  | .ok a => f a
  | .ex c p => .ex c p
  | .no => .no
instance : Monad R where
  pure := R.ok
  bind := R.bind
theorem R.ok_bind {α β : Type} (a : α) (f : α → R β) : (R.ok a >>= f) = f a := rfl
theorem R.ex_bind {α β : Type} (c : Str) (p : D) (f : α → R β) : ((R.ex c p : R α) >>= f) = .ex c p := rfl
theorem R.no_bind {α β : Type} (f : α → R β) : ((R.no : R α) >>= f) = .no := rfl
theorem R.pure_ok {α : Type} (a : α) : (pure a : R α) = .ok a := rfl
theorem R.of_bind {α β : Type} {m : R α} {f : α → R β} {b : β} (h : (m >>= f) = .ok b) : ∃ a, m = .ok a ∧ f a = .ok b := by
  cases m with
  | ok a => exact ⟨a, rfl, h⟩
  | ex c p => exact nomatch (show (R.ex c p : R β) = .ok b from h)
  | no => exact nomatch (show (R.no : R β) = .ok b from h)
def R.chk {α : Type} (b : Bool) (m : R α) : R α := if b = true then m else .no
theorem R.of_chk {α : Type} {b : Bool} {m : R α} {a : α} (h : R.chk b m = .ok a) : b = true ∧ m = .ok a := by
  unfold R.chk at h
  cases b with
  | true => exact ⟨rfl, h⟩
  | false => exact nomatch (show (R.no : R α) = .ok a from h)
theorem R.chk_t {α : Type} (m : R α) : R.chk true m = m := rfl

/-- an owned thing -/
inductive Cl where
  | l (xs : List D) | k (kvs : List (Key × D))
def Cl.D : Cl → D
  | .l xs => .lst xs
  | .k kvs => .dic kvs
inductive Sl where
  | un | im (d : D) | ow (c : Cl) | io (xs : List D)
abbrev Ev := List Sl

/-! ### what stands for data -/
section
variable (K : PySem.W.Frag) (mg : Str → Option Value)
mutual
inductive Rp (H : Hp) : V → D → Prop
  | non : Rp H .non .non
  | bl (b : Bool) : Rp H (.bl b) (.bl b)
  | int (i : Int) : Rp H (.int i) (.int i)
  | str (x : Str) : Rp H (.str x) (.str x)
  | tup {a : Addr} {vs : List V} {ds : List D} : SqT K H a vs → RpA H vs ds → Rp H (.ref a) (.tup ds)
  | lst {a : Addr} {vs : List V} {ds : List D} : H a = some (.lst vs) → RpA H vs ds → Rp H (.ref a) (.lst ds)
  | dic {a : Addr} {kvs : List (Key × V)} {kds : List (Key × D)} : H a = some (.dK kvs) → RpK H kvs kds → Rp H (.ref a) (.dic kds)
  | arg {a : Addr} {vs : List V} {ds : List D} : SqL K H a vs → RpA H vs ds → Rp H (.ref a) (.arg ds)
  | fn {a : Addr} {n : Str} : mg n = some (.ref a) → Rp H (.ref a) (.fn n)
inductive RpA (H : Hp) : List V → List D → Prop
  | nil : RpA H [] []
  | cons {v : V} {vs : List V} {d : D} {ds : List D} : Rp H v d → RpA H vs ds → RpA H (v :: vs) (d :: ds)
inductive RpK (H : Hp) : List (Key × V) → List (Key × D) → Prop
  | nil : RpK H [] []
  | cons {k : Key} {v : V} {kvs : List (Key × V)} {d : D} {kds : List (Key × D)} : Rp H v d → RpK H kvs kds → RpK H ((k, v) :: kvs) ((k, d) :: kds)
end
/-- an owned thing's object -/
inductive RpO (F : Hp) : HO → Cl → Prop
  | l {vs : List V} {xs : List D} : RpA K mg F vs xs → RpO F (.lst vs) (.l xs)
  | k {kvs : List (Key × V)} {kds : List (Key × D)} : RpK K mg F kvs kds → RpO F (.dK kvs) (.k kds)
end
section
variable {K : PySem.W.Frag} {mg : Str → Option Value} {F H H' : Hp}
theorem Same.rd {a : Addr} {u : HO} (s : Same H H') (h : Rd H a u) : Rd H' a u := by
  rcases h with h | ⟨o, h⟩
  · exact .inl (s _ _ h)
  · exact .inr ⟨o, s _ _ h⟩
theorem Same.sqL {a : Addr} {xs : List V} (s : Same H H') (h : SqL K H a xs) : SqL K H' a xs := h.elim (fun h => .inl (Same.rd s h)) .inr
theorem Same.sqT {a : Addr} {xs : List V} (s : Same H H') (h : SqT K H a xs) : SqT K H' a xs := h.elim (fun h => .inl (Same.rd s h)) .inr
mutual
theorem Rp.mono (s : Same H H') : ∀ {v : V} {d : D}, Rp K mg H v d → Rp K mg H' v d
  | _, _, .non => .non
  | _, _, .bl b => .bl b
  | _, _, .int i => .int i
  | _, _, .str x => .str x
  | _, _, .tup h r => .tup (Same.sqT s h) (RpA.mono s r)
  | _, _, .lst h r => .lst (s _ _ h) (RpA.mono s r)
  | _, _, .dic h r => .dic (s _ _ h) (RpK.mono s r)
  | _, _, .arg h r => .arg (Same.sqL s h) (RpA.mono s r)
  | _, _, .fn h => .fn h
theorem RpA.mono (s : Same H H') : ∀ {vs : List V} {ds : List D}, RpA K mg H vs ds → RpA K mg H' vs ds
  | _, _, .nil => .nil
  | _, _, .cons h r => .cons (Rp.mono s h) (RpA.mono s r)
theorem RpK.mono (s : Same H H') : ∀ {vs : List (Key × V)} {ds : List (Key × D)}, RpK K mg H vs ds → RpK K mg H' vs ds
  | _, _, .nil => .nil
  | _, _, .cons h r => .cons (Rp.mono s h) (RpK.mono s r)
end
theorem RpO.mono (s : Same H H') {o : HO} {c : Cl} (h : RpO K mg H o c) : RpO K mg H' o c := by
  cases h with
  | l h => exact .l (h.mono s)
  | k h => exact .k (h.mono s)
theorem RpO.rp {a : Addr} {o : HO} {c : Cl} (h : RpO K mg F o c) (e : H a = some o) (s : Same F H) : Rp K mg H (.ref a) c.D := by
  cases h with
  | l h => exact .lst e (h.mono s)
  | k h => exact .dic e (h.mono s)
theorem RpA.length : ∀ {vs : List V} {ds : List D}, RpA K mg H vs ds → vs.length = ds.length
  | _, _, .nil => rfl
  | _, _, .cons _ r => congrArg (· + 1) (RpA.length r)
theorem RpA.append : ∀ {vs us : List V} {ds es : List D}, RpA K mg H vs ds → RpA K mg H us es → RpA K mg H (vs ++ us) (ds ++ es)
  | _, _, _, _, .nil, s => s
  | _, _, _, _, .cons h r, s => .cons h (RpA.append r s)
theorem RpA.get : ∀ {vs : List V} {ds : List D} {i : Nat} {d : D}, RpA K mg H vs ds → ds[i]? = some d → ∃ v, vs[i]? = some v ∧ Rp K mg H v d
  | _, _, _, _, .nil, e => by simp at e
  | _, _, 0, _, .cons h _, e => by simp at e; subst e; exact ⟨_, rfl, h⟩
  | _, _, i + 1, d, .cons _ r, e => by
    obtain ⟨v, h1, h2⟩ := RpA.get (i := i) (d := d) r (by simpa using e)
    exact ⟨v, by simpa using h1, h2⟩
theorem RpA.getV : ∀ {vs : List V} {ds : List D} {i : Nat} {v : V}, RpA K mg H vs ds → vs[i]? = some v → ∃ d, ds[i]? = some d ∧ Rp K mg H v d
  | _, _, _, _, .nil, e => by simp at e
  | _, _, 0, _, .cons h _, e => by simp at e; subst e; exact ⟨_, rfl, h⟩
  | _, _, i + 1, v, .cons _ r, e => by
    obtain ⟨d, h1, h2⟩ := RpA.getV (i := i) (v := v) r (by simpa using e)
    exact ⟨d, by simpa using h1, h2⟩
theorem RpA.take : ∀ {vs : List V} {ds : List D} (n : Nat), RpA K mg H vs ds → RpA K mg H (vs.take n) (ds.take n)
  | _, _, 0, _ => .nil
  | _, _, _ + 1, .nil => .nil
  | _, _, n + 1, .cons h r => .cons h (RpA.take n r)
theorem RpA.drop : ∀ {vs : List V} {ds : List D} (n : Nat), RpA K mg H vs ds → RpA K mg H (vs.drop n) (ds.drop n)
  | _, _, 0, r => r
  | _, _, _ + 1, .nil => .nil
  | _, _, n + 1, .cons _ r => RpA.drop n r
theorem RpA.set : ∀ {vs : List V} {ds : List D} (i : Nat) {v : V} {d : D}, RpA K mg H vs ds → Rp K mg H v d → RpA K mg H (vs.set i v) (ds.set i d)
  | _, _, _, _, _, .nil, _ => .nil
  | _, _, 0, _, _, .cons _ r, q => .cons q r
  | _, _, i + 1, _, _, .cons h r, q => .cons h (RpA.set i r q)
theorem RpA.flatRep {vs : List V} {ds : List D} (h : RpA K mg H vs ds) : ∀ n : Nat, RpA K mg H (List.replicate n vs).flatten (List.replicate n ds).flatten
  | 0 => .nil
  | n + 1 => by
    rw [List.replicate_succ, List.replicate_succ, List.flatten_cons, List.flatten_cons]
    exact h.append (h.flatRep n)
theorem RpA.reverse : ∀ {vs : List V} {ds : List D}, RpA K mg H vs ds → RpA K mg H vs.reverse ds.reverse
  | _, _, .nil => .nil
  | _, _, .cons h r => by
    rw [List.reverse_cons, List.reverse_cons]
    exact (RpA.reverse r).append (.cons h .nil)
theorem RpA.ints : ∀ {vs : List V} {is : List Int}, RpA K mg H vs (is.map D.int) → vs = is.map V.int
  | _, [], .nil => rfl
  | _, i :: is, .cons h r => by
    cases h
    rw [RpA.ints (is := is) r]
    rfl
theorem RpA.ofInts : ∀ (is : List Int), RpA K mg H (is.map V.int) (is.map D.int)
  | [] => .nil
  | i :: is => .cons (.int i) (RpA.ofInts is)

/-- a value that needs no heap -/
def flat : D → Bool
  | .non | .bl _ | .int _ | .str _ | .fn _ => true
  | _ => false
theorem Rp.flat {v : V} {d : D} (h : Rp K mg H v d) (f : flat d = true) : Rp K mg H' v d := by
  cases h with
  | non => exact .non
  | bl => exact .bl _
  | int => exact .int _
  | str => exact .str _
  | fn h => exact .fn h
  | _ => exact absurd (show false = true from f) Bool.false_ne_true

/-! ### growth -/
structure Gr (F H F' H' : Hp) : Prop where
  ff : Same F F'
  fh : Same F' H'
  hh : Same H H'
  nw : ∀ a, F' a ≠ none → F a ≠ none ∨ H a = none
theorem Gr.refl (s : Same F H) : Gr F H F H := ⟨Same.refl _, s, Same.refl _, fun _ h => .inl h⟩
theorem Gr.trans {F1 H1 F2 H2 : Hp} (a : Gr F H F1 H1) (b : Gr F1 H1 F2 H2) : Gr F H F2 H2 :=
  ⟨a.ff.trans b.ff, b.fh, a.hh.trans b.hh, fun x h => (b.nw x h).elim (fun h => a.nw x h) fun h => .inr (a.hh.free h)⟩
theorem ne_none {H : Hp} {a : Addr} {o : HO} (h : H a = some o) : H a ≠ none := by rw [h]; exact fun z => nomatch z
theorem some_of {H : Hp} {a : Addr} (h : H a ≠ none) : ∃ o, H a = some o := by
  cases e : H a with
  | none => exact absurd e h
  | some o => exact ⟨o, rfl⟩
theorem same_upd {H : Hp} {p : Addr} {o : HO} (h : H p = none) : Same H (upd H p o) := fun b x e => by
  rw [upd_ne (ne_of_none e h)]
  exact e
theorem same_upd2 {F H : Hp} {p : Addr} {o : HO} (s : Same F H) : Same (upd F p o) (upd H p o) := fun b x e => by
  by_cases hb : b = p
  · subst hb
    rw [upd_same] at e ⊢
    exact e
  · rw [upd_ne hb] at e ⊢
    exact s b x e
/-- a new thing, frozen at once -/
theorem Gr.new {p : Addr} {o : HO} (s : Same F H) (h : H p = none) : Gr F H (upd F p o) (upd H p o) :=
  ⟨same_upd (s.free h), same_upd2 s, same_upd h, fun a q => by
    by_cases ha : a = p
    · subst ha
      exact .inr h
    · rw [upd_ne ha] at q
      exact .inl q⟩
/-- a new thing, not frozen -/
theorem Gr.junk {p : Addr} {o : HO} (s : Same F H) (h : H p = none) : Gr F H F (upd H p o) :=
  ⟨Same.refl _, s.trans (same_upd h), same_upd h, fun _ q => .inl q⟩

/-! ### borrowed -/
def RpB (K : PySem.W.Frag) (mg : Str → Option Value) (F H : Hp) (v : V) (d : D) : Prop :=
  Rp K mg F v d ∨ ∃ a o c, v = .ref a ∧ H a = some o ∧ RpO K mg F o c ∧ d = c.D
theorem RpB.mono {F' : Hp} {v : V} {d : D} (s : Same F F') (t : Same H H') (h : RpB K mg F H v d) : RpB K mg F' H' v d := by
  rcases h with h | ⟨a, o, c, rfl, e, r, rfl⟩
  · exact .inl (h.mono s)
  · exact .inr ⟨a, o, c, rfl, t _ _ e, r.mono s, rfl⟩
theorem RpB.rp {v : V} {d : D} (s : Same F H) (h : RpB K mg F H v d) : Rp K mg H v d := by
  rcases h with h | ⟨a, o, c, rfl, e, r, rfl⟩
  · exact h.mono s
  · exact r.rp e s
/-- a list: its items are frozen -/
theorem RpB.list {v : V} {ds : List D} (s : Same F H) (h : RpB K mg F H v (.lst ds)) : ∃ a vs, v = .ref a ∧ H a = some (.lst vs) ∧ RpA K mg F vs ds := by
  rcases h with h | ⟨a, o, c, rfl, e, r, q⟩
  · cases h with
    | lst h r => exact ⟨_, _, rfl, s _ _ h, r⟩
  · cases r with
    | l r =>
      cases q
      exact ⟨_, _, rfl, e, r⟩
    | k r => exact nomatch q
theorem RpB.tuple {v : V} {ds : List D} (s : Same F H) (h : RpB K mg F H v (.tup ds)) : ∃ a vs, v = .ref a ∧ SqT K H a vs ∧ RpA K mg F vs ds := by
  rcases h with h | ⟨a, o, c, rfl, e, r, q⟩
  · cases h with
    | tup h r => exact ⟨_, _, rfl, Same.sqT s h, r⟩
  · cases r with
    | l r => exact nomatch q
    | k r => exact nomatch q
theorem RpB.dict {v : V} {ds : List (Key × D)} (s : Same F H) (h : RpB K mg F H v (.dic ds)) : ∃ a kvs, v = .ref a ∧ H a = some (.dK kvs) ∧ RpK K mg F kvs ds := by
  rcases h with h | ⟨a, o, c, rfl, e, r, q⟩
  · cases h with
    | dic h r => exact ⟨_, _, rfl, s _ _ h, r⟩
  · cases r with
    | l r => exact nomatch q
    | k r =>
      cases q
      exact ⟨_, _, rfl, e, r⟩
theorem RpB.arg {v : V} {ds : List D} (s : Same F H) (h : RpB K mg F H v (.arg ds)) : ∃ a vs, v = .ref a ∧ SqL K H a vs ∧ RpA K mg F vs ds := by
  rcases h with h | ⟨a, o, c, rfl, e, r, q⟩
  · cases h with
    | arg h r => exact ⟨_, _, rfl, Same.sqL s h, r⟩
  · cases r with
    | l r => exact nomatch q
    | k r => exact nomatch q
theorem RpB.int {v : V} {i : Int} (h : RpB K mg F H v (.int i)) : v = .int i := by
  rcases h with h | ⟨a, o, c, rfl, e, r, q⟩
  · cases h
    rfl
  · cases r <;> exact nomatch q
theorem RpB.bl {v : V} {i : Bool} (h : RpB K mg F H v (.bl i)) : v = .bl i := by
  rcases h with h | ⟨a, o, c, rfl, e, r, q⟩
  · cases h
    rfl
  · cases r <;> exact nomatch q
theorem RpB.str {v : V} {i : Str} (h : RpB K mg F H v (.str i)) : v = .str i := by
  rcases h with h | ⟨a, o, c, rfl, e, r, q⟩
  · cases h
    rfl
  · cases r <;> exact nomatch q
theorem RpB.non {v : V} (h : RpB K mg F H v .non) : v = .non := by
  rcases h with h | ⟨a, o, c, rfl, e, r, q⟩
  · cases h
    rfl
  · cases r <;> exact nomatch q
end

/-! ### the state -/
structure Gd where
  F0 : Hp
  H0 : Hp
  io : Option Addr
structure Rel (K : PySem.W.Frag) (mg : Str → Option Value) (g : Gd) (F : Hp) (σ : L2.St) (H : Hp) (e : Ev) : Prop where
  len : e.length = σ.length
  f0 : Same g.F0 F
  fh : Same F H
  nw : ∀ a, F a ≠ none → g.F0 a ≠ none ∨ g.H0 a = none
  old : ∀ a o, g.H0 a = some o → g.io ≠ some a → H a = some o
  im : ∀ (i : Nat) d, e[i]? = some (.im d) → ∃ v, σ[i]? = some (some v) ∧ Rp K mg F v d
  ow : ∀ (i : Nat) c, e[i]? = some (.ow c) → ∃ a o, σ[i]? = some (some (.ref a)) ∧ H a = some o ∧ RpO K mg F o c ∧ F a = none ∧ g.H0 a = none ∧ g.io ≠ some a
  ih : ∀ (i : Nat) xs, e[i]? = some (.io xs) → ∃ a vs, g.io = some a ∧ σ[i]? = some (some (.ref a)) ∧ H a = some (.lst vs) ∧ RpA K mg F vs xs
  iof : ∀ a, g.io = some a → F a = none ∧ H a ≠ none
  sep : ∀ (i j : Nat) c c' a, i ≠ j → e[i]? = some (.ow c) → e[j]? = some (.ow c') → σ[i]? = some (some (.ref a)) → σ[j]? = some (some (.ref a)) → False
  iu : ∀ (i j : Nat) xs ys, e[i]? = some (.io xs) → e[j]? = some (.io ys) → i = j
section
variable {K : PySem.W.Frag} {mg : Str → Option Value} {g : Gd} {F H F' H' : Hp} {σ : L2.St} {e : Ev}
theorem Rel.ext (r : Rel K mg g F σ H e) (x : Gr F H F' H') : Rel K mg g F' σ H' e where
  len := r.len
  f0 := r.f0.trans x.ff
  fh := x.fh
  nw := fun a q => (x.nw a q).elim (fun q => r.nw a q) fun q => by
    by_cases hi : g.io = some a
    · exact absurd q (r.iof a hi).2
    · cases h0 : g.H0 a with
      | none => exact .inr rfl
      | some o =>
        rw [r.old a o h0 hi] at q
        cases q
  old := fun a o h hi => x.hh _ _ (r.old a o h hi)
  im := fun i d h => by
    obtain ⟨v, h1, h2⟩ := r.im i d h
    exact ⟨v, h1, h2.mono x.ff⟩
  ow := fun i c h => by
    obtain ⟨a, o, h1, h2, h3, h4, h5⟩ := r.ow i c h
    refine ⟨a, o, h1, x.hh _ _ h2, h3.mono x.ff, ?_, h5⟩
    cases q : F' a with
    | none => rfl
    | some u => exact ((x.nw a (ne_none q)).elim (fun z => z h4) fun z => by rw [h2] at z; cases z).elim
  ih := fun i xs h => by
    obtain ⟨a, vs, h1, h2, h3, h4⟩ := r.ih i xs h
    exact ⟨a, vs, h1, h2, x.hh _ _ h3, h4.mono x.ff⟩
  iof := fun a h => by
    obtain ⟨h1, h2⟩ := r.iof a h
    obtain ⟨o, h3⟩ := some_of h2
    refine ⟨?_, ne_none (x.hh _ _ h3)⟩
    cases q : F' a with
    | none => rfl
    | some u => exact ((x.nw a (ne_none q)).elim (fun z => z h1) fun z => h2 z).elim
  sep := r.sep
  iu := r.iu
theorem Rel.same (r : Rel K mg g F σ H e) : Same F H := r.fh
/-- an owned thing that nobody else holds -/
structure Fresh (K : PySem.W.Frag) (mg : Str → Option Value) (g : Gd) (F : Hp) (σ : L2.St) (H : Hp) (e : Ev) (a : Addr) (c : Cl) : Prop where
  ob : ∃ o, H a = some o ∧ RpO K mg F o c
  nf : F a = none
  n0 : g.H0 a = none
  ni : g.io ≠ some a
  no : ∀ (i : Nat) c, e[i]? = some (.ow c) → σ[i]? ≠ some (some (.ref a))
theorem Fresh.new {p : Addr} {o : HO} {c : Cl} (r : Rel K mg g F σ H e) (h : H p = none) (q : RpO K mg F o c) : Fresh K mg g F σ (upd H p o) e p c where
  ob := ⟨o, upd_same, q⟩
  nf := r.fh.free h
  n0 := by
    by_cases hi : g.io = some p
    · exact absurd h (r.iof p hi).2
    · cases h0 : g.H0 p with
      | none => rfl
      | some u =>
        rw [r.old p u h0 hi] at h
        cases h
  ni := fun hi => absurd h (r.iof p hi).2
  no := fun i c hc z => by
    obtain ⟨a, u, h1, h2, _⟩ := r.ow i c hc
    rw [z] at h1
    cases h1
    rw [h] at h2
    cases h2
theorem Fresh.ext {a : Addr} {c : Cl} (f : Fresh K mg g F σ H e a c) (x : Gr F H F' H') : Fresh K mg g F' σ H' e a c where
  ob := by
    obtain ⟨o, h1, h2⟩ := f.ob
    exact ⟨o, x.hh _ _ h1, h2.mono x.ff⟩
  nf := by
    obtain ⟨o, h1, _⟩ := f.ob
    cases q : F' a with
    | none => rfl
    | some u => exact ((x.nw a (ne_none q)).elim (fun z => z f.nf) fun z => by rw [h1] at z; cases z).elim
  n0 := f.n0
  ni := f.ni
  no := f.no
/-- it is frozen -/
theorem Rel.freezeAt {a : Addr} {o : HO} (r : Rel K mg g F σ H e) (h : H a = some o) (n0 : g.H0 a = none) (ni : g.io ≠ some a) (no : ∀ (i : Nat) c, e[i]? = some (.ow c) → σ[i]? ≠ some (some (.ref a))) (hf : F a = none) : Rel K mg g (upd F a o) σ H e where
  len := r.len
  f0 := r.f0.trans (same_upd hf)
  fh := fun b x q => by
    by_cases hb : b = a
    · subst hb
      rw [upd_same] at q
      rw [h, q]
    · rw [upd_ne hb] at q
      exact r.fh b x q
  nw := fun b q => by
    by_cases hb : b = a
    · subst hb
      exact .inr n0
    · rw [upd_ne hb] at q
      exact r.nw b q
  old := r.old
  im := fun i d h => by
    obtain ⟨v, h1, h2⟩ := r.im i d h
    exact ⟨v, h1, h2.mono (same_upd hf)⟩
  ow := fun i c hc => by
    obtain ⟨b, u, h1, h2, h3, h4, h5⟩ := r.ow i c hc
    refine ⟨b, u, h1, h2, h3.mono (same_upd hf), ?_, h5⟩
    have hb : b ≠ a := fun z => by
      subst z
      exact no i c hc h1
    rw [upd_ne hb]
    exact h4
  ih := fun i xs hc => by
    obtain ⟨b, vs, h1, h2, h3, h4⟩ := r.ih i xs hc
    exact ⟨b, vs, h1, h2, h3, h4.mono (same_upd hf)⟩
  iof := fun b hb => by
    obtain ⟨h1, h2⟩ := r.iof b hb
    refine ⟨?_, h2⟩
    have hb' : b ≠ a := fun z => by
      subst z
      exact ni hb
    rw [upd_ne hb']
    exact h1
  sep := r.sep
  iu := r.iu
theorem Fresh.freeze {a : Addr} {c : Cl} (r : Rel K mg g F σ H e) (f : Fresh K mg g F σ H e a c) : ∃ F', Rel K mg g F' σ H e ∧ Same F F' ∧ Rp K mg F' (.ref a) c.D := by
  obtain ⟨o, h1, h2⟩ := f.ob
  exact ⟨upd F a o, r.freezeAt h1 f.n0 f.ni f.no f.nf, same_upd f.nf, (h2.mono (same_upd f.nf)).rp upd_same (Same.refl _)⟩

/-! #### slots stored -/
/-- slot i may be stored: it is not the caller's -/
def mayset (e : Ev) (i : Nat) : Bool := match e[i]? with
  | some (.io _) => false
  | _ => true
theorem get_set {α : Type} {l : List α} {i j : Nat} {x y : α} (h : (l.set i x)[j]? = some y) : (j = i ∧ y = x) ∨ (j ≠ i ∧ l[j]? = some y) := by
  by_cases hj : j = i
  · subst hj
    by_cases hl : j < l.length
    · rw [List.getElem?_set_self hl] at h
      exact .inl ⟨rfl, (Option.some.inj h).symm⟩
    · rw [List.getElem?_eq_none (by rw [List.length_set]; omega)] at h
      cases h
  · rw [List.getElem?_set_ne (Ne.symm hj)] at h
    exact .inr ⟨hj, h⟩
theorem lt_of_get {α : Type} {l : List α} {i : Nat} {x : α} (h : l[i]? = some x) : i < l.length := (List.getElem?_eq_some_iff.mp h).1
theorem Rel.setIm {i : Nat} {v : V} {d : D} (r : Rel K mg g F σ H e) (h : Rp K mg F v d) (hm : mayset e i = true) (hi : i < e.length) : Rel K mg g F (σ.set i (some v)) H (e.set i (.im d)) where
  len := by rw [List.length_set, List.length_set]; exact r.len
  f0 := r.f0
  fh := r.fh
  nw := r.nw
  old := r.old
  im := fun j d' hj => by
    rcases get_set hj with ⟨rfl, q⟩ | ⟨hne, q⟩
    · cases q
      exact ⟨v, by rw [List.getElem?_set_self (by rw [← r.len]; exact hi)], h⟩
    · obtain ⟨v', h1, h2⟩ := r.im j d' q
      exact ⟨v', by rw [List.getElem?_set_ne (Ne.symm hne)]; exact h1, h2⟩
  ow := fun j c hj => by
    rcases get_set hj with ⟨rfl, q⟩ | ⟨hne, q⟩
    · cases q
    · obtain ⟨a, o, h1, h2⟩ := r.ow j c q
      exact ⟨a, o, by rw [List.getElem?_set_ne (Ne.symm hne)]; exact h1, h2⟩
  ih := fun j xs hj => by
    rcases get_set hj with ⟨rfl, q⟩ | ⟨hne, q⟩
    · cases q
    · obtain ⟨a, o, h0, h1, h2⟩ := r.ih j xs q
      exact ⟨a, o, h0, by rw [List.getElem?_set_ne (Ne.symm hne)]; exact h1, h2⟩
  iof := r.iof
  sep := fun j l c c' a hn h1 h2 h3 h4 => by
    rcases get_set h1 with ⟨rfl, q⟩ | ⟨hj, q⟩
    · cases q
    · rcases get_set h2 with ⟨rfl, q'⟩ | ⟨hl, q'⟩
      · cases q'
      · rw [List.getElem?_set_ne (Ne.symm hj)] at h3
        rw [List.getElem?_set_ne (Ne.symm hl)] at h4
        exact r.sep j l c c' a hn q q' h3 h4
  iu := fun j l xs ys h1 h2 => by
    rcases get_set h1 with ⟨_, q⟩ | ⟨_, q⟩
    · cases q
    · rcases get_set h2 with ⟨_, q'⟩ | ⟨_, q'⟩
      · cases q'
      · exact r.iu j l xs ys q q'
theorem Rel.setOw {i : Nat} {a : Addr} {c : Cl} (r : Rel K mg g F σ H e) (f : Fresh K mg g F σ H e a c) (hm : mayset e i = true) (hi : i < e.length) : Rel K mg g F (σ.set i (some (.ref a))) H (e.set i (.ow c)) where
  len := by rw [List.length_set, List.length_set]; exact r.len
  f0 := r.f0
  fh := r.fh
  nw := r.nw
  old := r.old
  im := fun j d' hj => by
    rcases get_set hj with ⟨rfl, q⟩ | ⟨hne, q⟩
    · cases q
    · obtain ⟨v', h1, h2⟩ := r.im j d' q
      exact ⟨v', by rw [List.getElem?_set_ne (Ne.symm hne)]; exact h1, h2⟩
  ow := fun j c' hj => by
    rcases get_set hj with ⟨rfl, q⟩ | ⟨hne, q⟩
    · cases q
      obtain ⟨o, h1, h2⟩ := f.ob
      exact ⟨a, o, by rw [List.getElem?_set_self (by rw [← r.len]; exact hi)], h1, h2, f.nf, f.n0, f.ni⟩
    · obtain ⟨b, o, h1, h2⟩ := r.ow j c' q
      exact ⟨b, o, by rw [List.getElem?_set_ne (Ne.symm hne)]; exact h1, h2⟩
  ih := fun j xs hj => by
    rcases get_set hj with ⟨rfl, q⟩ | ⟨hne, q⟩
    · cases q
    · obtain ⟨b, o, h0, h1, h2⟩ := r.ih j xs q
      exact ⟨b, o, h0, by rw [List.getElem?_set_ne (Ne.symm hne)]; exact h1, h2⟩
  iof := r.iof
  sep := fun j l c1 c2 b hn h1 h2 h3 h4 => by
    rcases get_set h1 with ⟨rfl, q⟩ | ⟨hj, q⟩
    · rcases get_set h2 with ⟨rfl, q'⟩ | ⟨hl, q'⟩
      · exact hn rfl
      · rw [List.getElem?_set_self (by rw [← r.len]; exact hi)] at h3
        cases h3
        rw [List.getElem?_set_ne (Ne.symm hl)] at h4
        exact f.no l c2 q' h4
    · rw [List.getElem?_set_ne (Ne.symm hj)] at h3
      rcases get_set h2 with ⟨rfl, q'⟩ | ⟨hl, q'⟩
      · rw [List.getElem?_set_self (by rw [← r.len]; exact hi)] at h4
        cases h4
        exact f.no j c1 q h3
      · rw [List.getElem?_set_ne (Ne.symm hl)] at h4
        exact r.sep j l c1 c2 b hn q q' h3 h4
  iu := fun j l xs ys h1 h2 => by
    rcases get_set h1 with ⟨_, q⟩ | ⟨_, q⟩
    · cases q
    · rcases get_set h2 with ⟨_, q'⟩ | ⟨_, q'⟩
      · cases q'
      · exact r.iu j l xs ys q q'
/-- an owned thing is changed -/
theorem Rel.mut {i : Nat} {a : Addr} {c c' : Cl} {o' : HO} (r : Rel K mg g F σ H e) (hc : e[i]? = some (.ow c)) (ha : σ[i]? = some (some (.ref a))) (h' : RpO K mg F o' c') : Rel K mg g F σ (upd H a o') (e.set i (.ow c')) := by
  obtain ⟨a', o, h1, h2, h3, h4, h5, h6⟩ := r.ow i c hc
  rw [ha] at h1
  cases h1
  have hi := lt_of_get hc
  refine ⟨by rw [List.length_set]; exact r.len, r.f0, fun b x q => ?_, r.nw, fun b x q hb => ?_, fun j d hj => ?_, fun j c1 hj => ?_, fun j xs hj => ?_, fun b hb => ?_, fun j l c1 c2 b hn q1 q2 q3 q4 => ?_, fun j l xs ys h1 h2 => by
    rcases get_set h1 with ⟨_, q⟩ | ⟨_, q⟩
    · cases q
    · rcases get_set h2 with ⟨_, q'⟩ | ⟨_, q'⟩
      · cases q'
      · exact r.iu j l xs ys q q'⟩
  · rw [upd_ne (ne_of_none q h4)]
    exact r.fh b x q
  · rw [upd_ne (ne_of_none q h5)]
    exact r.old b x q hb
  · rcases get_set hj with ⟨rfl, q⟩ | ⟨hne, q⟩
    · cases q
    · exact r.im j d q
  · rcases get_set hj with ⟨rfl, q⟩ | ⟨hne, q⟩
    · cases q
      exact ⟨a, o', ha, upd_same, h', h4, h5, h6⟩
    · obtain ⟨b, u, k1, k2, k3⟩ := r.ow j c1 q
      have hb : b ≠ a := fun z => by
        subst z
        exact r.sep j i c1 c b hne q hc k1 ha
      exact ⟨b, u, k1, by rw [upd_ne hb]; exact k2, k3⟩
  · rcases get_set hj with ⟨rfl, q⟩ | ⟨hne, q⟩
    · cases q
    · obtain ⟨b, vs, k0, k1, k2, k3⟩ := r.ih j xs q
      have hb : b ≠ a := fun z => by
        subst z
        exact h6 k0
      exact ⟨b, vs, k0, k1, by rw [upd_ne hb]; exact k2, k3⟩
  · have hb' : b ≠ a := fun z => by
      subst z
      exact h6 hb
    rw [upd_ne hb']
    exact r.iof b hb
  · have g1 : ∃ c, e[j]? = some (.ow c) := by
      rcases get_set q1 with ⟨rfl, q⟩ | ⟨hne, q⟩
      · exact ⟨c, hc⟩
      · exact ⟨c1, q⟩
    have g2 : ∃ c, e[l]? = some (.ow c) := by
      rcases get_set q2 with ⟨rfl, q⟩ | ⟨hne, q⟩
      · exact ⟨c, hc⟩
      · exact ⟨c2, q⟩
    obtain ⟨c1', g1⟩ := g1
    obtain ⟨c2', g2⟩ := g2
    exact r.sep j l c1' c2' b hn g1 g2 q3 q4
/-- the caller's thing is changed -/
theorem Rel.mutIo {i : Nat} {a : Addr} {xs ys : List D} {ws : List V} (r : Rel K mg g F σ H e) (hc : e[i]? = some (.io xs)) (ha : σ[i]? = some (some (.ref a))) (h' : RpA K mg F ws ys) : Rel K mg g F σ (upd H a (.lst ws)) (e.set i (.io ys)) := by
  obtain ⟨a', vs, h0, h1, h2, h3⟩ := r.ih i xs hc
  rw [ha] at h1
  cases h1
  obtain ⟨h4, h5⟩ := r.iof a h0
  have hi := lt_of_get hc
  have ho : ∀ j zs, j ≠ i → e[j]? ≠ some (.io zs) := fun j zs hj q => hj (r.iu j i zs xs q hc)
  refine ⟨by rw [List.length_set]; exact r.len, r.f0, fun b x q => ?_, r.nw, fun b x q hb => ?_, fun j d hj => ?_, fun j c1 hj => ?_, fun j xs hj => ?_, fun b hb => ?_, fun j l c1 c2 b hn q1 q2 q3 q4 => ?_, fun j l x1 x2 h1 h2 => ?_⟩
  · rw [upd_ne (ne_of_none q h4)]
    exact r.fh b x q
  · have hb' : b ≠ a := fun z => by
      subst z
      exact hb h0
    rw [upd_ne hb']
    exact r.old b x q hb
  · rcases get_set hj with ⟨rfl, q⟩ | ⟨hne, q⟩
    · cases q
    · exact r.im j d q
  · rcases get_set hj with ⟨rfl, q⟩ | ⟨hne, q⟩
    · cases q
    · obtain ⟨b, u, k1, k2, k3, k4, k5, k6⟩ := r.ow j c1 q
      have hb : b ≠ a := fun z => by
        subst z
        exact k6 h0
      exact ⟨b, u, k1, by rw [upd_ne hb]; exact k2, k3, k4, k5, k6⟩
  · rcases get_set hj with ⟨rfl, q⟩ | ⟨hne, q⟩
    · cases q
      exact ⟨a, ws, h0, ha, upd_same, h'⟩
    · exact absurd q (ho j xs hne)
  · have e0 : b = a := Option.some.inj (hb.symm.trans h0)
    subst e0
    exact ⟨h4, by rw [upd_same]; exact fun z => nomatch z⟩
  · rcases get_set q1 with ⟨rfl, q⟩ | ⟨_, q1⟩
    · cases q
    · rcases get_set q2 with ⟨rfl, q⟩ | ⟨_, q2⟩
      · cases q
      · exact r.sep j l c1 c2 b hn q1 q2 q3 q4
  · rcases get_set h1 with ⟨e1, _⟩ | ⟨n1, q⟩
    · rcases get_set h2 with ⟨e2, _⟩ | ⟨n2, q'⟩
      · rw [e1, e2]
      · exact absurd q' (ho l x2 n2)
    · exact absurd q (ho j x1 n1)
/-- an owned slot is frozen -/
theorem Rel.freeze {i : Nat} {c : Cl} (r : Rel K mg g F σ H e) (hc : e[i]? = some (.ow c)) : ∃ F', Rel K mg g F' σ H (e.set i (.im c.D)) ∧ Same F F' := by
  obtain ⟨a, o, h1, h2, h3, h4, h5, h6⟩ := r.ow i c hc
  have hi := lt_of_get hc
  -- first the slot is let go
  have r1 : Rel K mg g F σ H (e.set i .un) := by
    refine ⟨by rw [List.length_set]; exact r.len, r.f0, r.fh, r.nw, r.old, fun j d hj => ?_, fun j c1 hj => ?_, fun j xs hj => ?_, r.iof, fun j l c1 c2 b hn q1 q2 q3 q4 => ?_, fun j l xs ys h1 h2 => by
      rcases get_set h1 with ⟨_, q⟩ | ⟨_, q⟩
      · cases q
      · rcases get_set h2 with ⟨_, q'⟩ | ⟨_, q'⟩
        · cases q'
        · exact r.iu j l xs ys q q'⟩
    · rcases get_set hj with ⟨rfl, q⟩ | ⟨hne, q⟩
      · cases q
      · exact r.im j d q
    · rcases get_set hj with ⟨rfl, q⟩ | ⟨hne, q⟩
      · cases q
      · exact r.ow j c1 q
    · rcases get_set hj with ⟨rfl, q⟩ | ⟨hne, q⟩
      · cases q
      · exact r.ih j xs q
    · rcases get_set q1 with ⟨rfl, q⟩ | ⟨_, q1⟩
      · cases q
      · rcases get_set q2 with ⟨rfl, q⟩ | ⟨_, q2⟩
        · cases q
        · exact r.sep j l c1 c2 b hn q1 q2 q3 q4
  have r2 := r1.freezeAt h2 h5 h6 (fun j c1 hj z => by
    rcases get_set hj with ⟨rfl, q⟩ | ⟨hne, q⟩
    · cases q
    · exact r.sep j i c1 c a hne q hc z h1) h4
  have r3 := r2.setIm (i := i) (v := .ref a) ((h3.mono (same_upd h4)).rp upd_same (Same.refl _)) (by unfold mayset; rw [List.getElem?_set_self hi]) (by rw [List.length_set]; exact hi)
  rw [List.set_set] at r3
  have e1 : σ.set i (some (.ref a)) = σ := by
    apply List.ext_getElem?
    intro j
    by_cases hj : i = j
    · subst hj
      rw [List.getElem?_set_self (by rw [← r.len]; exact hi), h1]
    · rw [List.getElem?_set_ne hj]
  rw [e1] at r3
  exact ⟨_, r3, same_upd h4⟩
/-! #### what is not owned is kept -/
def own (e : Ev) (i : Nat) : Bool := match e[i]? with
  | some (.ow _) => true
  | some (.io _) => true
  | _ => false
def Free (σ : L2.St) (e : Ev) (a : Addr) : Prop := ∀ i, own e i = true → σ[i]? ≠ some (some (.ref a))
structure Kp (σ : L2.St) (F : Hp) (e : Ev) (H F' : Hp) (e' : Ev) (H' : Hp) : Prop where
  keep : ∀ a o, H a = some o → Free σ e a → H' a = some o
  free : ∀ a, Free σ e a → Free σ e' a
  nwf : ∀ a, F' a ≠ none → F a ≠ none ∨ H a = none ∨ ¬ Free σ e a
theorem Kp.gr {σ : L2.St} {e : Ev} {F H F' H' : Hp} (x : Gr F H F' H') : Kp σ F e H F' e H' := ⟨fun a o h _ => x.hh _ _ h, fun _ h => h, fun a h => (x.nw a h).elim .inl fun z => .inr (.inl z)⟩
theorem Kp.rfl {σ : L2.St} {e : Ev} {F H : Hp} : Kp σ F e H F e H := ⟨fun a o h _ => h, fun _ h => h, fun a h => .inl h⟩
theorem Kp.trans {σ : L2.St} {e e1 e2 : Ev} {F H F1 H1 F2 H2 : Hp} (a : Kp σ F e H F1 e1 H1) (b : Kp σ F1 e1 H1 F2 e2 H2) : Kp σ F e H F2 e2 H2 := ⟨fun x o h f => b.keep x o (a.keep x o h f) (a.free x f), fun x f => b.free x (a.free x f), fun x h => by
  rcases b.nwf x h with h | h | h
  · exact a.nwf x h
  · cases q : H x with
    | none => exact .inr (.inl (Eq.refl none))
    | some o => exact .inr (.inr fun f => by rw [a.keep x o q f] at h; cases h)
  · exact .inr (.inr fun f => h (a.free x f))⟩
theorem own_ow {e : Ev} {i : Nat} {c : Cl} (h : e[i]? = some (.ow c)) : own e i = true := by
  unfold own
  rw [h]
theorem own_io {e : Ev} {i : Nat} {c : List D} (h : e[i]? = some (.io c)) : own e i = true := by
  unfold own
  rw [h]
end
end DL


namespace DL
open PySem PySem.Spec PyProof.Rows L2

/-! ### the judgements -/
/-- an exception that the program raises: its place -/
structure ExcAt (K : PySem.W.Frag) (mg : Str → Option Value) (F H : Hp) (c : Str) (p : D) (C dd : Addr) : Prop where
  cls : mg c = some (.ref C)
  xd : ∃ fs v, H dd = some (.xd fs) ∧ fs.lookup ("place" : Str) = some v ∧ Rp K mg F v p
section
variable (X : Cx) (W : WX)
/-- what is wanted of an outcome -/
def Ot {α : Type} (g : Gd) (F : Hp) (σ : L2.St) (e : Ev) (m : R α) (q : α → Prop) : Prop := match m with
  | .ok a => q a
  | .ex c p => ∀ C dd F' H', Rel X.K X.mg g F' σ H' e → Same F F' → ExcAt X.K X.mg F' H' c p C dd → W (.ref C) (some dd) σ H'
  | .no => False
def tP (f : Ev → R D) : TE := fun σ H Q => ∃ g F e, Rel X.K X.mg g F σ H e ∧ Ot X W g F σ e (f e) fun d => ∀ v F' H', Gr F H F' H' → Rp X.K X.mg F' v d → Q v H'
def tB (f : Ev → R D) : TE := fun σ H Q => ∃ g F e, Rel X.K X.mg g F σ H e ∧ Ot X W g F σ e (f e) fun d => ∀ v F' H', Gr F H F' H' → RpB X.K X.mg F' H' v d → Q v H'
/-- a new owned thing -/
def tL (f : Ev → R Cl) : TE := fun σ H Q => ∃ g F e, Rel X.K X.mg g F σ H e ∧ Ot X W g F σ e (f e) fun c => ∀ a F' H', Gr F H F' H' → Fresh X.K X.mg g F' σ H' e a c → H a = none → Q (.ref a) H'
def tAs (f : Ev → R (List D)) : TA := fun σ H Q => ∃ g F e, Rel X.K X.mg g F σ H e ∧ Ot X W g F σ e (f e) fun ds => ∀ vs F' H', Gr F H F' H' → RpA X.K X.mg F' vs ds → Q vs H'
inductive RpBs (K : PySem.W.Frag) (mg : Str → Option Value) (F H : Hp) : List V → List D → Prop
  | nil : RpBs K mg F H [] []
  | cons {v : V} {vs : List V} {d : D} {ds : List D} : RpB K mg F H v d → RpBs K mg F H vs ds → RpBs K mg F H (v :: vs) (d :: ds)
def tBs (f : Ev → R (List D)) : TA := fun σ H Q => ∃ g F e, Rel X.K X.mg g F σ H e ∧ Ot X W g F σ e (f e) fun ds => ∀ vs F' H', Gr F H F' H' → RpBs X.K X.mg F' H' vs ds → Q vs H'
/-- what may change what is owned: no exception -/
def On {α : Type} (m : R α) (q : α → Prop) : Prop := match m with
  | .ok a => q a
  | _ => False
def tM (f : Ev → R (D × Ev)) : TE := fun σ H Q => ∃ g F e, Rel X.K X.mg g F σ H e ∧ On (f e) fun r => ∀ v F' H', Rel X.K X.mg g F' σ H' r.2 → Same F F' → Kp σ F e H F' r.2 H' → Rp X.K X.mg F' v r.1 → Q v H'
def tMs (f : Ev → R (List D × Ev)) : TA := fun σ H Q => ∃ g F e, Rel X.K X.mg g F σ H e ∧ On (f e) fun r => ∀ vs F' H', Rel X.K X.mg g F' σ H' r.2 → Same F F' → Kp σ F e H F' r.2 H' → RpA X.K X.mg F' vs r.1 → Q vs H'
def tML (f : Ev → R (Cl × Ev)) : TE := fun σ H Q => ∃ g F e, Rel X.K X.mg g F σ H e ∧ On (f e) fun r => ∀ a F' H', Rel X.K X.mg g F' σ H' r.2 → Same F F' → Kp σ F e H F' r.2 H' → Fresh X.K X.mg g F' σ H' r.2 a r.1 → (H a = none ∨ ¬ Free σ e a) → Q (.ref a) H'
def tTP (f : Ev → R Bool) : TT := fun σ H Q => ∃ g F e, Rel X.K X.mg g F σ H e ∧ Ot X W g F σ e (f e) fun b => ∀ F' H', Gr F H F' H' → Q b H'
def tTM (f : Ev → R (Bool × Ev)) : TT := fun σ H Q => ∃ g F e, Rel X.K X.mg g F σ H e ∧ On (f e) fun r => ∀ F' H', Rel X.K X.mg g F' σ H' r.2 → Same F F' → Kp σ F e H F' r.2 H' → Q r.1 H'
end
structure P (X : Cx) (W : WX) (x : Expr) (f : Ev → R D) : Prop where
  pe : PE X x (tP X W f)
structure B (X : Cx) (W : WX) (x : Expr) (f : Ev → R D) : Prop where
  pe : PE X x (tB X W f)
structure L (X : Cx) (W : WX) (x : Expr) (f : Ev → R Cl) : Prop where
  pe : PE X x (tL X W f)
structure Ps (X : Cx) (W : WX) (xs : List Expr) (f : Ev → R (List D)) : Prop where
  pa : PA X xs (tAs X W f)
  len : ∀ e ds, f e = .ok ds → ds.length = xs.length
structure Bs (X : Cx) (W : WX) (xs : List Expr) (f : Ev → R (List D)) : Prop where
  pa : PA X xs (tBs X W f)
  len : ∀ e ds, f e = .ok ds → ds.length = xs.length
structure M (X : Cx) (x : Expr) (f : Ev → R (D × Ev)) : Prop where
  pe : PE X x (tM X f)
structure Ms (X : Cx) (xs : List Expr) (f : Ev → R (List D × Ev)) : Prop where
  pa : PA X xs (tMs X f)
  len : ∀ e ds, f e = .ok ds → ds.1.length = xs.length
structure ML (X : Cx) (x : Expr) (f : Ev → R (Cl × Ev)) : Prop where
  pe : PE X x (tML X f)
structure T (X : Cx) (W : WX) (x : Expr) (f : Ev → R Bool) : Prop where
  pt : PT X x (tTP X W f)
structure TM (X : Cx) (x : Expr) (f : Ev → R (Bool × Ev)) : Prop where
  pt : PT X x (tTM X f)

section
variable {X : Cx} {W : WX} {x y z : Expr} {xs : List Expr} {t u : TE} {pos : Pos}
theorem PE_mono (h : PE X x t) (i : ∀ σ H Q, u σ H Q → t σ H Q) : PE X x u := ⟨fun pins s σ H Q I q => h.run pins s σ H Q I (i σ H Q q)⟩
theorem PT_mono {t u : TT} (h : PT X x t) (i : ∀ σ H Q, u σ H Q → t σ H Q) : PT X x u := ⟨fun pins s σ H Q I q => h.run pins s σ H Q I (i σ H Q q)⟩
theorem PW_mono {t u : TT} (h : PW X x t) (i : ∀ σ H Q, u σ H Q → t σ H Q) : PW X x u := ⟨fun wh pins s σ H Q I q => h.run wh pins s σ H Q I (i σ H Q q)⟩
theorem PA_mono {t u : TA} (h : PA X xs t) (i : ∀ σ H Q, u σ H Q → t σ H Q) : PA X xs u := ⟨fun pos pins s σ H Q I q => h.run pos pins s σ H Q I (i σ H Q q)⟩
theorem PS_mono {st : Stmt} {t u : TS} (h : PS X st t) (i : ∀ D σ H, u D σ H → t D σ H) : PS X st u := ⟨fun pins s σ H D I q => h.run pins s σ H D I (i D σ H q)⟩
theorem PSs_mono {st : List Stmt} {t u : TS} (h : PSs X st t) (i : ∀ D σ H, u D σ H → t D σ H) : PSs X st u := ⟨fun pins s σ H D I q => h.run pins s σ H D I (i D σ H q)⟩
theorem PI_mono {tg : Expr} {t u : TI} (h : PI X tg x t) (i : ∀ σ H Q, u σ H Q → t σ H Q) : PI X tg x u := ⟨fun pins s σ H Q I q => h.run pins s σ H Q I (i σ H Q q)⟩
section
variable {g : Gd} {F F' : Hp} {σ : L2.St} {e : Ev}
theorem Ot.up {α : Type} {m : R α} {q : α → Prop} (h : Ot X W g F σ e m q) (s : Same F F') : Ot X W g F' σ e m q := by
  cases m with
  | ok a => exact h
  | ex c p => exact fun C dd F2 H' r s2 => h C dd F2 H' r (s.trans s2)
  | no => exact h
theorem Ot.imp {α : Type} {m : R α} {q q' : α → Prop} (h : Ot X W g F σ e m q) (i : ∀ a, q a → q' a) : Ot X W g F σ e m q' := by
  cases m with
  | ok a => exact i a h
  | ex c p => exact h
  | no => exact h
theorem Ot.bind {α β : Type} {m : R α} {k : α → R β} {q : β → Prop} (h : Ot X W g F σ e (m >>= k) q) : Ot X W g F σ e m fun a => Ot X W g F σ e (k a) q := by
  cases m with
  | ok a => exact h
  | ex c p => exact h
  | no => exact h
theorem Ot.ok {α : Type} {m : R α} {q : α → Prop} (h : Ot X W g F σ e m q) {a : α} (he : m = .ok a) : q a := by
  subst he
  exact h
theorem Ot.no {α : Type} {q : α → Prop} (h : Ot X W g F σ e (.no : R α) q) : False := h
theorem Ot.chk {α : Type} {b : Bool} {m : R α} {q : α → Prop} (h : Ot X W g F σ e (R.chk b m) q) : b = true ∧ Ot X W g F σ e m q := by
  cases b with
  | true => exact ⟨rfl, h⟩
  | false => exact absurd (show False from h) id
theorem On.bind {α β : Type} {m : R α} {k : α → R β} {q : β → Prop} (h : On (m >>= k) q) : ∃ a, m = .ok a ∧ On (k a) q := by
  cases m with
  | ok a => exact ⟨a, rfl, h⟩
  | ex c p => exact (show False from h).elim
  | no => exact (show False from h).elim
theorem On.imp {α : Type} {m : R α} {q q' : α → Prop} (h : On m q) (i : ∀ a, q a → q' a) : On m q' := by
  cases m with
  | ok a => exact i a h
  | ex c p => exact h
  | no => exact h
theorem On.bind' {α β : Type} {m : R α} {k : α → R β} {q : β → Prop} (h : On (m >>= k) q) : On m fun a => On (k a) q := by
  cases m with
  | ok a => exact h
  | ex c p => exact h
  | no => exact h
end
/-- an option as an outcome -/
def R.ofO {α : Type} : Option α → R α
  | some a => .ok a
  | none => .no
theorem Ot.ofO {α : Type} {g : Gd} {F : Hp} {σ : L2.St} {e : Ev} {m : Option α} {q : α → Prop} (h : Ot X W g F σ e (R.ofO m) q) : ∃ a, m = some a ∧ q a := by
  cases m with
  | some a => exact ⟨a, rfl, h⟩
  | none => exact (show False from h).elim
theorem On.ofO {α : Type} {m : Option α} {q : α → Prop} (h : On (R.ofO m) q) : ∃ a, m = some a ∧ q a := by
  cases m with
  | some a => exact ⟨a, rfl, h⟩
  | none => exact (show False from h).elim

/-! ### lifts -/
theorem P.b {f : Ev → R D} (h : P X W x f) : B X W x f := ⟨PE_mono h.pe fun σ H Q ⟨g, F, e, r, o⟩ => ⟨g, F, e, r, o.imp fun d k v F' H' gr rp => k v F' H' gr (.inl rp)⟩⟩
def up (f : Ev → R D) : Ev → R (D × Ev) := fun e => f e >>= fun d => .ok (d, e)
theorem P.m {f : Ev → R D} (h : P X W x f) : M X x (up f) := ⟨PE_mono h.pe fun σ H Q ⟨g, F, e, r, o⟩ => by
  obtain ⟨d, hd, k⟩ := On.bind o
  refine ⟨g, F, e, r, ?_⟩
  rw [hd]
  exact fun v F' H' gr rp => k v F' H' (r.ext gr) gr.ff (.gr gr) rp⟩
def fz (f : Ev → R Cl) : Ev → R D := fun e => f e >>= fun c => .ok c.D
theorem L.p {f : Ev → R Cl} (h : L X W x f) : P X W x (fz f) := ⟨PE_mono h.pe fun σ H Q ⟨g, F, e, r, o⟩ => ⟨g, F, e, r, o.bind.imp fun c k a F' H' gr fr hn => by
  obtain ⟨ob, h1, h2⟩ := fr.ob
  refine k (.ref a) (upd F' a ob) H' ⟨gr.ff.trans (same_upd fr.nf), fun b u q => ?_, gr.hh, fun b q => ?_⟩ ((h2.mono (same_upd fr.nf)).rp upd_same (Same.refl _))
  · by_cases hb : b = a
    · subst hb
      rw [upd_same] at q
      rw [h1, q]
    · rw [upd_ne hb] at q
      exact gr.fh b u q
  · by_cases hb : b = a
    · subst hb
      exact .inr hn
    · rw [upd_ne hb] at q
      exact gr.nw b q⟩⟩
def upL (f : Ev → R Cl) : Ev → R (Cl × Ev) := fun e => f e >>= fun d => .ok (d, e)
theorem L.m {f : Ev → R Cl} (h : L X W x f) : ML X x (upL f) := ⟨PE_mono h.pe fun σ H Q ⟨g, F, e, r, o⟩ => by
  obtain ⟨d, hd, k⟩ := On.bind o
  refine ⟨g, F, e, r, ?_⟩
  rw [hd]
  exact fun v F' H' gr fr hn => k v F' H' (r.ext gr) gr.ff (.gr gr) fr (.inl hn)⟩
def fzM (f : Ev → R (Cl × Ev)) : Ev → R (D × Ev) := fun e => f e >>= fun c => .ok (c.1.D, c.2)
theorem ML.m {f : Ev → R (Cl × Ev)} (h : ML X x f) : M X x (fzM f) := ⟨PE_mono h.pe fun σ H Q ⟨g, F, e, r, o⟩ => ⟨g, F, e, r, o.bind'.imp fun c k a F' H' r' s kp fr hn => by
  obtain ⟨ob, h1, h2⟩ := fr.ob
  exact k (.ref a) (upd F' a ob) H' (r'.freezeAt h1 fr.n0 fr.ni fr.no fr.nf) (s.trans (same_upd fr.nf)) ⟨kp.keep, kp.free, fun b q => by
    by_cases hb : b = a
    · subst hb
      exact .inr hn
    · rw [upd_ne hb] at q
      exact kp.nwf b q⟩ ((h2.mono (same_upd fr.nf)).rp upd_same (Same.refl _))⟩⟩
theorem T.m {f : Ev → R Bool} (h : T X W x f) : TM X x (fun e => f e >>= fun b => .ok (b, e)) := ⟨PT_mono h.pt fun σ H Q ⟨g, F, e, r, o⟩ => by
  obtain ⟨d, hd, k⟩ := On.bind o
  refine ⟨g, F, e, r, ?_⟩
  rw [hd]
  exact fun F' H' gr => k F' H' (r.ext gr) gr.ff (.gr gr)⟩

/-! ### names and constants -/
def vB (i : Nat) : Ev → R D := fun e => match e[i]? with
  | some (.im d) => .ok d
  | some (.ow c) => .ok c.D
  | some (.io xs) => .ok (.lst xs)
  | _ => .no
def vP (i : Nat) : Ev → R D := fun e => match e[i]? with
  | some (.im d) => .ok d
  | _ => .no
theorem P.v (i : Nat) {n : Str} (hN : X.N[i]? = some n := by rfl) (hv : Vis X.env.scope n := by first | exact Or.inl rfl | exact Or.inr (Or.inl rfl) | exact Or.inr (Or.inr rfl)) (hd : (n == ("__debug__" : Str)) = false := by decide)
    (hcd : (n == ("__classdict__" : Str)) = false := by decide) : P X W (.Name n pos) (vP i) := ⟨PE_mono (pe_var hN hv hd hcd) fun σ H Q ⟨g, F, e, r, o⟩ => by
  unfold vP at o
  split at o
  · rename_i d he
    obtain ⟨v, h1, h2⟩ := r.im i d he
    exact ⟨v, h1, o v F H (Gr.refl r.fh) h2⟩
  · exact (Ot.no o).elim⟩
theorem B.v (i : Nat) {n : Str} (hN : X.N[i]? = some n := by rfl) (hv : Vis X.env.scope n := by first | exact Or.inl rfl | exact Or.inr (Or.inl rfl) | exact Or.inr (Or.inr rfl)) (hd : (n == ("__debug__" : Str)) = false := by decide)
    (hcd : (n == ("__classdict__" : Str)) = false := by decide) : B X W (.Name n pos) (vB i) := ⟨PE_mono (pe_var hN hv hd hcd) fun σ H Q ⟨g, F, e, r, o⟩ => by
  unfold vB at o
  split at o
  · rename_i d he
    obtain ⟨v, h1, h2⟩ := r.im i d he
    exact ⟨v, h1, o v F H (Gr.refl r.fh) (.inl h2)⟩
  · rename_i c he
    obtain ⟨a, ob, h1, h2, h3, _⟩ := r.ow i c he
    exact ⟨.ref a, h1, o _ F H (Gr.refl r.fh) (.inr ⟨a, ob, c, rfl, h2, h3, rfl⟩)⟩
  · rename_i c he
    obtain ⟨a, vs, _, h1, h2, h3⟩ := r.ih i c he
    exact ⟨.ref a, h1, o _ F H (Gr.refl r.fh) (.inr ⟨a, _, .l c, rfl, h2, .l h3, rfl⟩)⟩
  · exact (Ot.no o).elim⟩
def cst (d : D) : Ev → R D := fun _ => .ok d
theorem tC_mono {v : V} {d : D} (h : ∀ F, Rp X.K X.mg F v d) (σ : L2.St) (H : Hp) (Q : VK) : tP X W (cst d) σ H Q → tC v σ H Q := fun ⟨g, F, e, r, o⟩ => o v F H (Gr.refl r.fh) (h F)
theorem P.i {i : Int} {j pos} : P X W (.Constant (.int i) j pos) (cst (.int i)) := ⟨PE_mono pe_int (tC_mono fun _ => .int i)⟩
theorem P.bl {b : Bool} {j pos} : P X W (.Constant (.bool b) j pos) (cst (.bl b)) := ⟨PE_mono pe_bl (tC_mono fun _ => .bl b)⟩
theorem P.non {j pos} : P X W (.Constant .none j pos) (cst .non) := ⟨PE_mono pe_non (tC_mono fun _ => .non)⟩
theorem P.str {s : Str} {j pos} : P X W (.Constant (.str s) j pos) (cst (.str s)) := ⟨PE_mono pe_str (tC_mono fun _ => .str s)⟩
/-- a constant of the module -/
theorem P.glob {n : Str} {v : V} {d : D} {u : Value} (hm : X.mg n = some u) (r : RelV v u) (h : ∀ F, Rp X.K X.mg F v d) (hg : Gl X n := by rfl) (hd : (n == ("__debug__" : Str)) = false := by decide) : P X W (.Name n pos) (cst d) := ⟨PE_mono (pe_glob hg hm r hd) (tC_mono h)⟩
/-- a def as a value -/
theorem P.fn {n : Str} {a : Addr} (hm : X.mg n = some (.ref a)) (hg : Gl X n := by rfl) (hd : (n == ("__debug__" : Str)) = false := by decide) : P X W (.Name n pos) (cst (.fn n)) := P.glob hm (v := .ref a) rfl (fun _ => .fn hm) hg hd

/-! ### two-place operations -/
/-- a rule's reading holds where the data's function answers -/
def OpS (X : Cx) (r : R2) (f : D → D → Option D) : Prop := ∀ (F H : Hp) (v w : V) (a b d : D) (Q : VK), Same F H → RpB X.K X.mg F H v a → RpB X.K X.mg F H w b → f a b = some d → (∀ z F' H', Gr F H F' H' → Rp X.K X.mg F' z d → Q z H') → r v w H Q
def bin (f : D → D → Option D) (fa fb : Ev → R D) : Ev → R D := fun e => fa e >>= fun a => fb e >>= fun b => .ofO (f a b)
def binM (f : D → D → Option D) (fa fb : Ev → R (D × Ev)) : Ev → R (D × Ev) := fun e => fa e >>= fun a => fb a.2 >>= fun b => R.ofO (f a.1 b.1) >>= fun d => .ok (d, b.2)
section
variable {f : D → D → Option D} {fa fb : Ev → R D} {r : R2} {ta tb : TE}
theorem bin_mono (hs : OpS X r f) (σ : L2.St) (H : Hp) (Q : VK) : tP X W (bin f fa fb) σ H Q → tOp r (tB X W fa) (tB X W fb) σ H Q := fun ⟨g, F, e, rl, o⟩ =>
  ⟨g, F, e, rl, o.bind.imp fun a o v F1 H1 g1 p1 => ⟨g, F1, e, rl.ext g1, (o.up g1.ff).bind.imp fun b o w F2 H2 g2 p2 => by
    obtain ⟨d, hd, k⟩ := Ot.ofO o
    exact hs F2 H2 v w a b d Q g2.fh (p1.mono g2.ff g2.hh) p2 hd fun z F' H' g3 => k z F' H' ((g1.trans g2).trans g3)⟩⟩
theorem P.op {op : Operator} (ho : OpR X (binaryOp op) r) (hs : OpS X r f) (ha : B X W x fa) (hb : B X W y fb) : P X W (.BinOp x op y pos) (bin f fa fb) := ⟨PE_mono (pe_op ho ha.pe hb.pe) (bin_mono hs)⟩
theorem P.cmp {op : CmpOp} (ho : OpR X (compareOp op) r) (hs : OpS X r f) (ha : B X W x fa) (hb : B X W y fb) (hm : behindInMarks op y = false := by first | exact nomark _ | rfl) : P X W (.Compare x [op] [y] pos) (bin f fa fb) := ⟨PE_mono (pe_cmpR ho ha.pe hb.pe hm) (bin_mono hs)⟩
variable {ma mb : Ev → R (D × Ev)}
theorem binM_mono (hs : OpS X r f) (σ : L2.St) (H : Hp) (Q : VK) : tM X (binM f ma mb) σ H Q → tOp r (tM X ma) (tM X mb) σ H Q := fun ⟨g, F, e, rl, o⟩ =>
  ⟨g, F, e, rl, o.bind'.imp fun a o v F1 H1 r1 s1 k1 p1 => ⟨g, F1, a.2, r1, o.bind'.imp fun b o w F2 H2 r2 s2 k2 p2 => by
    obtain ⟨d, hd, k⟩ := On.bind o
    obtain ⟨d', hd'⟩ : ∃ d', f a.1 b.1 = some d' := by
      cases q : f a.1 b.1 with
      | none => rw [q] at hd; cases hd
      | some d' => exact ⟨d', rfl⟩
    rw [hd'] at hd
    cases hd
    exact hs F2 H2 v w a.1 b.1 d Q r2.fh (.inl (p1.mono s2)) (.inl p2) hd' fun z F' H' g3 p => k z F' H' (r2.ext g3) ((s1.trans s2).trans g3.ff) ((k1.trans k2).trans (.gr g3)) p⟩⟩
theorem M.op {op : Operator} (ho : OpR X (binaryOp op) r) (hs : OpS X r f) (ha : M X x ma) (hb : M X y mb) : M X (.BinOp x op y pos) (binM f ma mb) := ⟨PE_mono (pe_op ho ha.pe hb.pe) (binM_mono hs)⟩
theorem M.cmp {op : CmpOp} (ho : OpR X (compareOp op) r) (hs : OpS X r f) (ha : M X x ma) (hb : M X y mb) (hm : behindInMarks op y = false := by first | exact nomark _ | rfl) : M X (.Compare x [op] [y] pos) (binM f ma mb) := ⟨PE_mono (pe_cmpR ho ha.pe hb.pe hm) (binM_mono hs)⟩
end
/-- one-place -/
def UnS (X : Cx) (r : V → Hp → VK → Prop) (f : D → Option D) : Prop := ∀ (F H : Hp) (v : V) (a d : D) (Q : VK), Same F H → RpB X.K X.mg F H v a → f a = some d → (∀ z F' H', Gr F H F' H' → Rp X.K X.mg F' z d → Q z H') → r v H Q
def un1 (f : D → Option D) (fa : Ev → R D) : Ev → R D := fun e => fa e >>= fun a => .ofO (f a)
theorem P.un {op : UnaryOp} {r : V → Hp → VK → Prop} {f : D → Option D} {fa : Ev → R D} (ho : UnR X (unaryOp op) r) (hs : UnS X r f) (ha : B X W x fa) : P X W (.UnaryOp op x pos) (un1 f fa) := ⟨PE_mono (pe_un ho ha.pe) fun σ H Q ⟨g, F, e, rl, o⟩ =>
  ⟨g, F, e, rl, o.bind.imp fun a o v F1 H1 g1 p1 => by
    obtain ⟨d, hd, k⟩ := Ot.ofO o
    exact hs F1 H1 v a d Q g1.fh p1 hd fun z F' H' g3 => k z F' H' (g1.trans g3)⟩⟩
/-- new things by two-place operations -/
def OpL (X : Cx) (r : R2) (f : D → D → Option Cl) : Prop := ∀ (F H : Hp) (v w : V) (a b : D) (c : Cl) (Q : VK), Same F H → RpB X.K X.mg F H v a → RpB X.K X.mg F H w b → f a b = some c → (∀ p o, H p = none → RpO X.K X.mg F o c → Q (.ref p) (upd H p o)) → r v w H Q
theorem L.op {op : Operator} {r : R2} {f : D → D → Option Cl} {fa fb : Ev → R D} (ho : OpR X (binaryOp op) r) (hs : OpL X r f) (ha : B X W x fa) (hb : B X W y fb) : L X W (.BinOp x op y pos) (fun e => fa e >>= fun a => fb e >>= fun b => .ofO (f a b)) := ⟨PE_mono (pe_op ho ha.pe hb.pe) fun σ H Q ⟨g, F, e, rl, o⟩ =>
  ⟨g, F, e, rl, o.bind.imp fun a o v F1 H1 g1 p1 => ⟨g, F1, e, rl.ext g1, (o.up g1.ff).bind.imp fun b o w F2 H2 g2 p2 => by
    obtain ⟨c, hc, k⟩ := Ot.ofO o
    have g12 := g1.trans g2
    exact hs F2 H2 v w a b c Q g2.fh (p1.mono g2.ff g2.hh) p2 hc fun p ob hp ho => k p F2 (upd H2 p ob) (g12.trans (Gr.junk g2.fh hp)) (Fresh.new (rl.ext g12) hp ho) (g12.hh.free hp)⟩⟩⟩

/-! ### lists of arguments -/
def nilA : Ev → R (List D) := fun _ => .ok []
def conA (fa : Ev → R D) (fr : Ev → R (List D)) : Ev → R (List D) := fun e => fa e >>= fun a => fr e >>= fun r => .ok (a :: r)
def nilM : Ev → R (List D × Ev) := fun e => .ok ([], e)
def conM (fa : Ev → R (D × Ev)) (fr : Ev → R (List D × Ev)) : Ev → R (List D × Ev) := fun e => fa e >>= fun a => fr a.2 >>= fun r => .ok (a.1 :: r.1, r.2)
theorem Ps.nil : Ps X W [] nilA := ⟨PA_mono pa_nil fun σ H Q ⟨g, F, e, rl, o⟩ => o [] F H (Gr.refl rl.fh) .nil, fun e ds h => by cases h; rfl⟩
theorem Bs.nil : Bs X W [] nilA := ⟨PA_mono pa_nil fun σ H Q ⟨g, F, e, rl, o⟩ => o [] F H (Gr.refl rl.fh) .nil, fun e ds h => by cases h; rfl⟩
theorem Ms.nil : Ms X [] nilM := ⟨PA_mono pa_nil fun σ H Q ⟨g, F, e, rl, o⟩ => o [] F H rl (Same.refl _) .rfl .nil, fun e ds h => by cases h; rfl⟩
theorem RpBs.mono {K : PySem.W.Frag} {mg : Str → Option Value} {F F' H H' : Hp} (s : Same F F') (t : Same H H') : ∀ {vs : List V} {ds : List D}, RpBs K mg F H vs ds → RpBs K mg F' H' vs ds
  | _, _, .nil => .nil
  | _, _, .cons h r => .cons (h.mono s t) (RpBs.mono s t r)
theorem Ps.cons {fa : Ev → R D} {fr : Ev → R (List D)} (ha : P X W x fa) (hr : Ps X W xs fr) (hs : starEach (x :: xs) X.env = (false, eval x X.env) :: starEach xs X.env := by rfl) : Ps X W (x :: xs) (conA fa fr) := ⟨PA_mono (pa_cons ha.pe hr.pa hs) fun σ H Q ⟨g, F, e, rl, o⟩ =>
  ⟨g, F, e, rl, o.bind.imp fun a o v F1 H1 g1 p1 => ⟨g, F1, e, rl.ext g1, (o.up g1.ff).bind.imp fun b k w F2 H2 g2 p2 => k (v :: w) F2 H2 (g1.trans g2) (.cons (p1.mono g2.ff) p2)⟩⟩, fun e ds h => by
    obtain ⟨a, _, h⟩ := R.of_bind h
    obtain ⟨r, hr2, h⟩ := R.of_bind h
    cases h
    show r.length + 1 = xs.length + 1
    rw [hr.len _ _ hr2]⟩
theorem Bs.cons {fa : Ev → R D} {fr : Ev → R (List D)} (ha : B X W x fa) (hr : Bs X W xs fr) (hs : starEach (x :: xs) X.env = (false, eval x X.env) :: starEach xs X.env := by rfl) : Bs X W (x :: xs) (conA fa fr) := ⟨PA_mono (pa_cons ha.pe hr.pa hs) fun σ H Q ⟨g, F, e, rl, o⟩ =>
  ⟨g, F, e, rl, o.bind.imp fun a o v F1 H1 g1 p1 => ⟨g, F1, e, rl.ext g1, (o.up g1.ff).bind.imp fun b k w F2 H2 g2 p2 => k (v :: w) F2 H2 (g1.trans g2) (.cons (p1.mono g2.ff g2.hh) p2)⟩⟩, fun e ds h => by
    obtain ⟨a, _, h⟩ := R.of_bind h
    obtain ⟨r, hr2, h⟩ := R.of_bind h
    cases h
    show r.length + 1 = xs.length + 1
    rw [hr.len _ _ hr2]⟩
theorem Ms.cons {fa : Ev → R (D × Ev)} {fr : Ev → R (List D × Ev)} (ha : M X x fa) (hr : Ms X xs fr) (hs : starEach (x :: xs) X.env = (false, eval x X.env) :: starEach xs X.env := by rfl) : Ms X (x :: xs) (conM fa fr) := ⟨PA_mono (pa_cons ha.pe hr.pa hs) fun σ H Q ⟨g, F, e, rl, o⟩ =>
  ⟨g, F, e, rl, o.bind'.imp fun a o v F1 H1 r1 s1 k1 p1 => ⟨g, F1, a.2, r1, o.bind'.imp fun b k w F2 H2 r2 s2 k2 p2 => k (v :: w) F2 H2 r2 (s1.trans s2) (k1.trans k2) (.cons (p1.mono s2) p2)⟩⟩, fun e ds h => by
    obtain ⟨a, _, h⟩ := R.of_bind h
    obtain ⟨r, hr2, h⟩ := R.of_bind h
    cases h
    show r.1.length + 1 = xs.length + 1
    rw [hr.len _ _ hr2]⟩

/-! ### displays -/
def tupD (fs : Ev → R (List D)) : Ev → R D := fun e => fs e >>= fun ds => R.chk (decide (ds.length ≤ sizeLine)) (.ok (.tup ds))
theorem P.tup {k : Nat} {fs : Ev → R (List D)} (h : Ps X W xs fs) : P X W (.Tuple xs k pos) (tupD fs) := ⟨PE_mono (pe_tup h.pa) fun σ H Q ⟨g, F, e, rl, o⟩ => ⟨g, F, e, rl, o.bind.imp fun ds o vs F1 H1 g1 p1 => by
  obtain ⟨c, k⟩ := Ot.chk o
  refine ⟨by rw [p1.length]; exact of_decide_eq_true c, fun p hp => ?_⟩
  exact k (.ref p) _ _ (g1.trans (Gr.new g1.fh hp)) (.tup (.inl (.inl upd_same)) (p1.mono (same_upd (g1.fh.free hp))))⟩⟩
def tupM (fs : Ev → R (List D × Ev)) : Ev → R (D × Ev) := fun e => fs e >>= fun ds => R.chk (decide (ds.1.length ≤ sizeLine)) (.ok (.tup ds.1, ds.2))
theorem M.tup {k : Nat} {fs : Ev → R (List D × Ev)} (h : Ms X xs fs) : M X (.Tuple xs k pos) (tupM fs) := ⟨PE_mono (pe_tup h.pa) fun σ H Q ⟨g, F, e, rl, o⟩ => ⟨g, F, e, rl, o.bind'.imp fun ds o vs F1 H1 r1 s1 k1 p1 => by
  have o' : decide (ds.1.length ≤ sizeLine) = true ∧ ∀ v F' H', Rel X.K X.mg g F' σ H' ds.2 → Same F F' → Kp σ F e H F' ds.2 H' → Rp X.K X.mg F' v (.tup ds.1) → Q v H' := by
    cases q : decide (ds.1.length ≤ sizeLine) with
    | true =>
      rw [q] at o
      exact ⟨rfl, o⟩
    | false =>
      rw [q] at o
      exact (show False from o).elim
  obtain ⟨c, k⟩ := o'
  refine ⟨by rw [p1.length]; exact of_decide_eq_true c, fun p hp => ?_⟩
  have g2 := Gr.new (o := .tup vs) r1.fh hp
  exact k (.ref p) _ _ (r1.ext g2) (s1.trans g2.ff) (k1.trans (.gr g2)) (.tup (.inl (.inl upd_same)) (p1.mono (same_upd (r1.fh.free hp))))⟩⟩
def lstD (fs : Ev → R (List D)) : Ev → R Cl := fun e => fs e >>= fun ds => R.chk (decide (ds.length ≤ sizeLine)) (.ok (.l ds))
theorem L.lst {fs : Ev → R (List D)} (h : Ps X W xs fs) : L X W (.List xs pos) (lstD fs) := ⟨PE_mono (pe_lst h.pa) fun σ H Q ⟨g, F, e, rl, o⟩ => ⟨g, F, e, rl, o.bind.imp fun ds o vs F1 H1 g1 p1 => by
  obtain ⟨c, k⟩ := Ot.chk o
  refine ⟨by rw [p1.length]; exact of_decide_eq_true c, fun p hp => ?_⟩
  exact k p F1 _ (g1.trans (Gr.junk g1.fh hp)) (Fresh.new (rl.ext g1) hp (.l p1)) (g1.hh.free hp)⟩⟩
def lstM (fs : Ev → R (List D × Ev)) : Ev → R (Cl × Ev) := fun e => fs e >>= fun ds => R.chk (decide (ds.1.length ≤ sizeLine)) (.ok (.l ds.1, ds.2))
theorem On.chk {α : Type} {b : Bool} {m : R α} {q : α → Prop} (h : On (R.chk b m) q) : b = true ∧ On m q := by
  cases b with
  | true => exact ⟨rfl, h⟩
  | false => exact (show False from h).elim
theorem ML.lst {fs : Ev → R (List D × Ev)} (h : Ms X xs fs) : ML X (.List xs pos) (lstM fs) := ⟨PE_mono (pe_lst h.pa) fun σ H Q ⟨g, F, e, rl, o⟩ => ⟨g, F, e, rl, o.bind'.imp fun ds o vs F1 H1 r1 s1 k1 p1 => by
  obtain ⟨c, k⟩ := On.chk o
  refine ⟨by rw [p1.length]; exact of_decide_eq_true c, fun p hp => ?_⟩
  refine k p F1 _ (r1.ext (Gr.junk r1.fh hp)) s1 (k1.trans (.gr (Gr.junk r1.fh hp))) (Fresh.new r1 hp (.l p1)) ?_
  cases q : H p with
  | none => exact .inl rfl
  | some u => exact .inr fun f => by rw [k1.keep p u q f] at hp; cases hp⟩⟩

/-! ### tests, and, or, not, if -/
def asB (f : Ev → R D) : Ev → R Bool := fun e => f e >>= fun d => match d with
  | .bl b => .ok b
  | _ => .no
theorem tP_tB {f : Ev → R D} (σ : L2.St) (H : Hp) (Q : Bool → Hp → Prop) : tTP X W (asB f) σ H Q → L2.tB (tP X W f) σ H Q := fun ⟨g, F, e, rl, o⟩ => ⟨g, F, e, rl, o.bind.imp fun d o v F1 H1 g1 p1 => by
  cases d with
  | bl b =>
    cases p1
    exact ⟨b, rfl, o F1 H1 g1⟩
  | _ => exact (Ot.no o).elim⟩
/-- an expression that gives True or False, as a test -/
theorem T.val {f : Ev → R D} (h : P X W x f) (he : ∀ whole, isTrue x X.env whole = (do let v ← whole; standAt x.pos; holding [v] (truthy v)) := by intro _; rfl) : T X W x (asB f) := ⟨PT_mono (pt_val h.pe he) tP_tB⟩
section
variable {f : D → D → Option D} {fa fb : Ev → R D} {r : R2}
theorem T.cmp {op : CmpOp} (ho : OpR X (compareOp op) r) (hs : OpS X r f) (ha : B X W x fa) (hb : B X W y fb) (hm : behindInMarks op y = false := by first | exact nomark _ | rfl) : T X W (.Compare x [op] [y] pos) (asB (bin f fa fb)) := ⟨PT_mono (pt_cmpR ho ha.pe hb.pe hm) fun σ H Q q => by
  have q1 := tP_tB σ H Q q
  exact bin_mono hs σ H _ q1⟩
end
def andT (a b : Ev → R Bool) : Ev → R Bool := fun e => a e >>= fun c => if c = true then b e else .ok false
def orT (a b : Ev → R Bool) : Ev → R Bool := fun e => a e >>= fun c => if c = true then .ok true else b e
def notT (a : Ev → R Bool) : Ev → R Bool := fun e => a e >>= fun c => .ok (!c)
structure TW (X : Cx) (W : WX) (x : Expr) (f : Ev → R Bool) : Prop where
  pw : PW X x (tTP X W f)
section
variable {a b : Ev → R Bool} {rest : List Expr}
theorem TW.go (h : TW X W x a) : T X W x a := ⟨h.pw.pt⟩
theorem TW.and1 (h : T X W x a) : TW X W (.BoolOp .And [x] pos) a := ⟨pw_and1 h.pt⟩
theorem TW.or1 (h : T X W x a) : TW X W (.BoolOp .Or [x] pos) a := ⟨pw_or1 h.pt⟩
theorem TW.and (h : T X W x a) (h2 : TW X W (.BoolOp .And (y :: rest) pos) b) : TW X W (.BoolOp .And (x :: y :: rest) pos) (andT a b) := ⟨PW_mono (pw_and h.pt h2.pw) fun σ H Q ⟨g, F, e, rl, o⟩ => ⟨g, F, e, rl, o.bind.imp fun c o F1 H1 g1 => by
  cases c with
  | true => exact ⟨g, F1, e, rl.ext g1, (o.up g1.ff).imp fun b k F2 H2 g2 => k F2 H2 (g1.trans g2)⟩
  | false => exact o F1 H1 g1⟩⟩
theorem TW.or (h : T X W x a) (h2 : TW X W (.BoolOp .Or (y :: rest) pos) b) : TW X W (.BoolOp .Or (x :: y :: rest) pos) (orT a b) := ⟨PW_mono (pw_or h.pt h2.pw) fun σ H Q ⟨g, F, e, rl, o⟩ => ⟨g, F, e, rl, o.bind.imp fun c o F1 H1 g1 => by
  cases c with
  | false => exact ⟨g, F1, e, rl.ext g1, (o.up g1.ff).imp fun b k F2 H2 g2 => k F2 H2 (g1.trans g2)⟩
  | true => exact o F1 H1 g1⟩⟩
theorem T.not (h : T X W x a) : T X W (.UnaryOp .Not x pos) (notT a) := ⟨PT_mono (pt_not h.pt) fun σ H Q ⟨g, F, e, rl, o⟩ => ⟨g, F, e, rl, o.bind⟩⟩
end
def ifP (c : Ev → R Bool) (a b : Ev → R D) : Ev → R D := fun e => c e >>= fun k => if k = true then a e else b e
theorem P.ite {c : Expr} {fc : Ev → R Bool} {fa fb : Ev → R D} (hc : T X W c fc) (ha : P X W x fa) (hb : P X W y fb) : P X W (.IfExp c x y pos) (ifP fc fa fb) := ⟨PE_mono (pe_ifExp hc.pt ha.pe hb.pe) fun σ H Q ⟨g, F, e, rl, o⟩ => ⟨g, F, e, rl, o.bind.imp fun c o F1 H1 g1 => by
  cases c with
  | true => exact ⟨g, F1, e, rl.ext g1, (o.up g1.ff).imp fun b k v F2 H2 g2 => k v F2 H2 (g1.trans g2)⟩
  | false => exact ⟨g, F1, e, rl.ext g1, (o.up g1.ff).imp fun b k v F2 H2 g2 => k v F2 H2 (g1.trans g2)⟩⟩⟩
/-- and, or, not as values: bools but for the last -/
def andV (a b : Ev → R D) : Ev → R D := fun e => asB a e >>= fun c => if c = true then b e else .ok (.bl false)
def orV (a b : Ev → R D) : Ev → R D := fun e => asB a e >>= fun c => if c = true then .ok (.bl true) else b e
def notV (a : Ev → R D) : Ev → R D := fun e => asB a e >>= fun c => .ok (.bl (!c))
section
variable {a b : Ev → R D} {rest : List Expr}
theorem P.one {op : BoolOp} (h : P X W x a) : P X W (.BoolOp op [x] pos) a := ⟨pe_one h.pe⟩
theorem bl_of {g : Gd} {F : Hp} {σ : L2.St} {e : Ev} {f : Ev → R D} {q : Bool → Prop} (o : Ot X W g F σ e (asB f e) q) : Ot X W g F σ e (f e) fun d => ∃ b, d = .bl b ∧ q b := o.bind.imp fun d o => by
  cases d with
  | bl b => exact ⟨b, rfl, o⟩
  | _ => exact (Ot.no o).elim
theorem P.and (h : P X W x a) (h2 : P X W (.BoolOp .And (y :: rest) pos) b) : P X W (.BoolOp .And (x :: y :: rest) pos) (andV a b) := ⟨PE_mono (pe_and h.pe h2.pe) fun σ H Q ⟨g, F, e, rl, o⟩ => ⟨g, F, e, rl, (bl_of o.bind).imp fun d ⟨c, hd, o⟩ v F1 H1 g1 p1 => by
  subst hd
  cases p1
  refine ⟨c, rfl, ?_⟩
  cases c with
  | true => exact ⟨g, F1, e, rl.ext g1, (o.up g1.ff).imp fun b k v F2 H2 g2 => k v F2 H2 (g1.trans g2)⟩
  | false => exact o (.bl false) F1 H1 g1 (.bl false)⟩⟩
theorem P.or (h : P X W x a) (h2 : P X W (.BoolOp .Or (y :: rest) pos) b) : P X W (.BoolOp .Or (x :: y :: rest) pos) (orV a b) := ⟨PE_mono (pe_or h.pe h2.pe) fun σ H Q ⟨g, F, e, rl, o⟩ => ⟨g, F, e, rl, (bl_of o.bind).imp fun d ⟨c, hd, o⟩ v F1 H1 g1 p1 => by
  subst hd
  cases p1
  refine ⟨c, rfl, ?_⟩
  cases c with
  | false => exact ⟨g, F1, e, rl.ext g1, (o.up g1.ff).imp fun b k v F2 H2 g2 => k v F2 H2 (g1.trans g2)⟩
  | true => exact o (.bl true) F1 H1 g1 (.bl true)⟩⟩
theorem P.not (h : P X W x a) : P X W (.UnaryOp .Not x pos) (notV a) := ⟨PE_mono (pe_not h.pe) fun σ H Q ⟨g, F, e, rl, o⟩ => ⟨g, F, e, rl, (bl_of o.bind).imp fun d ⟨c, hd, o⟩ v F1 H1 g1 p1 => by
  subst hd
  cases p1
  exact ⟨c, rfl, o (.bl (!c)) F1 H1 g1 (.bl (!c))⟩⟩⟩
end
end
end DL


namespace DL
open PySem PySem.Spec PyProof.Rows L2

inductive O where
  | nx (e : Ev) | rt (d : D) (e : Ev) | bk (e : Ev) | ct (e : Ev) | ex (c : Str) (p : D) (e : Ev) | no
def R.o {α : Type} (m : R α) (e : Ev) (k : α → O) : O := match m with
  | .ok a => k a
  | .ex c p => .ex c p e
  | .no => .no
def O.seq (o : O) (k : Ev → O) : O := match o with
  | .nx e => k e
  | o => o
section
variable (X : Cx) (W : WX)
def Os (g : Gd) (F : Hp) (D : Ends) (o : O) : Prop := match o with
  | .nx e' => ∀ σ' F' H', Rel X.K X.mg g F' σ' H' e' → Same F F' → D.nx σ' H'
  | .bk e' => ∀ σ' F' H', Rel X.K X.mg g F' σ' H' e' → Same F F' → D.bk σ' H'
  | .ct e' => ∀ σ' F' H', Rel X.K X.mg g F' σ' H' e' → Same F F' → D.ct σ' H'
  | .rt d e' => ∀ v σ' F' H', Rel X.K X.mg g F' σ' H' e' → Same F F' → Rp X.K X.mg F' v d → D.rt v H'
  | .ex c p e' => ∀ C dd σ' F' H', Rel X.K X.mg g F' σ' H' e' → Same F F' → ExcAt X.K X.mg F' H' c p C dd → W (.ref C) (some dd) σ' H'
  | .no => False
def tS (f : Ev → O) : TS := fun D σ H => ∃ g F e, Rel X.K X.mg g F σ H e ∧ Os X W g F D (f e)
end
structure S (X : Cx) (W : WX) (st : Stmt) (f : Ev → O) : Prop where
  ps : PS X st (tS X W f)
structure Ss (X : Cx) (W : WX) (st : List Stmt) (f : Ev → O) : Prop where
  ps : PSs X st (tS X W f)
/-- a target: the value is frozen; sl: the slots that it may touch -/
def tG (X : Cx) (sl : List Nat) (f : D → Ev → Option Ev) : TG := fun v σ H Q => ∃ g F e d, Rel X.K X.mg g F σ H e ∧ Rp X.K X.mg F v d ∧ ∃ e', f d e = some e' ∧ ∀ σ', Rel X.K X.mg g F σ' H e' → (∀ j, j ∉ sl → σ'[j]? = σ[j]?) → σ'.length = σ.length → Q σ' H
def tGs (X : Cx) (sl : List Nat) (f : List D → Ev → Option Ev) : TGs := fun vs σ H Q => ∃ g F e ds, Rel X.K X.mg g F σ H e ∧ RpA X.K X.mg F vs ds ∧ ∃ e', f ds e = some e' ∧ ∀ σ', Rel X.K X.mg g F σ' H e' → (∀ j, j ∉ sl → σ'[j]? = σ[j]?) → σ'.length = σ.length → Q σ' H
structure G (X : Cx) (sl : List Nat) (tg : Expr) (f : D → Ev → Option Ev) : Prop where
  pg : PG X tg (tG X sl f)
  sub : ∀ d e e', f d e = some e' → ∀ j, own e' j = true → own e j = true
structure Gs (X : Cx) (sl : List Nat) (tg : List Expr) (f : List D → Ev → Option Ev) : Prop where
  pg : PGs X tg (tGs X sl f)
  sub : ∀ d e e', f d e = some e' → ∀ j, own e' j = true → own e j = true

section
variable {X : Cx} {W : WX} {x y z : Expr} {xs : List Expr} {pos : Pos} {st : Stmt} {rest : List Stmt}
theorem Os.mono {g : Gd} {F F' : Hp} {D : Ends} {o : O} (h : Os X W g F D o) (s : Same F F') : Os X W g F' D o := by
  cases o with
  | nx e => exact fun σ' F2 H' r s2 => h σ' F2 H' r (s.trans s2)
  | bk e => exact fun σ' F2 H' r s2 => h σ' F2 H' r (s.trans s2)
  | ct e => exact fun σ' F2 H' r s2 => h σ' F2 H' r (s.trans s2)
  | rt d e => exact fun v σ' F2 H' r s2 => h v σ' F2 H' r (s.trans s2)
  | ex c p e => exact fun C dd σ' F2 H' r s2 => h C dd σ' F2 H' r (s.trans s2)
  | no => exact h
theorem Os.o {α : Type} {g : Gd} {F : Hp} {σ : L2.St} {e : Ev} {D : Ends} {m : R α} {k : α → O} (h : Os X W g F D (m.o e k)) : Ot X W g F σ e m fun a => Os X W g F D (k a) := by
  cases m with
  | ok a => exact h
  | ex c p => exact fun C dd F' H' r s ea => h C dd σ F' H' r s ea
  | no => exact h
/-- from what may change the state -/
def R.on {α : Type} (m : R α) (k : α → O) : O := match m with
  | .ok a => k a
  | _ => .no
theorem Os.on {α : Type} {g : Gd} {F : Hp} {D : Ends} {m : R α} {k : α → O} (h : Os X W g F D (m.on k)) : On m fun a => Os X W g F D (k a) := by
  cases m with
  | ok a => exact h
  | ex c p => exact h
  | no => exact h
def O.chk (b : Bool) (o : O) : O := if b = true then o else .no
theorem Os.chk {g : Gd} {F : Hp} {D : Ends} {b : Bool} {o : O} (h : Os X W g F D (O.chk b o)) : b = true ∧ Os X W g F D o := by
  cases b with
  | true => exact ⟨rfl, h⟩
  | false => exact (show False from h).elim

/-! ### blocks -/
theorem Ss.nil : Ss X W [] .nx := ⟨PSs_mono pss_nil fun D σ H ⟨g, F, e, r, o⟩ => o σ F H r (Same.refl _)⟩
def sq (f k : Ev → O) : Ev → O := fun e => (f e).seq k
theorem sq_mono {f k : Ev → O} (D : Ends) (σ : L2.St) (H : Hp) : tS X W (sq f k) D σ H → tSeq (tS X W f) (tS X W k) D σ H := fun ⟨g, F, e, r, o⟩ => ⟨g, F, e, r, by
  unfold sq at o
  cases q : f e with
  | nx e' =>
    rw [q] at o
    have o' : Os X W g F D (k e') := o
    exact fun σ' F' H' r' s => ⟨g, F', e', r', o'.mono s⟩
  | bk e' => rw [q] at o; exact o
  | ct e' => rw [q] at o; exact o
  | rt d e' => rw [q] at o; exact o
  | ex c p e' => rw [q] at o; exact o
  | no => rw [q] at o; exact o⟩
theorem Ss.cons {f k : Ev → O} (h : S X W st f) (hr : Ss X W rest k) : Ss X W (st :: rest) (sq f k) := ⟨PSs_mono (pss_cons h.ps hr.ps) sq_mono⟩
theorem Ss.one {f : Ev → O} (h : S X W st f) : Ss X W [st] f := ⟨pss_one h.ps⟩
theorem S.pass : S X W (.Pass pos) .nx := ⟨PS_mono ps_pass fun D σ H ⟨g, F, e, r, o⟩ => o σ F H r (Same.refl _)⟩
theorem S.brk : S X W (.Break pos) .bk := ⟨PS_mono ps_break fun D σ H ⟨g, F, e, r, o⟩ => o σ F H r (Same.refl _)⟩
theorem S.cont : S X W (.Continue pos) .ct := ⟨PS_mono ps_continue fun D σ H ⟨g, F, e, r, o⟩ => o σ F H r (Same.refl _)⟩
/-- what is never come to -/
theorem S.never : S X W st (fun _ => .no) := ⟨PS_mono ps_never fun D σ H ⟨g, F, e, r, o⟩ => o⟩
/-- a slot is frozen ahead of a statement -/
def frz (i : Nat) (e : Ev) : Ev := match e[i]? with
  | some (.ow c) => e.set i (.im c.D)
  | _ => e
theorem frz_ok {K : PySem.W.Frag} {mg : Str → Option Value} {g : Gd} {F H : Hp} {σ : L2.St} {e : Ev} (r : Rel K mg g F σ H e) (i : Nat) : ∃ F', Rel K mg g F' σ H (frz i e) ∧ Same F F' := by
  unfold frz
  split
  · rename_i c hc
    exact r.freeze hc
  · exact ⟨F, r, Same.refl _⟩
theorem S.frz (i : Nat) {f : Ev → O} (h : S X W st f) : S X W st (fun e => f (frz i e)) := ⟨PS_mono h.ps fun D σ H ⟨g, F, e, r, o⟩ => by
  obtain ⟨F', r', s⟩ := frz_ok r i
  exact ⟨g, F', _, r', o.mono s⟩⟩
theorem Ss.frz (i : Nat) {f : Ev → O} (h : Ss X W rest f) : Ss X W rest (fun e => f (frz i e)) := ⟨PSs_mono h.ps fun D σ H ⟨g, F, e, r, o⟩ => by
  obtain ⟨F', r', s⟩ := frz_ok r i
  exact ⟨g, F', _, r', o.mono s⟩⟩

/-! ### targets -/
def setV (i : Nat) : D → Ev → Option Ev := fun d e => if (mayset e i && decide (i < e.length)) = true then some (e.set i (.im d)) else none
theorem setV_ok {i : Nat} {d : D} {e e' : Ev} (h : setV i d e = some e') : mayset e i = true ∧ i < e.length ∧ e' = e.set i (.im d) := by
  unfold setV at h
  split at h
  · rename_i c
    rw [Bool.and_eq_true] at c
    exact ⟨c.1, of_decide_eq_true c.2, (Option.some.inj h).symm⟩
  · cases h
theorem G.v (i : Nat) {n : Str} (hN : X.N.Nodup) (hi : X.N[i]? = some n := by rfl) (hx : Loc X.env.scope n := by first | exact Or.inl rfl | exact Or.inr rfl)
    (hf : X.fn n = true ∨ X.env.scope.names.lookup n = some .local := by first | exact .inl rfl | exact .inr rfl | assumption) : G X [i] (.Name n pos) (setV i) := ⟨⟨fun pins s σ H v u Q I rv ⟨g, F, e, d, r, rp, e', he, k⟩ => (pg_name hN hi hx hf).run pins s σ H v u Q I rv (by
  obtain ⟨h1, h2, rfl⟩ := setV_ok he
  exact k _ (r.setIm rp h1 h2) (fun j hj => by rw [List.getElem?_set_ne (fun z => hj (by rw [z]; exact List.mem_singleton_self j))]) (by rw [List.length_set]))⟩, fun d e e' h j hj => by
  obtain ⟨_, _, rfl⟩ := setV_ok h
  unfold own at hj ⊢
  split at hj
  · rename_i q
    rcases get_set q with ⟨_, z⟩ | ⟨_, z⟩
    · cases z
    · rw [z]
  · rename_i q
    rcases get_set q with ⟨_, z⟩ | ⟨_, z⟩
    · cases z
    · rw [z]
  · cases hj⟩
def gnil : List D → Ev → Option Ev := fun ds e => match ds with
  | [] => some e
  | _ => none
def gcon (f : D → Ev → Option Ev) (k : List D → Ev → Option Ev) : List D → Ev → Option Ev := fun ds e => match ds with
  | d :: r => (f d e).bind fun e1 => k r e1
  | [] => none
theorem Gs.nil : Gs X [] [] gnil := ⟨⟨fun pins s σ H vs us Q I rv ⟨g, F, e, ds, r, rp, e', he, k⟩ => pgs_nil.run pins s σ H vs us Q I rv (by
  cases rp with
  | nil =>
    cases he
    exact ⟨rfl, k σ r (fun _ _ => rfl) rfl⟩
  | cons => cases he)⟩, fun d e e' h j hj => by
  cases d with
  | nil => cases h; exact hj
  | cons => cases h⟩
theorem Gs.cons {sl sl' : List Nat} {f : D → Ev → Option Ev} {k : List D → Ev → Option Ev} (h : G X sl x f) (hr : Gs X sl' xs k) (hs : (assignEach (x :: xs) X.env).map (·.2) = assign x X.env :: (assignEach xs X.env).map (·.2) := by rfl) : Gs X (sl ++ sl') (x :: xs) (gcon f k) :=
  ⟨⟨fun pins s σ H vs us Q I rv ⟨g, F, e, ds, r, rp, e', he, q⟩ => (pgs_cons h.pg hr.pg hs).run pins s σ H vs us Q I rv (by
    cases rp with
    | nil => cases he
    | @cons v vs d ds h1 h2 =>
      obtain ⟨e1, he1, he2⟩ : ∃ e1, f d e = some e1 ∧ k ds e1 = some e' := by
        have he' : (f d e).bind (fun e1 => k ds e1) = some e' := he
        cases q : f d e with
        | none => rw [q] at he'; cases he'
        | some e1 => rw [q] at he'; exact ⟨e1, rfl, he'⟩
      refine ⟨v, vs, rfl, g, F, e, d, r, h1, e1, he1, fun σ1 r1 n1 l1 => ⟨g, F, e1, ds, r1, h2, e', he2, fun σ2 r2 n2 l2 => q σ2 r2 (fun j hj => ?_) (l2.trans l1)⟩⟩
      rw [n2 j (fun z => hj (List.mem_append_right _ z)), n1 j (fun z => hj (List.mem_append_left _ z))])⟩, fun d e e' q j hj => by
    cases d with
    | nil => cases q
    | cons d ds =>
      have he' : (f d e).bind (fun e1 => k ds e1) = some e' := q
      cases z : f d e with
      | none => rw [z] at he'; cases he'
      | some e1 => rw [z] at he'; exact h.sub d e e1 z j (hr.sub ds e1 e' he' j hj)⟩
def gtup (k : List D → Ev → Option Ev) : D → Ev → Option Ev := fun d e => match d with
  | .tup ds => k ds e
  | _ => none
theorem RpA.len {K : PySem.W.Frag} {mg : Str → Option Value} {H : Hp} {vs : List V} {ds : List D} (h : RpA K mg H vs ds) : vs.length = ds.length := h.length
theorem G.tup {sl : List Nat} {k : Nat} {kk : List D → Ev → Option Ev} {n : Nat} (hc : X.calm = true) (h : Gs X sl xs kk) (hlen : ∀ ds e e', kk ds e = some e' → ds.length = n) (hn : (assignEach xs X.env).length = n := by rfl) (hst : (assignEach xs X.env).findIdx? (·.1) = none := by rfl) : G X sl (.Tuple xs k pos) (gtup kk) :=
  ⟨⟨fun pins s σ H v u Q I rv ⟨g, F, e, d, r, rp, e', he, q⟩ => (pg_tup hc h.pg hn hst).run pins s σ H v u Q I rv (by
    cases rp with
    | tup h1 h2 =>
      have he' : kk _ e = some e' := he
      exact ⟨_, _, rfl, Same.sqT r.fh h1, by rw [h2.length]; exact hlen _ _ _ he', g, F, e, _, r, h2, e', he', q⟩
    | _ => cases he)⟩, fun d e e' q j hj => by
    cases d with
    | tup ds => exact h.sub ds e e' q j hj
    | _ => cases q⟩
theorem gcon_len {f : D → Ev → Option Ev} {k : List D → Ev → Option Ev} {n : Nat} (h : ∀ ds e e', k ds e = some e' → ds.length = n) : ∀ ds e e', gcon f k ds e = some e' → ds.length = n + 1 := fun ds e e' q => by
  cases ds with
  | nil => cases q
  | cons d ds =>
    have q' : (f d e).bind (fun e1 => k ds e1) = some e' := q
    cases z : f d e with
    | none => rw [z] at q'; cases q'
    | some e1 =>
      rw [z] at q'
      rw [List.length_cons, h ds e1 e' q']
theorem gnil_len : ∀ ds e e', gnil ds e = some e' → ds.length = 0 := fun ds e e' q => by
  cases ds with
  | nil => rfl
  | cons => cases q

/-! ### assignments -/
def O.ofO (o : Option Ev) : O := match o with
  | some e => .nx e
  | none => .no
theorem Os.ofO {g : Gd} {F : Hp} {D : Ends} {o : Option Ev} (h : Os X W g F D (O.ofO o)) : ∃ e', o = some e' ∧ ∀ σ' F' H', Rel X.K X.mg g F' σ' H' e' → Same F F' → D.nx σ' H' := by
  cases o with
  | some e => exact ⟨e, rfl, h⟩
  | none => exact (show False from h).elim
def asg (f : Ev → R D) (gt : D → Ev → Option Ev) : Ev → O := fun e => (f e).o e fun d => .ofO (gt d e)
def asgM (f : Ev → R (D × Ev)) (gt : D → Ev → Option Ev) : Ev → O := fun e => (f e).on fun d => .ofO (gt d.1 d.2)
def setO (i : Nat) (c : Cl) (e : Ev) : Option Ev := if (mayset e i && decide (i < e.length)) = true then some (e.set i (.ow c)) else none
theorem setO_ok {i : Nat} {d : Cl} {e e' : Ev} (h : setO i d e = some e') : mayset e i = true ∧ i < e.length ∧ e' = e.set i (.ow d) := by
  unfold setO at h
  split at h
  · rename_i c
    rw [Bool.and_eq_true] at c
    exact ⟨c.1, of_decide_eq_true c.2, (Option.some.inj h).symm⟩
  · cases h
theorem asg_mono {f : Ev → R D} {sl : List Nat} {gt : D → Ev → Option Ev} (D : Ends) (σ : L2.St) (H : Hp) : tS X W (asg f gt) D σ H → tAsg (tP X W f) (tG X sl gt) D σ H := fun ⟨g, F, e, r, o⟩ =>
  ⟨g, F, e, r, (Os.o o).imp fun d o v F1 H1 g1 rp => by
    obtain ⟨e', he, k⟩ := Os.ofO o
    exact ⟨g, F1, e, d, r.ext g1, rp, e', he, fun σ' r' _ _ => k σ' F1 H1 r' g1.ff⟩⟩
theorem asgM_mono {f : Ev → R (DL.D × Ev)} {sl : List Nat} {gt : DL.D → Ev → Option Ev} (D : Ends) (σ : L2.St) (H : Hp) : tS X W (asgM f gt) D σ H → tAsg (tM X f) (tG X sl gt) D σ H := fun ⟨g, F, e, r, o⟩ =>
  ⟨g, F, e, r, (Os.on o).imp fun d o v F1 H1 r1 s1 _ rp => by
    obtain ⟨e', he, k⟩ := Os.ofO o
    exact ⟨g, F1, d.2, d.1, r1, rp, e', he, fun σ' r' _ _ => k σ' F1 H1 r' s1⟩⟩
section
variable {n : Str} {i : Nat} {pos' : Pos} {f : Ev → R D} {fl : Ev → R Cl} {fm : Ev → R (D × Ev)} {fml : Ev → R (Cl × Ev)}
/-- name = e -/
theorem S.set (i : Nat) (hN : X.N.Nodup) (h : P X W x f) (hi : X.N[i]? = some n := by rfl) (hx : Loc X.env.scope n := by first | exact Or.inl rfl | exact Or.inr rfl) (hs : swapsWith x (some (.Name n pos')) pos.line X.env = pure false := by rfl)
    (hf : X.fn n = true ∨ X.env.scope.names.lookup n = some .local := by first | exact .inl rfl | exact .inr rfl | assumption) : S X W (.Assign [.Name n pos'] x pos) (asg f (setV i)) := ⟨PS_mono (ps_set hN hi hx h.pe hs hf) fun D σ H ⟨g, F, e, r, o⟩ =>
  ⟨g, F, e, r, (Os.o o).imp fun d o v F1 H1 g1 rp => by
    obtain ⟨e', he, k⟩ := Os.ofO o
    obtain ⟨h1, h2, rfl⟩ := setV_ok he
    exact k _ F1 H1 ((r.ext g1).setIm rp h1 h2) g1.ff⟩⟩
theorem S.setM (i : Nat) (hN : X.N.Nodup) (h : M X x fm) (hi : X.N[i]? = some n := by rfl) (hx : Loc X.env.scope n := by first | exact Or.inl rfl | exact Or.inr rfl) (hs : swapsWith x (some (.Name n pos')) pos.line X.env = pure false := by rfl)
    (hf : X.fn n = true ∨ X.env.scope.names.lookup n = some .local := by first | exact .inl rfl | exact .inr rfl | assumption) : S X W (.Assign [.Name n pos'] x pos) (asgM fm (setV i)) := ⟨PS_mono (ps_set hN hi hx h.pe hs hf) fun D σ H ⟨g, F, e, r, o⟩ =>
  ⟨g, F, e, r, (Os.on o).imp fun d o v F1 H1 r1 s1 _ rp => by
    obtain ⟨e', he, k⟩ := Os.ofO o
    obtain ⟨h1, h2, rfl⟩ := setV_ok he
    exact k _ F1 H1 (r1.setIm rp h1 h2) s1⟩⟩
/-- name = a new list, owned -/
def asgL (f : Ev → R Cl) (i : Nat) : Ev → O := fun e => (f e).o e fun c => .ofO (setO i c e)
def asgML (f : Ev → R (Cl × Ev)) (i : Nat) : Ev → O := fun e => (f e).on fun c => .ofO (setO i c.1 c.2)
theorem asgL_mono {fl : Ev → R Cl} {i : Nat} (D : Ends) (σ : L2.St) (H : Hp) : tS X W (asgL fl i) D σ H → tAsg (tL X W fl) (gName i) D σ H := fun ⟨g, F, e, r, o⟩ =>
  ⟨g, F, e, r, (Os.o o).imp fun c o a F1 H1 g1 fr _ => by
    obtain ⟨e', he, k⟩ := Os.ofO o
    obtain ⟨h1, h2, rfl⟩ := setO_ok he
    exact k _ F1 H1 ((r.ext g1).setOw fr h1 h2) g1.ff⟩
theorem asgML_mono {fl : Ev → R (Cl × Ev)} {i : Nat} (D : Ends) (σ : L2.St) (H : Hp) : tS X W (asgML fl i) D σ H → tAsg (tML X fl) (gName i) D σ H := fun ⟨g, F, e, r, o⟩ =>
  ⟨g, F, e, r, (Os.on o).imp fun c o a F1 H1 r1 s1 _ fr _ => by
    obtain ⟨e', he, k⟩ := Os.ofO o
    obtain ⟨h1, h2, rfl⟩ := setO_ok he
    exact k _ F1 H1 (r1.setOw fr h1 h2) s1⟩
/-- .. and frozen at once -/
theorem asgLF_mono {fl : Ev → R Cl} {i : Nat} (D : Ends) (σ : L2.St) (H : Hp) : tS X W (asg (fz fl) (setV i)) D σ H → tAsg (tL X W fl) (gName i) D σ H := fun ⟨g, F, e, r, o⟩ =>
  ⟨g, F, e, r, (Os.o o).bind.imp fun c o a F1 H1 g1 fr _ => by
    obtain ⟨e', he, k⟩ := Os.ofO o
    obtain ⟨h1, h2, rfl⟩ := setV_ok he
    obtain ⟨F2, r2, s2, p2⟩ := fr.freeze (r.ext g1)
    exact k _ F2 H1 (r2.setIm p2 h1 h2) (g1.ff.trans s2)⟩
theorem asgMLF_mono {fl : Ev → R (Cl × Ev)} {i : Nat} (D : Ends) (σ : L2.St) (H : Hp) : tS X W (asgM (fzM fl) (setV i)) D σ H → tAsg (tML X fl) (gName i) D σ H := fun ⟨g, F, e, r, o⟩ =>
  ⟨g, F, e, r, (Os.on o).bind'.imp fun c o a F1 H1 r1 s1 _ fr _ => by
    obtain ⟨e', he, k⟩ := Os.ofO o
    obtain ⟨h1, h2, rfl⟩ := setV_ok he
    obtain ⟨F2, r2, s2, p2⟩ := fr.freeze r1
    exact k _ F2 H1 (r2.setIm p2 h1 h2) (s1.trans s2)⟩
theorem S.setL (i : Nat) (hN : X.N.Nodup) (h : L X W x fl) (hi : X.N[i]? = some n := by rfl) (hx : Loc X.env.scope n := by first | exact Or.inl rfl | exact Or.inr rfl) (hs : swapsWith x (some (.Name n pos')) pos.line X.env = pure false := by rfl)
    (hf : X.fn n = true ∨ X.env.scope.names.lookup n = some .local := by first | exact .inl rfl | exact .inr rfl | assumption) : S X W (.Assign [.Name n pos'] x pos) (asgL fl i) := ⟨PS_mono (ps_set hN hi hx h.pe hs hf) asgL_mono⟩
theorem S.setML (i : Nat) (hN : X.N.Nodup) (h : ML X x fml) (hi : X.N[i]? = some n := by rfl) (hx : Loc X.env.scope n := by first | exact Or.inl rfl | exact Or.inr rfl) (hs : swapsWith x (some (.Name n pos')) pos.line X.env = pure false := by rfl)
    (hf : X.fn n = true ∨ X.env.scope.names.lookup n = some .local := by first | exact .inl rfl | exact .inr rfl | assumption) : S X W (.Assign [.Name n pos'] x pos) (asgML fml i) := ⟨PS_mono (ps_set hN hi hx h.pe hs hf) asgML_mono⟩
/-- a, b = e: by unpacking -/
theorem S.unp {sl : List Nat} {gt : D → Ev → Option Ev} (h : P X W x f) (hg : G X sl y gt) (hs : swapsWithSole [y] x pos.line X.env = pure false := by rfl) (hw : swappedStores [y] x X.env = pure none := by rfl)
    (h1 : (assignEach [y] X.env).map (·.2) = [assign y X.env] := by rfl) : S X W (.Assign [y] x pos) (asg f gt) := ⟨PS_mono (ps_asg h.pe hg.pg hs hw h1) asg_mono⟩
theorem S.unpM {sl : List Nat} {gt : D → Ev → Option Ev} (h : M X x fm) (hg : G X sl y gt) (hs : swapsWithSole [y] x pos.line X.env = pure false := by rfl) (hw : swappedStores [y] x X.env = pure none := by rfl)
    (h1 : (assignEach [y] X.env).map (·.2) = [assign y X.env] := by rfl) : S X W (.Assign [y] x pos) (asgM fm gt) := ⟨PS_mono (ps_asg h.pe hg.pg hs hw h1) asgM_mono⟩
end

/-! ### return, drop -/
def rtn (f : Ev → R D) : Ev → O := fun e => (f e).o e fun d => .rt d e
def rtnM (f : Ev → R (D × Ev)) : Ev → O := fun e => (f e).on fun d => .rt d.1 d.2
theorem S.ret {f : Ev → R D} (h : P X W x f) : S X W (.Return (some x) pos) (rtn f) := ⟨PS_mono (ps_ret h.pe) fun D σ H ⟨g, F, e, r, o⟩ => ⟨g, F, e, r, (Os.o o).imp fun d k v F1 H1 g1 rp => k v σ F1 H1 (r.ext g1) g1.ff rp⟩⟩
theorem S.retM {f : Ev → R (D × Ev)} (h : M X x f) : S X W (.Return (some x) pos) (rtnM f) := ⟨PS_mono (ps_ret h.pe) fun D σ H ⟨g, F, e, r, o⟩ => ⟨g, F, e, r, (Os.on o).imp fun d k v F1 H1 r1 s1 _ rp => k v σ F1 H1 r1 s1 rp⟩⟩
theorem S.retN : S X W (.Return none pos) (fun e => .rt .non e) := ⟨PS_mono ps_retN fun D σ H ⟨g, F, e, r, o⟩ => o .non σ F H r (Same.refl _) .non⟩
def drp (f : Ev → R D) : Ev → O := fun e => (f e).o e fun _ => .nx e
def drpM (f : Ev → R (D × Ev)) : Ev → O := fun e => (f e).on fun d => .nx d.2
theorem S.expr {f : Ev → R D} (h : P X W x f) (hs : swapsWith x none pos.line X.env = pure false := by rfl) : S X W (.Expr x pos) (drp f) := ⟨PS_mono (ps_expr h.pe hs) fun D σ H ⟨g, F, e, r, o⟩ => ⟨g, F, e, r, (Os.o o).imp fun d k v F1 H1 g1 rp => k σ F1 H1 (r.ext g1) g1.ff⟩⟩
theorem S.exprM {f : Ev → R (D × Ev)} (h : M X x f) (hs : swapsWith x none pos.line X.env = pure false := by rfl) : S X W (.Expr x pos) (drpM f) := ⟨PS_mono (ps_expr h.pe hs) fun D σ H ⟨g, F, e, r, o⟩ => ⟨g, F, e, r, (Os.on o).imp fun d k v F1 H1 r1 s1 _ rp => k σ F1 H1 r1 s1⟩⟩

/-! ### if, while -/
def ifS (c : Ev → R Bool) (a b : Ev → O) : Ev → O := fun e => (c e).o e fun k => if k = true then a e else b e
def ifSM (c : Ev → R (Bool × Ev)) (a b : Ev → O) : Ev → O := fun e => (c e).on fun k => if k.1 = true then a k.2 else b k.2
theorem S.ite {c : Expr} {as bs : List Stmt} {fc : Ev → R Bool} {fa fb : Ev → O} (hc : T X W c fc) (ha : Ss X W as fa) (hb : Ss X W bs fb) : S X W (.If c as bs pos) (ifS fc fa fb) := ⟨PS_mono (ps_if hc.pt ha.ps hb.ps) fun D σ H ⟨g, F, e, r, o⟩ => ⟨g, F, e, r, (Os.o o).imp fun k o F1 H1 g1 => by
  cases k with
  | true => exact ⟨g, F1, e, r.ext g1, Os.mono o g1.ff⟩
  | false => exact ⟨g, F1, e, r.ext g1, Os.mono o g1.ff⟩⟩⟩
theorem S.iteM {c : Expr} {as bs : List Stmt} {fc : Ev → R (Bool × Ev)} {fa fb : Ev → O} (hc : TM X c fc) (ha : Ss X W as fa) (hb : Ss X W bs fb) : S X W (.If c as bs pos) (ifSM fc fa fb) := ⟨PS_mono (ps_if hc.pt ha.ps hb.ps) fun D σ H ⟨g, F, e, r, o⟩ => ⟨g, F, e, r, (Os.on o).imp fun k o F1 H1 r1 s1 _ => by
  obtain ⟨k, e1⟩ := k
  cases k with
  | true => exact ⟨g, F1, e1, r1, Os.mono o s1⟩
  | false => exact ⟨g, F1, e1, r1, Os.mono o s1⟩⟩⟩
def whl (t : Ev → R Bool) (b : Ev → O) : Nat → Ev → O
  | 0, _ => .no
  | n + 1, e => (t e).o e fun k => if k = true then (match b e with
    | .nx e1 => whl t b n e1
    | .ct e1 => whl t b n e1
    | .bk e1 => .nx e1
    | o => o) else .nx e
theorem S.whl (n : Nat) {c : Expr} {bs : List Stmt} {fc : Ev → R Bool} {fb : Ev → O} (hp : PassesOwn (model X.prog X.w) X.A X.env X.xe) (hc : T X W c fc) (hb : Ss X W bs fb) : S X W (.While c bs [] pos) (whl fc fb n) := ⟨PS_mono (ps_while hp hc.pt hb.ps) fun D σ H ⟨g, F, e, r, o⟩ => by
  refine ⟨fun m σ H => ∃ F' e, Rel X.K X.mg g F' σ H e ∧ Same F F' ∧ Os X W g F' D (DL.whl fc fb m e), ⟨n, F, e, r, Same.refl _, o⟩, ?_⟩
  rintro m σ H ⟨F1, e, r, s, o⟩
  cases m with
  | zero => exact (show False from o).elim
  | succ m =>
    refine ⟨g, F1, e, r, (Os.o o).imp fun k o F2 H2 g2 => ?_⟩
    cases k with
    | false =>
      have o' : Os X W g F1 D (.nx e) := o
      exact o' σ F2 H2 (r.ext g2) g2.ff
    | true =>
      rw [if_pos rfl] at o ⊢
      refine ⟨fun σ' H' => ∃ F' e, Rel X.K X.mg g F' σ' H' e ∧ Same F F' ∧ Os X W g F' D (DL.whl fc fb m e), fun σ' H' h => ⟨m, Nat.lt_succ_self m, h⟩, g, F2, e, r.ext g2, ?_⟩
      cases q : fb e with
      | nx e1 => rw [q] at o; exact fun σ' F' H' r' s' => ⟨F', e1, r', (s.trans g2.ff).trans s', Os.mono o (g2.ff.trans s')⟩
      | ct e1 => rw [q] at o; exact fun σ' F' H' r' s' => ⟨F', e1, r', (s.trans g2.ff).trans s', Os.mono o (g2.ff.trans s')⟩
      | bk e1 => rw [q] at o; exact fun σ' F' H' r' s' => o σ' F' H' r' (g2.ff.trans s')
      | rt d e1 => rw [q] at o; exact fun v σ' F' H' r' s' rp => o v σ' F' H' r' (g2.ff.trans s') rp
      | ex c p e1 => rw [q] at o; exact fun C dd σ' F' H' r' s' ea => o C dd σ' F' H' r' (g2.ff.trans s') ea
      | no => rw [q] at o; exact o⟩
end
end DL


namespace DL
open PySem PySem.Spec PyProof.Rows L2

/-! ### what is walked -/
structure ItS (K : PySem.W.Frag) (mg : Str → Option Value) (J : It) (F : Hp) (ds : List D) : Prop where
  go : ∀ i H, Same F H → i < ds.length → J.go i H
  yld : ∀ i F1 H x H', Same F F1 → Same F1 H → i < ds.length → J.yld i H x H' → ∃ F2 d, ds[i]? = some d ∧ Gr F1 H F2 H' ∧ Rp K mg F2 x d
  stop : ∀ i H, Same F H → ds.length ≤ i → J.stop i H
def tI (X : Cx) (W : WX) (f : Ev → R (List D)) : TI := fun σ H Q => ∃ g F e, Rel X.K X.mg g F σ H e ∧ Ot X W g F σ e (f e) fun ds => ∀ J F' H', Gr F H F' H' → ItS X.K X.mg J F' ds → Q J H'
def tIM (X : Cx) (f : Ev → R (List D × Ev)) : TI := fun σ H Q => ∃ g F e, Rel X.K X.mg g F σ H e ∧ On (f e) fun r => ∀ J F' H', Rel X.K X.mg g F' σ H' r.2 → Same F F' → Kp σ F e H F' r.2 H' → ItS X.K X.mg J F' r.1 → Q J H'
structure I (X : Cx) (W : WX) (tg x : Expr) (f : Ev → R (List D)) : Prop where
  pi : PI X tg x (tI X W f)
structure IM (X : Cx) (tg x : Expr) (f : Ev → R (List D × Ev)) : Prop where
  pi : PI X tg x (tIM X f)
section
variable {X : Cx} {W : WX} {x y z tg : Expr} {xs : List Expr} {pos : Pos} {st : Stmt} {rest : List Stmt}
theorem I.m {f : Ev → R (List D)} (h : I X W tg x f) : IM X tg x (fun e => f e >>= fun d => .ok (d, e)) := ⟨PI_mono h.pi fun σ H Q ⟨g, F, e, r, o⟩ => by
  obtain ⟨d, hd, k⟩ := On.bind o
  refine ⟨g, F, e, r, ?_⟩
  rw [hd]
  exact fun J F' H' gr its => k J F' H' (r.ext gr) gr.ff (.gr gr) its⟩
theorem PI_or {t u : TI} (h : PI X tg x t) (h' : PI X tg x u) : PI X tg x (fun σ H R => t σ H R ∨ u σ H R) := ⟨fun pins s σ H R I q => q.elim (h.run pins s σ H R I) (h'.run pins s σ H R I)⟩
theorem its_list {K : PySem.W.Frag} {mg : Str → Option Value} {F : Hp} {a : Addr} {vs : List V} {ds : List D} (h : SqL K F a vs) (r : RpA K mg F vs ds) : ItS K mg (Itl K a) F ds where
  go := fun i H s hi => by
    obtain ⟨v, hv, _⟩ := r.get (List.getElem?_eq_getElem hi)
    exact ⟨vs, v, Same.sqL s h, hv⟩
  yld := fun i F1 H x H' s1 s2 hi ⟨e, q⟩ => by
    subst e
    have hv := q vs (Same.sqL (s1.trans s2) h)
    obtain ⟨d, hd, rp⟩ := r.getV hv
    exact ⟨F1, d, hd, Gr.refl s2, rp.mono s1⟩
  stop := fun i H s hi => ⟨vs, Same.sqL s h, by rw [r.length]; exact hi⟩
theorem its_tup {K : PySem.W.Frag} {mg : Str → Option Value} {F : Hp} {a : Addr} {vs : List V} {ds : List D} (h : SqT K F a vs) (r : RpA K mg F vs ds) : ItS K mg (Itt K a) F ds where
  go := fun i H s hi => by
    obtain ⟨v, hv, _⟩ := r.get (List.getElem?_eq_getElem hi)
    exact ⟨vs, v, Same.sqT s h, hv⟩
  yld := fun i F1 H x H' s1 s2 hi ⟨e, q⟩ => by
    subst e
    have hv := q vs (Same.sqT (s1.trans s2) h)
    obtain ⟨d, hd, rp⟩ := r.getV hv
    exact ⟨F1, d, hd, Gr.refl s2, rp.mono s1⟩
  stop := fun i H s hi => ⟨vs, Same.sqT s h, by rw [r.length]; exact hi⟩
def seqOf : D → R (List D)
  | .lst ds => .ok ds
  | .tup ds => .ok ds
  | .arg ds => .ok ds
  | _ => .no
def itD (f : Ev → R D) : Ev → R (List D) := fun e => f e >>= seqOf
/-- a list or a tuple -/
theorem I.seq {f : Ev → R D} (h : P X W x f) : I X W tg x (itD f) := ⟨PI_mono (PI_or (pi_list h.pe) (pi_tup h.pe)) fun σ H Q ⟨g, F, e, r, o⟩ => by
  have o := o.bind
  cases q : f e with
  | ok d =>
    rw [q] at o
    cases d with
    | lst ds =>
      refine .inl ⟨g, F, e, r, ?_⟩
      rw [q]
      exact fun v F1 H1 g1 rp => by
        cases rp with
        | lst h1 h2 => exact ⟨_, rfl, ⟨_, .inl (.inl (g1.fh _ _ h1))⟩, o _ F1 H1 g1 (its_list (.inl (.inl h1)) h2)⟩
    | arg ds =>
      refine .inl ⟨g, F, e, r, ?_⟩
      rw [q]
      exact fun v F1 H1 g1 rp => by
        cases rp with
        | arg h1 h2 => exact ⟨_, rfl, ⟨_, Same.sqL g1.fh h1⟩, o _ F1 H1 g1 (its_list h1 h2)⟩
    | tup ds =>
      refine .inr ⟨g, F, e, r, ?_⟩
      rw [q]
      exact fun v F1 H1 g1 rp => by
        cases rp with
        | tup h1 h2 => exact ⟨_, rfl, ⟨_, Same.sqT g1.fh h1⟩, o _ F1 H1 g1 (its_tup h1 h2)⟩
    | _ => exact (show False from o).elim
  | ex c p =>
    rw [q] at o
    exact .inl ⟨g, F, e, r, by rw [q]; exact o⟩
  | no =>
    rw [q] at o
    exact (show False from o).elim⟩
theorem I.seqM {f : Ev → R (D × Ev)} (h : M X x f) : IM X tg x (fun e => f e >>= fun d => seqOf d.1 >>= fun l => .ok (l, d.2)) := ⟨PI_mono (PI_or (pi_list h.pe) (pi_tup h.pe)) fun σ H Q ⟨g, F, e, r, o⟩ => by
  obtain ⟨d, q, o⟩ := On.bind o
  obtain ⟨d, e1⟩ := d
  obtain ⟨l, ql, o⟩ := On.bind o
  cases d with
  | lst ds =>
    cases ql
    refine .inl ⟨g, F, e, r, ?_⟩
    rw [q]
    exact fun v F1 H1 r1 s1 k1 rp => by
      cases rp with
      | lst h1 h2 => exact ⟨_, rfl, ⟨_, .inl (.inl (r1.fh _ _ h1))⟩, o _ F1 H1 r1 s1 k1 (its_list (.inl (.inl h1)) h2)⟩
  | arg ds =>
    cases ql
    refine .inl ⟨g, F, e, r, ?_⟩
    rw [q]
    exact fun v F1 H1 r1 s1 k1 rp => by
      cases rp with
      | arg h1 h2 => exact ⟨_, rfl, ⟨_, Same.sqL r1.fh h1⟩, o _ F1 H1 r1 s1 k1 (its_list h1 h2)⟩
  | tup ds =>
    cases ql
    refine .inr ⟨g, F, e, r, ?_⟩
    rw [q]
    exact fun v F1 H1 r1 s1 k1 rp => by
      cases rp with
      | tup h1 h2 => exact ⟨_, rfl, ⟨_, Same.sqT r1.fh h1⟩, o _ F1 H1 r1 s1 k1 (its_tup h1 h2)⟩
  | _ => cases ql⟩
/-- lo, lo + 1, .. -/
def rng (lo : Int) (n : Nat) : List D := (List.range n).map fun (k : Nat) => .int (lo + (k : Int))
theorem rng_length (lo : Int) (n : Nat) : (rng lo n).length = n := by
  unfold rng
  rw [List.length_map, List.length_range]
theorem rng_get (lo : Int) (n i : Nat) (h : i < n) : (rng lo n)[i]? = some (.int (lo + i)) := by
  unfold rng
  rw [List.getElem?_map, List.getElem?_range h]
  rfl
theorem its_rng {K : PySem.W.Frag} {mg : Str → Option Value} {F : Hp} (lo : Int) (n : Nat) : ItS K mg (Itr lo n) F (rng lo n) where
  go := fun i H s hi => by
    rw [rng_length] at hi
    exact hi
  yld := fun i F1 H x H' s1 s2 hi ⟨e, q⟩ => by
    rw [rng_length] at hi
    subst e q
    exact ⟨F1, _, rng_get lo n i hi, Gr.refl s2, .int _⟩
  stop := fun i H s hi => by
    rw [rng_length] at hi
    exact hi
def big (i : Int) : Bool := decide (-(2 ^ 62) ≤ i ∧ i < 2 ^ 62)
def rng1Of : D → R (List D)
  | .int j => R.chk (big j) (.ok (rng 0 j.toNat))
  | _ => .no
def rng2Of : D → D → R (List D)
  | .int i, .int j => R.chk (big i && big j) (.ok (rng i (j - i).toNat))
  | _, _ => .no
theorem Ot.one {g : Gd} {F : Hp} {σ : L2.St} {e : Ev} {fa : Ev → R D} {q : D → Prop} (o : Ot X W g F σ e (fa e) q) : Ot X W g F σ e (conA fa nilA e) fun ds => ∃ a, ds = [a] ∧ q a := by
  unfold conA nilA
  cases z : fa e with
  | ok a => rw [z] at o; exact ⟨a, rfl, o⟩
  | ex c p => rw [z] at o; exact o
  | no => rw [z] at o; exact o
theorem Ot.two {g : Gd} {F : Hp} {σ : L2.St} {e : Ev} {fa fb : Ev → R D} {q : D → D → Prop} (o : Ot X W g F σ e (fa e) fun a => Ot X W g F σ e (fb e) (q a)) : Ot X W g F σ e (conA fa (conA fb nilA) e) fun ds => ∃ a b, ds = [a, b] ∧ q a b := by
  unfold conA nilA
  cases z : fa e with
  | ok a =>
    rw [z] at o
    have o' : Ot X W g F σ e (fb e) (q a) := o
    cases z2 : fb e with
    | ok b => rw [z2] at o'; exact ⟨a, b, rfl, o'⟩
    | ex c p => rw [z2] at o'; exact o'
    | no => rw [z2] at o'; exact o'
  | ex c p => rw [z] at o; exact o
  | no => rw [z] at o; exact o
theorem On.one {e : Ev} {fa : Ev → R (D × Ev)} {q : D × Ev → Prop} (o : On (fa e) q) : On (conM fa nilM e) fun ds => ∃ a, ds.1 = [a] ∧ q (a, ds.2) := by
  unfold conM nilM
  cases z : fa e with
  | ok a => rw [z] at o; exact ⟨a.1, rfl, o⟩
  | ex c p => rw [z] at o; exact o
  | no => rw [z] at o; exact o
section
variable {a b c : Expr} {p : Pos} {fa fb : Ev → R D} {fm : Ev → R (D × Ev)}
theorem I.rng1 (hm : X.mg "range" = none) (ha : P X W a fa) (hg : Gl X "range" := by rfl) (hs : starEach [a] X.env = [(false, eval a X.env)] := by rfl) : I X W tg (.Call (.Name "range" p) [a] [] pos) (fun e => fa e >>= rng1Of) := ⟨PI_mono (pi_range1 hg hm (Ps.cons ha Ps.nil hs).pa hs) fun σ H Q ⟨g, F, e, r, o⟩ => ⟨g, F, e, r, (Ot.one o.bind).imp fun ds ⟨a, e0, o⟩ vs F1 H1 g1 rp => by
  subst e0
  cases rp with
  | cons h r =>
    cases r
    cases h with
    | int j =>
      obtain ⟨c, o⟩ := Ot.chk o
      have c' := of_decide_eq_true c
      exact ⟨j, rfl, c'.1, c'.2, o _ F1 H1 g1 (its_rng 0 _)⟩
    | _ => exact (show False from o).elim⟩⟩
theorem I.rng1M (hm : X.mg "range" = none) (ha : M X a fm) (hg : Gl X "range" := by rfl) (hs : starEach [a] X.env = [(false, eval a X.env)] := by rfl) : IM X tg (.Call (.Name "range" p) [a] [] pos) (fun e => fm e >>= fun d => rng1Of d.1 >>= fun l => .ok (l, d.2)) := ⟨PI_mono (pi_range1 hg hm (Ms.cons ha Ms.nil hs).pa hs) fun σ H Q ⟨g, F, e, r, o⟩ => ⟨g, F, e, r, (On.one o.bind').imp fun ds ⟨a, e0, o⟩ vs F1 H1 r1 s1 k1 rp => by
  rw [e0] at rp
  obtain ⟨l, hl, o⟩ := On.bind o
  cases rp with
  | cons h r =>
    cases r
    cases h with
    | int j =>
      cases hb : big j with
      | true =>
        have c' := of_decide_eq_true hb
        have e1 : l = rng 0 j.toNat := by
          have hl' : R.chk (big j) (.ok (rng 0 j.toNat)) = .ok l := hl
          rw [hb] at hl'
          cases hl'
          rfl
        subst e1
        exact ⟨j, rfl, c'.1, c'.2, o _ F1 H1 r1 s1 k1 (its_rng 0 _)⟩
      | false =>
        have hl' : R.chk (big j) (.ok (rng 0 j.toNat)) = .ok l := hl
        rw [hb] at hl'
        cases hl'
    | _ => cases hl⟩⟩
theorem I.rng2 (hm : X.mg "range" = none) (ha : P X W a fa) (hb : P X W b fb) (hg : Gl X "range" := by rfl) (hs : starEach [a, b] X.env = [(false, eval a X.env), (false, eval b X.env)] := by rfl) (hs2 : starEach [b] X.env = [(false, eval b X.env)] := by rfl) :
    I X W tg (.Call (.Name "range" p) [a, b] [] pos) (fun e => fa e >>= fun i => fb e >>= fun j => rng2Of i j) := ⟨PI_mono (pi_range2 hg hm (Ps.cons ha (Ps.cons hb Ps.nil hs2) (hs.trans (by rw [hs2]))).pa hs hs2) fun σ H Q ⟨g, F, e, r, o⟩ => ⟨g, F, e, r, (Ot.two (o.bind.imp fun a o => o.bind)).imp fun ds ⟨a, b, e0, o⟩ vs F1 H1 g1 rp => by
  subst e0
  cases rp with
  | cons h r =>
    cases r with
    | cons h2 r =>
    cases r
    cases h with
    | int i =>
      cases h2 with
      | int j =>
        obtain ⟨c, o⟩ := Ot.chk o
        rw [Bool.and_eq_true] at c
        have c1 := of_decide_eq_true c.1
        have c2 := of_decide_eq_true c.2
        exact ⟨i, j, rfl, ⟨c1.1, c1.2, c2.1, c2.2⟩, o _ F1 H1 g1 (its_rng _ _)⟩
      | _ => exact (show False from o).elim
    | _ => exact (show False from o).elim⟩⟩
def rgC (i j c : Int) : Option Nat := if c = 0 then none else some (if 0 < c then ((j - i + c - 1) / c).toNat else ((i - j + (-c) - 1) / (-c)).toNat)
end

/-! ### for -/
def forL (gt : D → Ev → Option Ev) (b : Ev → O) : List D → Ev → O
  | [], e => .nx e
  | d :: ds, e => match gt d e with
    | none => .no
    | some e1 => match b e1 with
      | .nx e2 => forL gt b ds e2
      | .ct e2 => forL gt b ds e2
      | .bk e2 => .nx e2
      | o => o
def forS (fi : Ev → R (List D)) (gt : D → Ev → Option Ev) (b : Ev → O) : Ev → O := fun e => (fi e).o e fun ds => forL gt b ds e
def forSM (fi : Ev → R (List D × Ev)) (gt : D → Ev → Option Ev) (b : Ev → O) : Ev → O := fun e => (fi e).on fun r => forL gt b r.1 r.2
theorem for_core {sl : List Nat} {gt : D → Ev → Option Ev} {fb : Ev → O} {g : Gd} {F1 H1 : Hp} {σ : L2.St} {e : Ev} {J : It} {ds : List D} {D : Ends} (r : Rel X.K X.mg g F1 σ H1 e) (its : ItS X.K X.mg J F1 ds) (o : Os X W g F1 D (forL gt fb ds e)) :
    ∃ W' : Nat → Nat → L2.St → Hp → Prop, (∃ m, W' 0 m σ H1) ∧ ∀ i m σ H, W' i m σ H →
      (J.stop i H ∧ D.nx σ H) ∨ (J.go i H ∧ ∃ N : L2.St → Hp → Prop, (∀ σ' H', N σ' H' → ∃ m', m' < m ∧ W' (i + 1) m' σ' H') ∧ ∀ x H', J.yld i H x H' → tG X sl gt x σ H' fun σ2 H2 => tS X W fb { D with nx := N, ct := N, bk := D.nx } σ2 H2) := by
  refine ⟨fun i m σ H => ∃ F' e, Rel X.K X.mg g F' σ H e ∧ Same F1 F' ∧ i + m = ds.length ∧ Os X W g F' D (forL gt fb (ds.drop i) e), ⟨ds.length, F1, e, r, Same.refl _, Nat.zero_add _, o⟩, ?_⟩
  rintro i m σ H ⟨F2, e2, r2, s2, em, o2⟩
  by_cases hi : i < ds.length
  · refine .inr ⟨its.go i H (s2.trans r2.fh) hi, fun σ H => ∃ F' e, Rel X.K X.mg g F' σ H e ∧ Same F1 F' ∧ (i + 1) + (m - 1) = ds.length ∧ Os X W g F' D (forL gt fb (ds.drop (i + 1)) e), fun σ' H' h => ⟨m - 1, by omega, h⟩, fun x H' y => ?_⟩
    obtain ⟨F3, d, hd, g3, rp⟩ := its.yld i F2 H x H' s2 r2.fh hi y
    have ed : ds.drop i = d :: ds.drop (i + 1) := by
      rw [List.drop_eq_getElem_cons hi]
      rw [List.getElem?_eq_getElem hi] at hd
      rw [Option.some.inj hd]
    rw [ed] at o2
    have o3 : Os X W g F2 D (match gt d e2 with
      | none => .no
      | some e1 => match fb e1 with
        | .nx e2 => forL gt fb (ds.drop (i + 1)) e2
        | .ct e2 => forL gt fb (ds.drop (i + 1)) e2
        | .bk e2 => .nx e2
        | o => o) := o2
    refine ⟨g, F3, e2, d, r2.ext g3, rp, ?_⟩
    cases q : gt d e2 with
    | none => rw [q] at o3; exact (show False from o3).elim
    | some e4 =>
      rw [q] at o3
      refine ⟨e4, rfl, fun σ' r4 _ _ => ⟨g, F3, e4, r4, ?_⟩⟩
      have s3 := s2.trans g3.ff
      dsimp only at o3
      cases q5 : fb e4 with
      | nx e5 => rw [q5] at o3; exact fun σ' F' H' r' s' => ⟨F', e5, r', s3.trans s', by omega, Os.mono o3 (g3.ff.trans s')⟩
      | ct e5 => rw [q5] at o3; exact fun σ' F' H' r' s' => ⟨F', e5, r', s3.trans s', by omega, Os.mono o3 (g3.ff.trans s')⟩
      | bk e5 => rw [q5] at o3; exact fun σ' F' H' r' s' => o3 σ' F' H' r' (g3.ff.trans s')
      | rt d e5 => rw [q5] at o3; exact fun v σ' F' H' r' s' rp => o3 v σ' F' H' r' (g3.ff.trans s') rp
      | ex c p e5 => rw [q5] at o3; exact fun C dd σ' F' H' r' s' ea => o3 C dd σ' F' H' r' (g3.ff.trans s') ea
      | no => rw [q5] at o3; exact o3
  · refine .inl ⟨its.stop i H (s2.trans r2.fh) (by omega), ?_⟩
    rw [List.drop_eq_nil_of_le (by omega)] at o2
    exact o2 σ F2 H r2 (Same.refl _)
theorem S.for {it : Expr} {bs : List Stmt} {sl : List Nat} {fi : Ev → R (List D)} {gt : D → Ev → Option Ev} {fb : Ev → O} (hp : PassesOwn (model X.prog X.w) X.A X.env X.xe) (hc : X.calm = true) (hi : I X W tg it fi) (hg : G X sl tg gt) (hb : Ss X W bs fb)
    (hs : ∀ x, foldedSetIterable it X.env x = pure x := by intro _; rfl) : S X W (.For tg it bs [] pos) (forS fi gt fb) := ⟨PS_mono (ps_for hp hc hi.pi hg.pg hb.ps hs) fun D σ H ⟨g, F, e, r, o⟩ => ⟨g, F, e, r, (Os.o o).imp fun ds o J F1 H1 g1 its => for_core (r.ext g1) its (Os.mono o g1.ff)⟩⟩
theorem S.forM {it : Expr} {bs : List Stmt} {sl : List Nat} {fi : Ev → R (List D × Ev)} {gt : D → Ev → Option Ev} {fb : Ev → O} (hp : PassesOwn (model X.prog X.w) X.A X.env X.xe) (hc : X.calm = true) (hi : IM X tg it fi) (hg : G X sl tg gt) (hb : Ss X W bs fb)
    (hs : ∀ x, foldedSetIterable it X.env x = pure x := by intro _; rfl) : S X W (.For tg it bs [] pos) (forSM fi gt fb) := ⟨PS_mono (ps_for hp hc hi.pi hg.pg hb.ps hs) fun D σ H ⟨g, F, e, r, o⟩ => ⟨g, F, e, r, (Os.on o).imp fun ds o J F1 H1 r1 s1 _ its => for_core r1 its (Os.mono o s1)⟩⟩
end
end DL


namespace DL
open PySem PySem.Spec PyProof.Rows L2

abbrev W0 : WX := fun _ _ _ _ => False
theorem takes_blk {X : Cx} {s : Shared} {H : Hp} {scope : Scope} {cenv : Env} {fp : List Addr} : Takes (X.blk s H scope cenv fp) W0 := fun _ _ x => by
  obtain ⟨_, _, _, _, _, _, _, _, _, _, _, _, _, _, _, _, z⟩ := x
  exact z.elim
structure Ts (X : Cx) (W : WX) (ifs : List Expr) (f : Ev → R Bool) : Prop where
  pt : PTs X ifs (tTP X W f)
structure TsM (X : Cx) (ifs : List Expr) (f : Ev → R (Bool × Ev)) : Prop where
  pt : PTs X ifs (tTM X f)
section
variable {X : Cx} {W : WX} {x y z tg : Expr} {xs : List Expr} {pos : Pos}
theorem PTs_mono {t u : TT} (h : PTs X xs t) (i : ∀ σ H Q, u σ H Q → t σ H Q) : PTs X xs u := ⟨fun pins s σ H Q I q => h.run pins s σ H Q I (i σ H Q q)⟩
theorem Ts.nil : Ts X W [] (fun _ => .ok true) := ⟨PTs_mono pts_nil fun σ H Q ⟨g, F, e, r, o⟩ => o F H (Gr.refl r.fh)⟩
theorem Ts.one {f : Ev → R Bool} (h : T X W x f) : Ts X W [x] f := ⟨pts_one h.pt⟩
theorem TsM.nil : TsM X [] (fun e => .ok (true, e)) := ⟨PTs_mono pts_nil fun σ H Q ⟨g, F, e, r, o⟩ => o F H r (Same.refl _) .rfl⟩
theorem TsM.one {f : Ev → R (Bool × Ev)} (h : TM X x f) : TsM X [x] f := ⟨pts_one h.pt⟩
end
def R.nox {α : Type} (m : R α) : R α := match m with
  | .ok a => .ok a
  | _ => .no
theorem R.of_nox {α : Type} {m : R α} {a : α} (h : m.nox = .ok a) : m = .ok a := by
  cases m with
  | ok b => exact h
  | ex c p => cases h
  | no => cases h
def wipeE : List Nat → Ev → Ev
  | [], e => e
  | v :: vs, e => (wipeE vs e).set v .un
def lcL (gt : D → Ev → Option Ev) (ft : Ev → R Bool) (fe : Ev → R D) : List D → Ev → R (List D)
  | [], _ => .ok []
  | d :: ds, e => match gt d e with
    | none => .no
    | some e1 => (ft e1).nox >>= fun b => if b = true then (fe e1).nox >>= fun y => lcL gt ft fe ds e >>= fun r => .ok (y :: r) else lcL gt ft fe ds e
def lcP (vs : List Nat) (fi : Ev → R (List D)) (gt : D → Ev → Option Ev) (ft : Ev → R Bool) (fe : Ev → R D) : Ev → R Cl := fun e => fi e >>= fun ds => R.chk (decide (ds.length ≤ sizeLine)) ((lcL gt ft fe ds (wipeE vs e)).nox >>= fun r => .ok (.l r))
section
variable {K : PySem.W.Frag} {mg : Str → Option Value} {g : Gd} {F H F' H' : Hp} {σ : L2.St} {e : Ev}
theorem Rel.setUn (r : Rel K mg g F σ H e) (i : Nat) : Rel K mg g F (σ.set i none) H (e.set i .un) where
  len := by rw [List.length_set, List.length_set]; exact r.len
  f0 := r.f0
  fh := r.fh
  nw := r.nw
  old := r.old
  im := fun j d' hj => by
    rcases get_set hj with ⟨rfl, q⟩ | ⟨hne, q⟩
    · cases q
    · obtain ⟨v', h1, h2⟩ := r.im j d' q
      exact ⟨v', by rw [List.getElem?_set_ne (Ne.symm hne)]; exact h1, h2⟩
  ow := fun j c hj => by
    rcases get_set hj with ⟨rfl, q⟩ | ⟨hne, q⟩
    · cases q
    · obtain ⟨a, o, h1, h2⟩ := r.ow j c q
      exact ⟨a, o, by rw [List.getElem?_set_ne (Ne.symm hne)]; exact h1, h2⟩
  ih := fun j xs hj => by
    rcases get_set hj with ⟨rfl, q⟩ | ⟨hne, q⟩
    · cases q
    · obtain ⟨a, o, h0, h1, h2⟩ := r.ih j xs q
      exact ⟨a, o, h0, by rw [List.getElem?_set_ne (Ne.symm hne)]; exact h1, h2⟩
  iof := r.iof
  sep := fun j l c c' a hn h1 h2 h3 h4 => by
    rcases get_set h1 with ⟨rfl, q⟩ | ⟨hj, q⟩
    · cases q
    · rcases get_set h2 with ⟨rfl, q'⟩ | ⟨hl, q'⟩
      · cases q'
      · rw [List.getElem?_set_ne (Ne.symm hj)] at h3
        rw [List.getElem?_set_ne (Ne.symm hl)] at h4
        exact r.sep j l c c' a hn q q' h3 h4
  iu := fun j l xs ys h1 h2 => by
    rcases get_set h1 with ⟨_, q⟩ | ⟨_, q⟩
    · cases q
    · rcases get_set h2 with ⟨_, q'⟩ | ⟨_, q'⟩
      · cases q'
      · exact r.iu j l xs ys q q'
theorem Rel.wipe (r : Rel K mg g F σ H e) : ∀ vs : List Nat, Rel K mg g F (L2.wipe σ vs) H (wipeE vs e)
  | [] => r
  | v :: vs => (r.wipe vs).setUn v
/-- another thing, that is nobody's, is changed -/
theorem Rel.other {a : Addr} {o' : HO} (r : Rel K mg g F σ H e) (nf : F a = none) (n0 : g.H0 a = none) (ni : g.io ≠ some a) (no : ∀ (i : Nat) c, e[i]? = some (.ow c) → σ[i]? ≠ some (some (.ref a))) : Rel K mg g F σ (upd H a o') e where
  len := r.len
  f0 := r.f0
  fh := fun b x q => by
    rw [upd_ne (ne_of_none q nf)]
    exact r.fh b x q
  nw := r.nw
  old := fun b x q hb => by
    rw [upd_ne (ne_of_none q n0)]
    exact r.old b x q hb
  im := r.im
  ow := fun i c hc => by
    obtain ⟨b, o, h1, h2, h3⟩ := r.ow i c hc
    have hb : b ≠ a := fun z => by
      subst z
      exact no i c hc h1
    exact ⟨b, o, h1, by rw [upd_ne hb]; exact h2, h3⟩
  ih := fun i xs hc => by
    obtain ⟨b, vs, h0, h1, h2, h3⟩ := r.ih i xs hc
    have hb : b ≠ a := fun z => by
      subst z
      exact ni h0
    exact ⟨b, vs, h0, h1, by rw [upd_ne hb]; exact h2, h3⟩
  iof := fun b hb => by
    have hb' : b ≠ a := fun z => by
      subst z
      exact ni hb
    rw [upd_ne hb']
    exact r.iof b hb
  sep := r.sep
  iu := r.iu
theorem wipe_eq {σ σ2 : L2.St} {vs sl : List Nat} (hs : ∀ j ∈ sl, j ∈ vs) (h : ∀ j, j ∉ sl → σ2[j]? = (L2.wipe σ vs)[j]?) (hl : σ2.length = (L2.wipe σ vs).length) : L2.wipe σ2 vs = L2.wipe σ vs := by
  apply List.ext_getElem?
  intro j
  by_cases hj : j ∈ vs
  · have key : ∀ (τ : L2.St) (l : List Nat), j ∈ l → j < τ.length → (L2.wipe τ l)[j]? = some none := by
      intro τ l
      induction l with
      | nil => intro h; cases h
      | cons v l ih =>
        intro hm hlt
        unfold L2.wipe
        by_cases hv : v = j
        · subst hv
          rw [List.getElem?_set_self (by rw [wipe_length]; exact hlt)]
        · rw [List.getElem?_set_ne hv]
          exact ih ((List.mem_cons.mp hm).resolve_left (fun z => hv z.symm)) hlt
    rw [wipe_length] at hl
    by_cases hlt : j < σ.length
    · rw [key σ vs hj hlt, key σ2 vs hj (by omega)]
    · rw [List.getElem?_eq_none (by rw [wipe_length]; omega), List.getElem?_eq_none (by rw [wipe_length]; omega)]
  · rw [wipe_out hj, h j (fun z => hj (hs j z))]
end
section
variable {X : Cx} {W : WX} {elt it tg : Expr} {ifs : List Expr} {scope : Scope} {pos : Pos} {own : List (Str × Nat)} {sl vs : List Nat} {fi : Ev → R (List D)} {gt : D → Ev → Option Ev} {ft : Ev → R Bool} {fe : Ev → R D}
theorem lcP_mono (hs : ∀ j ∈ sl, j ∈ vs) (σ : L2.St) (H : Hp) (Q : VK) : tL X W (lcP vs fi gt ft fe) σ H Q → tLc (tI X W fi) (tG X sl gt) (tTP X W0 ft) (tP X W0 fe) vs σ H Q := fun ⟨g, F, e, r, o⟩ => ⟨g, F, e, r, o.bind.imp fun ds o J F1 H1 g1 its A hA => by
  obtain ⟨cz, o⟩ := Ot.chk o
  have cz := of_decide_eq_true cz
  have rl1 := r.ext g1
  obtain ⟨rs, hrs, o⟩ : ∃ rs, lcL gt ft fe ds (wipeE vs e) = .ok rs ∧ ∀ a F' H', Gr F H F' H' → Fresh X.K X.mg g F' σ H' e a (.l rs) → H a = none → Q (.ref a) H' := by
    cases q : lcL gt ft fe ds (wipeE vs e) with
    | ok rs => rw [q] at o; exact ⟨rs, rfl, o⟩
    | ex c p => rw [q] at o; exact (show False from o).elim
    | no => rw [q] at o; exact (show False from o).elim
  have fr0 := Fresh.new (o := .lst []) rl1 hA (.l .nil)
  refine ⟨fun i m H' => ∃ F' vacc acc rst, Gr F1 H1 F' H' ∧ H' A = some (.lst vacc) ∧ RpA X.K X.mg F' vacc acc ∧ F' A = none ∧ i + m = ds.length ∧ acc.length ≤ i ∧ lcL gt ft fe (ds.drop i) (wipeE vs e) = .ok rst ∧ acc ++ rst = rs,
    ⟨ds.length, F1, [], [], rs, Gr.junk rl1.fh hA, upd_same, .nil, rl1.fh.free hA, Nat.zero_add _, Nat.le_refl _, hrs, rfl⟩, ?_⟩
  rintro i m H' ⟨F2, vacc, acc, rst, g2, hA2, ra, nf, em, la, hl, er⟩
  by_cases hi : i < ds.length
  · refine .inr ⟨its.go i H' (g2.ff.trans g2.fh) hi, fun H' => ∃ F' vacc acc rst, Gr F1 H1 F' H' ∧ H' A = some (.lst vacc) ∧ RpA X.K X.mg F' vacc acc ∧ F' A = none ∧ (i + 1) + (m - 1) = ds.length ∧ acc.length ≤ i + 1 ∧ lcL gt ft fe (ds.drop (i + 1)) (wipeE vs e) = .ok rst ∧ acc ++ rst = rs,
      fun H' h => ⟨m - 1, by omega, h⟩, fun x H3 y => ?_⟩
    obtain ⟨F3, d, hd, g3, rp⟩ := its.yld i F2 H' x H3 g2.ff g2.fh hi y
    have ed : ds.drop i = d :: ds.drop (i + 1) := by
      rw [List.drop_eq_getElem_cons hi]
      rw [List.getElem?_eq_getElem hi] at hd
      rw [Option.some.inj hd]
    rw [ed] at hl
    have hl : (match gt d (wipeE vs e) with
      | none => .no
      | some e1 => (ft e1).nox >>= fun b => if b = true then (fe e1).nox >>= fun y => lcL gt ft fe (ds.drop (i + 1)) (wipeE vs e) >>= fun r => .ok (y :: r) else lcL gt ft fe (ds.drop (i + 1)) (wipeE vs e)) = R.ok rst := hl
    have rw3 := ((rl1.ext g2).ext g3).wipe vs
    refine ⟨g, F3, wipeE vs e, d, rw3, rp, ?_⟩
    cases q : gt d (wipeE vs e) with
    | none => rw [q] at hl; cases hl
    | some e1 =>
      rw [q] at hl
      obtain ⟨b, hb, hl⟩ := R.of_bind hl
      have hb := R.of_nox hb
      refine ⟨e1, rfl, fun σ2 r2 nj lj => ⟨wipe_eq hs nj lj, g, F3, e1, r2, ?_⟩⟩
      rw [hb]
      show ∀ F' H', _ → _
      intro F4 H4 g4
      have hA4 : H4 A = some (.lst vacc) := g4.hh _ _ (g3.hh _ _ hA2)
      have nf4 : F4 A = none := by
        cases z : F4 A with
        | none => rfl
        | some u =>
          rcases g4.nw A (ne_none z) with z1 | z1
          · rcases g3.nw A z1 with z2 | z2
            · exact absurd nf z2
            · rw [hA2] at z2; cases z2
          · rw [g3.hh _ _ hA2] at z1; cases z1
      have g234 := (g2.trans g3).trans g4
      cases b with
      | false =>
        rw [if_neg Bool.false_ne_true] at hl ⊢
        exact ⟨F4, vacc, acc, rst, g234, hA4, ra.mono (g3.ff.trans g4.ff), nf4, by omega, by omega, hl, er⟩
      | true =>
        rw [if_pos rfl] at hl ⊢
        obtain ⟨y, hy, hl⟩ := R.of_bind hl
        have hy := R.of_nox hy
        obtain ⟨rst', hl2, hr⟩ := R.of_bind hl
        cases hr
        refine ⟨g, F4, e1, r2.ext g4, ?_⟩
        rw [hy]
        show ∀ v F' H', _ → _ → _
        intro v F5 H5 g5 rv
        have hA5 := g5.hh _ _ hA4
        have nf5 : F5 A = none := by
          cases z : F5 A with
          | none => rfl
          | some u =>
            rcases g5.nw A (ne_none z) with z1 | z1
            · exact absurd nf4 z1
            · rw [hA4] at z1; cases z1
        have g25 := g234.trans g5
        refine ⟨vacc, hA5, by rw [ra.length]; omega, F5, vacc ++ [v], acc ++ [y], rst', ⟨g25.ff, fun b u z => ?_, fun b u z => ?_, g25.nw⟩, upd_same, ?_, nf5, by omega, by rw [List.length_append]; show acc.length + 1 ≤ i + 1; omega, hl2, by rw [List.append_assoc]; exact er⟩
        · rw [upd_ne (ne_of_none z nf5)]
          exact g25.fh b u z
        · rw [upd_ne (ne_of_none z hA)]
          exact g25.hh b u z
        · exact (ra.mono ((g3.ff.trans g4.ff).trans g5.ff)).append (.cons rv .nil)
  · refine .inl ⟨its.stop i H' (g2.ff.trans g2.fh) (by omega), ?_⟩
    rw [List.drop_eq_nil_of_le (by omega)] at hl
    cases hl
    rw [List.append_nil] at er
    subst er
    exact o A F2 H' (g1.trans g2) ⟨⟨_, hA2, .l ra⟩, nf, fr0.n0, fr0.ni, fr0.no⟩ (g1.hh.free hA)⟩
theorem L.lc (own : List (Str × Nat)) (hc : X.calm = true) (hN : X.N.Nodup) (hi : I X W tg it fi) (ok : BlkOk X.N X.env.scope scope own) (hs : ∀ j ∈ sl, j ∈ own.map (·.2))
    (hg : ∀ (s : Shared) (H : Hp) (C : Addr) (cl : List (Str × Addr)) (fp : List Addr), G (X.blk s H scope (compEnvC scope cl C X.env) fp) sl tg gt)
    (ht : ∀ (s : Shared) (H : Hp) (C : Addr) (cl : List (Str × Addr)) (fp : List Addr), Ts (X.blk s H scope (compEnvC scope cl C X.env) fp) W0 ifs ft)
    (he : ∀ (s : Shared) (H : Hp) (C : Addr) (cl : List (Str × Addr)) (fp : List Addr), P (X.blk s H scope (compEnvC scope cl C X.env) fp) W0 elt fe)
    (hf : ∀ x, foldedSetIterable it X.env x = pure x := by intro _; rfl) : L X W (.ListComp elt [⟨tg, it, ifs, 0⟩] scope pos) (lcP (own.map (·.2)) fi gt ft fe) :=
  ⟨PE_mono (pe_lc hc hN hi.pi ok (fun s H C cl fp => (hg s H C cl fp).pg) (fun s H C cl fp => (ht s H C cl fp).pt) (fun s H C cl fp => (he s H C cl fp).pe) hf) (lcP_mono hs)⟩
theorem S.setLc (i : Nat) (own : List (Str × Nat)) {y : Str} {py spos : Pos} (hc : X.calm = true) (hN : X.N.Nodup) (hi : I X W tg it fi) (ok : BlkOk X.N X.env.scope scope own) (hs : ∀ j ∈ sl, j ∈ own.map (·.2))
    (hg : ∀ (s : Shared) (H : Hp) (C : Addr) (cl : List (Str × Addr)) (fp : List Addr), G (X.blk s H scope (compEnvC scope cl C X.env) fp) sl tg gt)
    (ht : ∀ (s : Shared) (H : Hp) (C : Addr) (cl : List (Str × Addr)) (fp : List Addr), Ts (X.blk s H scope (compEnvC scope cl C X.env) fp) W0 ifs ft)
    (he : ∀ (s : Shared) (H : Hp) (C : Addr) (cl : List (Str × Addr)) (fp : List Addr), P (X.blk s H scope (compEnvC scope cl C X.env) fp) W0 elt fe)
    (hsw : swapsWith (.ListComp elt [⟨tg, it, ifs, 0⟩] scope pos) (some (.Name y py)) spos.line X.env = pure true)
    (hy : X.N[i]? = some y := by rfl) (hyl : X.env.scope.names.lookup y = some .local := by rfl)
    (hf : ∀ x, foldedSetIterable it X.env x = pure x := by intro _; rfl) : S X W (.Assign [.Name y py] (.ListComp elt [⟨tg, it, ifs, 0⟩] scope pos) spos) (asgL (lcP (own.map (·.2)) fi gt ft fe) i) :=
  ⟨PS_mono (ps_setLc hc hN hy hyl hsw hi.pi ok (fun s H C cl fp => (hg s H C cl fp).pg) (fun s H C cl fp => (ht s H C cl fp).pt) (fun s H C cl fp => (he s H C cl fp).pe) hf) fun D σ H q => lcP_mono hs σ H _ (asgL_mono D σ H q)⟩
theorem S.setLcF (i : Nat) (own : List (Str × Nat)) {y : Str} {py spos : Pos} (hc : X.calm = true) (hN : X.N.Nodup) (hi : I X W tg it fi) (ok : BlkOk X.N X.env.scope scope own) (hs : ∀ j ∈ sl, j ∈ own.map (·.2))
    (hg : ∀ (s : Shared) (H : Hp) (C : Addr) (cl : List (Str × Addr)) (fp : List Addr), G (X.blk s H scope (compEnvC scope cl C X.env) fp) sl tg gt)
    (ht : ∀ (s : Shared) (H : Hp) (C : Addr) (cl : List (Str × Addr)) (fp : List Addr), Ts (X.blk s H scope (compEnvC scope cl C X.env) fp) W0 ifs ft)
    (he : ∀ (s : Shared) (H : Hp) (C : Addr) (cl : List (Str × Addr)) (fp : List Addr), P (X.blk s H scope (compEnvC scope cl C X.env) fp) W0 elt fe)
    (hsw : swapsWith (.ListComp elt [⟨tg, it, ifs, 0⟩] scope pos) (some (.Name y py)) spos.line X.env = pure true)
    (hy : X.N[i]? = some y := by rfl) (hyl : X.env.scope.names.lookup y = some .local := by rfl)
    (hf : ∀ x, foldedSetIterable it X.env x = pure x := by intro _; rfl) : S X W (.Assign [.Name y py] (.ListComp elt [⟨tg, it, ifs, 0⟩] scope pos) spos) (asg (fz (lcP (own.map (·.2)) fi gt ft fe)) (setV i)) :=
  ⟨PS_mono (ps_setLc hc hN hy hyl hsw hi.pi ok (fun s H C cl fp => (hg s H C cl fp).pg) (fun s H C cl fp => (ht s H C cl fp).pt) (fun s H C cl fp => (he s H C cl fp).pe) hf) fun D σ H q => lcP_mono hs σ H _ (asgLF_mono D σ H q)⟩
end

/-! ### the same, the elements may change what is owned -/
def keepS : Option Sl → Sl
  | some (.im d) => .im d
  | _ => .un
def restE (vs : List Nat) (e e' : Ev) : Ev := vs.foldr (fun v a => a.set v (keepS e[v]?)) e'
def lcLM (vs : List Nat) (gt : D → Ev → Option Ev) (ft : Ev → R (Bool × Ev)) (fe : Ev → R (D × Ev)) : List D → Ev → R (List D × Ev)
  | [], e => .ok ([], e)
  | d :: ds, e => match gt d (wipeE vs e) with
    | none => .no
    | some e1 => (ft e1).nox >>= fun b => if b.1 = true then (fe b.2).nox >>= fun y => lcLM vs gt ft fe ds (restE vs e y.2) >>= fun r => .ok (y.1 :: r.1, r.2) else lcLM vs gt ft fe ds (restE vs e b.2)
def lcM (vs : List Nat) (fi : Ev → R (List D × Ev)) (gt : D → Ev → Option Ev) (ft : Ev → R (Bool × Ev)) (fe : Ev → R (D × Ev)) : Ev → R (Cl × Ev) := fun e => fi e >>= fun ds => R.chk (decide (ds.1.length ≤ sizeLine)) (lcLM vs gt ft fe ds.1 ds.2 >>= fun r => .ok (.l r.1, r.2))
theorem restE_len (vs : List Nat) (e e' : Ev) : (restE vs e e').length = e'.length := by
  induction vs with
  | nil => rfl
  | cons v vs ih =>
    show ((restE vs e e').set v _).length = _
    rw [List.length_set, ih]
theorem restE_out {e e' : Ev} {j : Nat} : ∀ {vs : List Nat}, j ∉ vs → (restE vs e e')[j]? = e'[j]?
  | [], _ => rfl
  | v :: vs, h => by
    show ((restE vs e e').set v _)[j]? = _
    rw [List.getElem?_set_ne (fun z => h (by rw [z]; exact List.mem_cons_self)), restE_out (fun z => h (List.mem_cons_of_mem _ z))]
theorem restE_in {e e' : Ev} {j : Nat} : ∀ {vs : List Nat}, j ∈ vs → j < e'.length → (restE vs e e')[j]? = some (keepS e[j]?)
  | v :: vs, h, hl => by
    show ((restE vs e e').set v _)[j]? = _
    by_cases hv : v = j
    · subst hv
      rw [List.getElem?_set_self (by rw [restE_len]; exact hl)]
    · rw [List.getElem?_set_ne hv]
      exact restE_in ((List.mem_cons.mp h).resolve_left (fun z => hv z.symm)) hl
theorem keepS_im {o : Option Sl} {d : D} (h : keepS o = .im d) : o = some (.im d) := by
  unfold keepS at h
  split at h
  · cases h
    rfl
  · cases h
theorem keepS_no {o : Option Sl} : (∀ c, keepS o ≠ .ow c) ∧ ∀ c, keepS o ≠ .io c := by
  unfold keepS
  split
  · exact ⟨fun _ h => Sl.noConfusion h, fun _ h => Sl.noConfusion h⟩
  · exact ⟨fun _ h => Sl.noConfusion h, fun _ h => Sl.noConfusion h⟩
section
variable {K : PySem.W.Frag} {mg : Str → Option Value} {g : Gd} {F H F0 H0 F' H' : Hp} {σ σ2 : L2.St} {e e3 : Ev} {vs : List Nat}
theorem Rel.rest (r0 : Rel K mg g F0 σ H0 e) (s : Same F0 F') (r : Rel K mg g F' σ2 H' e3) (hj : ∀ j, j ∉ vs → σ2[j]? = σ[j]?) (hl : σ2.length = σ.length) : Rel K mg g F' σ H' (restE vs e e3) := by
  have cut : ∀ (i : Nat) s, (restE vs e e3)[i]? = some s → (i ∈ vs ∧ s = keepS e[i]?) ∨ (i ∉ vs ∧ e3[i]? = some s) := fun i s h => by
    by_cases hi : i ∈ vs
    · have hlt : i < e3.length := by
        have := lt_of_get h
        rw [restE_len] at this
        exact this
      rw [restE_in hi hlt] at h
      exact .inl ⟨hi, (Option.some.inj h).symm⟩
    · rw [restE_out hi] at h
      exact .inr ⟨hi, h⟩
  refine ⟨by rw [restE_len, r.len, hl], r.f0, r.fh, r.nw, r.old, fun i d h => ?_, fun i c h => ?_, fun i xs h => ?_, r.iof, fun i j c c' a hn h1 h2 h3 h4 => ?_, fun i j xs ys h1 h2 => ?_⟩
  · rcases cut i _ h with ⟨hi, q⟩ | ⟨hi, q⟩
    · obtain ⟨v, h1, h2⟩ := r0.im i d (keepS_im q.symm)
      exact ⟨v, h1, h2.mono s⟩
    · obtain ⟨v, h1, h2⟩ := r.im i d q
      exact ⟨v, by rw [← hj i hi]; exact h1, h2⟩
  · rcases cut i _ h with ⟨hi, q⟩ | ⟨hi, q⟩
    · exact absurd q.symm (keepS_no.1 c)
    · obtain ⟨a, o, h1, h2⟩ := r.ow i c q
      exact ⟨a, o, by rw [← hj i hi]; exact h1, h2⟩
  · rcases cut i _ h with ⟨hi, q⟩ | ⟨hi, q⟩
    · exact absurd q.symm (keepS_no.2 xs)
    · obtain ⟨a, o, h0, h1, h2⟩ := r.ih i xs q
      exact ⟨a, o, h0, by rw [← hj i hi]; exact h1, h2⟩
  · rcases cut i _ h1 with ⟨hi, q⟩ | ⟨hi, q⟩
    · exact absurd q.symm (keepS_no.1 c)
    · rcases cut j _ h2 with ⟨hi', q'⟩ | ⟨hi', q'⟩
      · exact absurd q'.symm (keepS_no.1 c')
      · exact r.sep i j c c' a hn q q' (by rw [hj i hi]; exact h3) (by rw [hj j hi']; exact h4)
  · rcases cut i _ h1 with ⟨hi, q⟩ | ⟨hi, q⟩
    · exact absurd q.symm (keepS_no.2 xs)
    · rcases cut j _ h2 with ⟨hi', q'⟩ | ⟨hi', q'⟩
      · exact absurd q'.symm (keepS_no.2 ys)
      · exact r.iu i j xs ys q q'
theorem own_set {e : Ev} {v j : Nat} {s : Sl} (h : own (e.set v s) j = true) : (j = v ∧ ∃ c, s = .ow c ∨ ∃ x, s = .io x) ∨ (j ≠ v ∧ own e j = true) := by
  unfold own at h ⊢
  split at h
  · rename_i c q
    rcases get_set q with ⟨h1, h2⟩ | ⟨h1, h2⟩
    · exact .inl ⟨h1, c, .inl h2.symm⟩
    · exact .inr ⟨h1, by rw [h2]⟩
  · rename_i c q
    rcases get_set q with ⟨h1, h2⟩ | ⟨h1, h2⟩
    · exact .inl ⟨h1, .l [], .inr ⟨c, h2.symm⟩⟩
    · exact .inr ⟨h1, by rw [h2]⟩
  · cases h
theorem own_wipe {e : Ev} {j : Nat} : ∀ {vs : List Nat}, own (wipeE vs e) j = true → own e j = true ∧ j ∉ vs
  | [], h => ⟨h, fun z => nomatch z⟩
  | v :: vs, h => by
    rcases own_set (e := wipeE vs e) h with ⟨_, c, z | ⟨_, z⟩⟩ | ⟨h1, h2⟩
    · cases z
    · cases z
    · obtain ⟨h3, h4⟩ := own_wipe h2
      exact ⟨h3, fun z => (List.mem_cons.mp z).elim h1 h4⟩
theorem own_rest {e e3 : Ev} {j : Nat} : ∀ {vs : List Nat}, own (restE vs e e3) j = true → own e3 j = true ∧ j ∉ vs
  | [], h => ⟨h, fun z => nomatch z⟩
  | v :: vs, h => by
    rcases own_set (e := restE vs e e3) h with ⟨_, c, z | ⟨x, z⟩⟩ | ⟨h1, h2⟩
    · exact absurd z (keepS_no.1 c)
    · exact absurd z (keepS_no.2 x)
    · obtain ⟨h3, h4⟩ := own_rest h2
      exact ⟨h3, fun z => (List.mem_cons.mp z).elim h1 h4⟩
end
section
variable {X : Cx} {W : WX} {elt it tg : Expr} {ifs : List Expr} {scope : Scope} {pos : Pos} {own : List (Str × Nat)} {sl vs : List Nat} {fi : Ev → R (List D × Ev)} {gt : D → Ev → Option Ev} {ft : Ev → R (Bool × Ev)} {fe : Ev → R (D × Ev)}
theorem lcM_mono (hs : ∀ j ∈ sl, j ∈ vs) (hsub : ∀ d e e', gt d e = some e' → ∀ j, DL.own e' j = true → DL.own e j = true) (σ : L2.St) (H : Hp) (Q : VK) : tML X (lcM vs fi gt ft fe) σ H Q → tLc (tIM X fi) (tG X sl gt) (tTM X ft) (tM X fe) vs σ H Q := fun ⟨g, F, e, r, o⟩ => ⟨g, F, e, r, o.bind'.imp fun ds o J F1 H1 r1 s1 k1 its A hA => by
  obtain ⟨dl, eS⟩ := ds
  obtain ⟨cz, o⟩ := On.chk o
  have cz : dl.length ≤ sizeLine := of_decide_eq_true cz
  have its : ItS X.K X.mg J F1 dl := its
  obtain ⟨rs, hrs, o⟩ := On.bind o
  obtain ⟨rs, ef⟩ := rs
  have o : ∀ a F' H', Rel X.K X.mg g F' σ H' ef → Same F F' → Kp σ F e H F' ef H' → Fresh X.K X.mg g F' σ H' ef a (.l rs) → (H a = none ∨ ¬ Free σ e a) → Q (.ref a) H' := o
  have fr0 := Fresh.new (o := .lst []) r1 hA (.l .nil)
  have fA : Free σ eS A := fun i hi z => by
    unfold DL.own at hi
    split at hi
    · rename_i c q
      exact fr0.no i c q z
    · rename_i xs q
      obtain ⟨a, vs, h0, h1, h2, _⟩ := r1.ih i xs q
      rw [z] at h1
      cases h1
      rw [hA] at h2
      cases h2
    · cases hi
  refine ⟨fun i m H' => ∃ F' e' vacc acc rst, Rel X.K X.mg g F' σ H' e' ∧ Same F1 F' ∧ Kp σ F1 eS H1 F' e' H' ∧ Free σ e' A ∧ H' A = some (.lst vacc) ∧ RpA X.K X.mg F' vacc acc ∧ F' A = none ∧ i + m = dl.length ∧ acc.length ≤ i ∧ lcLM vs gt ft fe (dl.drop i) e' = .ok (rst, ef) ∧ acc ++ rst = rs,
    ⟨dl.length, F1, eS, [], [], rs, r1.ext (Gr.junk r1.fh hA), Same.refl _, .gr (Gr.junk r1.fh hA), fA, upd_same, .nil, r1.fh.free hA, Nat.zero_add _, Nat.le_refl _, hrs, rfl⟩, ?_⟩
  rintro i m H' ⟨F2, e2, vacc, acc, rst, r2, s2, k2, f2, hA2, ra, nf, em, la, hl, er⟩
  by_cases hi : i < dl.length
  · refine .inr ⟨its.go i H' (s2.trans r2.fh) hi, fun H' => ∃ F' e' vacc acc rst, Rel X.K X.mg g F' σ H' e' ∧ Same F1 F' ∧ Kp σ F1 eS H1 F' e' H' ∧ Free σ e' A ∧ H' A = some (.lst vacc) ∧ RpA X.K X.mg F' vacc acc ∧ F' A = none ∧ (i + 1) + (m - 1) = dl.length ∧ acc.length ≤ i + 1 ∧ lcLM vs gt ft fe (dl.drop (i + 1)) e' = .ok (rst, ef) ∧ acc ++ rst = rs,
      fun H' h => ⟨m - 1, by omega, h⟩, fun x H3 y => ?_⟩
    obtain ⟨F3, d, hd, g3, rp⟩ := its.yld i F2 H' x H3 s2 r2.fh hi y
    have ed : dl.drop i = d :: dl.drop (i + 1) := by
      rw [List.drop_eq_getElem_cons hi]
      rw [List.getElem?_eq_getElem hi] at hd
      rw [Option.some.inj hd]
    rw [ed] at hl
    have hl : (match gt d (wipeE vs e2) with
      | none => .no
      | some e1 => (ft e1).nox >>= fun b => if b.1 = true then (fe b.2).nox >>= fun y => lcLM vs gt ft fe (dl.drop (i + 1)) (restE vs e2 y.2) >>= fun r => .ok (y.1 :: r.1, r.2) else lcLM vs gt ft fe (dl.drop (i + 1)) (restE vs e2 b.2)) = R.ok (rst, ef) := hl
    have r3 := r2.ext g3
    have rw3 := r3.wipe vs
    refine ⟨g, F3, wipeE vs e2, d, rw3, rp, ?_⟩
    cases q : gt d (wipeE vs e2) with
    | none => rw [q] at hl; cases hl
    | some e1 =>
      rw [q] at hl
      obtain ⟨b, hb, hl⟩ := R.of_bind hl
      have hb := R.of_nox hb
      obtain ⟨b, e4⟩ := b
      refine ⟨e1, rfl, fun σ2 r4 nj lj => ⟨wipe_eq hs nj lj, g, F3, e1, r4, ?_⟩⟩
      have hσ : ∀ j, j ∉ vs → σ2[j]? = σ[j]? := fun j hj => by rw [nj j (fun z => hj (hs j z)), wipe_out hj]
      have hlen : σ2.length = σ.length := by rw [lj, wipe_length]
      have down : ∀ a, Free σ e2 a → Free σ2 e1 a := fun a fa j hj z => by
        obtain ⟨h1, h2⟩ := own_wipe (hsub _ _ _ q j hj)
        rw [hσ j h2] at z
        exact fa j h1 z
      have upw : ∀ {e5 : Ev} a, Free σ2 e5 a → Free σ (restE vs e2 e5) a := fun {e5} a fa j hj z => by
        obtain ⟨h1, h2⟩ := own_rest hj
        rw [← hσ j h2] at z
        exact fa j h1 z
      have hA3 : H3 A = some (.lst vacc) := g3.hh _ _ hA2
      have nf3 : F3 A = none := by
        cases z : F3 A with
        | none => rfl
        | some u =>
          rcases g3.nw A (ne_none z) with z2 | z2
          · exact absurd nf z2
          · rw [hA2] at z2; cases z2
      rw [hb]
      show ∀ F' H', _ → _ → _ → _
      intro F4 H4 r5 s5 k5
      have hA4 : H4 A = some (.lst vacc) := k5.keep A _ hA3 (down A f2)
      have nf4 : F4 A = none := by
        cases z : F4 A with
        | none => rfl
        | some u =>
          rcases k5.nwf A (ne_none z) with z1 | z1 | z1
          · exact absurd nf3 z1
          · rw [hA3] at z1; cases z1
          · exact absurd (down A f2) z1
      have k23 : Kp σ F1 eS H1 F3 e2 H3 := k2.trans (.gr g3)
      have k4 : Kp σ F1 eS H1 F4 (restE vs e2 e4) H4 := k23.trans ⟨fun a ob h fa => k5.keep a ob h (down a fa), fun a fa => upw a (k5.free a (down a fa)), fun a h => (k5.nwf a h).imp_right (·.imp_right fun z fa => z (down a fa))⟩
      cases b with
      | false =>
        rw [if_neg Bool.false_ne_true] at hl ⊢
        exact ⟨F4, _, vacc, acc, rst, r3.rest s5 r5 hσ hlen, (s2.trans g3.ff).trans s5, k4, k4.free A fA, hA4, ra.mono (g3.ff.trans s5), nf4, by omega, by omega, hl, er⟩
      | true =>
        rw [if_pos rfl] at hl ⊢
        obtain ⟨y, hy, hl⟩ := R.of_bind hl
        have hy := R.of_nox hy
        obtain ⟨y, e6⟩ := y
        obtain ⟨rst', hl2, hr⟩ := R.of_bind hl
        obtain ⟨rst', ef'⟩ := rst'
        cases hr
        refine ⟨g, F4, e4, r5, ?_⟩
        rw [hy]
        show ∀ v F' H', _ → _ → _ → _ → _
        intro v F5 H5 r6 s6 k6 rv
        have fA4 := k5.free A (down A f2)
        have hA5 := k6.keep A _ hA4 fA4
        have nf5 : F5 A = none := by
          cases z : F5 A with
          | none => rfl
          | some u =>
            rcases k6.nwf A (ne_none z) with z1 | z1 | z1
            · exact absurd nf4 z1
            · rw [hA4] at z1; cases z1
            · exact absurd fA4 z1
        have k56 := k5.trans k6
        have k7 : Kp σ F1 eS H1 F5 (restE vs e2 e6) H5 := k23.trans ⟨fun a ob h fa => k56.keep a ob h (down a fa), fun a fa => upw a (k56.free a (down a fa)), fun a h => (k56.nwf a h).imp_right (·.imp_right fun z fa => z (down a fa))⟩
        have r7 := r3.rest (s5.trans s6) r6 hσ hlen
        have fA7 := k7.free A fA
        refine ⟨vacc, hA5, by rw [ra.length]; omega, F5, restE vs e2 e6, vacc ++ [v], acc ++ [y], rst', r7.other nf5 fr0.n0 fr0.ni (fun i c hc => fA7 i (own_ow hc)), ((s2.trans g3.ff).trans s5).trans s6, ⟨fun a ob h fa => ?_, k7.free, k7.nwf⟩, fA7, upd_same, ?_, nf5, by omega, by rw [List.length_append]; show acc.length + 1 ≤ i + 1; omega, hl2, by rw [List.append_assoc]; exact er⟩
        · rw [upd_ne (ne_of_none h hA)]
          exact k7.keep a ob h fa
        · exact (ra.mono ((g3.ff.trans s5).trans s6)).append (.cons rv .nil)
  · refine .inl ⟨its.stop i H' (s2.trans r2.fh) (by omega), ?_⟩
    rw [List.drop_eq_nil_of_le (by omega)] at hl
    cases hl
    rw [List.append_nil] at er
    subst er
    refine o A F2 H' r2 (s1.trans s2) (k1.trans k2) ⟨⟨_, hA2, .l ra⟩, nf, fr0.n0, fr0.ni, fun i c hc => f2 i (own_ow hc)⟩ ?_
    cases q : H A with
    | none => exact .inl rfl
    | some u => exact .inr fun f => by rw [k1.keep A u q f] at hA; cases hA⟩
theorem ML.lc (own : List (Str × Nat)) (hc : X.calm = true) (hN : X.N.Nodup) (hi : IM X tg it fi) (ok : BlkOk X.N X.env.scope scope own) (hs : ∀ j ∈ sl, j ∈ own.map (·.2))
    (hg : ∀ (s : Shared) (H : Hp) (C : Addr) (cl : List (Str × Addr)) (fp : List Addr), G (X.blk s H scope (compEnvC scope cl C X.env) fp) sl tg gt)
    (ht : ∀ (s : Shared) (H : Hp) (C : Addr) (cl : List (Str × Addr)) (fp : List Addr), TsM (X.blk s H scope (compEnvC scope cl C X.env) fp) ifs ft)
    (he : ∀ (s : Shared) (H : Hp) (C : Addr) (cl : List (Str × Addr)) (fp : List Addr), M (X.blk s H scope (compEnvC scope cl C X.env) fp) elt fe)
    (hsub : ∀ d e e', gt d e = some e' → ∀ j, DL.own e' j = true → DL.own e j = true)
    (hf : ∀ x, foldedSetIterable it X.env x = pure x := by intro _; rfl) : ML X (.ListComp elt [⟨tg, it, ifs, 0⟩] scope pos) (lcM (own.map (·.2)) fi gt ft fe) :=
  ⟨PE_mono (pe_lc hc hN hi.pi ok (fun s H C cl fp => (hg s H C cl fp).pg) (fun s H C cl fp => (ht s H C cl fp).pt) (fun s H C cl fp => (he s H C cl fp).pe) hf) (lcM_mono hs hsub)⟩
theorem S.setLcM (i : Nat) (own : List (Str × Nat)) {y : Str} {py spos : Pos} (hc : X.calm = true) (hN : X.N.Nodup) (hi : IM X tg it fi) (ok : BlkOk X.N X.env.scope scope own) (hs : ∀ j ∈ sl, j ∈ own.map (·.2))
    (hg : ∀ (s : Shared) (H : Hp) (C : Addr) (cl : List (Str × Addr)) (fp : List Addr), G (X.blk s H scope (compEnvC scope cl C X.env) fp) sl tg gt)
    (ht : ∀ (s : Shared) (H : Hp) (C : Addr) (cl : List (Str × Addr)) (fp : List Addr), TsM (X.blk s H scope (compEnvC scope cl C X.env) fp) ifs ft)
    (he : ∀ (s : Shared) (H : Hp) (C : Addr) (cl : List (Str × Addr)) (fp : List Addr), M (X.blk s H scope (compEnvC scope cl C X.env) fp) elt fe)
    (hsub : ∀ d e e', gt d e = some e' → ∀ j, DL.own e' j = true → DL.own e j = true)
    (hsw : swapsWith (.ListComp elt [⟨tg, it, ifs, 0⟩] scope pos) (some (.Name y py)) spos.line X.env = pure true)
    (hy : X.N[i]? = some y := by rfl) (hyl : X.env.scope.names.lookup y = some .local := by rfl)
    (hf : ∀ x, foldedSetIterable it X.env x = pure x := by intro _; rfl) : S X W (.Assign [.Name y py] (.ListComp elt [⟨tg, it, ifs, 0⟩] scope pos) spos) (asgML (lcM (own.map (·.2)) fi gt ft fe) i) :=
  ⟨PS_mono (ps_setLc hc hN hy hyl hsw hi.pi ok (fun s H C cl fp => (hg s H C cl fp).pg) (fun s H C cl fp => (ht s H C cl fp).pt) (fun s H C cl fp => (he s H C cl fp).pe) hf) fun D σ H q => lcM_mono hs hsub σ H _ (asgML_mono D σ H q)⟩
theorem S.setLcMF (i : Nat) (own : List (Str × Nat)) {y : Str} {py spos : Pos} (hc : X.calm = true) (hN : X.N.Nodup) (hi : IM X tg it fi) (ok : BlkOk X.N X.env.scope scope own) (hs : ∀ j ∈ sl, j ∈ own.map (·.2))
    (hg : ∀ (s : Shared) (H : Hp) (C : Addr) (cl : List (Str × Addr)) (fp : List Addr), G (X.blk s H scope (compEnvC scope cl C X.env) fp) sl tg gt)
    (ht : ∀ (s : Shared) (H : Hp) (C : Addr) (cl : List (Str × Addr)) (fp : List Addr), TsM (X.blk s H scope (compEnvC scope cl C X.env) fp) ifs ft)
    (he : ∀ (s : Shared) (H : Hp) (C : Addr) (cl : List (Str × Addr)) (fp : List Addr), M (X.blk s H scope (compEnvC scope cl C X.env) fp) elt fe)
    (hsub : ∀ d e e', gt d e = some e' → ∀ j, DL.own e' j = true → DL.own e j = true)
    (hsw : swapsWith (.ListComp elt [⟨tg, it, ifs, 0⟩] scope pos) (some (.Name y py)) spos.line X.env = pure true)
    (hy : X.N[i]? = some y := by rfl) (hyl : X.env.scope.names.lookup y = some .local := by rfl)
    (hf : ∀ x, foldedSetIterable it X.env x = pure x := by intro _; rfl) : S X W (.Assign [.Name y py] (.ListComp elt [⟨tg, it, ifs, 0⟩] scope pos) spos) (asgM (fzM (lcM (own.map (·.2)) fi gt ft fe)) (setV i)) :=
  ⟨PS_mono (ps_setLc hc hN hy hyl hsw hi.pi ok (fun s H C cl fp => (hg s H C cl fp).pg) (fun s H C cl fp => (ht s H C cl fp).pt) (fun s H C cl fp => (he s H C cl fp).pe) hf) fun D σ H q => lcM_mono hs hsub σ H _ (asgMLF_mono D σ H q)⟩
end
end DL


namespace DL
open PySem PySem.Spec PyProof.Rows L2

/-! ### what a def is worth -/
def spP (K : PySem.W.Frag) (mg : Str → Option Value) (n : Nat) (φ : List D → R D) : Sp := fun vs H Q E => vs.length = n ∧ ∃ F ds, Same F H ∧ RpA K mg F vs ds ∧ match φ ds with
  | .ok d => ∀ v F' H', Gr F H F' H' → Rp K mg F' v d → Q v H'
  | .ex c p => ∀ C dd F' H', Gr F H F' H' → ExcAt K mg F' H' c p C dd → E (.ref C) (some dd) H'
  | .no => False
/-- the first argument is a list that the def changes -/
def spIO (K : PySem.W.Frag) (mg : Str → Option Value) (n : Nat) (φ : List D → List D → R (D × List D)) : Sp := fun vs H Q E => vs.length = n ∧ ∃ F a us ws xs ds, vs = .ref a :: us ∧ H a = some (.lst ws) ∧ F a = none ∧ Same F H ∧ RpA K mg F ws xs ∧ RpA K mg F us ds ∧ match φ xs ds with
  | .ok r => ∀ v F' H' ws', Same F F' → Same F' H' → (∀ b o, b ≠ a → H b = some o → H' b = some o) → (∀ b, F' b ≠ none → F b ≠ none ∨ H b = none) → H' a = some (.lst ws') → RpA K mg F' ws' r.2 → Rp K mg F' v r.1 → Q v H'
  | _ => False
def ev0 (n : Nat) (ds : List D) : Ev := ds.map Sl.im ++ List.replicate (n - ds.length) .un
def runP (n : Nat) (b : Ev → O) (ds : List D) : R D := match b (ev0 n ds) with
  | .rt d _ => .ok d
  | .nx _ => .ok .non
  | .ex c p _ => .ex c p
  | _ => .no
def ioAt (e : Ev) (d : D) : R (D × List D) := match (e[0]? : Option Sl) with
  | some (.io ys) => .ok (d, ys)
  | _ => .no
def evIO (n : Nat) (xs : List D) (ds : List D) : Ev := .io xs :: (ds.map Sl.im ++ List.replicate (n - (ds.length + 1)) .un)
def runIO (n : Nat) (b : Ev → O) (xs : List D) (ds : List D) : R (D × List D) := match b (evIO n xs ds) with
  | .rt d e => ioAt e d
  | .nx e => ioAt e .non
  | _ => .no
section
variable {K : PySem.W.Frag} {mg : Str → Option Value} {F H : Hp}
theorem im_start {vs : List V} {ds : List D} (r : RpA K mg F vs ds) (m : Nat) (i : Nat) (d : D) (h : (ds.map Sl.im ++ List.replicate m .un)[i]? = some (.im d)) : ∃ v, (vs.map some ++ List.replicate m none)[i]? = some (some v) ∧ Rp K mg F v d := by
  by_cases hi : i < ds.length
  · rw [List.getElem?_append_left (by rw [List.length_map]; exact hi), List.getElem?_map, List.getElem?_eq_getElem hi] at h
    cases h
    obtain ⟨v, h1, h2⟩ := r.get (List.getElem?_eq_getElem hi)
    refine ⟨v, ?_, h2⟩
    rw [List.getElem?_append_left (by rw [List.length_map, r.length]; exact hi), List.getElem?_map, h1]
    rfl
  · rw [List.getElem?_append_right (by rw [List.length_map]; omega), List.getElem?_replicate] at h
    split at h <;> cases h
theorem no_start {ds : List D} (m : Nat) (i : Nat) (s : Sl) (h : (ds.map Sl.im ++ List.replicate m .un)[i]? = some s) : (∀ c, s ≠ .ow c) ∧ ∀ c, s ≠ .io c := by
  by_cases hi : i < ds.length
  · rw [List.getElem?_append_left (by rw [List.length_map]; exact hi), List.getElem?_map, List.getElem?_eq_getElem hi] at h
    cases h
    exact ⟨fun _ h => Sl.noConfusion h, fun _ h => Sl.noConfusion h⟩
  · rw [List.getElem?_append_right (by rw [List.length_map]; omega), List.getElem?_replicate] at h
    split at h
    · cases h
      exact ⟨fun _ h => Sl.noConfusion h, fun _ h => Sl.noConfusion h⟩
    · cases h
theorem rel_start {vs : List V} {ds : List D} (n : Nat) (s : Same F H) (r : RpA K mg F vs ds) : Rel K mg ⟨F, H, none⟩ F (vs.map some ++ List.replicate (n - vs.length) none) H (ev0 n ds) where
  len := by
    unfold ev0
    rw [List.length_append, List.length_append, List.length_map, List.length_map, List.length_replicate, List.length_replicate, r.length]
  f0 := Same.refl _
  fh := s
  nw := fun a h => .inl h
  old := fun a o h _ => h
  im := fun i d h => by
    unfold ev0 at h
    rw [r.length]
    exact im_start r _ i d h
  ow := fun i c h => absurd rfl ((no_start _ i _ h).1 c)
  ih := fun i c h => absurd rfl ((no_start _ i _ h).2 c)
  iof := fun a h => nomatch h
  sep := fun i j c c' a _ h => absurd rfl ((no_start _ i _ h).1 c)
  iu := fun i j xs ys h => absurd rfl ((no_start _ i _ h).2 xs)
theorem rel_startIO {a : Addr} {us : List V} {ws : List V} {xs ds : List D} (n : Nat) (s : Same F H) (ha : H a = some (.lst ws)) (nf : F a = none) (rx : RpA K mg F ws xs) (r : RpA K mg F us ds) :
    Rel K mg ⟨F, H, some a⟩ F ((V.ref a :: us).map some ++ List.replicate (n - (V.ref a :: us).length) none) H (evIO n xs ds) where
  len := by
    unfold evIO
    simp only [List.length_append, List.length_map, List.length_replicate, List.length_cons, r.length]
    omega
  f0 := Same.refl _
  fh := s
  nw := fun a h => .inl h
  old := fun a o h _ => h
  im := fun i d h => by
    cases i with
    | zero => cases h
    | succ i =>
      have := im_start r (n - (ds.length + 1)) i d (by simpa [evIO] using h)
      simpa [List.length_cons, r.length] using this
  ow := fun i c h => by
    cases i with
    | zero => cases h
    | succ i => exact absurd rfl ((no_start (n - (ds.length + 1)) i (.ow c) (by simpa [evIO] using h)).1 c)
  ih := fun i c h => by
    cases i with
    | zero =>
      cases h
      exact ⟨a, ws, rfl, rfl, ha, rx⟩
    | succ i => exact absurd rfl ((no_start (n - (ds.length + 1)) i (.io c) (by simpa [evIO] using h)).2 c)
  iof := fun b h => by
    cases h
    exact ⟨nf, ne_none ha⟩
  sep := fun i j c c' a _ h => by
    cases i with
    | zero => cases h
    | succ i => exact absurd rfl ((no_start (n - (ds.length + 1)) i (.ow c) (by simpa [evIO] using h)).1 c)
  iu := fun i j c ys h h2 => by
    cases i with
    | zero =>
      cases j with
      | zero => rfl
      | succ j => exact absurd rfl ((no_start (n - (ds.length + 1)) j (.io ys) (by simpa [evIO] using h2)).2 ys)
    | succ i => exact absurd rfl ((no_start (n - (ds.length + 1)) i (.io c) (by simpa [evIO] using h)).2 c)
end
section
variable {P : Program} {w : World} {K : PySem.W.Frag} {mg : Str → Option Value} {base : Heap}
abbrev WD (E : XK) : WX := fun cls d _ H => E cls d H
/-- a def, by its body -/
theorem fn_ok {x qual : Str} {st : Stmt} {f : Addr} {fd : FuncData} {N ps : List Str} {k : Nat} {b : Ev → O} (F : Fun K x qual st f fd) (S : FnScope N ps (defScope st))
    (hb : ∀ (cdv : Value) (A : Around) (outer : List Env) (s : Shared) (H : Hp) (E : XK), Room k (A.deeper (envOfC qual (defScope st) s.heap.objs.size f cdv)) → Ss (cxOf (L2.CX P w) P w K mg base N qual (defScope st) f cdv A outer s H E) (WD E) (defBody st) b) :
    FnOk P w K mg base (L2.CX P w) (k + 1) f fd ps (spP K mg ps.length (runP N.length b)) := by
  refine F.okX S (fun vs H Q E h => h.1) (fun cdv A outer s H vs Q E hr h => ⟨_, (hb cdv A outer s H E hr).ps, ?_⟩)
  obtain ⟨hl, F0, ds, sm, rp, q⟩ := h
  have r0 := rel_start (n := N.length) sm rp
  refine ⟨⟨F0, H, none⟩, F0, ev0 N.length ds, r0, ?_⟩
  have gr : ∀ {σ F' H' e}, Rel K mg ⟨F0, H, none⟩ F' σ H' e → Gr F0 H F' H' := fun r => ⟨r.f0, r.fh, fun b o h => r.old b o h (fun z => nomatch z), r.nw⟩
  unfold runP at q
  cases z : b (ev0 N.length ds) with
  | rt d e => rw [z] at q; exact fun v σ' F' H' r s rv => q v F' H' (gr r) rv
  | nx e => rw [z] at q; exact fun σ' F' H' r s => q .non F' H' (gr r) .non
  | ex c p e => rw [z] at q; exact fun C dd σ' F' H' r s ea => q C dd F' H' (gr r) ea
  | bk e => rw [z] at q; exact q.elim
  | ct e => rw [z] at q; exact q.elim
  | no => rw [z] at q; exact q.elim
theorem fn_okIO {x qual : Str} {st : Stmt} {f : Addr} {fd : FuncData} {N ps : List Str} {k : Nat} {b : Ev → O} (F : Fun K x qual st f fd) (S : FnScope N ps (defScope st))
    (hb : ∀ (cdv : Value) (A : Around) (outer : List Env) (s : Shared) (H : Hp) (E : XK), Room k (A.deeper (envOfC qual (defScope st) s.heap.objs.size f cdv)) → Ss (cxOf (L2.CX P w) P w K mg base N qual (defScope st) f cdv A outer s H E) (WD E) (defBody st) b) :
    FnOk P w K mg base (L2.CX P w) (k + 1) f fd ps (spIO K mg ps.length (runIO N.length b)) := by
  refine F.okX S (fun vs H Q E h => h.1) (fun cdv A outer s H vs Q E hr h => ⟨_, (hb cdv A outer s H E hr).ps, ?_⟩)
  obtain ⟨hl, F0, a, us, ws, xs, ds, rfl, ha, nf, sm, rx, rp, q⟩ := h
  have r0 := rel_startIO (n := N.length) sm ha nf rx rp
  refine ⟨⟨F0, H, some a⟩, F0, evIO N.length xs ds, r0, ?_⟩
  have fin : ∀ {v d σ F' H' e}, Rel K mg ⟨F0, H, some a⟩ F' σ H' e → Rp K mg F' v d → (match ioAt e d with
      | .ok r => ∀ v F' H' ws', Same F0 F' → Same F' H' → (∀ b o, b ≠ a → H b = some o → H' b = some o) → (∀ b, F' b ≠ none → F0 b ≠ none ∨ H b = none) → H' a = some (.lst ws') → RpA K mg F' ws' r.2 → Rp K mg F' v r.1 → Q v H'
      | _ => False) → Q v H' := fun {v d σ F' H' e} r rv q => by
    unfold ioAt at q
    split at q
    · rename_i r2 hr2
      split at hr2
      · rename_i ys h0
        cases hr2
        obtain ⟨a', ws', e1, e2, e3, e4⟩ := r.ih 0 ys h0
        cases e1
        exact q v F' H' ws' r.f0 r.fh (fun b o hb h => r.old b o h (fun z => hb (Option.some.inj z).symm)) r.nw e3 e4 rv
      · cases hr2
    · exact q.elim
  unfold runIO at q
  cases z : b (evIO N.length xs ds) with
  | rt d e => rw [z] at q; exact fun v σ' F' H' r s rv => fin r rv q
  | nx e => rw [z] at q; exact fun σ' F' H' r s => fin r .non q
  | ex c p e => rw [z] at q; exact q.elim
  | bk e => rw [z] at q; exact q.elim
  | ct e => rw [z] at q; exact q.elim
  | no => rw [z] at q; exact q.elim
theorem takes_def {qual : Str} {N : List Str} {sc : Scope} {f : Addr} {cdv : Value} {A : Around} {outer : List Env} {s : Shared} {H : Hp} {E : XK} : Takes (cxOf (L2.CX P w) P w K mg base N qual sc f cdv A outer s H E) (WD E) := takes_of rfl rfl rfl rfl
theorem passes_def {qual : Str} {N : List Str} {sc : Scope} {f : Addr} {cdv : Value} {A : Around} {outer : List Env} {s : Shared} {H : Hp} {E : XK} :
    PassesOwn (model (cxOf (L2.CX P w) P w K mg base N qual sc f cdv A outer s H E).prog (cxOf (L2.CX P w) P w K mg base N qual sc f cdv A outer s H E).w) (cxOf (L2.CX P w) P w K mg base N qual sc f cdv A outer s H E).A (cxOf (L2.CX P w) P w K mg base N qual sc f cdv A outer s H E).env (cxOf (L2.CX P w) P w K mg base N qual sc f cdv A outer s H E).xe := passes_of rfl
end

/-! ### calls -/
section
variable {X : Cx} {W : WX} {k n : Nat} {f : Addr} {fd : FuncData} {ps : List Str} {x : Str} {p pos : Pos} {e : Expr} {es : List Expr}
theorem P.call {φ : List D → R D} {fs : Ev → R (List D)} (F : FnOk X.prog X.w X.K X.mg X.base (L2.CX X.prog X.w) k f fd ps (spP X.K X.mg n φ)) (hr : Room k X.A) (hm : X.mg x = some (.ref f)) (hk : PySem.W.keepIn X.K (.ref f) = true) (hb : Binds X.K fd ps []) (tk : Takes X W) (hn : (e :: es).length = n) (ha : Ps X W (e :: es) fs)
    (hg : Gl X x := by rfl) (hdb : (x == ("__debug__" : Str)) = false := by decide) (he : starEach (e :: es) X.env = (false, eval e X.env) :: starEach es X.env := by rfl) (hpl : (backTo pos (starEach es X.env)).any (·.1) = false := by rfl) :
    P X W (.Call (.Name x p) (e :: es) [] pos) (fun e => fs e >>= φ) := ⟨PE_mono (pe_callSD F hr hg hm hk hb .nil (fun σ => passAt tk σ) ha.pa hdb he hpl) fun σ H Q ⟨g, F, ev, r, o⟩ => by
  refine ⟨g, F, ev, r, ?_⟩
  have o := o.bind
  cases q : fs ev with
  | ok ds =>
    rw [q] at o
    have o : Ot X W g F σ ev (φ ds) _ := o
    show ∀ vs F' H', _ → _ → _
    intro vs F1 H1 g1 rp
    rw [List.append_nil]
    refine ⟨by rw [rp.length, ha.len ev ds q]; exact hn, F1, ds, g1.fh, rp, ?_⟩
    cases z : φ ds with
    | ok d => rw [z] at o; exact fun v F' H' gr rv => o v F' H' (g1.trans gr) rv
    | ex c p => rw [z] at o; exact fun C dd F' H' gr ea => o C dd F' H' ((r.ext g1).ext gr) (g1.ff.trans gr.ff) ea
    | no => rw [z] at o; exact o
  | ex c p => rw [q] at o; exact o
  | no => rw [q] at o; exact o⟩
/-- .. told lists that are owned: what comes back needs no heap -/
def flatR (m : R D) : R D := match m with
  | .ok d => R.chk (flat d) (.ok d)
  | .ex c p => R.chk (flat p) (.ex c p)
  | .no => .no
theorem RpBs.rp {K : PySem.W.Frag} {mg : Str → Option Value} {F H : Hp} (s : Same F H) : ∀ {vs : List V} {ds : List D}, RpBs K mg F H vs ds → RpA K mg H vs ds
  | _, _, .nil => .nil
  | _, _, .cons h r => .cons (h.rp s) (RpBs.rp s r)
theorem P.callB {φ : List D → R D} {fs : Ev → R (List D)} (F : FnOk X.prog X.w X.K X.mg X.base (L2.CX X.prog X.w) k f fd ps (spP X.K X.mg n φ)) (hr : Room k X.A) (hm : X.mg x = some (.ref f)) (hk : PySem.W.keepIn X.K (.ref f) = true) (hb : Binds X.K fd ps []) (tk : Takes X W) (hn : (e :: es).length = n) (ha : Bs X W (e :: es) fs)
    (hg : Gl X x := by rfl) (hdb : (x == ("__debug__" : Str)) = false := by decide) (he : starEach (e :: es) X.env = (false, eval e X.env) :: starEach es X.env := by rfl) (hpl : (backTo pos (starEach es X.env)).any (·.1) = false := by rfl) :
    P X W (.Call (.Name x p) (e :: es) [] pos) (fun e => fs e >>= fun ds => flatR (φ ds)) := ⟨PE_mono (pe_callSD F hr hg hm hk hb .nil (fun σ => passAt tk σ) ha.pa hdb he hpl) fun σ H Q ⟨g, F, ev, r, o⟩ => by
  refine ⟨g, F, ev, r, ?_⟩
  have o := o.bind
  cases q : fs ev with
  | ok ds =>
    rw [q] at o
    have o : Ot X W g F σ ev (flatR (φ ds)) _ := o
    show ∀ vs F' H', _ → _ → _
    intro vs F1 H1 g1 rp
    rw [List.append_nil]
    have rp' := rp.rp g1.fh
    refine ⟨by rw [rp'.length, ha.len ev ds q]; exact hn, H1, ds, Same.refl _, rp', ?_⟩
    unfold flatR at o
    cases z : φ ds with
    | ok d =>
      rw [z] at o
      obtain ⟨fl, o⟩ := Ot.chk o
      exact fun v F' H' gr rv => o v F1 H' (g1.trans ⟨Same.refl _, g1.fh.trans gr.hh, gr.hh, fun a h => .inl h⟩) (rv.flat fl)
    | ex c p =>
      rw [z] at o
      obtain ⟨fl, o⟩ := Ot.chk o
      exact fun C dd F' H' gr ea => o C dd F1 H' ((r.ext g1).ext ⟨Same.refl _, g1.fh.trans gr.hh, gr.hh, fun a h => .inl h⟩) g1.ff ⟨ea.cls, by
        obtain ⟨fs, v, h1, h2, h3⟩ := ea.xd
        exact ⟨fs, v, h1, h2, h3.flat fl⟩⟩
    | no => rw [z] at o; exact o
  | ex c p => rw [q] at o; exact o
  | no => rw [q] at o; exact o⟩
theorem passA {X : Cx} {W : WX} (tk : Takes X W) : ∀ σ, PassesAt (L2.CX X.prog X.w) X σ (WE W σ) := fun σ => passAt tk σ
/-- .. told what may change what is owned: nothing is raised -/
theorem M.call {φ : List D → R D} {fs : Ev → R (List D × Ev)} (F : FnOk X.prog X.w X.K X.mg X.base (L2.CX X.prog X.w) k f fd ps (spP X.K X.mg n φ)) (hr : Room k X.A) (hm : X.mg x = some (.ref f)) (hk : PySem.W.keepIn X.K (.ref f) = true) (hb : Binds X.K fd ps []) (hn : (e :: es).length = n) (ha : Ms X (e :: es) fs)
    (hg : Gl X x := by rfl) (hdb : (x == ("__debug__" : Str)) = false := by decide) (he : starEach (e :: es) X.env = (false, eval e X.env) :: starEach es X.env := by rfl) (hpl : (backTo pos (starEach es X.env)).any (·.1) = false := by rfl) :
    M X (.Call (.Name x p) (e :: es) [] pos) (fun e => fs e >>= fun ds => φ ds.1 >>= fun d => .ok (d, ds.2)) := ⟨PE_mono (pe_call F hr hg hm hk hb .nil passL ha.pa hdb he hpl) fun σ H Q ⟨g, F, ev, r, o⟩ => by
  obtain ⟨ds, q, o⟩ := On.bind o
  obtain ⟨d, z, o⟩ := On.bind o
  refine ⟨g, F, ev, r, ?_⟩
  rw [q]
  show ∀ vs F' H', _ → _ → _ → _ → _
  intro vs F1 H1 r1 s1 k1 rp
  rw [List.append_nil]
  refine ⟨by rw [rp.length, ha.len ev ds q]; exact hn, F1, ds.1, r1.fh, rp, ?_⟩
  rw [z]
  exact fun v F' H' gr rv => o v F' H' (r1.ext gr) (s1.trans gr.ff) (k1.trans (.gr gr)) rv⟩
/-- a def that changes the list in slot i -/
def callIO (i : Nat) (φ : List D → List D → R (D × List D)) (fs : Ev → R (List D × Ev)) : Ev → R (D × Ev) := fun e => R.chk (own e i) (fs e >>= fun ds => match (ds.2[i]? : Option Sl) with
  | some (.ow (.l xs)) => φ xs ds.1 >>= fun r => .ok (r.1, ds.2.set i (.ow (.l r.2)))
  | some (.io xs) => φ xs ds.1 >>= fun r => .ok (r.1, ds.2.set i (.io r.2))
  | _ => .no)
theorem own_at {K : PySem.W.Frag} {mg : Str → Option Value} {g : Gd} {F H : Hp} {σ : L2.St} {ev : Ev} {i : Nat} (r : Rel K mg g F σ H ev) (h : own ev i = true) : ∃ a, σ[i]? = some (some (.ref a)) := by
  unfold own at h
  split at h
  · rename_i c q
    obtain ⟨a, o, h1, _⟩ := r.ow i c q
    exact ⟨a, h1⟩
  · rename_i c q
    obtain ⟨a, vs, _, h1, _⟩ := r.ih i c q
    exact ⟨a, h1⟩
  · cases h
/-- a slot's list is changed, more is frozen -/
theorem Rel.grown {K : PySem.W.Frag} {mg : Str → Option Value} {g : Gd} {F1 H1 F' H' : Hp} {σ : L2.St} {ev : Ev} {a : Addr} {o : HO} (r : Rel K mg g F1 σ H1 ev) (h1 : H1 a = some o) (nf : F1 a = none) (ff : Same F1 F') (fh : Same F' H') (hh : ∀ b u, b ≠ a → H1 b = some u → H' b = some u) (nw : ∀ b, F' b ≠ none → F1 b ≠ none ∨ H1 b = none) :
    Rel K mg g F' σ (fun b => if b = a then H1 a else H' b) ev ∧ F' a = none := by
  have nf' : F' a = none := by
    cases z : F' a with
    | none => rfl
    | some u =>
      rcases nw a (ne_none z) with z1 | z1
      · exact absurd nf z1
      · rw [h1] at z1; cases z1
  refine ⟨r.ext ⟨ff, fun b u q => ?_, fun b u q => ?_, nw⟩, nf'⟩
  · have hb : b ≠ a := ne_of_none q nf'
    show (if b = a then H1 a else H' b) = some u
    rw [if_neg hb]
    exact fh b u q
  · show (if b = a then H1 a else H' b) = some u
    by_cases hb : b = a
    · rw [if_pos hb, ← hb]
      exact q
    · rw [if_neg hb]
      exact hh b u hb q
theorem upd_back {H1 H' : Hp} {a : Addr} {o : HO} (h : H' a = some o) : upd (fun b => if b = a then H1 a else H' b) a o = H' := by
  funext b
  by_cases hb : b = a
  · subst hb
    rw [upd_same, h]
  · rw [upd_ne hb]
    show (if b = a then H1 a else H' b) = H' b
    rw [if_neg hb]
theorem Free.set {σ : L2.St} {ev : Ev} {i : Nat} {s : Sl} {b : Addr} (hi : own ev i = true) (h : Free σ ev b) : Free σ (ev.set i s) b := fun j hj z => by
  rcases own_set hj with ⟨rfl, _⟩ | ⟨_, q⟩
  · exact h j hi z
  · exact h j q z
theorem M.callIO (i : Nat) {φ : List D → List D → R (D × List D)} {fs : Ev → R (List D × Ev)} {y : Str} {py : Pos} (F : FnOk X.prog X.w X.K X.mg X.base (L2.CX X.prog X.w) k f fd ps (spIO X.K X.mg n φ)) (hr : Room k X.A) (hm : X.mg x = some (.ref f)) (hk : PySem.W.keepIn X.K (.ref f) = true) (hb : Binds X.K fd ps []) (hn : es.length + 1 = n) (ha : Ms X es fs)
    (hN : X.N[i]? = some y := by rfl) (hv : Vis X.env.scope y := by first | exact Or.inl rfl | exact Or.inr (Or.inl rfl) | exact Or.inr (Or.inr rfl)) (hd : (y == ("__debug__" : Str)) = false := by decide)
    (hcd : (y == ("__classdict__" : Str)) = false := by decide) (hs : starEach ((.Name y py) :: es) X.env = (false, eval (.Name y py) X.env) :: starEach es X.env := by rfl)
    (hg : Gl X x := by rfl) (hdb : (x == ("__debug__" : Str)) = false := by decide) (hpl : (backTo pos (starEach es X.env)).any (·.1) = false := by rfl) :
    M X (.Call (.Name x p) ((.Name y py) :: es) [] pos) (DL.callIO i φ fs) := ⟨PE_mono (pe_call F hr hg hm hk hb .nil passL (pa_cons (pe_var hN hv hd hcd) ha.pa hs) hdb hs hpl) fun σ H Q ⟨g, F, ev, r, o⟩ => by
  obtain ⟨ow, o⟩ := On.chk o
  obtain ⟨a, hσ⟩ := own_at r ow
  obtain ⟨ds, q, o⟩ := On.bind o
  refine ⟨.ref a, hσ, g, F, ev, r, ?_⟩
  rw [q]
  show ∀ vs F' H', _ → _ → _ → _ → _
  intro vs F1 H1 r1 s1 k1 rp
  have hlen : vs.length + 1 = n := by rw [rp.length, ha.len ev ds q]; exact hn
  show spIO X.K X.mg n φ ((.ref a :: vs) ++ []) H1 Q _
  rw [List.append_nil]
  split at o
  · rename_i xs hx
    obtain ⟨a', ob, e1, h1, ro, nf, n0, ni⟩ := r1.ow i _ hx
    rw [hσ] at e1
    cases e1
    cases ro with
    | @l ws _ ro =>
      obtain ⟨d, z, o⟩ := On.bind o
      refine ⟨hlen, F1, a, vs, ws, xs, ds.1, rfl, h1, nf, r1.fh, ro, rp, ?_⟩
      rw [z]
      intro v F' H' ws' ff fh hh nw hA rx rv
      obtain ⟨r2, nf'⟩ := r1.grown h1 nf ff fh hh nw
      have r3 := r2.mut hx hσ (.l rx)
      rw [upd_back hA] at r3
      have oi := own_ow hx
      exact o v F' H' r3 (s1.trans ff) (k1.trans ⟨fun b u hb fb => hh b u (fun z => fb i oi (by rw [z]; exact hσ)) hb, fun b fb => fb.set oi, fun b hb => (nw b hb).imp_right .inl⟩) rv
  · rename_i xs hx
    obtain ⟨a', ws, h0, e1, h1, ro⟩ := r1.ih i _ hx
    rw [hσ] at e1
    cases e1
    obtain ⟨nf, _⟩ := r1.iof a h0
    obtain ⟨d, z, o⟩ := On.bind o
    refine ⟨hlen, F1, a, vs, ws, xs, ds.1, rfl, h1, nf, r1.fh, ro, rp, ?_⟩
    rw [z]
    intro v F' H' ws' ff fh hh nw hA rx rv
    obtain ⟨r2, nf'⟩ := r1.grown h1 nf ff fh hh nw
    have r3 := r2.mutIo hx hσ rx
    rw [upd_back hA] at r3
    have oi := own_io hx
    exact o v F' H' r3 (s1.trans ff) (k1.trans ⟨fun b u hb fb => hh b u (fun z => fb i oi (by rw [z]; exact hσ)) hb, fun b fb => fb.set oi, fun b hb => (nw b hb).imp_right .inl⟩) rv
  · exact (show False from o).elim⟩
end
end DL


namespace DL
open PySem PySem.Spec PyProof.Rows L2

/-! ### an owned list is changed -/
def updL (i : Nat) (h : List D → Option (List D)) (e : Ev) : Option Ev := match (e[i]? : Option Sl) with
  | some (.ow (.l xs)) => (h xs).map fun ys => e.set i (.ow (.l ys))
  | some (.io xs) => (h xs).map fun ys => e.set i (.io ys)
  | _ => none
theorem updL_ok {K : PySem.W.Frag} {mg : Str → Option Value} {g : Gd} {F H : Hp} {σ : L2.St} {e e' : Ev} {i : Nat} {h : List D → Option (List D)} (r : Rel K mg g F σ H e) (q : updL i h e = some e') :
    ∃ a ws xs ys, σ[i]? = some (some (.ref a)) ∧ H a = some (.lst ws) ∧ RpA K mg F ws xs ∧ h xs = some ys ∧ ∀ ws', RpA K mg F ws' ys → Rel K mg g F σ (upd H a (.lst ws')) e' := by
  unfold updL at q
  split at q
  · rename_i xs hx
    obtain ⟨a, ob, e1, h1, ro, _⟩ := r.ow i _ hx
    cases ro with
    | @l ws _ ro =>
      cases z : h xs with
      | none => rw [z] at q; cases q
      | some ys =>
        rw [z] at q
        cases q
        exact ⟨a, ws, xs, ys, e1, h1, ro, z, fun ws' rw' => r.mut hx e1 (.l rw')⟩
  · rename_i xs hx
    obtain ⟨a, ws, h0, e1, h1, ro⟩ := r.ih i _ hx
    cases z : h xs with
    | none => rw [z] at q; cases q
    | some ys =>
      rw [z] at q
      cases q
      exact ⟨a, ws, xs, ys, e1, h1, ro, z, fun ws' rw' => r.mutIo hx e1 rw'⟩
  · cases q
section
variable {X : Cx} {W : WX} {x y z : Expr} {pos : Pos}
/-- the slot holds a list that may be changed -/
def ownL (e : Ev) (i : Nat) : Bool := match (e[i]? : Option Sl) with
  | some (.ow (.l _)) => true
  | some (.io _) => true
  | _ => false
theorem ownL_at {K : PySem.W.Frag} {mg : Str → Option Value} {g : Gd} {F H : Hp} {σ : L2.St} {ev : Ev} {i : Nat} (r : Rel K mg g F σ H ev) (h : ownL ev i = true) : own ev i = true ∧ ∃ a ws, σ[i]? = some (some (.ref a)) ∧ H a = some (.lst ws) := by
  unfold ownL at h
  split at h
  · rename_i c q
    obtain ⟨a, o, h1, h2, ro, _⟩ := r.ow i _ q
    cases ro with
    | l ro => exact ⟨own_ow q, a, _, h1, h2⟩
  · rename_i c q
    obtain ⟨a, vs, _, h1, h2, _⟩ := r.ih i c q
    exact ⟨own_io q, a, vs, h1, h2⟩
  · cases h
/-- xs.append(e) -/
def app1 (d : D) : List D → Option (List D) := fun xs => if xs.length < sizeLine then some (xs ++ [d]) else none
def appS (i : Nat) (f : Ev → R D) : Ev → O := fun e => O.chk (ownL e i) ((f e).o e fun d => .ofO (updL i (app1 d) e))
def appSM (i : Nat) (f : Ev → R (D × Ev)) : Ev → O := fun e => O.chk (ownL e i) ((f e).on fun d => .ofO (updL i (app1 d.1) d.2))
theorem tyV_list {K : PySem.W.Frag} {H : Hp} {a : Addr} {vs : List V} (h : H a = some (.lst vs)) : tyV K "list" (.ref a) H := Or.inl ⟨rfl, _, Or.inl (Or.inl h)⟩
theorem app1_ok {d : D} {xs ys : List D} (h : app1 d xs = some ys) : xs.length < sizeLine ∧ ys = xs ++ [d] := by
  unfold app1 at h
  split at h
  · rename_i c
    exact ⟨c, (Option.some.inj h).symm⟩
  · cases h
section
variable {i : Nat}
theorem S.app {f : Ev → R D} (hp : PE X x (tBM X.K "list" rAppend (tVar i) (tCons (tP X W f) tNil))) (hs : swapsWith x none pos.line X.env = pure false := by rfl) : S X W (.Expr x pos) (appS i f) :=
  ⟨PS_mono (ps_expr hp hs) fun D σ H ⟨g, F, e, r, o⟩ => by
    obtain ⟨ow, o⟩ := Os.chk o
    obtain ⟨_, a, ws0, hσ, hA⟩ := ownL_at r ow
    refine ⟨.ref a, hσ, tyV_list hA, g, F, e, r, (Os.o o).imp fun d o v F1 H1 g1 rp => ?_⟩
    obtain ⟨e', he, k⟩ := Os.ofO o
    obtain ⟨a', ws, xs, ys, e1, h1, ro, hu, kk⟩ := updL_ok (r.ext g1) he
    rw [hσ] at e1
    cases e1
    obtain ⟨h2, rfl⟩ := app1_ok hu
    exact ⟨a, ws, v, rfl, rfl, h1, by rw [ro.length]; exact h2, k σ F1 _ (kk _ (ro.append (.cons rp .nil))) g1.ff⟩⟩
theorem S.appM {f : Ev → R (D × Ev)} (hp : PE X x (tBM X.K "list" rAppend (tVar i) (tCons (tM X f) tNil))) (hs : swapsWith x none pos.line X.env = pure false := by rfl) : S X W (.Expr x pos) (appSM i f) :=
  ⟨PS_mono (ps_expr hp hs) fun D σ H ⟨g, F, e, r, o⟩ => by
    obtain ⟨ow, o⟩ := Os.chk o
    obtain ⟨_, a, ws0, hσ, hA⟩ := ownL_at r ow
    refine ⟨.ref a, hσ, tyV_list hA, g, F, e, r, (Os.on o).imp fun d o v F1 H1 r1 s1 k1 rp => ?_⟩
    obtain ⟨e', he, k⟩ := Os.ofO o
    obtain ⟨a', ws, xs, ys, e1, h1, ro, hu, kk⟩ := updL_ok r1 he
    rw [hσ] at e1
    cases e1
    obtain ⟨h2, rfl⟩ := app1_ok hu
    exact ⟨a, ws, v, rfl, rfl, h1, by rw [ro.length]; exact h2, k σ F1 _ (kk _ (ro.append (.cons rp .nil))) s1⟩⟩
/-- xs[j] = e -/
def set1 (j : D) (d : D) : List D → Option (List D) := fun xs => match j with
  | .int k => (ixN xs.length k).map fun j => xs.set j d
  | _ => none
def stS (i : Nat) (fj : Ev → R D) (f : Ev → R D) : Ev → O := fun e => O.chk (ownL e i) ((f e).o e fun d => (fj e).o e fun j => .ofO (updL i (set1 j d) e))
def stSM (i : Nat) (fj : Ev → R D) (f : Ev → R (D × Ev)) : Ev → O := fun e => O.chk (ownL e i) ((f e).on fun d => O.chk (ownL d.2 i) ((fj d.2).o d.2 fun j => .ofO (updL i (set1 j d.1) d.2)))
theorem set1_ok {j d : D} {xs ys : List D} (h : set1 j d xs = some ys) : ∃ k m, j = .int k ∧ ixN xs.length k = some m ∧ ys = xs.set m d := by
  cases j with
  | int k =>
    have h' : (ixN xs.length k).map (fun j => xs.set j d) = some ys := h
    cases z : ixN xs.length k with
    | none => rw [z] at h'; cases h'
    | some m => rw [z] at h'; exact ⟨k, m, rfl, z, (Option.some.inj h').symm⟩
  | _ => cases h
theorem S.st {n : Str} {np spos : Pos} {f fj : Ev → R D} (i : Nat) (h : P X W x f) (hj : B X W y fj) (hN : X.N[i]? = some n := by rfl) (hv : Vis X.env.scope n := by first | exact Or.inl rfl | exact Or.inr (Or.inl rfl) | exact Or.inr (Or.inr rfl)) (hd : (n == ("__debug__" : Str)) = false := by decide)
    (hcd : (n == ("__classdict__" : Str)) = false := by decide)
    (ha : ∀ v, assign (.Subscript (.Name n np) y spos) X.env v = (do
      let ov ← holding [v] (eval (.Name n np) X.env)
      let iv ← holding [v, ov] (eval y X.env)
      standAt spos
      holding [v, ov, iv] (setItem ov iv v)
      release [v, ov, iv] []) := by intro _; rfl)
    (hs : swapsWithSole [.Subscript (.Name n np) y spos] x pos.line X.env = pure false := by rfl) (hw : swappedStores [.Subscript (.Name n np) y spos] x X.env = pure none := by rfl)
    (h1 : (assignEach [.Subscript (.Name n np) y spos] X.env).map (·.2) = [assign (.Subscript (.Name n np) y spos) X.env] := by rfl) : S X W (.Assign [.Subscript (.Name n np) y spos] x pos) (stS i fj f) :=
  ⟨PS_mono (ps_asg h.pe (pg_sub (pe_var hN hv hd hcd) hj.pe set_list ha) hs hw h1) fun D σ H ⟨g, F, e, r, o⟩ => by
    obtain ⟨ow, o⟩ := Os.chk o
    refine ⟨g, F, e, r, (Os.o o).imp fun d o v F1 H1 g1 rp => ?_⟩
    have r1 := r.ext g1
    obtain ⟨_, a, ws0, hσ, hA⟩ := ownL_at r1 ow
    refine ⟨.ref a, hσ, g, F1, e, r1, ((Os.o o).up g1.ff).imp fun j o jv F2 H2 g2 rj => ?_⟩
    obtain ⟨e', he, k⟩ := Os.ofO o
    obtain ⟨a', ws, xs, ys, e1, h1, ro, hu, kk⟩ := updL_ok (r1.ext g2) he
    rw [hσ] at e1
    cases e1
    obtain ⟨kx, m, rfl, hm, rfl⟩ := set1_ok hu
    cases rj.int
    exact ⟨a, ws, kx, m, rfl, rfl, h1, by rw [ro.length]; exact hm, k σ F2 _ (kk _ (ro.set m (rp.mono g2.ff))) (g1.ff.trans g2.ff)⟩⟩
theorem S.stM {n : Str} {np spos : Pos} {f : Ev → R (D × Ev)} {fj : Ev → R D} (i : Nat) (h : M X x f) (hj : B X W y fj) (hN : X.N[i]? = some n := by rfl) (hv : Vis X.env.scope n := by first | exact Or.inl rfl | exact Or.inr (Or.inl rfl) | exact Or.inr (Or.inr rfl)) (hd : (n == ("__debug__" : Str)) = false := by decide)
    (hcd : (n == ("__classdict__" : Str)) = false := by decide)
    (ha : ∀ v, assign (.Subscript (.Name n np) y spos) X.env v = (do
      let ov ← holding [v] (eval (.Name n np) X.env)
      let iv ← holding [v, ov] (eval y X.env)
      standAt spos
      holding [v, ov, iv] (setItem ov iv v)
      release [v, ov, iv] []) := by intro _; rfl)
    (hs : swapsWithSole [.Subscript (.Name n np) y spos] x pos.line X.env = pure false := by rfl) (hw : swappedStores [.Subscript (.Name n np) y spos] x X.env = pure none := by rfl)
    (h1 : (assignEach [.Subscript (.Name n np) y spos] X.env).map (·.2) = [assign (.Subscript (.Name n np) y spos) X.env] := by rfl) : S X W (.Assign [.Subscript (.Name n np) y spos] x pos) (stSM i fj f) :=
  ⟨PS_mono (ps_asg h.pe (pg_sub (pe_var hN hv hd hcd) hj.pe set_list ha) hs hw h1) fun D σ H ⟨g, F, e, r, o⟩ => by
    obtain ⟨ow, o⟩ := Os.chk o
    refine ⟨g, F, e, r, (Os.on o).imp fun d o v F1 H1 r1 s1 k1 rp => ?_⟩
    obtain ⟨ow1, o⟩ := Os.chk o
    obtain ⟨_, a, ws0, hσ, hA⟩ := ownL_at r1 ow1
    refine ⟨.ref a, hσ, g, F1, d.2, r1, ((Os.o o).up s1).imp fun j o jv F2 H2 g2 rj => ?_⟩
    obtain ⟨e', he, k⟩ := Os.ofO o
    obtain ⟨a', ws, xs, ys, e1, h1, ro, hu, kk⟩ := updL_ok (r1.ext g2) he
    rw [hσ] at e1
    cases e1
    obtain ⟨kx, m, rfl, hm, rfl⟩ := set1_ok hu
    cases rj.int
    exact ⟨a, ws, kx, m, rfl, rfl, h1, by rw [ro.length]; exact hm, k σ F2 _ (kk _ (ro.set m (rp.mono g2.ff))) (s1.trans g2.ff)⟩⟩
/-- x op= e, x a value -/
def augS (i : Nat) (op : D → D → Option D) (f : Ev → R D) : Ev → O := fun e => match (e[i]? : Option Sl) with
  | some (.im a) => (f e).o e fun b => .ofO ((op a b).bind fun d => setV i d e)
  | _ => .no
def augSM (i : Nat) (op : D → D → Option D) (f : Ev → R (D × Ev)) : Ev → O := fun e => match (e[i]? : Option Sl) with
  | some (.im a) => (f e).on fun b => .ofO ((op a b.1).bind fun d => setV i d b.2)
  | _ => .no
theorem bind_ok {α β : Type} {o : Option α} {f : α → Option β} {b : β} (h : o.bind f = some b) : ∃ a, o = some a ∧ f a = some b := by
  cases o with
  | none => cases h
  | some a => exact ⟨a, rfl, h⟩
section
variable {n : Str} {pos' : Pos} {op : Operator} {ti : TIp} {fo : D → D → Option D}
theorem S.aug {f : Ev → R D} (i : Nat) (hN : X.N.Nodup) (ho : PIp X op ti) (hs : OpS X ti fo) (h : B X W x f) (hi : X.N[i]? = some n := by rfl) (hx : Loc X.env.scope n := by first | exact Or.inl rfl | exact Or.inr rfl)
    (hf : X.fn n = true ∨ X.env.scope.names.lookup n = some .local := by first | exact .inl rfl | exact .inr rfl | assumption) : S X W (.AugAssign (.Name n pos') op x pos) (augS i fo f) :=
  ⟨PS_mono (ps_aug hN hi hx h.pe ho hf) fun D σ H ⟨g, F, e, r, o⟩ => by
    unfold augS at o
    split at o
    · rename_i a ha
      obtain ⟨v, hv, rv⟩ := r.im i a ha
      refine ⟨v, hv, g, F, e, r, (Os.o o).imp fun b o w F1 H1 g1 rp => ?_⟩
      obtain ⟨e', he, k⟩ := Os.ofO o
      obtain ⟨d, hd, he⟩ := bind_ok he
      obtain ⟨h1, h2, rfl⟩ := setV_ok he
      exact hs F1 H1 v w a b d _ g1.fh (.inl (rv.mono g1.ff)) rp hd fun z F' H' g3 rz => k _ F' H' (((r.ext g1).ext g3).setIm rz h1 h2) (g1.ff.trans g3.ff)
    · exact (show False from o).elim⟩
theorem S.augM {f : Ev → R (D × Ev)} (i : Nat) (hN : X.N.Nodup) (ho : PIp X op ti) (hs : OpS X ti fo) (h : M X x f) (hi : X.N[i]? = some n := by rfl) (hx : Loc X.env.scope n := by first | exact Or.inl rfl | exact Or.inr rfl)
    (hf : X.fn n = true ∨ X.env.scope.names.lookup n = some .local := by first | exact .inl rfl | exact .inr rfl | assumption) : S X W (.AugAssign (.Name n pos') op x pos) (augSM i fo f) :=
  ⟨PS_mono (ps_aug hN hi hx h.pe ho hf) fun D σ H ⟨g, F, e, r, o⟩ => by
    unfold augSM at o
    split at o
    · rename_i a ha
      obtain ⟨v, hv, rv⟩ := r.im i a ha
      refine ⟨v, hv, g, F, e, r, (Os.on o).imp fun b o w F1 H1 r1 s1 k1 rp => ?_⟩
      obtain ⟨e', he, k⟩ := Os.ofO o
      obtain ⟨d, hd, he⟩ := bind_ok he
      obtain ⟨h1, h2, rfl⟩ := setV_ok he
      exact hs F1 H1 v w a b.1 d _ r1.fh (.inl (rv.mono s1)) (.inl rp) hd fun z F' H' g3 rz => k _ F' H' ((r1.ext g3).setIm rz h1 h2) (s1.trans g3.ff)
    · exact (show False from o).elim⟩
/-- xs += ys, xs an owned list: ti tells how the items of ys are laid behind -/
def extD : D → List D → Option (List D) := fun d xs => match d with
  | .lst ys => if xs.length + ys.length ≤ sizeLine then some (xs ++ ys) else none
  | .tup ys => if xs.length + ys.length ≤ sizeLine then some (xs ++ ys) else none
  | _ => none
def extS (i : Nat) (f : Ev → R D) : Ev → O := fun e => O.chk (ownL e i) ((f e).o e fun d => .ofO (updL i (extD d) e))
theorem set_same {σ : L2.St} {i : Nat} {v : V} (h : σ[i]? = some (some v)) : σ.set i (some v) = σ := by
  apply List.ext_getElem?
  intro j
  by_cases hj : i = j
  · subst hj
    rw [List.getElem?_set_self (lt_of_get h), h]
  · rw [List.getElem?_set_ne hj]
def rExtD (K : PySem.W.Frag) : R2 := fun x y H Q => ∃ l b xs zs, x = .ref l ∧ y = .ref b ∧ H l = some (.lst xs) ∧ (H b = some (.lst zs) ∨ SqT K H b zs) ∧ xs.length + zs.length ≤ sizeLine ∧ Q (.ref l) (upd H l (.lst (xs ++ zs)))
theorem S.ext {f : Ev → R D} (i : Nat) (hN : X.N.Nodup) (ho : PIp X op (rExtD X.K)) (h : B X W x f) (hi : X.N[i]? = some n := by rfl) (hx : Loc X.env.scope n := by first | exact Or.inl rfl | exact Or.inr rfl)
    (hf : X.fn n = true ∨ X.env.scope.names.lookup n = some .local := by first | exact .inl rfl | exact .inr rfl | assumption) : S X W (.AugAssign (.Name n pos') op x pos) (extS i f) :=
  ⟨PS_mono (ps_aug hN hi hx h.pe ho hf) fun D σ H ⟨g, F, e, r, o⟩ => by
    obtain ⟨ow, o⟩ := Os.chk o
    obtain ⟨_, a, ws0, hσ, hA⟩ := ownL_at r ow
    refine ⟨.ref a, hσ, g, F, e, r, (Os.o o).imp fun d o w F1 H1 g1 rp => ?_⟩
    obtain ⟨e', he, k⟩ := Os.ofO o
    obtain ⟨a', ws, xs, ys, e1, h1, ro, hu, kk⟩ := updL_ok (r.ext g1) he
    rw [hσ] at e1
    cases e1
    cases d with
    | lst zs =>
      have hu' : (if xs.length + zs.length ≤ sizeLine then some (xs ++ zs) else none) = some ys := hu
      split at hu'
      · rename_i hz
        cases hu'
        obtain ⟨b, vs, rfl, h2, r2⟩ := rp.list g1.fh
        exact ⟨a, b, ws, vs, rfl, rfl, h1, .inl h2, by rw [ro.length, r2.length]; exact hz, by show D.nx (σ.set i (some (.ref a))) _; rw [set_same hσ]; exact k σ F1 _ (kk _ (ro.append r2)) g1.ff⟩
      · cases hu'
    | tup zs =>
      have hu' : (if xs.length + zs.length ≤ sizeLine then some (xs ++ zs) else none) = some ys := hu
      split at hu'
      · rename_i hz
        cases hu'
        obtain ⟨b, vs, rfl, h2, r2⟩ := rp.tuple g1.fh
        exact ⟨a, b, ws, vs, rfl, rfl, h1, .inr h2, by rw [ro.length, r2.length]; exact hz, by show D.nx (σ.set i (some (.ref a))) _; rw [set_same hσ]; exact k σ F1 _ (kk _ (ro.append r2)) g1.ff⟩
      · cases hu'
    | _ => cases hu⟩
end
end
end
end DL


/-! rules of the machine that the hand layer lacks -/
namespace DL
open PySem PySem.Spec PyProof.Rows L2
/-! ### tuple * int -/
theorem tuple_mulS (l : Addr) (items : Array Value) (n : Nat) (dd : Option Addr) (sl : Array (Option Value)) (x : Int) (u : Tok) (c0 : (decide (x < -(2 ^ 63)) || decide (x ≥ 2 ^ 63)) = false) (c1 : (items.isEmpty || x == 1) = true) :
    Meets (Builtin.«tuple.__mul__» ⟨[.ref l, .int x u], []⟩) (fun _ R s => s.heap.get? l = some { cls := .type "tuple", dict := dd, data := .seq items n, slots := sl } ∧
      R (.ok (.ret (Value.ref l))) s) :=
  .of_wp fun prog w A R s h => by
    obtain ⟨hp, g, d, tk, os⟩ := s
    obtain ⟨hl, h⟩ := h
    have f1 := AutoSeq1.idx_int
    wp_walk using AutoSeq1.wpAny_loadPart' hl
    repeat (first
      | (refine wpAny_ite_false (decide_eq_false (by rw [c0]; exact Bool.false_ne_true)) ?_; wp_walk using AutoSeq1.wpAny_loadPart' hl)
      | (refine wpAny_ite_true (decide_eq_true c1) ?_; wp_walk using AutoSeq1.wpAny_loadPart' hl))
    exact ⟨_, rfl, h⟩
theorem tuple_mul0 (l : Addr) (items : Array Value) (n : Nat) (dd : Option Addr) (sl : Array (Option Value)) (x : Int) (u : Tok) (c0 : (decide (x < -(2 ^ 63)) || decide (x ≥ 2 ^ 63)) = false) (c1 : (items.isEmpty || x == 1) = false) (c2 : (decide (x ≤ 0) || items.isEmpty) = true) :
    Meets (Builtin.«tuple.__mul__» ⟨[.ref l, .int x u], []⟩) (fun _ R s => s.heap.get? l = some { cls := .type "tuple", dict := dd, data := .seq items n, slots := sl } ∧
      R (.ok (.ret (Value.ref s.heap.objs.size))) { s with heap := s.heap.push { cls := Value.type "tuple", data := Data.seq #[] }, toks := s.toks }) :=
  .of_wp fun prog w A R s h => by
    obtain ⟨hp, g, d, tk, os⟩ := s
    obtain ⟨hl, h⟩ := h
    have f1 := AutoSeq1.idx_int
    wp_walk using AutoSeq1.wpAny_loadPart' hl
    repeat (first
      | (refine wpAny_ite_false (decide_eq_false (by rw [c0]; exact Bool.false_ne_true)) ?_; wp_walk using AutoSeq1.wpAny_loadPart' hl)
      | (refine wpAny_ite_false (decide_eq_false (by rw [c1]; exact Bool.false_ne_true)) ?_; wp_walk using AutoSeq1.wpAny_loadPart' hl)
      | (refine wpAny_ite_true (decide_eq_true c2) ?_; wp_walk using AutoSeq1.wpAny_loadPart' hl))
    exact ⟨_, rfl, h⟩
/-! ### list += tuple -/
theorem list_iadd_tuple (l : Addr) (items : Array Value) (n : Nat) (b : Addr) (items2 : Array Value) (n2 : Nat) (dd : Option Addr) (sl : Array (Option Value)) (hs0 : ¬(!items.isEmpty && Builtin.List.listTooLong (items.size + items2.size)) = true) (hs1 : items.size ≤ sizeLine) (hs2 : items.size + items2.size ≤ sizeLine + 1 := by seq_fits) :
    Meets (Builtin.«list.__iadd__» ⟨[.ref l, .ref b], []⟩) (fun _ R s => s.heap.get? l = some { cls := .type "list", dict := none, data := .seq items n, slots := #[] } ∧ s.heap.get? b = some { cls := .type "tuple", dict := dd, data := .seq items2 n2, slots := sl } ∧ R (.ok (.ret (Value.ref l))) { s with heap := s.heap.update l (Obj.mapSeq fun x => x ++ items2), toks := s.toks }) :=
  .of_wp fun prog w A R s h => by
    obtain ⟨hp, g, d, tk, os⟩ := s; obtain ⟨hl, hb, h⟩ := h; have f1 := AutoSeq1.idx_int; have f2 := AutoSeq1.sub_tuple_tuple; have f3 := AutoSeq1.sub_list_list; have f4 := AutoSeq1.sub_tuple_list; have f5 := AutoSeq1.sub_list_tuple;
    have hz' : (items ++ items2).size ≤ sizeLine + 1 := by rw [Array.size_append]; exact hs2
    wp_walk using (wpAny_updateSeq hl rfl (hz := hs1) (_hz' := hz')), AutoSeq1.wpAny_loadPart' hl, AutoSeq1.wpAny_loadPart' hb; exact ⟨_, rfl, h⟩

section
variable {X : Cx}
/-- t * k, k of any size that fits -/
def rRepA (K : PySem.W.Frag) : R2 := fun x y H Q => ∃ l k xs, x = .ref l ∧ y = .int k ∧ SqT K H l xs ∧ -(2 ^ 63) ≤ k ∧ k < 2 ^ 63 ∧ xs.length * k.toNat ≤ sizeLine ∧
  ((xs = [] ∨ k = 1) → Q (.ref l) H) ∧ (xs ≠ [] → k ≠ 1 → ∀ p, H p = none → Q (.ref p) (upd H p (.tup (List.replicate k.toNat xs).flatten)))
theorem op_repA : OpR X (binaryOp .Mult) (rRepA X.K) := by
  intro pins s σ H x y v u Q I rx ry h
  obtain ⟨l, k, xs, rfl, rfl, hT, h1, h2, hz, q1, q2⟩ := h
  cases rx
  obtain ⟨t, rfl⟩ := ry
  obtain ⟨its, r, ⟨⟨cls, dd, data, sl⟩, ho, hc, n, hd⟩, hs⟩ := I.tuple hT
  simp only at hc hd
  subst hc hd
  have hle : its.length = xs.length := r.length.symm
  have c0 : (decide (k < -(2 ^ 63)) || decide (k ≥ 2 ^ 63)) = false := by
    rw [decide_eq_false (by omega), decide_eq_false (by omega)] <;> rfl
  by_cases hw : xs = [] ∨ k = 1
  · have c1 : (its.toArray.isEmpty || k == 1) = true := by
      rcases hw with e | e
      · have e2 : its = [] := List.eq_nil_of_length_eq_zero (by rw [hle, e]; rfl)
        rw [e2]
        rfl
      · rw [e]
        simp
    refine wpAny_binaryOp_repeat_ref (T := "tuple") (U := "int") (by decide) ⟨_, ho, rfl⟩ (fun s' => typeIs_int s' k t) noFill_tuple_mul F.fills_int_mul F.slot_int_rmul repeat_tuple F.slot_int_index.lookup
      (call_meets F.slot_int_rmul (typeIs_int s k t) F.entry_int_rmul (F.args_int_rmul_2 _ _) (int_rmul_tuple k t l its.toArray n dd sl)
        ⟨ho, rfl, ⟨_, ho, rfl⟩, call_meets F.slot_tuple_mul ⟨_, ho, rfl⟩ F.entry_tuple_mul (F.args_tuple_mul_2 _ _) (tuple_mulS l its.toArray n dd sl k t c0 c1) ⟨ho, ?_⟩⟩)
    exact ⟨.ref l, H, I, rfl, q1 hw⟩
  · have hne : xs ≠ [] := fun e => hw (.inl e)
    have hk1 : k ≠ 1 := fun e => hw (.inr e)
    have hn : its ≠ [] := fun e => hne (by
      rw [e] at hle
      exact List.eq_nil_of_length_eq_zero hle.symm)
    have hi : its.toArray.isEmpty = false := by
      cases its with
      | nil => exact absurd rfl hn
      | cons a b => rfl
    have c1 : (its.toArray.isEmpty || k == 1) = false := by
      rw [hi, Bool.false_or]
      exact beq_eq_false_iff_ne.mpr hk1
    have flen : (List.replicate k.toNat its).flatten.length ≤ sizeLine := by
      rw [PyProof.Rows.lm_len_rep_flat, hle, Nat.mul_comm]
      exact hz
    by_cases hk : k ≤ 0
    · have c2 : (decide (k ≤ 0) || its.toArray.isEmpty) = true := by
        rw [decide_eq_true hk, Bool.true_or]
      refine wpAny_binaryOp_repeat_ref (T := "tuple") (U := "int") (by decide) ⟨_, ho, rfl⟩ (fun s' => typeIs_int s' k t) noFill_tuple_mul F.fills_int_mul F.slot_int_rmul repeat_tuple F.slot_int_index.lookup
        (call_meets F.slot_int_rmul (typeIs_int s k t) F.entry_int_rmul (F.args_int_rmul_2 _ _) (int_rmul_tuple k t l its.toArray n dd sl)
          ⟨ho, rfl, ⟨_, ho, rfl⟩, call_meets F.slot_tuple_mul ⟨_, ho, rfl⟩ F.entry_tuple_mul (F.args_tuple_mul_2 _ _) (tuple_mul0 l its.toArray n dd sl k t c0 c1 c2) ⟨ho, ?_⟩⟩)
      have ek : k.toNat = 0 := by omega
      have := q2 hne hk1
      rw [ek] at this
      refine ⟨.ref s.heap.objs.size, _, I.laid (t' := s.toks) (o := .tup []) (fun b ob q => Heap.get?_push_of_some _ q) (Nat.le_refl _) ?_, rfl, this _ (I.hok.fresh (Nat.le_refl _))⟩
      exact ⟨Nat.zero_le _, _, .nil, IsTup.new s.heap #[]⟩
    · have c2 : (decide (k ≤ 0) || its.toArray.isEmpty) = false := by
        rw [hi, Bool.or_false]
        exact decide_eq_false (by omega)
      have hsz0 : its.toArray.size = xs.length := by rw [List.size_toArray, hle]
      have hm : ((its.toArray.size : Nat) : Int) * k ≤ (sizeLine : Nat) := by
        rw [hsz0]
        have : ((xs.length * k.toNat : Nat) : Int) = (xs.length : Int) * k := by
          rw [Int.natCast_mul, Int.toNat_of_nonneg (by omega)]
        omega
      have hsl : (sizeLine : Nat) = 16777216 := sizeLine_eq
      have c4 : Builtin.Tuple.tupleTooMany (((its.toArray.size : Nat) : Int) * k) = false := by
        unfold Builtin.Tuple.tupleTooMany
        exact decide_eq_false (by omega)
      refine wpAny_binaryOp_repeat_ref (T := "tuple") (U := "int") (by decide) ⟨_, ho, rfl⟩ (fun s' => typeIs_int s' k t) noFill_tuple_mul F.fills_int_mul F.slot_int_rmul repeat_tuple F.slot_int_index.lookup
        (call_meets F.slot_int_rmul (typeIs_int s k t) F.entry_int_rmul (F.args_int_rmul_2 _ _) (int_rmul_tuple k t l its.toArray n dd sl)
          ⟨ho, rfl, ⟨_, ho, rfl⟩, call_meets F.slot_tuple_mul ⟨_, ho, rfl⟩ F.entry_tuple_mul (F.args_tuple_mul_2 _ _) (tuple_mulW l its.toArray n dd sl k t c0 c1 c2 (by omega) c4 (by rw [size_rep, List.size_toArray]; exact flen)) ⟨ho, ?_⟩⟩)
      rw [size_rep]
      refine ⟨.ref s.heap.objs.size, _, I.laid (t' := s.toks) (o := .tup (List.replicate k.toNat xs).flatten) (fun b ob q => Heap.get?_push_of_some _ q) (Nat.le_refl _) ?_, rfl, q2 hne hk1 _ (I.hok.fresh (Nat.le_refl _))⟩
      exact ⟨by rw [PyProof.Rows.lm_len_rep_flat, Nat.mul_comm]; exact hz, _, r.rep k.toNat, IsTup.new _ _⟩
/-! ### xs += ys -/
theorem binaryOp1_none2 {M : Model} {A : Around} {E : Value → Shared → Prop} {s : Shared} {a b : Value} {T U nm : String} {Q : Option Value → Shared → Prop} (hTU : (Value.type T == Value.type U) = false) (ha : s.TypeIs a T) (hb : s.TypeIs b U)
    (hfill : fillsNumberSlot (.type T) nm = pure false) (hfill2 : fillsNumberSlot (.type U) nm = pure false) (h : Q none s) : wpAny M A (binaryOp1 nm a b) Q E s := by
  simp only [binaryOp1]
  refine wpAny_bind (wpAny_typeOf ha (wpAny_bind (wpAny_typeOf hb (wpAny_bind (wpAny_of_eq hfill ?_)))))
  simp only [hTU, Bool.false_eq_true, if_false]
  refine wpAny_bind (wpAny_of_eq hfill2 ?_)
  simp only [Bool.false_and, Bool.and_false, Bool.false_eq_true, if_false, pure_bind]
  exact wpAny_pure h
theorem iadd_roadT {M : Model} {A : Around} {E : Value → Shared → Prop} {s : Shared} {a b : Value} {Q : Value → Shared → Prop} (ha : s.TypeIs a "list") (hb : s.TypeIs b "tuple") (hc : wpAny M A (call (.builtin "list.__iadd__") [a, b]) Q E s) : wpAny M A (inplaceOp .Add a b) Q E s := by
  have hsl : typeLookup (.type "list") (dunderI "add") = pure (some (.builtin "list.__iadd__")) := PySem.F.slot_list_iadd.lookup
  have hsq : isSeqSlot (some (.builtin "list.__iadd__")) = true := by decide +kernel
  have hfi : fillsInplaceSlot (.type "list") "add" (Operator.Add == .Add) = pure false := by
    unfold fillsInplaceSlot
    show (typeLookup (.type "list") (dunderI "add") >>= fun fi => pure (fi.isSome && !isSeqSlot fi)) = pure false
    rw [hsl]
    show (pure (true && !isSeqSlot (some (.builtin "list.__iadd__"))) : Sem Bool) = pure false
    rw [hsq] <;> rfl
  have hsi : seqSlot? (.type "list") (dunderI "add") = pure (some (.builtin "list.__iadd__")) := PySem.seqSlot_of hsl hsq
  unfold inplaceOp
  refine wpAny_holding ?_
  refine wpAny_bind (wpAny_typeOf ha (wpAny_bind (wpAny_of_eq hfi ?_)))
  show wpAny M A (if false = true then _ else _) Q E s
  rw [if_neg Bool.false_ne_true]
  refine wpAny_bind (binaryOp1_none2 (nm := "add") (by decide) ha hb noFill_list_add noFill_tuple_add ?_)
  refine wpAny_bind (wpAny_of_eq hsi ?_)
  exact wpAny_bind (wpAny_rule hc)
theorem iop_extT : PIp X .Add (rExtD X.K) := by
  intro pins s σ H x y v u Q I rx ry h
  obtain ⟨l, b, xs, zs, rfl, rfl, hH, hB, hz, q⟩ := h
  rcases hB with hB | hB
  · exact iop_ext pins s σ H _ _ v u Q I rx ry ⟨l, b, xs, zs, rfl, rfl, hH, hB, hz, q⟩
  · cases rx
    cases ry
    obtain ⟨z, its, n, r, hl, e⟩ := I.lstM hH
    obtain ⟨its2, r2, ⟨⟨cls, dd, data, sl⟩, ho, hc, n2, hd⟩, hs⟩ := I.tuple hB
    simp only at hc hd
    subst hc hd
    have hl2 := r2.length
    have hsz : its.toArray.size + its2.toArray.size ≤ sizeLine := by rw [List.size_toArray, List.size_toArray]; omega
    have hlong : ¬ (!its.toArray.isEmpty && Builtin.List.listTooLong (its.toArray.size + its2.toArray.size)) = true := by
      rw [notLongL hsz, Bool.and_false]
      exact Bool.false_ne_true
    refine iadd_roadT ⟨_, e, rfl⟩ ⟨_, ho, rfl⟩ (call_meets PySem.F.slot_list_iadd ⟨_, e, rfl⟩ PySem.F.entry_list_iadd (PySem.F.args_list_iadd_2 _ _)
      (list_iadd_tuple l its.toArray n b its2.toArray n2 dd sl hlong (by rw [List.size_toArray]; omega) (by omega)) ⟨e, ho, ?_⟩)
    refine ⟨.ref l, _, I.lset (its' := its ++ its2) (t' := s.toks) hH e (by simp) (r.append r2) ?_, rfl, q⟩
    rw [List.length_append]
    omega
/-! ### sum of a tuple -/
def rSumT (K : PySem.W.Frag) : List V → Hp → VK → Prop := fun vs H Q => ∃ (a : Addr) (ns : List Int), vs = [V.ref a] ∧ (SqL K H a (ns.map V.int) ∨ SqT K H a (ns.map V.int)) ∧ Q (.int ns.sum) H
theorem cr_sumT (hc : X.calm = true) : CallR X (.builtin "sum") (rSumT X.K) := by
  intro pins s σ H vs us Q I r h
  obtain ⟨a, ns, rfl, hs | hs, q⟩ := h
  · exact cr_sum hc pins s σ H _ us Q I r ⟨a, ns, rfl, hs, q⟩
  · obtain ⟨its, rv, hl, _⟩ := I.tuple hs
    rw [Vals.ref1 r]
    have hi := rv.ints
    obtain ⟨xs, hx⟩ := hi.allInts.items
    have hn : numsOf its.toArray.toList = ns := by rw [show its.toArray.toList = its from rfl, hi.numsOf]
    have hl' : s.heap.IsTuple a its.toArray := hl
    rw [hx] at hl' hn
    rw [nums_intItems] at hn
    refine PySem.W.ktm_sumG (I.ok.hd hc) hl' fun h' tk t' hk => ?_
    rw [preSum_eq, List.take_of_length_le (by simp), hn]
    exact ⟨.int _, H, I.kept hk, ⟨_, rfl⟩, q⟩
end
end DL


namespace DL
open PySem PySem.Spec PyProof.Rows L2

/-! ### + - * // % ** -/
def addD : D → D → Option D
  | .int i, .int j => some (.int (i + j))
  | .tup a, .tup b => if a.length + b.length ≤ sizeLine then some (.tup (a ++ b)) else none
  | .lst a, .lst b => if a.length + b.length ≤ sizeLine then some (.lst (a ++ b)) else none
  | .str a, .str b => if a.length + b.length ≤ sizeLine then some (.str (a ++ b)) else none
  | _, _ => none
def subD : D → D → Option D
  | .int i, .int j => some (.int (i - j))
  | _, _ => none
def small (i : Int) : Bool := decide (-(2 ^ 64) < i ∧ i < 2 ^ 64)
def mulD : D → D → Option D
  | .int i, .int j => if (small i || small j) = true then some (.int (i * j)) else none
  | .tup a, .int k => if (decide (-(2 ^ 63) ≤ k ∧ k < 2 ^ 63) && decide (a.length * k.toNat ≤ sizeLine)) = true then some (.tup (List.replicate k.toNat a).flatten) else none
  | .lst a, .int k => if (decide (-(2 ^ 63) ≤ k ∧ k < 2 ^ 63) && decide (a.length * k.toNat ≤ sizeLine)) = true then some (.lst (List.replicate k.toNat a).flatten) else none
  | _, _ => none
def fdivD : D → D → Option D
  | .int i, .int j => if 0 < j ∧ j < 1073741824 then some (.int (i / j)) else none
  | _, _ => none
def modD : D → D → Option D
  | .int i, .int j => if 0 < j then some (.int (i % j)) else none
  | _, _ => none
def powD : D → D → Option D
  | .int i, .int j => if 0 ≤ j ∧ j ≤ 1000000 ∧ i.natAbs < 2 ^ 64 then some (.int (i ^ j.toNat)) else none
  | _, _ => none
section
variable {X : Cx} {W : WX}
def rAddD (K : PySem.W.Frag) : R2 := fun x y H Q => (∃ i j, x = .int i ∧ y = .int j ∧ Q (.int (i + j)) H) ∨ (∃ i j, x = .str i ∧ y = .str j ∧ i.length + j.length ≤ sizeLine ∧ Q (.str (i ++ j)) H) ∨ rCatA K x y H Q ∨ rCat x y H Q
theorem op_addD : OpR X (binaryOp .Add) (rAddD X.K) := OpR.or op_add (OpR.or op_add_str (OpR.or op_catA op_cat))
theorem ite_some {α : Type} {c : Prop} [Decidable c] {a b : α} (h : (if c then some a else none) = some b) : c ∧ b = a := by
  split at h
  · rename_i hc
    exact ⟨hc, (Option.some.inj h).symm⟩
  · cases h
theorem s_add : OpS X (rAddD X.K) addD := by
  intro F H v w a b d Q sm ra rb h q
  cases a with
  | int i =>
    cases b with
    | int j =>
      cases h
      cases ra.int
      cases rb.int
      exact .inl ⟨i, j, rfl, rfl, q _ F H (Gr.refl sm) (.int _)⟩
    | _ => cases h
  | str i =>
    cases b with
    | str j =>
      obtain ⟨hz, rfl⟩ := ite_some h
      cases ra.str
      cases rb.str
      exact .inr (.inl ⟨i, j, rfl, rfl, hz, q _ F H (Gr.refl sm) (.str _)⟩)
    | _ => cases h
  | tup xs =>
    cases b with
    | tup ys =>
      obtain ⟨hz, rfl⟩ := ite_some h
      obtain ⟨p, vs, rfl, hp, rp⟩ := ra.tuple sm
      obtain ⟨p2, ws, rfl, hp2, rp2⟩ := rb.tuple sm
      refine .inr (.inr (.inl ⟨p, p2, vs, ws, rfl, rfl, hp, hp2, by rw [rp.length, rp2.length]; exact hz, fun e => ?_, fun e1 e2 => ?_, fun e1 e2 l hl => ?_⟩))
      · subst e
        cases rp
        rcases rb with rb | ⟨_, _, c, z, _, rc, e⟩
        · exact q _ F H (Gr.refl sm) rb
        · cases rc <;> exact nomatch e
      · subst e2
        cases rp2
        rw [List.append_nil] at q
        rcases ra with ra | ⟨_, _, c, z, _, rc, e⟩
        · exact q _ F H (Gr.refl sm) ra
        · cases rc <;> exact nomatch e
      · exact q _ _ _ (Gr.new sm hl) (.tup (.inl (.inl upd_same)) ((rp.append rp2).mono (same_upd (sm.free hl))))
    | _ => cases h
  | lst xs =>
    cases b with
    | lst ys =>
      obtain ⟨hz, rfl⟩ := ite_some h
      obtain ⟨p, vs, rfl, hp, rp⟩ := ra.list sm
      obtain ⟨p2, ws, rfl, hp2, rp2⟩ := rb.list sm
      exact .inr (.inr (.inr ⟨p, p2, vs, ws, rfl, rfl, hp, hp2, by rw [rp.length, rp2.length]; exact hz, fun l hl => q _ _ _ (Gr.new sm hl) (.lst upd_same ((rp.append rp2).mono (same_upd (sm.free hl))))⟩))
    | _ => cases h
  | _ => cases h
theorem s_addI : OpS X (ipI fun i j => i + j) (fun a b => match a, b with
  | .int i, .int j => some (.int (i + j))
  | _, _ => none) := by
  intro F H v w a b d Q sm ra rb h q
  cases a with
  | int i =>
    cases b with
    | int j =>
      cases h
      cases ra.int
      cases rb.int
      exact ⟨i, j, rfl, rfl, q _ F H (Gr.refl sm) (.int _)⟩
    | _ => cases h
  | _ => cases h
theorem s_subI : OpS X (ipI fun i j => i - j) subD := by
  intro F H v w a b d Q sm ra rb h q
  cases a with
  | int i =>
    cases b with
    | int j =>
      cases h
      cases ra.int
      cases rb.int
      exact ⟨i, j, rfl, rfl, q _ F H (Gr.refl sm) (.int _)⟩
    | _ => cases h
  | _ => cases h
/-- an operation of two ints -/
theorem s_I0 {g : Int → Int → V} {f : D → D → Option D} (h0 : ∀ a b d, f a b = some d → ∃ i j, a = .int i ∧ b = .int j ∧ ∀ F, Rp X.K X.mg F (g i j) d) : OpS X (rI0 g) f := by
  intro F H v w a b d Q sm ra rb h q
  obtain ⟨i, j, rfl, rfl, k⟩ := h0 a b d h
  cases ra.int
  cases rb.int
  exact ⟨i, j, rfl, rfl, q _ F H (Gr.refl sm) (k F)⟩
theorem s_I {C : Int → Int → Prop} {g : Int → Int → V} {f : D → D → Option D} (h0 : ∀ a b d, f a b = some d → ∃ i j, a = .int i ∧ b = .int j ∧ C i j ∧ ∀ F, Rp X.K X.mg F (g i j) d) : OpS X (rI C g) f := by
  intro F H v w a b d Q sm ra rb h q
  obtain ⟨i, j, rfl, rfl, c, k⟩ := h0 a b d h
  cases ra.int
  cases rb.int
  exact ⟨i, j, rfl, rfl, c, q _ F H (Gr.refl sm) (k F)⟩
theorem two_ints {f : D → D → Option D} (hf : ∀ a b d, f a b = some d → (∃ i, a = .int i) ∧ ∃ j, b = .int j) {a b d : D} (h : f a b = some d) : ∃ i j, a = .int i ∧ b = .int j := by
  obtain ⟨⟨i, rfl⟩, ⟨j, rfl⟩⟩ := hf a b d h
  exact ⟨i, j, rfl, rfl⟩
theorem s_sub : OpS X (rI0 fun i j => .int (i - j)) subD := s_I0 fun a b d h => by
  cases a <;> cases b <;> first
    | (cases h; done)
    | (cases h; exact ⟨_, _, rfl, rfl, fun F => .int _⟩)
theorem s_fdiv : OpS X (rI CDiv fun i j => .int (i / j)) fdivD := s_I fun a b d h => by
  cases a <;> cases b <;> first
    | (cases h; done)
    | (obtain ⟨c, rfl⟩ := ite_some h; exact ⟨_, _, rfl, rfl, c, fun F => .int _⟩)
theorem s_mod : OpS X (rI (fun _ j => 0 < j) fun i j => .int (i % j)) modD := s_I fun a b d h => by
  cases a <;> cases b <;> first
    | (cases h; done)
    | (obtain ⟨c, rfl⟩ := ite_some h; exact ⟨_, _, rfl, rfl, c, fun F => .int _⟩)
theorem s_pow : OpS X (rI CPow fun i j => .int (i ^ j.toNat)) powD := s_I fun a b d h => by
  cases a <;> cases b <;> first
    | (cases h; done)
    | (obtain ⟨c, rfl⟩ := ite_some h; exact ⟨_, _, rfl, rfl, c, fun F => .int _⟩)
def rMulD (K : PySem.W.Frag) : R2 := fun x y H Q => rI CMul (fun i j => .int (i * j)) x y H Q ∨ rRepA K x y H Q ∨ rRep x y H Q
theorem op_mulD : OpR X (binaryOp .Mult) (rMulD X.K) := OpR.or op_mul (OpR.or op_repA op_rep)
theorem small_ok {i : Int} (h : small i = true) : -(2 ^ 64) < i ∧ i < 2 ^ 64 := of_decide_eq_true h
theorem flat_rep1 {α : Type} (l : List α) : (List.replicate 1 l).flatten = l := by simp
theorem flat_rep_nil {α : Type} (n : Nat) : (List.replicate n ([] : List α)).flatten = [] := by simp
theorem s_mul : OpS X (rMulD X.K) mulD := by
  intro F H v w a b d Q sm ra rb h q
  cases a with
  | int i =>
    cases b with
    | int j =>
      obtain ⟨c, rfl⟩ := ite_some h
      cases ra.int
      cases rb.int
      refine .inl ⟨i, j, rfl, rfl, ?_, q _ F H (Gr.refl sm) (.int _)⟩
      rw [Bool.or_eq_true] at c
      exact c.imp small_ok small_ok
    | _ => cases h
  | tup xs =>
    cases b with
    | int k =>
      obtain ⟨c, rfl⟩ := ite_some h
      rw [Bool.and_eq_true] at c
      have c1 := of_decide_eq_true c.1
      have c2 := of_decide_eq_true c.2
      cases rb.int
      obtain ⟨p, vs, rfl, hp, rp⟩ := ra.tuple sm
      refine .inr (.inl ⟨p, k, vs, rfl, rfl, hp, c1.1, c1.2, by rw [rp.length]; exact c2, fun e => ?_, fun e1 e2 l hl => q _ _ _ (Gr.new sm hl) (.tup (.inl (.inl upd_same)) ((rp.flatRep _).mono (same_upd (sm.free hl))))⟩)
      have ee : (List.replicate k.toNat xs).flatten = xs := by
        rcases e with e | e
        · subst e
          cases rp
          exact flat_rep_nil _
        · subst e
          exact flat_rep1 xs
      rw [ee] at q
      rcases ra with ra | ⟨_, _, c, z, _, rc, e⟩
      · exact q _ F H (Gr.refl sm) ra
      · cases rc <;> exact nomatch e
    | _ => cases h
  | lst xs =>
    cases b with
    | int k =>
      obtain ⟨c, rfl⟩ := ite_some h
      rw [Bool.and_eq_true] at c
      have c1 := of_decide_eq_true c.1
      have c2 := of_decide_eq_true c.2
      cases rb.int
      obtain ⟨p, vs, rfl, hp, rp⟩ := ra.list sm
      exact .inr (.inr ⟨p, k, vs, rfl, rfl, hp, c1.1, c1.2, by rw [rp.length]; exact c2, fun l hl => q _ _ _ (Gr.new sm hl) (.lst upd_same ((rp.flatRep _).mono (same_upd (sm.free hl))))⟩)
    | _ => cases h
  | _ => cases h
/-- lists made by + and *, to be owned -/
def catL : D → D → Option Cl
  | .lst a, .lst b => if a.length + b.length ≤ sizeLine then some (.l (a ++ b)) else none
  | _, _ => none
def repL : D → D → Option Cl
  | .lst a, .int k => if (decide (-(2 ^ 63) ≤ k ∧ k < 2 ^ 63) && decide (a.length * k.toNat ≤ sizeLine)) = true then some (.l (List.replicate k.toNat a).flatten) else none
  | _, _ => none
theorem s_catL : OpL X rCat catL := by
  intro F H v w a b c Q sm ra rb h q
  cases a with
  | lst xs =>
    cases b with
    | lst ys =>
      obtain ⟨hz, rfl⟩ := ite_some h
      obtain ⟨p, vs, rfl, hp, rp⟩ := ra.list sm
      obtain ⟨p2, ws, rfl, hp2, rp2⟩ := rb.list sm
      exact ⟨p, p2, vs, ws, rfl, rfl, hp, hp2, by rw [rp.length, rp2.length]; exact hz, fun l hl => q l _ hl (.l (rp.append rp2))⟩
    | _ => cases h
  | _ => cases h
theorem s_repL : OpL X rRep repL := by
  intro F H v w a b c Q sm ra rb h q
  cases a with
  | lst xs =>
    cases b with
    | int k =>
      obtain ⟨c, rfl⟩ := ite_some h
      rw [Bool.and_eq_true] at c
      have c1 := of_decide_eq_true c.1
      have c2 := of_decide_eq_true c.2
      cases rb.int
      obtain ⟨p, vs, rfl, hp, rp⟩ := ra.list sm
      exact ⟨p, k, vs, rfl, rfl, hp, c1.1, c1.2, by rw [rp.length]; exact c2, fun l hl => q l _ hl (.l (rp.flatRep _))⟩
    | _ => cases h
  | _ => cases h
def negD : D → Option D
  | .int i => some (.int (-i))
  | _ => none
theorem s_neg : UnS X (rU fun i => .int (-i)) negD := by
  intro F H v a d Q sm ra h q
  cases a with
  | int i =>
    cases h
    cases ra.int
    exact ⟨i, rfl, q _ F H (Gr.refl sm) (.int _)⟩
  | _ => cases h

/-! ### comparisons -/
def cmpD (p : Int → Int → Bool) : D → D → Option D
  | .int i, .int j => some (.bl (p i j))
  | _, _ => none
theorem s_cmp (p : Int → Int → Bool) : OpS X (rI0 fun i j => .bl (p i j)) (cmpD p) := s_I0 fun a b d h => by
  cases a <;> cases b <;> first
    | (cases h; done)
    | (cases h; exact ⟨_, _, rfl, rfl, fun F => .bl _⟩)
abbrev ltD := cmpD fun i j => decide (i < j)
abbrev leD := cmpD fun i j => decide (i ≤ j)
abbrev gtD := cmpD fun i j => decide (j < i)
abbrev geD := cmpD fun i j => decide (j ≤ i)
/-! the data of == -/
mutual
def conv : D → PyData
  | .non => .none
  | .bl b => .bool b
  | .int i => .int i
  | .str x => .str x
  | .tup xs => .tuple (convs xs)
  | .lst xs => .list (convs xs)
  | .dic _ => .dict []
  | .fn _ => .dict []
  | .arg _ => .dict []
def convs : List D → List PyData
  | [] => []
  | x :: xs => conv x :: convs xs
end
mutual
theorem Rp.dp {K : PySem.W.Frag} {mg : Str → Option Value} {H : Hp} : ∀ {v : V} (d : D), Rp K mg H v d → (conv d).canLay0 = true → Dp K H v (conv d)
  | _, .non, .non, _ => .non
  | _, .bl b, .bl _, _ => .bl b
  | _, .int i, .int _, _ => .int i
  | _, .str x, .str _, _ => .str x
  | _, .tup ds, .tup h r, c => .tup h (RpA.dp ds r (by simpa [conv, PyData.canLay0] using c))
  | _, .lst ds, .lst h r, c => .lst (.inl (.inl h)) (RpA.dp ds r (by simpa [conv, PyData.canLay0] using c))
  | _, .dic _, _, c => by simp [conv, PyData.canLay0] at c
  | _, .fn _, _, c => by simp [conv, PyData.canLay0] at c
  | _, .arg _, _, c => by simp [conv, PyData.canLay0] at c
theorem RpA.dp {K : PySem.W.Frag} {mg : Str → Option Value} {H : Hp} : ∀ {vs : List V} (ds : List D), RpA K mg H vs ds → PyData.canLayAll0 (convs ds) = true → DpAll K H vs (convs ds)
  | _, [], .nil, _ => .nil
  | _, d :: ds, .cons h r, c => by
    have c' : (conv d).canLay0 = true ∧ PyData.canLayAll0 (convs ds) = true := by simpa [convs, PyData.canLayAll0] using c
    exact .cons (Rp.dp d h c'.1) (RpA.dp ds r c'.2)
end
def shp (d : D) : Bool := SeqAt.shaped (conv d)
theorem shp_lay {d : D} (h : shp d = true) : (conv d).canLay0 = true := by
  unfold shp SeqAt.shaped at h
  rw [Bool.and_eq_true] at h
  exact h.1
def eqv (a b : D) : Bool := PyData.eqv (conv a) (conv b)
def eqD (a b : D) : Option D := if (shp a && shp b) = true then some (.bl (eqv a b)) else none
def neD (a b : D) : Option D := if (shp a && shp b) = true then some (.bl (!eqv a b)) else none
theorem s_eq : OpS X (rEqD X.K) eqD := by
  intro F H v w a b d Q sm ra rb h q
  obtain ⟨c, rfl⟩ := ite_some h
  rw [Bool.and_eq_true] at c
  exact ⟨_, _, Rp.dp a (ra.rp sm) (shp_lay c.1), Rp.dp b (rb.rp sm) (shp_lay c.2), c.1, c.2, q _ F H (Gr.refl sm) (.bl _)⟩
theorem s_ne : OpS X (rNeD X.K) neD := by
  intro F H v w a b d Q sm ra rb h q
  obtain ⟨c, rfl⟩ := ite_some h
  rw [Bool.and_eq_true] at c
  exact ⟨_, _, Rp.dp a (ra.rp sm) (shp_lay c.1), Rp.dp b (rb.rp sm) (shp_lay c.2), c.1, c.2, q _ F H (Gr.refl sm) (.bl _)⟩
/-- is None, is True .. -/
def isN : D → Bool
  | .non => true
  | _ => false
def isD : D → D → Option D
  | .bl a, .bl b => some (.bl (decide (a = b)))
  | a, .non => some (.bl (isN a))
  | _, _ => none
def isnD : D → D → Option D
  | .bl a, .bl b => some (.bl (!decide (a = b)))
  | a, .non => some (.bl (!isN a))
  | _, _ => none
def rIsD : R2 := fun x y H Q => rIsB x y H Q ∨ (y = .non ∧ Q (.bl (decide (x = .non))) H)
def rIsnD : R2 := fun x y H Q => rNotB x y H Q ∨ (y = .non ∧ Q (.bl (!decide (x = .non))) H)
theorem op_isD : OpR X (compareOp .Is) rIsD := OpR.or op_isBl op_isN
theorem op_isnD : OpR X (compareOp .IsNot) rIsnD := OpR.or op_notBl op_notN
theorem non_iff {F H : Hp} {v : V} {a : D} (r : RpB X.K X.mg F H v a) : decide (v = .non) = isN a := by
  rcases r with r | ⟨p, o, c, rfl, _, rc, rfl⟩
  · cases r <;> simp [isN]
  · cases c <;> simp [isN, Cl.D]
theorem s_is : OpS X rIsD isD := by
  intro F H v w a b d Q sm ra rb h q
  have hn : ∀ {a}, RpB X.K X.mg F H v a → RpB X.K X.mg F H w .non → (∀ (z : V) F' H', Gr F H F' H' → Rp X.K X.mg F' z (.bl (isN a)) → Q z H') → rIsD v w H Q := fun {a} ra rb q => by
    cases rb.non
    exact .inr ⟨rfl, by rw [non_iff ra]; exact q _ F H (Gr.refl sm) (.bl _)⟩
  cases b with
  | non => cases a <;> (cases h; exact hn ra rb q)
  | bl y =>
    cases a with
    | bl x =>
      cases h
      cases ra.bl
      cases rb.bl
      exact .inl ⟨x, y, rfl, rfl, q _ F H (Gr.refl sm) (.bl _)⟩
    | _ => cases h
  | _ => cases a <;> cases h
theorem s_isn : OpS X rIsnD isnD := by
  intro F H v w a b d Q sm ra rb h q
  have hn : ∀ {a}, RpB X.K X.mg F H v a → RpB X.K X.mg F H w .non → (∀ (z : V) F' H', Gr F H F' H' → Rp X.K X.mg F' z (.bl (!isN a)) → Q z H') → rIsnD v w H Q := fun {a} ra rb q => by
    cases rb.non
    exact .inr ⟨rfl, by rw [non_iff ra]; exact q _ F H (Gr.refl sm) (.bl _)⟩
  cases b with
  | non => cases a <;> (cases h; exact hn ra rb q)
  | bl y =>
    cases a with
    | bl x =>
      cases h
      cases ra.bl
      cases rb.bl
      exact .inl ⟨x, y, rfl, rfl, q _ F H (Gr.refl sm) (.bl _)⟩
    | _ => cases h
  | _ => cases a <;> cases h

/-! ### items, slices -/
def itemsOf : D → Option (List D)
  | .lst xs => some xs
  | .tup xs => some xs
  | _ => none
def ixD : D → D → Option D
  | .lst xs, .int i => atI xs i
  | .tup xs, .int i => atI xs i
  | .str s, .int i => if s.length ≤ sizeLine then (atI s.cps.toList i).map fun c => .str ⟨#[c]⟩ else none
  | _, _ => none
theorem atI_rp {K : PySem.W.Frag} {mg : Str → Option Value} {F : Hp} {vs : List V} {ds : List D} {i : Int} {d : D} (r : RpA K mg F vs ds) (h : atI ds i = some d) : ∃ v, atI vs i = some v ∧ Rp K mg F v d := by
  unfold atI at h ⊢
  rw [r.length]
  cases q : ixN ds.length i with
  | none => rw [q] at h; cases h
  | some j =>
    rw [q] at h
    exact r.get h
theorem s_ix : OpS X (rIx X.K) ixD := by
  intro F H v w a b d Q sm ra rb h q
  cases b with
  | int i =>
    cases rb.int
    cases a with
    | lst xs =>
      obtain ⟨p, vs, rfl, hp, rp⟩ := ra.list sm
      obtain ⟨v, h1, h2⟩ := atI_rp rp h
      exact .inl ⟨p, vs, i, v, rfl, rfl, .inl (.inl hp), h1, q _ F H (Gr.refl sm) h2⟩
    | tup xs =>
      obtain ⟨p, vs, rfl, hp, rp⟩ := ra.tuple sm
      obtain ⟨v, h1, h2⟩ := atI_rp rp h
      exact .inr (.inl ⟨p, vs, i, v, rfl, rfl, hp, h1, q _ F H (Gr.refl sm) h2⟩)
    | str s =>
      cases ra.str
      have h' : (if s.length ≤ sizeLine then (atI s.cps.toList i).map fun c => D.str ⟨#[c]⟩ else none) = some d := h
      split at h'
      · rename_i hz
        cases z : atI s.cps.toList i with
        | none => rw [z] at h'; cases h'
        | some c =>
          rw [z] at h'
          cases h'
          exact .inr (.inr ⟨s, i, c, rfl, rfl, hz, z, q _ F H (Gr.refl sm) (.str _)⟩)
      · cases h'
    | _ => cases h
  | _ => cases a <;> cases h
theorem P.ix {x y : Expr} {pos : Pos} {fa fb : Ev → R D} (ha : B X W x fa) (hb : B X W y fb) (hs : PlainIx y := by exact fun _ _ => rfl) : P X W (.Subscript x y pos) (bin ixD fa fb) := ⟨PE_mono (pe_ix ix_seq ha.pe hb.pe hs) (bin_mono s_ix)⟩
theorem M.ix {x y : Expr} {pos : Pos} {fa fb : Ev → R (D × Ev)} (ha : M X x fa) (hb : M X y fb) (hs : PlainIx y := by exact fun _ _ => rfl) : M X (.Subscript x y pos) (binM ixD fa fb) := ⟨PE_mono (pe_ix ix_seq ha.pe hb.pe hs) (binM_mono s_ix)⟩
def cutD (xs : List D) (lo hi : Option Int) : List D := (xs.drop (HT.sIx xs.length 0 lo)).take (HT.sIx xs.length xs.length hi - HT.sIx xs.length 0 lo)
theorem RpA.cut {K : PySem.W.Frag} {mg : Str → Option Value} {F : Hp} {vs : List V} {ds : List D} (r : RpA K mg F vs ds) (lo hi : Option Int) : RpA K mg F (cutV vs lo hi) (cutD ds lo hi) := by
  unfold cutV cutD
  rw [r.length]
  exact (r.drop _).take _
def SlS (X : Cx) (r : V → Option Int → Option Int → Hp → VK → Prop) (f : D → Option Int → Option Int → Option D) : Prop := ∀ (F H : Hp) (v : V) (a d : D) (lo hi : Option Int) (Q : VK), Same F H → RpB X.K X.mg F H v a → f a lo hi = some d → (∀ z F' H', Gr F H F' H' → Rp X.K X.mg F' z d → Q z H') → r v lo hi H Q
def slD : D → Option Int → Option Int → Option D
  | .lst xs, lo, hi => some (.lst (cutD xs lo hi))
  | .tup xs, lo, hi => some (.tup (cutD xs lo hi))
  | _, _, _ => none
def rSlD (K : PySem.W.Frag) : V → Option Int → Option Int → Hp → VK → Prop := fun x lo hi H Q => rSlL K x lo hi H Q ∨ rSlA K x lo hi H Q
theorem sl_D : SlR X (rSlD X.K) := SlR.or sl_list sl_tupA
theorem cut_whole {xs : List D} {lo hi : Option Int} (h : HT.sIx xs.length 0 lo = 0 ∧ HT.sIx xs.length xs.length hi = xs.length) : cutD xs lo hi = xs := by
  unfold cutD
  rw [h.1, h.2]
  simp
theorem s_sl : SlS X (rSlD X.K) slD := by
  intro F H v a d lo hi Q sm ra h q
  cases a with
  | lst xs =>
    cases h
    obtain ⟨p, vs, rfl, hp, rp⟩ := ra.list sm
    exact .inl ⟨p, vs, rfl, .inl (.inl hp), fun l hl => q _ _ _ (Gr.new sm hl) (.lst upd_same ((rp.cut lo hi).mono (same_upd (sm.free hl))))⟩
  | tup xs =>
    cases h
    obtain ⟨p, vs, rfl, hp, rp⟩ := ra.tuple sm
    refine .inr ⟨p, vs, rfl, hp, fun e => ?_, fun e l hl => q _ _ _ (Gr.new sm hl) (.tup (.inl (.inl upd_same)) ((rp.cut lo hi).mono (same_upd (sm.free hl))))⟩
    rw [rp.length] at e
    rw [cut_whole e] at q
    rcases ra with ra | ⟨_, _, c, z, _, rc, e⟩
    · exact q _ F H (Gr.refl sm) ra
    · cases rc <;> exact nomatch e
  | _ => cases h
/-- the parts of a slice -/
def tO (X : Cx) (W : WX) (f : Ev → R (Option Int)) : TO := fun σ H Q => ∃ g F e, Rel X.K X.mg g F σ H e ∧ Ot X W g F σ e (f e) fun o => ∀ F' H', Gr F H F' H' → Q o H'
structure Po (X : Cx) (W : WX) (x : Option Expr) (f : Ev → R (Option Int)) : Prop where
  po : PO X x (tO X W f)
theorem PO_mono {x : Option Expr} {t u : TO} (h : PO X x t) (i : ∀ σ H Q, u σ H Q → t σ H Q) : PO X x u := ⟨fun pins s σ H Q I q => h.run pins s σ H Q I (i σ H Q q)⟩
theorem Po.none : Po X W none (fun _ => .ok none) := ⟨PO_mono po_none fun σ H Q ⟨g, F, e, r, o⟩ => o F H (Gr.refl r.fh)⟩
def asI (f : Ev → R D) : Ev → R (Option Int) := fun e => f e >>= fun d => match d with
  | .int i => .ok (some i)
  | _ => .no
theorem Po.some {x : Expr} {f : Ev → R D} (h : B X W x f) : Po X W (some x) (asI f) := ⟨PO_mono (po_some h.pe) fun σ H Q ⟨g, F, e, r, o⟩ => ⟨g, F, e, r, o.bind.imp fun d o v F1 H1 g1 rp => by
  cases d with
  | int i =>
    cases rp.int
    exact ⟨i, rfl, o F1 H1 g1⟩
  | _ => exact (show False from o).elim⟩⟩
def slP (f : D → Option Int → Option Int → Option D) (fa : Ev → R D) (fl fh : Ev → R (Option Int)) : Ev → R D := fun e => fa e >>= fun a => fl e >>= fun l => fh e >>= fun h => .ofO (f a l h)
theorem P.sl {x : Expr} {lo hi : Option Expr} {p2 pos : Pos} {fa : Ev → R D} {fl fh : Ev → R (Option Int)} (ha : B X W x fa) (hl : Po X W lo fl) (hh : Po X W hi fh) : P X W (.Subscript x (.Slice lo hi none p2) pos) (slP slD fa fl fh) := ⟨PE_mono (pe_slice sl_D ha.pe hl.po hh.po) fun σ H Q ⟨g, F, e, r, o⟩ =>
  ⟨g, F, e, r, o.bind.imp fun a o v F1 H1 g1 p1 => ⟨g, F1, e, r.ext g1, (o.up g1.ff).bind.imp fun l o F2 H2 g2 => ⟨g, F2, e, (r.ext g1).ext g2, (o.up g2.ff).bind.imp fun h o F3 H3 g3 => by
    obtain ⟨d, hd, k⟩ := Ot.ofO o
    have g23 := g2.trans g3
    exact s_sl F3 H3 v a d l h Q g3.fh (p1.mono g23.ff g23.hh) hd fun z F' H' g4 => k z F' H' ((g1.trans g23).trans g4)⟩⟩⟩⟩
end
end DL


namespace DL
open PySem PySem.Spec PyProof.Rows L2
/-! ### built-ins by name -/
def CallS (X : Cx) (r : List V → Hp → VK → Prop) (f : List D → Option D) : Prop := ∀ (F H : Hp) (vs : List V) (ds : List D) (d : D) (Q : VK), Same F H → RpBs X.K X.mg F H vs ds → f ds = some d → (∀ z F' H', Gr F H F' H' → Rp X.K X.mg F' z d → Q z H') → r vs H Q
def CallLs (X : Cx) (r : List V → Hp → VK → Prop) (f : List D → Option Cl) : Prop := ∀ (F H : Hp) (vs : List V) (ds : List D) (c : Cl) (Q : VK), Same F H → RpBs X.K X.mg F H vs ds → f ds = some c → (∀ p o, H p = none → RpO X.K X.mg F o c → Q (.ref p) (upd H p o)) → r vs H Q
def biP (f : List D → Option D) (fs : Ev → R (List D)) : Ev → R D := fun e => fs e >>= fun ds => .ofO (f ds)
def biM (f : List D → Option D) (fs : Ev → R (List D × Ev)) : Ev → R (D × Ev) := fun e => fs e >>= fun ds => R.ofO (f ds.1) >>= fun d => .ok (d, ds.2)
def biL (f : List D → Option Cl) (fs : Ev → R (List D)) : Ev → R Cl := fun e => fs e >>= fun ds => .ofO (f ds)
theorem RpA.bs {K : PySem.W.Frag} {mg : Str → Option Value} {F H : Hp} : ∀ {vs : List V} {ds : List D}, RpA K mg F vs ds → RpBs K mg F H vs ds
  | _, _, .nil => .nil
  | _, _, .cons h r => .cons (.inl h) (RpA.bs r)
section
variable {X : Cx} {W : WX} {x : Str} {p pos : Pos} {e : Expr} {es : List Expr} {id T : String} {r : List V → Hp → VK → Prop} {f : List D → Option D} {fl : List D → Option Cl} {fs : Ev → R (List D)} {fm : Ev → R (List D × Ev)}
theorem biP_mono (hs : CallS X r f) (σ : L2.St) (H : Hp) (Q : VK) : tP X W (biP f fs) σ H Q → tCB r (tBs X W fs) σ H Q := fun ⟨g, F, ev, rl, o⟩ => ⟨g, F, ev, rl, o.bind.imp fun ds o vs F1 H1 g1 rp => by
  obtain ⟨d, hd, k⟩ := Ot.ofO o
  exact hs F1 H1 vs ds d Q g1.fh rp hd fun z F' H' g3 => k z F' H' (g1.trans g3)⟩
theorem biM_mono (hs : CallS X r f) (σ : L2.St) (H : Hp) (Q : VK) : tM X (biM f fm) σ H Q → tCB r (tMs X fm) σ H Q := fun ⟨g, F, ev, rl, o⟩ => ⟨g, F, ev, rl, o.bind'.imp fun ds o vs F1 H1 r1 s1 k1 rp => by
  obtain ⟨d, hd, k⟩ := On.ofO o.bind'
  exact hs F1 H1 vs ds.1 d Q r1.fh (RpA.bs rp) hd fun z F' H' g3 rz => k z F' H' (r1.ext g3) (s1.trans g3.ff) (k1.trans (.gr g3)) rz⟩
theorem biL_mono (hs : CallLs X r fl) (σ : L2.St) (H : Hp) (Q : VK) : tL X W (biL fl fs) σ H Q → tCB r (tBs X W fs) σ H Q := fun ⟨g, F, ev, rl, o⟩ => ⟨g, F, ev, rl, o.bind.imp fun ds o vs F1 H1 g1 rp => by
  obtain ⟨c, hc, k⟩ := Ot.ofO o
  exact hs F1 H1 vs ds c Q g1.fh rp hc fun p ob hp ho => k p F1 (upd H1 p ob) (g1.trans (Gr.junk g1.fh hp)) (Fresh.new (rl.ext g1) hp ho) (g1.hh.free hp)⟩
theorem P.bi (hc : CallR X (.builtin id) r) (hs : CallS X r f) (hm : X.mg x = none) (hv : bootBuiltins x = some (.builtin id)) (ha : Bs X W (e :: es) fs) (hg : Gl X x := by rfl) (hn : x ≠ "__name__" := by decide) (hdb : (x == ("__debug__" : Str)) = false := by decide)
    (he : starEach (e :: es) X.env = (false, eval e X.env) :: starEach es X.env := by rfl) (hpl : (backTo pos (starEach es X.env)).any (·.1) = false := by rfl) : P X W (.Call (.Name x p) (e :: es) [] pos) (biP f fs) := ⟨PE_mono (pe_callB hc hg hm hv ha.pa hn hdb he hpl) (biP_mono hs)⟩
theorem M.bi (hc : CallR X (.builtin id) r) (hs : CallS X r f) (hm : X.mg x = none) (hv : bootBuiltins x = some (.builtin id)) (ha : Ms X (e :: es) fm) (hg : Gl X x := by rfl) (hn : x ≠ "__name__" := by decide) (hdb : (x == ("__debug__" : Str)) = false := by decide)
    (he : starEach (e :: es) X.env = (false, eval e X.env) :: starEach es X.env := by rfl) (hpl : (backTo pos (starEach es X.env)).any (·.1) = false := by rfl) : M X (.Call (.Name x p) (e :: es) [] pos) (biM f fm) := ⟨PE_mono (pe_callB hc hg hm hv ha.pa hn hdb he hpl) (biM_mono hs)⟩
theorem P.ty (hc : CallR X (.type T) r) (hs : CallS X r f) (hm : X.mg x = none) (hv : bootBuiltins x = some (.type T)) (ha : Bs X W (e :: es) fs) (hg : Gl X x := by rfl) (hn : x ≠ "__name__" := by decide) (hdb : (x == ("__debug__" : Str)) = false := by decide)
    (he : starEach (e :: es) X.env = (false, eval e X.env) :: starEach es X.env := by rfl) (hpl : (backTo pos (starEach es X.env)).any (·.1) = false := by rfl) : P X W (.Call (.Name x p) (e :: es) [] pos) (biP f fs) := ⟨PE_mono (pe_callTy hc hg hm hv ha.pa hn hdb he hpl) (biP_mono hs)⟩
theorem M.ty (hc : CallR X (.type T) r) (hs : CallS X r f) (hm : X.mg x = none) (hv : bootBuiltins x = some (.type T)) (ha : Ms X (e :: es) fm) (hg : Gl X x := by rfl) (hn : x ≠ "__name__" := by decide) (hdb : (x == ("__debug__" : Str)) = false := by decide)
    (he : starEach (e :: es) X.env = (false, eval e X.env) :: starEach es X.env := by rfl) (hpl : (backTo pos (starEach es X.env)).any (·.1) = false := by rfl) : M X (.Call (.Name x p) (e :: es) [] pos) (biM f fm) := ⟨PE_mono (pe_callTy hc hg hm hv ha.pa hn hdb he hpl) (biM_mono hs)⟩
theorem L.ty (hc : CallR X (.type T) r) (hs : CallLs X r fl) (hm : X.mg x = none) (hv : bootBuiltins x = some (.type T)) (ha : Bs X W (e :: es) fs) (hg : Gl X x := by rfl) (hn : x ≠ "__name__" := by decide) (hdb : (x == ("__debug__" : Str)) = false := by decide)
    (he : starEach (e :: es) X.env = (false, eval e X.env) :: starEach es X.env := by rfl) (hpl : (backTo pos (starEach es X.env)).any (·.1) = false := by rfl) : L X W (.Call (.Name x p) (e :: es) [] pos) (biL fl fs) := ⟨PE_mono (pe_callTy hc hg hm hv ha.pa hn hdb he hpl) (biL_mono hs)⟩
/-- a name of a module for a built-in function -/
theorem P.bf (hc : CallR X (.builtin id) r) (hs : CallS X r f) (hm : X.mg x = some (.builtin id)) (ha : Bs X W (e :: es) fs) (hg : Gl X x := by rfl) (hdb : (x == ("__debug__" : Str)) = false := by decide)
    (he : starEach (e :: es) X.env = (false, eval e X.env) :: starEach es X.env := by rfl) (hpl : (backTo pos (starEach es X.env)).any (·.1) = false := by rfl) : P X W (.Call (.Name x p) (e :: es) [] pos) (biP f fs) := ⟨PE_mono (pe_callBfun hc hg hm ha.pa hdb he hpl) (biP_mono hs)⟩

/-! #### one by one -/
def f1 (f : D → Option D) : List D → Option D
  | [a] => f a
  | _ => none
def f2 (f : D → D → Option D) : List D → Option D
  | [a, b] => f a b
  | _ => none
theorem RpBs.one {K : PySem.W.Frag} {mg : Str → Option Value} {F H : Hp} {vs : List V} {a : D} (h : RpBs K mg F H vs [a]) : ∃ v, vs = [v] ∧ RpB K mg F H v a := by
  cases h with
  | cons h r =>
    cases r
    exact ⟨_, rfl, h⟩
theorem RpBs.two {K : PySem.W.Frag} {mg : Str → Option Value} {F H : Hp} {vs : List V} {a b : D} (h : RpBs K mg F H vs [a, b]) : ∃ v w, vs = [v, w] ∧ RpB K mg F H v a ∧ RpB K mg F H w b := by
  cases h with
  | cons h r =>
    obtain ⟨w, rfl, h2⟩ := r.one
    exact ⟨_, w, rfl, h, h2⟩
theorem f1_ok {f : D → Option D} {ds : List D} {d : D} (h : f1 f ds = some d) : ∃ a, ds = [a] ∧ f a = some d := by
  match ds, h with
  | [a], h => exact ⟨a, rfl, h⟩
theorem f2_ok {f : D → D → Option D} {ds : List D} {d : D} (h : f2 f ds = some d) : ∃ a b, ds = [a, b] ∧ f a b = some d := by
  match ds, h with
  | [a, b], h => exact ⟨a, b, rfl, h⟩
def len1 : D → Option D
  | .lst xs => some (.int xs.length)
  | .tup xs => some (.int xs.length)
  | .arg xs => some (.int xs.length)
  | .str s => if s.length ≤ sizeLine then some (.int s.length) else none
  | _ => none
def rLen (K : PySem.W.Frag) : List V → Hp → VK → Prop := fun xs H Q => ∃ x n, xs = [x] ∧ LenV K x H n ∧ Q (.int n) H
theorem s_len : CallS X (rLen X.K) (f1 len1) := by
  intro F H vs ds d Q sm ra h q
  obtain ⟨a, rfl, h⟩ := f1_ok h
  have ra0 := ra
  clear ra
  obtain ⟨v, rfl, ra⟩ := ra0.one
  cases a with
  | lst xs =>
    cases h
    obtain ⟨p, vs, rfl, hp, rp⟩ := ra.list sm
    exact ⟨_, vs.length, rfl, .inl ⟨vs, .inl (.inl hp), rfl⟩, by rw [rp.length]; exact q _ F H (Gr.refl sm) (.int _)⟩
  | tup xs =>
    cases h
    obtain ⟨p, vs, rfl, hp, rp⟩ := ra.tuple sm
    exact ⟨_, vs.length, rfl, .inr ⟨vs, hp, rfl⟩, by rw [rp.length]; exact q _ F H (Gr.refl sm) (.int _)⟩
  | arg xs =>
    cases h
    obtain ⟨p, vs, rfl, hp, rp⟩ := ra.arg sm
    exact ⟨_, vs.length, rfl, .inl ⟨vs, hp, rfl⟩, by rw [rp.length]; exact q _ F H (Gr.refl sm) (.int _)⟩
  | str s =>
    obtain ⟨hz, rfl⟩ := ite_some h
    cases ra.str
    exact ⟨_, s.length, rfl, ⟨hz, rfl⟩, q _ F H (Gr.refl sm) (.int _)⟩
  | _ => cases h
theorem c_len : CallR X (.builtin "len") (rLen X.K) := call_len
def intsOf : List D → Option (List Int)
  | [] => some []
  | .int i :: r => (intsOf r).map (i :: ·)
  | _ => none
theorem intsOf_ok : ∀ {ds : List D} {ns : List Int}, intsOf ds = some ns → ds = ns.map D.int
  | [], ns, h => by cases h; rfl
  | .int i :: r, ns, h => by
    have h' : (intsOf r).map (i :: ·) = some ns := h
    cases q : intsOf r with
    | none => rw [q] at h'; cases h'
    | some ms =>
      rw [q] at h'
      cases h'
      rw [intsOf_ok q]
      rfl
  | .non :: _, _, h => by cases h
  | .bl _ :: _, _, h => by cases h
  | .str _ :: _, _, h => by cases h
  | .tup _ :: _, _, h => by cases h
  | .lst _ :: _, _, h => by cases h
  | .dic _ :: _, _, h => by cases h
  | .fn _ :: _, _, h => by cases h
  | .arg _ :: _, _, h => by cases h
theorem intsOf_map (ns : List Int) : intsOf (ns.map D.int) = some ns := by
  induction ns with
  | nil => rfl
  | cons i r ih =>
    show (intsOf (r.map D.int)).map (i :: ·) = some (i :: r)
    rw [ih]
    rfl
def sum1 : D → Option D
  | .lst xs => (intsOf xs).map fun ns => .int ns.sum
  | .tup xs => (intsOf xs).map fun ns => .int ns.sum
  | _ => none
theorem map_some {α β : Type} {o : Option α} {f : α → β} {b : β} (h : o.map f = some b) : ∃ a, o = some a ∧ b = f a := by
  cases o with
  | none => cases h
  | some a => exact ⟨a, rfl, (Option.some.inj h).symm⟩
theorem s_sum : CallS X (rSumT X.K) (f1 sum1) := by
  intro F H vs ds d Q sm ra h q
  obtain ⟨a, rfl, h⟩ := f1_ok h
  have ra0 := ra
  clear ra
  obtain ⟨v, rfl, ra⟩ := ra0.one
  cases a with
  | lst xs =>
    obtain ⟨ns, hn, rfl⟩ := map_some h
    obtain ⟨p, vs, rfl, hp, rp⟩ := ra.list sm
    rw [intsOf_ok hn] at rp
    exact ⟨p, ns, rfl, .inl (.inl (.inl (by rw [rp.ints] at hp; exact hp))), q _ F H (Gr.refl sm) (.int _)⟩
  | tup xs =>
    obtain ⟨ns, hn, rfl⟩ := map_some h
    obtain ⟨p, vs, rfl, hp, rp⟩ := ra.tuple sm
    rw [intsOf_ok hn] at rp
    exact ⟨p, ns, rfl, .inr (by rw [rp.ints] at hp; exact hp), q _ F H (Gr.refl sm) (.int _)⟩
  | _ => cases h
def maxI : List Int → Int
  | [] => 0
  | x :: xs => xs.foldl max x
def minI : List Int → Int
  | [] => 0
  | x :: xs => xs.foldl min x
theorem foldl_max : ∀ (xs : List Int) (x : Int), (xs.foldl max x ∈ x :: xs) ∧ ∀ y ∈ x :: xs, y ≤ xs.foldl max x
  | [], x => ⟨List.mem_singleton.mpr rfl, fun y h => by rw [List.mem_singleton.mp h]; exact Int.le_refl _⟩
  | z :: xs, x => by
    obtain ⟨h1, h2⟩ := foldl_max xs (max x z)
    refine ⟨?_, fun y hy => ?_⟩
    · show xs.foldl max (max x z) ∈ x :: z :: xs
      rcases List.mem_cons.mp h1 with h | h
      · rw [h]
        by_cases hxz : x ≤ z
        · rw [Int.max_eq_right hxz]
          exact List.mem_cons_of_mem _ List.mem_cons_self
        · rw [Int.max_eq_left (by omega)]
          exact List.mem_cons_self
      · exact List.mem_cons_of_mem _ (List.mem_cons_of_mem _ h)
    · show y ≤ xs.foldl max (max x z)
      have h3 := h2 (max x z) List.mem_cons_self
      rcases List.mem_cons.mp hy with h | h
      · rw [h]; omega
      · rcases List.mem_cons.mp h with h | h
        · rw [h]; omega
        · exact h2 y (List.mem_cons_of_mem _ h)
theorem foldl_min : ∀ (xs : List Int) (x : Int), (xs.foldl min x ∈ x :: xs) ∧ ∀ y ∈ x :: xs, xs.foldl min x ≤ y
  | [], x => ⟨List.mem_singleton.mpr rfl, fun y h => by rw [List.mem_singleton.mp h]; exact Int.le_refl _⟩
  | z :: xs, x => by
    obtain ⟨h1, h2⟩ := foldl_min xs (min x z)
    refine ⟨?_, fun y hy => ?_⟩
    · show xs.foldl min (min x z) ∈ x :: z :: xs
      rcases List.mem_cons.mp h1 with h | h
      · rw [h]
        by_cases hxz : x ≤ z
        · rw [Int.min_eq_left hxz]
          exact List.mem_cons_self
        · rw [Int.min_eq_right (by omega)]
          exact List.mem_cons_of_mem _ List.mem_cons_self
      · exact List.mem_cons_of_mem _ (List.mem_cons_of_mem _ h)
    · show xs.foldl min (min x z) ≤ y
      have h3 := h2 (min x z) List.mem_cons_self
      rcases List.mem_cons.mp hy with h | h
      · rw [h]; omega
      · rcases List.mem_cons.mp h with h | h
        · rw [h]; omega
        · exact h2 y (List.mem_cons_of_mem _ h)
theorem maxI_mem {ns : List Int} (h : ns ≠ []) : maxI ns ∈ ns ∧ ∀ y ∈ ns, y ≤ maxI ns := by
  cases ns with
  | nil => exact absurd rfl h
  | cons x xs => exact foldl_max xs x
theorem minI_mem {ns : List Int} (h : ns ≠ []) : minI ns ∈ ns ∧ ∀ y ∈ ns, minI ns ≤ y := by
  cases ns with
  | nil => exact absurd rfl h
  | cons x xs => exact foldl_min xs x
theorem maxI_eq {ns : List Int} {m : Int} (h : m ∈ ns) (h2 : ∀ y, y ∈ ns → y ≤ m) : maxI ns = m := by
  obtain ⟨a, b⟩ := maxI_mem (ns := ns) (fun e => by rw [e] at h; cases h)
  have := b m h
  have := h2 _ a
  omega
theorem minI_eq {ns : List Int} {m : Int} (h : m ∈ ns) (h2 : ∀ y, y ∈ ns → m ≤ y) : minI ns = m := by
  obtain ⟨a, b⟩ := minI_mem (ns := ns) (fun e => by rw [e] at h; cases h)
  have := b m h
  have := h2 _ a
  omega
def maxDs : List D → Option D
  | [.int i, .int j] => some (.int (if j > i then j else i))
  | [.lst xs] => (intsOf xs).bind fun ns => if 0 < ns.length then some (.int (maxI ns)) else none
  | _ => none
def minDs : List D → Option D
  | [.int i, .int j] => some (.int (if j < i then j else i))
  | [.lst xs] => (intsOf xs).bind fun ns => if 0 < ns.length then some (.int (minI ns)) else none
  | _ => none
def rMaxD (K : PySem.W.Frag) : List V → Hp → VK → Prop := fun xs H Q => (∃ i j, xs = [.int i, .int j] ∧ Q (.int (if j > i then j else i)) H) ∨ rMax K xs H Q
def rMinD (K : PySem.W.Frag) : List V → Hp → VK → Prop := fun xs H Q => (∃ i j, xs = [.int i, .int j] ∧ Q (.int (if j < i then j else i)) H) ∨ rMin K xs H Q
theorem c_max (hc : X.calm = true) : CallR X (.builtin "max") (rMaxD X.K) := CallR.or (call_max2 hc) (cr_max hc)
theorem c_min (hc : X.calm = true) : CallR X (.builtin "min") (rMinD X.K) := CallR.or (call_min2 hc) (cr_min hc)
theorem s_max : CallS X (rMaxD X.K) maxDs := by
  intro F H vs ds d Q sm ra h q
  unfold maxDs at h
  split at h
  · rename_i i j
    cases h
    obtain ⟨v, w, rfl, r1, r2⟩ := ra.two
    cases r1.int
    cases r2.int
    exact .inl ⟨i, j, rfl, q _ F H (Gr.refl sm) (.int _)⟩
  · rename_i xs
    obtain ⟨ns, hn, h⟩ := bind_ok h
    obtain ⟨hl, rfl⟩ := ite_some h
    have ra0 := ra
    clear ra
    obtain ⟨v, rfl, ra⟩ := ra0.one
    obtain ⟨p, vs, rfl, hp, rp⟩ := ra.list sm
    rw [intsOf_ok hn] at rp
    refine .inr ⟨p, ns, rfl, .inl (.inl (by rw [rp.ints] at hp; exact hp)), hl, fun m h1 h2 => ?_⟩
    rw [maxI_eq h1 h2] at q
    exact q _ F H (Gr.refl sm) (.int _)
  · cases h
theorem s_min : CallS X (rMinD X.K) minDs := by
  intro F H vs ds d Q sm ra h q
  unfold minDs at h
  split at h
  · rename_i i j
    cases h
    obtain ⟨v, w, rfl, r1, r2⟩ := ra.two
    cases r1.int
    cases r2.int
    exact .inl ⟨i, j, rfl, q _ F H (Gr.refl sm) (.int _)⟩
  · rename_i xs
    obtain ⟨ns, hn, h⟩ := bind_ok h
    obtain ⟨hl, rfl⟩ := ite_some h
    have ra0 := ra
    clear ra
    obtain ⟨v, rfl, ra⟩ := ra0.one
    obtain ⟨p, vs, rfl, hp, rp⟩ := ra.list sm
    rw [intsOf_ok hn] at rp
    refine .inr ⟨p, ns, rfl, .inl (.inl (by rw [rp.ints] at hp; exact hp)), hl, fun m h1 h2 => ?_⟩
    rw [minI_eq h1 h2] at q
    exact q _ F H (Gr.refl sm) (.int _)
  · cases h
def abs1 : D → Option D
  | .int i => some (.int (if i < 0 then -i else i))
  | _ => none
theorem s_abs : CallS X (fun xs H Q => ∃ i, xs = [.int i] ∧ Q (.int (if i < 0 then -i else i)) H) (f1 abs1) := by
  intro F H vs ds d Q sm ra h q
  obtain ⟨a, rfl, h⟩ := f1_ok h
  have ra0 := ra
  clear ra
  obtain ⟨v, rfl, ra⟩ := ra0.one
  cases a with
  | int i =>
    cases h
    cases ra.int
    exact ⟨i, rfl, q _ F H (Gr.refl sm) (.int _)⟩
  | _ => cases h
def int1 : D → Option D
  | .int i => some (.int i)
  | .bl k => some (.int (if k then 1 else 0))
  | _ => none
theorem s_int : CallS X (fun xs H Q => (∃ i, xs = [V.int i] ∧ Q (.int i) H) ∨ ∃ k, xs = [V.bl k] ∧ Q (.int (if k then 1 else 0)) H) (f1 int1) := by
  intro F H vs ds d Q sm ra h q
  obtain ⟨a, rfl, h⟩ := f1_ok h
  have ra0 := ra
  clear ra
  obtain ⟨v, rfl, ra⟩ := ra0.one
  cases a with
  | int i =>
    cases h
    cases ra.int
    exact .inl ⟨i, rfl, q _ F H (Gr.refl sm) (.int _)⟩
  | bl i =>
    cases h
    cases ra.bl
    exact .inr ⟨i, rfl, q _ F H (Gr.refl sm) (.int _)⟩
  | _ => cases h
def divmod2 : D → D → Option D
  | .int i, .int j => if 0 < j ∧ j < 1073741824 then some (.tup [.int (i / j), .int (i % j)]) else none
  | _, _ => none
theorem s_divmod : CallS X (fun xs H Q => ∃ i j, xs = [V.int i, V.int j] ∧ CDiv i j ∧ ∀ p, H p = none → Q (.ref p) (upd H p (.tup [.int (i / j), .int (i % j)]))) (f2 divmod2) := by
  intro F H vs ds d Q sm ra h q
  obtain ⟨a, b, rfl, h⟩ := f2_ok h
  have ra0 := ra
  clear ra
  obtain ⟨v, w, rfl, ra, rb⟩ := ra0.two
  cases a with
  | int i =>
    cases b with
    | int j =>
      obtain ⟨c, rfl⟩ := ite_some h
      cases ra.int
      cases rb.int
      exact ⟨i, j, rfl, c, fun p hp => q _ _ _ (Gr.new sm hp) (.tup (.inl (.inl upd_same)) (.cons (.int _) (.cons (.int _) .nil)))⟩
    | _ => cases h
  | _ => cases h
def tuple1 : D → Option D
  | .lst xs => some (.tup xs)
  | .tup xs => some (.tup xs)
  | .arg xs => some (.tup xs)
  | _ => none
theorem s_tuple : CallS X (fun xs H Q => ∃ p ys, xs = [V.ref p] ∧ ((SqL X.K H p ys ∧ ∀ l, H l = none → Q (.ref l) (upd H l (.tup ys))) ∨ (SqT X.K H p ys ∧ Q (.ref p) H))) (f1 tuple1) := by
  intro F H vs ds d Q sm ra h q
  obtain ⟨a, rfl, h⟩ := f1_ok h
  have ra0 := ra
  clear ra
  obtain ⟨v, rfl, ra⟩ := ra0.one
  cases a with
  | lst xs =>
    cases h
    obtain ⟨p, vs, rfl, hp, rp⟩ := ra.list sm
    exact ⟨p, vs, rfl, .inl ⟨.inl (.inl hp), fun l hl => q _ _ _ (Gr.new sm hl) (.tup (.inl (.inl upd_same)) (rp.mono (same_upd (sm.free hl))))⟩⟩
  | tup xs =>
    cases h
    obtain ⟨p, vs, rfl, hp, rp⟩ := ra.tuple sm
    refine ⟨p, vs, rfl, .inr ⟨hp, ?_⟩⟩
    rcases ra with ra | ⟨_, _, c, z, _, rc, e⟩
    · exact q _ F H (Gr.refl sm) ra
    · cases rc <;> exact nomatch e
  | arg xs =>
    cases h
    obtain ⟨p, vs, rfl, hp, rp⟩ := ra.arg sm
    exact ⟨p, vs, rfl, .inl ⟨hp, fun l hl => q _ _ _ (Gr.new sm hl) (.tup (.inl (.inl upd_same)) (rp.mono (same_upd (sm.free hl))))⟩⟩
  | _ => cases h
def list1 : List D → Option Cl
  | [.lst xs] => some (.l xs)
  | [.tup xs] => some (.l xs)
  | [.arg xs] => some (.l xs)
  | _ => none
theorem s_listL : CallLs X (fun xs H Q => ∃ p ys, xs = [V.ref p] ∧ (SqL X.K H p ys ∨ SqT X.K H p ys) ∧ ∀ l, H l = none → Q (.ref l) (upd H l (.lst ys))) list1 := by
  intro F H vs ds c Q sm ra h q
  unfold list1 at h
  split at h
  · cases h
    have ra0 := ra
    clear ra
    obtain ⟨v, rfl, ra⟩ := ra0.one
    obtain ⟨p, vs, rfl, hp, rp⟩ := ra.list sm
    exact ⟨p, vs, rfl, .inl (.inl (.inl hp)), fun l hl => q l _ hl (.l rp)⟩
  · cases h
    have ra0 := ra
    clear ra
    obtain ⟨v, rfl, ra⟩ := ra0.one
    obtain ⟨p, vs, rfl, hp, rp⟩ := ra.tuple sm
    exact ⟨p, vs, rfl, .inr hp, fun l hl => q l _ hl (.l rp)⟩
  · cases h
    have ra0 := ra
    clear ra
    obtain ⟨v, rfl, ra⟩ := ra0.one
    obtain ⟨p, vs, rfl, hp, rp⟩ := ra.arg sm
    exact ⟨p, vs, rfl, .inl hp, fun l hl => q l _ hl (.l rp)⟩
  · cases h
def blsOf : List D → Option (List Bool)
  | [] => some []
  | .bl i :: r => (blsOf r).map (i :: ·)
  | _ => none
theorem blsOf_ok : ∀ {ds : List D} {ns : List Bool}, blsOf ds = some ns → ds = ns.map D.bl
  | [], ns, h => by cases h; rfl
  | .bl i :: r, ns, h => by
    have h' : (blsOf r).map (i :: ·) = some ns := h
    cases q : blsOf r with
    | none => rw [q] at h'; cases h'
    | some ms =>
      rw [q] at h'
      cases h'
      rw [blsOf_ok q]
      rfl
  | .non :: _, _, h => by cases h
  | .int _ :: _, _, h => by cases h
  | .str _ :: _, _, h => by cases h
  | .tup _ :: _, _, h => by cases h
  | .lst _ :: _, _, h => by cases h
  | .dic _ :: _, _, h => by cases h
  | .fn _ :: _, _, h => by cases h
  | .arg _ :: _, _, h => by cases h
theorem blsOf_map (ns : List Bool) : blsOf (ns.map D.bl) = some ns := by
  induction ns with
  | nil => rfl
  | cons i r ih =>
    show (blsOf (r.map D.bl)).map (i :: ·) = some (i :: r)
    rw [ih]
    rfl
theorem RpA.bls {K : PySem.W.Frag} {mg : Str → Option Value} {H : Hp} : ∀ {vs : List V} {is : List Bool}, RpA K mg H vs (is.map D.bl) → vs = is.map V.bl
  | _, [], .nil => rfl
  | _, i :: is, .cons h r => by
    cases h
    rw [RpA.bls (is := is) r]
    rfl
def all1 : D → Option D
  | .lst xs => (blsOf xs).map fun bs => .bl (bs.all _root_.id)
  | _ => none
def any1 : D → Option D
  | .lst xs => (blsOf xs).map fun bs => .bl (bs.any _root_.id)
  | _ => none
theorem s_all : CallS X (rAll X.K) (f1 all1) := by
  intro F H vs ds d Q sm ra h q
  obtain ⟨a, rfl, h⟩ := f1_ok h
  have ra0 := ra
  clear ra
  obtain ⟨v, rfl, ra⟩ := ra0.one
  cases a with
  | lst xs =>
    obtain ⟨ns, hn, rfl⟩ := map_some h
    obtain ⟨p, vs, rfl, hp, rp⟩ := ra.list sm
    rw [blsOf_ok hn] at rp
    exact ⟨p, ns, rfl, .inl (.inl (by rw [rp.bls] at hp; exact hp)), q _ F H (Gr.refl sm) (.bl _)⟩
  | _ => cases h
theorem s_any : CallS X (rAny X.K) (f1 any1) := by
  intro F H vs ds d Q sm ra h q
  obtain ⟨a, rfl, h⟩ := f1_ok h
  have ra0 := ra
  clear ra
  obtain ⟨v, rfl, ra⟩ := ra0.one
  cases a with
  | lst xs =>
    obtain ⟨ns, hn, rfl⟩ := map_some h
    obtain ⟨p, vs, rfl, hp, rp⟩ := ra.list sm
    rw [blsOf_ok hn] at rp
    exact ⟨p, ns, rfl, .inl (.inl (by rw [rp.bls] at hp; exact hp)), q _ F H (Gr.refl sm) (.bl _)⟩
  | _ => cases h
def gcd2 : D → D → Option D
  | .int a, .int b => some (.int ((Nat.gcd a.natAbs b.natAbs : Nat) : Int))
  | _, _ => none
theorem s_gcd : CallS X rGcd (f2 gcd2) := by
  intro F H vs ds d Q sm ra h q
  obtain ⟨a, b, rfl, h⟩ := f2_ok h
  have ra0 := ra
  clear ra
  obtain ⟨v, w, rfl, ra, rb⟩ := ra0.two
  cases a with
  | int i =>
    cases b with
    | int j =>
      cases h
      cases ra.int
      cases rb.int
      exact ⟨i, j, rfl, q _ F H (Gr.refl sm) (.int _)⟩
    | _ => cases h
  | _ => cases h
/-! ### isinstance -/
inductive Ty4 where
  | int | bool | tup | str | list | dict
def Ty4.nm : Ty4 → String
  | .int => "int" | .bool => "bool" | .tup => "tuple" | .str => "str" | .list => "list" | .dict => "dict"
def isiT : Ty4 → D → Option Bool
  | _, .fn _ => none
  | _, .arg _ => none
  | .int, .int _ => some true
  | .int, .bl _ => some true
  | .bool, .bl _ => some true
  | .tup, .tup _ => some true
  | .str, .str _ => some true
  | .list, .lst _ => some true
  | .dict, .dic _ => some true
  | _, _ => some false
def tyD : D → String
  | .non => "NoneType" | .bl _ => "bool" | .int _ => "int" | .str _ => "str" | .tup _ => "tuple" | .lst _ => "list" | .dic _ => "dict" | .fn _ => "function" | .arg _ => "list"
theorem kit_all (t : Ty4) (d : D) (b : Bool) (h : isiT t d = some b) : kitB (tyD d) t.nm = some b := by
  cases t <;> cases d <;> first
    | (cases h; done)
    | (cases h; simp only [tyD, Ty4.nm]; decide +kernel)
theorem ty_of {F H : Hp} {v : V} {d : D} {b : Bool} {t : Ty4} (sm : Same F H) (r : RpB X.K X.mg F H v d) (h : isiT t d = some b) : TyX X.K H v (.type (tyD d)) := by
  cases d with
  | non => cases r.non; exact .base .non
  | bl x => cases r.bl; exact .base (.bl x)
  | int i => cases r.int; exact .base (.int i)
  | str x => cases r.str; exact .base (.str x)
  | tup xs =>
    obtain ⟨p, vs, rfl, hp, rp⟩ := r.tuple sm
    rcases hp with (hp | ⟨o, hp⟩) | ⟨o, its, n, h1, h2, _⟩
    · exact .base (.tup hp)
    · exact .fTuple hp
    · exact .kTuple h1 h2
  | lst xs =>
    obtain ⟨p, vs, rfl, hp, rp⟩ := r.list sm
    exact .base (.lst hp)
  | dic xs =>
    obtain ⟨p, vs, rfl, hp, rp⟩ := r.dict sm
    exact .base (.dK hp)
  | fn n => cases t <;> cases h
  | arg n => cases t <;> cases h
theorem P.isi (t : Ty4) {y : Expr} {n : Str} {np : Pos} {fa : Ev → R D} (hm : X.mg "isinstance" = none) (hmt : X.mg n = none) (hv : bootBuiltins n = some (.type t.nm)) (ha : B X W y fa) (hg : Gl X "isinstance" := by rfl) (hgt : Gl X n := by rfl) (hnn : n ≠ "__name__" := by decide) (hnd : (n == ("__debug__" : Str)) = false := by decide)
    (hv0 : bootBuiltins "isinstance" = some (.builtin "isinstance") := by decide +kernel)
    (hs1 : starEach [y, .Name n np] X.env = (false, eval y X.env) :: starEach [.Name n np] X.env := by rfl) (hs2 : starEach [.Name n np] X.env = (false, eval (.Name n np) X.env) :: starEach [] X.env := by rfl)
    (hpl : (backTo pos (starEach [.Name n np] X.env)).any (·.1) = false := by rfl) : P X W (.Call (.Name "isinstance" p) [y, .Name n np] [] pos) (fun e => fa e >>= fun d => R.ofO ((isiT t d).map D.bl)) :=
  ⟨PE_mono (pe_callB call_isi hg hm hv0 (pa_cons ha.pe (pa_cons (pe_bltn (v := .ty t.nm) hgt hmt hv rfl hnn hnd) pa_nil hs2) hs1) (by decide) (by decide) hs1 hpl) fun σ H Q ⟨g, F, ev, rl, o⟩ => ⟨g, F, ev, rl, o.bind.imp fun d o v F1 H1 g1 rp => by
    obtain ⟨b0, hb0, k⟩ := Ot.ofO o
    obtain ⟨b, hb, rfl⟩ := map_some hb0
    exact ⟨v, .ty t.nm, .type (tyD d), .type t.nm, b, rfl, .ty _, ty_of g1.fh rp hb, kit_ty (kit_all t d b hb), k _ F1 H1 g1 (.bl _)⟩⟩⟩
/-! ### list.index -/
def flatD : D → Bool
  | .non | .bl _ | .int _ | .str _ => true
  | _ => false
theorem Rp.flatV {F : Hp} {v : V} {d : D} (r : Rp X.K X.mg F v d) (h : flatD d = true) : flatV v = true := by
  cases r <;> first
    | rfl
    | exact absurd (show false = true from h) Bool.false_ne_true
theorem eqV_conv {F : Hp} {v w : V} {a b : D} (ra : Rp X.K X.mg F v a) (rb : Rp X.K X.mg F w b) (ha : flatD a = true) (hb : flatD b = true) : eqV v w = eqv a b := by
  cases ra <;> first
    | exact absurd (show false = true from ha) Bool.false_ne_true
    | (cases rb <;> first
        | exact absurd (show false = true from hb) Bool.false_ne_true
        | (simp [eqV, eqv, conv, PyData.eqv]))
theorem RpA.flatV {F : Hp} : ∀ {vs : List V} {ds : List D}, RpA X.K X.mg F vs ds → ds.all flatD = true → vs.all L2.flatV = true
  | _, _, .nil, _ => rfl
  | _, _, .cons h r, c => by
    rw [List.all_cons, Bool.and_eq_true] at c ⊢
    exact ⟨h.flatV c.1, RpA.flatV r c.2⟩
def findD (y : D) : List D → Option Nat
  | [] => none
  | d :: ds => if eqv d y = true then some 0 else (findD y ds).map (· + 1)
theorem findD_ok {y : D} : ∀ {ds : List D} {j : Nat}, findD y ds = some j → (∃ d, ds[j]? = some d ∧ eqv d y = true) ∧ ∀ m d, m < j → ds[m]? = some d → eqv d y = false
  | d :: ds, j, h => by
    unfold findD at h
    split at h
    · rename_i c
      cases h
      exact ⟨⟨d, rfl, c⟩, fun m _ hm => absurd hm (Nat.not_lt_zero m)⟩
    · rename_i c
      obtain ⟨k, hk, rfl⟩ := map_some h
      obtain ⟨⟨d', h1, h2⟩, h3⟩ := findD_ok hk
      refine ⟨⟨d', by simpa using h1, h2⟩, fun m z hm hz => ?_⟩
      cases m with
      | zero =>
        cases hz
        exact Bool.not_eq_true _ ▸ c
      | succ m => exact h3 m z (by omega) (by simpa using hz)
def index2 : D → D → Option D
  | .lst xs, y => if (flatD y && xs.all flatD) = true then (findD y xs).map fun (j : Nat) => D.int (j : Int) else none
  | _, _ => none
def isLst : D → Bool
  | .lst _ => true
  | _ => false
theorem P.index {z : Expr} {fa fb : Ev → R D} (hp : PE X z (tBM X.K "list" (rIndex X.K) (tB X W fa) (tCons (tB X W fb) tNil))) : P X W z (fun e => fa e >>= fun a => R.chk (isLst a) (fb e >>= fun b => .ofO (index2 a b))) := ⟨PE_mono hp fun σ H Q ⟨g, F, ev, rl, o⟩ =>
  ⟨g, F, ev, rl, o.bind.imp fun a o v F1 H1 g1 p1 => by
    obtain ⟨il, o⟩ := Ot.chk o
    cases a with
    | lst xs =>
      obtain ⟨p, vs, rfl, hp, rp⟩ := p1.list g1.fh
      refine ⟨tyV_list hp, g, F1, ev, rl.ext g1, (o.up g1.ff).bind.imp fun b o w F2 H2 g2 p2 => ?_⟩
      obtain ⟨d, hd, k⟩ := Ot.ofO o
      obtain ⟨c, hd⟩ : (flatD b && xs.all flatD) = true ∧ (findD b xs).map (fun (j : Nat) => D.int (j : Int)) = some d := by
        have hd' : (if (flatD b && xs.all flatD) = true then (findD b xs).map (fun (j : Nat) => D.int (j : Int)) else none) = some d := hd
        split at hd'
        · rename_i c
          exact ⟨c, hd'⟩
        · cases hd'
      rw [Bool.and_eq_true] at c
      obtain ⟨j, hj, rfl⟩ := map_some hd
      obtain ⟨⟨d', h1, h2⟩, h3⟩ := findD_ok hj
      have rp2 := rp.mono g2.ff
      obtain ⟨z', hz, rz⟩ := rp2.get h1
      have fd : flatD d' = true := List.all_eq_true.mp c.2 d' (List.mem_of_getElem? h1)
      have rb : Rp X.K X.mg F2 w b := by
        rcases p2 with p2 | ⟨_, _, c', _, _, rc, e⟩
        · exact p2
        · subst e
          cases c' <;> exact absurd (show false = true from c.1) Bool.false_ne_true
      refine ⟨p, vs, w, j, z', rfl, rfl, .inl (.inl (g2.hh _ _ hp)), rb.flatV c.1, RpA.flatV rp2 c.2, hz, by rw [eqV_conv rz rb fd c.1]; exact h2, fun m zz hm hzz => ?_, k _ F2 H2 (g1.trans g2) (.int _)⟩
      obtain ⟨dd, hdd, rdd⟩ := rp2.getV hzz
      rw [eqV_conv rdd rb (List.all_eq_true.mp c.2 dd (List.mem_of_getElem? hdd)) c.1]
      exact h3 m dd hm hdd
    | _ => exact absurd (show false = true from il) Bool.false_ne_true⟩⟩
end
end DL


namespace DL
open PySem PySem.Spec PyProof.Rows L2

/-! ### what the printed texts name besides -/
/-- turns of a while -/
def fuel : Nat := 1000000
section
variable {X : Cx} {W : WX} {x y z tg a b c : Expr} {xs : List Expr} {pos p : Pos} {st : Stmt} {rest : List Stmt}
theorem P.globE {n : Str} {v : V} {d : D} (hm : ∃ u, X.mg n = some u ∧ RelV v u) (h : ∀ F, Rp X.K X.mg F v d) (hg : Gl X n := by rfl) (hd : (n == ("__debug__" : Str)) = false := by decide) : P X W (.Name n pos) (cst d) := by
  obtain ⟨u, hm, r⟩ := hm
  exact P.glob hm r h hg hd
/-- range(i, j, k) -/
def rng3 (lo k : Int) (n : Nat) : List D := (List.range n).map fun (m : Nat) => .int (lo + (m : Int) * k)
theorem rng3_length (lo k : Int) (n : Nat) : (rng3 lo k n).length = n := by
  unfold rng3
  rw [List.length_map, List.length_range]
theorem rng3_get (lo k : Int) (n i : Nat) (h : i < n) : (rng3 lo k n)[i]? = some (.int (lo + i * k)) := by
  unfold rng3
  rw [List.getElem?_map, List.getElem?_range h]
  rfl
theorem its_rng3 {K : PySem.W.Frag} {mg : Str → Option Value} {F : Hp} (lo k : Int) (n : Nat) : ItS K mg (Itc lo k n) F (rng3 lo k n) where
  go := fun i H s hi => by
    rw [rng3_length] at hi
    exact hi
  yld := fun i F1 H x H' s1 s2 hi ⟨e, q⟩ => by
    rw [rng3_length] at hi
    subst e q
    exact ⟨F1, _, rng3_get lo k n i hi, Gr.refl s2, .int _⟩
  stop := fun i H s hi => by
    rw [rng3_length] at hi
    exact hi
def rgN (i j k : Int) : Nat := (Builtin.Range.rangeSize i j k).toNat
theorem rangeSize_nn (i j k : Int) (hk : k ≠ 0) : 0 ≤ Builtin.Range.rangeSize i j k := by
  unfold Builtin.Range.rangeSize
  split
  · split
    · have := Int.ediv_nonneg (show 0 ≤ j - i - 1 by omega) (show 0 ≤ k by omega)
      omega
    · omega
  · split
    · have := Int.ediv_nonneg (show 0 ≤ i - j - 1 by omega) (show 0 ≤ -k by omega)
      omega
    · omega
def rng3Of : D → D → D → R (List D)
  | .int i, .int j, .int k => R.chk (decide (k ≠ 0) && decide (k.natAbs < 1073741824) && Builtin.Range.small i j k) (.ok (rng3 i k (rgN i j k)))
  | _, _, _ => .no
theorem Ot.three {g : Gd} {F : Hp} {σ : L2.St} {e : Ev} {fa fb fc : Ev → R D} {q : D → D → D → Prop} (o : Ot X W g F σ e (fa e) fun a => Ot X W g F σ e (fb e) fun b => Ot X W g F σ e (fc e) (q a b)) : Ot X W g F σ e (conA fa (conA fb (conA fc nilA)) e) fun ds => ∃ a b c, ds = [a, b, c] ∧ q a b c := by
  unfold conA nilA
  cases z : fa e with
  | ok a =>
    rw [z] at o
    have o' : Ot X W g F σ e (fb e) _ := o
    cases z2 : fb e with
    | ok b =>
      rw [z2] at o'
      have o'' : Ot X W g F σ e (fc e) _ := o'
      cases z3 : fc e with
      | ok c => rw [z3] at o''; exact ⟨a, b, c, rfl, o''⟩
      | ex c p => rw [z3] at o''; exact o''
      | no => rw [z3] at o''; exact o''
    | ex c p => rw [z2] at o'; exact o'
    | no => rw [z2] at o'; exact o'
  | ex c p => rw [z] at o; exact o
  | no => rw [z] at o; exact o
theorem I.rng3 {fa fb fc : Ev → R D} (hm : X.mg "range" = none) (ha : P X W a fa) (hb : P X W b fb) (hc : P X W c fc) (hg : Gl X "range" := by rfl) (hs : starEach [a, b, c] X.env = (false, eval a X.env) :: starEach [b, c] X.env := by rfl) (hs2 : starEach [b, c] X.env = (false, eval b X.env) :: starEach [c] X.env := by rfl) (hs3 : starEach [c] X.env = [(false, eval c X.env)] := by rfl) (hpl : (backTo pos (starEach [b, c] X.env)).any (·.1) = false := by rfl) :
    I X W tg (.Call (.Name "range" p) [a, b, c] [] pos) (fun e => fa e >>= fun i => fb e >>= fun j => fc e >>= fun k => rng3Of i j k) := ⟨PI_mono (pi_range3 hg hm (Ps.cons ha (Ps.cons hb (Ps.cons hc Ps.nil hs3) hs2) hs).pa hs hpl) fun σ H Q ⟨g, F, e, r, o⟩ => ⟨g, F, e, r, (Ot.three (o.bind.imp fun a o => o.bind.imp fun b o => o.bind)).imp fun ds ⟨a, b, c, e0, o⟩ vs F1 H1 g1 rp => by
  subst e0
  cases rp with
  | cons h r =>
    cases r with
    | cons h2 r =>
    cases r with
    | cons h3 r =>
    cases r
    cases h with
    | int i =>
      cases h2 with
      | int j =>
        cases h3 with
        | int k =>
          obtain ⟨c, o⟩ := Ot.chk o
          rw [Bool.and_eq_true, Bool.and_eq_true] at c
          have c1 := of_decide_eq_true c.1.1
          have c2 := of_decide_eq_true c.1.2
          refine ⟨i, j, k, rgN i j k, rfl, ⟨c1, c2, c.2, ?_⟩, o _ F1 H1 g1 (its_rng3 _ _ _)⟩
          have := rangeSize_nn i j k c1
          unfold rgN
          omega
        | _ => exact (show False from o).elim
      | _ => exact (show False from o).elim
    | _ => exact (show False from o).elim⟩⟩
def addII : D → D → Option D := fun a b => match a, b with
  | .int i, .int j => some (.int (i + j))
  | _, _ => none
theorem s_addII : OpS X (ipI fun i j => i + j) addII := by
  intro F H v w a b d Q sm ra rb h q
  cases a with
  | int i =>
    cases b with
    | int j =>
      cases h
      cases ra.int
      cases rb.int
      exact ⟨i, j, rfl, rfl, q _ F H (Gr.refl sm) (.int _)⟩
    | _ => cases h
  | _ => cases h

/-! #### names for what is printed -/
def callD (φ : List D → R D) (fs : Ev → R (List D)) : Ev → R D := fun e => fs e >>= φ
def callBD (φ : List D → R D) (fs : Ev → R (List D)) : Ev → R D := fun e => fs e >>= fun ds => flatR (φ ds)
def callM (φ : List D → R D) (fs : Ev → R (List D × Ev)) : Ev → R (D × Ev) := fun e => fs e >>= fun ds => φ ds.1 >>= fun d => .ok (d, ds.2)
def isiP (t : Ty4) (f : Ev → R D) : Ev → R D := fun e => f e >>= fun d => R.ofO ((isiT t d).map D.bl)
def indP (fa fb : Ev → R D) : Ev → R D := fun e => fa e >>= fun a => R.chk (isLst a) (fb e >>= fun b => .ofO (index2 a b))
def opL (f : D → D → Option Cl) (fa fb : Ev → R D) : Ev → R Cl := fun e => fa e >>= fun a => fb e >>= fun b => .ofO (f a b)
def itR1 (f : Ev → R D) : Ev → R (List D) := fun e => f e >>= rng1Of
def itR2 (f g : Ev → R D) : Ev → R (List D) := fun e => f e >>= fun i => g e >>= fun j => rng2Of i j
def itR3 (f g h : Ev → R D) : Ev → R (List D) := fun e => f e >>= fun i => g e >>= fun j => h e >>= fun k => rng3Of i j k
def upI (f : Ev → R (List D)) : Ev → R (List D × Ev) := fun e => f e >>= fun d => .ok (d, e)
def itR1M (f : Ev → R (D × Ev)) : Ev → R (List D × Ev) := fun e => f e >>= fun d => rng1Of d.1 >>= fun l => .ok (l, d.2)
def itM (f : Ev → R (D × Ev)) : Ev → R (List D × Ev) := fun e => f e >>= fun d => seqOf d.1 >>= fun l => .ok (l, d.2)
def upT (f : Ev → R Bool) : Ev → R (Bool × Ev) := fun e => f e >>= fun b => .ok (b, e)
def frzS (i : Nat) (f : Ev → O) : Ev → O := fun e => f (frz i e)
def tsM : Ev → R (Bool × Ev) := fun e => .ok (true, e)
def tsT : Ev → R Bool := fun _ => .ok true
def poN : Ev → R (Option Int) := fun _ => .ok none
def rtN : Ev → O := fun e => .rt .non e
def nvr : Ev → O := fun _ => .no

/-! #### several names at once, stored from the right -/
def set2 (i j : Nat) : List D → Ev → Option Ev := fun ds e => match ds with
  | [a, b] => (setV i a e).bind (setV j b)
  | _ => none
def set3 (i j k : Nat) : List D → Ev → Option Ev := fun ds e => match ds with
  | [a, b, c] => ((setV i a e).bind (setV j b)).bind (setV k c)
  | _ => none
def par2 (i j : Nat) (f : Ev → R (List D)) : Ev → O := fun e => (f e).o e fun ds => .ofO (set2 i j ds e)
def par3 (i j k : Nat) (f : Ev → R (List D)) : Ev → O := fun e => (f e).o e fun ds => .ofO (set3 i j k ds e)
def parM2 (i j : Nat) (f : Ev → R (List D × Ev)) : Ev → O := fun e => (f e).on fun ds => .ofO (set2 i j ds.1 ds.2)
def parM3 (i j k : Nat) (f : Ev → R (List D × Ev)) : Ev → O := fun e => (f e).on fun ds => .ofO (set3 i j k ds.1 ds.2)
def parL2 (i j : Nat) (fl : Ev → R Cl) (f : Ev → R (List D)) : Ev → O := fun e => (fl e).o e fun c => (f e).o e fun ds => match ds with
  | [b] => .ofO ((setO i c e).bind (setV j b))
  | _ => .no
def parL3 (i j k : Nat) (fl : Ev → R Cl) (f : Ev → R (List D)) : Ev → O := fun e => (fl e).o e fun c => (f e).o e fun ds => match ds with
  | [a, b] => .ofO (((setO i c e).bind (setV j a)).bind (setV k b))
  | _ => .no
theorem set2_ok {K : PySem.W.Frag} {mg : Str → Option Value} {g : Gd} {F H : Hp} {σ : L2.St} {e e' : Ev} {i j : Nat} {vs : List V} {ds : List D} (r : Rel K mg g F σ H e) (rp : RpA K mg F vs ds) (h : set2 i j ds e = some e') : ∃ v w, vs = [v, w] ∧ Rel K mg g F ((σ.set i (some v)).set j (some w)) H e' := by
  match ds, rp, h with
  | [a, b], .cons r1 (.cons r2 .nil), h =>
    obtain ⟨e1, q1, q2⟩ := bind_ok (show (setV i a e).bind (setV j b) = some e' from h)
    obtain ⟨h1, h2, rfl⟩ := setV_ok q1
    obtain ⟨h3, h4, rfl⟩ := setV_ok q2
    exact ⟨_, _, rfl, (r.setIm r1 h1 h2).setIm r2 h3 h4⟩
theorem set3_ok {K : PySem.W.Frag} {mg : Str → Option Value} {g : Gd} {F H : Hp} {σ : L2.St} {e e' : Ev} {i j k : Nat} {vs : List V} {ds : List D} (r : Rel K mg g F σ H e) (rp : RpA K mg F vs ds) (h : set3 i j k ds e = some e') : ∃ u v w, vs = [u, v, w] ∧ Rel K mg g F (((σ.set i (some u)).set j (some v)).set k (some w)) H e' := by
  match ds, rp, h with
  | [a, b, c], .cons r1 (.cons r2 (.cons r3 .nil)), h =>
    obtain ⟨e2, q1, q3⟩ := bind_ok (show ((setV i a e).bind (setV j b)).bind (setV k c) = some e' from h)
    obtain ⟨e1, q1, q2⟩ := bind_ok q1
    obtain ⟨h1, h2, rfl⟩ := setV_ok q1
    obtain ⟨h3, h4, rfl⟩ := setV_ok q2
    obtain ⟨h5, h6, rfl⟩ := setV_ok q3
    exact ⟨_, _, _, rfl, ((r.setIm r1 h1 h2).setIm r2 h3 h4).setIm r3 h5 h6⟩
section
variable {n1 n2 n3 : Str} {px py pz pt pt2 : Pos} {kt k2 : Nat} {f : Ev → R (List D)} {fm : Ev → R (List D × Ev)} {fl : Ev → R Cl}
theorem S.par2 (i j : Nat) (hc : X.calm = true) (hN : X.N.Nodup) (hij : i ≠ j) (h : Ps X W [a, b] f) (hi : X.N[i]? = some n1 := by rfl) (hj : X.N[j]? = some n2 := by rfl)
    (hx : X.env.scope.names.lookup n1 = some .local := by rfl) (hy : X.env.scope.names.lookup n2 = some .local := by rfl)
    (hw : swappedStores [.Tuple [.Name n1 px, .Name n2 py] kt pt] (.Tuple [a, b] k2 pt2) X.env = pure (some [n1, n2]) := by rfl)
    (hs : swapsWithSole [.Tuple [.Name n1 px, .Name n2 py] kt pt] (.Tuple [a, b] k2 pt2) pos.line X.env = pure false := by rfl) :
    S X W (.Assign [.Tuple [.Name n1 px, .Name n2 py] kt pt] (.Tuple [a, b] k2 pt2) pos) (DL.par2 i j f) := ⟨PS_mono (ps_par hc hN hi hj hij hx hy h.pa hw hs) fun D σ H ⟨g, F, e, r, o⟩ => ⟨g, F, e, r, (Os.o o).imp fun ds o vs F1 H1 g1 rp => by
  obtain ⟨e', he, k⟩ := Os.ofO o
  obtain ⟨v, w, rfl, r'⟩ := set2_ok (r.ext g1) rp he
  exact ⟨v, w, rfl, k _ F1 H1 r' g1.ff⟩⟩⟩
theorem S.parM2 (i j : Nat) (hc : X.calm = true) (hN : X.N.Nodup) (hij : i ≠ j) (h : Ms X [a, b] fm) (hi : X.N[i]? = some n1 := by rfl) (hj : X.N[j]? = some n2 := by rfl)
    (hx : X.env.scope.names.lookup n1 = some .local := by rfl) (hy : X.env.scope.names.lookup n2 = some .local := by rfl)
    (hw : swappedStores [.Tuple [.Name n1 px, .Name n2 py] kt pt] (.Tuple [a, b] k2 pt2) X.env = pure (some [n1, n2]) := by rfl)
    (hs : swapsWithSole [.Tuple [.Name n1 px, .Name n2 py] kt pt] (.Tuple [a, b] k2 pt2) pos.line X.env = pure false := by rfl) :
    S X W (.Assign [.Tuple [.Name n1 px, .Name n2 py] kt pt] (.Tuple [a, b] k2 pt2) pos) (DL.parM2 i j fm) := ⟨PS_mono (ps_par hc hN hi hj hij hx hy h.pa hw hs) fun D σ H ⟨g, F, e, r, o⟩ => ⟨g, F, e, r, (Os.on o).imp fun ds o vs F1 H1 r1 s1 _ rp => by
  obtain ⟨e', he, k⟩ := Os.ofO o
  obtain ⟨v, w, rfl, r'⟩ := set2_ok r1 rp he
  exact ⟨v, w, rfl, k _ F1 H1 r' s1⟩⟩⟩
theorem S.parL2 (i j : Nat) (hc : X.calm = true) (hN : X.N.Nodup) (hij : i ≠ j) (hl : L X W a fl) (h : Ps X W [b] f) (hi : X.N[i]? = some n1 := by rfl) (hj : X.N[j]? = some n2 := by rfl)
    (hx : X.env.scope.names.lookup n1 = some .local := by rfl) (hy : X.env.scope.names.lookup n2 = some .local := by rfl)
    (hst : starEach [a, b] X.env = (false, eval a X.env) :: starEach [b] X.env := by rfl)
    (hw : swappedStores [.Tuple [.Name n1 px, .Name n2 py] kt pt] (.Tuple [a, b] k2 pt2) X.env = pure (some [n1, n2]) := by rfl)
    (hs : swapsWithSole [.Tuple [.Name n1 px, .Name n2 py] kt pt] (.Tuple [a, b] k2 pt2) pos.line X.env = pure false := by rfl) :
    S X W (.Assign [.Tuple [.Name n1 px, .Name n2 py] kt pt] (.Tuple [a, b] k2 pt2) pos) (DL.parL2 i j fl f) := ⟨PS_mono (ps_par hc hN hi hj hij hx hy (pa_cons hl.pe h.pa hst) hw hs) fun D σ H ⟨g, F, e, r, o⟩ => ⟨g, F, e, r, (Os.o o).imp fun c o ad F1 H1 g1 fr hn => ⟨g, F1, e, r.ext g1, ((Os.o o).up g1.ff).imp fun ds o vs F2 H2 g2 rp => by
  match ds, rp, o with
  | [d], .cons r2 .nil, o =>
    obtain ⟨e', he, k⟩ := Os.ofO o
    obtain ⟨e1, q1, q2⟩ := bind_ok he
    obtain ⟨h1, h2, rfl⟩ := setO_ok q1
    obtain ⟨h3, h4, rfl⟩ := setV_ok q2
    exact ⟨_, _, rfl, k _ F2 H2 ((((r.ext g1).ext g2).setOw (fr.ext g2) h1 h2).setIm r2 h3 h4) (g1.ff.trans g2.ff)⟩
  | [], _, o => exact (show False from o).elim
  | _ :: _ :: _, _, o => exact (show False from o).elim⟩⟩⟩
theorem S.par3 (i j l : Nat) (hc : X.calm = true) (hN : X.N.Nodup) (hij : i ≠ j ∧ i ≠ l ∧ j ≠ l) (h : Ps X W [a, b, c] f) (hi : X.N[i]? = some n1 := by rfl) (hj : X.N[j]? = some n2 := by rfl) (hl : X.N[l]? = some n3 := by rfl)
    (hx : X.env.scope.names.lookup n1 = some .local := by rfl) (hy : X.env.scope.names.lookup n2 = some .local := by rfl) (hz : X.env.scope.names.lookup n3 = some .local := by rfl)
    (hw : swappedStores [.Tuple [.Name n1 px, .Name n2 py, .Name n3 pz] kt pt] (.Tuple [a, b, c] k2 pt2) X.env = pure (some [n1, n2, n3]) := by rfl)
    (hs : swapsWithSole [.Tuple [.Name n1 px, .Name n2 py, .Name n3 pz] kt pt] (.Tuple [a, b, c] k2 pt2) pos.line X.env = pure false := by rfl) :
    S X W (.Assign [.Tuple [.Name n1 px, .Name n2 py, .Name n3 pz] kt pt] (.Tuple [a, b, c] k2 pt2) pos) (DL.par3 i j l f) := ⟨PS_mono (ps_par3 hc hN hi hj hl hij.1 hij.2.1 hij.2.2 hx hy hz h.pa hw hs) fun D σ H ⟨g, F, e, r, o⟩ => ⟨g, F, e, r, (Os.o o).imp fun ds o vs F1 H1 g1 rp => by
  obtain ⟨e', he, k⟩ := Os.ofO o
  obtain ⟨u, v, w, rfl, r'⟩ := set3_ok (r.ext g1) rp he
  exact ⟨u, v, w, rfl, k _ F1 H1 r' g1.ff⟩⟩⟩
theorem S.parM3 (i j l : Nat) (hc : X.calm = true) (hN : X.N.Nodup) (hij : i ≠ j ∧ i ≠ l ∧ j ≠ l) (h : Ms X [a, b, c] fm) (hi : X.N[i]? = some n1 := by rfl) (hj : X.N[j]? = some n2 := by rfl) (hl : X.N[l]? = some n3 := by rfl)
    (hx : X.env.scope.names.lookup n1 = some .local := by rfl) (hy : X.env.scope.names.lookup n2 = some .local := by rfl) (hz : X.env.scope.names.lookup n3 = some .local := by rfl)
    (hw : swappedStores [.Tuple [.Name n1 px, .Name n2 py, .Name n3 pz] kt pt] (.Tuple [a, b, c] k2 pt2) X.env = pure (some [n1, n2, n3]) := by rfl)
    (hs : swapsWithSole [.Tuple [.Name n1 px, .Name n2 py, .Name n3 pz] kt pt] (.Tuple [a, b, c] k2 pt2) pos.line X.env = pure false := by rfl) :
    S X W (.Assign [.Tuple [.Name n1 px, .Name n2 py, .Name n3 pz] kt pt] (.Tuple [a, b, c] k2 pt2) pos) (DL.parM3 i j l fm) := ⟨PS_mono (ps_par3 hc hN hi hj hl hij.1 hij.2.1 hij.2.2 hx hy hz h.pa hw hs) fun D σ H ⟨g, F, e, r, o⟩ => ⟨g, F, e, r, (Os.on o).imp fun ds o vs F1 H1 r1 s1 _ rp => by
  obtain ⟨e', he, k⟩ := Os.ofO o
  obtain ⟨u, v, w, rfl, r'⟩ := set3_ok r1 rp he
  exact ⟨u, v, w, rfl, k _ F1 H1 r' s1⟩⟩⟩
theorem S.parL3 (i j l : Nat) (hc : X.calm = true) (hN : X.N.Nodup) (hij : i ≠ j ∧ i ≠ l ∧ j ≠ l) (hL : L X W a fl) (h : Ps X W [b, c] f) (hi : X.N[i]? = some n1 := by rfl) (hj : X.N[j]? = some n2 := by rfl) (hl : X.N[l]? = some n3 := by rfl)
    (hx : X.env.scope.names.lookup n1 = some .local := by rfl) (hy : X.env.scope.names.lookup n2 = some .local := by rfl) (hz : X.env.scope.names.lookup n3 = some .local := by rfl)
    (hst : starEach [a, b, c] X.env = (false, eval a X.env) :: starEach [b, c] X.env := by rfl)
    (hw : swappedStores [.Tuple [.Name n1 px, .Name n2 py, .Name n3 pz] kt pt] (.Tuple [a, b, c] k2 pt2) X.env = pure (some [n1, n2, n3]) := by rfl)
    (hs : swapsWithSole [.Tuple [.Name n1 px, .Name n2 py, .Name n3 pz] kt pt] (.Tuple [a, b, c] k2 pt2) pos.line X.env = pure false := by rfl) :
    S X W (.Assign [.Tuple [.Name n1 px, .Name n2 py, .Name n3 pz] kt pt] (.Tuple [a, b, c] k2 pt2) pos) (DL.parL3 i j l fl f) := ⟨PS_mono (ps_par3 hc hN hi hj hl hij.1 hij.2.1 hij.2.2 hx hy hz (pa_cons hL.pe h.pa hst) hw hs) fun D σ H ⟨g, F, e, r, o⟩ => ⟨g, F, e, r, (Os.o o).imp fun c o ad F1 H1 g1 fr hn => ⟨g, F1, e, r.ext g1, ((Os.o o).up g1.ff).imp fun ds o vs F2 H2 g2 rp => by
  match ds, rp, o with
  | [d, d2], .cons r2 (.cons r3 .nil), o =>
    obtain ⟨e', he, k⟩ := Os.ofO o
    obtain ⟨e2, q1, q3⟩ := bind_ok he
    obtain ⟨e1, q1, q2⟩ := bind_ok q1
    obtain ⟨h1, h2, rfl⟩ := setO_ok q1
    obtain ⟨h3, h4, rfl⟩ := setV_ok q2
    obtain ⟨h5, h6, rfl⟩ := setV_ok q3
    exact ⟨_, _, _, rfl, k _ F2 H2 (((((r.ext g1).ext g2).setOw (fr.ext g2) h1 h2).setIm r2 h3 h4).setIm r3 h5 h6) (g1.ff.trans g2.ff)⟩
  | [], _, o => exact (show False from o).elim
  | [_], _, o => exact (show False from o).elim
  | _ :: _ :: _ :: _, _, o => exact (show False from o).elim⟩⟩⟩
end

/-! #### tests that may change what is owned -/
def asBM (f : Ev → R (D × Ev)) : Ev → R (Bool × Ev) := fun e => f e >>= fun d => match d.1 with
  | .bl b => .ok (b, d.2)
  | _ => .no
theorem tM_tB {f : Ev → R (D × Ev)} (σ : L2.St) (H : Hp) (Q : Bool → Hp → Prop) : tTM X (asBM f) σ H Q → L2.tB (tM X f) σ H Q := fun ⟨g, F, e, r, o⟩ => ⟨g, F, e, r, o.bind'.imp fun d o v F1 H1 r1 s1 k1 p1 => by
  obtain ⟨d, e1⟩ := d
  cases d with
  | bl b =>
    cases p1
    exact ⟨b, rfl, o F1 H1 r1 s1 k1⟩
  | _ => exact (show False from o).elim⟩
theorem TM.val {f : Ev → R (D × Ev)} (h : M X x f) (he : ∀ whole, isTrue x X.env whole = (do let v ← whole; standAt x.pos; holding [v] (truthy v)) := by intro _; rfl) : TM X x (asBM f) := ⟨PT_mono (pt_val h.pe he) tM_tB⟩
theorem TM.cmp {op : CmpOp} {f : D → D → Option D} {fa fb : Ev → R (D × Ev)} {r : R2} (ho : OpR X (compareOp op) r) (hs : OpS X r f) (ha : M X x fa) (hb : M X y fb) (hm : behindInMarks op y = false := by first | exact nomark _ | rfl) : TM X (.Compare x [op] [y] pos) (asBM (binM f fa fb)) := ⟨PT_mono (pt_cmpR ho ha.pe hb.pe hm) fun σ H Q q => by
  have q1 := tM_tB σ H Q q
  exact binM_mono hs σ H _ q1⟩
def andTM (a b : Ev → R (Bool × Ev)) : Ev → R (Bool × Ev) := fun e => a e >>= fun c => if c.1 = true then b c.2 else .ok (false, c.2)
def orTM (a b : Ev → R (Bool × Ev)) : Ev → R (Bool × Ev) := fun e => a e >>= fun c => if c.1 = true then .ok (true, c.2) else b c.2
structure TWM (X : Cx) (x : Expr) (f : Ev → R (Bool × Ev)) : Prop where
  pw : PW X x (tTM X f)
section
variable {fa fb : Ev → R (Bool × Ev)} {re : List Expr}
theorem TWM.go (h : TWM X x fa) : TM X x fa := ⟨h.pw.pt⟩
theorem TWM.and1 (h : TM X x fa) : TWM X (.BoolOp .And [x] pos) fa := ⟨pw_and1 h.pt⟩
theorem TWM.or1 (h : TM X x fa) : TWM X (.BoolOp .Or [x] pos) fa := ⟨pw_or1 h.pt⟩
theorem TWM.and (h : TM X x fa) (h2 : TWM X (.BoolOp .And (y :: re) pos) fb) : TWM X (.BoolOp .And (x :: y :: re) pos) (andTM fa fb) := ⟨PW_mono (pw_and h.pt h2.pw) fun σ H Q ⟨g, F, e, rl, o⟩ => ⟨g, F, e, rl, o.bind'.imp fun c o F1 H1 r1 s1 k1 => by
  obtain ⟨c, e1⟩ := c
  cases c with
  | true => exact ⟨g, F1, e1, r1, On.imp (show On (fb e1) _ from o) fun b k F2 H2 r2 s2 k2 => k F2 H2 r2 (s1.trans s2) (k1.trans k2)⟩
  | false => exact (show ∀ F' H', _ from o) F1 H1 r1 s1 k1⟩⟩
theorem TWM.or (h : TM X x fa) (h2 : TWM X (.BoolOp .Or (y :: re) pos) fb) : TWM X (.BoolOp .Or (x :: y :: re) pos) (orTM fa fb) := ⟨PW_mono (pw_or h.pt h2.pw) fun σ H Q ⟨g, F, e, rl, o⟩ => ⟨g, F, e, rl, o.bind'.imp fun c o F1 H1 r1 s1 k1 => by
  obtain ⟨c, e1⟩ := c
  cases c with
  | false => exact ⟨g, F1, e1, r1, On.imp (show On (fb e1) _ from o) fun b k F2 H2 r2 s2 k2 => k F2 H2 r2 (s1.trans s2) (k1.trans k2)⟩
  | true => exact (show ∀ F' H', _ from o) F1 H1 r1 s1 k1⟩⟩
end
def ifM (c : Ev → R (Bool × Ev)) (a b : Ev → R (D × Ev)) : Ev → R (D × Ev) := fun e => c e >>= fun k => if k.1 = true then a k.2 else b k.2
theorem M.ite {fc : Ev → R (Bool × Ev)} {fa fb : Ev → R (D × Ev)} (hc : TM X c fc) (ha : M X x fa) (hb : M X y fb) : M X (.IfExp c x y pos) (ifM fc fa fb) := ⟨PE_mono (pe_ifExp hc.pt ha.pe hb.pe) fun σ H Q ⟨g, F, e, rl, o⟩ => ⟨g, F, e, rl, o.bind'.imp fun c o F1 H1 r1 s1 k1 => by
  obtain ⟨c, e1⟩ := c
  cases c with
  | true => exact ⟨g, F1, e1, r1, On.imp (show On (fa e1) _ from o) fun b k v F2 H2 r2 s2 k2 rp => k v F2 H2 r2 (s1.trans s2) (k1.trans k2) rp⟩
  | false => exact ⟨g, F1, e1, r1, On.imp (show On (fb e1) _ from o) fun b k v F2 H2 r2 s2 k2 rp => k v F2 H2 r2 (s1.trans s2) (k1.trans k2) rp⟩⟩⟩
end

/-! #### what targets leave owned -/
theorem sub_v (i : Nat) : ∀ d e e', setV i d e = some e' → ∀ j, own e' j = true → own e j = true := fun d e e' h j hj => by
  obtain ⟨_, _, rfl⟩ := setV_ok h
  rcases own_set hj with ⟨_, c, z | ⟨_, z⟩⟩ | ⟨_, z⟩
  · cases z
  · cases z
  · exact z
theorem sub_nil : ∀ d e e', gnil d e = some e' → ∀ j, own e' j = true → own e j = true := fun d e e' h j hj => by
  cases d with
  | nil => cases h; exact hj
  | cons => cases h
theorem sub_con {f : D → Ev → Option Ev} {k : List D → Ev → Option Ev} (hf : ∀ d e e', f d e = some e' → ∀ j, own e' j = true → own e j = true) (hk : ∀ d e e', k d e = some e' → ∀ j, own e' j = true → own e j = true) : ∀ d e e', gcon f k d e = some e' → ∀ j, own e' j = true → own e j = true := fun d e e' q j hj => by
  cases d with
  | nil => cases q
  | cons d ds =>
    obtain ⟨e1, h1, h2⟩ := bind_ok (show (f d e).bind (fun e1 => k ds e1) = some e' from q)
    exact hf d e e1 h1 j (hk ds e1 e' h2 j hj)
theorem sub_tup {k : List D → Ev → Option Ev} (hk : ∀ d e e', k d e = some e' → ∀ j, own e' j = true → own e j = true) : ∀ d e e', gtup k d e = some e' → ∀ j, own e' j = true → own e j = true := fun d e e' q j hj => by
  cases d with
  | tup ds => exact hk ds e e' q j hj
  | _ => cases q

/-! #### a def that is not gone into any more -/
section
variable {P : Program} {w : World} {K : PySem.W.Frag} {mg : Str → Option Value} {base : Heap}
theorem fn_ok0 {x qual : Str} {st : Stmt} {f : Addr} {fd : FuncData} {N ps : List Str} (k : Nat) {φ : List D → R D} (F : Fun K x qual st f fd) (S : FnScope N ps (defScope st)) (hφ : ∀ ds, φ ds = .no) :
    FnOk P w K mg base (L2.CX P w) (k + 1) f fd ps (spP K mg ps.length φ) := by
  have e : φ = runP N.length (fun _ => .no) := funext fun ds => hφ ds
  rw [e]
  exact fn_ok F S fun cdv A outer s H E hr => ⟨PSs_mono pss_never fun D σ H ⟨g, F, e, r, o⟩ => o⟩
theorem fn_okIO0 {x qual : Str} {st : Stmt} {f : Addr} {fd : FuncData} {N ps : List Str} (k : Nat) {φ : List D → List D → R (D × List D)} (F : Fun K x qual st f fd) (S : FnScope N ps (defScope st)) (hφ : ∀ xs ds, φ xs ds = .no) :
    FnOk P w K mg base (L2.CX P w) (k + 1) f fd ps (spIO K mg ps.length φ) := by
  have e : φ = runIO N.length (fun _ => .no) := funext fun xs => funext fun ds => hφ xs ds
  rw [e]
  exact fn_okIO F S fun cdv A outer s H E hr => ⟨PSs_mono pss_never fun D σ H ⟨g, F, e, r, o⟩ => o⟩
end

/-! #### the end -/
def spLaw (K : PySem.W.Frag) : Sp := fun vs H Q _ => ∃ (a : Addr) (ns : List Int), vs = [.ref a] ∧ ns.length ≤ 63 ∧ SqL K H a (ns.map V.int) ∧ ∀ H', Q (.bl true) H'
theorem law_of {P : Program} {w : World} {K : PySem.W.Frag} {mg : Str → Option Value} {base : Heap} {C : CXT} {k : Nat} {f : Addr} {fd : FuncData} {ps : List Str} {φ : List D → R D} (hφ : ∀ ns : List Int, ns.length ≤ 63 → φ [.arg (ns.map D.int)] = .ok (.bl true))
    (F : FnOk P w K mg base C k f fd ps (spP K mg 1 φ)) : FnOk P w K mg base C k f fd ps (spLaw K) := F.imp fun vs H Q E ⟨a, ns, e, hl, hs, q⟩ => by
  subst e
  refine ⟨rfl, H, [.arg (ns.map D.int)], Same.refl _, .cons (.arg hs (RpA.ofInts ns)) .nil, ?_⟩
  rw [hφ ns hl]
  intro v F' H' _ rv
  cases rv
  exact q H'
theorem fun_of {K : PySem.W.Frag} {h : Heap} {mg : Str → Option Value} {x qual : Str} {st : Stmt} {f : Addr} {oc : Value} {od an : Option Addr} {osl : Array (Option Value)} {kV doc pm cdv ct : Value} (X : K.In h) (G : h.Ns mainGlobals mg)
    (a : PySem.W.nsIn K mainGlobals x = some (some (.ref f))) (l : K.lookup f = some ⟨oc, od, .func (PySem.W.fnOf x qual (defArgs st) (defBody st) (defScope st) .none kV doc pm an cdv ct), osl⟩)
    (c : PySem.W.codeIn K cdv qual = true) (k : PySem.W.keepIn K (.ref f) = true) : ∃ (f : Addr) (fd : FuncData), Fun K x qual st f fd ∧ mg x = some (.ref f) := ⟨f, _, fun_mk l c k, PySem.W.mg_of X G a⟩
theorem bind1 {K : PySem.W.Frag} {x qual : Str} {st : Stmt} {f : Addr} {fd : FuncData} (F : Fun K x qual st f fd) (h : ∀ (kV doc pm : Value) (an : Option Addr) (cdv ct : Value) (us : List Value), us.length = 1 → bindArgs (PySem.W.fnOf x qual (defArgs st) (defBody st) (defScope st) .none kV doc pm an cdv ct) ⟨us, []⟩ = pure ((["script"] : List Str).zip us)) :
    ∀ (s : Shared) (u : Value), BindsTo s fd ⟨[u], []⟩ [("script", u)] := by
  obtain ⟨oc, od, kV, doc, pm, an, cdv, ct, osl, rfl, lk, hcd⟩ := F.ex
  exact fun s u => .of_eq (h kV doc pm an cdv ct [u] rfl)
theorem const_of {K : PySem.W.Frag} {h : Heap} {mg : Str → Option Value} {x : Str} {v : V} {u : Value} (X : K.In h) (G : h.Ns mainGlobals mg) (a : PySem.W.nsIn K mainGlobals x = some (some u)) (r : RelV v u) : ∃ u, mg x = some u ∧ RelV v u := ⟨u, PySem.W.mg_of X G a, r⟩
theorem walk_law {l : PySem.W.OpenLaw} {q : Program} {loose : List Str} {XP : (Str → Option Value) → Heap → Prop} {YP : World → Heap → Prop} {d : DefRec} {K : Params → PySem.W.Frag} {k : Nat} {φ : List D → R D} (hφ : ∀ ns : List Int, ns.length ≤ 63 → φ [.arg (ns.map D.int)] = .ok (.bl true)) (hn : l.most = some 63) (hdf : d.params.defaults = []) (hr : Room k callerA)
    (hY : ∀ (w : World) (h : Heap), YP w h → (K w.params).In h)
    (F : ∀ (w : World) (mg : Str → Option Value) (fa : Addr) (h : Heap), (K w.params).In h → h.Ns mainGlobals mg → mg d.name = some (.ref fa) →
      ∃ fd : FuncData, (∀ (s : Shared) (u : Value), BindsTo s fd ⟨[u], []⟩ [("script", u)]) ∧ ∀ base : Heap, FnOk l.prog w (K w.params) mg base (L2.CX l.prog w) k fa fd ["script"] (spP (K w.params) mg 1 φ)) :
    PySem.W.WalkO q loose XP YP l.row.toRowW d [] (fun f vs => PySem.call f vs) :=
  L2.walk_of (n := 63) (k := k) (x := "script") (CX := fun w => L2.CX l.prog w) (sp := fun w => spLaw (K w.params)) hn (by decide) hdf hr hY (fun w mg fa h KX G hm => by
    obtain ⟨fd, hb, hF⟩ := F w mg fa h KX G hm
    exact ⟨fd, hb, fun base _ _ => law_of hφ (hF base)⟩) (fun w H a ns hl _ hs => ⟨a, ns, rfl, hl, hs, fun _ => rfl⟩) fun w H s e s' ⟨_, _, _, _, _, _, _, _, _, _, _, _, z⟩ => z
end DL


/-! ## what the program's defs compute; printed by gen.py -/
namespace G
open PySem PySem.Spec PyProof.Rows L2 DL
def topS (i : Nat) : Stmt := PySem.Challenge.pw_sharesofworks_k03_whole_slopes_and_gaps.main.body.getD i (.Pass ⟨0, 0, 0, 0⟩)
/-! ### lowest -/
abbrev s_lowest : Stmt := topS 7
abbrev N_lowest : List Str := ["n", "d", "by"]
theorem sc_lowest : FnScope N_lowest ["n", "d"] (defScope s_lowest) := ⟨rfl, rfl, rfl, by decide +kernel, rfl, by decide +kernel, by decide +kernel⟩
def b_lowest : Ev → O := sq (asg (biP (f2 gcd2) (conA (vB 0) (conA (vB 1) (nilA)))) (setV 2))
    (rtn (tupD (conA (bin fdivD (vB 0) (vB 2)) (conA (bin fdivD (vB 1) (vB 2)) (nilA)))))
def m_lowest : List D → R D := runP 3 b_lowest
/-! ### is_count -/
abbrev s_is_count : Stmt := topS 6
abbrev N_is_count : List Str := ["value"]
theorem sc_is_count : FnScope N_is_count ["value"] (defScope s_is_count) := ⟨rfl, rfl, rfl, by decide +kernel, rfl, by decide +kernel, by decide +kernel⟩
def b_is_count : Ev → O := rtn (andV (isiP .int (vB 0)) (andV (notV (isiP .bool (vB 0))) (bin geD (vB 0) (cst (.int 0)))))
def m_is_count : List D → R D := runP 1 b_is_count
/-! ### is_steps -/
abbrev s_is_steps : Stmt := topS 12
abbrev N_is_steps : List Str := ["value", "one"]
theorem sc_is_steps : FnScope N_is_steps ["value"] (defScope s_is_steps) := ⟨rfl, rfl, rfl, by decide +kernel, rfl, by decide +kernel, by decide +kernel⟩
def e_is_steps_1 : Ev → R D := andV (callD m_is_count (conA (vP 1) (nilA))) (bin leD (vB 1) (cst (.int 1000000)))
def b_is_steps : Ev → O := rtn (andV (isiP .tup (vB 0)) (biP (f1 all1) (conA (fz (lcP [1] (itD (vP 0)) (setV 1) (tsT) (e_is_steps_1))) (nilA))))
def m_is_steps : List D → R D := runP 2 b_is_steps
/-! ### is_ruler -/
abbrev s_is_ruler : Stmt := topS 13
abbrev N_is_ruler : List Str := ["value"]
theorem sc_is_ruler : FnScope N_is_ruler ["value"] (defScope s_is_ruler) := ⟨rfl, rfl, rfl, by decide +kernel, rfl, by decide +kernel, by decide +kernel⟩
def b_is_ruler : Ev → O := sq (ifS (orT (notT (asB (isiP .tup (vB 0)))) (orT (asB (bin neD (biP (f1 len1) (conA (vB 0) (nilA))) (cst (.int 3)))) (notT (asB (callD m_is_count (conA (bin ixD (vB 0) (cst (.int 0))) (nilA)))))))
    (rtn (cst (.bl false)))
    ((O.nx)))
    (sq (ifS (orT (notT (asB (callD m_is_steps (conA (bin ixD (vB 0) (cst (.int 1))) (nilA))))) (notT (asB (callD m_is_steps (conA (bin ixD (vB 0) (cst (.int 2))) (nilA))))))
    (rtn (cst (.bl false)))
    ((O.nx)))
    (rtn (andV (bin neD (bin ixD (vB 0) (cst (.int 2))) (tupD (nilA))) (bin leD (bin addD (biP (f1 len1) (conA (bin ixD (vB 0) (cst (.int 1))) (nilA))) (biP (f1 len1) (conA (bin ixD (vB 0) (cst (.int 2))) (nilA)))) (cst (.int 6000))))))
def m_is_ruler : List D → R D := runP 1 b_is_ruler
/-! ### check_ruler -/
abbrev s_check_ruler : Stmt := topS 14
abbrev N_check_ruler : List Str := ["value"]
theorem sc_check_ruler : FnScope N_check_ruler ["value"] (defScope s_check_ruler) := ⟨rfl, rfl, rfl, by decide +kernel, rfl, by decide +kernel, by decide +kernel⟩
def b_check_ruler : Ev → O := ifS (notT (asB (callD m_is_ruler (conA (vP 0) (nilA)))))
    (nvr)
    ((O.nx))
def m_check_ruler : List D → R D := runP 1 b_check_ruler
/-! ### slope -/
abbrev s_slope : Stmt := topS 20
abbrev N_slope : List Str := ["ruler"]
theorem sc_slope : FnScope N_slope ["ruler"] (defScope s_slope) := ⟨rfl, rfl, rfl, by decide +kernel, rfl, by decide +kernel, by decide +kernel⟩
def b_slope : Ev → O := sq (drp (callD m_check_ruler (conA (vP 0) (nilA))))
    (rtn (callD m_lowest (conA (biP (f1 sum1) (conA (bin ixD (vB 0) (cst (.int 2))) (nilA))) (conA (biP (f1 len1) (conA (bin ixD (vB 0) (cst (.int 2))) (nilA))) (nilA)))))
def m_slope : List D → R D := runP 1 b_slope
/-! ### steps_of -/
abbrev s_steps_of : Stmt := topS 15
abbrev N_steps_of : List Str := ["ruler", "many", "found", "base", "head", "loop"]
theorem sc_steps_of : FnScope N_steps_of ["ruler", "many"] (defScope s_steps_of) := ⟨rfl, rfl, rfl, by decide +kernel, rfl, by decide +kernel, by decide +kernel⟩
def t_steps_of_1 : Ev → R Bool := asB (bin ltD (biP (f1 len1) (conA (vB 2) (nilA))) (vB 1))
def l_steps_of_2 : Ev → O := extS 2 (slP slD (vB 5) (poN) (asI (bin subD (vB 1) (biP (f1 len1) (conA (vB 2) (nilA))))))
def b_steps_of : Ev → O := sq (asg (vP 0) (gtup (gcon (setV 3) (gcon (setV 4) (gcon (setV 5) (gnil))))))
    (sq (asgL (biL list1 (conA (slP slD (vB 4) (poN) (asI (vB 1))) (nilA))) 2)
    (sq (whl (t_steps_of_1) (l_steps_of_2) fuel)
    (frzS 2 (rtn (vP 2)))))
def m_steps_of : List D → R D := runP 6 b_steps_of
/-! ### values_of -/
abbrev s_values_of : Stmt := topS 16
abbrev N_values_of : List Str := ["ruler", "many", "step", "found", "here"]
theorem sc_values_of : FnScope N_values_of ["ruler", "many"] (defScope s_values_of) := ⟨rfl, rfl, rfl, by decide +kernel, rfl, by decide +kernel, by decide +kernel⟩
def l_values_of_1 : Ev → O := sq (appS 3 (vP 4))
    (asg (bin addD (vB 4) (vB 2)) (setV 4))
def b_values_of : Ev → O := sq (parL2 3 4 (lstD (nilA)) (conA (bin ixD (vB 0) (cst (.int 0))) (nilA)))
    (sq (forS (itD (callD m_steps_of (conA (vP 0) (conA (vP 1) (nilA))))) (setV 2) (l_values_of_1))
    (frzS 3 (rtn (vP 3))))
def m_values_of : List D → R D := runP 5 b_values_of
/-! ### least_common -/
abbrev s_least_common : Stmt := topS 8
abbrev N_least_common : List Str := ["a", "b", "most", "found"]
theorem sc_least_common : FnScope N_least_common ["a", "b", "most"] (defScope s_least_common) := ⟨rfl, rfl, rfl, by decide +kernel, rfl, by decide +kernel, by decide +kernel⟩
def b_least_common : Ev → O := sq (asg (bin mulD (bin fdivD (vB 0) (biP (f2 gcd2) (conA (vB 0) (conA (vB 1) (nilA))))) (vB 1)) (setV 3))
    (sq (ifS (asB (bin gtD (vB 3) (vB 2)))
    (nvr)
    ((O.nx)))
    (rtn (vP 3)))
def m_least_common : List D → R D := runP 4 b_least_common
/-! ### frame_of -/
abbrev s_frame_of : Stmt := topS 18
abbrev N_frame_of : List Str := ["rulers", "ruler", "head", "loop"]
theorem sc_frame_of : FnScope N_frame_of ["rulers"] (defScope s_frame_of) := ⟨rfl, rfl, rfl, by decide +kernel, rfl, by decide +kernel, by decide +kernel⟩
def l_frame_of_1 : Ev → O := sq (asg (biP maxDs (conA (vB 2) (conA (biP (f1 len1) (conA (bin ixD (vB 1) (cst (.int 1))) (nilA))) (nilA)))) (setV 2))
    (asg (callD m_least_common (conA (vP 3) (conA (biP (f1 len1) (conA (bin ixD (vB 1) (cst (.int 2))) (nilA))) (conA (cst (.int 6000)) (nilA))))) (setV 3))
def b_frame_of : Ev → O := sq (asg (tupD (conA (cst (.int 0)) (conA (cst (.int 1)) (nilA)))) (gtup (gcon (setV 2) (gcon (setV 3) (gnil)))))
    (sq (forS (itD (vP 0)) (setV 1) (l_frame_of_1))
    (sq (ifS (asB (bin gtD (bin addD (vB 2) (vB 3)) (cst (.int 6000))))
    (nvr)
    ((O.nx)))
    (rtn (tupD (conA (vP 2) (conA (vP 3) (nilA)))))))
def m_frame_of : List D → R D := runP 4 b_frame_of
/-! ### gaps_of -/
abbrev s_gaps_of : Stmt := topS 21
abbrev N_gaps_of : List Str := ["first", "second", "gaps", "head", "loop", "one", "two", "k"]
theorem sc_gaps_of : FnScope N_gaps_of ["first", "second"] (defScope s_gaps_of) := ⟨rfl, rfl, rfl, by decide +kernel, rfl, by decide +kernel, by decide +kernel⟩
def e_gaps_of_1 : Ev → R D := bin subD (bin ixD (vB 5) (vB 7)) (bin ixD (vB 6) (vB 7))
def b_gaps_of : Ev → O := sq (asg (callD m_frame_of (conA (tupD (conA (vP 0) (conA (vP 1) (nilA)))) (nilA))) (gtup (gcon (setV 3) (gcon (setV 4) (gnil)))))
    (sq (asg (tupD (conA (callD m_values_of (conA (vP 0) (conA (bin addD (bin addD (vB 3) (vB 4)) (cst (.int 1))) (nilA)))) (conA (callD m_values_of (conA (vP 1) (conA (bin addD (bin addD (vB 3) (vB 4)) (cst (.int 1))) (nilA)))) (nilA)))) (gtup (gcon (setV 5) (gcon (setV 6) (gnil)))))
    (sq (asg (fz (lcP [7] (itR1 (bin addD (bin addD (vB 3) (vB 4)) (cst (.int 1)))) (setV 7) (tsT) (e_gaps_of_1))) (setV 2))
    (rtn (tupD (conA (vP 2) (conA (vP 3) (conA (bin subD (bin ixD (vB 2) (bin addD (vB 3) (vB 4))) (bin ixD (vB 2) (vB 3))) (nilA))))))))
def m_gaps_of : List D → R D := runP 8 b_gaps_of
/-! ### above_at -/
abbrev s_above_at : Stmt := topS 22
abbrev N_above_at : List Str := ["first", "second", "k", "loop", "gaps", "head", "rise"]
theorem sc_above_at : FnScope N_above_at ["first", "second"] (defScope s_above_at) := ⟨rfl, rfl, rfl, by decide +kernel, rfl, by decide +kernel, by decide +kernel⟩
def l_above_at_1 : Ev → O := ifS (asB (bin gtD (bin ixD (vB 4) (vB 2)) (cst (.int 0))))
    (rtn (vP 2))
    ((O.nx))
def e_above_at_2 : Ev → R D := bin addD (bin addD (vB 5) (vB 2)) (bin mulD (bin addD (bin fdivD (un1 negD (bin ixD (vB 4) (bin addD (vB 5) (vB 2)))) (vB 6)) (cst (.int 1))) (vB 3))
def k_above_at_6 : Ev → O := rtn (biP minDs (conA (fz (lcP [2] (itR1 (vP 3)) (setV 2) (tsT) (e_above_at_2))) (nilA)))
def k_above_at_5 : Ev → O := sq (asg (bin subD (bin subD (biP (f1 len1) (conA (vB 4) (nilA))) (cst (.int 1))) (vB 5)) (setV 3))
    (k_above_at_6)
def k_above_at_4 : Ev → O := sq (ifS (asB (bin leD (vB 6) (cst (.int 0))))
    (rtn (cst .non))
    ((O.nx)))
    (k_above_at_5)
def k_above_at_3 : Ev → O := sq (forS (itR1 (biP (f1 len1) (conA (vB 4) (nilA)))) (setV 2) (l_above_at_1))
    (k_above_at_4)
def k_above_at_2 : Ev → O := sq (asg (callD m_gaps_of (conA (vP 0) (conA (vP 1) (nilA)))) (gtup (gcon (setV 4) (gcon (setV 5) (gcon (setV 6) (gnil))))))
    (k_above_at_3)
def k_above_at_1 : Ev → O := sq (drp (callD m_check_ruler (conA (vP 1) (nilA))))
    (k_above_at_2)
def b_above_at : Ev → O := sq (drp (callD m_check_ruler (conA (vP 0) (nilA))))
    (k_above_at_1)
def m_above_at : List D → R D := runP 7 b_above_at
/-! ### greatest_gap -/
abbrev s_greatest_gap : Stmt := topS 23
abbrev N_greatest_gap : List Str := ["first", "second", "most", "gaps", "head", "rise"]
theorem sc_greatest_gap : FnScope N_greatest_gap ["first", "second"] (defScope s_greatest_gap) := ⟨rfl, rfl, rfl, by decide +kernel, rfl, by decide +kernel, by decide +kernel⟩
def k_greatest_gap_5 : Ev → O := rtn (tupD (conA (vP 2) (conA (indP (vB 3) (vB 2)) (nilA))))
def k_greatest_gap_4 : Ev → O := sq (asg (biP maxDs (conA (vB 3) (nilA))) (setV 2))
    (k_greatest_gap_5)
def k_greatest_gap_3 : Ev → O := sq (ifS (asB (bin gtD (vB 5) (cst (.int 0))))
    (rtn (cst .non))
    ((O.nx)))
    (k_greatest_gap_4)
def k_greatest_gap_2 : Ev → O := sq (asg (callD m_gaps_of (conA (vP 0) (conA (vP 1) (nilA)))) (gtup (gcon (setV 3) (gcon (setV 4) (gcon (setV 5) (gnil))))))
    (k_greatest_gap_3)
def k_greatest_gap_1 : Ev → O := sq (drp (callD m_check_ruler (conA (vP 1) (nilA))))
    (k_greatest_gap_2)
def b_greatest_gap : Ev → O := sq (drp (callD m_check_ruler (conA (vP 0) (nilA))))
    (k_greatest_gap_1)
def m_greatest_gap : List D → R D := runP 6 b_greatest_gap
/-! ### leads_of -/
abbrev s_leads_of : Stmt := topS 24
abbrev N_leads_of : List Str := ["ruler", "n", "d", "told", "x"]
theorem sc_leads_of : FnScope N_leads_of ["ruler", "n", "d"] (defScope s_leads_of) := ⟨rfl, rfl, rfl, by decide +kernel, rfl, by decide +kernel, by decide +kernel⟩
def e_leads_of_1 : Ev → R D := bin subD (bin mulD (vB 2) (bin ixD (vB 3) (vB 4))) (bin mulD (vB 1) (vB 4))
def b_leads_of : Ev → O := sq (asg (callD m_values_of (conA (vP 0) (conA (bin addD (biP (f1 len1) (conA (bin ixD (vB 0) (cst (.int 1))) (nilA))) (biP (f1 len1) (conA (bin ixD (vB 0) (cst (.int 2))) (nilA)))) (nilA)))) (setV 3))
    (rtn (fz (lcP [4] (itR1 (biP (f1 len1) (conA (vB 3) (nilA)))) (setV 4) (tsT) (e_leads_of_1))))
def m_leads_of : List D → R D := runP 5 b_leads_of
/-! ### lines_round -/
abbrev s_lines_round : Stmt := topS 25
abbrev N_lines_round : List Str := ["ruler", "leads", "n", "d", "low", "high"]
theorem sc_lines_round : FnScope N_lines_round ["ruler"] (defScope s_lines_round) := ⟨rfl, rfl, rfl, by decide +kernel, rfl, by decide +kernel, by decide +kernel⟩
def b_lines_round : Ev → O := sq (drp (callD m_check_ruler (conA (vP 0) (nilA))))
    (sq (asg (callD m_lowest (conA (biP (f1 sum1) (conA (bin ixD (vB 0) (cst (.int 2))) (nilA))) (conA (biP (f1 len1) (conA (bin ixD (vB 0) (cst (.int 2))) (nilA))) (nilA)))) (gtup (gcon (setV 2) (gcon (setV 3) (gnil)))))
    (sq (asg (callD m_leads_of (conA (vP 0) (conA (vP 2) (conA (vP 3) (nilA))))) (setV 1))
    (sq (par2 4 5 (conA (biP minDs (conA (vB 1) (nilA))) (conA (biP maxDs (conA (vB 1) (nilA))) (nilA))))
    (rtn (tupD (conA (tupD (conA (vP 4) (conA (indP (vB 1) (vB 4)) (nilA)))) (conA (tupD (conA (vP 5) (conA (indP (vB 1) (vB 5)) (nilA)))) (nilA))))))))
def m_lines_round : List D → R D := runP 6 b_lines_round
/-! ### _law_draw -/
abbrev s__law_draw : Stmt := topS 27
abbrev N__law_draw : List Str := ["tape", "many", "cell", "digit"]
theorem sc__law_draw : FnScope N__law_draw ["tape", "many"] (defScope s__law_draw) := ⟨rfl, rfl, rfl, by decide +kernel, rfl, by decide +kernel, by decide +kernel⟩
def b__law_draw : Ev → O := sq (ifS (asB (bin eqD (bin ixD (vB 0) (cst (.int 2))) (cst (.int 0))))
    (sq (asg (ifP (asB (bin ltD (bin ixD (vB 0) (cst (.int 1))) (biP (f1 len1) (conA (bin ixD (vB 0) (cst (.int 0))) (nilA))))) (biP (f1 abs1) (conA (biP (f1 int1) (conA (bin ixD (bin ixD (vB 0) (cst (.int 0))) (bin ixD (vB 0) (cst (.int 1)))) (nilA))) (nilA))) (cst (.int 0))) (setV 2))
    (sq (stS 0 (cst (.int 1)) (bin addD (bin ixD (vB 0) (cst (.int 1))) (cst (.int 1))))
    (sq (stS 0 (cst (.int 3)) (bin modD (biP (f1 int1) (conA (bin addD (bin addD (bin mulD (bin ixD (vB 0) (cst (.int 3))) (cst (.int 48271))) (bin mulD (vB 2) (cst (.int 7919)))) (cst (.int 12345))) (nilA))) (cst (.int 2147483647))))
    (stS 0 (cst (.int 2)) (ifP (asB (bin geD (vB 2) (bin powD (cst (.int 10)) (cst (.int 18))))) (vP 2) (cst (.int 0)))))))
    ((O.nx)))
    (sq (ifS (asB (bin gtD (bin ixD (vB 0) (cst (.int 2))) (cst (.int 0))))
    (sq (asg (bin modD (biP (f1 int1) (conA (bin ixD (vB 0) (cst (.int 2))) (nilA))) (vB 1)) (setV 3))
    (sq (stS 0 (cst (.int 2)) (bin fdivD (biP (f1 int1) (conA (bin ixD (vB 0) (cst (.int 2))) (nilA))) (vB 1)))
    (rtn (vP 3))))
    ((O.nx)))
    (rtn (bin modD (biP (f1 int1) (conA (bin fdivD (bin ixD (vB 0) (cst (.int 3))) (cst (.int 7))) (nilA))) (vB 1))))
def m__law_draw : List D → List D → R (D × List D) := runIO 4 b__law_draw
/-! ### _law_steps -/
abbrev s__law_steps : Stmt := topS 28
abbrev N__law_steps : List Str := ["tape", "least", "most", "step", "many", "k"]
theorem sc__law_steps : FnScope N__law_steps ["tape", "least", "most", "step"] (defScope s__law_steps) := ⟨rfl, rfl, rfl, by decide +kernel, rfl, by decide +kernel, by decide +kernel⟩
def e__law_steps_1 : Ev → R (D × Ev) := callIO 0 m__law_draw (conM (up (vP 3)) (nilM))
def b__law_steps : Ev → O := sq (asgM (binM addD (up (vP 1)) (callIO 0 m__law_draw (conM (up (bin addD (bin subD (vB 2) (vB 1)) (cst (.int 1)))) (nilM)))) (setV 4))
    (sq (ifSM (asBM (binM eqD (callIO 0 m__law_draw (conM (up (cst (.int 4))) (nilM))) (up (cst (.int 0)))))
    (rtnM (binM mulD (tupM (conM (callIO 0 m__law_draw (conM (up (vP 3)) (nilM))) (nilM))) (up (vP 4))))
    ((O.nx)))
    (rtnM (biM (f1 tuple1) (conM (fzM (lcM [5] (upI (itR1 (vP 4))) (setV 5) (tsM) (e__law_steps_1))) (nilM)))))
def m__law_steps : List D → List D → R (D × List D) := runIO 6 b__law_steps
/-! ### _law_ruler -/
abbrev s__law_ruler : Stmt := topS 29
abbrev N__law_ruler : List Str := ["tape"]
theorem sc__law_ruler : FnScope N__law_ruler ["tape"] (defScope s__law_ruler) := ⟨rfl, rfl, rfl, by decide +kernel, rfl, by decide +kernel, by decide +kernel⟩
def b__law_ruler : Ev → O := rtnM (tupM (conM (callIO 0 m__law_draw (conM (up (cst (.int 4))) (nilM))) (conM (callIO 0 m__law_steps (conM (up (cst (.int 0))) (conM (up (cst (.int 4))) (conM (up (cst (.int 4))) (nilM))))) (conM (callIO 0 m__law_steps (conM (up (cst (.int 1))) (conM (up (cst (.int 4))) (conM (up (cst (.int 4))) (nilM))))) (nilM)))))
def m__law_ruler : List D → List D → R (D × List D) := runIO 1 b__law_ruler
/-! ### _law_told -/
abbrev s__law_told : Stmt := topS 30
abbrev N__law_told : List Str := ["ruler", "many", "x", "found", "head", "loop"]
theorem sc__law_told : FnScope N__law_told ["ruler", "many"] (defScope s__law_told) := ⟨rfl, rfl, rfl, by decide +kernel, rfl, by decide +kernel, by decide +kernel⟩
def l__law_told_1 : Ev → O := appS 3 (bin addD (bin ixD (vB 3) (vB 2)) (ifP (asB (bin ltD (vB 2) (biP (f1 len1) (conA (vB 4) (nilA))))) (bin ixD (vB 4) (vB 2)) (bin ixD (vB 5) (bin modD (bin subD (vB 2) (biP (f1 len1) (conA (vB 4) (nilA)))) (biP (f1 len1) (conA (vB 5) (nilA)))))))
def b__law_told : Ev → O := sq (parL3 3 4 5 (lstD (conA (bin ixD (vB 0) (cst (.int 0))) (nilA))) (conA (bin ixD (vB 0) (cst (.int 1))) (conA (bin ixD (vB 0) (cst (.int 2))) (nilA))))
    (sq (forS (itR1 (bin subD (vB 1) (cst (.int 1)))) (setV 2) (l__law_told_1))
    (rtn (slP slD (vB 3) (poN) (asI (vB 1)))))
def m__law_told : List D → R D := runP 6 b__law_told
/-! ### _law_parted -/
abbrev s__law_parted : Stmt := topS 32
abbrev N__law_parted : List Str := ["a", "b"]
theorem sc__law_parted : FnScope N__law_parted ["a", "b"] (defScope s__law_parted) := ⟨rfl, rfl, rfl, by decide +kernel, rfl, by decide +kernel, by decide +kernel⟩
def b__law_parted (rec : List D → R D) : Ev → O := rtn (ifP (asB (bin eqD (vB 1) (cst (.int 0)))) (vP 0) (callD (rec) (conA (vP 1) (conA (bin modD (vB 0) (vB 1)) (nilA)))))
def m__law_parted : Nat → List D → R D
  | 0, _ => .no
  | k + 1, ds => runP 2 (b__law_parted (m__law_parted k)) ds
-- REC _law_parted
/-! ### _law_common -/
abbrev s__law_common : Stmt := topS 31
abbrev N__law_common : List Str := ["a", "b", "k"]
theorem sc__law_common : FnScope N__law_common ["a", "b"] (defScope s__law_common) := ⟨rfl, rfl, rfl, by decide +kernel, rfl, by decide +kernel, by decide +kernel⟩
def e__law_common_1 : Ev → R D := vP 2
def t__law_common_2 : Ev → R Bool := asB (bin eqD (bin modD (vB 2) (vB 1)) (cst (.int 0)))
def b__law_common : Ev → O := rtn (bin ixD (fz (lcP [2] (itR3 (vP 0) (bin addD (bin mulD (vB 0) (vB 1)) (cst (.int 1))) (vP 0)) (setV 2) (t__law_common_2) (e__law_common_1))) (cst (.int 0)))
def m__law_common : List D → R D := runP 3 b__law_common
/-! ### _law_gaps -/
abbrev s__law_gaps : Stmt := topS 33
abbrev N__law_gaps : List Str := ["one", "two", "gaps", "loop", "head", "a", "b", "x"]
theorem sc__law_gaps : FnScope N__law_gaps ["one", "two"] (defScope s__law_gaps) := ⟨rfl, rfl, rfl, by decide +kernel, rfl, by decide +kernel, by decide +kernel⟩
def e__law_gaps_1 : Ev → R D := bin subD (bin ixD (vB 5) (vB 7)) (bin ixD (vB 6) (vB 7))
def b__law_gaps : Ev → O := sq (par2 3 4 (conA (callD m__law_common (conA (biP (f1 len1) (conA (bin ixD (vB 0) (cst (.int 2))) (nilA))) (conA (biP (f1 len1) (conA (bin ixD (vB 1) (cst (.int 2))) (nilA))) (nilA)))) (conA (biP maxDs (conA (biP (f1 len1) (conA (bin ixD (vB 0) (cst (.int 1))) (nilA))) (conA (biP (f1 len1) (conA (bin ixD (vB 1) (cst (.int 1))) (nilA))) (nilA)))) (nilA))))
    (sq (asg (tupD (conA (callD m__law_told (conA (vP 0) (conA (bin addD (vB 4) (bin mulD (cst (.int 80)) (vB 3))) (nilA)))) (conA (callD m__law_told (conA (vP 1) (conA (bin addD (vB 4) (bin mulD (cst (.int 80)) (vB 3))) (nilA)))) (nilA)))) (gtup (gcon (setV 5) (gcon (setV 6) (gnil)))))
    (sq (asg (fz (lcP [7] (itR1 (bin addD (vB 4) (bin mulD (cst (.int 80)) (vB 3)))) (setV 7) (tsT) (e__law_gaps_1))) (setV 2))
    (rtn (tupD (conA (vP 2) (conA (bin subD (bin ixD (vB 2) (bin addD (vB 4) (vB 3))) (bin ixD (vB 2) (vB 4))) (nilA)))))))
def m__law_gaps : List D → R D := runP 8 b__law_gaps
/-! ### law -/
abbrev s_law : Stmt := topS 34
abbrev N_law : List Str := ["script", "tape", "by", "above", "most", "walk", "leads", "one", "two", "turn", "n", "d", "gaps", "rise", "x"]
theorem sc_law : FnScope N_law ["script"] (defScope s_law) := ⟨rfl, rfl, rfl, by decide +kernel, rfl, by decide +kernel, by decide +kernel⟩
def e_law_1 : Ev → R D := vP 14
def t_law_2 : Ev → R Bool := asB (bin gtD (bin ixD (vB 12) (vB 14)) (cst (.int 0)))
def e_law_3 : Ev → R D := bin subD (bin mulD (bin ixD (vB 5) (vB 14)) (bin fdivD (vB 11) (vB 2))) (bin mulD (vB 14) (bin fdivD (vB 10) (vB 2)))
def k_law_14 : Ev → O := rtn (bin eqD (callD m_lines_round (conA (vP 7) (nilA))) (tupD (conA (tupD (conA (biP minDs (conA (vB 6) (nilA))) (conA (indP (vB 6) (biP minDs (conA (vB 6) (nilA)))) (nilA)))) (conA (tupD (conA (biP maxDs (conA (vB 6) (nilA))) (conA (indP (vB 6) (biP maxDs (conA (vB 6) (nilA)))) (nilA)))) (nilA)))))
def k_law_13 : Ev → O := sq (asg (fz (lcP [14] (itR1 (cst (.int 40))) (setV 14) (tsT) (e_law_3))) (setV 6))
    (k_law_14)
def k_law_12 : Ev → O := sq (asg (callD m__law_told (conA (vP 7) (conA (cst (.int 40)) (nilA)))) (setV 5))
    (k_law_13)
def k_law_11 : Ev → O := sq (ifS (orT (andT (asB (bin ltD (vB 13) (cst (.int 0)))) (asB (bin isnD (callD m_greatest_gap (conA (vP 8) (conA (vP 7) (nilA)))) (cst .non)))) (andT (asB (bin eqD (vB 13) (cst (.int 0)))) (asB (bin neD (callD m_greatest_gap (conA (vP 8) (conA (vP 7) (nilA)))) (tupD (conA (un1 negD (biP minDs (conA (vB 12) (nilA)))) (conA (indP (vB 12) (biP minDs (conA (vB 12) (nilA)))) (nilA))))))))
    (rtn (cst (.bl false)))
    ((O.nx)))
    (k_law_12)
def k_law_10 : Ev → O := sq (ifS (asB (bin neD (callD m_greatest_gap (conA (vP 7) (conA (vP 8) (nilA)))) (ifP (asB (bin gtD (vB 13) (cst (.int 0)))) (cst .non) (tupD (conA (vP 4) (conA (indP (vB 12) (vB 4)) (nilA)))))))
    (rtn (cst (.bl false)))
    ((O.nx)))
    (k_law_11)
def k_law_9 : Ev → O := sq (asg (biP maxDs (conA (vB 12) (nilA))) (setV 4))
    (k_law_10)
def k_law_8 : Ev → O := sq (ifS (asB (bin neD (callD m_above_at (conA (vP 7) (conA (vP 8) (nilA)))) (ifP (asB (bin neD (vB 3) (fz (lstD (nilA))))) (bin ixD (vB 3) (cst (.int 0))) (cst .non))))
    (rtn (cst (.bl false)))
    ((O.nx)))
    (k_law_9)
def k_law_7 : Ev → O := sq (asg (fz (lcP [14] (itR1 (biP (f1 len1) (conA (vB 12) (nilA)))) (setV 14) (t_law_2) (e_law_1))) (setV 3))
    (k_law_8)
def k_law_6 : Ev → O := sq (asg (callD m__law_gaps (conA (vP 7) (conA (vP 8) (nilA)))) (gtup (gcon (setV 12) (gcon (setV 13) (gnil)))))
    (k_law_7)
def k_law_5 : Ev → O := sq (ifS (asB (bin neD (callD m_slope (conA (vP 7) (nilA))) (tupD (conA (bin fdivD (vB 10) (vB 2)) (conA (bin fdivD (vB 11) (vB 2)) (nilA))))))
    (rtn (cst (.bl false)))
    ((O.nx)))
    (k_law_6)
def k_law_4 : Ev → O := sq (asg (callD (m__law_parted 40) (conA (vP 10) (conA (vP 11) (nilA)))) (setV 2))
    (k_law_5)
def k_law_3 : Ev → O := sq (asg (tupD (conA (biP (f1 sum1) (conA (bin ixD (vB 7) (cst (.int 2))) (nilA))) (conA (biP (f1 len1) (conA (bin ixD (vB 7) (cst (.int 2))) (nilA))) (nilA)))) (gtup (gcon (setV 10) (gcon (setV 11) (gnil)))))
    (k_law_4)
def k_law_2 : Ev → O := sq (ifSM (asBM (binM eqD (callIO 1 m__law_draw (conM (up (cst (.int 3))) (nilM))) (up (cst (.int 0)))))
    (sq (asgM (callIO 1 m__law_draw (conM (up (biP (f1 len1) (conA (bin ixD (vB 7) (cst (.int 2))) (nilA)))) (nilM))) (setV 9))
    (asg (tupD (conA (bin ixD (vB 8) (cst (.int 0))) (conA (bin ixD (vB 8) (cst (.int 1))) (conA (bin addD (slP slD (bin ixD (vB 7) (cst (.int 2))) (asI (vB 9)) (poN)) (slP slD (bin ixD (vB 7) (cst (.int 2))) (poN) (asI (vB 9)))) (nilA))))) (setV 8)))
    ((O.nx)))
    (k_law_3)
def k_law_1 : Ev → O := sq (parM2 7 8 (conM (callIO 1 m__law_ruler (nilM)) (conM (callIO 1 m__law_ruler (nilM)) (nilM))))
    (k_law_2)
def b_law : Ev → O := sq (asgL (lstD (conA (fz (biL list1 (conA (vB 0) (nilA)))) (conA (cst (.int 0)) (conA (cst (.int 0)) (conA (cst (.int 3)) (nilA)))))) 1)
    (k_law_1)
def m_law : List D → R D := runP 15 b_law
structure Tab where
  a_lowest : Addr
  f_lowest : FuncData
  a_is_count : Addr
  f_is_count : FuncData
  a_is_steps : Addr
  f_is_steps : FuncData
  a_is_ruler : Addr
  f_is_ruler : FuncData
  a_check_ruler : Addr
  f_check_ruler : FuncData
  a_slope : Addr
  f_slope : FuncData
  a_steps_of : Addr
  f_steps_of : FuncData
  a_values_of : Addr
  f_values_of : FuncData
  a_least_common : Addr
  f_least_common : FuncData
  a_frame_of : Addr
  f_frame_of : FuncData
  a_gaps_of : Addr
  f_gaps_of : FuncData
  a_above_at : Addr
  f_above_at : FuncData
  a_greatest_gap : Addr
  f_greatest_gap : FuncData
  a_leads_of : Addr
  f_leads_of : FuncData
  a_lines_round : Addr
  f_lines_round : FuncData
  a__law_draw : Addr
  f__law_draw : FuncData
  a__law_steps : Addr
  f__law_steps : FuncData
  a__law_ruler : Addr
  f__law_ruler : FuncData
  a__law_told : Addr
  f__law_told : FuncData
  a__law_parted : Addr
  f__law_parted : FuncData
  a__law_common : Addr
  f__law_common : FuncData
  a__law_gaps : Addr
  f__law_gaps : FuncData
  a_law : Addr
  f_law : FuncData
structure TopOk (t : Tab) (K : PySem.W.Frag) (mg : Str → Option Value) : Prop where
  F_lowest : Fun K "lowest" "lowest" s_lowest t.a_lowest t.f_lowest
  g_lowest : mg "lowest" = some (.ref t.a_lowest)
  F_is_count : Fun K "is_count" "is_count" s_is_count t.a_is_count t.f_is_count
  g_is_count : mg "is_count" = some (.ref t.a_is_count)
  F_is_steps : Fun K "is_steps" "is_steps" s_is_steps t.a_is_steps t.f_is_steps
  g_is_steps : mg "is_steps" = some (.ref t.a_is_steps)
  F_is_ruler : Fun K "is_ruler" "is_ruler" s_is_ruler t.a_is_ruler t.f_is_ruler
  g_is_ruler : mg "is_ruler" = some (.ref t.a_is_ruler)
  F_check_ruler : Fun K "check_ruler" "check_ruler" s_check_ruler t.a_check_ruler t.f_check_ruler
  g_check_ruler : mg "check_ruler" = some (.ref t.a_check_ruler)
  F_slope : Fun K "slope" "slope" s_slope t.a_slope t.f_slope
  g_slope : mg "slope" = some (.ref t.a_slope)
  F_steps_of : Fun K "steps_of" "steps_of" s_steps_of t.a_steps_of t.f_steps_of
  g_steps_of : mg "steps_of" = some (.ref t.a_steps_of)
  F_values_of : Fun K "values_of" "values_of" s_values_of t.a_values_of t.f_values_of
  g_values_of : mg "values_of" = some (.ref t.a_values_of)
  F_least_common : Fun K "least_common" "least_common" s_least_common t.a_least_common t.f_least_common
  g_least_common : mg "least_common" = some (.ref t.a_least_common)
  F_frame_of : Fun K "frame_of" "frame_of" s_frame_of t.a_frame_of t.f_frame_of
  g_frame_of : mg "frame_of" = some (.ref t.a_frame_of)
  F_gaps_of : Fun K "gaps_of" "gaps_of" s_gaps_of t.a_gaps_of t.f_gaps_of
  g_gaps_of : mg "gaps_of" = some (.ref t.a_gaps_of)
  F_above_at : Fun K "above_at" "above_at" s_above_at t.a_above_at t.f_above_at
  g_above_at : mg "above_at" = some (.ref t.a_above_at)
  F_greatest_gap : Fun K "greatest_gap" "greatest_gap" s_greatest_gap t.a_greatest_gap t.f_greatest_gap
  g_greatest_gap : mg "greatest_gap" = some (.ref t.a_greatest_gap)
  F_leads_of : Fun K "leads_of" "leads_of" s_leads_of t.a_leads_of t.f_leads_of
  g_leads_of : mg "leads_of" = some (.ref t.a_leads_of)
  F_lines_round : Fun K "lines_round" "lines_round" s_lines_round t.a_lines_round t.f_lines_round
  g_lines_round : mg "lines_round" = some (.ref t.a_lines_round)
  F__law_draw : Fun K "_law_draw" "_law_draw" s__law_draw t.a__law_draw t.f__law_draw
  g__law_draw : mg "_law_draw" = some (.ref t.a__law_draw)
  F__law_steps : Fun K "_law_steps" "_law_steps" s__law_steps t.a__law_steps t.f__law_steps
  g__law_steps : mg "_law_steps" = some (.ref t.a__law_steps)
  F__law_ruler : Fun K "_law_ruler" "_law_ruler" s__law_ruler t.a__law_ruler t.f__law_ruler
  g__law_ruler : mg "_law_ruler" = some (.ref t.a__law_ruler)
  F__law_told : Fun K "_law_told" "_law_told" s__law_told t.a__law_told t.f__law_told
  g__law_told : mg "_law_told" = some (.ref t.a__law_told)
  F__law_parted : Fun K "_law_parted" "_law_parted" s__law_parted t.a__law_parted t.f__law_parted
  g__law_parted : mg "_law_parted" = some (.ref t.a__law_parted)
  F__law_common : Fun K "_law_common" "_law_common" s__law_common t.a__law_common t.f__law_common
  g__law_common : mg "_law_common" = some (.ref t.a__law_common)
  F__law_gaps : Fun K "_law_gaps" "_law_gaps" s__law_gaps t.a__law_gaps t.f__law_gaps
  g__law_gaps : mg "_law_gaps" = some (.ref t.a__law_gaps)
  F_law : Fun K "law" "law" s_law t.a_law t.f_law
  g_law : mg "law" = some (.ref t.a_law)
  z_abs : mg "abs" = none
  z_all : mg "all" = none
  z_bool : mg "bool" = none
  z_int : mg "int" = none
  z_isinstance : mg "isinstance" = none
  z_len : mg "len" = none
  z_list : mg "list" = none
  z_max : mg "max" = none
  z_min : mg "min" = none
  z_range : mg "range" = none
  z_sum : mg "sum" = none
  z_tuple : mg "tuple" = none
  c_MOST_STEP : ∃ u, mg "MOST_STEP" = some u ∧ RelV (.int 1000000) u
  c_MOST_STEPS : ∃ u, mg "MOST_STEPS" = some u ∧ RelV (.int 6000) u
  b_gcd : mg "gcd" = some (.builtin "math.gcd")
section
variable {P0 : Program} {w : World} {K : PySem.W.Frag} {mg : Str → Option Value} {base : Heap} {t : Tab}
theorem ok_lowest (Y : TopOk t K mg) : FnOk P0 w K mg base (L2.CX P0 w) 1 t.a_lowest t.f_lowest ["n", "d"] (spP K mg 2 m_lowest) := fn_ok (k := 0) Y.F_lowest sc_lowest (fun cdv A outer s H E hr => Ss.cons (S.set 2 sc_lowest.nd (P.bf cr_gcd s_gcd Y.b_gcd (Bs.cons (B.v 0) (Bs.cons (B.v 1) (Bs.nil)))))
    (Ss.one (S.ret (P.tup (Ps.cons (P.op op_fdiv s_fdiv (B.v 0) (B.v 2)) (Ps.cons (P.op op_fdiv s_fdiv (B.v 1) (B.v 2)) (Ps.nil)))))))
theorem ok_is_count (Y : TopOk t K mg) : FnOk P0 w K mg base (L2.CX P0 w) 1 t.a_is_count t.f_is_count ["value"] (spP K mg 1 m_is_count) := fn_ok (k := 0) Y.F_is_count sc_is_count (fun cdv A outer s H E hr => Ss.one (S.ret (P.and (P.isi .int Y.z_isinstance Y.z_int (by decide +kernel) (B.v 0)) (P.and (P.not (P.isi .bool Y.z_isinstance Y.z_bool (by decide +kernel) (B.v 0))) (P.one (P.cmp op_ge (s_cmp _) (B.v 0) ((P.i).b)))))))
theorem ok_is_steps (Y : TopOk t K mg) : FnOk P0 w K mg base (L2.CX P0 w) 2 t.a_is_steps t.f_is_steps ["value"] (spP K mg 1 m_is_steps) := fn_ok (k := 1) Y.F_is_steps sc_is_steps (fun cdv A outer s H E hr => Ss.one (S.ret (P.and (P.isi .tup Y.z_isinstance Y.z_tuple (by decide +kernel) (B.v 0)) (P.one (P.bi (cr_all rfl) s_all Y.z_all (by decide +kernel) (Bs.cons ((L.p (L.lc (own := [("one", 1)]) rfl sc_is_steps.nd (I.seq (P.v 0)) (blkOk_by (N := N_is_steps) (sc := defScope s_is_steps) (by decide +kernel)) (by decide) (fun _ _ _ _ _ => G.v 1 sc_is_steps.nd) (fun _ _ _ _ _ => Ts.nil) (fun _ _ _ _ _ => P.and (P.call (ok_is_count Y) (hr.mono (by decide)) Y.g_is_count Y.F_is_count.kp (Y.F_is_count.binds fun _ _ _ _ _ _ us hl => match us, hl with | [_], _ => rfl) takes_blk rfl (Ps.cons (P.v 1) (Ps.nil))) (P.one (P.cmp op_le (s_cmp _) (B.v 1) ((P.globE Y.c_MOST_STEP (fun _ => .int _)).b)))))).b) (Bs.nil)))))))
theorem ok_is_ruler (Y : TopOk t K mg) : FnOk P0 w K mg base (L2.CX P0 w) 3 t.a_is_ruler t.f_is_ruler ["value"] (spP K mg 1 m_is_ruler) := fn_ok (k := 2) Y.F_is_ruler sc_is_ruler (fun cdv A outer s H E hr => Ss.cons (S.ite ((TW.or (T.not (T.val (P.isi .tup Y.z_isinstance Y.z_tuple (by decide +kernel) (B.v 0)))) (TW.or (T.cmp (op_neD hr.units) s_ne ((P.bi c_len s_len Y.z_len (by decide +kernel) (Bs.cons (B.v 0) (Bs.nil))).b) ((P.i).b)) (TW.or1 (T.not (T.val (P.call (ok_is_count Y) (hr.mono (by decide)) Y.g_is_count Y.F_is_count.kp (Y.F_is_count.binds fun _ _ _ _ _ _ us hl => match us, hl with | [_], _ => rfl) takes_def rfl (Ps.cons (P.ix (B.v 0) ((P.i).b)) (Ps.nil)))))))).go)
    (Ss.one (S.ret (P.bl)))
    (Ss.nil))
    (Ss.cons (S.ite ((TW.or (T.not (T.val (P.call (ok_is_steps Y) (hr.mono (by decide)) Y.g_is_steps Y.F_is_steps.kp (Y.F_is_steps.binds fun _ _ _ _ _ _ us hl => match us, hl with | [_], _ => rfl) takes_def rfl (Ps.cons (P.ix (B.v 0) ((P.i).b)) (Ps.nil))))) (TW.or1 (T.not (T.val (P.call (ok_is_steps Y) (hr.mono (by decide)) Y.g_is_steps Y.F_is_steps.kp (Y.F_is_steps.binds fun _ _ _ _ _ _ us hl => match us, hl with | [_], _ => rfl) takes_def rfl (Ps.cons (P.ix (B.v 0) ((P.i).b)) (Ps.nil))))))).go)
    (Ss.one (S.ret (P.bl)))
    (Ss.nil))
    (Ss.one (S.ret (P.and (P.cmp (op_neD hr.units) s_ne ((P.ix (B.v 0) ((P.i).b)).b) ((P.tup (Ps.nil)).b)) (P.one (P.cmp op_le (s_cmp _) ((P.op op_addD s_add ((P.bi c_len s_len Y.z_len (by decide +kernel) (Bs.cons ((P.ix (B.v 0) ((P.i).b)).b) (Bs.nil))).b) ((P.bi c_len s_len Y.z_len (by decide +kernel) (Bs.cons ((P.ix (B.v 0) ((P.i).b)).b) (Bs.nil))).b)).b) ((P.globE Y.c_MOST_STEPS (fun _ => .int _)).b))))))))
theorem ok_check_ruler (Y : TopOk t K mg) : FnOk P0 w K mg base (L2.CX P0 w) 4 t.a_check_ruler t.f_check_ruler ["value"] (spP K mg 1 m_check_ruler) := fn_ok (k := 3) Y.F_check_ruler sc_check_ruler (fun cdv A outer s H E hr => Ss.one (S.ite (T.not (T.val (P.call (ok_is_ruler Y) (hr.mono (by decide)) Y.g_is_ruler Y.F_is_ruler.kp (Y.F_is_ruler.binds fun _ _ _ _ _ _ us hl => match us, hl with | [_], _ => rfl) takes_def rfl (Ps.cons (P.v 0) (Ps.nil)))))
    (Ss.one (S.never))
    (Ss.nil)))
theorem ok_slope (Y : TopOk t K mg) : FnOk P0 w K mg base (L2.CX P0 w) 5 t.a_slope t.f_slope ["ruler"] (spP K mg 1 m_slope) := fn_ok (k := 4) Y.F_slope sc_slope (fun cdv A outer s H E hr => Ss.cons (S.expr (P.call (ok_check_ruler Y) (hr.mono (by decide)) Y.g_check_ruler Y.F_check_ruler.kp (Y.F_check_ruler.binds fun _ _ _ _ _ _ us hl => match us, hl with | [_], _ => rfl) takes_def rfl (Ps.cons (P.v 0) (Ps.nil))))
    (Ss.one (S.ret (P.call (ok_lowest Y) (hr.mono (by decide)) Y.g_lowest Y.F_lowest.kp (Y.F_lowest.binds fun _ _ _ _ _ _ us hl => match us, hl with | [_, _], _ => rfl) takes_def rfl (Ps.cons (P.bi (cr_sumT rfl) s_sum Y.z_sum (by decide +kernel) (Bs.cons ((P.ix (B.v 0) ((P.i).b)).b) (Bs.nil))) (Ps.cons (P.bi c_len s_len Y.z_len (by decide +kernel) (Bs.cons ((P.ix (B.v 0) ((P.i).b)).b) (Bs.nil))) (Ps.nil)))))))
theorem ok_steps_of (Y : TopOk t K mg) : FnOk P0 w K mg base (L2.CX P0 w) 1 t.a_steps_of t.f_steps_of ["ruler", "many"] (spP K mg 2 m_steps_of) := fn_ok (k := 0) Y.F_steps_of sc_steps_of (fun cdv A outer s H E hr => Ss.cons (S.unp (P.v 0) (G.tup rfl (Gs.cons (G.v 3 sc_steps_of.nd) (Gs.cons (G.v 4 sc_steps_of.nd) (Gs.cons (G.v 5 sc_steps_of.nd) (Gs.nil)))) (gcon_len (gcon_len (gcon_len (gnil_len))))))
    (Ss.cons (S.setL 2 sc_steps_of.nd (L.ty call_list_of s_listL Y.z_list (by decide +kernel) (Bs.cons ((P.sl (B.v 4) (Po.none) (Po.some (B.v 1))).b) (Bs.nil))))
    (Ss.cons (S.whl fuel passes_def (T.cmp op_lt (s_cmp _) ((P.bi c_len s_len Y.z_len (by decide +kernel) (Bs.cons (B.v 2) (Bs.nil))).b) (B.v 1))
    (Ss.one (S.ext 2 sc_steps_of.nd iop_extT ((P.sl (B.v 5) (Po.none) (Po.some ((P.op op_sub s_sub (B.v 1) ((P.bi c_len s_len Y.z_len (by decide +kernel) (Bs.cons (B.v 2) (Bs.nil))).b)).b))).b))))
    (Ss.one (S.frz 2 (S.ret (P.v 2)))))))
theorem ok_values_of (Y : TopOk t K mg) : FnOk P0 w K mg base (L2.CX P0 w) 2 t.a_values_of t.f_values_of ["ruler", "many"] (spP K mg 2 m_values_of) := fn_ok (k := 1) Y.F_values_of sc_values_of (fun cdv A outer s H E hr => Ss.cons (S.parL2 3 4 rfl sc_values_of.nd (by decide) (L.lst (Ps.nil)) (Ps.cons (P.ix (B.v 0) ((P.i).b)) (Ps.nil)))
    (Ss.cons (S.for passes_def rfl (I.seq (P.call (ok_steps_of Y) (hr.mono (by decide)) Y.g_steps_of Y.F_steps_of.kp (Y.F_steps_of.binds fun _ _ _ _ _ _ us hl => match us, hl with | [_, _], _ => rfl) takes_def rfl (Ps.cons (P.v 0) (Ps.cons (P.v 1) (Ps.nil))))) (G.v 2 sc_values_of.nd)
    (Ss.cons (S.app (pe_bm PySem.F.plainAttrs_list PySem.F.slot_list_append PySem.F.type_list_append mt_append (pv 3) (pa_cons (P.v 4).pe pa_nil)))
    (Ss.one (S.set 4 sc_values_of.nd (P.op op_addD s_add (B.v 4) (B.v 2))))))
    (Ss.one (S.frz 3 (S.ret (P.v 3))))))
theorem ok_least_common (Y : TopOk t K mg) : FnOk P0 w K mg base (L2.CX P0 w) 1 t.a_least_common t.f_least_common ["a", "b", "most"] (spP K mg 3 m_least_common) := fn_ok (k := 0) Y.F_least_common sc_least_common (fun cdv A outer s H E hr => Ss.cons (S.set 3 sc_least_common.nd (P.op op_mulD s_mul ((P.op op_fdiv s_fdiv (B.v 0) ((P.bf cr_gcd s_gcd Y.b_gcd (Bs.cons (B.v 0) (Bs.cons (B.v 1) (Bs.nil)))).b)).b) (B.v 1)))
    (Ss.cons (S.ite (T.cmp op_gt (s_cmp _) (B.v 3) (B.v 2))
    (Ss.one (S.never))
    (Ss.nil))
    (Ss.one (S.ret (P.v 3)))))
theorem ok_frame_of (Y : TopOk t K mg) : FnOk P0 w K mg base (L2.CX P0 w) 2 t.a_frame_of t.f_frame_of ["rulers"] (spP K mg 1 m_frame_of) := fn_ok (k := 1) Y.F_frame_of sc_frame_of (fun cdv A outer s H E hr => Ss.cons (S.unp (P.tup (Ps.cons (P.i) (Ps.cons (P.i) (Ps.nil)))) (G.tup rfl (Gs.cons (G.v 2 sc_frame_of.nd) (Gs.cons (G.v 3 sc_frame_of.nd) (Gs.nil))) (gcon_len (gcon_len (gnil_len)))))
    (Ss.cons (S.for passes_def rfl (I.seq (P.v 0)) (G.v 1 sc_frame_of.nd)
    (Ss.cons (S.set 2 sc_frame_of.nd (P.bi (c_max rfl) s_max Y.z_max (by decide +kernel) (Bs.cons (B.v 2) (Bs.cons ((P.bi c_len s_len Y.z_len (by decide +kernel) (Bs.cons ((P.ix (B.v 1) ((P.i).b)).b) (Bs.nil))).b) (Bs.nil)))))
    (Ss.one (S.set 3 sc_frame_of.nd (P.call (ok_least_common Y) (hr.mono (by decide)) Y.g_least_common Y.F_least_common.kp (Y.F_least_common.binds fun _ _ _ _ _ _ us hl => match us, hl with | [_, _, _], _ => rfl) takes_def rfl (Ps.cons (P.v 3) (Ps.cons (P.bi c_len s_len Y.z_len (by decide +kernel) (Bs.cons ((P.ix (B.v 1) ((P.i).b)).b) (Bs.nil))) (Ps.cons (P.globE Y.c_MOST_STEPS (fun _ => .int _)) (Ps.nil)))))))))
    (Ss.cons (S.ite (T.cmp op_gt (s_cmp _) ((P.op op_addD s_add (B.v 2) (B.v 3)).b) ((P.globE Y.c_MOST_STEPS (fun _ => .int _)).b))
    (Ss.one (S.never))
    (Ss.nil))
    (Ss.one (S.ret (P.tup (Ps.cons (P.v 2) (Ps.cons (P.v 3) (Ps.nil)))))))))
theorem ok_gaps_of (Y : TopOk t K mg) : FnOk P0 w K mg base (L2.CX P0 w) 3 t.a_gaps_of t.f_gaps_of ["first", "second"] (spP K mg 2 m_gaps_of) := fn_ok (k := 2) Y.F_gaps_of sc_gaps_of (fun cdv A outer s H E hr => Ss.cons (S.unp (P.call (ok_frame_of Y) (hr.mono (by decide)) Y.g_frame_of Y.F_frame_of.kp (Y.F_frame_of.binds fun _ _ _ _ _ _ us hl => match us, hl with | [_], _ => rfl) takes_def rfl (Ps.cons (P.tup (Ps.cons (P.v 0) (Ps.cons (P.v 1) (Ps.nil)))) (Ps.nil))) (G.tup rfl (Gs.cons (G.v 3 sc_gaps_of.nd) (Gs.cons (G.v 4 sc_gaps_of.nd) (Gs.nil))) (gcon_len (gcon_len (gnil_len)))))
    (Ss.cons (S.unp (P.tup (Ps.cons (P.call (ok_values_of Y) (hr.mono (by decide)) Y.g_values_of Y.F_values_of.kp (Y.F_values_of.binds fun _ _ _ _ _ _ us hl => match us, hl with | [_, _], _ => rfl) takes_def rfl (Ps.cons (P.v 0) (Ps.cons (P.op op_addD s_add ((P.op op_addD s_add (B.v 3) (B.v 4)).b) ((P.i).b)) (Ps.nil)))) (Ps.cons (P.call (ok_values_of Y) (hr.mono (by decide)) Y.g_values_of Y.F_values_of.kp (Y.F_values_of.binds fun _ _ _ _ _ _ us hl => match us, hl with | [_, _], _ => rfl) takes_def rfl (Ps.cons (P.v 1) (Ps.cons (P.op op_addD s_add ((P.op op_addD s_add (B.v 3) (B.v 4)).b) ((P.i).b)) (Ps.nil)))) (Ps.nil)))) (G.tup rfl (Gs.cons (G.v 5 sc_gaps_of.nd) (Gs.cons (G.v 6 sc_gaps_of.nd) (Gs.nil))) (gcon_len (gcon_len (gnil_len)))))
    (Ss.cons (S.setLcF 2 (own := [("k", 7)]) rfl sc_gaps_of.nd (I.rng1 Y.z_range (P.op op_addD s_add ((P.op op_addD s_add (B.v 3) (B.v 4)).b) ((P.i).b))) (blkOk_by (N := N_gaps_of) (sc := defScope s_gaps_of) (by decide +kernel)) (by decide) (fun _ _ _ _ _ => G.v 7 sc_gaps_of.nd) (fun _ _ _ _ _ => Ts.nil) (fun _ _ _ _ _ => P.op op_sub s_sub ((P.ix (B.v 5) (B.v 7)).b) ((P.ix (B.v 6) (B.v 7)).b)) (sw_true rfl rfl rfl (by decide +kernel)))
    (Ss.one (S.ret (P.tup (Ps.cons (P.v 2) (Ps.cons (P.v 3) (Ps.cons (P.op op_sub s_sub ((P.ix (B.v 2) ((P.op op_addD s_add (B.v 3) (B.v 4)).b)).b) ((P.ix (B.v 2) (B.v 3)).b)) (Ps.nil))))))))))
theorem ok_above_at (Y : TopOk t K mg) : FnOk P0 w K mg base (L2.CX P0 w) 5 t.a_above_at t.f_above_at ["first", "second"] (spP K mg 2 m_above_at) := fn_ok (k := 4) Y.F_above_at sc_above_at (fun cdv A outer s H E hr => Ss.cons (S.expr (P.call (ok_check_ruler Y) (hr.mono (by decide)) Y.g_check_ruler Y.F_check_ruler.kp (Y.F_check_ruler.binds fun _ _ _ _ _ _ us hl => match us, hl with | [_], _ => rfl) takes_def rfl (Ps.cons (P.v 0) (Ps.nil))))
    (Ss.cons (S.expr (P.call (ok_check_ruler Y) (hr.mono (by decide)) Y.g_check_ruler Y.F_check_ruler.kp (Y.F_check_ruler.binds fun _ _ _ _ _ _ us hl => match us, hl with | [_], _ => rfl) takes_def rfl (Ps.cons (P.v 1) (Ps.nil))))
    (Ss.cons (S.unp (P.call (ok_gaps_of Y) (hr.mono (by decide)) Y.g_gaps_of Y.F_gaps_of.kp (Y.F_gaps_of.binds fun _ _ _ _ _ _ us hl => match us, hl with | [_, _], _ => rfl) takes_def rfl (Ps.cons (P.v 0) (Ps.cons (P.v 1) (Ps.nil)))) (G.tup rfl (Gs.cons (G.v 4 sc_above_at.nd) (Gs.cons (G.v 5 sc_above_at.nd) (Gs.cons (G.v 6 sc_above_at.nd) (Gs.nil)))) (gcon_len (gcon_len (gcon_len (gnil_len))))))
    (Ss.cons (S.for passes_def rfl (I.rng1 Y.z_range (P.bi c_len s_len Y.z_len (by decide +kernel) (Bs.cons (B.v 4) (Bs.nil)))) (G.v 2 sc_above_at.nd)
    (Ss.one (S.ite (T.cmp op_gt (s_cmp _) ((P.ix (B.v 4) (B.v 2)).b) ((P.i).b))
    (Ss.one (S.ret (P.v 2)))
    (Ss.nil))))
    (Ss.cons (S.ite (T.cmp op_le (s_cmp _) (B.v 6) ((P.i).b))
    (Ss.one (S.ret (P.non)))
    (Ss.nil))
    (Ss.cons (S.set 3 sc_above_at.nd (P.op op_sub s_sub ((P.op op_sub s_sub ((P.bi c_len s_len Y.z_len (by decide +kernel) (Bs.cons (B.v 4) (Bs.nil))).b) ((P.i).b)).b) (B.v 5)))
    (Ss.one (S.ret (P.bi (c_min rfl) s_min Y.z_min (by decide +kernel) (Bs.cons ((L.p (L.lc (own := [("k", 2)]) rfl sc_above_at.nd (I.rng1 Y.z_range (P.v 3)) (blkOk_by (N := N_above_at) (sc := defScope s_above_at) (by decide +kernel)) (by decide) (fun _ _ _ _ _ => G.v 2 sc_above_at.nd) (fun _ _ _ _ _ => Ts.nil) (fun _ _ _ _ _ => P.op op_addD s_add ((P.op op_addD s_add (B.v 5) (B.v 2)).b) ((P.op op_mulD s_mul ((P.op op_addD s_add ((P.op op_fdiv s_fdiv ((P.un un_neg s_neg ((P.ix (B.v 4) ((P.op op_addD s_add (B.v 5) (B.v 2)).b)).b)).b) (B.v 6)).b) ((P.i).b)).b) (B.v 3)).b)))).b) (Bs.nil)))))))))))
theorem ok_greatest_gap (Y : TopOk t K mg) : FnOk P0 w K mg base (L2.CX P0 w) 5 t.a_greatest_gap t.f_greatest_gap ["first", "second"] (spP K mg 2 m_greatest_gap) := fn_ok (k := 4) Y.F_greatest_gap sc_greatest_gap (fun cdv A outer s H E hr => Ss.cons (S.expr (P.call (ok_check_ruler Y) (hr.mono (by decide)) Y.g_check_ruler Y.F_check_ruler.kp (Y.F_check_ruler.binds fun _ _ _ _ _ _ us hl => match us, hl with | [_], _ => rfl) takes_def rfl (Ps.cons (P.v 0) (Ps.nil))))
    (Ss.cons (S.expr (P.call (ok_check_ruler Y) (hr.mono (by decide)) Y.g_check_ruler Y.F_check_ruler.kp (Y.F_check_ruler.binds fun _ _ _ _ _ _ us hl => match us, hl with | [_], _ => rfl) takes_def rfl (Ps.cons (P.v 1) (Ps.nil))))
    (Ss.cons (S.unp (P.call (ok_gaps_of Y) (hr.mono (by decide)) Y.g_gaps_of Y.F_gaps_of.kp (Y.F_gaps_of.binds fun _ _ _ _ _ _ us hl => match us, hl with | [_, _], _ => rfl) takes_def rfl (Ps.cons (P.v 0) (Ps.cons (P.v 1) (Ps.nil)))) (G.tup rfl (Gs.cons (G.v 3 sc_greatest_gap.nd) (Gs.cons (G.v 4 sc_greatest_gap.nd) (Gs.cons (G.v 5 sc_greatest_gap.nd) (Gs.nil)))) (gcon_len (gcon_len (gcon_len (gnil_len))))))
    (Ss.cons (S.ite (T.cmp op_gt (s_cmp _) (B.v 5) ((P.i).b))
    (Ss.one (S.ret (P.non)))
    (Ss.nil))
    (Ss.cons (S.set 2 sc_greatest_gap.nd (P.bi (c_max rfl) s_max Y.z_max (by decide +kernel) (Bs.cons (B.v 3) (Bs.nil))))
    (Ss.one (S.ret (P.tup (Ps.cons (P.v 2) (Ps.cons (P.index (pe_bm PySem.F.plainAttrs_list PySem.F.slot_list_index PySem.F.type_list_index mt_index (B.v 3).pe (pa_cons (B.v 2).pe pa_nil))) (Ps.nil)))))))))))
theorem ok_leads_of (Y : TopOk t K mg) : FnOk P0 w K mg base (L2.CX P0 w) 3 t.a_leads_of t.f_leads_of ["ruler", "n", "d"] (spP K mg 3 m_leads_of) := fn_ok (k := 2) Y.F_leads_of sc_leads_of (fun cdv A outer s H E hr => Ss.cons (S.set 3 sc_leads_of.nd (P.call (ok_values_of Y) (hr.mono (by decide)) Y.g_values_of Y.F_values_of.kp (Y.F_values_of.binds fun _ _ _ _ _ _ us hl => match us, hl with | [_, _], _ => rfl) takes_def rfl (Ps.cons (P.v 0) (Ps.cons (P.op op_addD s_add ((P.bi c_len s_len Y.z_len (by decide +kernel) (Bs.cons ((P.ix (B.v 0) ((P.i).b)).b) (Bs.nil))).b) ((P.bi c_len s_len Y.z_len (by decide +kernel) (Bs.cons ((P.ix (B.v 0) ((P.i).b)).b) (Bs.nil))).b)) (Ps.nil)))))
    (Ss.one (S.ret (L.p (L.lc (own := [("x", 4)]) rfl sc_leads_of.nd (I.rng1 Y.z_range (P.bi c_len s_len Y.z_len (by decide +kernel) (Bs.cons (B.v 3) (Bs.nil)))) (blkOk_by (N := N_leads_of) (sc := defScope s_leads_of) (by decide +kernel)) (by decide) (fun _ _ _ _ _ => G.v 4 sc_leads_of.nd) (fun _ _ _ _ _ => Ts.nil) (fun _ _ _ _ _ => P.op op_sub s_sub ((P.op op_mulD s_mul (B.v 2) ((P.ix (B.v 3) (B.v 4)).b)).b) ((P.op op_mulD s_mul (B.v 1) (B.v 4)).b)))))))
theorem ok_lines_round (Y : TopOk t K mg) : FnOk P0 w K mg base (L2.CX P0 w) 5 t.a_lines_round t.f_lines_round ["ruler"] (spP K mg 1 m_lines_round) := fn_ok (k := 4) Y.F_lines_round sc_lines_round (fun cdv A outer s H E hr => Ss.cons (S.expr (P.call (ok_check_ruler Y) (hr.mono (by decide)) Y.g_check_ruler Y.F_check_ruler.kp (Y.F_check_ruler.binds fun _ _ _ _ _ _ us hl => match us, hl with | [_], _ => rfl) takes_def rfl (Ps.cons (P.v 0) (Ps.nil))))
    (Ss.cons (S.unp (P.call (ok_lowest Y) (hr.mono (by decide)) Y.g_lowest Y.F_lowest.kp (Y.F_lowest.binds fun _ _ _ _ _ _ us hl => match us, hl with | [_, _], _ => rfl) takes_def rfl (Ps.cons (P.bi (cr_sumT rfl) s_sum Y.z_sum (by decide +kernel) (Bs.cons ((P.ix (B.v 0) ((P.i).b)).b) (Bs.nil))) (Ps.cons (P.bi c_len s_len Y.z_len (by decide +kernel) (Bs.cons ((P.ix (B.v 0) ((P.i).b)).b) (Bs.nil))) (Ps.nil)))) (G.tup rfl (Gs.cons (G.v 2 sc_lines_round.nd) (Gs.cons (G.v 3 sc_lines_round.nd) (Gs.nil))) (gcon_len (gcon_len (gnil_len)))))
    (Ss.cons (S.set 1 sc_lines_round.nd (P.call (ok_leads_of Y) (hr.mono (by decide)) Y.g_leads_of Y.F_leads_of.kp (Y.F_leads_of.binds fun _ _ _ _ _ _ us hl => match us, hl with | [_, _, _], _ => rfl) takes_def rfl (Ps.cons (P.v 0) (Ps.cons (P.v 2) (Ps.cons (P.v 3) (Ps.nil))))))
    (Ss.cons (S.par2 4 5 rfl sc_lines_round.nd (by decide) (Ps.cons (P.bi (c_min rfl) s_min Y.z_min (by decide +kernel) (Bs.cons (B.v 1) (Bs.nil))) (Ps.cons (P.bi (c_max rfl) s_max Y.z_max (by decide +kernel) (Bs.cons (B.v 1) (Bs.nil))) (Ps.nil))))
    (Ss.one (S.ret (P.tup (Ps.cons (P.tup (Ps.cons (P.v 4) (Ps.cons (P.index (pe_bm PySem.F.plainAttrs_list PySem.F.slot_list_index PySem.F.type_list_index mt_index (B.v 1).pe (pa_cons (B.v 4).pe pa_nil))) (Ps.nil)))) (Ps.cons (P.tup (Ps.cons (P.v 5) (Ps.cons (P.index (pe_bm PySem.F.plainAttrs_list PySem.F.slot_list_index PySem.F.type_list_index mt_index (B.v 1).pe (pa_cons (B.v 5).pe pa_nil))) (Ps.nil)))) (Ps.nil))))))))))
theorem ok__law_draw (Y : TopOk t K mg) : FnOk P0 w K mg base (L2.CX P0 w) 1 t.a__law_draw t.f__law_draw ["tape", "many"] (spIO K mg 2 m__law_draw) := fn_okIO (k := 0) Y.F__law_draw sc__law_draw (fun cdv A outer s H E hr => Ss.cons (S.ite (T.cmp (op_eqD hr.units) s_eq ((P.ix (B.v 0) ((P.i).b)).b) ((P.i).b))
    (Ss.cons (S.set 2 sc__law_draw.nd (P.ite (T.cmp op_lt (s_cmp _) ((P.ix (B.v 0) ((P.i).b)).b) ((P.bi c_len s_len Y.z_len (by decide +kernel) (Bs.cons ((P.ix (B.v 0) ((P.i).b)).b) (Bs.nil))).b)) (P.bi call_abs s_abs Y.z_abs (by decide +kernel) (Bs.cons ((P.ty call_int1 s_int Y.z_int (by decide +kernel) (Bs.cons ((P.ix ((P.ix (B.v 0) ((P.i).b)).b) ((P.ix (B.v 0) ((P.i).b)).b)).b) (Bs.nil))).b) (Bs.nil))) (P.i)))
    (Ss.cons (S.st 0 (P.op op_addD s_add ((P.ix (B.v 0) ((P.i).b)).b) ((P.i).b)) ((P.i).b))
    (Ss.cons (S.st 0 (P.op op_mod s_mod ((P.ty call_int1 s_int Y.z_int (by decide +kernel) (Bs.cons ((P.op op_addD s_add ((P.op op_addD s_add ((P.op op_mulD s_mul ((P.ix (B.v 0) ((P.i).b)).b) ((P.i).b)).b) ((P.op op_mulD s_mul (B.v 2) ((P.i).b)).b)).b) ((P.i).b)).b) (Bs.nil))).b) ((P.i).b)) ((P.i).b))
    (Ss.one (S.st 0 (P.ite (T.cmp op_ge (s_cmp _) (B.v 2) ((P.op op_pow s_pow ((P.i).b) ((P.i).b)).b)) (P.v 2) (P.i)) ((P.i).b))))))
    (Ss.nil))
    (Ss.cons (S.ite (T.cmp op_gt (s_cmp _) ((P.ix (B.v 0) ((P.i).b)).b) ((P.i).b))
    (Ss.cons (S.set 3 sc__law_draw.nd (P.op op_mod s_mod ((P.ty call_int1 s_int Y.z_int (by decide +kernel) (Bs.cons ((P.ix (B.v 0) ((P.i).b)).b) (Bs.nil))).b) (B.v 1)))
    (Ss.cons (S.st 0 (P.op op_fdiv s_fdiv ((P.ty call_int1 s_int Y.z_int (by decide +kernel) (Bs.cons ((P.ix (B.v 0) ((P.i).b)).b) (Bs.nil))).b) (B.v 1)) ((P.i).b))
    (Ss.one (S.ret (P.v 3)))))
    (Ss.nil))
    (Ss.one (S.ret (P.op op_mod s_mod ((P.ty call_int1 s_int Y.z_int (by decide +kernel) (Bs.cons ((P.op op_fdiv s_fdiv ((P.ix (B.v 0) ((P.i).b)).b) ((P.i).b)).b) (Bs.nil))).b) (B.v 1))))))
theorem ok__law_steps (Y : TopOk t K mg) : FnOk P0 w K mg base (L2.CX P0 w) 2 t.a__law_steps t.f__law_steps ["tape", "least", "most", "step"] (spIO K mg 4 m__law_steps) := fn_okIO (k := 1) Y.F__law_steps sc__law_steps (fun cdv A outer s H E hr => Ss.cons (S.setM 4 sc__law_steps.nd (M.op op_addD s_add (P.m (W := W0) (P.v 1)) (M.callIO 0 (ok__law_draw Y) (hr.mono (by decide)) Y.g__law_draw Y.F__law_draw.kp (Y.F__law_draw.binds fun _ _ _ _ _ _ us hl => match us, hl with | [_, _], _ => rfl) rfl (Ms.cons (P.m (W := W0) (P.op op_addD s_add ((P.op op_sub s_sub (B.v 2) (B.v 1)).b) ((P.i).b))) (Ms.nil)))))
    (Ss.cons (S.iteM (TM.cmp (op_eqD hr.units) s_eq (M.callIO 0 (ok__law_draw Y) (hr.mono (by decide)) Y.g__law_draw Y.F__law_draw.kp (Y.F__law_draw.binds fun _ _ _ _ _ _ us hl => match us, hl with | [_, _], _ => rfl) rfl (Ms.cons (P.m (W := W0) (P.i)) (Ms.nil))) (P.m (W := W0) (P.i)))
    (Ss.one (S.retM (M.op op_mulD s_mul (M.tup (Ms.cons (M.callIO 0 (ok__law_draw Y) (hr.mono (by decide)) Y.g__law_draw Y.F__law_draw.kp (Y.F__law_draw.binds fun _ _ _ _ _ _ us hl => match us, hl with | [_, _], _ => rfl) rfl (Ms.cons (P.m (W := W0) (P.v 3)) (Ms.nil))) (Ms.nil))) (P.m (W := W0) (P.v 4)))))
    (Ss.nil))
    (Ss.one (S.retM (M.ty call_tuple_of s_tuple Y.z_tuple (by decide +kernel) (Ms.cons (ML.m (ML.lc (own := [("k", 5)]) rfl sc__law_steps.nd (I.m (W := W0) (I.rng1 Y.z_range (P.v 4))) (blkOk_by (N := N__law_steps) (sc := defScope s__law_steps) (by decide +kernel)) (by decide) (fun _ _ _ _ _ => G.v 5 sc__law_steps.nd) (fun _ _ _ _ _ => TsM.nil) (fun _ _ _ _ _ => M.callIO 0 (ok__law_draw Y) (hr.mono (by decide)) Y.g__law_draw Y.F__law_draw.kp (Y.F__law_draw.binds fun _ _ _ _ _ _ us hl => match us, hl with | [_, _], _ => rfl) rfl (Ms.cons (P.m (W := W0) (P.v 3)) (Ms.nil))) (sub_v 5))) (Ms.nil)))))))
theorem ok__law_ruler (Y : TopOk t K mg) : FnOk P0 w K mg base (L2.CX P0 w) 3 t.a__law_ruler t.f__law_ruler ["tape"] (spIO K mg 1 m__law_ruler) := fn_okIO (k := 2) Y.F__law_ruler sc__law_ruler (fun cdv A outer s H E hr => Ss.one (S.retM (M.tup (Ms.cons (M.callIO 0 (ok__law_draw Y) (hr.mono (by decide)) Y.g__law_draw Y.F__law_draw.kp (Y.F__law_draw.binds fun _ _ _ _ _ _ us hl => match us, hl with | [_, _], _ => rfl) rfl (Ms.cons (P.m (W := W0) (P.i)) (Ms.nil))) (Ms.cons (M.callIO 0 (ok__law_steps Y) (hr.mono (by decide)) Y.g__law_steps Y.F__law_steps.kp (Y.F__law_steps.binds fun _ _ _ _ _ _ us hl => match us, hl with | [_, _, _, _], _ => rfl) rfl (Ms.cons (P.m (W := W0) (P.i)) (Ms.cons (P.m (W := W0) (P.i)) (Ms.cons (P.m (W := W0) (P.i)) (Ms.nil))))) (Ms.cons (M.callIO 0 (ok__law_steps Y) (hr.mono (by decide)) Y.g__law_steps Y.F__law_steps.kp (Y.F__law_steps.binds fun _ _ _ _ _ _ us hl => match us, hl with | [_, _, _, _], _ => rfl) rfl (Ms.cons (P.m (W := W0) (P.i)) (Ms.cons (P.m (W := W0) (P.i)) (Ms.cons (P.m (W := W0) (P.i)) (Ms.nil))))) (Ms.nil)))))))
theorem ok__law_told (Y : TopOk t K mg) : FnOk P0 w K mg base (L2.CX P0 w) 1 t.a__law_told t.f__law_told ["ruler", "many"] (spP K mg 2 m__law_told) := fn_ok (k := 0) Y.F__law_told sc__law_told (fun cdv A outer s H E hr => Ss.cons (S.parL3 3 4 5 rfl sc__law_told.nd (by decide) (L.lst (Ps.cons (P.ix (B.v 0) ((P.i).b)) (Ps.nil))) (Ps.cons (P.ix (B.v 0) ((P.i).b)) (Ps.cons (P.ix (B.v 0) ((P.i).b)) (Ps.nil))))
    (Ss.cons (S.for passes_def rfl (I.rng1 Y.z_range (P.op op_sub s_sub (B.v 1) ((P.i).b))) (G.v 2 sc__law_told.nd)
    (Ss.one (S.app (pe_bm PySem.F.plainAttrs_list PySem.F.slot_list_append PySem.F.type_list_append mt_append (pv 3) (pa_cons (P.op op_addD s_add ((P.ix (B.v 3) (B.v 2)).b) ((P.ite (T.cmp op_lt (s_cmp _) (B.v 2) ((P.bi c_len s_len Y.z_len (by decide +kernel) (Bs.cons (B.v 4) (Bs.nil))).b)) (P.ix (B.v 4) (B.v 2)) (P.ix (B.v 5) ((P.op op_mod s_mod ((P.op op_sub s_sub (B.v 2) ((P.bi c_len s_len Y.z_len (by decide +kernel) (Bs.cons (B.v 4) (Bs.nil))).b)).b) ((P.bi c_len s_len Y.z_len (by decide +kernel) (Bs.cons (B.v 5) (Bs.nil))).b)).b))).b)).pe pa_nil)))))
    (Ss.one (S.ret (P.sl (B.v 3) (Po.none) (Po.some (B.v 1)))))))
theorem ok__law_parted (Y : TopOk t K mg) : ∀ k : Nat, FnOk P0 w K mg base (L2.CX P0 w) (1 + k) t.a__law_parted t.f__law_parted ["a", "b"] (spP K mg 2 (m__law_parted k))
  | 0 => fn_ok0 0 Y.F__law_parted sc__law_parted (fun _ => rfl)
  | k + 1 => fn_ok (k := 1 + k) Y.F__law_parted sc__law_parted (fun cdv A outer s H E hr => by
    have ih := ok__law_parted Y k
    exact Ss.one (S.ret (P.ite (T.cmp (op_eqD hr.units) s_eq (B.v 1) ((P.i).b)) (P.v 0) (P.call ih hr Y.g__law_parted Y.F__law_parted.kp (Y.F__law_parted.binds fun _ _ _ _ _ _ us hl => match us, hl with | [_, _], _ => rfl) takes_def rfl (Ps.cons (P.v 1) (Ps.cons (P.op op_mod s_mod (B.v 0) (B.v 1)) (Ps.nil)))))))
theorem ok__law_common (Y : TopOk t K mg) : FnOk P0 w K mg base (L2.CX P0 w) 1 t.a__law_common t.f__law_common ["a", "b"] (spP K mg 2 m__law_common) := fn_ok (k := 0) Y.F__law_common sc__law_common (fun cdv A outer s H E hr => Ss.one (S.ret (P.ix ((L.p (L.lc (own := [("k", 2)]) rfl sc__law_common.nd (I.rng3 Y.z_range (P.v 0) (P.op op_addD s_add ((P.op op_mulD s_mul (B.v 0) (B.v 1)).b) ((P.i).b)) (P.v 0)) (blkOk_by (N := N__law_common) (sc := defScope s__law_common) (by decide +kernel)) (by decide) (fun _ _ _ _ _ => G.v 2 sc__law_common.nd) (fun _ _ _ _ _ => Ts.one (T.cmp (op_eqD hr.units) s_eq ((P.op op_mod s_mod (B.v 2) (B.v 1)).b) ((P.i).b))) (fun _ _ _ _ _ => P.v 2))).b) ((P.i).b))))
theorem ok__law_gaps (Y : TopOk t K mg) : FnOk P0 w K mg base (L2.CX P0 w) 2 t.a__law_gaps t.f__law_gaps ["one", "two"] (spP K mg 2 m__law_gaps) := fn_ok (k := 1) Y.F__law_gaps sc__law_gaps (fun cdv A outer s H E hr => Ss.cons (S.par2 3 4 rfl sc__law_gaps.nd (by decide) (Ps.cons (P.call (ok__law_common Y) (hr.mono (by decide)) Y.g__law_common Y.F__law_common.kp (Y.F__law_common.binds fun _ _ _ _ _ _ us hl => match us, hl with | [_, _], _ => rfl) takes_def rfl (Ps.cons (P.bi c_len s_len Y.z_len (by decide +kernel) (Bs.cons ((P.ix (B.v 0) ((P.i).b)).b) (Bs.nil))) (Ps.cons (P.bi c_len s_len Y.z_len (by decide +kernel) (Bs.cons ((P.ix (B.v 1) ((P.i).b)).b) (Bs.nil))) (Ps.nil)))) (Ps.cons (P.bi (c_max rfl) s_max Y.z_max (by decide +kernel) (Bs.cons ((P.bi c_len s_len Y.z_len (by decide +kernel) (Bs.cons ((P.ix (B.v 0) ((P.i).b)).b) (Bs.nil))).b) (Bs.cons ((P.bi c_len s_len Y.z_len (by decide +kernel) (Bs.cons ((P.ix (B.v 1) ((P.i).b)).b) (Bs.nil))).b) (Bs.nil)))) (Ps.nil))))
    (Ss.cons (S.unp (P.tup (Ps.cons (P.call (ok__law_told Y) (hr.mono (by decide)) Y.g__law_told Y.F__law_told.kp (Y.F__law_told.binds fun _ _ _ _ _ _ us hl => match us, hl with | [_, _], _ => rfl) takes_def rfl (Ps.cons (P.v 0) (Ps.cons (P.op op_addD s_add (B.v 4) ((P.op op_mulD s_mul ((P.i).b) (B.v 3)).b)) (Ps.nil)))) (Ps.cons (P.call (ok__law_told Y) (hr.mono (by decide)) Y.g__law_told Y.F__law_told.kp (Y.F__law_told.binds fun _ _ _ _ _ _ us hl => match us, hl with | [_, _], _ => rfl) takes_def rfl (Ps.cons (P.v 1) (Ps.cons (P.op op_addD s_add (B.v 4) ((P.op op_mulD s_mul ((P.i).b) (B.v 3)).b)) (Ps.nil)))) (Ps.nil)))) (G.tup rfl (Gs.cons (G.v 5 sc__law_gaps.nd) (Gs.cons (G.v 6 sc__law_gaps.nd) (Gs.nil))) (gcon_len (gcon_len (gnil_len)))))
    (Ss.cons (S.setLcF 2 (own := [("x", 7)]) rfl sc__law_gaps.nd (I.rng1 Y.z_range (P.op op_addD s_add (B.v 4) ((P.op op_mulD s_mul ((P.i).b) (B.v 3)).b))) (blkOk_by (N := N__law_gaps) (sc := defScope s__law_gaps) (by decide +kernel)) (by decide) (fun _ _ _ _ _ => G.v 7 sc__law_gaps.nd) (fun _ _ _ _ _ => Ts.nil) (fun _ _ _ _ _ => P.op op_sub s_sub ((P.ix (B.v 5) (B.v 7)).b) ((P.ix (B.v 6) (B.v 7)).b)) (sw_true rfl rfl rfl (by decide +kernel)))
    (Ss.one (S.ret (P.tup (Ps.cons (P.v 2) (Ps.cons (P.op op_sub s_sub ((P.ix (B.v 2) ((P.op op_addD s_add (B.v 4) (B.v 3)).b)).b) ((P.ix (B.v 2) (B.v 4)).b)) (Ps.nil)))))))))
theorem ok_law (Y : TopOk t K mg) : FnOk P0 w K mg base (L2.CX P0 w) 42 t.a_law t.f_law ["script"] (spP K mg 1 m_law) := fn_ok (k := 41) Y.F_law sc_law (fun cdv A outer s H E hr => Ss.cons (S.setL 1 sc_law.nd (L.lst (Ps.cons (L.p (L.ty call_list_of s_listL Y.z_list (by decide +kernel) (Bs.cons (B.v 0) (Bs.nil)))) (Ps.cons (P.i) (Ps.cons (P.i) (Ps.cons (P.i) (Ps.nil)))))))
    (Ss.cons (S.parM2 7 8 rfl sc_law.nd (by decide) (Ms.cons (M.callIO 1 (ok__law_ruler Y) (hr.mono (by decide)) Y.g__law_ruler Y.F__law_ruler.kp (Y.F__law_ruler.binds fun _ _ _ _ _ _ us hl => match us, hl with | [_], _ => rfl) rfl (Ms.nil)) (Ms.cons (M.callIO 1 (ok__law_ruler Y) (hr.mono (by decide)) Y.g__law_ruler Y.F__law_ruler.kp (Y.F__law_ruler.binds fun _ _ _ _ _ _ us hl => match us, hl with | [_], _ => rfl) rfl (Ms.nil)) (Ms.nil))))
    (Ss.cons (S.iteM (TM.cmp (op_eqD hr.units) s_eq (M.callIO 1 (ok__law_draw Y) (hr.mono (by decide)) Y.g__law_draw Y.F__law_draw.kp (Y.F__law_draw.binds fun _ _ _ _ _ _ us hl => match us, hl with | [_, _], _ => rfl) rfl (Ms.cons (P.m (W := W0) (P.i)) (Ms.nil))) (P.m (W := W0) (P.i)))
    (Ss.cons (S.setM 9 sc_law.nd (M.callIO 1 (ok__law_draw Y) (hr.mono (by decide)) Y.g__law_draw Y.F__law_draw.kp (Y.F__law_draw.binds fun _ _ _ _ _ _ us hl => match us, hl with | [_, _], _ => rfl) rfl (Ms.cons (P.m (W := W0) (P.bi c_len s_len Y.z_len (by decide +kernel) (Bs.cons ((P.ix (B.v 7) ((P.i).b)).b) (Bs.nil)))) (Ms.nil))))
    (Ss.one (S.set 8 sc_law.nd (P.tup (Ps.cons (P.ix (B.v 8) ((P.i).b)) (Ps.cons (P.ix (B.v 8) ((P.i).b)) (Ps.cons (P.op op_addD s_add ((P.sl ((P.ix (B.v 7) ((P.i).b)).b) (Po.some (B.v 9)) (Po.none)).b) ((P.sl ((P.ix (B.v 7) ((P.i).b)).b) (Po.none) (Po.some (B.v 9))).b)) (Ps.nil))))))))
    (Ss.nil))
    (Ss.cons (S.unp (P.tup (Ps.cons (P.bi (cr_sumT rfl) s_sum Y.z_sum (by decide +kernel) (Bs.cons ((P.ix (B.v 7) ((P.i).b)).b) (Bs.nil))) (Ps.cons (P.bi c_len s_len Y.z_len (by decide +kernel) (Bs.cons ((P.ix (B.v 7) ((P.i).b)).b) (Bs.nil))) (Ps.nil)))) (G.tup rfl (Gs.cons (G.v 10 sc_law.nd) (Gs.cons (G.v 11 sc_law.nd) (Gs.nil))) (gcon_len (gcon_len (gnil_len)))))
    (Ss.cons (S.set 2 sc_law.nd (P.call (ok__law_parted Y 40) (hr.mono (by decide)) Y.g__law_parted Y.F__law_parted.kp (Y.F__law_parted.binds fun _ _ _ _ _ _ us hl => match us, hl with | [_, _], _ => rfl) takes_def rfl (Ps.cons (P.v 10) (Ps.cons (P.v 11) (Ps.nil)))))
    (Ss.cons (S.ite (T.cmp (op_neD hr.units) s_ne ((P.call (ok_slope Y) (hr.mono (by decide)) Y.g_slope Y.F_slope.kp (Y.F_slope.binds fun _ _ _ _ _ _ us hl => match us, hl with | [_], _ => rfl) takes_def rfl (Ps.cons (P.v 7) (Ps.nil))).b) ((P.tup (Ps.cons (P.op op_fdiv s_fdiv (B.v 10) (B.v 2)) (Ps.cons (P.op op_fdiv s_fdiv (B.v 11) (B.v 2)) (Ps.nil)))).b))
    (Ss.one (S.ret (P.bl)))
    (Ss.nil))
    (Ss.cons (S.unp (P.call (ok__law_gaps Y) (hr.mono (by decide)) Y.g__law_gaps Y.F__law_gaps.kp (Y.F__law_gaps.binds fun _ _ _ _ _ _ us hl => match us, hl with | [_, _], _ => rfl) takes_def rfl (Ps.cons (P.v 7) (Ps.cons (P.v 8) (Ps.nil)))) (G.tup rfl (Gs.cons (G.v 12 sc_law.nd) (Gs.cons (G.v 13 sc_law.nd) (Gs.nil))) (gcon_len (gcon_len (gnil_len)))))
    (Ss.cons (S.setLcF 3 (own := [("x", 14)]) rfl sc_law.nd (I.rng1 Y.z_range (P.bi c_len s_len Y.z_len (by decide +kernel) (Bs.cons (B.v 12) (Bs.nil)))) (blkOk_by (N := N_law) (sc := defScope s_law) (by decide +kernel)) (by decide) (fun _ _ _ _ _ => G.v 14 sc_law.nd) (fun _ _ _ _ _ => Ts.one (T.cmp op_gt (s_cmp _) ((P.ix (B.v 12) (B.v 14)).b) ((P.i).b))) (fun _ _ _ _ _ => P.v 14) (sw_true rfl rfl rfl (by decide +kernel)))
    (Ss.cons (S.ite (T.cmp (op_neD hr.units) s_ne ((P.call (ok_above_at Y) (hr.mono (by decide)) Y.g_above_at Y.F_above_at.kp (Y.F_above_at.binds fun _ _ _ _ _ _ us hl => match us, hl with | [_, _], _ => rfl) takes_def rfl (Ps.cons (P.v 7) (Ps.cons (P.v 8) (Ps.nil)))).b) ((P.ite (T.cmp (op_neD hr.units) s_ne (B.v 3) ((L.p (L.lst (Ps.nil))).b)) (P.ix (B.v 3) ((P.i).b)) (P.non)).b))
    (Ss.one (S.ret (P.bl)))
    (Ss.nil))
    (Ss.cons (S.set 4 sc_law.nd (P.bi (c_max rfl) s_max Y.z_max (by decide +kernel) (Bs.cons (B.v 12) (Bs.nil))))
    (Ss.cons (S.ite (T.cmp (op_neD hr.units) s_ne ((P.call (ok_greatest_gap Y) (hr.mono (by decide)) Y.g_greatest_gap Y.F_greatest_gap.kp (Y.F_greatest_gap.binds fun _ _ _ _ _ _ us hl => match us, hl with | [_, _], _ => rfl) takes_def rfl (Ps.cons (P.v 7) (Ps.cons (P.v 8) (Ps.nil)))).b) ((P.ite (T.cmp op_gt (s_cmp _) (B.v 13) ((P.i).b)) (P.non) (P.tup (Ps.cons (P.v 4) (Ps.cons (P.index (pe_bm PySem.F.plainAttrs_list PySem.F.slot_list_index PySem.F.type_list_index mt_index (B.v 12).pe (pa_cons (B.v 4).pe pa_nil))) (Ps.nil))))).b))
    (Ss.one (S.ret (P.bl)))
    (Ss.nil))
    (Ss.cons (S.ite ((TW.or ((TW.and (T.cmp op_lt (s_cmp _) (B.v 13) ((P.i).b)) (TW.and1 (T.cmp op_isnD s_isn ((P.call (ok_greatest_gap Y) (hr.mono (by decide)) Y.g_greatest_gap Y.F_greatest_gap.kp (Y.F_greatest_gap.binds fun _ _ _ _ _ _ us hl => match us, hl with | [_, _], _ => rfl) takes_def rfl (Ps.cons (P.v 8) (Ps.cons (P.v 7) (Ps.nil)))).b) ((P.non).b)))).go) (TW.or1 ((TW.and (T.cmp (op_eqD hr.units) s_eq (B.v 13) ((P.i).b)) (TW.and1 (T.cmp (op_neD hr.units) s_ne ((P.call (ok_greatest_gap Y) (hr.mono (by decide)) Y.g_greatest_gap Y.F_greatest_gap.kp (Y.F_greatest_gap.binds fun _ _ _ _ _ _ us hl => match us, hl with | [_, _], _ => rfl) takes_def rfl (Ps.cons (P.v 8) (Ps.cons (P.v 7) (Ps.nil)))).b) ((P.tup (Ps.cons (P.un un_neg s_neg ((P.bi (c_min rfl) s_min Y.z_min (by decide +kernel) (Bs.cons (B.v 12) (Bs.nil))).b)) (Ps.cons (P.index (pe_bm PySem.F.plainAttrs_list PySem.F.slot_list_index PySem.F.type_list_index mt_index (B.v 12).pe (pa_cons ((P.bi (c_min rfl) s_min Y.z_min (by decide +kernel) (Bs.cons (B.v 12) (Bs.nil))).b).pe pa_nil))) (Ps.nil)))).b)))).go))).go)
    (Ss.one (S.ret (P.bl)))
    (Ss.nil))
    (Ss.cons (S.set 5 sc_law.nd (P.call (ok__law_told Y) (hr.mono (by decide)) Y.g__law_told Y.F__law_told.kp (Y.F__law_told.binds fun _ _ _ _ _ _ us hl => match us, hl with | [_, _], _ => rfl) takes_def rfl (Ps.cons (P.v 7) (Ps.cons (P.i) (Ps.nil)))))
    (Ss.cons (S.setLcF 6 (own := [("x", 14)]) rfl sc_law.nd (I.rng1 Y.z_range (P.i)) (blkOk_by (N := N_law) (sc := defScope s_law) (by decide +kernel)) (by decide) (fun _ _ _ _ _ => G.v 14 sc_law.nd) (fun _ _ _ _ _ => Ts.nil) (fun _ _ _ _ _ => P.op op_sub s_sub ((P.op op_mulD s_mul ((P.ix (B.v 5) (B.v 14)).b) ((P.op op_fdiv s_fdiv (B.v 11) (B.v 2)).b)).b) ((P.op op_mulD s_mul (B.v 14) ((P.op op_fdiv s_fdiv (B.v 10) (B.v 2)).b)).b)) (sw_true rfl rfl rfl (by decide +kernel)))
    (Ss.one (S.ret (P.cmp (op_eqD hr.units) s_eq ((P.call (ok_lines_round Y) (hr.mono (by decide)) Y.g_lines_round Y.F_lines_round.kp (Y.F_lines_round.binds fun _ _ _ _ _ _ us hl => match us, hl with | [_], _ => rfl) takes_def rfl (Ps.cons (P.v 7) (Ps.nil))).b) ((P.tup (Ps.cons (P.tup (Ps.cons (P.bi (c_min rfl) s_min Y.z_min (by decide +kernel) (Bs.cons (B.v 6) (Bs.nil))) (Ps.cons (P.index (pe_bm PySem.F.plainAttrs_list PySem.F.slot_list_index PySem.F.type_list_index mt_index (B.v 6).pe (pa_cons ((P.bi (c_min rfl) s_min Y.z_min (by decide +kernel) (Bs.cons (B.v 6) (Bs.nil))).b).pe pa_nil))) (Ps.nil)))) (Ps.cons (P.tup (Ps.cons (P.bi (c_max rfl) s_max Y.z_max (by decide +kernel) (Bs.cons (B.v 6) (Bs.nil))) (Ps.cons (P.index (pe_bm PySem.F.plainAttrs_list PySem.F.slot_list_index PySem.F.type_list_index mt_index (B.v 6).pe (pa_cons ((P.bi (c_max rfl) s_max Y.z_max (by decide +kernel) (Bs.cons (B.v 6) (Bs.nil))).b).pe pa_nil))) (Ps.nil)))) (Ps.nil)))).b))))))))))))))))))
end
end G


namespace DL
open PySem PySem.Spec PyProof.Rows L2

/-! ### what is printed, reckoned -/
section
variable {α β : Type}
@[simp] theorem x_ok (a : α) (f : α → R β) : (R.ok a >>= f) = f a := (rfl)
@[simp] theorem x_no (f : α → R β) : ((R.no : R α) >>= f) = .no := (rfl)
@[simp] theorem x_ex (c : Str) (p : D) (f : α → R β) : ((R.ex c p : R α) >>= f) = .ex c p := (rfl)
@[simp] theorem x_chk (m : R α) : R.chk true m = m := (rfl)
@[simp] theorem x_ofO (a : α) : R.ofO (some a) = .ok a := (rfl)
@[simp] theorem x_nox (a : α) : (R.ok a).nox = .ok a := (rfl)
@[simp] theorem x_o (a : α) (e : Ev) (k : α → O) : (R.ok a).o e k = k a := (rfl)
@[simp] theorem x_oex (c : Str) (p : D) (e : Ev) (k : α → O) : (R.ex c p : R α).o e k = .ex c p e := (rfl)
@[simp] theorem x_on (a : α) (k : α → O) : (R.ok a).on k = k a := (rfl)
@[simp] theorem x_snx (e : Ev) (k : Ev → O) : (O.nx e).seq k = k e := (rfl)
@[simp] theorem x_srt (d : D) (e : Ev) (k : Ev → O) : (O.rt d e).seq k = .rt d e := (rfl)
@[simp] theorem x_sex (c : Str) (d : D) (e : Ev) (k : Ev → O) : (O.ex c d e).seq k = .ex c d e := (rfl)
@[simp] theorem x_sbk (e : Ev) (k : Ev → O) : (O.bk e).seq k = .bk e := (rfl)
@[simp] theorem x_sct (e : Ev) (k : Ev → O) : (O.ct e).seq k = .ct e := (rfl)
@[simp] theorem x_oofO (e : Ev) : O.ofO (some e) = .nx e := (rfl)
@[simp] theorem x_ochk (o : O) : O.chk true o = o := (rfl)
end
@[simp] theorem x_sq (f k : Ev → O) (e : Ev) : sq f k e = (f e).seq k := (rfl)
@[simp] theorem x_up (f : Ev → R D) (e : Ev) : up f e = f e >>= fun d => .ok (d, e) := (rfl)
@[simp] theorem x_upL (f : Ev → R Cl) (e : Ev) : upL f e = f e >>= fun d => .ok (d, e) := (rfl)
@[simp] theorem x_fz (f : Ev → R Cl) (e : Ev) : fz f e = f e >>= fun d => .ok d.D := (rfl)
@[simp] theorem x_fzM (f : Ev → R (Cl × Ev)) (e : Ev) : fzM f e = f e >>= fun d => .ok (d.1.D, d.2) := (rfl)
@[simp] theorem x_Dl (xs : List D) : (Cl.l xs).D = .lst xs := (rfl)
@[simp] theorem x_Dk (xs : List (Key × D)) : (Cl.k xs).D = .dic xs := (rfl)
@[simp] theorem x_cst (d : D) (e : Ev) : cst d e = .ok d := (rfl)
@[simp] theorem x_bin (f : D → D → Option D) (fa fb : Ev → R D) (e : Ev) : bin f fa fb e = fa e >>= fun a => fb e >>= fun b => .ofO (f a b) := (rfl)
@[simp] theorem x_binM (f : D → D → Option D) (fa fb : Ev → R (D × Ev)) (e : Ev) : binM f fa fb e = fa e >>= fun a => fb a.2 >>= fun b => R.ofO (f a.1 b.1) >>= fun d => .ok (d, b.2) := (rfl)
@[simp] theorem x_un1 (f : D → Option D) (fa : Ev → R D) (e : Ev) : un1 f fa e = fa e >>= fun a => .ofO (f a) := (rfl)
@[simp] theorem x_nilA (e : Ev) : nilA e = .ok [] := (rfl)
@[simp] theorem x_conA (fa : Ev → R D) (fr : Ev → R (List D)) (e : Ev) : conA fa fr e = fa e >>= fun a => fr e >>= fun r => .ok (a :: r) := (rfl)
@[simp] theorem x_nilM (e : Ev) : nilM e = .ok ([], e) := (rfl)
@[simp] theorem x_conM (fa : Ev → R (D × Ev)) (fr : Ev → R (List D × Ev)) (e : Ev) : conM fa fr e = fa e >>= fun a => fr a.2 >>= fun r => .ok (a.1 :: r.1, r.2) := (rfl)
@[simp] theorem x_tupD (fs : Ev → R (List D)) (e : Ev) : tupD fs e = fs e >>= fun ds => R.chk (decide (ds.length ≤ sizeLine)) (.ok (.tup ds)) := (rfl)
@[simp] theorem x_tupM (fs : Ev → R (List D × Ev)) (e : Ev) : tupM fs e = fs e >>= fun ds => R.chk (decide (ds.1.length ≤ sizeLine)) (.ok (.tup ds.1, ds.2)) := (rfl)
@[simp] theorem x_lstD (fs : Ev → R (List D)) (e : Ev) : lstD fs e = fs e >>= fun ds => R.chk (decide (ds.length ≤ sizeLine)) (.ok (.l ds)) := (rfl)
@[simp] theorem x_lstM (fs : Ev → R (List D × Ev)) (e : Ev) : lstM fs e = fs e >>= fun ds => R.chk (decide (ds.1.length ≤ sizeLine)) (.ok (.l ds.1, ds.2)) := (rfl)
def unB : D → R Bool
  | .bl b => .ok b
  | _ => .no
@[simp] theorem x_asB (f : Ev → R D) (e : Ev) : asB f e = f e >>= unB := by
  unfold asB
  congr 1
@[simp] theorem x_unB (b : Bool) : unB (.bl b) = .ok b := (rfl)
def unBM : D × Ev → R (Bool × Ev) := fun d => unB d.1 >>= fun b => .ok (b, d.2)
@[simp] theorem x_asBM (f : Ev → R (D × Ev)) (e : Ev) : asBM f e = f e >>= unBM := by
  unfold asBM
  congr 1
  funext d
  obtain ⟨d, e⟩ := d
  cases d <;> rfl
@[simp] theorem x_unBM (b : Bool) (e : Ev) : unBM (.bl b, e) = .ok (b, e) := (rfl)
section
variable (a b : Ev → R Bool) (f g : Ev → R D) (u v : Ev → O) (e : Ev)
@[simp] theorem x_andT : andT a b e = a e >>= fun c => if c = true then b e else .ok false := (rfl)
@[simp] theorem x_orT : orT a b e = a e >>= fun c => if c = true then .ok true else b e := (rfl)
@[simp] theorem x_notT : notT a e = a e >>= fun c => .ok (!c) := (rfl)
@[simp] theorem x_ifP : ifP a f g e = a e >>= fun k => if k = true then f e else g e := (rfl)
@[simp] theorem x_andV : andV f g e = (f e >>= unB) >>= fun c => if c = true then g e else .ok (.bl false) := by rw [← x_asB]; rfl
@[simp] theorem x_orV : orV f g e = (f e >>= unB) >>= fun c => if c = true then .ok (.bl true) else g e := by rw [← x_asB]; rfl
@[simp] theorem x_notV : notV f e = (f e >>= unB) >>= fun c => .ok (.bl (!c)) := by rw [← x_asB]; rfl
@[simp] theorem x_asg (gt : D → Ev → Option Ev) : asg f gt e = (f e).o e fun d => .ofO (gt d e) := (rfl)
@[simp] theorem x_asgM (fm : Ev → R (D × Ev)) (gt : D → Ev → Option Ev) : asgM fm gt e = (fm e).on fun d => .ofO (gt d.1 d.2) := (rfl)
@[simp] theorem x_asgL (fl : Ev → R Cl) (i : Nat) : asgL fl i e = (fl e).o e fun c => .ofO (setO i c e) := (rfl)
@[simp] theorem x_asgML (fl : Ev → R (Cl × Ev)) (i : Nat) : asgML fl i e = (fl e).on fun c => .ofO (setO i c.1 c.2) := (rfl)
@[simp] theorem x_rtn : rtn f e = (f e).o e fun d => .rt d e := (rfl)
@[simp] theorem x_rtnM (fm : Ev → R (D × Ev)) : rtnM fm e = (fm e).on fun d => .rt d.1 d.2 := (rfl)
@[simp] theorem x_drp : drp f e = (f e).o e fun _ => .nx e := (rfl)
@[simp] theorem x_drpM (fm : Ev → R (D × Ev)) : drpM fm e = (fm e).on fun d => .nx d.2 := (rfl)
@[simp] theorem x_ifS : ifS a u v e = (a e).o e fun k => if k = true then u e else v e := (rfl)
@[simp] theorem x_ifSM (c : Ev → R (Bool × Ev)) : ifSM c u v e = (c e).on fun k => if k.1 = true then u k.2 else v k.2 := (rfl)
@[simp] theorem x_biP (h : List D → Option D) (fs : Ev → R (List D)) : biP h fs e = fs e >>= fun ds => .ofO (h ds) := (rfl)
@[simp] theorem x_biM (h : List D → Option D) (fs : Ev → R (List D × Ev)) : biM h fs e = fs e >>= fun ds => R.ofO (h ds.1) >>= fun d => .ok (d, ds.2) := (rfl)
@[simp] theorem x_biL (h : List D → Option Cl) (fs : Ev → R (List D)) : biL h fs e = fs e >>= fun ds => .ofO (h ds) := (rfl)
@[simp] theorem x_slP (h : D → Option Int → Option Int → Option D) (fl fh : Ev → R (Option Int)) : slP h f fl fh e = f e >>= fun a => fl e >>= fun l => fh e >>= fun k => .ofO (h a l k) := (rfl)
def unI : D → R (Option Int)
  | .int i => .ok (some i)
  | _ => .no
@[simp] theorem x_asI : asI f e = f e >>= unI := by
  unfold asI
  congr 1
@[simp] theorem x_unI (i : Int) : unI (.int i) = .ok (some i) := (rfl)
@[simp] theorem x_forS (fi : Ev → R (List D)) (gt : D → Ev → Option Ev) : forS fi gt u e = (fi e).o e fun ds => forL gt u ds e := (rfl)
@[simp] theorem x_forSM (fi : Ev → R (List D × Ev)) (gt : D → Ev → Option Ev) : forSM fi gt u e = (fi e).on fun r => forL gt u r.1 r.2 := (rfl)
@[simp] theorem x_itD : itD f e = f e >>= seqOf := (rfl)
@[simp] theorem x_lcP (vs : List Nat) (fi : Ev → R (List D)) (gt : D → Ev → Option Ev) (ft : Ev → R Bool) (fe : Ev → R D) : lcP vs fi gt ft fe e = fi e >>= fun ds => R.chk (decide (ds.length ≤ sizeLine)) ((lcL gt ft fe ds (wipeE vs e)).nox >>= fun r => .ok (.l r)) := (rfl)
@[simp] theorem x_lcM (vs : List Nat) (fi : Ev → R (List D × Ev)) (gt : D → Ev → Option Ev) (ft : Ev → R (Bool × Ev)) (fe : Ev → R (D × Ev)) : lcM vs fi gt ft fe e = fi e >>= fun ds => R.chk (decide (ds.1.length ≤ sizeLine)) (lcLM vs gt ft fe ds.1 ds.2 >>= fun r => .ok (.l r.1, r.2)) := (rfl)
@[simp] theorem x_appS (i : Nat) : appS i f e = O.chk (ownL e i) ((f e).o e fun d => .ofO (updL i (app1 d) e)) := (rfl)
@[simp] theorem x_appSM (i : Nat) (fm : Ev → R (D × Ev)) : appSM i fm e = O.chk (ownL e i) ((fm e).on fun d => .ofO (updL i (app1 d.1) d.2)) := (rfl)
@[simp] theorem x_extS (i : Nat) : extS i f e = O.chk (ownL e i) ((f e).o e fun d => .ofO (updL i (extD d) e)) := (rfl)
@[simp] theorem x_stS (i : Nat) : stS i g f e = O.chk (ownL e i) ((f e).o e fun d => (g e).o e fun j => .ofO (updL i (set1 j d) e)) := (rfl)
@[simp] theorem x_stSM (i : Nat) (fm : Ev → R (D × Ev)) : stSM i g fm e = O.chk (ownL e i) ((fm e).on fun d => O.chk (ownL d.2 i) ((g d.2).o d.2 fun j => .ofO (updL i (set1 j d.1) d.2))) := (rfl)
@[simp] theorem x_par2 (i j : Nat) (fs : Ev → R (List D)) : par2 i j fs e = (fs e).o e fun ds => .ofO (set2 i j ds e) := (rfl)
@[simp] theorem x_par3 (i j k : Nat) (fs : Ev → R (List D)) : par3 i j k fs e = (fs e).o e fun ds => .ofO (set3 i j k ds e) := (rfl)
@[simp] theorem x_parM2 (i j : Nat) (fs : Ev → R (List D × Ev)) : parM2 i j fs e = (fs e).on fun ds => .ofO (set2 i j ds.1 ds.2) := (rfl)
@[simp] theorem x_parM3 (i j k : Nat) (fs : Ev → R (List D × Ev)) : parM3 i j k fs e = (fs e).on fun ds => .ofO (set3 i j k ds.1 ds.2) := (rfl)
def parLk (i j : Nat) (c : Cl) (e : Ev) : List D → O
  | [b] => .ofO ((setO i c e).bind (setV j b))
  | _ => .no
def parLk3 (i j k : Nat) (c : Cl) (e : Ev) : List D → O
  | [a, b] => .ofO (((setO i c e).bind (setV j a)).bind (setV k b))
  | _ => .no
@[simp] theorem x_parL2 (i j : Nat) (fl : Ev → R Cl) (fs : Ev → R (List D)) : parL2 i j fl fs e = (fl e).o e fun c => (fs e).o e (parLk i j c e) := by
  unfold parL2
  congr 1
@[simp] theorem x_parL3 (i j k : Nat) (fl : Ev → R Cl) (fs : Ev → R (List D)) : parL3 i j k fl fs e = (fl e).o e fun c => (fs e).o e (parLk3 i j k c e) := by
  unfold parL3
  congr 1
@[simp] theorem x_parLk (i j : Nat) (c : Cl) (b : D) : parLk i j c e [b] = .ofO ((setO i c e).bind (setV j b)) := (rfl)
@[simp] theorem x_parLk3 (i j k : Nat) (c : Cl) (a b : D) : parLk3 i j k c e [a, b] = .ofO (((setO i c e).bind (setV j a)).bind (setV k b)) := (rfl)
@[simp] theorem x_set2 (i j : Nat) (a b : D) : set2 i j [a, b] e = (setV i a e).bind (setV j b) := (rfl)
@[simp] theorem x_set3 (i j k : Nat) (a b c : D) : set3 i j k [a, b, c] e = ((setV i a e).bind (setV j b)).bind (setV k c) := (rfl)
@[simp] theorem x_ifM (c : Ev → R (Bool × Ev)) (fa fb : Ev → R (D × Ev)) : ifM c fa fb e = c e >>= fun k => if k.1 = true then fa k.2 else fb k.2 := (rfl)
@[simp] theorem x_andTM (fa fb : Ev → R (Bool × Ev)) : andTM fa fb e = fa e >>= fun c => if c.1 = true then fb c.2 else .ok (false, c.2) := (rfl)
@[simp] theorem x_orTM (fa fb : Ev → R (Bool × Ev)) : orTM fa fb e = fa e >>= fun c => if c.1 = true then .ok (true, c.2) else fb c.2 := (rfl)
end
section
variable (φ : List D → R D) (fs : Ev → R (List D)) (fm : Ev → R (List D × Ev)) (f g h : Ev → R D) (m : Ev → R (D × Ev)) (e : Ev)
@[simp] theorem x_callD : callD φ fs e = fs e >>= φ := (rfl)
@[simp] theorem x_callBD : callBD φ fs e = fs e >>= fun ds => flatR (φ ds) := (rfl)
@[simp] theorem x_callM : callM φ fm e = fm e >>= fun ds => φ ds.1 >>= fun d => .ok (d, ds.2) := (rfl)
@[simp] theorem x_isiP (t : Ty4) : isiP t f e = f e >>= fun d => R.ofO ((isiT t d).map D.bl) := (rfl)
@[simp] theorem x_indP : indP f g e = f e >>= fun a => R.chk (isLst a) (g e >>= fun b => .ofO (index2 a b)) := (rfl)
@[simp] theorem x_opL (k : D → D → Option Cl) : opL k f g e = f e >>= fun a => g e >>= fun b => .ofO (k a b) := (rfl)
@[simp] theorem x_itR1 : itR1 f e = f e >>= rng1Of := (rfl)
@[simp] theorem x_itR2 : itR2 f g e = f e >>= fun i => g e >>= fun j => rng2Of i j := (rfl)
@[simp] theorem x_itR3 : itR3 f g h e = f e >>= fun i => g e >>= fun j => h e >>= fun k => rng3Of i j k := (rfl)
@[simp] theorem x_upI : upI fs e = fs e >>= fun d => .ok (d, e) := (rfl)
@[simp] theorem x_itR1M : itR1M m e = m e >>= fun d => rng1Of d.1 >>= fun l => .ok (l, d.2) := (rfl)
@[simp] theorem x_itM : itM m e = m e >>= fun d => seqOf d.1 >>= fun l => .ok (l, d.2) := (rfl)
@[simp] theorem x_upT (t : Ev → R Bool) : upT t e = t e >>= fun b => .ok (b, e) := (rfl)
@[simp] theorem x_frzS (i : Nat) (s : Ev → O) : frzS i s e = s (frz i e) := (rfl)
@[simp] theorem x_tsM : tsM e = .ok (true, e) := (rfl)
@[simp] theorem x_tsT : tsT e = .ok true := (rfl)
@[simp] theorem x_poN : poN e = .ok none := (rfl)
@[simp] theorem x_rtN : rtN e = .rt .non e := (rfl)
end
/-! what a def gives -/
def outP : O → R D
  | .rt d _ => .ok d
  | .nx _ => .ok .non
  | .ex c p _ => .ex c p
  | _ => .no
@[simp] theorem x_runP (n : Nat) (b : Ev → O) (ds : List D) : runP n b ds = outP (b (ev0 n ds)) := by
  unfold runP
  cases b (ev0 n ds) <;> rfl
@[simp] theorem x_out1 (d : D) (e : Ev) : outP (.rt d e) = .ok d := (rfl)
@[simp] theorem x_out2 (e : Ev) : outP (.nx e) = .ok .non := (rfl)
@[simp] theorem x_out3 (c : Str) (d : D) (e : Ev) : outP (.ex c d e) = .ex c d := (rfl)
def outIO : O → R (D × List D)
  | .rt d e => ioAt e d
  | .nx e => ioAt e .non
  | _ => .no
@[simp] theorem x_runIO (n : Nat) (b : Ev → O) (xs ds : List D) : runIO n b xs ds = outIO (b (evIO n xs ds)) := by
  unfold runIO
  cases b (evIO n xs ds) <;> rfl
@[simp] theorem x_outI1 (d : D) (e : Ev) : outIO (.rt d e) = ioAt e d := (rfl)
@[simp] theorem x_outI2 (e : Ev) : outIO (.nx e) = ioAt e .non := (rfl)
@[simp] theorem x_evIO (n : Nat) (xs ds : List D) : evIO n xs ds = .io xs :: (ds.map Sl.im ++ List.replicate (n - (ds.length + 1)) .un) := (rfl)
@[simp] theorem x_ev0 (n : Nat) (ds : List D) : ev0 n ds = ds.map Sl.im ++ List.replicate (n - ds.length) .un := (rfl)
/-! slots -/
def rdB : Option Sl → R D
  | some (.im d) => .ok d
  | some (.ow c) => .ok c.D
  | some (.io xs) => .ok (.lst xs)
  | _ => .no
def rdP : Option Sl → R D
  | some (.im d) => .ok d
  | _ => .no
@[simp] theorem x_vB (i : Nat) (e : Ev) : vB i e = rdB e[i]? := (rfl)
@[simp] theorem x_vP (i : Nat) (e : Ev) : vP i e = rdP e[i]? := (rfl)
@[simp] theorem x_rdB1 (d : D) : rdB (some (.im d)) = .ok d := (rfl)
@[simp] theorem x_rdB2 (d : Cl) : rdB (some (.ow d)) = .ok d.D := (rfl)
@[simp] theorem x_rdB3 (d : List D) : rdB (some (.io d)) = .ok (.lst d) := (rfl)
@[simp] theorem x_rdP1 (d : D) : rdP (some (.im d)) = .ok d := (rfl)
def msO : Option Sl → Bool
  | some (.io _) => false
  | _ => true
@[simp] theorem x_ms1 (d : D) : msO (some (.im d)) = true := (rfl)
@[simp] theorem x_ms2 (d : Cl) : msO (some (.ow d)) = true := (rfl)
@[simp] theorem x_ms3 : msO (some .un) = true := (rfl)
@[simp] theorem x_setV (i : Nat) (d : D) (e : Ev) : setV i d e = if (msO e[i]? && decide (i < e.length)) = true then some (e.set i (.im d)) else none := (rfl)
@[simp] theorem x_setO (i : Nat) (d : Cl) (e : Ev) : setO i d e = if (msO e[i]? && decide (i < e.length)) = true then some (e.set i (.ow d)) else none := (rfl)
def owO : Option Sl → Bool
  | some (.ow (.l _)) => true
  | some (.io _) => true
  | _ => false
@[simp] theorem x_ownL (e : Ev) (i : Nat) : ownL e i = owO e[i]? := (rfl)
@[simp] theorem x_ow1 (xs : List D) : owO (some (.ow (.l xs))) = true := (rfl)
@[simp] theorem x_ow2 (xs : List D) : owO (some (.io xs)) = true := (rfl)
def owA : Option Sl → Bool
  | some (.ow _) => true
  | some (.io _) => true
  | _ => false
@[simp] theorem x_own (e : Ev) (i : Nat) : own e i = owA e[i]? := (rfl)
@[simp] theorem x_owA1 (c : Cl) : owA (some (.ow c)) = true := (rfl)
@[simp] theorem x_owA2 (xs : List D) : owA (some (.io xs)) = true := (rfl)
def updO (i : Nat) (h : List D → Option (List D)) (e : Ev) : Option Sl → Option Ev
  | some (.ow (.l xs)) => (h xs).map fun ys => e.set i (.ow (.l ys))
  | some (.io xs) => (h xs).map fun ys => e.set i (.io ys)
  | _ => none
@[simp] theorem x_updL (i : Nat) (h : List D → Option (List D)) (e : Ev) : updL i h e = updO i h e e[i]? := (rfl)
@[simp] theorem x_up1 (i : Nat) (h : List D → Option (List D)) (e : Ev) (xs : List D) : updO i h e (some (.ow (.l xs))) = (h xs).map fun ys => e.set i (.ow (.l ys)) := (rfl)
@[simp] theorem x_up2 (i : Nat) (h : List D → Option (List D)) (e : Ev) (xs : List D) : updO i h e (some (.io xs)) = (h xs).map fun ys => e.set i (.io ys) := (rfl)
def frO (i : Nat) (e : Ev) : Option Sl → Ev
  | some (.ow c) => e.set i (.im c.D)
  | _ => e
@[simp] theorem x_frz (i : Nat) (e : Ev) : frz i e = frO i e e[i]? := (rfl)
@[simp] theorem x_fr1 (i : Nat) (e : Ev) (c : Cl) : frO i e (some (.ow c)) = e.set i (.im c.D) := (rfl)
@[simp] theorem x_fr2 (i : Nat) (e : Ev) (d : D) : frO i e (some (.im d)) = e := (rfl)
@[simp] theorem x_gnil (e : Ev) : gnil [] e = some e := (rfl)
@[simp] theorem x_gcon (f : D → Ev → Option Ev) (k : List D → Ev → Option Ev) (d : D) (r : List D) (e : Ev) : gcon f k (d :: r) e = (f d e).bind fun e1 => k r e1 := (rfl)
@[simp] theorem x_gtup (k : List D → Ev → Option Ev) (ds : List D) (e : Ev) : gtup k (.tup ds) e = k ds e := (rfl)
@[simp] theorem x_seqL (ds : List D) : seqOf (.lst ds) = .ok ds := (rfl)
@[simp] theorem x_seqT (ds : List D) : seqOf (.tup ds) = .ok ds := (rfl)
@[simp] theorem x_wipe0 (e : Ev) : wipeE [] e = e := (rfl)
@[simp] theorem x_wipe1 (v : Nat) (vs : List Nat) (e : Ev) : wipeE (v :: vs) e = (wipeE vs e).set v .un := (rfl)
def cIO (i : Nat) (φ : List D → List D → R (D × List D)) (ds : List D × Ev) : Option Sl → R (D × Ev)
  | some (.ow (.l xs)) => φ xs ds.1 >>= fun r => .ok (r.1, ds.2.set i (.ow (.l r.2)))
  | some (.io xs) => φ xs ds.1 >>= fun r => .ok (r.1, ds.2.set i (.io r.2))
  | _ => .no
@[simp] theorem x_callIO (i : Nat) (φ : List D → List D → R (D × List D)) (fs : Ev → R (List D × Ev)) (e : Ev) : callIO i φ fs e = R.chk (own e i) (fs e >>= fun ds => cIO i φ ds ds.2[i]?) := (rfl)
@[simp] theorem x_cIO1 (i : Nat) (φ : List D → List D → R (D × List D)) (ds : List D × Ev) (xs : List D) : cIO i φ ds (some (.ow (.l xs))) = (φ xs ds.1 >>= fun r => .ok (r.1, ds.2.set i (.ow (.l r.2)))) := (rfl)
@[simp] theorem x_cIO2 (i : Nat) (φ : List D → List D → R (D × List D)) (ds : List D × Ev) (xs : List D) : cIO i φ ds (some (.io xs)) = (φ xs ds.1 >>= fun r => .ok (r.1, ds.2.set i (.io r.2))) := (rfl)
/-! operations -/
section
variable (i j : Int) (xs ys : List D)
@[simp] theorem x_addI : addD (.int i) (.int j) = some (.int (i + j)) := (rfl)
@[simp] theorem x_addT : addD (.tup xs) (.tup ys) = if xs.length + ys.length ≤ sizeLine then some (.tup (xs ++ ys)) else none := (rfl)
@[simp] theorem x_addL : addD (.lst xs) (.lst ys) = if xs.length + ys.length ≤ sizeLine then some (.lst (xs ++ ys)) else none := (rfl)
@[simp] theorem x_addII : addII (.int i) (.int j) = some (.int (i + j)) := (rfl)
@[simp] theorem x_subI : subD (.int i) (.int j) = some (.int (i - j)) := (rfl)
@[simp] theorem x_mulI : mulD (.int i) (.int j) = if (small i || small j) = true then some (.int (i * j)) else none := (rfl)
@[simp] theorem x_mulT : mulD (.tup xs) (.int j) = if (decide (-(2 ^ 63) ≤ j ∧ j < 2 ^ 63) && decide (xs.length * j.toNat ≤ sizeLine)) = true then some (.tup (List.replicate j.toNat xs).flatten) else none := (rfl)
@[simp] theorem x_mulL : mulD (.lst xs) (.int j) = if (decide (-(2 ^ 63) ≤ j ∧ j < 2 ^ 63) && decide (xs.length * j.toNat ≤ sizeLine)) = true then some (.lst (List.replicate j.toNat xs).flatten) else none := (rfl)
@[simp] theorem x_fdiv : fdivD (.int i) (.int j) = if 0 < j ∧ j < 1073741824 then some (.int (i / j)) else none := (rfl)
@[simp] theorem x_mod : modD (.int i) (.int j) = if 0 < j then some (.int (i % j)) else none := (rfl)
@[simp] theorem x_neg : negD (.int i) = some (.int (-i)) := (rfl)
@[simp] theorem x_cmp (p : Int → Int → Bool) : cmpD p (.int i) (.int j) = some (.bl (p i j)) := (rfl)
@[simp] theorem x_isN (d : D) : isD d .non = some (.bl (isN d)) := by cases d <;> rfl
@[simp] theorem x_isnN (d : D) : isnD d .non = some (.bl (!isN d)) := by cases d <;> rfl
@[simp] theorem x_isN1 : isN .non = true := (rfl)
@[simp] theorem x_isN2 : isN (.int i) = false := (rfl)
@[simp] theorem x_isN3 : isN (.tup xs) = false := (rfl)
@[simp] theorem x_isN4 : isN (.lst xs) = false := (rfl)
@[simp] theorem x_ixL : ixD (.lst xs) (.int i) = atI xs i := (rfl)
@[simp] theorem x_ixT : ixD (.tup xs) (.int i) = atI xs i := (rfl)
@[simp] theorem x_slL (l h : Option Int) : slD (.lst xs) l h = some (.lst (cutD xs l h)) := (rfl)
@[simp] theorem x_slT (l h : Option Int) : slD (.tup xs) l h = some (.tup (cutD xs l h)) := (rfl)
@[simp] theorem x_f1 (f : D → Option D) (a : D) : f1 f [a] = f a := (rfl)
@[simp] theorem x_f2 (f : D → D → Option D) (a b : D) : f2 f [a, b] = f a b := (rfl)
@[simp] theorem x_lenL : len1 (.lst xs) = some (.int xs.length) := (rfl)
@[simp] theorem x_lenT : len1 (.tup xs) = some (.int xs.length) := (rfl)
@[simp] theorem x_lenA : len1 (.arg xs) = some (.int xs.length) := (rfl)
@[simp] theorem x_tupL : tuple1 (.lst xs) = some (.tup xs) := (rfl)
@[simp] theorem x_tupT : tuple1 (.tup xs) = some (.tup xs) := (rfl)
@[simp] theorem x_lstA : list1 [.arg xs] = some (.l xs) := (rfl)
@[simp] theorem x_lstL : list1 [.lst xs] = some (.l xs) := (rfl)
@[simp] theorem x_lstT : list1 [.tup xs] = some (.l xs) := (rfl)
@[simp] theorem x_abs : abs1 (.int i) = some (.int (if i < 0 then -i else i)) := (rfl)
@[simp] theorem x_int : int1 (.int i) = some (.int i) := (rfl)
@[simp] theorem x_intb (b : Bool) : int1 (.bl b) = some (.int (if b then 1 else 0)) := (rfl)
@[simp] theorem x_gcd : gcd2 (.int i) (.int j) = some (.int ((Nat.gcd i.natAbs j.natAbs : Nat) : Int)) := (rfl)
@[simp] theorem x_max2 : maxDs [.int i, .int j] = some (.int (if j > i then j else i)) := (rfl)
@[simp] theorem x_min2 : minDs [.int i, .int j] = some (.int (if j < i then j else i)) := (rfl)
@[simp] theorem x_maxL : maxDs [.lst xs] = (intsOf xs).bind fun ns => if 0 < ns.length then some (.int (maxI ns)) else none := (rfl)
@[simp] theorem x_minL : minDs [.lst xs] = (intsOf xs).bind fun ns => if 0 < ns.length then some (.int (minI ns)) else none := (rfl)
@[simp] theorem x_intsOf (ns : List Int) : intsOf (ns.map D.int) = some ns := intsOf_map ns
@[simp] theorem x_sumL : sum1 (.lst xs) = (intsOf xs).map fun ns => .int ns.sum := (rfl)
@[simp] theorem x_sumT : sum1 (.tup xs) = (intsOf xs).map fun ns => .int ns.sum := (rfl)
@[simp] theorem x_blsOf (ns : List Bool) : blsOf (ns.map D.bl) = some ns := blsOf_map ns
@[simp] theorem x_allL : all1 (.lst xs) = (blsOf xs).map fun bs => .bl (bs.all _root_.id) := (rfl)
@[simp] theorem x_anyL : any1 (.lst xs) = (blsOf xs).map fun bs => .bl (bs.any _root_.id) := (rfl)
@[simp] theorem x_isi1 : isiT .int (.int i) = some true := (rfl)
@[simp] theorem x_isi2 : isiT .bool (.int i) = some false := (rfl)
@[simp] theorem x_isi3 : isiT .tup (.tup xs) = some true := (rfl)
@[simp] theorem x_isi4 : isiT .tup (.int i) = some false := (rfl)
@[simp] theorem x_isL : isLst (.lst xs) = true := (rfl)
@[simp] theorem x_app1 (d : D) : app1 d xs = if xs.length < sizeLine then some (xs ++ [d]) else none := (rfl)
@[simp] theorem x_extL : extD (.lst ys) xs = if xs.length + ys.length ≤ sizeLine then some (xs ++ ys) else none := (rfl)
@[simp] theorem x_extT : extD (.tup ys) xs = if xs.length + ys.length ≤ sizeLine then some (xs ++ ys) else none := (rfl)
@[simp] theorem x_set1 (d : D) : set1 (.int i) d xs = (ixN xs.length i).map fun j => xs.set j d := (rfl)
@[simp] theorem x_rng1 : rng1Of (.int j) = R.chk (big j) (.ok (rng 0 j.toNat)) := (rfl)
@[simp] theorem x_rng2 : rng2Of (.int i) (.int j) = R.chk (big i && big j) (.ok (rng i (j - i).toNat)) := (rfl)
end
@[simp] theorem x_line : sizeLine = 16777216 := (rfl)
theorem at_nat {α : Type} {xs : List α} {k : Nat} {y : α} (h : xs[k]? = some y) : atI xs (k : Int) = some y := by
  have hl := (List.getElem?_eq_some_iff.mp h).1
  unfold atI ixN
  rw [if_pos (by omega), if_pos (by omega)]
  simpa using h
theorem at_int {α : Type} {xs : List α} {i : Int} {y : α} (h0 : 0 ≤ i) (h : xs[i.toNat]? = some y) : atI xs i = some y := by
  have := at_nat h
  rwa [Int.toNat_of_nonneg h0] at this
@[simp] theorem at_0 {α : Type} (x : α) (xs : List α) : atI (x :: xs) 0 = some x := at_nat (k := 0) rfl
@[simp] theorem at_1 {α : Type} (x y : α) (xs : List α) : atI (x :: y :: xs) 1 = some y := at_nat (k := 1) rfl
@[simp] theorem at_2 {α : Type} (x y z : α) (xs : List α) : atI (x :: y :: z :: xs) 2 = some z := at_nat (k := 2) rfl
@[simp] theorem at_3 {α : Type} (x y z u : α) (xs : List α) : atI (x :: y :: z :: u :: xs) 3 = some u := at_nat (k := 3) rfl
theorem big_of {i : Int} (h : -1000000000 ≤ i) (h2 : i ≤ 1000000000) : big i = true := decide_eq_true ⟨by omega, by omega⟩
theorem small_of {i : Int} (h : -1000000000 ≤ i) (h2 : i ≤ 1000000000) : small i = true := decide_eq_true ⟨by omega, by omega⟩

def ioA (d : D) : Option Sl → R (D × List D)
  | some (.io ys) => .ok (d, ys)
  | _ => .no
@[simp] theorem x_ioAt (e : Ev) (d : D) : ioAt e d = ioA d e[0]? := (rfl)
@[simp] theorem x_ioA (d : D) (ys : List D) : ioA d (some (.io ys)) = .ok (d, ys) := (rfl)
@[simp] theorem x_pow (i j : Int) : powD (.int i) (.int j) = if 0 ≤ j ∧ j ≤ 1000000 ∧ i.natAbs < 2 ^ 64 then some (.int (i ^ j.toNat)) else none := (rfl)
theorem at_ints {ns : List Int} {p : Int} (h0 : 0 ≤ p) (h1 : p < ns.length) : ∃ x ∈ ns, atI (ns.map D.int) p = some (.int x) := by
  have hl : p.toNat < ns.length := by omega
  refine ⟨ns[p.toNat], List.getElem_mem hl, at_int h0 ?_⟩
  rw [List.getElem?_map, List.getElem?_eq_getElem hl]
  rfl
theorem ix_nat {n k : Nat} (h : k < n) : ixN n (k : Int) = some k := by
  unfold ixN
  rw [if_pos (by omega), if_pos (by omega), Int.toNat_natCast]

/-! ### == of plain data -/
mutual
def okd : Nat → D → Bool
  | _, .non | _, .bl _ | _, .int _ => true
  | _, .str x => PySem.PyData.strOk x
  | 0, _ => false
  | n + 1, .tup xs => okds n xs
  | n + 1, .lst xs => okds n xs
  | _, _ => false
def okds : Nat → List D → Bool
  | _, [] => true
  | n, x :: xs => okd n x && okds n xs
end
mutual
theorem okd_lay : ∀ (n : Nat) (d : D), okd n d = true → PyData.canLay0 (conv d) = true ∧ PyData.depth (conv d) ≤ n ∧ PyData.eqv (conv d) (conv d) = true
  | _, .non, _ => ⟨rfl, Nat.zero_le _, rfl⟩
  | _, .bl b, _ => ⟨rfl, Nat.zero_le _, by simp [conv, PyData.eqv]⟩
  | _, .int i, _ => ⟨rfl, Nat.zero_le _, by simp [conv, PyData.eqv]⟩
  | 0, .str x, h => ⟨by simpa [okd, conv, PyData.canLay0] using h, by simp [conv, PyData.depth], by simp [conv, PyData.eqv]⟩
  | n + 1, .str x, h => ⟨by simpa [okd, conv, PyData.canLay0] using h, by simp [conv, PyData.depth], by simp [conv, PyData.eqv]⟩
  | 0, .tup _, h => by simp [okd] at h
  | 0, .lst _, h => by simp [okd] at h
  | n + 1, .tup xs, h => by
    obtain ⟨h1, h2, h3⟩ := okds_lay n xs (by simpa [okd] using h)
    exact ⟨by simpa [conv, PyData.canLay0] using h1, by simpa [conv, PyData.depth] using h2, by simpa [conv, PyData.eqv] using h3⟩
  | n + 1, .lst xs, h => by
    obtain ⟨h1, h2, h3⟩ := okds_lay n xs (by simpa [okd] using h)
    exact ⟨by simpa [conv, PyData.canLay0] using h1, by simpa [conv, PyData.depth] using h2, by simpa [conv, PyData.eqv] using h3⟩
  | 0, .dic _, h => by simp [okd] at h
  | n + 1, .dic _, h => by simp [okd] at h
  | 0, .fn _, h => by simp [okd] at h
  | n + 1, .fn _, h => by simp [okd] at h
  | 0, .arg _, h => by simp [okd] at h
  | n + 1, .arg _, h => by simp [okd] at h
theorem okds_lay : ∀ (n : Nat) (ds : List D), okds n ds = true → PyData.canLayAll0 (convs ds) = true ∧ PyData.depthAll (convs ds) ≤ n ∧ PyData.eqvAll (convs ds) (convs ds) = true
  | _, [], _ => ⟨rfl, Nat.zero_le _, rfl⟩
  | n, x :: xs, h => by
    have h' : (okd n x && okds n xs) = true := by simpa [okds] using h
    rw [Bool.and_eq_true] at h'
    obtain ⟨h1, h2, h3⟩ := okd_lay n x h'.1
    obtain ⟨h4, h5, h6⟩ := okds_lay n xs h'.2
    exact ⟨by simp [convs, PyData.canLayAll0, h1, h4], by simp [convs, PyData.depthAll]; omega, by simp [convs, PyData.eqvAll, h3, h6]⟩
end
theorem okd_shp {n : Nat} {d : D} (h : okd n d = true) (hn : n ≤ 64) : shp d = true := by
  obtain ⟨h1, h2, _⟩ := okd_lay n d h
  unfold shp SeqAt.shaped
  rw [h1, decide_eq_true (by omega)]
  rfl
theorem eq_same {n : Nat} {d : D} (h : okd n d = true) (hn : n ≤ 64) : eqD d d = some (.bl true) := by
  unfold eqD eqv
  rw [okd_shp h hn, (okd_lay n d h).2.2]
  rfl
theorem ne_same {n : Nat} {d : D} (h : okd n d = true) (hn : n ≤ 64) : neD d d = some (.bl false) := by
  unfold neD eqv
  rw [okd_shp h hn, (okd_lay n d h).2.2]
  rfl
theorem okds_ints (n : Nat) (ns : List Int) : okds n (ns.map D.int) = true := by
  induction ns with
  | nil => simp [okds]
  | cons i r ih => simp [okds, okd, ih]
@[simp] theorem x_eqI (i j : Int) : eqD (.int i) (.int j) = some (.bl (i == j)) := by
  unfold eqD eqv
  rw [okd_shp (n := 0) (by simp [okd]) (by decide), okd_shp (n := 0) (by simp [okd]) (by decide)]
  simp [conv, PyData.eqv]
@[simp] theorem x_neI (i j : Int) : neD (.int i) (.int j) = some (.bl (!(i == j))) := by
  unfold neD eqv
  rw [okd_shp (n := 0) (by simp [okd]) (by decide), okd_shp (n := 0) (by simp [okd]) (by decide)]
  simp [conv, PyData.eqv]
theorem ne_nilT {n : Nat} {xs : List D} (h : okd n (.tup xs) = true) (hn : n ≤ 64) : neD (.tup xs) (.tup []) = some (.bl (!xs.isEmpty)) := by
  unfold neD eqv
  rw [okd_shp h hn, okd_shp (n := 1) (by simp [okd, okds]) (by decide)]
  cases xs <;> simp [conv, convs, PyData.eqv, PyData.eqvAll]
theorem ne_nilL {n : Nat} {xs : List D} (h : okd n (.lst xs) = true) (hn : n ≤ 64) : neD (.lst xs) (.lst []) = some (.bl (!xs.isEmpty)) := by
  unfold neD eqv
  rw [okd_shp h hn, okd_shp (n := 1) (by simp [okd, okds]) (by decide)]
  cases xs <;> simp [conv, convs, PyData.eqv, PyData.eqvAll]
theorem okT {n : Nat} {xs : List D} (h : okds n xs = true) : okd (n + 1) (.tup xs) = true := by simpa [okd] using h
theorem okL {n : Nat} {xs : List D} (h : okds n xs = true) : okd (n + 1) (.lst xs) = true := by simpa [okd] using h
end DL


namespace DL
open PySem PySem.Spec PyProof.Rows L2

/-! ### loops, reckoned -/
@[simp] theorem x_lcL0 (gt : D → Ev → Option Ev) (ft : Ev → R Bool) (fe : Ev → R D) (e : Ev) : lcL gt ft fe [] e = .ok [] := (rfl)
theorem x_lcL1 (gt : D → Ev → Option Ev) (ft : Ev → R Bool) (fe : Ev → R D) (d : D) (ds : List D) (e : Ev) : lcL gt ft fe (d :: ds) e = R.ofO (gt d e) >>= fun e1 => (ft e1).nox >>= fun b => if b = true then (fe e1).nox >>= fun y => lcL gt ft fe ds e >>= fun r => .ok (y :: r) else lcL gt ft fe ds e := by
  show (match gt d e with | none => _ | some e1 => _) = _
  cases gt d e <;> rfl
@[simp] theorem x_lcLM0 (vs : List Nat) (gt : D → Ev → Option Ev) (ft : Ev → R (Bool × Ev)) (fe : Ev → R (D × Ev)) (e : Ev) : lcLM vs gt ft fe [] e = .ok ([], e) := (rfl)
theorem x_lcLM1 (vs : List Nat) (gt : D → Ev → Option Ev) (ft : Ev → R (Bool × Ev)) (fe : Ev → R (D × Ev)) (d : D) (ds : List D) (e : Ev) : lcLM vs gt ft fe (d :: ds) e = R.ofO (gt d (wipeE vs e)) >>= fun e1 => (ft e1).nox >>= fun b => if b.1 = true then (fe b.2).nox >>= fun y => lcLM vs gt ft fe ds (restE vs e y.2) >>= fun r => .ok (y.1 :: r.1, r.2) else lcLM vs gt ft fe ds (restE vs e b.2) := by
  show (match gt d (wipeE vs e) with | none => _ | some e1 => _) = _
  cases gt d (wipeE vs e) <;> rfl
@[simp] theorem x_rest0 (e e' : Ev) : restE [] e e' = e' := (rfl)
@[simp] theorem x_rest1 (v : Nat) (vs : List Nat) (e e' : Ev) : restE (v :: vs) e e' = (restE vs e e').set v (keepS e[v]?) := (rfl)
@[simp] theorem x_keep1 : keepS (some .un) = .un := (rfl)
@[simp] theorem x_keep2 (d : D) : keepS (some (.im d)) = .im d := (rfl)
def fstep (k : Ev → O) : O → O
  | .nx e => k e
  | .ct e => k e
  | .bk e => .nx e
  | o => o
@[simp] theorem x_fs1 (k : Ev → O) (e : Ev) : fstep k (.nx e) = k e := (rfl)
@[simp] theorem x_fs2 (k : Ev → O) (e : Ev) : fstep k (.ct e) = k e := (rfl)
@[simp] theorem x_fs3 (k : Ev → O) (e : Ev) : fstep k (.bk e) = .nx e := (rfl)
@[simp] theorem x_fs4 (k : Ev → O) (d : D) (e : Ev) : fstep k (.rt d e) = .rt d e := (rfl)
@[simp] theorem x_fs5 (k : Ev → O) (c : Str) (d : D) (e : Ev) : fstep k (.ex c d e) = .ex c d e := (rfl)
@[simp] theorem x_for0 (gt : D → Ev → Option Ev) (b : Ev → O) (e : Ev) : forL gt b [] e = .nx e := (rfl)
theorem x_for1 (gt : D → Ev → Option Ev) (b : Ev → O) (d : D) (ds : List D) (e : Ev) : forL gt b (d :: ds) e = (O.ofO (gt d e)).seq fun e1 => fstep (forL gt b ds) (b e1) := by
  show (match gt d e with | none => _ | some e1 => _) = _
  cases gt d e with
  | none => rfl
  | some e1 =>
    show (match b e1 with | .nx e2 => _ | .ct e2 => _ | .bk e2 => _ | o => o) = fstep _ (b e1)
    cases b e1 <;> rfl
theorem x_whl (t : Ev → R Bool) (b : Ev → O) (n : Nat) (e : Ev) : whl t b (n + 1) e = (t e).o e fun k => if k = true then fstep (whl t b n) (b e) else .nx e := by
  show (t e).o e _ = _
  congr 1
section
variable {gt : D → Ev → Option Ev} {ft : Ev → R Bool} {fe : Ev → R D} {e : Ev}
theorem lc_map {h : D → D} : ∀ {ds : List D}, (∀ d ∈ ds, ∃ e1, gt d e = some e1 ∧ ft e1 = .ok true ∧ fe e1 = .ok (h d)) → lcL gt ft fe ds e = .ok (ds.map h)
  | [], _ => rfl
  | d :: ds, H => by
    obtain ⟨e1, h1, h2, h3⟩ := H d List.mem_cons_self
    rw [x_lcL1, h1]
    simp [h2, h3, lc_map fun d hd => H d (List.mem_cons_of_mem _ hd)]
theorem lc_filter {p : D → Bool} {h : D → D} : ∀ {ds : List D}, (∀ d ∈ ds, ∃ e1, gt d e = some e1 ∧ ft e1 = .ok (p d) ∧ (p d = true → fe e1 = .ok (h d))) → lcL gt ft fe ds e = .ok ((ds.filter p).map h)
  | [], _ => rfl
  | d :: ds, H => by
    obtain ⟨e1, h1, h2, h3⟩ := H d List.mem_cons_self
    rw [x_lcL1, h1]
    cases q : p d with
    | true => simp [h2, h3 q, q, lc_filter fun d hd => H d (List.mem_cons_of_mem _ hd)]
    | false => simp [h2, q, lc_filter fun d hd => H d (List.mem_cons_of_mem _ hd)]
theorem rng_0 (n : Nat) : rng 0 n = (List.range n).map fun (k : Nat) => D.int (k : Int) := by
  unfold rng
  simp
theorem lcR_map {n : Nat} {h : Nat → D} (H : ∀ k : Nat, k < n → ∃ e1, gt (.int k) e = some e1 ∧ ft e1 = .ok true ∧ fe e1 = .ok (h k)) : lcL gt ft fe (rng 0 n) e = .ok ((List.range n).map h) := by
  rw [rng_0, lc_map (h := fun d => match d with | .int i => h i.toNat | _ => .non), List.map_map]
  · congr 1
  · intro d hd
    obtain ⟨k, hk, rfl⟩ := List.mem_map.mp hd
    simpa using H k (List.mem_range.mp hk)
theorem lcR_filter {n : Nat} {p : Nat → Bool} {h : Nat → D} (H : ∀ k : Nat, k < n → ∃ e1, gt (.int k) e = some e1 ∧ ft e1 = .ok (p k) ∧ (p k = true → fe e1 = .ok (h k))) : lcL gt ft fe (rng 0 n) e = .ok (((List.range n).filter p).map h) := by
  rw [rng_0, lc_filter (p := fun d => match d with | .int i => p i.toNat | _ => false) (h := fun d => match d with | .int i => h i.toNat | _ => .non), List.filter_map, List.map_map]
  · congr 1
  · intro d hd
    obtain ⟨k, hk, rfl⟩ := List.mem_map.mp hd
    simpa using H k (List.mem_range.mp hk)
theorem lcI_map {ns : List Int} {h : Int → D} (H : ∀ i ∈ ns, ∃ e1, gt (.int i) e = some e1 ∧ ft e1 = .ok true ∧ fe e1 = .ok (h i)) : lcL gt ft fe (ns.map D.int) e = .ok (ns.map h) := by
  rw [lc_map (h := fun d => match d with | .int i => h i | _ => .non), List.map_map]
  · congr 1
  · intro d hd
    obtain ⟨k, hk, rfl⟩ := List.mem_map.mp hd
    exact H k hk
end
section
variable {gt : D → Ev → Option Ev} {b : Ev → O} {e : Ev}
theorem for_at {ds : List D} (E : Nat → Ev) (H : ∀ (k : Nat) (h : k < ds.length), ∃ e1, gt ds[k] (E k) = some e1 ∧ b e1 = .nx (E (k + 1))) : ∀ m : Nat, m ≤ ds.length → forL gt b (ds.drop (ds.length - m)) (E (ds.length - m)) = .nx (E ds.length)
  | 0, _ => by rw [Nat.sub_zero, List.drop_length]; rfl
  | m + 1, hm => by
    have hk : ds.length - (m + 1) < ds.length := by omega
    obtain ⟨e1, h1, h2⟩ := H _ hk
    have e0 : ds.length - (m + 1) + 1 = ds.length - m := by omega
    rw [List.drop_eq_getElem_cons hk, x_for1, h1]
    show fstep _ (b e1) = _
    rw [h2]
    show forL gt b _ _ = _
    rw [e0]
    exact for_at E H m (by omega)
theorem for_all {ds : List D} (E : Nat → Ev) (h0 : e = E 0) (H : ∀ (k : Nat) (h : k < ds.length), ∃ e1, gt ds[k] (E k) = some e1 ∧ b e1 = .nx (E (k + 1))) : forL gt b ds e = .nx (E ds.length) := by
  have := for_at E H ds.length (Nat.le_refl _)
  rw [Nat.sub_self, List.drop_zero] at this
  rw [h0]
  exact this
theorem forR {n : Nat} (E : Nat → Ev) (h0 : e = E 0) (H : ∀ k : Nat, k < n → ∃ e1, gt (.int k) (E k) = some e1 ∧ b e1 = .nx (E (k + 1))) : forL gt b (rng 0 n) e = .nx (E n) := by
  have hl := rng_length 0 n
  have := for_all (ds := rng 0 n) E h0 fun k h => by
    rw [hl] at h
    have q := rng_get 0 n k h
    rw [List.getElem?_eq_getElem (by rw [hl]; exact h)] at q
    rw [Option.some.inj q]
    simpa using H k h
  rw [hl] at this
  exact this
theorem forI {ns : List Int} (E : Nat → Ev) (h0 : e = E 0) (H : ∀ (k : Nat) (h : k < ns.length), ∃ e1, gt (.int ns[k]) (E k) = some e1 ∧ b e1 = .nx (E (k + 1))) : forL gt b (ns.map D.int) e = .nx (E ns.length) := by
  have := for_all (ds := ns.map D.int) E h0 fun k h => by
    rw [List.length_map] at h
    rw [List.getElem_map]
    exact H k h
  rw [List.length_map] at this
  exact this
/-- a search: the first turn that is a return -/
theorem forR_ret {n : Nat} {m : Nat} {d : D} {e2 : Ev} (E : Nat → Ev) (h0 : e = E 0) (hm : m < n) (H : ∀ k : Nat, k < m → ∃ e1, gt (.int k) (E k) = some e1 ∧ b e1 = .nx (E (k + 1))) (H2 : ∃ e1, gt (.int m) (E m) = some e1 ∧ b e1 = .rt d e2) : forL gt b (rng 0 n) e = .rt d e2 := by
  have split : rng 0 n = rng 0 m ++ (.int m :: (rng 0 n).drop (m + 1)) := by
    have hl := rng_length 0 n
    have e1 : rng 0 m = (rng 0 n).take m := by
      rw [rng_0, rng_0, ← List.map_take, List.take_range]
      congr 2
      omega
    rw [e1]
    have q := rng_get 0 n m hm
    have hd := List.drop_eq_getElem_cons (l := rng 0 n) (i := m) (by rw [hl]; exact hm)
    rw [List.getElem?_eq_getElem (by rw [hl]; exact hm)] at q
    rw [Option.some.inj q] at hd
    simp only [Int.zero_add] at hd
    rw [← hd, List.take_append_drop]
  have key : ∀ (j : Nat), j ≤ m → forL gt b (((rng 0 m).drop (m - j)) ++ (.int m :: (rng 0 n).drop (m + 1))) (E (m - j)) = .rt d e2 := by
    intro j
    induction j with
    | zero =>
      intro _
      have hz : (rng 0 m).drop m = [] := by
        have := List.drop_length (l := rng 0 m)
        rwa [rng_length] at this
      obtain ⟨e1, h1, h2⟩ := H2
      rw [Nat.sub_zero, hz, List.nil_append, x_for1, h1]
      show fstep _ (b e1) = _
      rw [h2]
      rfl
    | succ j ih =>
      intro hj
      have hk : m - (j + 1) < m := by omega
      have hlm := rng_length 0 m
      obtain ⟨e1, h1, h2⟩ := H _ hk
      have q := rng_get 0 m _ hk
      rw [List.getElem?_eq_getElem (by rw [hlm]; exact hk)] at q
      have hd := List.drop_eq_getElem_cons (l := rng 0 m) (i := m - (j + 1)) (by rw [hlm]; exact hk)
      rw [Option.some.inj q] at hd
      simp only [Int.zero_add] at hd
      have e0 : m - (j + 1) + 1 = m - j := by omega
      rw [hd, List.cons_append, x_for1, h1]
      show fstep _ (b e1) = _
      rw [h2]
      show forL gt b _ _ = _
      rw [e0]
      exact ih (by omega)
  have := key m (Nat.le_refl _)
  rw [Nat.sub_self, List.drop_zero, ← split] at this
  rw [h0]
  exact this
end

/-! ### slices -/
theorem cut_to {xs : List D} (k : Nat) : cutD xs none (some (k : Int)) = xs.take k := by
  unfold cutD
  rw [HT.sIx_none, HT.sIx_nat, List.drop_zero, Nat.sub_zero]
  by_cases h : k ≤ xs.length
  · rw [Nat.min_eq_left h]
  · rw [Nat.min_eq_right (by omega), List.take_length, List.take_of_length_le (by omega)]
theorem cut_all {xs : List D} {k : Nat} (h : xs.length ≤ k) : cutD xs none (some (k : Int)) = xs := by rw [cut_to, List.take_of_length_le h]
theorem cut_from {xs : List D} (k : Nat) : cutD xs (some (k : Int)) none = xs.drop k := by
  unfold cutD
  rw [HT.sIx_none, HT.sIx_nat]
  by_cases h : k ≤ xs.length
  · rw [Nat.min_eq_left h, List.take_of_length_le (by rw [List.length_drop]; omega)]
  · rw [Nat.min_eq_right (by omega), List.drop_length, List.drop_eq_nil_of_le (by omega), List.take_nil]
end DL


namespace DL
open PySem L2

/-! ### values at 0, 1, .. -/
def tab (f : Nat → Int) (n : Nat) : List Int := (List.range n).map f
theorem tab_len (f : Nat → Int) (n : Nat) : (tab f n).length = n := by simp [tab]
theorem tab_get (f : Nat → Int) {n k : Nat} (hk : k < n) : (tab f n)[k]? = some (f k) := by
  unfold tab
  rw [List.getElem?_map, List.getElem?_range hk]
  rfl
theorem tab_at (f : Nat → Int) {n k : Nat} (hk : k < n) : atI ((tab f n).map D.int) (k : Int) = some (.int (f k)) := at_nat (by rw [List.getElem?_map, tab_get f hk]; rfl)
theorem tab_mem (f : Nat → Int) {n : Nat} {x : Int} : x ∈ tab f n ↔ ∃ k, k < n ∧ f k = x := by simp [tab]
theorem tab_D (f : Nat → Int) (n : Nat) : (List.range n).map (fun k => D.int (f k)) = (tab f n).map D.int := by
  unfold tab
  rw [List.map_map]
  rfl
/-- the first place of a value -/
def First (f : Nat → Int) (m : Int) (i : Nat) : Prop := f i = m ∧ ∀ j, j < i → f j ≠ m
theorem first_ex {f : Nat → Int} {m : Int} : ∀ {k : Nat}, f k = m → ∃ i, i ≤ k ∧ First f m i
  | 0, h => ⟨0, Nat.le_refl _, h, fun j hj => absurd hj (Nat.not_lt_zero j)⟩
  | k + 1, h => by
    by_cases q : ∃ j, j ≤ k ∧ f j = m
    · obtain ⟨j, hj, e⟩ := q
      obtain ⟨i, hi, F⟩ := first_ex (k := j) e
      exact ⟨i, by omega, F⟩
    · exact ⟨k + 1, Nat.le_refl _, h, fun j hj e => q ⟨j, by omega, e⟩⟩
theorem eqv_int (i j : Int) : eqv (.int i) (.int j) = (i == j) := by simp [eqv, conv, PyData.eqv]
theorem find_at {m : Int} : ∀ {xs : List Int} {i : Nat}, xs[i]? = some m → (∀ j, j < i → xs[j]? ≠ some m) → findD (.int m) (xs.map D.int) = some i
  | x :: xs, 0, h, _ => by
    cases h
    simp [findD, eqv_int]
  | x :: xs, i + 1, h, h2 => by
    have hx : x ≠ m := fun e => h2 0 (by omega) (by simp [e])
    have := find_at (xs := xs) (i := i) (m := m) (by simpa using h) fun j hj => by simpa using h2 (j + 1) (by omega)
    simp [findD, eqv_int, hx, this]
theorem ind_tab {f : Nat → Int} {m : Int} {n i : Nat} (F : First f m i) (hi : i < n) : index2 (.lst ((tab f n).map D.int)) (.int m) = some (.int i) := by
  have h1 : findD (.int m) ((tab f n).map D.int) = some i := find_at (by rw [tab_get f hi, F.1]) fun j hj e => by
    rw [tab_get f (by omega)] at e
    exact F.2 j hj (Option.some.inj e)
  have h2 : ((tab f n).map D.int).all flatD = true := List.all_eq_true.mpr fun d hd => by
    obtain ⟨x, _, rfl⟩ := List.mem_map.mp hd
    rfl
  unfold index2
  simp only [h1, h2, flatD]
  rfl
theorem minI_eq' {ns : List Int} {m : Int} (h : m ∈ ns) (h2 : ∀ y, y ∈ ns → m ≤ y) : minI ns = m := by
  obtain ⟨a, b⟩ := minI_mem (ns := ns) (fun e => by rw [e] at h; cases h)
  exact Int.le_antisymm (b m h) (h2 _ a)
/-- all that is to be reached is reached among the first places -/
theorem max_pre {f : Nat → Int} {s n : Nat} (h1 : 1 ≤ s) (h2 : s ≤ n) (H : ∀ k, k < n → ∃ j, j < s ∧ f k ≤ f j) : ∃ m i, i < s ∧ First f m i ∧ maxI (tab f s) = m ∧ maxI (tab f n) = m := by
  have ne : tab f s ≠ [] := fun e => by
    have := tab_len f s
    rw [e] at this
    simp at this
    omega
  obtain ⟨a, b⟩ := maxI_mem ne
  obtain ⟨k, hk, e⟩ := (tab_mem f).mp a
  obtain ⟨i, hi, F⟩ := first_ex e
  refine ⟨_, i, by omega, F, rfl, maxI_eq ((tab_mem f).mpr ⟨k, by omega, e⟩) fun y hy => ?_⟩
  obtain ⟨k', hk', rfl⟩ := (tab_mem f).mp hy
  obtain ⟨j, hj, hle⟩ := H k' hk'
  exact Int.le_trans hle (b _ ((tab_mem f).mpr ⟨j, hj, rfl⟩))
theorem min_pre {f : Nat → Int} {s n : Nat} (h1 : 1 ≤ s) (h2 : s ≤ n) (H : ∀ k, k < n → ∃ j, j < s ∧ f j ≤ f k) : ∃ m i, i < s ∧ First f m i ∧ minI (tab f s) = m ∧ minI (tab f n) = m := by
  have ne : tab f s ≠ [] := fun e => by
    have := tab_len f s
    rw [e] at this
    simp at this
    omega
  obtain ⟨a, b⟩ := minI_mem ne
  obtain ⟨k, hk, e⟩ := (tab_mem f).mp a
  obtain ⟨i, hi, F⟩ := first_ex e
  refine ⟨_, i, by omega, F, rfl, minI_eq' ((tab_mem f).mpr ⟨k, by omega, e⟩) fun y hy => ?_⟩
  obtain ⟨k', hk', rfl⟩ := (tab_mem f).mp hy
  obtain ⟨j, hj, hle⟩ := H k' hk'
  exact Int.le_trans (b _ ((tab_mem f).mpr ⟨j, hj, rfl⟩)) hle

/-! ### what goes round, and rises -/
structure Rise (g : Nat → Int) (hd lp : Nat) (r : Int) : Prop where
  l1 : 1 ≤ lp
  go : ∀ k, hd ≤ k → g (k + lp) = g k + r
section
variable {g : Nat → Int} {hd lp : Nat} {r : Int}
theorem Rise.many (R : Rise g hd lp r) (k : Nat) (hk : hd ≤ k) : ∀ j : Nat, g (k + j * lp) = g k + j * r
  | 0 => by simp
  | j + 1 => by
    have h1 := R.many k hk j
    have h2 := R.go (k + j * lp) (by omega)
    have e : k + (j + 1) * lp = k + j * lp + lp := by rw [Nat.add_mul]; omega
    have e2 : ((j + 1 : Nat) : Int) * r = j * r + r := by rw [Int.natCast_add, Int.add_mul]; simp
    rw [e, h2, h1, e2]
    omega
theorem Rise.neg (R : Rise g hd lp r) : Rise (fun k => -g k) hd lp (-r) := ⟨R.l1, fun k hk => by
  show -g (k + lp) = -g k + -r
  rw [R.go k hk]
  omega⟩
/-- where nothing rises, the first round has the greatest -/
theorem Rise.max (R : Rise g hd lp r) (hr : r ≤ 0) : ∀ (n k : Nat), k < n → ∃ j, j < hd + lp ∧ g k ≤ g j
  | 0, k, h => absurd h (Nat.not_lt_zero k)
  | n + 1, k, h => by
    by_cases q : k < hd + lp
    · exact ⟨k, q, Int.le_refl _⟩
    · have l1 := R.l1
      obtain ⟨j, hj, hle⟩ := R.max hr n (k - lp) (by omega)
      have := R.go (k - lp) (by omega)
      rw [show k - lp + lp = k by omega] at this
      exact ⟨j, hj, by omega⟩
theorem Rise.min (R : Rise g hd lp r) (hr : 0 ≤ r) (n k : Nat) (h : k < n) : ∃ j, j < hd + lp ∧ g j ≤ g k := by
  obtain ⟨j, hj, hle⟩ := R.neg.max (by omega) n k h
  exact ⟨j, hj, by have : -g k ≤ -g j := hle; omega⟩
/-- the first place above -/
def Up (g : Nat → Int) (k : Nat) : Prop := 0 < g k ∧ ∀ j, j < k → ¬ 0 < g j
theorem up_ex : ∀ {k : Nat}, 0 < g k → ∃ i, i ≤ k ∧ Up g i
  | 0, h => ⟨0, Nat.le_refl _, h, fun j hj => absurd hj (Nat.not_lt_zero j)⟩
  | k + 1, h => by
    by_cases q : ∃ j, j ≤ k ∧ 0 < g j
    · obtain ⟨j, hj, e⟩ := q
      obtain ⟨i, hi, F⟩ := up_ex (k := j) e
      exact ⟨i, by omega, F⟩
    · exact ⟨k + 1, Nat.le_refl _, h, fun j hj e => q ⟨j, by omega, e⟩⟩
theorem Rise.never (R : Rise g hd lp r) (hr : r ≤ 0) (h : ∀ k, k < hd + lp → ¬ 0 < g k) (k : Nat) : ¬ 0 < g k := fun q => by
  obtain ⟨j, hj, hle⟩ := R.max hr (k + 1) k (by omega)
  exact h j hj (by omega)
/-- where the first round has none, the least of the places that are reckoned is the first -/
theorem Rise.least (R : Rise g hd lp r) (hr : 0 < r) (h : ∀ k, k < hd + lp + 1 → ¬ 0 < g k) {k0 : Nat} (U : Up g k0) :
    minI (tab (fun k => (hd : Int) + k + (-g (hd + k) / r + 1) * lp) lp) = k0 := by
  have l1 := R.l1
  have k1 : hd + lp < k0 := by
    by_cases q : hd + lp < k0
    · exact q
    · exact absurd U.1 (h k0 (by omega))
  refine minI_eq' ((tab_mem _).mpr ⟨(k0 - hd) % lp, Nat.mod_lt _ (by omega), ?_⟩) fun y hy => ?_
  · have e0 := Nat.div_add_mod (k0 - hd) lp
    generalize hm : (k0 - hd) % lp = m at e0
    generalize hq : (k0 - hd) / lp = q at e0
    have hml : m < lp := hm ▸ Nat.mod_lt _ (by omega)
    have ek : k0 = (hd + m) + q * lp := by rw [Nat.mul_comm q lp]; omega
    have q1 : 1 ≤ q := by
      rcases Nat.eq_zero_or_pos q with z | z
      · rw [z] at ek
        omega
      · exact z
    have g1 := R.many (hd + m) (by omega) q
    rw [← ek] at g1
    have g2 := R.many (hd + m) (by omega) (q - 1)
    have e3 : (hd + m) + (q - 1) * lp < k0 := by
      have : q * lp = (q - 1) * lp + lp := by
        have : q = (q - 1) + 1 := by omega
        rw [this, Nat.add_mul]
        simp
      omega
    have g3 := U.2 _ e3
    have g4 := U.1
    rw [g1] at g4
    rw [g2] at g3
    have c1 : ((q - 1 : Nat) : Int) = q - 1 := by omega
    rw [c1] at g3
    have hdiv : -g (hd + m) / r = q - 1 := by
      have h1 : ((q : Int) - 1) * r ≤ -g (hd + m) := by omega
      have h2 : -g (hd + m) < (q : Int) * r := by omega
      have h3 : ((q : Int) - 1) ≤ -g (hd + m) / r := Int.le_ediv_of_mul_le hr h1
      have h4 : -g (hd + m) / r < q := Int.ediv_lt_of_lt_mul hr h2
      omega
    show (hd : Int) + (m : Nat) + (-g (hd + m) / r + 1) * lp = k0
    rw [hdiv, ek]
    push_cast
    have : ((q : Int) - 1 + 1) = q := by omega
    rw [this]
  · obtain ⟨k, hk, rfl⟩ := (tab_mem _).mp hy
    have g0 := h (hd + k) (by omega)
    have hn : 0 ≤ -g (hd + k) / r := Int.ediv_nonneg (by omega) (by omega)
    obtain ⟨q, hq⟩ := Int.eq_ofNat_of_zero_le (show 0 ≤ -g (hd + k) / r + 1 by omega)
    have g1 := R.many (hd + k) (by omega) q
    have hlt : -g (hd + k) < (q : Int) * r := by
      rw [← hq]
      have := Int.lt_ediv_add_one_mul_self (-g (hd + k)) hr
      exact this
    have g2 : 0 < g ((hd + k) + q * lp) := by rw [g1]; omega
    have hle : k0 ≤ (hd + k) + q * lp := by
      by_cases z : k0 ≤ (hd + k) + q * lp
      · exact z
      · exact absurd g2 (U.2 _ (by omega))
    show (k0 : Int) ≤ (hd : Int) + k + (-g (hd + k) / r + 1) * lp
    rw [hq]
    have : ((q * lp : Nat) : Int) = (q : Int) * lp := by push_cast; rfl
    show (k0 : Int) ≤ (hd : Int) + k + (q : Int) * lp
    omega
end
end DL


namespace G
open PySem DL L2

/-! ### the law's draws -/
/-- a tape: the script, a place, a cell, a seed -/
def Tp (xs : List D) : Prop := ∃ (ns : List Int) (p c s : Int), xs = [.lst (ns.map D.int), .int p, .int c, .int s] ∧ 0 ≤ p ∧ 0 ≤ c
theorem draw {xs : List D} (t : Tp xs) {m : Int} (hm : 0 < m) (hm2 : m < 1073741824) : ∃ v ys, m__law_draw xs [.int m] = .ok (.int v, ys) ∧ 0 ≤ v ∧ v < m ∧ Tp ys := by
  obtain ⟨ns, p, c, s, rfl, hp, hc⟩ := t
  by_cases h : c = 0
  · subst h
    by_cases hl : p < ns.length
    · obtain ⟨x, _, hx⟩ := at_ints hp hl
      have hn : ∃ y, (if x < 0 then -x else x) = y ∧ 0 ≤ y := ⟨_, rfl, by split <;> omega⟩
      obtain ⟨y, hy, y0⟩ := hn
      by_cases hb : 1000000000000000000 ≤ y
      · refine ⟨y % m, [.lst (ns.map D.int), .int (p + 1), .int (y / m), .int ((s * 48271 + y * 7919 + 12345) % 2147483647)], ?_, Int.emod_nonneg _ (by omega), Int.emod_lt_of_pos _ hm, _, _, _, _, rfl, by omega, Int.ediv_nonneg y0 (by omega)⟩
        have y1 : 0 < y := by omega
        simp [m__law_draw, b__law_draw, hl, hx, hy, hb, ixN, small, hm, hm2, y1]
      · refine ⟨(s * 48271 + y * 7919 + 12345) % 2147483647 / 7 % m, [.lst (ns.map D.int), .int (p + 1), .int 0, .int ((s * 48271 + y * 7919 + 12345) % 2147483647)], ?_, Int.emod_nonneg _ (by omega), Int.emod_lt_of_pos _ hm, _, _, _, _, rfl, by omega, by omega⟩
        simp [m__law_draw, b__law_draw, hl, hx, hy, hb, ixN, small, hm, hm2]
    · refine ⟨(s * 48271 + 12345) % 2147483647 / 7 % m, [.lst (ns.map D.int), .int (p + 1), .int 0, .int ((s * 48271 + 12345) % 2147483647)], ?_, Int.emod_nonneg _ (by omega), Int.emod_lt_of_pos _ hm, _, _, _, _, rfl, by omega, by omega⟩
      simp [m__law_draw, b__law_draw, hl, ixN, small, hm, hm2]
  · have hc' : 0 < c := by omega
    refine ⟨c % m, [.lst (ns.map D.int), .int p, .int (c / m), .int s], ?_, Int.emod_nonneg _ (by omega), Int.emod_lt_of_pos _ hm, _, _, _, _, rfl, by omega, Int.ediv_nonneg hc (by omega)⟩
    simp [m__law_draw, b__law_draw, h, hc', hm, hm2, ixN]
theorem drawn (a b mm : Sl) {st : Int} (hs : 0 < st) (hs2 : st < 1073741824) : ∀ (ds : List D) (xs : List D), Tp xs → ∃ (hs : List Int) (ys : List D), lcLM [5] (setV 5) tsM e__law_steps_1 ds [.io xs, a, b, .im (.int st), mm, .un] = .ok (hs.map D.int, [.io ys, a, b, .im (.int st), mm, .un]) ∧ hs.length = ds.length ∧ (∀ x ∈ hs, 0 ≤ x ∧ x < st) ∧ Tp ys
  | [], xs, t => ⟨[], xs, rfl, rfl, (fun x h => nomatch h), t⟩
  | d :: ds, xs, t => by
    obtain ⟨v, ys, h1, h2, h3, t1⟩ := draw t hs hs2
    obtain ⟨vs, zs, h4, h5, h6, t2⟩ := drawn a b mm hs hs2 ds ys t1
    refine ⟨v :: vs, zs, ?_, by rw [List.length_cons, List.length_cons, h5], fun x hx => ?_, t2⟩
    · have he : e__law_steps_1 [.io xs, a, b, .im (.int st), mm, .im d] = .ok (.int v, [.io ys, a, b, .im (.int st), mm, .im d]) := by
        simp [e__law_steps_1, h1]
      rw [x_lcLM1]
      simp [he, h4]
    · rcases List.mem_cons.mp hx with rfl | hx
      · exact ⟨h2, h3⟩
      · exact h6 x hx
theorem steps {xs : List D} (t : Tp xs) {lo hi st : Int} (h0 : 0 ≤ lo) (h1 : lo ≤ hi) (h2 : hi ≤ 1000) (hs : 0 < st) (hs2 : st < 1073741824) : ∃ (vs : List Int) (ys : List D), m__law_steps xs [.int lo, .int hi, .int st] = .ok (.tup (vs.map D.int), ys) ∧ lo ≤ vs.length ∧ (vs.length : Int) ≤ hi ∧ (∀ x ∈ vs, 0 ≤ x ∧ x < st) ∧ Tp ys := by
  obtain ⟨m, y1, d1, m0, m1, t1⟩ := draw t (m := hi - lo + 1) (by omega) (by omega)
  obtain ⟨f, y2, d2, f0, f1, t2⟩ := draw t1 (m := 4) (by omega) (by omega)
  by_cases hf : f = 0
  · obtain ⟨v, y3, d3, v0, v1, t3⟩ := draw t2 (m := st) hs hs2
    refine ⟨List.replicate (lo + m).toNat v, y3, ?_, by rw [List.length_replicate]; omega, by rw [List.length_replicate]; omega, fun x hx => by rw [(List.mem_replicate.mp hx).2]; exact ⟨v0, v1⟩, t3⟩
    have hb : (-9223372036854775808 ≤ lo + m ∧ lo + m < 9223372036854775808) ∧ (lo + m).toNat ≤ 16777216 := ⟨⟨by omega, by omega⟩, by omega⟩
    have hfl : (List.replicate (lo + m).toNat [D.int v]).flatten = (List.replicate (lo + m).toNat v).map D.int := by
      rw [List.map_replicate]
      induction (lo + m).toNat with
      | zero => rfl
      | succ n ih => simp [List.replicate_succ, ih]
    simp [m__law_steps, b__law_steps, d1, d2, hf, d3, hb, hfl]
  · obtain ⟨vs, y3, d3, hl, hv, t3⟩ := drawn (.im (.int lo)) (.im (.int hi)) (.im (.int (lo + m))) hs hs2 (rng 0 (lo + m).toNat) y2 t2
    rw [rng_length] at hl
    refine ⟨vs, y3, ?_, by omega, by omega, hv, t3⟩
    have hb : big (lo + m) = true := big_of (by omega) (by omega)
    have hr : lo + m ≤ 16777216 := by omega
    simp [m__law_steps, b__law_steps, d1, d2, hf, hb, rng_length, hr, d3]

/-! ### rulers -/
def ruD (b : Int) (h l : List Int) : D := .tup [.int b, .tup (h.map D.int), .tup (l.map D.int)]
/-- small rulers -/
structure Sm (b : Int) (h l : List Int) : Prop where
  b0 : 0 ≤ b
  b4 : b < 4
  h4 : h.length ≤ 4
  l1 : 1 ≤ l.length
  l4 : l.length ≤ 4
  hs : ∀ x ∈ h, 0 ≤ x ∧ x < 4
  ls : ∀ x ∈ l, 0 ≤ x ∧ x < 4
theorem ruler {xs : List D} (t : Tp xs) : ∃ b h l ys, m__law_ruler xs [] = .ok (ruD b h l, ys) ∧ Sm b h l ∧ Tp ys := by
  obtain ⟨b, y1, d1, b0, b1, t1⟩ := draw t (m := 4) (by omega) (by omega)
  obtain ⟨h, y2, d2, h0, h1, h2, t2⟩ := steps t1 (lo := 0) (hi := 4) (st := 4) (by omega) (by omega) (by omega) (by omega) (by omega)
  obtain ⟨l, y3, d3, l0, l1, l2, t3⟩ := steps t2 (lo := 1) (hi := 4) (st := 4) (by omega) (by omega) (by omega) (by omega) (by omega)
  refine ⟨b, h, l, y3, ?_, ⟨b0, b1, by omega, by omega, by omega, h2, l2⟩, t3⟩
  simp [m__law_ruler, b__law_ruler, d1, d2, d3, ruD]
/-- a step, a value -/
def stp (h l : List Int) (k : Nat) : Int := if k < h.length then h.getD k 0 else l.getD ((k - h.length) % l.length) 0
def val (b : Int) (h l : List Int) : Nat → Int
  | 0 => b
  | k + 1 => val b h l k + stp h l k
def vals (b : Int) (h l : List Int) (n : Nat) : List Int := (List.range n).map (val b h l)
theorem vals_len (b : Int) (h l : List Int) (n : Nat) : (vals b h l n).length = n := by simp [vals]
theorem vals_get (b : Int) (h l : List Int) {n k : Nat} (hk : k < n) : (vals b h l n)[k]? = some (val b h l k) := by
  unfold vals
  rw [List.getElem?_map, List.getElem?_range hk]
  rfl
theorem vals_succ (b : Int) (h l : List Int) (n : Nat) : vals b h l (n + 1) = vals b h l n ++ [val b h l n] := by
  unfold vals
  rw [List.range_succ, List.map_append]
  rfl
theorem at_map {xs : List Int} {k : Nat} {v : Int} (h : xs[k]? = some v) : atI (xs.map D.int) (k : Int) = some (.int v) := at_nat (by rw [List.getElem?_map, h]; rfl)
theorem at_vals (b : Int) (h l : List Int) {n k : Nat} (hk : k < n) : atI ((vals b h l n).map D.int) (k : Int) = some (.int (val b h l k)) := at_map (vals_get b h l hk)
theorem at_getD {xs : List Int} {k : Nat} (h : k < xs.length) : atI (xs.map D.int) (k : Int) = some (.int (xs.getD k 0)) := at_map (by rw [List.getD_eq_getElem?_getD, List.getElem?_eq_getElem h]; rfl)
theorem told (b : Int) (h l : List Int) (n : Nat) (h1 : 1 ≤ n) (h2 : n ≤ 1000000) (hl : 1 ≤ l.length) : m__law_told [ruD b h l, .int n] = .ok (.lst ((vals b h l n).map D.int)) := by
  have hb : big ((n : Int) - 1) = true := big_of (by omega) (by omega)
  have ht : ((n : Int) - 1).toNat = n - 1 := by omega
  let E : Nat → Ev := fun k => [.im (ruD b h l), .im (.int n), (if k = 0 then .un else .im (.int ((k : Int) - 1))), .ow (.l ((vals b h l (k + 1)).map D.int)), .im (.tup (h.map D.int)), .im (.tup (l.map D.int))]
  have hf := forR (gt := setV 2) (b := l__law_told_1)
    (n := n - 1) (e := [.im (ruD b h l), .im (.int n), .un, .ow (.l [.int b]), .im (.tup (h.map D.int)), .im (.tup (l.map D.int))]) E rfl fun k hk => by
      have hms : msO (some (if k = 0 then Sl.un else Sl.im (.int ((k : Int) - 1)))) = true := by split <;> rfl
      refine ⟨[.im (ruD b h l), .im (.int n), .im (.int k), .ow (.l ((vals b h l (k + 1)).map D.int)), .im (.tup (h.map D.int)), .im (.tup (l.map D.int))], by simp [E, hms], ?_⟩
      have ha := at_vals b h l (Nat.lt_succ_self k)
      have hle : k + 1 < 16777216 := by omega
      by_cases hk2 : k < h.length
      · have hg := at_getD hk2
        simp [l__law_told_1, E, ha, hk2, hg, vals_len, hle, vals_succ b h l (k + 1), val, stp]
      · have hlt : (k - h.length) % l.length < l.length := Nat.mod_lt _ (by omega)
        have hg := at_getD hlt
        have hc : ((k : Int) - h.length) = ((k - h.length : Nat) : Int) := by omega
        rw [Int.natCast_emod] at hg
        have hp : 0 < l.length := by omega
        simp [l__law_told_1, E, ha, hk2, hc, hg, vals_len, hle, hp, vals_succ b h l (k + 1), val, stp]
  simp only [ruD] at hf
  have hv := vals_len b h l n
  have e1 : n - 1 + 1 = n := by omega
  have hcut : cutD ((vals b h l n).map D.int) none (some (n : Int)) = (vals b h l n).map D.int := cut_all (by rw [List.length_map, hv]; omega)
  simp [m__law_told, b__law_told, ruD, hb, ht, hf, E, e1, hcut]

theorem isc (i : Int) : m_is_count [.int i] = .ok (.bl (decide (0 ≤ i))) := by
  simp [m_is_count, b_is_count]
theorem iss {hs : List Int} (h : ∀ x ∈ hs, 0 ≤ x ∧ x < 4) (hl : hs.length ≤ 4) : m_is_steps [.tup (hs.map D.int)] = .ok (.bl true) := by
  have hc := lcI_map (gt := setV 1) (ft := tsT) (fe := e_is_steps_1) (e := [.im (.tup (hs.map D.int)), .un]) (ns := hs) (h := fun _ => .bl true) fun i hi => by
    obtain ⟨h0, h1⟩ := h i hi
    have h2 : i ≤ 1000000 := by omega
    refine ⟨[.im (.tup (hs.map D.int)), .im (.int i)], by simp, rfl, ?_⟩
    simp [e_is_steps_1, isc, h0, h2]
  have hb : blsOf (hs.map fun _ => D.bl true) = some (hs.map fun _ => true) := by
    have := blsOf_map (hs.map fun _ => true)
    rwa [List.map_map] at this
  have hle : hs.length ≤ 16777216 := by omega
  have ha : (hs.map fun _ => true).all _root_.id = true := by simp
  simp [m_is_steps, b_is_steps, hc, hb, hle]
theorem isr {b : Int} {h l : List Int} (s : Sm b h l) : m_is_ruler [ruD b h l] = .ok (.bl true) := by
  have h1 := iss s.hs s.h4
  have h2 := iss s.ls s.l4
  have h3 : neD (.tup (l.map D.int)) (.tup []) = some (.bl true) := by
    rw [ne_nilT (n := 1) (okT (okds_ints _ _)) (by decide)]
    have := s.l1
    cases l with
    | nil => simp at this
    | cons => rfl
  have h4 : (h.length : Int) + l.length ≤ 6000 := by
    have := s.h4
    have := s.l4
    omega
  have h5 := s.b0
  simp [m_is_ruler, b_is_ruler, ruD, isc, h1, h2, h3, h4, h5]
theorem chk {b : Int} {h l : List Int} (s : Sm b h l) : m_check_ruler [ruD b h l] = .ok .non := by
  simp [m_check_ruler, b_check_ruler, isr s]
theorem low {n d : Int} (hd : 0 < d) (hd2 : d < 1073741824) : m_lowest [.int n, .int d] = .ok (.tup [.int (n / (Nat.gcd n.natAbs d.natAbs : Nat)), .int (d / (Nat.gcd n.natAbs d.natAbs : Nat))]) := by
  have h1 : 0 < Nat.gcd n.natAbs d.natAbs := Nat.gcd_pos_of_pos_right _ (by omega)
  have h2 : Nat.gcd n.natAbs d.natAbs ≤ d.natAbs := Nat.gcd_le_right _ (by omega)
  have h3 : Nat.gcd n.natAbs d.natAbs < 1073741824 := by omega
  have h4 : (0 : Int) < (Nat.gcd n.natAbs d.natAbs : Nat) := by omega
  have h5 : ((Nat.gcd n.natAbs d.natAbs : Nat) : Int) < 1073741824 := by omega
  generalize hg : ((Nat.gcd n.natAbs d.natAbs : Nat) : Int) = g at h4 h5
  simp [m_lowest, b_lowest, hg, h4, h5]
theorem slopeD {b : Int} {h l : List Int} (s : Sm b h l) : m_slope [ruD b h l] = .ok (.tup [.int (l.sum / (Nat.gcd l.sum.natAbs l.length : Nat)), .int (l.length / (Nat.gcd l.sum.natAbs l.length : Nat))]) := by
  have h1 := s.l1
  have h4 := s.l4
  have := low (n := l.sum) (d := l.length) (by omega) (by omega)
  rw [Int.natAbs_natCast] at this
  have hc := chk s
  simp only [ruD] at hc
  simp [m_slope, b_slope, ruD, hc, this]

def stps (h l : List Int) (n : Nat) : List Int := (List.range n).map (stp h l)
theorem stps_len (h l : List Int) (n : Nat) : (stps h l n).length = n := by simp [stps]
theorem stps_head (h l : List Int) {n : Nat} (hn : n ≤ h.length) : h.take n = stps h l n := by
  apply List.ext_getElem?
  intro i
  unfold stps
  rw [List.getElem?_take, List.getElem?_map]
  by_cases hi : i < n
  · rw [if_pos hi, List.getElem?_range hi, List.getElem?_eq_getElem (by omega)]
    simp [stp, show i < h.length by omega]
  · rw [if_neg hi, List.getElem?_eq_none (by simp; omega)]
    rfl
theorem stps_more (h l : List Int) (j r : Nat) : stps h l (h.length + j * l.length) ++ l.take r = stps h l (h.length + j * l.length + min r l.length) := by
  apply List.ext_getElem?
  intro i
  rw [List.getElem?_append, stps_len]
  unfold stps
  by_cases hi : i < h.length + j * l.length
  · rw [if_pos hi, List.getElem?_map, List.getElem?_map, List.getElem?_range hi, List.getElem?_range (by omega)]
  · rw [if_neg hi, List.getElem?_take, List.getElem?_map]
    by_cases h2 : i - (h.length + j * l.length) < r
    · rw [if_pos h2]
      by_cases h3 : i - (h.length + j * l.length) < l.length
      · rw [List.getElem?_range (by omega), List.getElem?_eq_getElem h3]
        have e : (i - h.length) % l.length = i - (h.length + j * l.length) := by
          have : i - h.length = (i - (h.length + j * l.length)) + j * l.length := by omega
          rw [this, Nat.add_mul_mod_self_right, Nat.mod_eq_of_lt h3]
        simp [stp, show ¬ i < h.length by omega, e, h3]
      · rw [List.getElem?_eq_none (by omega), List.getElem?_eq_none (by simp; omega)]
        rfl
    · rw [if_neg h2, List.getElem?_eq_none (by simp; omega)]
      rfl
theorem steps_whl {b : Int} {h l : List Int} (hl : 1 ≤ l.length) {many : Nat} (hm : many ≤ 1000000) : ∀ (n m : Nat), m ≤ many → (m = many ∨ ∃ j, m = h.length + j * l.length) → many - m < n →
    whl t_steps_of_1 l_steps_of_2 n [.im (ruD b h l), .im (.int many), .ow (.l ((stps h l m).map D.int)), .im (.int b), .im (.tup (h.map D.int)), .im (.tup (l.map D.int))] = .nx [.im (ruD b h l), .im (.int many), .ow (.l ((stps h l many).map D.int)), .im (.int b), .im (.tup (h.map D.int)), .im (.tup (l.map D.int))]
  | 0, m, _, _, hn => absurd hn (Nat.not_lt_zero _)
  | n + 1, m, h1, h2, hn => by
    rw [x_whl]
    by_cases hlt : m < many
    · have ht : t_steps_of_1 [.im (ruD b h l), .im (.int many), .ow (.l ((stps h l m).map D.int)), .im (.int b), .im (.tup (h.map D.int)), .im (.tup (l.map D.int))] = .ok true := by
        simp [t_steps_of_1, stps_len, hlt]
      obtain ⟨j, hj⟩ : ∃ j, m = h.length + j * l.length := h2.resolve_left (by omega)
      have hcast : ((many : Int) - (m : Int)) = ((many - m : Nat) : Int) := by omega
      have hle : m + min (many - m) l.length ≤ 16777216 := by omega
      have ha : (stps h l m).map D.int ++ (l.map D.int).take (many - m) = (stps h l (m + min (many - m) l.length)).map D.int := by
        rw [← List.map_take, ← List.map_append, hj, stps_more, ← hj]
      have hb : l_steps_of_2 [.im (ruD b h l), .im (.int many), .ow (.l ((stps h l m).map D.int)), .im (.int b), .im (.tup (h.map D.int)), .im (.tup (l.map D.int))] = .nx [.im (ruD b h l), .im (.int many), .ow (.l ((stps h l (m + min (many - m) l.length)).map D.int)), .im (.int b), .im (.tup (h.map D.int)), .im (.tup (l.map D.int))] := by
        simp [l_steps_of_2, stps_len, hcast, cut_to, hle, ha]
      rw [ht]
      simp only [x_o, if_true, hb, x_fs1]
      refine steps_whl hl hm n _ (by omega) ?_ (by omega)
      by_cases hq : l.length ≤ many - m
      · exact .inr ⟨j + 1, by rw [Nat.min_eq_right hq, hj, Nat.add_mul]; omega⟩
      · exact .inl (by rw [Nat.min_eq_left (by omega)]; omega)
    · have ht : t_steps_of_1 [.im (ruD b h l), .im (.int many), .ow (.l ((stps h l m).map D.int)), .im (.int b), .im (.tup (h.map D.int)), .im (.tup (l.map D.int))] = .ok false := by
        simp [t_steps_of_1, stps_len, hlt]
      have e : m = many := by omega
      rw [ht, e]
      rfl
theorem stepsof {b : Int} {h l : List Int} (hl : 1 ≤ l.length) {many : Nat} (hm : many ≤ 900000) : m_steps_of [ruD b h l, .int many] = .ok (.lst ((stps h l many).map D.int)) := by
  have hw := steps_whl (b := b) (h := h) (l := l) hl (many := many) (by omega) fuel (min many h.length) (by omega) (by
    by_cases hq : many ≤ h.length
    · exact .inl (by omega)
    · exact .inr ⟨0, by omega⟩) (by show many - min many h.length < 1000000; omega)
  have h0 : (h.map D.int).take many = (stps h l (min many h.length)).map D.int := by
    rw [← stps_head h l (Nat.min_le_right _ _), ← List.map_take]
    congr 1
    apply List.ext_getElem?
    intro i
    rw [List.getElem?_take, List.getElem?_take]
    by_cases h1 : i < many
    · by_cases h2 : i < h.length
      · rw [if_pos h1, if_pos (by omega)]
      · rw [if_pos h1, if_neg (by omega), List.getElem?_eq_none (by omega)]
    · rw [if_neg h1, if_neg (by omega)]
  simp only [ruD] at hw
  simp [m_steps_of, b_steps_of, ruD, cut_to, h0, hw]
theorem valuesof {b : Int} {h l : List Int} (hl : 1 ≤ l.length) {many : Nat} (hm : many ≤ 900000) : m_values_of [ruD b h l, .int many] = .ok (.lst ((vals b h l many).map D.int)) := by
  have hs := stepsof (b := b) (h := h) hl hm
  let E : Nat → Ev := fun k => [.im (ruD b h l), .im (.int many), (if k = 0 then .un else .im (.int (stp h l (k - 1)))), .ow (.l ((vals b h l k).map D.int)), .im (.int (val b h l k))]
  have hf := forI (gt := setV 2) (b := l_values_of_1) (ns := stps h l many) (e := [.im (ruD b h l), .im (.int many), .un, .ow (.l []), .im (.int b)]) E rfl fun k hk => by
    have hms : msO (some (if k = 0 then Sl.un else Sl.im (.int (stp h l (k - 1))))) = true := by split <;> rfl
    rw [stps_len] at hk
    have hg : (stps h l many)[k]'(by rw [stps_len]; exact hk) = stp h l k := by simp [stps]
    have hle : k < 16777216 := by omega
    refine ⟨[.im (ruD b h l), .im (.int many), .im (.int (stp h l k)), .ow (.l ((vals b h l k).map D.int)), .im (.int (val b h l k))], by simp [E, hms, hg], ?_⟩
    simp [l_values_of_1, E, vals_len, hle, vals_succ b h l k, val]
  rw [stps_len] at hf
  simp only [ruD] at hf hs
  simp [m_values_of, b_values_of, ruD, hs, hf, E]

/-! ### rounds of a ruler -/
theorem stp_in {b : Int} {h l : List Int} (s : Sm b h l) (k : Nat) : 0 ≤ stp h l k ∧ stp h l k ≤ 3 := by
  have h1 := s.l1
  unfold stp
  split
  · rename_i hk
    have := s.hs (h.getD k 0) (by rw [List.getD_eq_getElem?_getD, List.getElem?_eq_getElem hk]; exact List.getElem_mem hk)
    omega
  · have hk : (k - h.length) % l.length < l.length := Nat.mod_lt _ (by omega)
    have := s.ls (l.getD ((k - h.length) % l.length) 0) (by rw [List.getD_eq_getElem?_getD, List.getElem?_eq_getElem hk]; exact List.getElem_mem hk)
    omega
theorem val_in {b : Int} {h l : List Int} (s : Sm b h l) : ∀ k : Nat, 0 ≤ val b h l k ∧ val b h l k ≤ 3 + 3 * k
  | 0 => by
    have h1 := s.b0
    have h2 := s.b4
    simp only [val]
    omega
  | k + 1 => by
    have h1 := val_in s k
    have h2 := stp_in s k
    simp only [val]
    omega
theorem val_first (b : Int) (h l : List Int) (hl : 1 ≤ l.length) : ∀ i : Nat, i ≤ l.length → val b h l (h.length + i) = val b h l h.length + (l.take i).sum
  | 0, _ => by simp
  | i + 1, hi => by
    have ih := val_first b h l hl i (by omega)
    have e : stp h l (h.length + i) = l[i]'(by omega) := by
      have hi2 : i < l.length := by omega
      simp [stp, Nat.mod_eq_of_lt hi2, hi2, show ¬ h.length + i < h.length by omega]
    show val b h l (h.length + i) + stp h l (h.length + i) = _
    rw [ih, e, List.take_add_one, List.getElem?_eq_getElem (by omega), List.sum_append]
    show _ = _ + (_ + (l[i]'(by omega) + 0))
    omega
theorem val_rise (b : Int) (h l : List Int) (hl : 1 ≤ l.length) : Rise (val b h l) h.length l.length l.sum := ⟨hl, fun k hk => by
  obtain ⟨j, rfl⟩ := Nat.exists_eq_add_of_le hk
  clear hk
  induction j with
  | zero =>
    have := val_first b h l hl l.length (Nat.le_refl _)
    rw [List.take_length] at this
    exact this
  | succ j ih =>
    have e1 : h.length + (j + 1) + l.length = (h.length + j + l.length) + 1 := by omega
    have e2 : stp h l (h.length + j + l.length) = stp h l (h.length + j) := by
      have e3 : (h.length + j + l.length - h.length) % l.length = (h.length + j - h.length) % l.length := by
        rw [show h.length + j + l.length - h.length = (h.length + j - h.length) + l.length by omega, Nat.add_mod_right]
      simp [stp, show ¬ h.length + j + l.length < h.length by omega, show ¬ h.length + j < h.length by omega, e3]
    rw [e1]
    show val b h l (h.length + j + l.length) + stp h l (h.length + j + l.length) = (val b h l (h.length + j) + stp h l (h.length + j)) + l.sum
    rw [ih, e2]
    omega⟩
/-! ### two rulers -/
section
variable {b1 b2 : Int} {h1 l1 h2 l2 : List Int}
def gp (b1 : Int) (h1 l1 : List Int) (b2 : Int) (h2 l2 : List Int) (k : Nat) : Int := val b1 h1 l1 k - val b2 h2 l2 k
def hd (h1 h2 : List Int) : Nat := max h1.length h2.length
def lp (l1 l2 : List Int) : Nat := Nat.lcm l1.length l2.length
theorem lp_in (s1 : Sm b1 h1 l1) (s2 : Sm b2 h2 l2) : 1 ≤ lp l1 l2 ∧ lp l1 l2 ≤ 16 := by
  have a1 := s1.l1
  have a2 := s2.l1
  have a3 := s1.l4
  have a4 := s2.l4
  refine ⟨Nat.lcm_pos (by omega) (by omega), ?_⟩
  have := Nat.le_of_dvd (Nat.mul_pos (by omega) (by omega)) (Nat.lcm_dvd_mul l1.length l2.length)
  have m : l1.length * l2.length ≤ 4 * 4 := Nat.mul_le_mul a3 a4
  exact Nat.le_trans this m
theorem hd_in (s1 : Sm b1 h1 l1) (s2 : Sm b2 h2 l2) : hd h1 h2 ≤ 4 := Nat.max_le.mpr ⟨s1.h4, s2.h4⟩
theorem gp_rise (s1 : Sm b1 h1 l1) (s2 : Sm b2 h2 l2) : Rise (gp b1 h1 l1 b2 h2 l2) (hd h1 h2) (lp l1 l2) (gp b1 h1 l1 b2 h2 l2 (hd h1 h2 + lp l1 l2) - gp b1 h1 l1 b2 h2 l2 (hd h1 h2)) := by
  have r1 := val_rise b1 h1 l1 s1.l1
  have r2 := val_rise b2 h2 l2 s2.l1
  obtain ⟨q1, e1⟩ := Nat.dvd_lcm_left l1.length l2.length
  obtain ⟨q2, e2⟩ := Nat.dvd_lcm_right l1.length l2.length
  have m1 : h1.length ≤ hd h1 h2 := Nat.le_max_left _ _
  have m2 : h2.length ≤ hd h1 h2 := Nat.le_max_right _ _
  have key : ∀ k, hd h1 h2 ≤ k → gp b1 h1 l1 b2 h2 l2 (k + lp l1 l2) = gp b1 h1 l1 b2 h2 l2 k + (q1 * l1.sum - q2 * l2.sum) := fun k hk => by
    have c1 := r1.many k (by omega) q1
    have c2 := r2.many k (by omega) q2
    rw [show q1 * l1.length = lp l1 l2 by rw [Nat.mul_comm]; exact e1.symm] at c1
    rw [show q2 * l2.length = lp l1 l2 by rw [Nat.mul_comm]; exact e2.symm] at c2
    unfold gp
    rw [c1, c2]
    omega
  exact ⟨(lp_in s1 s2).1, fun k hk => by
    rw [key k hk, key (hd h1 h2) (Nat.le_refl _)]
    omega⟩
theorem least0 {a b g m : Int} (hg : gcd2 (.int a) (.int b) = some (.int g)) (g1 : 0 < g) (g3 : g < 1073741824) (sb : small b = true) (e : a / g * b = m) (n0 : ¬ 6000 < m) : m_least_common [.int a, .int b, .int 6000] = .ok (.int m) := by
  simp [m_least_common, b_least_common, -x_gcd, hg, g1, g3, sb, e, n0]
theorem least {a b : Nat} (ha : 1 ≤ a) (hb : 1 ≤ b) (h : a * b ≤ 6000) : m_least_common [.int a, .int b, .int 6000] = .ok (.int (Nat.lcm a b)) := by
  have g1 : 0 < Nat.gcd a b := Nat.gcd_pos_of_pos_left _ (by omega)
  have g2 : Nat.gcd a b ≤ a := Nat.gcd_le_left _ (by omega)
  have a2 : a ≤ a * b := Nat.le_mul_of_pos_right a hb
  have b2 : b ≤ a * b := Nat.le_mul_of_pos_left b ha
  have e : (a : Int) / (Nat.gcd a b : Nat) * b = (Nat.lcm a b : Nat) := by
    unfold Nat.lcm
    rw [← Nat.div_mul_right_comm (Nat.gcd_dvd_left a b)]
    push_cast
    rfl
  have l1 : Nat.lcm a b ≤ 6000 := Nat.le_trans (Nat.le_of_dvd (Nat.mul_pos (by omega) (by omega)) (Nat.lcm_dvd_mul a b)) h
  exact least0 (g := (Nat.gcd a b : Nat)) (by rw [x_gcd, Int.natAbs_natCast, Int.natAbs_natCast]) (by omega) (by omega) (small_of (by omega) (by omega)) e (by omega)
theorem frame (s1 : Sm b1 h1 l1) (s2 : Sm b2 h2 l2) : m_frame_of [.tup [ruD b1 h1 l1, ruD b2 h2 l2]] = .ok (.tup [.int (hd h1 h2), .int (lp l1 l2)]) := by
  have a1 := s1.l1
  have a2 := s2.l1
  have a3 := s1.l4
  have a4 := s2.l4
  have c1 := least (a := 1) (b := l1.length) (by omega) a1 (by omega)
  have m : l1.length * l2.length ≤ 4 * 4 := Nat.mul_le_mul a3 a4
  have c2 := least (a := l1.length) (b := l2.length) a1 a2 (by omega)
  rw [Nat.lcm_one_left] at c1
  have e1 : (if 0 < h1.length then (h1.length : Int) else 0) = h1.length := by split <;> omega
  have e2 : (if h1.length < h2.length then (h2.length : Int) else h1.length) = (hd h1 h2 : Nat) := by
    unfold hd
    split <;> omega
  have hle : ((hd h1 h2 : Nat) : Int) + (lp l1 l2 : Nat) ≤ 6000 := by
    have := hd_in s1 s2
    have := lp_in s1 s2
    omega
  have n0 : ¬ 6000 < ((hd h1 h2 : Nat) : Int) + (lp l1 l2 : Nat) := by omega
  have c2 : m_least_common [.int l1.length, .int l2.length, .int 6000] = .ok (.int (lp l1 l2)) := c2
  simp only [Int.natCast_one] at c1
  simp [m_frame_of, b_frame_of, x_for1, l_frame_of_1, ruD, c1, c2, e1, e2, n0]
end
end G


namespace G
open PySem DL L2
section
variable {b1 b2 : Int} {h1 l1 h2 l2 : List Int}
/-- the rise of the gap in a round -/
def rs (b1 : Int) (h1 l1 : List Int) (b2 : Int) (h2 l2 : List Int) : Int := gp b1 h1 l1 b2 h2 l2 (hd h1 h2 + lp l1 l2) - gp b1 h1 l1 b2 h2 l2 (hd h1 h2)
theorem gaps (s1 : Sm b1 h1 l1) (s2 : Sm b2 h2 l2) : m_gaps_of [ruD b1 h1 l1, ruD b2 h2 l2] = .ok (.tup [.lst ((tab (gp b1 h1 l1 b2 h2 l2) (hd h1 h2 + lp l1 l2 + 1)).map D.int), .int (hd h1 h2), .int (rs b1 h1 l1 b2 h2 l2)]) := by
  have f := frame s1 s2
  have i1 := hd_in s1 s2
  have i2 := lp_in s1 s2
  generalize hN : hd h1 h2 + lp l1 l2 + 1 = N
  have c : ((hd h1 h2 : Nat) : Int) + (lp l1 l2 : Nat) + 1 = (N : Nat) := by omega
  have v1 := valuesof (b := b1) (h := h1) s1.l1 (many := N) (by omega)
  have v2 := valuesof (b := b2) (h := h2) s2.l1 (many := N) (by omega)
  have hb : big (N : Int) = true := big_of (by omega) (by omega)
  have hle : N ≤ 16777216 := by omega
  have hc := lcR_map (gt := setV 7) (ft := tsT) (fe := e_gaps_of_1) (n := N) (h := fun k => .int (gp b1 h1 l1 b2 h2 l2 k))
    (e := [.im (ruD b1 h1 l1), .im (ruD b2 h2 l2), .un, .im (.int (hd h1 h2)), .im (.int (lp l1 l2)), .im (.lst ((vals b1 h1 l1 N).map D.int)), .im (.lst ((vals b2 h2 l2 N).map D.int)), .un]) fun k hk => by
    refine ⟨[.im (ruD b1 h1 l1), .im (ruD b2 h2 l2), .un, .im (.int (hd h1 h2)), .im (.int (lp l1 l2)), .im (.lst ((vals b1 h1 l1 N).map D.int)), .im (.lst ((vals b2 h2 l2 N).map D.int)), .im (.int k)], by simp, rfl, ?_⟩
    simp [e_gaps_of_1, at_vals _ _ _ hk, gp]
  rw [tab_D] at hc
  have a1 := tab_at (gp b1 h1 l1 b2 h2 l2) (n := N) (k := hd h1 h2 + lp l1 l2) (by omega)
  have a2 := tab_at (gp b1 h1 l1 b2 h2 l2) (n := N) (k := hd h1 h2) (by omega)
  rw [Int.natCast_add] at a1
  simp [m_gaps_of, b_gaps_of, f, c, v1, v2, hb, rng_length, hle, hc, a1, a2, rs]
theorem no_up {g : Nat → Int} {n : Nat} (h : ¬ ∃ k, k < n ∧ 0 < g k) (k : Nat) (hk : k < n) : ¬ 0 < g k := fun q => h ⟨k, hk, q⟩
theorem rs_in (s1 : Sm b1 h1 l1) (s2 : Sm b2 h2 l2) : rs b1 h1 l1 b2 h2 l2 < 1000000 := by
  have i1 := hd_in s1 s2
  have i2 := lp_in s1 s2
  unfold rs gp
  have a1 := val_in s1 (hd h1 h2 + lp l1 l2)
  have a2 := val_in s2 (hd h1 h2 + lp l1 l2)
  have a3 := val_in s1 (hd h1 h2)
  have a4 := val_in s2 (hd h1 h2)
  omega
/-- the first place above, if there is one -/
theorem above (s1 : Sm b1 h1 l1) (s2 : Sm b2 h2 l2) {o : D} (ho : (∃ k : Nat, Up (gp b1 h1 l1 b2 h2 l2) k ∧ o = .int k) ∨ ((∀ k, ¬ 0 < gp b1 h1 l1 b2 h2 l2 k) ∧ o = .non)) : m_above_at [ruD b1 h1 l1, ruD b2 h2 l2] = .ok o := by
  have g := gaps s1 s2
  have i1 := hd_in s1 s2
  have i2 := lp_in s1 s2
  have R := gp_rise s1 s2
  have rr := rs_in s1 s2
  have c1 := chk s1
  have c2 := chk s2
  have R : Rise (gp b1 h1 l1 b2 h2 l2) (hd h1 h2) (lp l1 l2) (rs b1 h1 l1 b2 h2 l2) := R
  generalize rs b1 h1 l1 b2 h2 l2 = r at g R rr
  generalize hN : hd h1 h2 + lp l1 l2 + 1 = N at g
  generalize gp b1 h1 l1 b2 h2 l2 = gg at g R ho
  have hb : big (N : Int) = true := big_of (by omega) (by omega)
  have hle : N ≤ 16777216 := by omega
  generalize ruD b1 h1 l1 = A at g c1
  generalize ruD b2 h2 l2 = B at g c2
  let E : Nat → Ev := fun k => [.im A, .im B, (if k = 0 then .un else .im (.int ((k : Int) - 1))), .un, .im (.lst ((tab gg N).map D.int)), .im (.int (hd h1 h2)), .im (.int r)]
  have turn : ∀ k, k < N → ¬ 0 < gg k → ∃ e1, setV 2 (.int k) (E k) = some e1 ∧ l_above_at_1 e1 = .nx (E (k + 1)) := fun k hk hn => by
    have hms : msO (some (if k = 0 then Sl.un else Sl.im (.int ((k : Int) - 1)))) = true := by split <;> rfl
    refine ⟨[.im A, .im B, .im (.int k), .un, .im (.lst ((tab gg N).map D.int)), .im (.int (hd h1 h2)), .im (.int r)], by simp [E, hms], ?_⟩
    simp [l_above_at_1, E, tab_at gg hk, hn]
  by_cases hq : ∃ k, k < N ∧ 0 < gg k
  · obtain ⟨k, hk, hp⟩ := hq
    obtain ⟨k0, hk0, U⟩ := up_ex hp
    have ho' : o = .int k0 := by
      rcases ho with ⟨k1, U1, rfl⟩ | ⟨z, _⟩
      · have e : k1 = k0 := by
          rcases Nat.lt_trichotomy k1 k0 with z | z | z
          · exact absurd U1.1 (U.2 _ z)
          · exact z
          · exact absurd U.1 (U1.2 _ z)
        rw [e]
      · exact absurd hp (z k)
    have hms : msO (some (if k0 = 0 then Sl.un else Sl.im (.int ((k0 : Int) - 1)))) = true := by split <;> rfl
    have hf := forR_ret (gt := setV 2) (b := l_above_at_1) (n := N) (m := k0) (d := .int k0) (e := [.im A, .im B, .un, .un, .im (.lst ((tab gg N).map D.int)), .im (.int (hd h1 h2)), .im (.int r)])
      (e2 := [.im A, .im B, .im (.int k0), .un, .im (.lst ((tab gg N).map D.int)), .im (.int (hd h1 h2)), .im (.int r)]) E rfl (by omega) (fun k hk => turn k (by omega) (U.2 k hk))
      ⟨[.im A, .im B, .im (.int k0), .un, .im (.lst ((tab gg N).map D.int)), .im (.int (hd h1 h2)), .im (.int r)], by simp [E, hms], by
        simp [l_above_at_1, tab_at gg (show k0 < N by omega), U.1]⟩
    subst ho'
    simp [m_above_at, b_above_at, k_above_at_1, k_above_at_2, k_above_at_3, k_above_at_4, k_above_at_5, k_above_at_6, c1, c2, g, tab_len, hb, hf]
  · have hn := no_up hq
    have hf := forR (gt := setV 2) (b := l_above_at_1) (n := N) (e := [.im A, .im B, .un, .un, .im (.lst ((tab gg N).map D.int)), .im (.int (hd h1 h2)), .im (.int r)]) E rfl (fun k hk => turn k hk (hn k hk))
    have hN0 : N ≠ 0 := by omega
    by_cases hr : r ≤ 0
    · have ho' : o = .non := by
        rcases ho with ⟨k1, U1, rfl⟩ | ⟨_, z⟩
        · exact absurd U1.1 (R.never hr (fun k hk => hn k (by omega)) k1)
        · exact z
      subst ho'
      simp [m_above_at, b_above_at, k_above_at_1, k_above_at_2, k_above_at_3, k_above_at_4, k_above_at_5, k_above_at_6, c1, c2, g, tab_len, hb, hf, E, hr]
    · have hr' : 0 < r := by omega
      obtain ⟨k0, U, rfl⟩ : ∃ k : Nat, Up gg k ∧ o = .int k := by
        rcases ho with h | ⟨z, _⟩
        · exact h
        · -- it rises for ever
          obtain ⟨q, hq⟩ : ∃ q : Nat, 0 < gg (hd h1 h2) + q := ⟨(-gg (hd h1 h2)).toNat + 1, by omega⟩
          have m := R.many (hd h1 h2) (Nat.le_refl _) q
          have z1 := z (hd h1 h2 + q * lp l1 l2)
          rw [m] at z1
          have m1 : (q : Int) * 1 ≤ (q : Int) * r := Int.mul_le_mul_of_nonneg_left (by omega) (by omega)
          rw [Int.mul_one] at m1
          generalize (q : Int) * r = w at z1 m1
          omega
      have lst := R.least hr' (fun k hk => hn k (by omega)) U
      have e1 : (N : Int) - 1 - (hd h1 h2 : Nat) = (lp l1 l2 : Nat) := by omega
      have hbl : big ((lp l1 l2 : Nat) : Int) = true := big_of (by omega) (by omega)
      have hsl : small ((lp l1 l2 : Nat) : Int) = true := small_of (by omega) (by omega)
      have hll : lp l1 l2 ≤ 16777216 := by omega
      have rr2 : r < 1073741824 := by omega
      have hc := lcR_map (gt := setV 2) (ft := tsT) (fe := e_above_at_2) (n := lp l1 l2) (h := fun k => .int ((fun k : Nat => ((hd h1 h2 : Nat) : Int) + k + (-gg (hd h1 h2 + k) / r + 1) * (lp l1 l2 : Nat)) k))
        (e := [.im A, .im B, .un, .im (.int (lp l1 l2)), .im (.lst ((tab gg N).map D.int)), .im (.int (hd h1 h2)), .im (.int r)]) fun k hk => by
          refine ⟨[.im A, .im B, .im (.int k), .im (.int (lp l1 l2)), .im (.lst ((tab gg N).map D.int)), .im (.int (hd h1 h2)), .im (.int r)], by simp, rfl, ?_⟩
          have a := tab_at gg (n := N) (k := hd h1 h2 + k) (by omega)
          rw [Int.natCast_add] at a
          simp [e_above_at_2, a, hr', rr2, hsl]
      rw [tab_D] at hc
      have hms : msO (some (if N = 0 then Sl.un else Sl.im (.int ((N : Int) - 1)))) = true := by split <;> rfl
      have hlp : 0 < lp l1 l2 := by omega
      simp [m_above_at, b_above_at, k_above_at_1, k_above_at_2, k_above_at_3, k_above_at_4, k_above_at_5, k_above_at_6, c1, c2, g, tab_len, hb, hf, E, hr, hr', e1, hbl, rng_length, hll, hc, lst, hN0, hlp]

theorem greatest_none (s1 : Sm b1 h1 l1) (s2 : Sm b2 h2 l2) (hr : 0 < rs b1 h1 l1 b2 h2 l2) : m_greatest_gap [ruD b1 h1 l1, ruD b2 h2 l2] = .ok .non := by
  have g := gaps s1 s2
  have c1 := chk s1
  have c2 := chk s2
  simp [m_greatest_gap, b_greatest_gap, k_greatest_gap_1, k_greatest_gap_2, k_greatest_gap_3, k_greatest_gap_4, k_greatest_gap_5, c1, c2, g, hr]
theorem greatest (s1 : Sm b1 h1 l1) (s2 : Sm b2 h2 l2) (hr : rs b1 h1 l1 b2 h2 l2 ≤ 0) {m : Int} {i : Nat} (hi : i < hd h1 h2 + lp l1 l2 + 1) (F : First (gp b1 h1 l1 b2 h2 l2) m i) (hm : maxI (tab (gp b1 h1 l1 b2 h2 l2) (hd h1 h2 + lp l1 l2 + 1)) = m) :
    m_greatest_gap [ruD b1 h1 l1, ruD b2 h2 l2] = .ok (.tup [.int m, .int i]) := by
  have g := gaps s1 s2
  have c1 := chk s1
  have c2 := chk s2
  have hn : ¬ 0 < rs b1 h1 l1 b2 h2 l2 := by omega
  have hx := ind_tab F hi
  generalize hN : hd h1 h2 + lp l1 l2 + 1 = N at g hm hx
  have hN0 : 0 < N := by omega
  simp [m_greatest_gap, b_greatest_gap, k_greatest_gap_1, k_greatest_gap_2, k_greatest_gap_3, k_greatest_gap_4, k_greatest_gap_5, c1, c2, g, hn, tab_len, hN0, hm, hx]
theorem leads1 {b : Int} {h l : List Int} {N : Nat} {n d : Int} (hd2 : small d = true) (hn2 : small n = true) {k : Nat} (hk : k < N) : e_leads_of_1 [.im (ruD b h l), .im (.int n), .im (.int d), .im (.lst ((vals b h l N).map D.int)), .im (.int k)] = .ok (.int (d * val b h l k - n * k)) := by
  simp [e_leads_of_1, at_vals _ _ _ hk, hd2, hn2]
theorem leads2 {b : Int} {h l : List Int} {N : Nat} {n d : Int} (hd2 : small d = true) (hn2 : small n = true) : lcL (setV 4) tsT e_leads_of_1 (rng 0 N) [.im (ruD b h l), .im (.int n), .im (.int d), .im (.lst ((vals b h l N).map D.int)), .un] = .ok ((tab (fun x => d * val b h l x - n * x) N).map D.int) := by
  rw [lcR_map (h := fun k => .int ((fun x : Nat => d * val b h l x - n * x) k)), tab_D]
  intro k hk
  exact ⟨[.im (ruD b h l), .im (.int n), .im (.int d), .im (.lst ((vals b h l N).map D.int)), .im (.int k)], by simp, by simp, leads1 hd2 hn2 hk⟩
theorem leads3 {b : Int} {h l : List Int} {N : Nat} {n d : Int} (c : (h.length : Int) + l.length = (N : Nat)) (v : m_values_of [ruD b h l, .int N] = .ok (.lst ((vals b h l N).map D.int))) (hb : big (N : Int) = true) (hle : N ≤ 16777216) (hc : lcL (setV 4) tsT e_leads_of_1 (rng 0 N) [.im (ruD b h l), .im (.int n), .im (.int d), .im (.lst ((vals b h l N).map D.int)), .un] = .ok ((tab (fun x => d * val b h l x - n * x) N).map D.int)) :
  m_leads_of [ruD b h l, .int n, .int d] = .ok (.lst ((tab (fun x => d * val b h l x - n * x) N).map D.int)) := by
  simp only [ruD] at hc v
  simp [m_leads_of, b_leads_of, ruD, c, v, vals_len, hb, rng_length, hle, hc]
theorem leads {b : Int} {h l : List Int} (s : Sm b h l) {n d : Int} (hd2 : small d = true) (hn2 : small n = true) : m_leads_of [ruD b h l, .int n, .int d] = .ok (.lst ((tab (fun x => d * val b h l x - n * x) (h.length + l.length)).map D.int)) := by
  have a1 := s.h4
  have a2 := s.l4
  exact leads3 (by omega) (valuesof s.l1 (by omega)) (big_of (by omega) (by omega)) (by omega) (leads2 hd2 hn2)
theorem max2 (a b : Nat) : (if a < b then (b : Int) else (a : Int)) = (max a b : Nat) := by split <;> omega
theorem s80 : small 80 = true := by decide
theorem lawgaps0 {A B : D} {L H N : Nat} {u v : List Int} (c : (H : Int) + 80 * (L : Nat) = (N : Nat)) (hA : A = .tup [.int b1, .tup (h1.map D.int), .tup (l1.map D.int)]) (hB : B = .tup [.int b2, .tup (h2.map D.int), .tup (l2.map D.int)])
    (hc : m__law_common [.int l1.length, .int l2.length] = .ok (.int L)) (hm : (if h1.length < h2.length then (h2.length : Int) else (h1.length : Int)) = H) (v1 : m__law_told [A, .int N] = .ok (.lst (u.map D.int))) (v2 : m__law_told [B, .int N] = .ok (.lst (v.map D.int))) (hb : big N = true) (hle : N ≤ 16777216)
    {r : List Int} {x y : Int} (hcc : lcL (setV 7) tsT e__law_gaps_1 (rng 0 N) [.im A, .im B, .un, .im (.int L), .im (.int H), .im (.lst (u.map D.int)), .im (.lst (v.map D.int)), .un] = .ok (r.map D.int)) (a1 : atI (r.map D.int) ((H : Int) + L) = some (.int x)) (a2 : atI (r.map D.int) (H : Int) = some (.int y)) :
    m__law_gaps [A, B] = .ok (.tup [.lst (r.map D.int), .int (x - y)]) := by
  subst hA hB
  simp [m__law_gaps, b__law_gaps, hc, hm, s80, c, v1, v2, hb, rng_length, hle, hcc, a1, a2]
theorem lawgaps (s1 : Sm b1 h1 l1) (s2 : Sm b2 h2 l2) (hc : m__law_common [.int l1.length, .int l2.length] = .ok (.int (lp l1 l2))) : m__law_gaps [ruD b1 h1 l1, ruD b2 h2 l2] = .ok (.tup [.lst ((tab (gp b1 h1 l1 b2 h2 l2) (hd h1 h2 + 80 * lp l1 l2)).map D.int), .int (rs b1 h1 l1 b2 h2 l2)]) := by
  have i1 := hd_in s1 s2
  have i2 := lp_in s1 s2
  have hm : (if h1.length < h2.length then (h2.length : Int) else (h1.length : Int)) = (hd h1 h2 : Nat) := max2 _ _
  unfold rs
  generalize lp l1 l2 = L at hc i2
  generalize hd h1 h2 = H at hm i1
  generalize hN : H + 80 * L = N
  have v1 := told b1 h1 l1 N (by omega) (by omega) s1.l1
  have v2 := told b2 h2 l2 N (by omega) (by omega) s2.l1
  have hcc := lcR_map (gt := setV 7) (ft := tsT) (fe := e__law_gaps_1) (n := N) (h := fun k => .int (gp b1 h1 l1 b2 h2 l2 k))
    (e := [.im (ruD b1 h1 l1), .im (ruD b2 h2 l2), .un, .im (.int L), .im (.int H), .im (.lst ((vals b1 h1 l1 N).map D.int)), .im (.lst ((vals b2 h2 l2 N).map D.int)), .un]) fun k hk => by
    refine ⟨[.im (ruD b1 h1 l1), .im (ruD b2 h2 l2), .un, .im (.int L), .im (.int H), .im (.lst ((vals b1 h1 l1 N).map D.int)), .im (.lst ((vals b2 h2 l2 N).map D.int)), .im (.int k)], by simp, by simp, ?_⟩
    simp [e__law_gaps_1, at_vals _ _ _ hk, gp]
  rw [tab_D] at hcc
  have a1 := tab_at (gp b1 h1 l1 b2 h2 l2) (n := N) (k := H + L) (by omega)
  have a2 := tab_at (gp b1 h1 l1 b2 h2 l2) (n := N) (k := H) (by omega)
  rw [Int.natCast_add] at a1
  exact lawgaps0 (by omega) rfl rfl hc hm v1 v2 (big_of (by omega) (by omega)) (by omega) hcc a1 a2
theorem parted : ∀ (k a b : Nat), b < k → m__law_parted k [.int a, .int b] = .ok (.int (Nat.gcd a b : Nat))
  | 0, _, _, h => absurd h (Nat.not_lt_zero _)
  | k + 1, a, b, h => by
    by_cases hb : b = 0
    · subst hb
      simp [m__law_parted, b__law_parted]
    · have ih := parted k b (a % b) (by have := Nat.mod_lt a (show 0 < b by omega); omega)
      rw [Int.natCast_emod] at ih
      have hp : 0 < b := by omega
      have e : Nat.gcd b (a % b) = Nat.gcd a b := by rw [Nat.gcd_comm a b, Nat.gcd_rec b a, Nat.gcd_comm]
      rw [e] at ih
      generalize Nat.gcd a b = g at ih
      simp [m__law_parted, b__law_parted, hb, hp, ih]
theorem common {a b : Nat} (a1 : 1 ≤ a) (a4 : a ≤ 4) (c1 : 1 ≤ b) (c4 : b ≤ 4) : m__law_common [.int a, .int b] = .ok (.int (Nat.lcm a b)) := by
  have ha : a = 1 ∨ a = 2 ∨ a = 3 ∨ a = 4 := by omega
  have hb : b = 1 ∨ b = 2 ∨ b = 3 ∨ b = 4 := by omega
  rcases ha with rfl | rfl | rfl | rfl <;> rcases hb with rfl | rfl | rfl | rfl <;> rfl
end
end G


namespace G
open PySem DL L2
theorem filt_nil {n : Nat} {p : Nat → Bool} (h : (List.range n).filter p = []) (k : Nat) (hk : k < n) : p k = false := by
  have := List.filter_eq_nil_iff.mp h k (List.mem_range.mpr hk)
  simpa using this
theorem filt_cons {n : Nat} {p : Nat → Bool} {a : Nat} {t : List Nat} (h : (List.range n).filter p = a :: t) : a < n ∧ p a = true ∧ ∀ j, j < a → p j = false := by
  have h1 : ((List.range n).filter p).head? = some a := by rw [h]; rfl
  rw [List.head?_filter, List.find?_range_eq_some] at h1
  obtain ⟨h2, h3, h4⟩ := h1
  exact ⟨List.mem_range.mp h3, h2, fun j hj => by simpa using h4 j hj⟩
section
variable {b1 b2 : Int} {h1 l1 h2 l2 : List Int}
theorem gp_swap (k : Nat) : gp b2 h2 l2 b1 h1 l1 k = -gp b1 h1 l1 b2 h2 l2 k := by
  unfold gp
  omega
theorem hd_swap : hd h2 h1 = hd h1 h2 := Nat.max_comm _ _
theorem lp_swap : lp l2 l1 = lp l1 l2 := Nat.lcm_comm _ _
theorem rs_swap : rs b2 h2 l2 b1 h1 l1 = -rs b1 h1 l1 b2 h2 l2 := by
  unfold rs
  have e1 := gp_swap (b1 := b1) (h1 := h1) (l1 := l1) (b2 := b2) (h2 := h2) (l2 := l2) (hd h1 h2 + lp l1 l2)
  have e2 := gp_swap (b1 := b1) (h1 := h1) (l1 := l1) (b2 := b2) (h2 := h2) (l2 := l2) (hd h1 h2)
  rw [hd_swap, lp_swap, e1, e2]
  omega
theorem lead_rise {b : Int} {h l : List Int} (s : Sm b h l) {n d : Int} (e : d * l.sum = n * l.length) : Rise (fun x => d * val b h l x - n * x) h.length l.length 0 := ⟨s.l1, fun k hk => by
  have r := (val_rise b h l s.l1).go k hk
  show d * val b h l (k + l.length) - n * ((k + l.length : Nat) : Int) = d * val b h l k - n * (k : Int) + 0
  rw [r, Int.natCast_add, Int.mul_add, Int.mul_add, e]
  omega⟩
theorem sum_nn {l : List Int} (h : ∀ x ∈ l, 0 ≤ x ∧ x < 4) : 0 ≤ l.sum ∧ l.sum ≤ 3 * l.length := by
  induction l with
  | nil => simp
  | cons x l ih =>
    have h1 := h x List.mem_cons_self
    have h2 := ih fun y hy => h y (List.mem_cons_of_mem _ hy)
    simp only [List.sum_cons, List.length_cons]
    omega
/-- the slope's parts -/
structure Pt (l : List Int) (g n d : Int) : Prop where
  g0 : 0 < g
  g9 : g < 1073741824
  en : l.sum / g = n
  ed : (l.length : Int) / g = d
  nn : 0 ≤ n ∧ n ≤ 100
  dd : 0 < d ∧ d ≤ 100
  e : d * l.sum = n * l.length
theorem parts {b : Int} {h l : List Int} (s : Sm b h l) : Pt l (Nat.gcd l.sum.natAbs l.length : Nat) (l.sum / (Nat.gcd l.sum.natAbs l.length : Nat)) (l.length / (Nat.gcd l.sum.natAbs l.length : Nat)) := by
  have a1 := s.l1
  have a4 := s.l4
  obtain ⟨s0, s9⟩ := sum_nn s.ls
  have g1 : 0 < Nat.gcd l.sum.natAbs l.length := Nat.gcd_pos_of_pos_right _ (by omega)
  have g2 : Nat.gcd l.sum.natAbs l.length ≤ l.length := Nat.gcd_le_right _ (by omega)
  obtain ⟨p, hp⟩ := Nat.gcd_dvd_left l.sum.natAbs l.length
  obtain ⟨q, hq⟩ := Nat.gcd_dvd_right l.sum.natAbs l.length
  generalize Nat.gcd l.sum.natAbs l.length = g at g1 g2 hp hq
  have e1 : l.sum = (g : Int) * p := by
    have : (l.sum.natAbs : Int) = (g * p : Nat) := by rw [hp]
    rw [Int.natAbs_of_nonneg s0] at this
    rw [this]
    push_cast
    rfl
  have e2 : (l.length : Int) = (g : Int) * q := by
    have : (l.length : Int) = (g * q : Nat) := by rw [← hq]
    rw [this]
    push_cast
    rfl
  have gz : (g : Int) ≠ 0 := by omega
  have d1 : l.sum / (g : Int) = p := by rw [e1, Int.mul_ediv_cancel_left _ gz]
  have d2 : (l.length : Int) / (g : Int) = q := by rw [e2, Int.mul_ediv_cancel_left _ gz]
  have p9 : p ≤ l.sum.natAbs := by rw [hp]; exact Nat.le_mul_of_pos_left _ g1
  have q9 : q ≤ l.length := by
    have := Nat.le_mul_of_pos_left q g1
    rw [← hq] at this
    exact this
  have q0 : 0 < q := by
    rcases Nat.eq_zero_or_pos q with z | z
    · rw [z] at hq
      simp at hq
      rw [hq] at a1
      simp at a1
    · exact z
  refine ⟨by omega, by omega, rfl, rfl, by rw [d1]; omega, by rw [d2]; omega, ?_⟩
  rw [d1, d2, e1, e2]
  rw [Int.mul_left_comm, Int.mul_comm (q : Int) p, Int.mul_left_comm]
theorem lines {b : Int} {h l : List Int} (s : Sm b h l) {g n d : Int} (p : Pt l g n d) (hl : m_lowest [.int l.sum, .int l.length] = .ok (.tup [.int n, .int d])) {lo hi : Int} {i j : Nat} (hi1 : i < h.length + l.length) (hj : j < h.length + l.length)
    (F1 : First (fun x => d * val b h l x - n * x) lo i) (F2 : First (fun x => d * val b h l x - n * x) hi j) (e1 : minI (tab (fun x => d * val b h l x - n * x) (h.length + l.length)) = lo) (e2 : maxI (tab (fun x => d * val b h l x - n * x) (h.length + l.length)) = hi) :
    m_lines_round [ruD b h l] = .ok (.tup [.tup [.int lo, .int i], .tup [.int hi, .int j]]) := by
  have c := chk s
  have ld := leads (b := b) (h := h) s (n := n) (d := d) (small_of (by have := p.dd; omega) (by have := p.dd; omega)) (small_of (by have := p.nn; omega) (by have := p.nn; omega))
  have x1 := ind_tab F1 hi1
  have x2 := ind_tab F2 hj
  generalize hN : h.length + l.length = N at ld e1 e2 x1 x2
  have hN0 : 0 < N := by omega
  simp only [ruD] at c ld
  simp [m_lines_round, b_lines_round, ruD, c, hl, ld, e1, e2, x1, x2, tab_len, hN0]

def EE (x0 x1 : Sl) (A B : D) (x9 s2 s3 s4 s5 s6 s10 s11 s12 s13 : Sl) : Ev := [x0, x1, s2, s3, s4, s5, s6, .im A, .im B, x9, s10, s11, s12, s13, .un]
theorem big40 : big 40 = true := by decide
theorem k12 (s1 : Sm b1 h1 l1) {g n d : Int} (p : Pt l1 g n d) (hl : m_lowest [.int l1.sum, .int l1.length] = .ok (.tup [.int n, .int d])) (x0 x1 x9 s3 s4 s12 s13 : Sl) (B : D) :
    ∃ e, k_law_12 (EE x0 x1 (ruD b1 h1 l1) B x9 (.im (.int g)) s3 s4 .un .un (.im (.int l1.sum)) (.im (.int l1.length)) s12 s13) = .rt (.bl true) e := by
  have a1 := s1.l1
  have a4 := s1.l4
  have c4 := s1.h4
  have R := lead_rise s1 p.e
  obtain ⟨lo, i, hi1, F1, m1, m2⟩ := min_pre (f := fun x => d * val b1 h1 l1 x - n * x) (s := h1.length + l1.length) (n := 40) (by omega) (by omega) (R.min (by omega) 40)
  obtain ⟨hi, j, hj1, F2, m3, m4⟩ := max_pre (f := fun x => d * val b1 h1 l1 x - n * x) (s := h1.length + l1.length) (n := 40) (by omega) (by omega) (R.max (by omega) 40)
  have ln := lines s1 p hl hi1 hj1 F1 F2 m1 m3
  have y1 := ind_tab (n := 40) F1 (by omega)
  have y2 := ind_tab (n := 40) F2 (by omega)
  have tl := told b1 h1 l1 40 (by omega) (by omega) a1
  have hd2 : small d = true := small_of (by have := p.dd; omega) (by have := p.dd; omega)
  have hn2 : small n = true := small_of (by have := p.nn; omega) (by have := p.nn; omega)
  have en := p.en
  have ed := p.ed
  have g0 := p.g0
  have g9 := p.g9
  have hc : lcL (setV 14) tsT e_law_3 (rng 0 40) (EE x0 x1 (ruD b1 h1 l1) B x9 (.im (.int g)) s3 s4 (.im (.lst ((vals b1 h1 l1 40).map D.int))) .un (.im (.int l1.sum)) (.im (.int l1.length)) s12 s13) = .ok ((tab (fun x => d * val b1 h1 l1 x - n * x) 40).map D.int) := by
    rw [lcR_map (h := fun k => .int ((fun x : Nat => d * val b1 h1 l1 x - n * x) k)), tab_D]
    intro k hk
    refine ⟨[x0, x1, .im (.int g), s3, s4, .im (.lst ((vals b1 h1 l1 40).map D.int)), .un, .im (ruD b1 h1 l1), .im B, x9, .im (.int l1.sum), .im (.int l1.length), s12, s13, .im (.int k)], by simp [EE], by simp, ?_⟩
    simp [e_law_3, at_vals _ _ _ hk, en, ed, hd2, hn2, g0, g9, Int.mul_comm]
  have q : eqD (.tup [.tup [.int lo, .int i], .tup [.int hi, .int j]]) (.tup [.tup [.int lo, .int i], .tup [.int hi, .int j]]) = some (.bl true) := eq_same (n := 2) (by simp [okd, okds]) (by decide)
  simp only [EE] at hc
  have tl' : m__law_told [ruD b1 h1 l1, .int 40] = .ok (.lst ((vals b1 h1 l1 40).map D.int)) := tl
  generalize ruD b1 h1 l1 = A at ln tl' hc
  refine ⟨?_, ?_⟩
  rotate_left
  · simp only [EE, k_law_12, k_law_13, k_law_14]
    simp [tl', big40, rng_length, hc, ln, m2, m4, tab_len, y1, y2, q]
    rfl

theorem okT2 (m : Int) (i : Nat) : neD (.tup [.int m, .int i]) (.tup [.int m, .int i]) = some (.bl false) := ne_same (n := 1) (by simp [okd, okds]) (by decide)
theorem k11 (s1 : Sm b1 h1 l1) (s2 : Sm b2 h2 l2) (x0 x1 x9 s3 s4 s10 s11 x2 : Sl) : k_law_11 (EE x0 x1 (ruD b1 h1 l1) (ruD b2 h2 l2) x9 x2 s3 s4 .un .un s10 s11 (.im (.lst ((tab (gp b1 h1 l1 b2 h2 l2) (hd h1 h2 + 80 * lp l1 l2)).map D.int))) (.im (.int (rs b1 h1 l1 b2 h2 l2)))) =
    k_law_12 (EE x0 x1 (ruD b1 h1 l1) (ruD b2 h2 l2) x9 x2 s3 s4 .un .un s10 s11 (.im (.lst ((tab (gp b1 h1 l1 b2 h2 l2) (hd h1 h2 + 80 * lp l1 l2)).map D.int))) (.im (.int (rs b1 h1 l1 b2 h2 l2)))) := by
  have sw := rs_swap (b1 := b1) (b2 := b2) (h1 := h1) (h2 := h2) (l1 := l1) (l2 := l2)
  have R : Rise (gp b1 h1 l1 b2 h2 l2) (hd h1 h2) (lp l1 l2) (rs b1 h1 l1 b2 h2 l2) := gp_rise s1 s2
  have i2 := lp_in s1 s2
  rcases Int.lt_trichotomy (rs b1 h1 l1 b2 h2 l2) 0 with z | z | z
  · have g := greatest_none s2 s1 (by rw [sw]; omega)
    have z2 : ¬ rs b1 h1 l1 b2 h2 l2 = 0 := by omega
    generalize rs b1 h1 l1 b2 h2 l2 = r at z z2 ⊢
    generalize ruD b1 h1 l1 = A at g ⊢
    generalize ruD b2 h2 l2 = B at g ⊢
    simp [k_law_11, EE, g, z, z2]
  · obtain ⟨m, i, hi, F, e1, e2⟩ := min_pre (f := gp b1 h1 l1 b2 h2 l2) (s := hd h1 h2 + lp l1 l2 + 1) (n := hd h1 h2 + 80 * lp l1 l2) (by omega) (by omega) (fun k hk => by
      obtain ⟨j, hj, hle⟩ := R.min (by omega) _ k hk
      exact ⟨j, by omega, hle⟩)
    have y := ind_tab (n := hd h1 h2 + 80 * lp l1 l2) F (by omega)
    have F' : First (gp b2 h2 l2 b1 h1 l1) (-m) i := ⟨by rw [gp_swap, F.1], fun j hj e => F.2 j hj (by
      have := gp_swap (b1 := b1) (b2 := b2) (h1 := h1) (h2 := h2) (l1 := l1) (l2 := l2) j
      omega)⟩
    have e3 : maxI (tab (gp b2 h2 l2 b1 h1 l1) (hd h2 h1 + lp l2 l1 + 1)) = -m := by
      rw [hd_swap, lp_swap]
      refine maxI_eq ((tab_mem _).mpr ⟨i, hi, F'.1⟩) fun y hy => ?_
      obtain ⟨k, hk, rfl⟩ := (tab_mem _).mp hy
      have := (minI_mem (ns := tab (gp b1 h1 l1 b2 h2 l2) (hd h1 h2 + lp l1 l2 + 1)) (fun e => by
        have := tab_len (gp b1 h1 l1 b2 h2 l2) (hd h1 h2 + lp l1 l2 + 1)
        rw [e] at this
        simp at this)).2 _ ((tab_mem _).mpr ⟨k, hk, rfl⟩)
      rw [e1] at this
      rw [gp_swap]
      omega
    have g := greatest s2 s1 (by rw [sw]; omega) (by rw [hd_swap, lp_swap]; exact hi) F' e3
    have q := okT2 (-m) i
    have hM : 0 < hd h1 h2 + 80 * lp l1 l2 := by omega
    generalize hd h1 h2 + 80 * lp l1 l2 = M at e2 y hM ⊢
    generalize rs b1 h1 l1 b2 h2 l2 = r at z ⊢
    subst z
    generalize gp b1 h1 l1 b2 h2 l2 = gg at e2 y ⊢
    generalize ruD b1 h1 l1 = A at g ⊢
    generalize ruD b2 h2 l2 = B at g ⊢
    simp [k_law_11, EE, g, e2, y, q, tab_len, hM]
  · have z2 : ¬ rs b1 h1 l1 b2 h2 l2 = 0 := by omega
    have z3 : ¬ rs b1 h1 l1 b2 h2 l2 < 0 := by omega
    generalize rs b1 h1 l1 b2 h2 l2 = r at z2 z3 ⊢
    simp [k_law_11, EE, z2, z3]
theorem k9 (s1 : Sm b1 h1 l1) (s2 : Sm b2 h2 l2) (x0 x1 x9 s3 s10 s11 x2 : Sl) : ∃ s4, k_law_9 (EE x0 x1 (ruD b1 h1 l1) (ruD b2 h2 l2) x9 x2 s3 .un .un .un s10 s11 (.im (.lst ((tab (gp b1 h1 l1 b2 h2 l2) (hd h1 h2 + 80 * lp l1 l2)).map D.int))) (.im (.int (rs b1 h1 l1 b2 h2 l2)))) =
    k_law_11 (EE x0 x1 (ruD b1 h1 l1) (ruD b2 h2 l2) x9 x2 s3 s4 .un .un s10 s11 (.im (.lst ((tab (gp b1 h1 l1 b2 h2 l2) (hd h1 h2 + 80 * lp l1 l2)).map D.int))) (.im (.int (rs b1 h1 l1 b2 h2 l2)))) := by
  have R : Rise (gp b1 h1 l1 b2 h2 l2) (hd h1 h2) (lp l1 l2) (rs b1 h1 l1 b2 h2 l2) := gp_rise s1 s2
  have i2 := lp_in s1 s2
  have hM : 0 < hd h1 h2 + 80 * lp l1 l2 := by omega
  by_cases z : 0 < rs b1 h1 l1 b2 h2 l2
  · have g := greatest_none s1 s2 z
    have q : neD .non .non = some (.bl false) := ne_same (n := 0) (by simp [okd]) (by decide)
    generalize hd h1 h2 + 80 * lp l1 l2 = M at hM ⊢
    generalize rs b1 h1 l1 b2 h2 l2 = r at z ⊢
    generalize gp b1 h1 l1 b2 h2 l2 = gg at ⊢
    generalize ruD b1 h1 l1 = A at g ⊢
    generalize ruD b2 h2 l2 = B at g ⊢
    refine ⟨.im (.int (maxI (tab gg M))), ?_⟩
    simp [k_law_9, k_law_10, EE, g, z, tab_len, hM, q]
  · obtain ⟨m, i, hi, F, e1, e2⟩ := max_pre (f := gp b1 h1 l1 b2 h2 l2) (s := hd h1 h2 + lp l1 l2 + 1) (n := hd h1 h2 + 80 * lp l1 l2) (by omega) (by omega) (fun k hk => by
      obtain ⟨j, hj, hle⟩ := R.max (by omega) _ k hk
      exact ⟨j, by omega, hle⟩)
    have y := ind_tab (n := hd h1 h2 + 80 * lp l1 l2) F (by omega)
    have g := greatest s1 s2 (by omega) hi F e1
    have q := okT2 m i
    generalize hd h1 h2 + 80 * lp l1 l2 = M at e2 y hM ⊢
    generalize rs b1 h1 l1 b2 h2 l2 = r at z ⊢
    generalize gp b1 h1 l1 b2 h2 l2 = gg at e2 y ⊢
    generalize ruD b1 h1 l1 = A at g ⊢
    generalize ruD b2 h2 l2 = B at g ⊢
    refine ⟨.im (.int m), ?_⟩
    simp [k_law_9, k_law_10, EE, g, e2, y, q, tab_len, hM, z]
theorem k7 (s1 : Sm b1 h1 l1) (s2 : Sm b2 h2 l2) (x0 x1 x9 s10 s11 x2 : Sl) : ∃ s3, k_law_7 (EE x0 x1 (ruD b1 h1 l1) (ruD b2 h2 l2) x9 x2 .un .un .un .un s10 s11 (.im (.lst ((tab (gp b1 h1 l1 b2 h2 l2) (hd h1 h2 + 80 * lp l1 l2)).map D.int))) (.im (.int (rs b1 h1 l1 b2 h2 l2)))) =
    k_law_9 (EE x0 x1 (ruD b1 h1 l1) (ruD b2 h2 l2) x9 x2 s3 .un .un .un s10 s11 (.im (.lst ((tab (gp b1 h1 l1 b2 h2 l2) (hd h1 h2 + 80 * lp l1 l2)).map D.int))) (.im (.int (rs b1 h1 l1 b2 h2 l2)))) := by
  have R : Rise (gp b1 h1 l1 b2 h2 l2) (hd h1 h2) (lp l1 l2) (rs b1 h1 l1 b2 h2 l2) := gp_rise s1 s2
  have i1 := hd_in s1 s2
  have i2 := lp_in s1 s2
  have ab : ∀ (o : D), ((∃ k : Nat, Up (gp b1 h1 l1 b2 h2 l2) k ∧ o = .int k) ∨ ((∀ k, ¬ 0 < gp b1 h1 l1 b2 h2 l2 k) ∧ o = .non)) → m_above_at [ruD b1 h1 l1, ruD b2 h2 l2] = .ok o := fun o h => above s1 s2 h
  have low : -20 ≤ gp b1 h1 l1 b2 h2 l2 (hd h1 h2) := by
    have v1 := val_in s1 (hd h1 h2)
    have v2 := val_in s2 (hd h1 h2)
    unfold gp
    omega
  -- if it is ever above, then among the law's places
  have soon : (∃ k, 0 < gp b1 h1 l1 b2 h2 l2 k) → ∃ k, k < hd h1 h2 + 80 * lp l1 l2 ∧ 0 < gp b1 h1 l1 b2 h2 l2 k := fun ⟨k, hk⟩ => by
    by_cases z : 0 < rs b1 h1 l1 b2 h2 l2
    · refine ⟨hd h1 h2 + 30 * lp l1 l2, by omega, ?_⟩
      rw [R.many _ (Nat.le_refl _) 30]
      have : ((30 : Nat) : Int) = 30 := rfl
      rw [this]
      omega
    · obtain ⟨j, hj, hle⟩ := R.max (by omega) (k + 1) k (by omega)
      exact ⟨j, by omega, by omega⟩
  generalize hM : hd h1 h2 + 80 * lp l1 l2 = M at soon ⊢
  generalize rs b1 h1 l1 b2 h2 l2 = r at ⊢
  generalize gp b1 h1 l1 b2 h2 l2 = gg at ab soon ⊢
  generalize ruD b1 h1 l1 = A at ab ⊢
  generalize ruD b2 h2 l2 = B at ab ⊢
  have hb : big (M : Int) = true := big_of (by omega) (by omega)
  have hle : M ≤ 16777216 := by omega
  have hc : lcL (setV 14) t_law_2 e_law_1 (rng 0 M) (EE x0 x1 A B x9 x2 .un .un .un .un s10 s11 (.im (.lst ((tab gg M).map D.int))) (.im (.int r))) = .ok (((List.range M).filter (fun k => decide (0 < gg k))).map (fun (k : Nat) => D.int (k : Int))) := by
    refine lcR_filter (p := fun k => decide (0 < gg k)) (h := fun (k : Nat) => D.int (k : Int)) fun k hk => ?_
    refine ⟨[x0, x1, x2, .un, .un, .un, .un, .im A, .im B, x9, s10, s11, .im (.lst ((tab gg M).map D.int)), .im (.int r), .im (.int k)], by simp [EE], ?_, fun _ => by simp [e_law_1]⟩
    simp [t_law_2, tab_at gg hk]
  simp only [EE] at hc
  have ok1 : okd 1 (.lst (((List.range M).filter (fun k => decide (0 < gg k))).map (fun (k : Nat) => D.int (k : Int)))) = true := by
    have := okL (n := 0) (okds_ints 0 (((List.range M).filter (fun k => decide (0 < gg k))).map (fun (k : Nat) => (k : Int))))
    rw [List.map_map] at this
    exact this
  have q1 := ne_nilL ok1 (by decide)
  refine ⟨.im (.lst (((List.range M).filter (fun k => decide (0 < gg k))).map (fun (k : Nat) => D.int (k : Int)))), ?_⟩
  cases hf : (List.range M).filter (fun k => decide (0 < gg k)) with
  | nil =>
    rw [hf] at hc q1
    have a := ab .non (.inr ⟨fun k hk => by
      obtain ⟨j, hj, hp⟩ := soon ⟨k, hk⟩
      have := filt_nil hf j hj
      simp at this
      omega, rfl⟩)
    have q : neD .non .non = some (.bl false) := ne_same (n := 0) (by simp [okd]) (by decide)
    simp only [List.map_nil] at hc q1
    simp [k_law_7, k_law_8, EE, tab_len, hb, rng_length, hle, hc, a, q1, q]
  | cons k0 t =>
    rw [hf] at hc q1
    obtain ⟨hk, hp, hmin⟩ := filt_cons hf
    have a := ab (.int k0) (.inl ⟨k0, ⟨by simpa using hp, fun j hj => by simpa using hmin j hj⟩, rfl⟩)
    simp only [List.map_cons] at hc q1
    simp [k_law_7, k_law_8, EE, tab_len, hb, rng_length, hle, hc, a, q1]
theorem k3 (s1 : Sm b1 h1 l1) (s2 : Sm b2 h2 l2) (x0 x1 x9 : Sl) : ∃ e, k_law_3 (EE x0 x1 (ruD b1 h1 l1) (ruD b2 h2 l2) x9 .un .un .un .un .un .un .un .un .un) = .rt (.bl true) e := by
  have p := parts s1
  have lw := low (n := l1.sum) (d := l1.length) (by have := s1.l1; omega) (by have := s1.l4; omega)
  rw [Int.natAbs_natCast] at lw
  have sl := slopeD s1
  obtain ⟨s0, _⟩ := sum_nn s1.ls
  have pt := parted 40 l1.sum.natAbs l1.length (by have := s1.l4; omega)
  rw [Int.natAbs_of_nonneg s0] at pt
  have cm := common s1.l1 s1.l4 s2.l1 s2.l4
  have lg := lawgaps s1 s2 cm
  generalize ((Nat.gcd l1.sum.natAbs l1.length : Nat) : Int) = g at p lw sl pt
  generalize hn : l1.sum / g = n at p lw sl
  generalize hd : (l1.length : Int) / g = d at p lw sl
  have g0 := p.g0
  have g9 := p.g9
  have q : neD (.tup [.int n, .int d]) (.tup [.int n, .int d]) = some (.bl false) := ne_same (n := 1) (by simp [okd, okds]) (by decide)
  obtain ⟨e3, E3⟩ := k7 s1 s2 x0 x1 x9 (.im (.int l1.sum)) (.im (.int l1.length)) (.im (.int g))
  obtain ⟨e4, E4⟩ := k9 s1 s2 x0 x1 x9 e3 (.im (.int l1.sum)) (.im (.int l1.length)) (.im (.int g))
  have E5 := k11 s1 s2 x0 x1 x9 e3 e4 (.im (.int l1.sum)) (.im (.int l1.length)) (.im (.int g))
  obtain ⟨e, E6⟩ := k12 s1 p lw x0 x1 x9 e3 e4 (.im (.lst ((tab (gp b1 h1 l1 b2 h2 l2) (G.hd h1 h2 + 80 * lp l1 l2)).map D.int))) (.im (.int (rs b1 h1 l1 b2 h2 l2))) (ruD b2 h2 l2)
  refine ⟨e, ?_⟩
  rw [← E6, ← E5, ← E4, ← E3]
  generalize (tab (gp b1 h1 l1 b2 h2 l2) (G.hd h1 h2 + 80 * lp l1 l2)).map D.int = L at lg ⊢
  generalize rs b1 h1 l1 b2 h2 l2 = r at lg ⊢
  generalize ruD b2 h2 l2 = B at lg ⊢
  simp only [ruD] at lg sl
  simp [k_law_3, k_law_4, k_law_5, k_law_6, EE, ruD, pt, sl, hn, hd, g0, g9, q, lg]
end
theorem sm_turn {b : Int} {h l : List Int} {b2 : Int} {h2 l2 : List Int} (s : Sm b h l) (s2 : Sm b2 h2 l2) {k : Nat} (hk : k < l.length) : Sm b2 h2 (l.drop k ++ l.take k) := ⟨s2.b0, s2.b4, s2.h4, by have := s.l1; rw [List.length_append, List.length_drop, List.length_take]; omega, by have := s.l4; rw [List.length_append, List.length_drop, List.length_take]; omega, s2.hs, fun x hx => by
  rcases List.mem_append.mp hx with h | h
  · exact s.ls x (List.mem_of_mem_drop h)
  · exact s.ls x (List.mem_of_mem_take h)⟩
theorem plain (ns : List Int) (hn : ns.length ≤ 63) : m_law [.arg (ns.map D.int)] = .ok (.bl true) := by
  have t0 : Tp [.lst (ns.map D.int), .int 0, .int 0, .int 3] := ⟨ns, 0, 0, 3, rfl, by omega, by omega⟩
  obtain ⟨b1, h1, l1, y1, d1, s1, t1⟩ := ruler t0
  obtain ⟨b2, h2, l2, y2, d2, s2, t2⟩ := ruler t1
  obtain ⟨v, y3, d3, v0, v1, t3⟩ := draw t2 (m := 3) (by omega) (by omega)
  by_cases hv : v = 0
  · have a1 := s1.l1
    have a4 := s1.l4
    obtain ⟨k, y4, d4, k0, k1, t4⟩ := draw t3 (m := l1.length) (by omega) (by omega)
    obtain ⟨k, rfl⟩ := Int.eq_ofNat_of_zero_le k0
    have hk : k < l1.length := by omega
    obtain ⟨e, E⟩ := k3 s1 (sm_turn s1 s2 hk) (.im (.arg (ns.map D.int))) (.ow (.l y4)) (.im (.int k))
    have hle : l1.length - k + min k l1.length ≤ 16777216 := by omega
    simp only [EE, ruD, List.map_append, List.map_drop, List.map_take] at E
    subst hv
    simp [m_law, b_law, k_law_1, k_law_2, d1, d2, d3, d4, ruD, cut_to, cut_from, hle, E]
  · obtain ⟨e, E⟩ := k3 s1 s2 (.im (.arg (ns.map D.int))) (.ow (.l y3)) .un
    simp only [EE] at E
    simp [m_law, b_law, k_law_1, k_law_2, d1, d2, d3, hv, E]
end G

open PySem PySem.W PyProof.Rows in
set_option maxHeartbeats 0 in
theorem PySem.Challenge.cw_sharesofworks_k03_whole_slopes_and_gaps_holds : PySem.Challenge.rw_sharesofworks_k03_whole_slopes_and_gaps.Holds := by
  w_on; o_law; k_head; (case hw => w_witness2)
  k_fill
  refine DL.walk_law (l := PySem.Challenge.rw_sharesofworks_k03_whole_slopes_and_gaps) (k := 42) G.plain rfl rfl ⟨rfl, by decide, by decide⟩ (fun w h Y => PySem.W.kIn_of Y) ?F
  case F =>
    intro w mg fa h KX G0 hmg
    obtain ⟨a_lowest, f_lowest, F_lowest, g_lowest⟩ := DL.fun_of (x := "lowest") (qual := "lowest") (st := G.s_lowest) KX G0 (by k_is) (by k_is) (by k_is) (by k_is)
    obtain ⟨a_is_count, f_is_count, F_is_count, g_is_count⟩ := DL.fun_of (x := "is_count") (qual := "is_count") (st := G.s_is_count) KX G0 (by k_is) (by k_is) (by k_is) (by k_is)
    obtain ⟨a_is_steps, f_is_steps, F_is_steps, g_is_steps⟩ := DL.fun_of (x := "is_steps") (qual := "is_steps") (st := G.s_is_steps) KX G0 (by k_is) (by k_is) (by k_is) (by k_is)
    obtain ⟨a_is_ruler, f_is_ruler, F_is_ruler, g_is_ruler⟩ := DL.fun_of (x := "is_ruler") (qual := "is_ruler") (st := G.s_is_ruler) KX G0 (by k_is) (by k_is) (by k_is) (by k_is)
    obtain ⟨a_check_ruler, f_check_ruler, F_check_ruler, g_check_ruler⟩ := DL.fun_of (x := "check_ruler") (qual := "check_ruler") (st := G.s_check_ruler) KX G0 (by k_is) (by k_is) (by k_is) (by k_is)
    obtain ⟨a_slope, f_slope, F_slope, g_slope⟩ := DL.fun_of (x := "slope") (qual := "slope") (st := G.s_slope) KX G0 (by k_is) (by k_is) (by k_is) (by k_is)
    obtain ⟨a_steps_of, f_steps_of, F_steps_of, g_steps_of⟩ := DL.fun_of (x := "steps_of") (qual := "steps_of") (st := G.s_steps_of) KX G0 (by k_is) (by k_is) (by k_is) (by k_is)
    obtain ⟨a_values_of, f_values_of, F_values_of, g_values_of⟩ := DL.fun_of (x := "values_of") (qual := "values_of") (st := G.s_values_of) KX G0 (by k_is) (by k_is) (by k_is) (by k_is)
    obtain ⟨a_least_common, f_least_common, F_least_common, g_least_common⟩ := DL.fun_of (x := "least_common") (qual := "least_common") (st := G.s_least_common) KX G0 (by k_is) (by k_is) (by k_is) (by k_is)
    obtain ⟨a_frame_of, f_frame_of, F_frame_of, g_frame_of⟩ := DL.fun_of (x := "frame_of") (qual := "frame_of") (st := G.s_frame_of) KX G0 (by k_is) (by k_is) (by k_is) (by k_is)
    obtain ⟨a_gaps_of, f_gaps_of, F_gaps_of, g_gaps_of⟩ := DL.fun_of (x := "gaps_of") (qual := "gaps_of") (st := G.s_gaps_of) KX G0 (by k_is) (by k_is) (by k_is) (by k_is)
    obtain ⟨a_above_at, f_above_at, F_above_at, g_above_at⟩ := DL.fun_of (x := "above_at") (qual := "above_at") (st := G.s_above_at) KX G0 (by k_is) (by k_is) (by k_is) (by k_is)
    obtain ⟨a_greatest_gap, f_greatest_gap, F_greatest_gap, g_greatest_gap⟩ := DL.fun_of (x := "greatest_gap") (qual := "greatest_gap") (st := G.s_greatest_gap) KX G0 (by k_is) (by k_is) (by k_is) (by k_is)
    obtain ⟨a_leads_of, f_leads_of, F_leads_of, g_leads_of⟩ := DL.fun_of (x := "leads_of") (qual := "leads_of") (st := G.s_leads_of) KX G0 (by k_is) (by k_is) (by k_is) (by k_is)
    obtain ⟨a_lines_round, f_lines_round, F_lines_round, g_lines_round⟩ := DL.fun_of (x := "lines_round") (qual := "lines_round") (st := G.s_lines_round) KX G0 (by k_is) (by k_is) (by k_is) (by k_is)
    obtain ⟨a__law_draw, f__law_draw, F__law_draw, g__law_draw⟩ := DL.fun_of (x := "_law_draw") (qual := "_law_draw") (st := G.s__law_draw) KX G0 (by k_is) (by k_is) (by k_is) (by k_is)
    obtain ⟨a__law_steps, f__law_steps, F__law_steps, g__law_steps⟩ := DL.fun_of (x := "_law_steps") (qual := "_law_steps") (st := G.s__law_steps) KX G0 (by k_is) (by k_is) (by k_is) (by k_is)
    obtain ⟨a__law_ruler, f__law_ruler, F__law_ruler, g__law_ruler⟩ := DL.fun_of (x := "_law_ruler") (qual := "_law_ruler") (st := G.s__law_ruler) KX G0 (by k_is) (by k_is) (by k_is) (by k_is)
    obtain ⟨a__law_told, f__law_told, F__law_told, g__law_told⟩ := DL.fun_of (x := "_law_told") (qual := "_law_told") (st := G.s__law_told) KX G0 (by k_is) (by k_is) (by k_is) (by k_is)
    obtain ⟨a__law_parted, f__law_parted, F__law_parted, g__law_parted⟩ := DL.fun_of (x := "_law_parted") (qual := "_law_parted") (st := G.s__law_parted) KX G0 (by k_is) (by k_is) (by k_is) (by k_is)
    obtain ⟨a__law_common, f__law_common, F__law_common, g__law_common⟩ := DL.fun_of (x := "_law_common") (qual := "_law_common") (st := G.s__law_common) KX G0 (by k_is) (by k_is) (by k_is) (by k_is)
    obtain ⟨a__law_gaps, f__law_gaps, F__law_gaps, g__law_gaps⟩ := DL.fun_of (x := "_law_gaps") (qual := "_law_gaps") (st := G.s__law_gaps) KX G0 (by k_is) (by k_is) (by k_is) (by k_is)
    obtain ⟨a_law, f_law, F_law, g_law⟩ := DL.fun_of (x := "law") (qual := "law") (st := G.s_law) KX G0 (by k_is) (by k_is) (by k_is) (by k_is)
    have z_abs := PySem.W.mg_none_of (n := "abs") KX G0 (by k_is)
    have z_all := PySem.W.mg_none_of (n := "all") KX G0 (by k_is)
    have z_bool := PySem.W.mg_none_of (n := "bool") KX G0 (by k_is)
    have z_int := PySem.W.mg_none_of (n := "int") KX G0 (by k_is)
    have z_isinstance := PySem.W.mg_none_of (n := "isinstance") KX G0 (by k_is)
    have z_len := PySem.W.mg_none_of (n := "len") KX G0 (by k_is)
    have z_list := PySem.W.mg_none_of (n := "list") KX G0 (by k_is)
    have z_max := PySem.W.mg_none_of (n := "max") KX G0 (by k_is)
    have z_min := PySem.W.mg_none_of (n := "min") KX G0 (by k_is)
    have z_range := PySem.W.mg_none_of (n := "range") KX G0 (by k_is)
    have z_sum := PySem.W.mg_none_of (n := "sum") KX G0 (by k_is)
    have z_tuple := PySem.W.mg_none_of (n := "tuple") KX G0 (by k_is)
    have c_MOST_STEP := DL.const_of (x := "MOST_STEP") (v := .int 1000000) KX G0 (by k_is) ⟨_, rfl⟩
    have c_MOST_STEPS := DL.const_of (x := "MOST_STEPS") (v := .int 6000) KX G0 (by k_is) ⟨_, rfl⟩
    have b_gcd := PySem.W.mg_of (n := "gcd") (v := .builtin "math.gcd") KX G0 (by k_is)
    have e : a_law = fa := PySem.Value.ref.inj (Option.some.inj (g_law.symm.trans hmg))
    subst e
    have Y : G.TopOk { a_lowest := a_lowest, f_lowest := f_lowest, a_is_count := a_is_count, f_is_count := f_is_count, a_is_steps := a_is_steps, f_is_steps := f_is_steps, a_is_ruler := a_is_ruler, f_is_ruler := f_is_ruler, a_check_ruler := a_check_ruler, f_check_ruler := f_check_ruler, a_slope := a_slope, f_slope := f_slope, a_steps_of := a_steps_of, f_steps_of := f_steps_of, a_values_of := a_values_of, f_values_of := f_values_of, a_least_common := a_least_common, f_least_common := f_least_common, a_frame_of := a_frame_of, f_frame_of := f_frame_of, a_gaps_of := a_gaps_of, f_gaps_of := f_gaps_of, a_above_at := a_above_at, f_above_at := f_above_at, a_greatest_gap := a_greatest_gap, f_greatest_gap := f_greatest_gap, a_leads_of := a_leads_of, f_leads_of := f_leads_of, a_lines_round := a_lines_round, f_lines_round := f_lines_round, a__law_draw := a__law_draw, f__law_draw := f__law_draw, a__law_steps := a__law_steps, f__law_steps := f__law_steps, a__law_ruler := a__law_ruler, f__law_ruler := f__law_ruler, a__law_told := a__law_told, f__law_told := f__law_told, a__law_parted := a__law_parted, f__law_parted := f__law_parted, a__law_common := a__law_common, f__law_common := f__law_common, a__law_gaps := a__law_gaps, f__law_gaps := f__law_gaps, a_law := a_law, f_law := f_law } _ mg := { F_lowest := F_lowest, g_lowest := g_lowest, F_is_count := F_is_count, g_is_count := g_is_count, F_is_steps := F_is_steps, g_is_steps := g_is_steps, F_is_ruler := F_is_ruler, g_is_ruler := g_is_ruler, F_check_ruler := F_check_ruler, g_check_ruler := g_check_ruler, F_slope := F_slope, g_slope := g_slope, F_steps_of := F_steps_of, g_steps_of := g_steps_of, F_values_of := F_values_of, g_values_of := g_values_of, F_least_common := F_least_common, g_least_common := g_least_common, F_frame_of := F_frame_of, g_frame_of := g_frame_of, F_gaps_of := F_gaps_of, g_gaps_of := g_gaps_of, F_above_at := F_above_at, g_above_at := g_above_at, F_greatest_gap := F_greatest_gap, g_greatest_gap := g_greatest_gap, F_leads_of := F_leads_of, g_leads_of := g_leads_of, F_lines_round := F_lines_round, g_lines_round := g_lines_round, F__law_draw := F__law_draw, g__law_draw := g__law_draw, F__law_steps := F__law_steps, g__law_steps := g__law_steps, F__law_ruler := F__law_ruler, g__law_ruler := g__law_ruler, F__law_told := F__law_told, g__law_told := g__law_told, F__law_parted := F__law_parted, g__law_parted := g__law_parted, F__law_common := F__law_common, g__law_common := g__law_common, F__law_gaps := F__law_gaps, g__law_gaps := g__law_gaps, F_law := F_law, g_law := g_law, z_abs := z_abs, z_all := z_all, z_bool := z_bool, z_int := z_int, z_isinstance := z_isinstance, z_len := z_len, z_list := z_list, z_max := z_max, z_min := z_min, z_range := z_range, z_sum := z_sum, z_tuple := z_tuple, c_MOST_STEP := c_MOST_STEP, c_MOST_STEPS := c_MOST_STEPS, b_gcd := b_gcd }
    exact ⟨f_law, DL.bind1 F_law (fun _ _ _ _ _ _ us hl => match us, hl with | [_], _ => rfl), fun base => G.ok_law Y⟩
