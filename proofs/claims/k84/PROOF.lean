import PyProof.Rows.All
import Wide.All
import OpenK.AllK
import Wide.FinOn
import HandS.ForMost
import HandS.ForExc
import HandS.Wide
import HandS.Deep
import HandS.Flow
import HandS.Style
import HandS.Property
import HandS.WideBits
import HandS.IsInst
import HandS.SortInts
import HandS.Small
import HandS.ExcInit
import HandS.ExcIs
import KE.KExcIs
import HandS.ExcField
import HandS.ExcOwn
import HandS.ReplaceLit
import HandS.Lambda
import HandS.ReplaceList
import HandS.OwnEq
import HandS.NoneIn
import PySem.Challenge.RW_rungrepeats_k84_whole_every_text_of_rule
set_option Elab.async false
set_option linter.all false
set_option maxRecDepth 100000
set_option maxHeartbeats 4000000
section
/-! Dx: values without the heap (D), a store of mutable cells, denotations, and what they mean over the hand layer. -/
namespace Dx
open PySem PySem.Spec PyProof.Rows L2

inductive D where
  | non | bl (b : Bool) | int (i : Int) | str (x : List Nat)
  | scr (ns : List Int)
  | lst (xs : List D) | tup (xs : List D)
  | dk (ks : List Key) (vs : List D)
  | obj (C : Addr) (ns : List Str) (vs : List D)
  | cell (j : Nat)
  | ty (n : String)
  | cls (C : Addr)
  | exn (a dd C : Addr) (p : D)

inductive Cell where
  | lst (xs : List D)
  | dk (ks : List Key) (vs : List D)
  | dt (ks : List (List Key)) (vs : List D)
  | ins (C : Addr) (ns : List Str) (vs : List D)
  | frz (d : D)

abbrev Sto := List Cell
abbrev DEnv := List (Option D)

/-! ### what stands for what -/
def S (l : List Nat) : Str := ⟨l.toArray⟩
mutual
inductive Rep (K : PySem.W.Frag) (A : List Addr) (H : Hp) : V → D → Prop
  | non : Rep K A H .non .non
  | bl {b : Bool} : Rep K A H (.bl b) (.bl b)
  | int {i : Int} : Rep K A H (.int i) (.int i)
  | str {x : List Nat} : Rep K A H (.str (S x)) (.str x)
  | scr {a : Addr} {ns : List Int} : SqL K H a (ns.map V.int) → Rep K A H (.ref a) (.scr ns)
  | lst {a : Addr} {vs : List V} {xs : List D} : H a = some (.lst vs) → Reps K A H vs xs → Rep K A H (.ref a) (.lst xs)
  | tup {a : Addr} {vs : List V} {xs : List D} : SqT K H a vs → Reps K A H vs xs → Rep K A H (.ref a) (.tup xs)
  | dk {a : Addr} {kvs : List (Key × V)} {ks : List Key} {xs : List D} : Rd H a (.dK kvs) → ks = kvs.map (·.1) → Reps K A H (kvs.map (·.2)) xs → Rep K A H (.ref a) (.dk ks xs)
  | obj {a C dx : Addr} {fs : List (Str × V)} {ns : List Str} {xs : List D} : H a = some (.ins C dx fs) → ns = fs.map (·.1) → Reps K A H (fs.map (·.2)) xs → Rep K A H (.ref a) (.obj C ns xs)
  | cell {a : Addr} {j : Nat} : A[j]? = some a → Rep K A H (.ref a) (.cell j)
  | ty {n : String} : Rep K A H (.ty n) (.ty n)
  | cls {C : Addr} : Rep K A H (.ref C) (.cls C)
  | exn {a dd C : Addr} {pv : V} {p : D} : H dd = some (.xd [(("value" : Str), pv)]) → Rep K A H pv p → Rep K A H (.ref a) (.exn a dd C p)
inductive Reps (K : PySem.W.Frag) (A : List Addr) (H : Hp) : List V → List D → Prop
  | nil : Reps K A H [] []
  | cons {v : V} {d : D} {vs : List V} {ds : List D} : Rep K A H v d → Reps K A H vs ds → Reps K A H (v :: vs) (d :: ds)
end

section
variable {K : PySem.W.Frag} {A A' : List Addr} {H H' : Hp}
theorem rd_mono {a : Addr} {u : HO} (hH : ∀ a o, H a = some o → H' a = some o) (h : Rd H a u) : Rd H' a u := by
  rcases h with h | ⟨o, h⟩
  · exact .inl (hH _ _ h)
  · exact .inr ⟨o, hH _ _ h⟩
theorem sql_mono {a : Addr} {xs : List V} (hH : ∀ a o, H a = some o → H' a = some o) (h : SqL K H a xs) : SqL K H' a xs := by
  rcases h with h | h
  · exact .inl (rd_mono hH h)
  · exact .inr h
theorem sqt_mono {a : Addr} {xs : List V} (hH : ∀ a o, H a = some o → H' a = some o) (h : SqT K H a xs) : SqT K H' a xs := by
  rcases h with h | h
  · exact .inl (rd_mono hH h)
  · exact .inr h
mutual
theorem Rep.mono (hA : ∀ (j : Nat) (a : Addr), A[j]? = some a → A'[j]? = some a) (hH : ∀ a o, H a = some o → H' a = some o) : ∀ {v : V} {d : D}, Rep K A H v d → Rep K A' H' v d
  | _, _, .non => .non
  | _, _, .bl => .bl
  | _, _, .int => .int
  | _, _, .str => .str
  | _, _, .scr s => .scr (sql_mono hH s)
  | _, _, .lst s r => .lst (hH _ _ s) (Reps.mono hA hH r)
  | _, _, .tup s r => .tup (sqt_mono hH s) (Reps.mono hA hH r)
  | _, _, .dk s e r => .dk (rd_mono hH s) e (Reps.mono hA hH r)
  | _, _, .obj s e r => .obj (hH _ _ s) e (Reps.mono hA hH r)
  | _, _, .cell e => .cell (hA _ _ e)
  | _, _, .ty => .ty
  | _, _, .cls => .cls
  | _, _, .exn s r => .exn (hH _ _ s) (Rep.mono hA hH r)
theorem Reps.mono (hA : ∀ (j : Nat) (a : Addr), A[j]? = some a → A'[j]? = some a) (hH : ∀ a o, H a = some o → H' a = some o) : ∀ {vs : List V} {ds : List D}, Reps K A H vs ds → Reps K A' H' vs ds
  | _, _, .nil => .nil
  | _, _, .cons r t => .cons (Rep.mono hA hH r) (Reps.mono hA hH t)
end
theorem Reps.length : ∀ {vs : List V} {ds : List D}, Reps K A H vs ds → vs.length = ds.length
  | _, _, .nil => rfl
  | _, _, .cons _ t => congrArg (· + 1) (Reps.length t)
theorem Reps.get : ∀ {vs : List V} {ds : List D} {i : Nat} {d : D}, Reps K A H vs ds → ds[i]? = some d → ∃ v, vs[i]? = some v ∧ Rep K A H v d
  | _, _, _, _, .nil, e => by simp at e
  | _, _, 0, _, .cons r _, e => by simp at e; subst e; exact ⟨_, rfl, r⟩
  | _, _, i + 1, x, .cons _ t, e => by
    obtain ⟨u, h1, h2⟩ := Reps.get (i := i) (d := x) t (by simpa using e)
    exact ⟨u, by simpa using h1, h2⟩
theorem Reps.getV : ∀ {vs : List V} {ds : List D} {i : Nat} {v : V}, Reps K A H vs ds → vs[i]? = some v → ∃ d, ds[i]? = some d ∧ Rep K A H v d
  | _, _, _, _, .nil, e => by simp at e
  | _, _, 0, _, .cons r _, e => by simp at e; subst e; exact ⟨_, rfl, r⟩
  | _, _, i + 1, x, .cons _ t, e => by
    obtain ⟨u, h1, h2⟩ := Reps.getV (i := i) (v := x) t (by simpa using e)
    exact ⟨u, by simpa using h1, h2⟩
theorem Reps.append : ∀ {vs ws : List V} {ds es : List D}, Reps K A H vs ds → Reps K A H ws es → Reps K A H (vs ++ ws) (ds ++ es)
  | _, _, _, _, .nil, s => s
  | _, _, _, _, .cons r t, s => .cons r (Reps.append t s)
theorem Reps.take : ∀ {vs : List V} {ds : List D} (n : Nat), Reps K A H vs ds → Reps K A H (vs.take n) (ds.take n)
  | _, _, 0, _ => by simp only [List.take_zero]; exact .nil
  | _, _, _ + 1, .nil => by simp only [List.take_nil]; exact .nil
  | _, _, n + 1, .cons r t => .cons r (Reps.take n t)
theorem Reps.drop : ∀ {vs : List V} {ds : List D} (n : Nat), Reps K A H vs ds → Reps K A H (vs.drop n) (ds.drop n)
  | _, _, 0, r => r
  | _, _, _ + 1, .nil => by simp only [List.drop_nil]; exact .nil
  | _, _, n + 1, .cons _ t => Reps.drop n t
theorem Reps.set {x : V} {d : D} (r : Rep K A H x d) : ∀ {vs : List V} {ds : List D} (i : Nat), Reps K A H vs ds → Reps K A H (vs.set i x) (ds.set i d)
  | _, _, _, .nil => .nil
  | _, _, 0, .cons _ t => .cons r t
  | _, _, i + 1, .cons q t => .cons q (Reps.set r i t)
theorem Reps.snoc {v : V} {d : D} {vs : List V} {ds : List D} (h : Reps K A H vs ds) (r : Rep K A H v d) : Reps K A H (vs ++ [v]) (ds ++ [d]) := h.append (.cons r .nil)
theorem Reps.reverse : ∀ {vs : List V} {ds : List D}, Reps K A H vs ds → Reps K A H vs.reverse ds.reverse
  | _, _, .nil => .nil
  | _, _, .cons r t => by
    rw [List.reverse_cons, List.reverse_cons]
    exact (Reps.reverse t).snoc r
theorem Reps.eraseIdx : ∀ {vs : List V} {ds : List D} (i : Nat), Reps K A H vs ds → Reps K A H (vs.eraseIdx i) (ds.eraseIdx i)
  | _, _, _, .nil => .nil
  | _, _, 0, .cons _ t => t
  | _, _, i + 1, .cons q t => .cons q (Reps.eraseIdx i t)
theorem Reps.dropLast : ∀ {vs : List V} {ds : List D}, Reps K A H vs ds → Reps K A H vs.dropLast ds.dropLast
  | _, _, .nil => .nil
  | _, _, .cons r .nil => .nil
  | _, _, .cons r (.cons q t) => .cons r (Reps.dropLast (.cons q t))
theorem Reps.flat {vs : List V} {ds : List D} (h : Reps K A H vs ds) : ∀ n : Nat, Reps K A H (List.replicate n vs).flatten (List.replicate n ds).flatten
  | 0 => .nil
  | n + 1 => by
    rw [List.replicate_succ, List.replicate_succ, List.flatten_cons, List.flatten_cons]
    exact h.append (Reps.flat h n)
end

/-! ### the store -/
def live : Option Cell → Bool
  | some (.frz _) => false
  | some _ => true
  | none => false
def hid (A : List Addr) (s : Sto) (a : Addr) : Prop := ∃ j : Nat, A[j]? = some a ∧ live s[j]? = true
open Classical in
noncomputable def vis (A : List Addr) (s : Sto) (H : Hp) : Hp := fun a => if hid A s a then none else H a
theorem vis_hid {A : List Addr} {s : Sto} {H : Hp} {a : Addr} (h : hid A s a) : vis A s H a = none := by unfold vis; rw [if_pos h]
theorem vis_not {A : List Addr} {s : Sto} {H : Hp} {a : Addr} (h : ¬ hid A s a) : vis A s H a = H a := by unfold vis; rw [if_neg h]
theorem vis_sub {A : List Addr} {s : Sto} {H : Hp} {a : Addr} {o : HO} (h : vis A s H a = some o) : H a = some o := by
  unfold vis at h
  split at h
  · cases h
  · exact h
theorem vis_some {A : List Addr} {s : Sto} {H : Hp} {a : Addr} {o : HO} (h : vis A s H a = some o) : ¬ hid A s a ∧ H a = some o := by
  unfold vis at h
  split at h
  · cases h
  · exact ⟨by assumption, h⟩

def CellOk (K : PySem.W.Frag) (A : List Addr) (Hs H : Hp) (a : Addr) : Cell → Prop
  | .lst xs => ∃ vs, H a = some (.lst vs) ∧ Reps K A Hs vs xs
  | .dk ks ds => ∃ kvs : List (Key × V), H a = some (.dK kvs) ∧ ks = kvs.map (·.1) ∧ Reps K A Hs (kvs.map (·.2)) ds
  | .dt ks ds => ∃ kvs : List (List Key × V), H a = some (.dT kvs) ∧ ks = kvs.map (·.1) ∧ Reps K A Hs (kvs.map (·.2)) ds
  | .ins C ns ds => ∃ (dx : Addr) (fs : List (Str × V)), H a = some (.ins C dx fs) ∧ ns = fs.map (·.1) ∧ Reps K A Hs (fs.map (·.2)) ds
  | .frz d => Rep K A Hs (.ref a) d ∧ ∃ o, H a = some o

structure SR (K : PySem.W.Frag) (A : List Addr) (s : Sto) (H : Hp) : Prop where
  len : A.length = s.length
  nod : ∀ (i j : Nat) (a : Addr), A[i]? = some a → A[j]? = some a → i = j
  cells : ∀ (j : Nat) (c : Cell) (a : Addr), s[j]? = some c → A[j]? = some a → CellOk K A (vis A s H) H a c

structure Le (A : List Addr) (s : Sto) (H : Hp) (A' : List Addr) (s' : Sto) (H' : Hp) : Prop where
  ad : ∀ (j : Nat) (a : Addr), A[j]? = some a → A'[j]? = some a
  vs : ∀ a o, vis A s H a = some o → vis A' s' H' a = some o
theorem Le.refl {A : List Addr} {s : Sto} {H : Hp} : Le A s H A s H := ⟨fun _ _ h => h, fun _ _ h => h⟩
theorem Le.trans {A A1 A2 : List Addr} {s s1 s2 : Sto} {H H1 H2 : Hp} (a : Le A s H A1 s1 H1) (b : Le A1 s1 H1 A2 s2 H2) : Le A s H A2 s2 H2 :=
  ⟨fun j x h => b.ad j x (a.ad j x h), fun x o h => b.vs x o (a.vs x o h)⟩

def EnvR (K : PySem.W.Frag) (A : List Addr) (Hs : Hp) (env : DEnv) (σ : L2.St) : Prop :=
  env.length = σ.length ∧ ∀ (i : Nat) (d : D), env[i]? = some (some d) → ∃ v, σ[i]? = some (some v) ∧ Rep K A Hs v d

section
variable {K : PySem.W.Frag} {A A' : List Addr} {s s' : Sto} {H H' : Hp} {env : DEnv} {σ : L2.St}
theorem Rep.le {v : V} {d : D} (l : Le A s H A' s' H') (r : Rep K A (vis A s H) v d) : Rep K A' (vis A' s' H') v d := r.mono l.ad l.vs
theorem Reps.le {v : List V} {d : List D} (l : Le A s H A' s' H') (r : Reps K A (vis A s H) v d) : Reps K A' (vis A' s' H') v d := r.mono l.ad l.vs
theorem EnvR.le (l : Le A s H A' s' H') (e : EnvR K A (vis A s H) env σ) : EnvR K A' (vis A' s' H') env σ :=
  ⟨e.1, fun i d h => by
    obtain ⟨v, h1, h2⟩ := e.2 i d h
    exact ⟨v, h1, h2.le l⟩⟩
/-- an address of a cell is in use -/
theorem SR.there (R : SR K A s H) {j : Nat} {a : Addr} (e : A[j]? = some a) : ∃ o, H a = some o := by
  have hj : j < s.length := by
    have := (List.getElem?_eq_some_iff.mp e).1
    rw [R.len] at this
    exact this
  obtain ⟨c, hc⟩ : ∃ c, s[j]? = some c := ⟨s[j], List.getElem?_eq_getElem hj⟩
  have q := R.cells j c a hc e
  cases c with
  | lst xs => obtain ⟨_, z, _⟩ := q; exact ⟨_, z⟩
  | dk ks vs => obtain ⟨_, z, _⟩ := q; exact ⟨_, z⟩
  | dt ks vs => obtain ⟨_, z, _⟩ := q; exact ⟨_, z⟩
  | ins C ns vs => obtain ⟨_, _, z, _⟩ := q; exact ⟨_, z⟩
  | frz d => exact q.2
theorem SR.used (R : SR K A s H) {j : Nat} {a : Addr} (e : A[j]? = some a) : H a ≠ none := by
  obtain ⟨o, h⟩ := R.there e
  rw [h]
  exact fun h => nomatch h
theorem SR.notHid (R : SR K A s H) {p : Addr} (hp : H p = none) : ¬ hid A s p := fun ⟨_, e, _⟩ => R.used e hp
/-- the heap has grown: all that stood stands -/
theorem SR.ex (R : SR K A s H) (x : ∀ a o, H a = some o → H' a = some o) : SR K A s H' ∧ Le A s H A s H' := by
  have l : Le A s H A s H' := ⟨fun _ _ h => h, fun a o h => by
    obtain ⟨n, h⟩ := vis_some h
    rw [vis_not n]
    exact x a o h⟩
  refine ⟨⟨R.len, R.nod, fun j c a hc ha => ?_⟩, l⟩
  have q := R.cells j c a hc ha
  cases c with
  | lst xs => obtain ⟨vs, z, r⟩ := q; exact ⟨vs, x _ _ z, r.le l⟩
  | dk ks vs => obtain ⟨kvs, z, e, r⟩ := q; exact ⟨kvs, x _ _ z, e, r.le l⟩
  | dt ks vs => obtain ⟨kvs, z, e, r⟩ := q; exact ⟨kvs, x _ _ z, e, r.le l⟩
  | ins C ns vs => obtain ⟨dx, fs, z, e, r⟩ := q; exact ⟨dx, fs, x _ _ z, e, r.le l⟩
  | frz d => exact ⟨Rep.le l q.1, let ⟨o, h⟩ := q.2; ⟨o, x _ _ h⟩⟩
theorem ex_upd {p : Addr} {o : HO} (hp : H p = none) : ∀ a u, H a = some u → upd H p o a = some u := fun a u h => by
  rw [upd_ne (ne_of_none h hp)]
  exact h
end

/-! ### what is seen of a value: a cell's content -/
def vw (s : Sto) : D → D
  | .cell j => match s[j]? with
    | some (.lst xs) => .lst xs
    | some (.dk ks vs) => .dk ks vs
    | some (.ins C ns vs) => .obj C ns vs
    | some (.frz d) => d
    | _ => .cell j
  | d => d
/-- a frozen cell is its content -/
def fz (s : Sto) : D → D
  | .cell j => match s[j]? with
    | some (.frz d) => d
    | _ => .cell j
  | d => d
def Seen (K : PySem.W.Frag) (A : List Addr) (s : Sto) (H : Hp) (v : V) : D → Prop
  | .lst xs => ∃ a vs, v = .ref a ∧ H a = some (.lst vs) ∧ Reps K A (vis A s H) vs xs
  | .scr ns => ∃ a, v = .ref a ∧ SqL K H a (ns.map V.int)
  | .dk ks ds => ∃ (a : Addr) (kvs : List (Key × V)), v = .ref a ∧ Rd H a (.dK kvs) ∧ ks = kvs.map (·.1) ∧ Reps K A (vis A s H) (kvs.map (·.2)) ds
  | .obj C ns ds => ∃ (a dx : Addr) (fs : List (Str × V)), v = .ref a ∧ H a = some (.ins C dx fs) ∧ ns = fs.map (·.1) ∧ Reps K A (vis A s H) (fs.map (·.2)) ds
  | .tup xs => ∃ a vs, v = .ref a ∧ SqT K H a vs ∧ Reps K A (vis A s H) vs xs
  | .non => v = .non
  | .bl b => v = .bl b
  | .int i => v = .int i
  | .str x => v = .str (S x)
  | .cell j => ∃ a, v = .ref a ∧ A[j]? = some a
  | .ty n => v = .ty n
  | .cls C => v = .ref C
  | .exn a dd _ p => ∃ pv, v = .ref a ∧ H dd = some (.xd [(("value" : Str), pv)]) ∧ Rep K A (vis A s H) pv p
section
variable {K : PySem.W.Frag} {A A' : List Addr} {s s' : Sto} {H H' : Hp} {v : V} {d : D}
theorem Rep.seen1 (h : Rep K A (vis A s H) v d) : Seen K A s H v d := by
  have sub : ∀ a o, vis A s H a = some o → H a = some o := fun a o => vis_sub
  cases h with
  | non => rfl
  | bl => rfl
  | int => rfl
  | str => rfl
  | scr s => exact ⟨_, rfl, sql_mono sub s⟩
  | lst s r => exact ⟨_, _, rfl, sub _ _ s, r⟩
  | tup s r => exact ⟨_, _, rfl, sqt_mono sub s, r⟩
  | dk s e r => exact ⟨_, _, rfl, rd_mono sub s, e, r⟩
  | obj s e r => exact ⟨_, _, _, rfl, sub _ _ s, e, r⟩
  | cell e => exact ⟨_, rfl, e⟩
  | ty => rfl
  | cls => rfl
  | exn s r => exact ⟨_, rfl, sub _ _ s, r⟩
theorem Rep.seen (R : SR K A s H) (h : Rep K A (vis A s H) v d) : Seen K A s H v (vw s d) := by
  cases d with
  | cell j =>
    cases h with
    | cell e =>
      rename_i a
      have h0 : Seen K A s H (.ref a) (.cell j) := ⟨a, rfl, e⟩
      cases hc : s[j]? with
      | none => simp only [vw, hc]; exact h0
      | some c =>
        have q := R.cells j c a hc e
        cases c with
        | lst xs =>
          have ev : vw s (.cell j) = .lst xs := by simp only [vw, hc]
          rw [ev]
          obtain ⟨vs, z, r⟩ := q
          exact ⟨a, vs, rfl, z, r⟩
        | dk ks vs =>
          have ev : vw s (.cell j) = .dk ks vs := by simp only [vw, hc]
          rw [ev]
          obtain ⟨kvs, z, e, r⟩ := q
          exact ⟨a, kvs, rfl, .inl z, e, r⟩
        | dt ks vs =>
          have ev : vw s (.cell j) = .cell j := by simp only [vw, hc]
          rw [ev]
          exact h0
        | ins C ns vs =>
          have ev : vw s (.cell j) = .obj C ns vs := by simp only [vw, hc]
          rw [ev]
          obtain ⟨dx, fs, z, e, r⟩ := q
          exact ⟨a, dx, fs, rfl, z, e, r⟩
        | frz d =>
          have ev : vw s (.cell j) = d := by simp only [vw, hc]
          rw [ev]
          exact Rep.seen1 q.1
  | _ => exact h.seen1
theorem Rep.fz (R : SR K A s H) (h : Rep K A (vis A s H) v d) : Rep K A (vis A s H) v (fz s d) := by
  cases d with
  | cell j =>
    cases h with
    | cell e =>
      rename_i a
      have h0 : Rep K A (vis A s H) (.ref a) (.cell j) := .cell e
      cases hc : s[j]? with
      | none => simp only [Dx.fz, hc]; exact h0
      | some c =>
        have q := R.cells j c a hc e
        cases c with
        | frz d => simp only [Dx.fz, hc]; exact q.1
        | _ => simp only [Dx.fz, hc]; exact h0
  | _ => exact h
end
end Dx
end
section
namespace Dx
open PySem PySem.Spec PyProof.Rows L2

/-! ### denotations and their readings -/
abbrev Den := DEnv → Sto → Option (D × Sto)
abbrev DenL := DEnv → Sto → Option (List D × Sto)
abbrev DenB := DEnv → Sto → Option (Bool × Sto)

structure Rl (K : PySem.W.Frag) (A : List Addr) (s : Sto) (env : DEnv) (σ : L2.St) (H : Hp) : Prop where
  sr : SR K A s H
  er : EnvR K A (vis A s H) env σ

def tD (K : PySem.W.Frag) (d : Den) : TE := fun σ H Q => ∃ A s env r s', Rl K A s env σ H ∧ d env s = some (r, s') ∧
  ∀ v H' A', SR K A' s' H' → Le A s H A' s' H' → Rep K A' (vis A' s' H') v r → Q v H'
def tDA (K : PySem.W.Frag) (d : DenL) : TA := fun σ H Q => ∃ A s env r s', Rl K A s env σ H ∧ d env s = some (r, s') ∧
  ∀ vs H' A', SR K A' s' H' → Le A s H A' s' H' → Reps K A' (vis A' s' H') vs r → Q vs H'
def tDT (K : PySem.W.Frag) (d : DenB) : TT := fun σ H Q => ∃ A s env b s', Rl K A s env σ H ∧ d env s = some (b, s') ∧
  ∀ H' A', SR K A' s' H' → Le A s H A' s' H' → Q b H'
/-- the heap without p -/
def del (H : Hp) (p : Addr) : Hp := fun b => if b = p then none else H b
theorem del_same {H : Hp} {p : Addr} : del H p p = none := if_pos rfl
theorem del_ne {H : Hp} {p b : Addr} (h : b ≠ p) : del H p b = H b := if_neg h
theorem del_sub {H : Hp} {p a : Addr} {o : HO} (h : del H p a = some o) : H a = some o := by
  unfold del at h
  split at h
  · cases h
  · exact h
theorem del_upd {H : Hp} {p : Addr} {o : HO} (hp : H p = none) : del (upd H p o) p = H := by
  funext b
  by_cases hb : b = p
  · subst hb; rw [del_same, hp]
  · rw [del_ne hb, upd_ne hb]
/-- a new list at p: nothing else knows it -/
def tDF (K : PySem.W.Frag) (d : DenL) : TE := fun σ H Q => ∃ A s env r s', Rl K A s env σ H ∧ d env s = some (r, s') ∧
  ∀ p vs H' A', SR K A' s' (del H' p) → Le A s H A' s' (del H' p) → H' p = some (.lst vs) → Reps K A' (vis A' s' (del H' p)) vs r → Q (.ref p) H'

structure DE (X : Cx) (e : Expr) (d : Den) : Prop where
  pe : PE X e (tD X.K d)
structure DF (X : Cx) (e : Expr) (d : DenL) : Prop where
  pe : PE X e (tDF X.K d)
structure DA (X : Cx) (es : List Expr) (d : DenL) : Prop where
  pa : PA X es (tDA X.K d)
structure DT (X : Cx) (e : Expr) (d : DenB) : Prop where
  pt : PT X e (tDT X.K d)

theorem pe_imp {X : Cx} {e : Expr} {t t' : TE} (h : PE X e t) (k : ∀ σ H Q, t' σ H Q → t σ H Q) : PE X e t' := ⟨fun pins s σ H Q I q => h.run pins s σ H Q I (k σ H Q q)⟩
theorem pt_imp {X : Cx} {e : Expr} {t t' : TT} (h : PT X e t) (k : ∀ σ H Q, t' σ H Q → t σ H Q) : PT X e t' := ⟨fun pins s σ H Q I q => h.run pins s σ H Q I (k σ H Q q)⟩
theorem pa_imp {X : Cx} {e : List Expr} {t t' : TA} (h : PA X e t) (k : ∀ σ H Q, t' σ H Q → t σ H Q) : PA X e t' := ⟨fun pos pins s σ H Q I q => h.run pos pins s σ H Q I (k σ H Q q)⟩

section
variable {K : PySem.W.Frag} {A A' : List Addr} {s s' : Sto} {H H' : Hp} {env : DEnv} {σ : L2.St}
theorem Rl.le (R : Rl K A s env σ H) (S : SR K A' s' H') (l : Le A s H A' s' H') : Rl K A' s' env σ H' := ⟨S, R.er.le l⟩
/-- from a state a value comes -/
theorem tD_mk {d : Den} {r : D} {Q : VK} (R : Rl K A s env σ H) (e : d env s = some (r, s')) (k : ∀ v H' A', SR K A' s' H' → Le A s H A' s' H' → Rep K A' (vis A' s' H') v r → Q v H') : tD K d σ H Q := ⟨A, s, env, r, s', R, e, k⟩
theorem tDA_mk {d : DenL} {r : List D} {Q : List V → Hp → Prop} (R : Rl K A s env σ H) (e : d env s = some (r, s')) (k : ∀ v H' A', SR K A' s' H' → Le A s H A' s' H' → Reps K A' (vis A' s' H') v r → Q v H') : tDA K d σ H Q := ⟨A, s, env, r, s', R, e, k⟩
theorem tDT_mk {d : DenB} {b : Bool} {Q : Bool → Hp → Prop} (R : Rl K A s env σ H) (e : d env s = some (b, s')) (k : ∀ H' A', SR K A' s' H' → Le A s H A' s' H' → Q b H') : tDT K d σ H Q := ⟨A, s, env, b, s', R, e, k⟩
/-- what is new beside p stands beside it -/
theorem new_le {p : Addr} {o : HO} (R : SR K A s (del H p)) (hp : H p = some o) : SR K A s H ∧ Le A s (del H p) A s H := R.ex fun a u h => del_sub h
end

/-! ### names and constants -/
def dV (i : Nat) : Den := fun env s => match env[i]? with
  | some (some d) => some (fz s d, s)
  | _ => none
def dC (d : D) : Den := fun _ s => some (d, s)
section
variable {X : Cx}
theorem de_var (i : Nat) {x : Str} {pos : Pos} (hN : X.N[i]? = some x := by rfl) (hv : Vis X.env.scope x := by first | exact Or.inl rfl | exact Or.inr (Or.inl rfl) | exact Or.inr (Or.inr rfl)) (hd : (x == ("__debug__" : Str)) = false := by decide)
    (hcd : (x == ("__classdict__" : Str)) = false := by decide) : DE X (.Name x pos) (dV i) := by
  refine ⟨pe_imp (pe_var hN hv hd hcd) ?_⟩
  rintro σ H Q ⟨A, s, env, r, s', R, e, k⟩
  unfold dV at e
  split at e
  · rename_i d hd
    cases e
    obtain ⟨v, hv, rv⟩ := R.er.2 i d hd
    exact ⟨v, hv, k v H A R.sr .refl (rv.fz R.sr)⟩
  · cases e
theorem tDc {K : PySem.W.Frag} {v : V} {d : D} (h : ∀ A H, Rep K A H v d) : ∀ σ H Q, tD K (dC d) σ H Q → tC v σ H Q := by
  rintro σ H Q ⟨A, s, env, r, s', R, e, k⟩
  cases e
  exact k v H A R.sr .refl (h _ _)
theorem de_int {i j pos} : DE X (.Constant (.int i) j pos) (dC (.int i)) := ⟨pe_imp pe_int (tDc fun _ _ => .int)⟩
theorem de_bl {b j pos} : DE X (.Constant (.bool b) j pos) (dC (.bl b)) := ⟨pe_imp pe_bl (tDc fun _ _ => .bl)⟩
theorem de_non {j pos} : DE X (.Constant .none j pos) (dC .non) := ⟨pe_imp pe_non (tDc fun _ _ => .non)⟩
theorem de_str {x : Str} {j pos} (l : List Nat) (h : x = S l := by decide +kernel) : DE X (.Constant (.str x) j pos) (dC (.str l)) := by
  subst h
  exact ⟨pe_imp pe_str (tDc fun _ _ => .str)⟩
/-- a module's constant: an int or a text -/
theorem de_gint {x : Str} {i : Int} {u : Value} {pos : Pos} (hg : Gl X x) (hm : X.mg x = some u) (r : RelV (.int i) u) (hd : (x == ("__debug__" : Str)) = false := by decide) : DE X (.Name x pos) (dC (.int i)) := ⟨pe_imp (pe_glob hg hm r hd) (tDc fun _ _ => .int)⟩
theorem de_gstr {x : Str} {i : List Nat} {u : Value} {pos : Pos} (hg : Gl X x) (hm : X.mg x = some u) (r : RelV (.str (S i)) u) (hd : (x == ("__debug__" : Str)) = false := by decide) : DE X (.Name x pos) (dC (.str i)) := ⟨pe_imp (pe_glob hg hm r hd) (tDc fun _ _ => .str)⟩

/-! ### argument lists, displays -/
def dNil : DenL := fun _ s => some ([], s)
def dCons (d : Den) (ds : DenL) : DenL := fun env s => match d env s with
  | some (x, s1) => match ds env s1 with
    | some (xs, s2) => some (x :: xs, s2)
    | none => none
  | none => none
theorem da_nil : DA X [] dNil := by
  refine ⟨pa_imp pa_nil ?_⟩
  rintro σ H Q ⟨A, s, env, r, s', R, e, k⟩
  cases e
  exact k [] H A R.sr .refl .nil
theorem da_cons {e : Expr} {es : List Expr} {d : Den} {ds : DenL} (ha : DE X e d) (hr : DA X es ds) (hs : starEach (e :: es) X.env = (false, eval e X.env) :: starEach es X.env := by rfl) : DA X (e :: es) (dCons d ds) := by
  refine ⟨pa_imp (pa_cons ha.pe hr.pa hs) ?_⟩
  rintro σ H Q ⟨A, s, env, r, s', R, e, k⟩
  unfold dCons at e
  split at e
  · rename_i x s1 e1
    split at e
    · rename_i xs s2 e2
      cases e
      refine tD_mk R e1 fun v H1 A1 S1 l1 r1 => ?_
      refine tDA_mk (R.le S1 l1) e2 fun vs H2 A2 S2 l2 r2 => ?_
      exact k _ H2 A2 S2 (l1.trans l2) (.cons (r1.le l2) r2)
    · cases e
  · cases e
end
end Dx
end
section
namespace Dx
open PySem PySem.Spec PyProof.Rows L2

/-! ### operators by values -/
abbrev G2 := D → D → Option D
structure OpD (X : Cx) (r : R2) (g : G2) : Prop where
  ok : ∀ A s H x y a b z, SR X.K A s H → Seen X.K A s H x a → Seen X.K A s H y b → g a b = some z → ∀ Q : VK,
    (∀ w H', (∀ a o, H a = some o → H' a = some o) → Rep X.K A (vis A s H') w z → Q w H') → r x y H Q
/-- .. that make a new list -/
structure OpF (X : Cx) (r : R2) (g : D → D → Option (List D)) : Prop where
  ok : ∀ A s H x y a b z, SR X.K A s H → Seen X.K A s H x a → Seen X.K A s H y b → g a b = some z → ∀ Q : VK,
    (∀ p vs, H p = none → Reps X.K A (vis A s H) vs z → Q (.ref p) (upd H p (.lst vs))) → r x y H Q
def dOp (g : G2) (da db : Den) : Den := fun env s => match da env s with
  | some (x, s1) => match db env s1 with
    | some (y, s2) => match g (vw s2 x) (vw s2 y) with
      | some z => some (z, s2)
      | none => none
    | none => none
  | none => none
def dOpF (g : D → D → Option (List D)) (da db : Den) : DenL := fun env s => match da env s with
  | some (x, s1) => match db env s1 with
    | some (y, s2) => match g (vw s2 x) (vw s2 y) with
      | some z => some (z, s2)
      | none => none
    | none => none
  | none => none
def dData (d : DenL) : Den := fun env s => match d env s with
  | some (xs, s1) => some (.lst xs, s1)
  | none => none
section
variable {X : Cx} {a b e : Expr} {da db : Den} {pos : Pos}
theorem tOp_imp {r : R2} {g : G2} (hg : OpD X r g) : ∀ σ H Q, tD X.K (dOp g da db) σ H Q → tOp r (tD X.K da) (tD X.K db) σ H Q := by
  rintro σ H Q ⟨A, s, env, z, s', R, e, k⟩
  unfold dOp at e
  split at e
  · rename_i x s1 e1
    split at e
    · rename_i y s2 e2
      split at e
      · rename_i z' eg
        cases e
        refine tD_mk R e1 fun v H1 A1 S1 l1 r1 => ?_
        refine tD_mk (R.le S1 l1) e2 fun u H2 A2 S2 l2 r2 => ?_
        refine hg.ok A2 _ H2 v u _ _ _ S2 ((r1.le l2).seen S2) (r2.seen S2) eg _ fun w H3 x3 rw => ?_
        obtain ⟨S3, l3⟩ := S2.ex x3
        exact k w H3 A2 S3 (l1.trans (l2.trans l3)) rw
      · cases e
    · cases e
  · cases e
theorem tOpF_imp {r : R2} {g : D → D → Option (List D)} (hg : OpF X r g) : ∀ σ H Q, tDF X.K (dOpF g da db) σ H Q → tOp r (tD X.K da) (tD X.K db) σ H Q := by
  rintro σ H Q ⟨A, s, env, z, s', R, e, k⟩
  unfold dOpF at e
  split at e
  · rename_i x s1 e1
    split at e
    · rename_i y s2 e2
      split at e
      · rename_i z' eg
        cases e
        refine tD_mk R e1 fun v H1 A1 S1 l1 r1 => ?_
        refine tD_mk (R.le S1 l1) e2 fun u H2 A2 S2 l2 r2 => ?_
        refine hg.ok A2 _ H2 v u _ _ _ S2 ((r1.le l2).seen S2) (r2.seen S2) eg _ fun p vs hp rw => ?_
        have ed : del (upd H2 p (.lst vs)) p = H2 := del_upd hp
        exact k p vs _ A2 (by rw [ed]; exact S2) (by rw [ed]; exact l1.trans l2) upd_same (by rw [ed]; exact rw)
      · cases e
    · cases e
  · cases e
/-- a new list as data -/
theorem tDF_imp {K : PySem.W.Frag} {d : DenL} : ∀ σ H Q, tD K (dData d) σ H Q → tDF K d σ H Q := by
  rintro σ H Q ⟨A, s, env, z, s', R, e, k⟩
  unfold dData at e
  split at e
  · rename_i xs s1 e1
    cases e
    refine ⟨A, s, env, xs, _, R, e1, fun p vs H' A' S l hp r => ?_⟩
    obtain ⟨S', l'⟩ := new_le S hp
    refine k (.ref p) H' A' S' (l.trans l') (.lst ?_ (r.le l'))
    rw [vis_not (S.notHid del_same)]
    exact hp
  · cases e
theorem de_df {d : DenL} (h : DF X e d) : DE X e (dData d) := ⟨pe_imp h.pe tDF_imp⟩
theorem de_op {op : Operator} {r : R2} {g : G2} (ho : OpR X (binaryOp op) r) (hg : OpD X r g) (ha : DE X a da) (hb : DE X b db) : DE X (.BinOp a op b pos) (dOp g da db) := ⟨pe_imp (pe_op ho ha.pe hb.pe) (tOp_imp hg)⟩
theorem df_op {op : Operator} {r : R2} {g : D → D → Option (List D)} (ho : OpR X (binaryOp op) r) (hg : OpF X r g) (ha : DE X a da) (hb : DE X b db) : DF X (.BinOp a op b pos) (dOpF g da db) := ⟨pe_imp (pe_op ho ha.pe hb.pe) (tOpF_imp hg)⟩
theorem de_cmp {op : CmpOp} {r : R2} {g : G2} (ho : OpR X (compareOp op) r) (hg : OpD X r g) (ha : DE X a da) (hb : DE X b db) (hm : behindInMarks op b = false) : DE X (.Compare a [op] [b] pos) (dOp g da db) := ⟨pe_imp (pe_cmpR ho ha.pe hb.pe hm) (tOp_imp hg)⟩
/-- a bool's value as a test's answer -/
def dTst (d : Den) : DenB := fun env s => match d env s with
  | some (.bl b, s1) => some (b, s1)
  | _ => none
theorem tTest_imp {K : PySem.W.Frag} {d : Den} {t : TE} (h : ∀ σ H Q, tD K d σ H Q → t σ H Q) : ∀ σ H Q, tDT K (dTst d) σ H Q → tTest t σ H Q := by
  rintro σ H Q ⟨A, s, env, z, s', R, e, k⟩
  unfold dTst at e
  split at e
  · rename_i b s1 e1
    cases e
    refine h σ H _ (tD_mk R e1 fun v H1 A1 S1 l1 r1 => ?_)
    cases r1
    exact ⟨_, rfl, k H1 A1 S1 l1⟩
  · cases e
theorem dt_cmp {op : CmpOp} {r : R2} {g : G2} (ho : OpR X (compareOp op) r) (hg : OpD X r g) (ha : DE X a da) (hb : DE X b db) (hm : behindInMarks op b = false) : DT X (.Compare a [op] [b] pos) (dTst (dOp g da db)) := ⟨pt_imp (pt_cmpR ho ha.pe hb.pe hm) (tTest_imp (tOp_imp hg))⟩

theorem OpD.or {r r' : R2} {g g' : G2} (h : OpD X r g) (h' : OpD X r' g') : OpD X (fun x y H Q => r x y H Q ∨ r' x y H Q) (fun a b => match g a b with | some z => some z | none => g' a b) :=
  ⟨fun A s H x y a b z S ra rb e Q k => by
    cases q : g a b with
    | some w =>
      simp only [q] at e
      cases e
      exact .inl (h.ok A s H x y a b _ S ra rb q Q k)
    | none =>
      simp only [q] at e
      exact .inr (h'.ok A s H x y a b _ S ra rb e Q k)⟩
theorem OpF.data {r : R2} {g : D → D → Option (List D)} (h : OpF X r g) : OpD X r (fun a b => (g a b).map D.lst) :=
  ⟨fun A s H x y a b z S ra rb e Q k => by
    cases q : g a b with
    | none => rw [q] at e; cases e
    | some zs =>
      rw [q] at e
      cases e
      refine h.ok A s H x y a b zs S ra rb q Q fun p vs hp r => ?_
      have ex : ∀ a o, H a = some o → upd H p (.lst vs) a = some o := ex_upd hp
      refine k (.ref p) _ ex (.lst ?_ (r.le (S.ex ex).2))
      rw [vis_not (S.notHid hp)]
      exact upd_same⟩

/-! ### arithmetic -/
def addI : G2 | .int i, .int j => some (.int (i + j)) | _, _ => none
def subI : G2 | .int i, .int j => some (.int (i - j)) | _, _ => none
def mulOk (i j : Int) : Prop := (i.natAbs < 2 ^ 64 ∨ j.natAbs < 2 ^ 64) ∨ i.natAbs.log2 + j.natAbs.log2 < 1000000
instance {i j : Int} : Decidable (mulOk i j) := by unfold mulOk; infer_instance
def mulI : G2 | .int i, .int j => if mulOk i j then some (.int (i * j)) else none | _, _ => none
def divI : G2 | .int i, .int j => if 0 < j ∧ j.natAbs.log2 < 9000 then some (.int (i / j)) else none | _, _ => none
def modI : G2 | .int i, .int j => if 0 < j then some (.int (i % j)) else none | _, _ => none
def powOk (i j : Int) : Prop := 0 ≤ j ∧ j ≤ 1000 ∧ i.natAbs < 2 ^ 2000
instance {i j : Int} : Decidable (powOk i j) := by unfold powOk; infer_instance
def powI : G2 | .int i, .int j => if powOk i j then some (.int (i ^ j.toNat)) else none | _, _ => none
theorem opd_int {C : Int → Int → Prop} {f : Int → Int → V} {g : G2} (h : ∀ a b z, g a b = some z → ∃ i j, a = .int i ∧ b = .int j ∧ C i j ∧ ∀ A H, Rep X.K A H (f i j) z) : OpD X (rI C f) g :=
  ⟨fun A s H x y a b z S ra rb e Q k => by
    obtain ⟨i, j, rfl, rfl, hc, hr⟩ := h a b z e
    exact ⟨i, j, ra, rb, hc, k _ H (fun _ _ h => h) (hr _ _)⟩⟩
theorem opd_int0 {f : Int → Int → V} {g : G2} (h : ∀ a b z, g a b = some z → ∃ i j, a = .int i ∧ b = .int j ∧ ∀ A H, Rep X.K A H (f i j) z) : OpD X (rI0 f) g :=
  ⟨fun A s H x y a b z S ra rb e Q k => by
    obtain ⟨i, j, rfl, rfl, hr⟩ := h a b z e
    exact ⟨i, j, ra, rb, k _ H (fun _ _ h => h) (hr _ _)⟩⟩
theorem int2 {f : Int → Int → D} {g : G2} (hg : g = fun a b => match a, b with | .int i, .int j => some (f i j) | _, _ => none) : ∀ a b z, g a b = some z → ∃ i j, a = .int i ∧ b = .int j ∧ z = f i j := by
  subst hg
  intro a b z e
  cases a <;> cases b <;> simp at e
  exact ⟨_, _, rfl, rfl, e.symm⟩
theorem opd_add : OpD X (rI0 fun i j => .int (i + j)) addI := opd_int0 fun a b z e => by
  cases a <;> cases b <;> simp [addI] at e
  subst e; exact ⟨_, _, rfl, rfl, fun _ _ => .int⟩
theorem opd_sub : OpD X (rI0 fun i j => .int (i - j)) subI := opd_int0 fun a b z e => by
  cases a <;> cases b <;> simp [subI] at e
  subst e; exact ⟨_, _, rfl, rfl, fun _ _ => .int⟩
theorem op_mulA : OpR X (binaryOp .Mult) (rI mulOk fun i j => .int (i * j)) := opI fun i j _ _ _ _ _ hc q => by
  rcases hc with h | h
  · refine mul_int q (CMul.ok ?_)
    unfold CMul
    omega
  · exact mul_int q (CMulW.ok h)
theorem opd_mul : OpD X (rI mulOk fun i j => .int (i * j)) mulI := opd_int fun a b z e => by
  cases a <;> cases b <;> simp [mulI] at e
  obtain ⟨h, e⟩ := e
  subst e; exact ⟨_, _, rfl, rfl, h, fun _ _ => .int⟩
theorem opd_div : OpD X (rI CDivW fun i j => .int (i / j)) divI := opd_int fun a b z e => by
  cases a <;> cases b <;> simp [divI] at e
  obtain ⟨h, e⟩ := e
  subst e; exact ⟨_, _, rfl, rfl, h, fun _ _ => .int⟩
theorem opd_mod : OpD X (rI (fun _ j => 0 < j) fun i j => .int (i % j)) modI := opd_int fun a b z e => by
  cases a <;> cases b <;> simp [modI] at e
  obtain ⟨h, e⟩ := e
  subst e; exact ⟨_, _, rfl, rfl, h, fun _ _ => .int⟩
theorem op_powA : OpR X (binaryOp .Pow) (rI powOk fun i j => .int (i ^ j.toNat)) := opI fun i j _ _ _ _ _ hc q => by
  obtain ⟨h0, h1, h2⟩ := hc
  refine pow_int h0 ?_ q
  have hb : Builtin.Int.intBits i ≤ 2000 := PySem.intBits_le_iff.mpr h2
  have e : (Builtin.Int.intBits i : Int) * j ≤ 2000 * 1000 := by
    refine Int.le_trans (Int.mul_le_mul_of_nonneg_right (by omega : (Builtin.Int.intBits i : Int) ≤ 2000) h0) ?_
    exact Int.mul_le_mul_of_nonneg_left h1 (by decide)
  omega
theorem opd_pow : OpD X (rI powOk fun i j => .int (i ^ j.toNat)) powI := opd_int fun a b z e => by
  cases a <;> cases b <;> simp [powI] at e
  obtain ⟨h, e⟩ := e
  subst e; exact ⟨_, _, rfl, rfl, h, fun _ _ => .int⟩
/-! texts -/
theorem S_append (x y : List Nat) : S x ++ S y = S (x ++ y) := by
  show (⟨(S x).cps ++ (S y).cps⟩ : Str) = _
  simp [S]
theorem S_length (x : List Nat) : (S x).length = x.length := by
  show (S x).cps.size = _
  simp [S]
def addS : G2 | .str x, .str y => if x.length + y.length ≤ sizeLine then some (.str (x ++ y)) else none | _, _ => none
theorem opd_addS : OpD X (fun x y H Q => ∃ i j, x = .str i ∧ y = .str j ∧ i.length + j.length ≤ sizeLine ∧ Q (.str (i ++ j)) H) addS :=
  ⟨fun A s H x y a b z S0 ra rb e Q k => by
    cases a <;> cases b <;> simp [addS] at e
    obtain ⟨h, e⟩ := e
    subst e
    refine ⟨_, _, ra, rb, by rw [S_length, S_length]; exact h, ?_⟩
    rw [S_append]
    exact k _ H (fun _ _ h => h) .str⟩
def addL : D → D → Option (List D) | .lst x, .lst y => if x.length + y.length ≤ sizeLine then some (x ++ y) else none | _, _ => none
theorem opf_addL : OpF X rCat addL :=
  ⟨fun A s H x y a b z S0 ra rb e Q k => by
    cases a <;> cases b <;> simp [addL] at e
    obtain ⟨h, e⟩ := e
    subst e
    obtain ⟨a, vs, rfl, h1, r1⟩ := ra
    obtain ⟨b, ws, rfl, h2, r2⟩ := rb
    exact ⟨a, b, vs, ws, rfl, rfl, h1, h2, by rw [r1.length, r2.length]; exact h, fun p hp => k p _ hp (r1.append r2)⟩⟩
def addT : G2 | .tup x, .tup y => if x.isEmpty = false ∧ y.isEmpty = false ∧ x.length + y.length ≤ sizeLine then some (.tup (x ++ y)) else none | _, _ => none
theorem opd_addT : OpD X (rCatT X.K) addT :=
  ⟨fun A s H x y a b z S0 ra rb e Q k => by
    cases a <;> cases b <;> simp [addT] at e
    obtain ⟨h, e⟩ := e
    obtain ⟨hx, hy, hz⟩ := h
    subst e
    obtain ⟨a, vs, rfl, h1, r1⟩ := ra
    obtain ⟨b, ws, rfl, h2, r2⟩ := rb
    have n1 : vs ≠ [] := fun z => by subst z; cases r1; exact hx rfl
    have n2 : ws ≠ [] := fun z => by subst z; cases r2; exact hy rfl
    refine ⟨a, b, vs, ws, rfl, rfl, h1, h2, n1, by rw [r1.length, r2.length]; exact hz, fun z => absurd z n2, fun _ p hp => ?_⟩
    have ex : ∀ a o, H a = some o → upd H p (.tup (vs ++ ws)) a = some o := ex_upd hp
    refine k (.ref p) _ ex (.tup (.inl (.inl ?_)) ((r1.append r2).le (S0.ex ex).2))
    rw [vis_not (S0.notHid hp)]
    exact upd_same⟩
def mulS : G2 | .str x, .int n => if -(2 ^ 62) ≤ n ∧ n ≤ 16777216 ∧ x.length * n.toNat ≤ 16777216 then some (.str (List.replicate n.toNat x).flatten) else none | _, _ => none
theorem foldl_arr (x : Array Nat) : ∀ (k : Nat) (acc : Array Nat), ((List.replicate k x).foldl (· ++ ·) acc).toList = acc.toList ++ (List.replicate k x.toList).flatten
  | 0, acc => by simp
  | k + 1, acc => by
    rw [List.replicate_succ, List.foldl_cons, foldl_arr x k, List.replicate_succ, List.flatten_cons]
    simp
theorem arr_ext {a b : Array Nat} (h : a.toList = b.toList) : a = b := by
  cases a; cases b; simpa using h
theorem mul_S (x : List Nat) (n : Int) : Txt.mul (S x) n = S (List.replicate n.toNat x).flatten := by
  unfold Txt.mul
  by_cases h : n < 1
  · rw [if_pos h]
    have : n.toNat = 0 := by omega
    rw [this]; rfl
  · rw [if_neg h]
    split
    · rename_i h2
      simp only [Bool.or_eq_true, beq_iff_eq] at h2
      rcases h2 with h2 | h2
      · subst h2; simp
      · rw [S_length] at h2
        have : x = [] := List.length_eq_zero_iff.mp h2
        subst this
        simp
    · show (⟨_⟩ : Str) = ⟨_⟩
      congr 1
      refine arr_ext ?_
      rw [foldl_arr]
      simp [S]
theorem op_mulS : OpR X (binaryOp .Mult) (fun x y H Q => ∃ i n, x = .str i ∧ y = .int n ∧ (-(2 ^ 62) ≤ n ∧ n ≤ 16777216 ∧ i.length * n.toNat ≤ 16777216) ∧ Q (.str (Txt.mul i n)) H) := by
  intro pins s σ H x y v u Q I rx ry h
  obtain ⟨i, j, rfl, rfl, hz, q⟩ := h
  obtain ⟨t, rfl⟩ := rx
  obtain ⟨t', rfl⟩ := ry
  refine SB.mul (mulOk_of i.length j.toNat (Nat.le_refl _) (by omega) (by omega) (by omega) hz.2.2) fun t' k => ?_
  exact ⟨.str _, H, I.tok _, ⟨_, rfl⟩, q⟩
theorem opd_mulS : OpD X (fun x y H Q => ∃ i n, x = .str i ∧ y = .int n ∧ (-(2 ^ 62) ≤ n ∧ n ≤ 16777216 ∧ i.length * n.toNat ≤ 16777216) ∧ Q (.str (Txt.mul i n)) H) mulS :=
  ⟨fun A s H x y a b z S0 ra rb e Q k => by
    cases a <;> cases b <;> simp [mulS] at e
    obtain ⟨h, e⟩ := e
    subst e
    refine ⟨_, _, ra, rb, by rw [S_length]; exact h, ?_⟩
    rw [mul_S]
    exact k _ H (fun _ _ h => h) .str⟩
def mulL : D → D → Option (List D) | .lst x, .int n => if -(2 ^ 63) ≤ n ∧ n < 2 ^ 63 ∧ x.length * n.toNat ≤ sizeLine then some (List.replicate n.toNat x).flatten else none | _, _ => none
theorem opf_mulL : OpF X rRep mulL :=
  ⟨fun A s H x y a b z S0 ra rb e Q k => by
    cases a <;> cases b <;> simp [mulL] at e
    obtain ⟨h, e⟩ := e
    subst e
    obtain ⟨a, vs, rfl, h1, r1⟩ := ra
    exact ⟨a, _, vs, rfl, rb, h1, h.1, h.2.1, by rw [r1.length]; exact h.2.2, fun p hp => k p _ hp (r1.flat _)⟩⟩
/-! all kinds in one -/
def orG (g g' : G2) : G2 := fun a b => match g a b with | some z => some z | none => g' a b
def addD : G2 := orG addI (orG addS (orG (fun a b => (addL a b).map D.lst) addT))
def mulD : G2 := orG mulI (orG mulS fun a b => (mulL a b).map D.lst)
theorem de_add (ha : DE X a da) (hb : DE X b db) : DE X (.BinOp a .Add b pos) (dOp addD da db) := de_op (op_add.or (op_add_str.or (op_cat.or op_catT))) (opd_add.or (opd_addS.or (opf_addL.data.or opd_addT))) ha hb
theorem df_add (ha : DE X a da) (hb : DE X b db) : DF X (.BinOp a .Add b pos) (dOpF addL da db) := df_op op_cat opf_addL ha hb
theorem de_sub (ha : DE X a da) (hb : DE X b db) : DE X (.BinOp a .Sub b pos) (dOp subI da db) := de_op op_sub opd_sub ha hb
theorem de_mul (ha : DE X a da) (hb : DE X b db) : DE X (.BinOp a .Mult b pos) (dOp mulD da db) := de_op (op_mulA.or (op_mulS.or op_rep)) (opd_mul.or (opd_mulS.or opf_mulL.data)) ha hb
theorem df_mul (ha : DE X a da) (hb : DE X b db) : DF X (.BinOp a .Mult b pos) (dOpF mulL da db) := df_op op_rep opf_mulL ha hb
theorem de_div (ha : DE X a da) (hb : DE X b db) : DE X (.BinOp a .FloorDiv b pos) (dOp divI da db) := de_op op_fdivW opd_div ha hb
theorem de_mod (ha : DE X a da) (hb : DE X b db) : DE X (.BinOp a .Mod b pos) (dOp modI da db) := de_op op_mod opd_mod ha hb
theorem de_pow (ha : DE X a da) (hb : DE X b db) : DE X (.BinOp a .Pow b pos) (dOp powI da db) := de_op op_powA opd_pow ha hb
end
end Dx
end
section
namespace Dx
open PySem PySem.Spec PyProof.Rows L2

/-! ### data for == and in -/
mutual
def pyd : D → Option PyData
  | .non => some .none
  | .bl b => some (.bool b)
  | .int i => some (.int i)
  | .str x => some (.str (S x))
  | .lst xs => match pyds xs with | some ds => some (.list ds) | none => none
  | .tup xs => match pyds xs with | some ds => some (.tuple ds) | none => none
  | _ => none
def pyds : List D → Option (List PyData)
  | [] => some []
  | x :: xs => match pyd x with
    | some d => match pyds xs with | some ds => some (d :: ds) | none => none
    | none => none
end
section
variable {K : PySem.W.Frag} {A : List Addr} {s : Sto} {H Hv : Hp}
mutual
theorem Rep.dp (hs : ∀ a o, Hv a = some o → H a = some o) : ∀ {v : V} {d : D} {p : PyData}, Rep K A Hv v d → pyd d = some p → Dp K H v p
  | _, _, _, .non, e => by simp only [pyd] at e; cases e; exact .non
  | _, _, _, .bl, e => by simp only [pyd] at e; cases e; exact .bl _
  | _, _, _, .int, e => by simp only [pyd] at e; cases e; exact .int _
  | _, _, _, .str, e => by simp only [pyd] at e; cases e; exact .str _
  | _, _, _, .scr _, e => by simp only [pyd] at e; cases e
  | _, _, _, .lst h r, e => by
    simp only [pyd] at e
    split at e
    · rename_i ds q
      cases e
      exact .lst (SqL.of (hs _ _ h)) (Reps.dp hs r q)
    · cases e
  | _, _, _, .tup h r, e => by
    simp only [pyd] at e
    split at e
    · rename_i ds q
      cases e
      exact .tup (sqt_mono hs h) (Reps.dp hs r q)
    · cases e
  | _, _, _, .dk _ _ _, e => by simp only [pyd] at e; cases e
  | _, _, _, .obj _ _ _, e => by simp only [pyd] at e; cases e
  | _, _, _, .cell _, e => by simp only [pyd] at e; cases e
  | _, _, _, .ty, e => by simp only [pyd] at e; cases e
  | _, _, _, .cls, e => by simp only [pyd] at e; cases e
  | _, _, _, .exn _ _, e => by simp only [pyd] at e; cases e
theorem Reps.dp (hs : ∀ a o, Hv a = some o → H a = some o) : ∀ {v : List V} {d : List D} {p : List PyData}, Reps K A Hv v d → pyds d = some p → DpAll K H v p
  | _, _, _, .nil, e => by simp only [pyds] at e; cases e; exact .nil
  | _, _, _, .cons r t, e => by
    simp only [pyds] at e
    split at e
    · rename_i d q
      split at e
      · rename_i ds q2
        cases e
        exact .cons (Rep.dp hs r q) (Reps.dp hs t q2)
      · cases e
    · cases e
end
theorem Seen.dp {v : V} {d : D} {p : PyData} (h : Seen K A s H v d) (e : pyd d = some p) : Dp K H v p := by
  have sub : ∀ a o, vis A s H a = some o → H a = some o := fun a o => vis_sub
  cases d with
  | non => have h : v = .non := h; subst h; simp only [pyd] at e; cases e; exact .non
  | bl b => have h : v = .bl b := h; subst h; simp only [pyd] at e; cases e; exact .bl _
  | int b => have h : v = .int b := h; subst h; simp only [pyd] at e; cases e; exact .int _
  | str b => have h : v = .str (S b) := h; subst h; simp only [pyd] at e; cases e; exact .str _
  | lst xs =>
    obtain ⟨a, vs, rfl, hh, r⟩ := h
    simp only [pyd] at e
    split at e
    · rename_i ds q
      cases e
      exact .lst (SqL.of hh) (r.dp sub q)
    · cases e
  | tup xs =>
    obtain ⟨a, vs, rfl, hh, r⟩ := h
    simp only [pyd] at e
    split at e
    · rename_i ds q
      cases e
      exact .tup hh (r.dp sub q)
    · cases e
  | _ => simp only [pyd] at e; cases e
end
def eqS : D → D → Option Bool
  | .non, .non => some true | .non, .int _ => some false | .int _, .non => some false | .non, .bl _ => some false | .bl _, .non => some false | .non, .str _ => some false | .str _, .non => some false
  | .int i, .int j => some (decide (i = j)) | .bl i, .bl j => some (decide (i = j)) | .str i, .str j => some (decide (i = j))
  | .int _, .str _ => some false | .str _, .int _ => some false | .bl _, .str _ => some false | .str _, .bl _ => some false
  | _, _ => none
def eqP (a b : D) : Option Bool := match pyd a, pyd b with
  | some p, some q => if SeqAt.shaped p = true ∧ SeqAt.shaped q = true then some (PyData.eqv p q) else none
  | _, _ => none
def eqDB (a b : D) : Option Bool := match eqS a b with
  | some r => some r
  | none => eqP a b
def eqD : G2 := fun a b => (eqDB a b).map D.bl
def neD : G2 := fun a b => (eqDB a b).map fun r => D.bl (!r)
theorem S_inj {x y : List Nat} : S x = S y ↔ x = y := by
  constructor
  · intro h
    have h2 : (S x).cps.toList = (S y).cps.toList := by rw [h]
    simpa [S] using h2
  · intro h; rw [h]
section
variable {X : Cx} {a b c e : Expr} {da db dc : Den} {pos : Pos}
theorem eqS_V {K : PySem.W.Frag} {A : List Addr} {s : Sto} {H : Hp} {x y : V} {a b : D} {r : Bool} (ra : Seen K A s H x a) (rb : Seen K A s H y b) (e : eqS a b = some r) : scal x y = true ∧ decide (x = y) = r := by
  cases a <;> cases b <;> simp [eqS] at e <;> (have ra' := ra; have rb' := rb; simp only [Seen] at ra' rb'; subst ra'; subst rb'; subst e) <;> simp [scal, S_inj]
theorem opd_eqS : OpD X rEq (fun a b => (eqS a b).map D.bl) :=
  ⟨fun A s H x y a b z S0 ra rb e Q k => by
    cases q : eqS a b with
    | none => rw [q] at e; cases e
    | some r =>
      rw [q] at e
      cases e
      obtain ⟨h1, h2⟩ := eqS_V ra rb q
      exact ⟨h1, by rw [h2]; exact k _ H (fun _ _ h => h) .bl⟩⟩
theorem opd_neS : OpD X rNe (fun a b => (eqS a b).map fun r => D.bl (!r)) :=
  ⟨fun A s H x y a b z S0 ra rb e Q k => by
    cases q : eqS a b with
    | none => rw [q] at e; cases e
    | some r =>
      rw [q] at e
      cases e
      obtain ⟨h1, h2⟩ := eqS_V ra rb q
      exact ⟨h1, by rw [h2]; exact k _ H (fun _ _ h => h) .bl⟩⟩
theorem eqP_some {a b : D} {r : Bool} (e : eqP a b = some r) : ∃ p q, pyd a = some p ∧ pyd b = some q ∧ SeqAt.shaped p = true ∧ SeqAt.shaped q = true ∧ PyData.eqv p q = r := by
  unfold eqP at e
  split at e
  · rename_i p q h1 h2
    split at e
    · rename_i h
      cases e
      exact ⟨p, q, h1, h2, h.1, h.2, rfl⟩
    · cases e
  · cases e
theorem opd_eqP : OpD X (rEqD X.K) (fun a b => (eqP a b).map D.bl) :=
  ⟨fun A s H x y a b z S0 ra rb e Q k => by
    cases q : eqP a b with
    | none => rw [q] at e; cases e
    | some r =>
      rw [q] at e
      cases e
      obtain ⟨p, q, h1, h2, h3, h4, h5⟩ := eqP_some q
      exact ⟨p, q, ra.dp h1, rb.dp h2, h3, h4, by rw [h5]; exact k _ H (fun _ _ h => h) .bl⟩⟩
theorem opd_neP : OpD X (rNeD X.K) (fun a b => (eqP a b).map fun r => D.bl (!r)) :=
  ⟨fun A s H x y a b z S0 ra rb e Q k => by
    cases q : eqP a b with
    | none => rw [q] at e; cases e
    | some r =>
      rw [q] at e
      cases e
      obtain ⟨p, q, h1, h2, h3, h4, h5⟩ := eqP_some q
      exact ⟨p, q, ra.dp h1, rb.dp h2, h3, h4, by rw [h5]; exact k _ H (fun _ _ h => h) .bl⟩⟩
theorem OpD.congr {r : R2} {g g' : G2} (h : OpD X r g) (e : ∀ a b, g' a b = g a b) : OpD X r g' := ⟨fun A s H x y a b z S ra rb q => h.ok A s H x y a b z S ra rb (by rw [← e]; exact q)⟩
theorem opd_eq : OpD X (fun x y H Q => rEq x y H Q ∨ rEqD X.K x y H Q) eqD := (opd_eqS.or opd_eqP).congr fun a b => by
  unfold eqD eqDB
  cases eqS a b <;> rfl
theorem opd_ne : OpD X (fun x y H Q => rNe x y H Q ∨ rNeD X.K x y H Q) neD := (opd_neS.or opd_neP).congr fun a b => by
  unfold neD eqDB
  cases eqS a b <;> rfl
def ltI : G2 | .int i, .int j => some (.bl (decide (i < j))) | _, _ => none
def leI : G2 | .int i, .int j => some (.bl (decide (i ≤ j))) | _, _ => none
def gtI : G2 | .int i, .int j => some (.bl (decide (j < i))) | _, _ => none
def geI : G2 | .int i, .int j => some (.bl (decide (j ≤ i))) | _, _ => none
theorem opd_lt : OpD X (rI0 fun i j => .bl (decide (i < j))) ltI := opd_int0 fun a b z e => by
  cases a <;> cases b <;> simp [ltI] at e
  subst e; exact ⟨_, _, rfl, rfl, fun _ _ => .bl⟩
theorem opd_le : OpD X (rI0 fun i j => .bl (decide (i ≤ j))) leI := opd_int0 fun a b z e => by
  cases a <;> cases b <;> simp [leI] at e
  subst e; exact ⟨_, _, rfl, rfl, fun _ _ => .bl⟩
theorem opd_gt : OpD X (rI0 fun i j => .bl (decide (j < i))) gtI := opd_int0 fun a b z e => by
  cases a <;> cases b <;> simp [gtI] at e
  subst e; exact ⟨_, _, rfl, rfl, fun _ _ => .bl⟩
theorem opd_ge : OpD X (rI0 fun i j => .bl (decide (j ≤ i))) geI := opd_int0 fun a b z e => by
  cases a <;> cases b <;> simp [geI] at e
  subst e; exact ⟨_, _, rfl, rfl, fun _ _ => .bl⟩
/-! is None -/
def isNonB : D → Option Bool
  | .non => some true
  | .scr _ | .lst _ | .tup _ | .dk _ _ | .obj _ _ _ | .cell _ | .int _ | .bl _ | .str _ => some false
  | _ => none
def isN : G2 := fun a b => match b with | .non => (isNonB a).map D.bl | _ => none
def notN : G2 := fun a b => match b with | .non => (isNonB a).map fun r => D.bl (!r) | _ => none
theorem isNon_V {K : PySem.W.Frag} {A : List Addr} {s : Sto} {H : Hp} {x : V} {a : D} {r : Bool} (ra : Seen K A s H x a) (e : isNonB a = some r) : decide (x = .non) = r := by
  cases a with
  | non => have h : x = .non := ra; subst h; simp [isNonB] at e; subst e; rfl
  | bl b => have h : x = .bl b := ra; subst h; simp [isNonB] at e; subst e; rfl
  | int b => have h : x = .int b := ra; subst h; simp [isNonB] at e; subst e; rfl
  | str b => have h : x = .str (S b) := ra; subst h; simp [isNonB] at e; subst e; rfl
  | scr ns => obtain ⟨_, rfl, _⟩ := ra; simp [isNonB] at e; subst e; rfl
  | lst ns => obtain ⟨_, _, rfl, _⟩ := ra; simp [isNonB] at e; subst e; rfl
  | tup ns => obtain ⟨_, _, rfl, _⟩ := ra; simp [isNonB] at e; subst e; rfl
  | dk _ ns => obtain ⟨_, _, rfl, _⟩ := ra; simp [isNonB] at e; subst e; rfl
  | obj _ _ ns => obtain ⟨_, _, _, rfl, _⟩ := ra; simp [isNonB] at e; subst e; rfl
  | cell ns => obtain ⟨_, rfl, _⟩ := ra; simp [isNonB] at e; subst e; rfl
  | _ => cases e
theorem opd_isN : OpD X (fun x y H Q => y = .non ∧ Q (.bl (decide (x = .non))) H) isN :=
  ⟨fun A s H x y a b z S0 ra rb e Q k => by
    cases b with
    | non =>
      have e' : (isNonB a).map D.bl = some z := e
      cases q : isNonB a with
      | none => rw [q] at e'; cases e'
      | some r =>
        rw [q] at e'
        cases e'
        refine ⟨rb, ?_⟩
        rw [isNon_V ra q]
        exact k _ H (fun _ _ h => h) .bl
    | _ => cases e⟩
/-
    refine ⟨rb, ?_⟩
-/
theorem opd_notN : OpD X (fun x y H Q => y = .non ∧ Q (.bl (!decide (x = .non))) H) notN :=
  ⟨fun A s H x y a b z S0 ra rb e Q k => by
    cases b with
    | non =>
      have e' : (isNonB a).map (fun r => D.bl (!r)) = some z := e
      cases q : isNonB a with
      | none => rw [q] at e'; cases e'
      | some r =>
        rw [q] at e'
        cases e'
        refine ⟨rb, ?_⟩
        rw [isNon_V ra q]
        exact k _ H (fun _ _ h => h) .bl
    | _ => cases e⟩
/-
    refine ⟨rb, ?_⟩
-/
/-! in -/
def signD : G2 | .str [c], .str z => some (.bl (decide (c ∈ z))) | _, _ => none
def notSignD : G2 | .str [c], .str z => some (.bl (!decide (c ∈ z))) | _, _ => none
theorem S_list (z : List Nat) : (S z).cps.toList = z := by simp [S]
theorem opd_sign : OpD X (fun x y H Q => ∃ (c : Nat) (z : Str), x = .str ⟨#[c]⟩ ∧ y = .str z ∧ Q (.bl (decide (c ∈ z.cps.toList))) H) signD :=
  ⟨fun A s H x y a b z S0 ra rb e Q k => by
    unfold signD at e
    split at e
    · rename_i c w
      cases e
      refine ⟨c, S w, ra, rb, ?_⟩
      rw [S_list]
      exact k _ H (fun _ _ h => h) .bl
    · cases e⟩
theorem opd_notSign : OpD X (fun x y H Q => ∃ (c : Nat) (z : Str), x = .str ⟨#[c]⟩ ∧ y = .str z ∧ Q (.bl (!decide (c ∈ z.cps.toList))) H) notSignD :=
  ⟨fun A s H x y a b z S0 ra rb e Q k => by
    unfold notSignD at e
    split at e
    · rename_i c w
      cases e
      refine ⟨c, S w, ra, rb, ?_⟩
      rw [S_list]
      exact k _ H (fun _ _ h => h) .bl
    · cases e⟩
def flatD : D → Bool | .non | .bl _ | .int _ | .str _ => true | _ => false
/-- == of flat data -/
def eqF : D → D → Bool
  | .non, .non => true
  | .bl a, .bl b => a == b
  | .bl a, .int b => (if a then 1 else 0) == b
  | .int a, .bl b => a == (if b then 1 else 0)
  | .int a, .int b => a == b
  | .str a, .str b => a == b
  | _, _ => false
def inF (x : D) (xs : List D) : Bool := xs.any fun y => eqF y x
def itemsD : D → Option (List D) | .lst xs => some xs | .tup xs => some xs | _ => none
def inFl (neg : Bool) : G2 := fun a b => match itemsD b with
  | some xs => if flatD a = true ∧ xs.all flatD = true then some (.bl (if neg then !inF a xs else inF a xs)) else none
  | none => none
theorem flat_V {K : PySem.W.Frag} {A : List Addr} {Hv : Hp} {x : V} {a : D} (r : Rep K A Hv x a) (h : flatD a = true) : flatV x = true := by
  cases r <;> first | rfl | cases h
theorem eqF_V {K : PySem.W.Frag} {A : List Addr} {Hv : Hp} {x y : V} {a b : D} (r : Rep K A Hv x a) (q : Rep K A Hv y b) (h : flatD a = true) (h2 : flatD b = true) : eqV x y = eqF a b := by
  cases r <;> cases q <;> first | rfl | cases h | cases h2 | skip
  rename_i x y
  show (S x == S y) = (x == y)
  by_cases e : x = y
  · subst e; simp
  · have e2 : ¬ S x = S y := fun z => e (S_inj.mp z)
    rw [beq_eq_false_iff_ne.mpr e, beq_eq_false_iff_ne.mpr e2]
theorem flats_V {K : PySem.W.Frag} {A : List Addr} {Hv : Hp} : ∀ {vs : List V} {ds : List D}, Reps K A Hv vs ds → ds.all flatD = true → vs.all flatV = true
  | _, _, .nil, _ => rfl
  | _, _, .cons r t, h => by
    rw [List.all_cons, Bool.and_eq_true] at h
    rw [List.all_cons, flat_V r h.1, flats_V t h.2]; rfl
theorem inF_V {K : PySem.W.Frag} {A : List Addr} {Hv : Hp} {x : V} {a : D} (q : Rep K A Hv x a) (h : flatD a = true) : ∀ {vs : List V} {ds : List D}, Reps K A Hv vs ds → ds.all flatD = true → inV x vs = inF a ds
  | _, _, .nil, _ => rfl
  | _, _, .cons r t, h2 => by
    rw [List.all_cons, Bool.and_eq_true] at h2
    have ih := inF_V q h t h2.2
    unfold inV inF at ih ⊢
    rw [List.any_cons, List.any_cons, ih, eqF_V r q h2.1 h]
theorem Seen.flat {K : PySem.W.Frag} {A : List Addr} {s : Sto} {H : Hp} {x : V} {a : D} (r : Seen K A s H x a) (h : flatD a = true) : Rep K A (vis A s H) x a := by
  cases a with
  | non => have r : x = .non := r; subst r; exact .non
  | bl b => have r : x = .bl b := r; subst r; exact .bl
  | int b => have r : x = .int b := r; subst r; exact .int
  | str b => have r : x = .str (S b) := r; subst r; exact .str
  | _ => cases h
theorem Seen.items {K : PySem.W.Frag} {A : List Addr} {s : Sto} {H : Hp} {y : V} {b : D} {xs : List D} (r : Seen K A s H y b) (e : itemsD b = some xs) : ∃ p vs, y = .ref p ∧ (SqL K H p vs ∨ SqT K H p vs) ∧ Reps K A (vis A s H) vs xs := by
  cases b <;> simp [itemsD] at e
  · subst e
    obtain ⟨a, vs, rfl, h, q⟩ := r
    exact ⟨a, vs, rfl, .inl (SqL.of h), q⟩
  · subst e
    obtain ⟨a, vs, rfl, h, q⟩ := r
    exact ⟨a, vs, rfl, .inr h, q⟩
theorem opd_inFl {neg : Bool} : OpD X (rIn X.K neg) (inFl neg) :=
  ⟨fun A s H x y a b z S0 ra rb e Q k => by
    unfold inFl at e
    split at e
    · rename_i xs q
      split at e
      · rename_i hf
        cases e
        obtain ⟨p, vs, rfl, hs, r⟩ := rb.items q
        have rx := ra.flat hf.1
        refine ⟨p, vs, rfl, hs, flat_V rx hf.1, flats_V r hf.2, ?_⟩
        rw [inF_V rx hf.1 r hf.2]
        exact k _ H (fun _ _ h => h) .bl
      · cases e
    · cases e⟩
def inDp (neg : Bool) : G2 := fun a b => match pyd a, pyd b with
  | some p, some (.list ds) => if SeqAt.shaped p = true ∧ SeqAt.shaped (.list ds) = true then some (.bl (if neg then !(ds.any fun z => PyData.eqv z p) else ds.any fun z => PyData.eqv z p)) else none
  | _, _ => none
theorem opd_inDp : OpD X (rInD X.K) (inDp false) :=
  ⟨fun A s H x y a b z S0 ra rb e Q k => by
    unfold inDp at e
    split at e
    · rename_i p ds h1 h2
      split at e
      · rename_i hf
        cases e
        exact ⟨p, ds, ra.dp h1, rb.dp h2, hf.1, hf.2, k _ H (fun _ _ h => h) .bl⟩
      · cases e
    · cases e⟩
theorem opd_notInDp : OpD X (rNotInD X.K) (inDp true) :=
  ⟨fun A s H x y a b z S0 ra rb e Q k => by
    unfold inDp at e
    split at e
    · rename_i p ds h1 h2
      split at e
      · rename_i hf
        cases e
        exact ⟨p, ds, ra.dp h1, rb.dp h2, hf.1, hf.2, k _ H (fun _ _ h => h) .bl⟩
      · cases e
    · cases e⟩
def inD : G2 := orG signD (orG (inFl false) (inDp false))
def notInD : G2 := orG notSignD (orG (inFl true) (inDp true))
end
end Dx
end
section
namespace Dx
open PySem PySem.Spec PyProof.Rows L2

section
variable {X : Cx} {a b c e : Expr} {da db dc : Den} {pos : Pos}
/-! ### comparisons -/
theorem de_eq {k : Nat} (hr : Room k X.A) (ha : DE X a da) (hb : DE X b db) : DE X (.Compare a [.Eq] [b] pos) (dOp eqD da db) := de_cmp (op_eq.or (op_eqD hr.units)) opd_eq ha hb (nomark _)
theorem de_ne {k : Nat} (hr : Room k X.A) (ha : DE X a da) (hb : DE X b db) : DE X (.Compare a [.NotEq] [b] pos) (dOp neD da db) := de_cmp (op_ne.or (op_neD hr.units)) opd_ne ha hb (nomark _)
theorem dt_eq {k : Nat} (hr : Room k X.A) (ha : DE X a da) (hb : DE X b db) : DT X (.Compare a [.Eq] [b] pos) (dTst (dOp eqD da db)) := dt_cmp (op_eq.or (op_eqD hr.units)) opd_eq ha hb (nomark _)
theorem dt_ne {k : Nat} (hr : Room k X.A) (ha : DE X a da) (hb : DE X b db) : DT X (.Compare a [.NotEq] [b] pos) (dTst (dOp neD da db)) := dt_cmp (op_ne.or (op_neD hr.units)) opd_ne ha hb (nomark _)
theorem de_lt (ha : DE X a da) (hb : DE X b db) : DE X (.Compare a [.Lt] [b] pos) (dOp ltI da db) := de_cmp op_lt opd_lt ha hb (nomark _)
theorem de_le (ha : DE X a da) (hb : DE X b db) : DE X (.Compare a [.LtE] [b] pos) (dOp leI da db) := de_cmp op_le opd_le ha hb (nomark _)
theorem de_gt (ha : DE X a da) (hb : DE X b db) : DE X (.Compare a [.Gt] [b] pos) (dOp gtI da db) := de_cmp op_gt opd_gt ha hb (nomark _)
theorem de_ge (ha : DE X a da) (hb : DE X b db) : DE X (.Compare a [.GtE] [b] pos) (dOp geI da db) := de_cmp op_ge opd_ge ha hb (nomark _)
theorem dt_lt (ha : DE X a da) (hb : DE X b db) : DT X (.Compare a [.Lt] [b] pos) (dTst (dOp ltI da db)) := dt_cmp op_lt opd_lt ha hb (nomark _)
theorem dt_le (ha : DE X a da) (hb : DE X b db) : DT X (.Compare a [.LtE] [b] pos) (dTst (dOp leI da db)) := dt_cmp op_le opd_le ha hb (nomark _)
theorem dt_gt (ha : DE X a da) (hb : DE X b db) : DT X (.Compare a [.Gt] [b] pos) (dTst (dOp gtI da db)) := dt_cmp op_gt opd_gt ha hb (nomark _)
theorem dt_ge (ha : DE X a da) (hb : DE X b db) : DT X (.Compare a [.GtE] [b] pos) (dTst (dOp geI da db)) := dt_cmp op_ge opd_ge ha hb (nomark _)
theorem de_isN (ha : DE X a da) (hb : DE X b db) : DE X (.Compare a [.Is] [b] pos) (dOp isN da db) := de_cmp op_isN opd_isN ha hb (nomark _)
theorem de_notN (ha : DE X a da) (hb : DE X b db) : DE X (.Compare a [.IsNot] [b] pos) (dOp notN da db) := de_cmp op_notN opd_notN ha hb (nomark _)
theorem dt_isN (ha : DE X a da) (hb : DE X b db) : DT X (.Compare a [.Is] [b] pos) (dTst (dOp isN da db)) := dt_cmp op_isN opd_isN ha hb (nomark _)
theorem dt_notN (ha : DE X a da) (hb : DE X b db) : DT X (.Compare a [.IsNot] [b] pos) (dTst (dOp notN da db)) := dt_cmp op_notN opd_notN ha hb (nomark _)
theorem hu65 {k : Nat} (hr : Room k X.A) : X.A.units + 65 < cLine := by have := hr.un; omega
theorem de_in {k : Nat} (hr : Room k X.A) (ha : DE X a da) (hb : DE X b db) (hm : behindInMarks .In b = false := by rfl) : DE X (.Compare a [.In] [b] pos) (dOp inD da db) :=
  de_cmp (op_in_sign.or (op_in_seq.or (op_inD (hu65 hr)))) (opd_sign.or (opd_inFl.or opd_inDp)) ha hb hm
theorem de_notIn {k : Nat} (hr : Room k X.A) (ha : DE X a da) (hb : DE X b db) (hm : behindInMarks .NotIn b = false := by rfl) : DE X (.Compare a [.NotIn] [b] pos) (dOp notInD da db) :=
  de_cmp (op_notIn_sign.or (op_notIn_seq.or (op_notInD (hu65 hr)))) (opd_notSign.or (opd_inFl.or opd_notInDp)) ha hb hm
theorem dt_in {k : Nat} (hr : Room k X.A) (ha : DE X a da) (hb : DE X b db) (hm : behindInMarks .In b = false := by rfl) : DT X (.Compare a [.In] [b] pos) (dTst (dOp inD da db)) :=
  dt_cmp (op_in_sign.or (op_in_seq.or (op_inD (hu65 hr)))) (opd_sign.or (opd_inFl.or opd_inDp)) ha hb hm
theorem dt_notIn {k : Nat} (hr : Room k X.A) (ha : DE X a da) (hb : DE X b db) (hm : behindInMarks .NotIn b = false := by rfl) : DT X (.Compare a [.NotIn] [b] pos) (dTst (dOp notInD da db)) :=
  dt_cmp (op_notIn_sign.or (op_notIn_seq.or (op_notInD (hu65 hr)))) (opd_notSign.or (opd_inFl.or opd_notInDp)) ha hb hm
/-! a < b < c -/
def dChain (g g' : G2) (da db dc : Den) : Den := fun env s => match da env s with
  | some (x, s1) => match db env s1 with
    | some (y, s2) => match g (vw s2 x) (vw s2 y) with
      | some (.bl true) => match dc env s2 with
        | some (z, s3) => match g' (vw s3 y) (vw s3 z) with
          | some r => some (r, s3)
          | none => none
        | none => none
      | some (.bl false) => some (.bl false, s2)
      | _ => none
    | none => none
  | none => none
theorem tChain_imp {r r' : R2} {g g' : G2} (hg : OpD X r g) (hg' : OpD X r' g') : ∀ σ H Q, tD X.K (dChain g g' da db dc) σ H Q → tChain r r' (tD X.K da) (tD X.K db) (tD X.K dc) σ H Q := by
  rintro σ H Q ⟨A, s, env, z, s', R, e, k⟩
  unfold dChain at e
  split at e
  · rename_i x s1 e1
    split at e
    · rename_i y s2 e2
      refine tD_mk R e1 fun v H1 A1 S1 l1 r1 => ?_
      refine tD_mk (R.le S1 l1) e2 fun u H2 A2 S2 l2 r2 => ?_
      split at e
      · rename_i eg
        split at e
        · rename_i z0 s3 e3
          split at e
          · rename_i r0 eg'
            cases e
            refine hg.ok A2 _ H2 v u _ _ _ S2 ((r1.le l2).seen S2) (r2.seen S2) eg _ fun w H3 x3 rw => ?_
            obtain ⟨S3, l3⟩ := S2.ex x3
            cases rw
            refine ⟨true, rfl, ?_⟩
            rw [if_pos rfl]
            refine tD_mk ((R.le S1 l1).le S3 (l2.trans l3)) e3 fun w4 H4 A4 S4 l4 r4 => ?_
            refine hg'.ok A4 _ H4 u w4 _ _ _ S4 ((r2.le (l3.trans l4)).seen S4) (r4.seen S4) eg' _ fun w5 H5 x5 rw5 => ?_
            obtain ⟨S5, l5⟩ := S4.ex x5
            exact k w5 H5 A4 S5 (l1.trans (l2.trans (l3.trans (l4.trans l5)))) rw5
          · cases e
        · cases e
      · rename_i eg
        cases e
        refine hg.ok A2 _ H2 v u _ _ _ S2 ((r1.le l2).seen S2) (r2.seen S2) eg _ fun w H3 x3 rw => ?_
        obtain ⟨S3, l3⟩ := S2.ex x3
        cases rw
        refine ⟨false, rfl, ?_⟩
        rw [if_neg Bool.false_ne_true]
        exact k _ H3 A2 S3 (l1.trans (l2.trans l3)) .bl
      · cases e
    · cases e
  · cases e
theorem de_chain {op op' : CmpOp} {r r' : R2} {g g' : G2} (ho : OpR X (compareOp op) r) (ho' : OpR X (compareOp op') r') (hg : OpD X r g) (hg' : OpD X r' g') (ha : DE X a da) (hb : DE X b db) (hc : DE X c dc)
    (hm : lastMarks [op, op'] [b, c] = false := by with_unfolding_all rfl) : DE X (.Compare a [op, op'] [b, c] pos) (dChain g g' da db dc) := ⟨pe_imp (pe_chain ho ho' ha.pe hb.pe hc.pe hm) (tChain_imp hg hg')⟩
theorem dt_chain {op op' : CmpOp} {r r' : R2} {g g' : G2} (ho : OpR X (compareOp op) r) (ho' : OpR X (compareOp op') r') (hg : OpD X r g) (hg' : OpD X r' g') (ha : DE X a da) (hb : DE X b db) (hc : DE X c dc)
    (hm : lastMarks [op, op'] [b, c] = false := by with_unfolding_all rfl) : DT X (.Compare a [op, op'] [b, c] pos) (dTst (dChain g g' da db dc)) := ⟨pt_imp (pt_chain ho ho' ha.pe hb.pe hc.pe hm) (tTest_imp (tChain_imp hg hg'))⟩

/-! ### truth, and, or, not -/
def truD : D → Option Bool
  | .non => some false
  | .bl b => some b
  | .int i => some (i != 0)
  | .str x => if x.length ≤ sizeLine then some (!x.isEmpty) else none
  | .lst xs => some (!xs.isEmpty)
  | .tup xs => some (!xs.isEmpty)
  | .scr xs => some (!xs.isEmpty)
  | _ => none
theorem Reps.empty {K : PySem.W.Frag} {A : List Addr} {H : Hp} {vs : List V} {ds : List D} (r : Reps K A H vs ds) : vs.isEmpty = ds.isEmpty := by cases r <;> rfl
theorem tru_V {K : PySem.W.Frag} {A : List Addr} {s : Sto} {H : Hp} {x : V} {d : D} {k : Bool} (r : Seen K A s H x d) (e : truD d = some k) : TruV K x H k := by
  cases d with
  | non => have r : x = .non := r; subst r; simp only [truD, Option.some.injEq] at e; exact e.symm
  | bl b => have r : x = .bl b := r; subst r; simp only [truD, Option.some.injEq] at e; exact e.symm
  | int b => have r : x = .int b := r; subst r; simp only [truD, Option.some.injEq] at e; exact e.symm
  | str b =>
    have r : x = .str (S b) := r; subst r
    simp only [truD] at e
    split at e
    · cases e
      refine ⟨by rw [S_length]; assumption, ?_⟩
      rw [S_length]
      cases b with
      | nil => rfl
      | cons c t => simp; omega
    · cases e
  | scr ns =>
    obtain ⟨a, rfl, h⟩ := r
    simp only [truD, Option.some.injEq] at e
    exact .inl ⟨_, h, by rw [← e]; simp⟩
  | lst ns =>
    obtain ⟨a, vs, rfl, h, r⟩ := r
    simp only [truD, Option.some.injEq] at e
    exact .inl ⟨_, SqL.of h, by rw [← e, r.empty]⟩
  | tup ns =>
    obtain ⟨a, vs, rfl, h, r⟩ := r
    simp only [truD, Option.some.injEq] at e
    exact .inr (.inl ⟨_, h, by rw [← e, r.empty]⟩)
  | _ => cases e
def dTru (d : Den) : DenB := fun env s => match d env s with
  | some (x, s1) => match truD (vw s1 x) with
    | some b => some (b, s1)
    | none => none
  | none => none
/-- any expression as a test by its value's truth -/
theorem dt_tru (ha : DE X a da) (he : ∀ whole, isTrue a X.env whole = (do let v ← whole; standAt a.pos; holding [v] (truthy v)) := by intro _; rfl) : DT X a (dTru da) := by
  refine ⟨pt_imp (pt_truth ha.pe he) ?_⟩
  rintro σ H Q ⟨A, s, env, z, s', R, e, k⟩
  unfold dTru at e
  split at e
  · rename_i x s1 e1
    split at e
    · rename_i b q
      cases e
      exact tD_mk R e1 fun v H1 A1 S1 l1 r1 => ⟨_, tru_V (r1.seen S1) q, k H1 A1 S1 l1⟩
    · cases e
  · cases e
structure DW (X : Cx) (e : Expr) (d : DenB) : Prop where
  pw : PW X e (tDT X.K d)
theorem pw_imp {e : Expr} {t t' : TT} (h : PW X e t) (k : ∀ σ H Q, t' σ H Q → t σ H Q) : PW X e t' := ⟨fun wh pins s σ H Q I q => h.run wh pins s σ H Q I (k σ H Q q)⟩
def dAndT (t u : DenB) : DenB := fun env s => match t env s with
  | some (true, s1) => u env s1
  | some (false, s1) => some (false, s1)
  | none => none
def dOrT (t u : DenB) : DenB := fun env s => match t env s with
  | some (true, s1) => some (true, s1)
  | some (false, s1) => u env s1
  | none => none
def dNotT (t : DenB) : DenB := fun env s => match t env s with
  | some (b, s1) => some (!b, s1)
  | none => none
variable {t u : DenB} {rest : List Expr}
theorem dw_and1 (ha : DT X a t) : DW X (.BoolOp .And [a] pos) t := ⟨pw_and1 ha.pt⟩
theorem dw_or1 (ha : DT X a t) : DW X (.BoolOp .Or [a] pos) t := ⟨pw_or1 ha.pt⟩
theorem dw_and (ha : DT X a t) (hb : DW X (.BoolOp .And (b :: rest) pos) u) : DW X (.BoolOp .And (a :: b :: rest) pos) (dAndT t u) := by
  refine ⟨pw_imp (pw_and ha.pt hb.pw) ?_⟩
  rintro σ H Q ⟨A, s, env, z, s', R, e, k⟩
  unfold dAndT at e
  split at e
  · rename_i s1 e1
    refine tDT_mk R e1 fun H1 A1 S1 l1 => ?_
    show (if true = true then _ else _)
    rw [if_pos rfl]
    exact tDT_mk (R.le S1 l1) e fun H2 A2 S2 l2 => k H2 A2 S2 (l1.trans l2)
  · rename_i s1 e1
    cases e
    refine tDT_mk R e1 fun H1 A1 S1 l1 => ?_
    show (if false = true then _ else _)
    rw [if_neg Bool.false_ne_true]
    exact k H1 A1 S1 l1
  · cases e
theorem dw_or (ha : DT X a t) (hb : DW X (.BoolOp .Or (b :: rest) pos) u) : DW X (.BoolOp .Or (a :: b :: rest) pos) (dOrT t u) := by
  refine ⟨pw_imp (pw_or ha.pt hb.pw) ?_⟩
  rintro σ H Q ⟨A, s, env, z, s', R, e, k⟩
  unfold dOrT at e
  split at e
  · rename_i s1 e1
    cases e
    refine tDT_mk R e1 fun H1 A1 S1 l1 => ?_
    show (if true = true then _ else _)
    rw [if_pos rfl]
    exact k H1 A1 S1 l1
  · rename_i s1 e1
    refine tDT_mk R e1 fun H1 A1 S1 l1 => ?_
    show (if false = true then _ else _)
    rw [if_neg Bool.false_ne_true]
    exact tDT_mk (R.le S1 l1) e fun H2 A2 S2 l2 => k H2 A2 S2 (l1.trans l2)
  · cases e
theorem dt_w (h : DW X e t) : DT X e t := ⟨h.pw.pt⟩
theorem dt_not (ha : DT X a t) : DT X (.UnaryOp .Not a pos) (dNotT t) := by
  refine ⟨pt_imp (pt_not ha.pt) ?_⟩
  rintro σ H Q ⟨A, s, env, z, s', R, e, k⟩
  unfold dNotT at e
  split at e
  · rename_i b s1 e1
    cases e
    exact tDT_mk R e1 fun H1 A1 S1 l1 => k H1 A1 S1 l1
  · cases e
/-! as values -/
def dAndE (da db : Den) : Den := fun env s => match da env s with
  | some (x, s1) => match truD (vw s1 x) with
    | some true => db env s1
    | some false => some (x, s1)
    | none => none
  | none => none
def dOrE (da db : Den) : Den := fun env s => match da env s with
  | some (x, s1) => match truD (vw s1 x) with
    | some true => some (x, s1)
    | some false => db env s1
    | none => none
  | none => none
def dNotE (da : Den) : Den := fun env s => match da env s with
  | some (x, s1) => match truD (vw s1 x) with
    | some b => some (.bl (!b), s1)
    | none => none
  | none => none
theorem de_one {op} (h : DE X a da) : DE X (.BoolOp op [a] pos) da := ⟨pe_one h.pe⟩
theorem de_and (ha : DE X a da) (hb : DE X (.BoolOp .And (b :: rest) pos) db) : DE X (.BoolOp .And (a :: b :: rest) pos) (dAndE da db) := by
  refine ⟨pe_imp (pe_andT ha.pe hb.pe) ?_⟩
  rintro σ H Q ⟨A, s, env, z, s', R, e, k⟩
  unfold dAndE at e
  split at e
  · rename_i x s1 e1
    refine tD_mk R e1 fun v H1 A1 S1 l1 r1 => ?_
    split at e
    · rename_i q
      refine ⟨true, tru_V (r1.seen S1) q, ?_⟩
      rw [if_pos rfl]
      exact tD_mk (R.le S1 l1) e fun w H2 A2 S2 l2 r2 => k w H2 A2 S2 (l1.trans l2) r2
    · rename_i q
      cases e
      refine ⟨false, tru_V (r1.seen S1) q, ?_⟩
      rw [if_neg Bool.false_ne_true]
      exact k v H1 A1 S1 l1 r1
    · cases e
  · cases e
theorem de_or (ha : DE X a da) (hb : DE X (.BoolOp .Or (b :: rest) pos) db) : DE X (.BoolOp .Or (a :: b :: rest) pos) (dOrE da db) := by
  refine ⟨pe_imp (pe_orT ha.pe hb.pe) ?_⟩
  rintro σ H Q ⟨A, s, env, z, s', R, e, k⟩
  unfold dOrE at e
  split at e
  · rename_i x s1 e1
    refine tD_mk R e1 fun v H1 A1 S1 l1 r1 => ?_
    split at e
    · rename_i q
      cases e
      refine ⟨true, tru_V (r1.seen S1) q, ?_⟩
      rw [if_pos rfl]
      exact k v H1 A1 S1 l1 r1
    · rename_i q
      refine ⟨false, tru_V (r1.seen S1) q, ?_⟩
      rw [if_neg Bool.false_ne_true]
      exact tD_mk (R.le S1 l1) e fun w H2 A2 S2 l2 r2 => k w H2 A2 S2 (l1.trans l2) r2
    · cases e
  · cases e
theorem de_not (ha : DE X a da) : DE X (.UnaryOp .Not a pos) (dNotE da) := by
  refine ⟨pe_imp (pe_notT ha.pe) ?_⟩
  rintro σ H Q ⟨A, s, env, z, s', R, e, k⟩
  unfold dNotE at e
  split at e
  · rename_i x s1 e1
    split at e
    · rename_i b q
      cases e
      exact tD_mk R e1 fun v H1 A1 S1 l1 r1 => ⟨_, tru_V (r1.seen S1) q, k _ H1 A1 S1 l1 .bl⟩
    · cases e
  · cases e
def dNeg (da : Den) : Den := fun env s => match da env s with
  | some (.int i, s1) => some (.int (-i), s1)
  | _ => none
theorem de_neg (ha : DE X a da) : DE X (.UnaryOp .USub a pos) (dNeg da) := by
  refine ⟨pe_imp (pe_un un_neg ha.pe) ?_⟩
  rintro σ H Q ⟨A, s, env, z, s', R, e, k⟩
  unfold dNeg at e
  split at e
  · rename_i i s1 e1
    cases e
    refine tD_mk R e1 fun v H1 A1 S1 l1 r1 => ?_
    cases r1
    exact ⟨i, rfl, k _ H1 A1 S1 l1 .int⟩
  · cases e
/-! ### a if t else b -/
def dIfE (t : DenB) (da db : Den) : Den := fun env s => match t env s with
  | some (true, s1) => da env s1
  | some (false, s1) => db env s1
  | none => none
theorem de_if (ht : DT X c t) (ha : DE X a da) (hb : DE X b db) : DE X (.IfExp c a b pos) (dIfE t da db) := by
  refine ⟨pe_imp (pe_ifExp ht.pt ha.pe hb.pe) ?_⟩
  rintro σ H Q ⟨A, s, env, z, s', R, e, k⟩
  unfold dIfE at e
  split at e
  · rename_i s1 e1
    refine tDT_mk R e1 fun H1 A1 S1 l1 => ?_
    show (if true = true then _ else _)
    rw [if_pos rfl]
    exact tD_mk (R.le S1 l1) e fun w H2 A2 S2 l2 r2 => k w H2 A2 S2 (l1.trans l2) r2
  · rename_i s1 e1
    refine tDT_mk R e1 fun H1 A1 S1 l1 => ?_
    show (if false = true then _ else _)
    rw [if_neg Bool.false_ne_true]
    exact tD_mk (R.le S1 l1) e fun w H2 A2 S2 l2 r2 => k w H2 A2 S2 (l1.trans l2) r2
  · cases e
end
end Dx
end
section
namespace Dx
open PySem PySem.Spec PyProof.Rows L2

/-! ### which cells a value speaks of -/
mutual
def bnd (n : Nat) : D → Bool
  | .lst xs => bnds n xs
  | .tup xs => bnds n xs
  | .dk _ xs => bnds n xs
  | .obj _ _ xs => bnds n xs
  | .cell j => decide (j < n)
  | .exn _ _ _ p => bnd n p
  | _ => true
def bnds (n : Nat) : List D → Bool
  | [] => true
  | x :: xs => bnd n x && bnds n xs
end
def bndC (n : Nat) : Cell → Bool
  | .lst xs => bnds n xs
  | .dk _ xs => bnds n xs
  | .dt _ xs => bnds n xs
  | .ins _ _ xs => bnds n xs
  | .frz d => bnd n d
section
variable {K : PySem.W.Frag} {A A' : List Addr} {H H' : Hp}
mutual
theorem Rep.bnd : ∀ {v : V} {d : D}, Rep K A H v d → Dx.bnd A.length d = true
  | _, _, .non => by simp [Dx.bnd]
  | _, _, .bl => by simp [Dx.bnd]
  | _, _, .int => by simp [Dx.bnd]
  | _, _, .str => by simp [Dx.bnd]
  | _, _, .scr _ => by simp [Dx.bnd]
  | _, _, .lst _ r => by simp only [Dx.bnd]; exact Reps.bnds r
  | _, _, .tup _ r => by simp only [Dx.bnd]; exact Reps.bnds r
  | _, _, .dk _ _ r => by simp only [Dx.bnd]; exact Reps.bnds r
  | _, _, .obj _ _ r => by simp only [Dx.bnd]; exact Reps.bnds r
  | _, _, .cell e => by simp only [Dx.bnd]; exact decide_eq_true (List.getElem?_eq_some_iff.mp e).1
  | _, _, .ty => by simp [Dx.bnd]
  | _, _, .cls => by simp [Dx.bnd]
  | _, _, .exn _ r => by simp only [Dx.bnd]; exact Rep.bnd r
theorem Reps.bnds : ∀ {v : List V} {d : List D}, Reps K A H v d → Dx.bnds A.length d = true
  | _, _, .nil => by simp [Dx.bnds]
  | _, _, .cons r t => by simp only [Dx.bnds, Rep.bnd r, Reps.bnds t]; rfl
end
mutual
theorem Rep.back {n : Nat} (hA : ∀ (j : Nat) (a : Addr), j < n → A[j]? = some a → A'[j]? = some a) (hH : ∀ a o, H a = some o → H' a = some o) : ∀ {v : V} {d : D}, Rep K A H v d → Dx.bnd n d = true → Rep K A' H' v d
  | _, _, .non, _ => .non
  | _, _, .bl, _ => .bl
  | _, _, .int, _ => .int
  | _, _, .str, _ => .str
  | _, _, .scr s, _ => .scr (sql_mono hH s)
  | _, _, .lst s r, h => .lst (hH _ _ s) (Reps.back hA hH r (by simpa only [Dx.bnd] using h))
  | _, _, .tup s r, h => .tup (sqt_mono hH s) (Reps.back hA hH r (by simpa only [Dx.bnd] using h))
  | _, _, .dk s e r, h => .dk (rd_mono hH s) e (Reps.back hA hH r (by simpa only [Dx.bnd] using h))
  | _, _, .obj s e r, h => .obj (hH _ _ s) e (Reps.back hA hH r (by simpa only [Dx.bnd] using h))
  | _, _, .cell e, h => .cell (hA _ _ (by simpa only [Dx.bnd, decide_eq_true_eq] using h) e)
  | _, _, .ty, _ => .ty
  | _, _, .cls, _ => .cls
  | _, _, .exn s r, h => .exn (hH _ _ s) (Rep.back hA hH r (by simpa only [Dx.bnd] using h))
theorem Reps.back {n : Nat} (hA : ∀ (j : Nat) (a : Addr), j < n → A[j]? = some a → A'[j]? = some a) (hH : ∀ a o, H a = some o → H' a = some o) : ∀ {v : List V} {d : List D}, Reps K A H v d → Dx.bnds n d = true → Reps K A' H' v d
  | _, _, .nil, _ => .nil
  | _, _, .cons r t, h => by
    simp only [Dx.bnds, Bool.and_eq_true] at h
    exact .cons (Rep.back hA hH r h.1) (Reps.back hA hH t h.2)
end
/-- what a store's cells speak of -/
theorem SR.bndC {s : Sto} (R : SR K A s H) : ∀ c ∈ s, Dx.bndC s.length c = true := fun c hc => by
  obtain ⟨j, hj, e⟩ := List.getElem_of_mem hc
  have hs : s[j]? = some c := by rw [List.getElem?_eq_getElem hj, e]
  have hjA : j < A.length := by rw [R.len]; exact hj
  have q := R.cells j c A[j] hs (List.getElem?_eq_getElem hjA)
  rw [← R.len]
  cases c with
  | lst xs => obtain ⟨_, _, r⟩ := q; exact r.bnds
  | dk ks xs => obtain ⟨_, _, _, r⟩ := q; exact r.bnds
  | dt ks xs => obtain ⟨_, _, _, r⟩ := q; exact r.bnds
  | ins C ns xs => obtain ⟨_, _, _, _, r⟩ := q; exact r.bnds
  | frz d => exact Rep.bnd q.1
/-- the cells behind n are given up: what they hold is then plain -/
theorem SR.drop {s1 ex : Sto} (R : SR K A (s1 ++ ex) H) (hb : ∀ c ∈ s1, Dx.bndC s1.length c = true) :
    SR K (A.take s1.length) s1 H ∧ (∀ a o, vis A (s1 ++ ex) H a = some o → vis (A.take s1.length) s1 H a = some o) ∧ (∀ (j : Nat) (a : Addr), j < s1.length → A[j]? = some a → (A.take s1.length)[j]? = some a) := by
  have hA : ∀ (j : Nat) (a : Addr), j < s1.length → A[j]? = some a → (A.take s1.length)[j]? = some a := fun j a hj e => by
    rw [List.getElem?_take, if_pos hj]; exact e
  have hA' : ∀ (j : Nat) (a : Addr), (A.take s1.length)[j]? = some a → j < s1.length ∧ A[j]? = some a := fun j a e => by
    rw [List.getElem?_take] at e
    split at e
    · exact ⟨by assumption, e⟩
    · cases e
  have hH : ∀ a o, vis A (s1 ++ ex) H a = some o → vis (A.take s1.length) s1 H a = some o := fun a o e => by
    obtain ⟨n, e⟩ := vis_some e
    rw [vis_not]
    · exact e
    · rintro ⟨j, h1, h2⟩
      obtain ⟨hj, h1⟩ := hA' j a h1
      exact n ⟨j, h1, by rw [List.getElem?_append_left hj]; exact h2⟩
  have hlen : (A.take s1.length).length = s1.length := by
    rw [List.length_take, R.len, List.length_append]; omega
  refine ⟨⟨hlen, fun i j a h1 h2 => R.nod i j a (hA' i a h1).2 (hA' j a h2).2, fun j c a hc ha => ?_⟩, hH, hA⟩
  obtain ⟨hj, ha⟩ := hA' j a ha
  have q := R.cells j c a (by rw [List.getElem?_append_left hj]; exact hc) ha
  have b := hb c (List.mem_of_getElem? hc)
  cases c with
  | lst xs => obtain ⟨vs, z, r⟩ := q; exact ⟨vs, z, r.back hA hH b⟩
  | dk ks xs => obtain ⟨vs, z, e, r⟩ := q; exact ⟨vs, z, e, r.back hA hH b⟩
  | dt ks xs => obtain ⟨vs, z, e, r⟩ := q; exact ⟨vs, z, e, r.back hA hH b⟩
  | ins C ns xs => obtain ⟨vs, fs, z, e, r⟩ := q; exact ⟨vs, fs, z, e, r.back hA hH b⟩
  | frz d => exact ⟨Rep.back hA hH q.1 b, q.2⟩
end

/-! ### functions -/
inductive Out where
  | ret (d : D)
  | exc (C : Addr) (p : D)
abbrev DFn := List D → Sto → Option (Out × Sto)
def spOf (K : PySem.W.Frag) (f : DFn) : Sp := fun vs H Q E => ∃ A s ds o s', SR K A s H ∧ Reps K A (vis A s H) vs ds ∧ f ds s = some (o, s') ∧ match o with
  | .ret r => ∀ v H' A', SR K A' s' H' → Le A s H A' s' H' → Rep K A' (vis A' s' H') v r → Q v H'
  | .exc C p => ∀ d pv H' A', SR K A' s' H' → Le A s H A' s' H' → H' d = some (.xd [(("value" : Str), pv)]) → Rep K A' (vis A' s' H') pv p → E (.ref C) (some d) H'
abbrev DefOk (P : Program) (w : World) (K : PySem.W.Frag) (mg : Str → Option Value) (base : Heap) (k : Nat) (f : Addr) (fd : FuncData) (ps : List Str) (den : DFn) : Prop :=
  FnOk P w K mg base (L2.CX P w) k f fd ps (spOf K den)
def dCall (f : DFn) (ds : DenL) : Den := fun env s => match ds env s with
  | some (xs, s1) => match f xs s1 with
    | some (.ret r, s2) => some (r, s2)
    | _ => none
  | none => none
section
variable {X : Cx} {x : Str} {p pos : Pos} {f : Addr} {fd : FuncData} {ps : List Str} {den : DFn} {k : Nat} {e : Expr} {es : List Expr} {ds : DenL} {CX : CXT}
theorem sp_call {A : List Addr} {s s1 : Sto} {H : Hp} {vs : List V} {xs : List D} {r : D} {Q : VK} {E : XK} (S : SR X.K A s H) (rs : Reps X.K A (vis A s H) vs xs) (e : den xs s = some (.ret r, s1))
    (q : ∀ v H' A', SR X.K A' s1 H' → Le A s H A' s1 H' → Rep X.K A' (vis A' s1 H') v r → Q v H') : spOf X.K den vs H Q E := ⟨A, s, xs, _, _, S, rs, e, q⟩
theorem tCall_imp : ∀ σ H Q, tD X.K (dCall den ds) σ H Q → tCall (spOf X.K den) [] E0 (tDA X.K ds) σ H Q := by
  rintro σ H Q ⟨A, s, env, z, s', R, e, k⟩
  unfold dCall at e
  split at e
  · rename_i xs s1 e1
    split at e
    · rename_i r s2 e2
      cases e
      refine tDA_mk R e1 fun vs H1 A1 S1 l1 r1 => ?_
      rw [List.append_nil]
      exact sp_call S1 r1 e2 fun v H2 A2 S2 l2 r2 => k v H2 A2 S2 (l1.trans l2) r2
    · cases e
  · cases e
theorem de_call (F : DefOk X.prog X.w X.K X.mg X.base k f fd ps den) (hr : Room k X.A) (hm : X.mg x = some (.ref f)) (hk : PySem.W.keepIn X.K (.ref f) = true) (hb : Binds X.K fd ps []) (ha : DA X (e :: es) ds) (hg : Gl X x := by rfl)
    (hd : (x == ("__debug__" : Str)) = false := by decide) (hs : starEach (e :: es) X.env = (false, eval e X.env) :: starEach es X.env := by rfl) (hpl : (backTo pos (starEach es X.env)).any (·.1) = false := by rfl) :
    DE X (.Call (.Name x p) (e :: es) [] pos) (dCall den ds) := ⟨pe_imp (pe_call F hr hg hm hk hb (dvs := []) .nil (E := E0) passL ha.pa hd hs hpl) tCall_imp⟩
/-! ### fields, properties -/
def getF (f : Str) : List Str → List D → Option D
  | n :: ns, v :: vs => if f == n then some v else getF f ns vs
  | _, _ => none
theorem lookup_getF {K : PySem.W.Frag} {A : List Addr} {H : Hp} {f : Str} : ∀ {fs : List (Str × V)} {ds : List D} {d : D}, Reps K A H (fs.map (·.2)) ds → getF f (fs.map (·.1)) ds = some d → ∃ v, fs.lookup f = some v ∧ Rep K A H v d
  | [], _, _, _, e => by simp [getF] at e
  | (n, v) :: fs, _, _, .cons r t, e => by
    simp only [List.map_cons, getF] at e
    by_cases h : (f == n) = true
    · rw [if_pos h] at e
      cases e
      exact ⟨v, by simp [List.lookup, h], r⟩
    · rw [if_neg h] at e
      obtain ⟨v', h1, h2⟩ := lookup_getF t e
      refine ⟨v', ?_, h2⟩
      have h' : (f == n) = false := by simpa using h
      simp only [List.lookup, h']
      exact h1
def dFld (C : Addr) (f : Str) (da : Den) : Den := fun env s => match da env s with
  | some (x, s1) => match vw s1 x with
    | .obj C' ns vs => if C' = C then match getF f ns vs with
      | some d => some (fz s1 d, s1)
      | none => none
      else none
    | _ => none
  | none => none
variable {a : Expr} {da : Den} {C : Addr} {fn : Str}
theorem de_fld (c : Cls X.K C) (n : NoAttr X.K C fn) (ha : DE X a da) (hb : attributeBase a fn X.env (eval a X.env) = eval a X.env := by rfl) : DE X (.Attribute a fn pos) (dFld C fn da) := by
  refine ⟨pe_imp (pe_fld ha.pe hb) ?_⟩
  rintro σ H Q ⟨A, s, env, z, s', R, e, k⟩
  unfold dFld at e
  split at e
  · rename_i x s1 e1
    split at e
    · rename_i C' ns vs hv
      split at e
      · rename_i hC
        subst hC
        split at e
        · rename_i d hd
          cases e
          refine tD_mk R e1 fun v H1 A1 S1 l1 r1 => ?_
          have sn := r1.seen S1
          rw [hv] at sn
          obtain ⟨a, dx, fs, rfl, ho, hn, rs⟩ := sn
          subst hn
          obtain ⟨w, h1, h2⟩ := lookup_getF rs hd
          exact ⟨a, _, dx, fs, w, rfl, ho, c, n, h1, k w H1 A1 S1 l1 (h2.fz S1)⟩
        · cases e
      · cases e
    · cases e
  · cases e
/-- a method's call, a property: the object, then the arguments -/
def dMeth (C : Addr) (f : DFn) (da : Den) (ds : DenL) : Den := fun env s => match da env s with
  | some (x, s1) => match vw s1 x with
    | .obj C' _ _ => if C' = C then match ds env s1 with
      | some (xs, s2) => match f (x :: xs) s2 with
        | some (.ret r, s3) => some (r, s3)
        | _ => none
      | none => none
      else none
    | _ => none
  | none => none
theorem de_prop {pr g : Addr} (c : Cls X.K C) (hp : PropOf X.K C fn pr g) (F : DefOk X.prog X.w X.K X.mg X.base k g fd ps den) (hr : Room (k + 1) X.A) (hb : Binds X.K fd ps []) (ha : DE X a da)
    (hab : attributeBase a fn X.env (eval a X.env) = eval a X.env := by rfl) : DE X (.Attribute a fn pos) (dMeth C den da dNil) := by
  refine ⟨pe_imp (pe_prop ha.pe c hp F hr hb (dvs := []) .nil (E := E0) passL hab) ?_⟩
  rintro σ H Q ⟨A, s, env, z, s', R, e, k⟩
  unfold dMeth dNil at e
  split at e
  · rename_i x s1 e1
    split at e
    · rename_i C' ns vs hv
      split at e
      · rename_i hC
        subst hC
        simp only at e
        split at e
        · rename_i r s3 e3
          cases e
          refine tD_mk R e1 fun v H1 A1 S1 l1 r1 => ?_
          have sn := r1.seen S1
          rw [hv] at sn
          obtain ⟨a, dx, fs, rfl, ho, hn, rs⟩ := sn
          exact ⟨a, dx, fs, rfl, ho, sp_call S1 (.cons r1 .nil) e3 fun v H2 A2 S2 l2 r2 => k v H2 A2 S2 (l1.trans l2) r2⟩
        · cases e
      · cases e
    · cases e
  · cases e
end
end Dx
end
section
namespace Dx
open PySem PySem.Spec PyProof.Rows L2

section
variable {X : Cx} {a b c e o : Expr} {es : List Expr} {da db dc : Den} {ds : DenL} {pos : Pos}
/-! ### displays -/
def dTup (ds : DenL) : Den := fun env s => match ds env s with
  | some (xs, s1) => if xs.length ≤ sizeLine then some (.tup xs, s1) else none
  | none => none
theorem de_tup {x1} (h : DA X es ds) : DE X (.Tuple es x1 pos) (dTup ds) := by
  refine ⟨pe_imp (pe_tup h.pa) ?_⟩
  rintro σ H Q ⟨A, s, env, z, s', R, e, k⟩
  unfold dTup at e
  split at e
  · rename_i xs s1 e1
    split at e
    · rename_i hz
      cases e
      refine tDA_mk R e1 fun vs H1 A1 S1 l1 r1 => ⟨by rw [r1.length]; exact hz, fun p hp => ?_⟩
      obtain ⟨S2, l2⟩ := S1.ex (ex_upd (o := .tup vs) hp)
      refine k _ _ A1 S2 (l1.trans l2) (.tup (.inl (.inl ?_)) (r1.le l2))
      rw [vis_not (S1.notHid hp)]
      exact upd_same
    · cases e
  · cases e
def dLst (ds : DenL) : DenL := fun env s => match ds env s with
  | some (xs, s1) => if xs.length ≤ sizeLine then some (xs, s1) else none
  | none => none
theorem df_lst (h : DA X es ds) : DF X (.List es pos) (dLst ds) := by
  refine ⟨pe_imp (pe_lst h.pa) ?_⟩
  rintro σ H Q ⟨A, s, env, z, s', R, e, k⟩
  unfold dLst at e
  split at e
  · rename_i xs s1 e1
    split at e
    · rename_i hz
      cases e
      refine tDA_mk R e1 fun vs H1 A1 S1 l1 r1 => ⟨by rw [r1.length]; exact hz, fun p hp => ?_⟩
      have ed : del (upd H1 p (.lst vs)) p = H1 := del_upd hp
      exact k p vs _ A1 (by rw [ed]; exact S1) (by rw [ed]; exact l1) upd_same (by rw [ed]; exact r1)
    · cases e
  · cases e
theorem de_lst (h : DA X es ds) : DE X (.List es pos) (dData (dLst ds)) := de_df (df_lst h)

/-! ### subscripts -/
def keyD : D → Option Key | .int i => some (.inl i) | .str x => some (.inr (S x)) | _ => none
def getK (k : Key) : List Key → List D → Option D
  | n :: ns, v :: vs => if n = k then some v else getK k ns vs
  | _, _ => none
def idxS : G2
  | .lst xs, .int i => atI xs i
  | .tup xs, .int i => atI xs i
  | .scr ns, .int i => (atI ns i).map D.int
  | .str z, .int i => if z.length ≤ sizeLine then (atI z i).map fun c => .str [c] else none
  | _, _ => none
def idxK : G2
  | .dk ks vs, k => match keyD k with | some k => getK k ks vs | none => none
  | _, _ => none
def idxD : G2 := orG idxS idxK
theorem atI_map {α β : Type} (f : α → β) (xs : List α) (i : Int) : atI (xs.map f) i = (atI xs i).map f := by
  unfold atI
  rw [List.length_map]
  cases ixN xs.length i with
  | none => rfl
  | some j => simp
theorem atI_rep {K : PySem.W.Frag} {A : List Addr} {H : Hp} {vs : List V} {xs : List D} {i : Int} {d : D} (r : Reps K A H vs xs) (e : atI xs i = some d) : ∃ v, atI vs i = some v ∧ Rep K A H v d := by
  unfold atI at e ⊢
  rw [r.length]
  cases q : ixN xs.length i with
  | none => rw [q] at e; cases e
  | some j => rw [q] at e; exact r.get e
theorem opd_idxS : OpD X (rIx X.K) idxS :=
  ⟨fun A s H x y a b z S0 ra rb e Q k => by
    cases a <;> cases b <;> simp [idxS] at e
    · -- str
      obtain ⟨hz, c, e, ez⟩ := e
      subst ez
      refine .inr (.inr ⟨_, _, c, ra, rb, by rw [S_length]; exact hz, by rw [S_list]; exact e, ?_⟩)
      have e2 : (⟨#[c]⟩ : Str) = S [c] := by simp [S]
      rw [e2]
      exact k _ H (fun _ _ h => h) .str
    · obtain ⟨n, e, ez⟩ := e
      subst ez
      obtain ⟨p, rfl, h⟩ := ra
      exact .inl ⟨p, _, _, _, rfl, rb, h, (by rw [atI_map, e]; rfl), k _ H (fun _ _ h => h) .int⟩
    · obtain ⟨p, vs, rfl, h, r⟩ := ra
      obtain ⟨v, h1, h2⟩ := atI_rep r e
      exact .inl ⟨p, vs, _, v, rfl, rb, SqL.of h, h1, k _ H (fun _ _ h => h) h2⟩
    · obtain ⟨p, vs, rfl, h, r⟩ := ra
      obtain ⟨v, h1, h2⟩ := atI_rep r e
      exact .inr (.inl ⟨p, vs, _, v, rfl, rb, h, h1, k _ H (fun _ _ h => h) h2⟩)⟩
theorem key_V {K : PySem.W.Frag} {A : List Addr} {s : Sto} {H : Hp} {y : V} {b : D} {k : Key} (r : Seen K A s H y b) (e : keyD b = some k) : y = kV k := by
  cases b <;> simp [keyD] at e <;> subst e <;> exact r
theorem getK_V {K : PySem.W.Frag} {A : List Addr} {H : Hp} {k : Key} : ∀ {kvs : List (Key × V)} {ds : List D} {d : D}, Reps K A H (kvs.map (·.2)) ds → getK k (kvs.map (·.1)) ds = some d → ∃ v, valV kvs k = some v ∧ Rep K A H v d
  | [], _, _, _, e => by simp [getK] at e
  | (n, v) :: fs, _, _, .cons r t, e => by
    simp only [List.map_cons, getK] at e
    by_cases h : n = k
    · rw [if_pos h] at e
      cases e
      exact ⟨v, by simp [valV, List.find?_cons, h], r⟩
    · rw [if_neg h] at e
      obtain ⟨v', h1, h2⟩ := getK_V t e
      refine ⟨v', ?_, h2⟩
      unfold valV at h1 ⊢
      rw [List.find?_cons, decide_eq_false h]
      exact h1
theorem opd_idxK : OpD X (fun x y H Q => ∃ a v, x = .ref a ∧ DGet H a y (some v) ∧ Q v H) idxK :=
  ⟨fun A s H x y a b z S0 ra rb e Q k => by
    unfold idxK at e
    split at e
    · split at e
      · rename_i q
        obtain ⟨p, kvs, rfl, h, hk, r⟩ := ra
        subst hk
        obtain ⟨v, h1, h2⟩ := getK_V r e
        refine ⟨p, v, rfl, .inl ⟨kvs, _, h, key_V rb q, h1.symm⟩, k _ H (fun _ _ h => h) h2⟩
      · cases e
    · cases e⟩
theorem pe_or {e : Expr} {t t' : TE} (h : PE X e t) (h' : PE X e t') : PE X e (fun σ H Q => t σ H Q ∨ t' σ H Q) := ⟨fun pins s σ H Q I q => q.elim (fun q => h.run pins s σ H Q I q) fun q => h'.run pins s σ H Q I q⟩
/-- one of two rules, by the values -/
theorem tOp_imp2 {r r' : R2} {g g' : G2} (hg : OpD X r g) (hg' : OpD X r' g') : ∀ σ H Q, tD X.K (dOp (orG g g') da db) σ H Q → tOp r (tD X.K da) (tD X.K db) σ H Q ∨ tOp r' (tD X.K da) (tD X.K db) σ H Q := by
  rintro σ H Q ⟨A, s, env, z, s', R, e, k⟩
  unfold dOp at e
  split at e
  · rename_i x s1 e1
    split at e
    · rename_i y s2 e2
      split at e
      · rename_i z' eg
        cases e
        unfold orG at eg
        split at eg
        · rename_i w q
          cases eg
          exact .inl (tOp_imp hg σ H Q ⟨A, s, env, _, _, R, by unfold dOp; rw [e1]; simp only; rw [e2]; simp only; rw [q], k⟩)
        · exact .inr (tOp_imp hg' σ H Q ⟨A, s, env, _, _, R, by unfold dOp; rw [e1]; simp only; rw [e2]; simp only; rw [eg], k⟩)
      · cases e
    · cases e
  · cases e
theorem de_idx {k : Nat} (hr : Room k X.A) (ha : DE X a da) (hb : DE X b db) (hs : PlainIx b := by intro _ _; rfl) : DE X (.Subscript a b pos) (dOp idxD da db) :=
  ⟨pe_imp (pe_or (pe_ix ix_seq ha.pe hb.pe hs) (pe_dget (hu_of hr) ha.pe hb.pe hs)) fun σ H Q h => tOp_imp2 opd_idxS opd_idxK σ H Q h⟩

/-! ### slices -/
abbrev DenO := DEnv → Sto → Option (Option Int × Sto)
def tDO (K : PySem.W.Frag) (d : DenO) : TO := fun σ H Q => ∃ A s env r s', Rl K A s env σ H ∧ d env s = some (r, s') ∧
  ∀ H' A', SR K A' s' H' → Le A s H A' s' H' → Q r H'
structure DO (X : Cx) (e : Option Expr) (d : DenO) : Prop where
  po : PO X e (tDO X.K d)
theorem po_imp {e : Option Expr} {t t' : TO} (h : PO X e t) (k : ∀ σ H Q, t' σ H Q → t σ H Q) : PO X e t' := ⟨fun pins s σ H Q I q => h.run pins s σ H Q I (k σ H Q q)⟩
def dNo : DenO := fun _ s => some (none, s)
def dSo (d : Den) : DenO := fun env s => match d env s with
  | some (.int i, s1) => some (some i, s1)
  | _ => none
theorem do_none : DO X none dNo := by
  refine ⟨po_imp po_none ?_⟩
  rintro σ H Q ⟨A, s, env, z, s', R, e, k⟩
  cases e
  exact k H A R.sr .refl
theorem do_some (ha : DE X a da) : DO X (some a) (dSo da) := by
  refine ⟨po_imp (po_some ha.pe) ?_⟩
  rintro σ H Q ⟨A, s, env, z, s', R, e, k⟩
  unfold dSo at e
  split at e
  · rename_i i s1 e1
    cases e
    refine tD_mk R e1 fun v H1 A1 S1 l1 r1 => ?_
    cases r1
    exact ⟨i, rfl, k H1 A1 S1 l1⟩
  · cases e
def cut {α : Type} (xs : List α) (lo hi : Option Int) : List α := (xs.drop (HT.sIx xs.length 0 lo)).take (HT.sIx xs.length xs.length hi - HT.sIx xs.length 0 lo)
theorem cut_S (z : List Nat) (lo hi : Option Int) : cutS (S z) lo hi = S (cut z lo hi) := by
  unfold cutS cut
  rw [S_list, S_length]; rfl
theorem cut_rep {K : PySem.W.Frag} {A : List Addr} {H : Hp} {vs : List V} {xs : List D} (r : Reps K A H vs xs) (lo hi : Option Int) : Reps K A H (cutV vs lo hi) (cut xs lo hi) := by
  unfold cutV cut
  rw [r.length]
  exact (r.drop _).take _
def slcS (x : D) (lo hi : Option Int) : Option D := match x with
  | .str z => if z.length ≤ sizeLine then some (.str (cut z lo hi)) else none
  | .tup xs => if HT.sIx xs.length 0 lo = 0 ∧ HT.sIx xs.length xs.length hi = xs.length then none else some (.tup (cut xs lo hi))
  | _ => none
def slcL (x : D) (lo hi : Option Int) : Option (List D) := match x with
  | .lst xs => some (cut xs lo hi)
  | .scr ns => some ((cut ns lo hi).map D.int)
  | _ => none
def dSlc (g : D → Option Int → Option Int → Option D) (da : Den) (dl dh : DenO) : Den := fun env s => match da env s with
  | some (x, s1) => match dl env s1 with
    | some (lo, s2) => match dh env s2 with
      | some (hi, s3) => match g (vw s3 x) lo hi with
        | some z => some (z, s3)
        | none => none
      | none => none
    | none => none
  | none => none
def dSlcF (g : D → Option Int → Option Int → Option (List D)) (da : Den) (dl dh : DenO) : DenL := fun env s => match da env s with
  | some (x, s1) => match dl env s1 with
    | some (lo, s2) => match dh env s2 with
      | some (hi, s3) => match g (vw s3 x) lo hi with
        | some z => some (z, s3)
        | none => none
      | none => none
    | none => none
  | none => none
def slcD (x : D) (lo hi : Option Int) : Option D := match slcS x lo hi with
  | some z => some z
  | none => (slcL x lo hi).map D.lst
variable {dl dh : DenO} {lo hi : Option Expr} {p2 : Pos}
theorem ints_rep {K : PySem.W.Frag} {A : List Addr} {H : Hp} : ∀ ns : List Int, Reps K A H (ns.map V.int) (ns.map D.int)
  | [] => .nil
  | _ :: ns => .cons .int (ints_rep ns)
theorem slcF_imp : ∀ σ H Q, tDF X.K (dSlcF slcL da dl dh) σ H Q → tSl (rSlL X.K) (tD X.K da) (tDO X.K dl) (tDO X.K dh) σ H Q := by
  rintro σ H Q ⟨A, s, env, z, s', R, e, k⟩
  unfold dSlcF at e
  split at e
  · rename_i x s1 e1
    split at e
    · rename_i lo s2 e2
      split at e
      · rename_i hi s3 e3
        split at e
        · rename_i z' eg
          cases e
          refine tD_mk R e1 fun v H1 A1 S1 l1 r1 => ?_
          refine ⟨A1, s1, env, lo, s2, R.le S1 l1, e2, fun H2 A2 S2 l2 => ?_⟩
          refine ⟨A2, s2, env, hi, _, (R.le S1 l1).le S2 l2, e3, fun H3 A3 S3 l3 => ?_⟩
          have sn := (r1.le (l2.trans l3)).seen S3
          generalize hx : vw _ x = xv at eg sn
          unfold slcL at eg
          split at eg
          · cases eg
            obtain ⟨p, vs, rfl, h, r⟩ := sn
            refine ⟨p, vs, rfl, SqL.of h, fun q hq => ?_⟩
            have ed : del (upd H3 q (.lst (cutV vs lo hi))) q = H3 := del_upd hq
            exact k q _ _ A3 (by rw [ed]; exact S3) (by rw [ed]; exact l1.trans (l2.trans l3)) upd_same (by rw [ed]; exact cut_rep r lo hi)
          · rename_i ns
            cases eg
            obtain ⟨p, rfl, h⟩ := sn
            refine ⟨p, _, rfl, h, fun q hq => ?_⟩
            have ec : cutV (ns.map V.int) lo hi = (cut ns lo hi).map V.int := by
              unfold cutV cut
              rw [List.length_map, List.map_take, List.map_drop]
            rw [ec]
            have ed : del (upd H3 q (.lst ((cut ns lo hi).map V.int))) q = H3 := del_upd hq
            exact k q _ _ A3 (by rw [ed]; exact S3) (by rw [ed]; exact l1.trans (l2.trans l3)) upd_same (by rw [ed]; exact ints_rep _)
          · cases eg
        · cases e
      · cases e
    · cases e
  · cases e
theorem df_slc (ha : DE X a da) (hl : DO X lo dl) (hh : DO X hi dh) : DF X (.Subscript a (.Slice lo hi none p2) pos) (dSlcF slcL da dl dh) := ⟨pe_imp (pe_slice sl_list ha.pe hl.po hh.po) slcF_imp⟩
theorem slcS_imp : ∀ σ H Q, tD X.K (dSlc slcS da dl dh) σ H Q → tSl (fun x lo hi H Q => rSlS x lo hi H Q ∨ rSlT X.K x lo hi H Q) (tD X.K da) (tDO X.K dl) (tDO X.K dh) σ H Q := by
  rintro σ H Q ⟨A, s, env, z, s', R, e, k⟩
  unfold dSlc at e
  split at e
  · rename_i x s1 e1
    split at e
    · rename_i lo s2 e2
      split at e
      · rename_i hi s3 e3
        split at e
        · rename_i z' eg
          cases e
          refine tD_mk R e1 fun v H1 A1 S1 l1 r1 => ?_
          refine ⟨A1, s1, env, lo, s2, R.le S1 l1, e2, fun H2 A2 S2 l2 => ?_⟩
          refine ⟨A2, s2, env, hi, _, (R.le S1 l1).le S2 l2, e3, fun H3 A3 S3 l3 => ?_⟩
          have sn := (r1.le (l2.trans l3)).seen S3
          generalize hx : vw _ x = xv at eg sn
          unfold slcS at eg
          split at eg
          · rename_i w
            split at eg
            · rename_i hz
              cases eg
              have sn : v = .str (S w) := sn
              subst sn
              refine .inl ⟨S w, rfl, by rw [S_length]; exact hz, ?_⟩
              rw [cut_S]
              exact k _ H3 A3 S3 (l1.trans (l2.trans l3)) .str
            · cases eg
          · rename_i xs
            split at eg
            · cases eg
            · rename_i hn
              cases eg
              obtain ⟨p, vs, rfl, h, r⟩ := sn
              refine .inr ⟨p, vs, rfl, h, by rw [r.length]; exact hn, fun q hq => ?_⟩
              obtain ⟨S4, l4⟩ := S3.ex (ex_upd (o := .tup (cutV vs lo hi)) hq)
              refine k _ _ A3 S4 (l1.trans (l2.trans (l3.trans l4))) (.tup (.inl (.inl ?_)) ((cut_rep r lo hi).le l4))
              rw [vis_not (S3.notHid hq)]
              exact upd_same
          · cases eg
        · cases e
      · cases e
    · cases e
  · cases e
theorem de_slc (ha : DE X a da) (hl : DO X lo dl) (hh : DO X hi dh) : DE X (.Subscript a (.Slice lo hi none p2) pos) (dSlc slcD da dl dh) := by
  refine ⟨pe_imp (pe_or (pe_slice (sl_str.or sl_tup) ha.pe hl.po hh.po) (de_df (df_slc ha hl hh)).pe) ?_⟩
  rintro σ H Q ⟨A, s, env, z, s', R, e, k⟩
  unfold dSlc at e
  split at e
  · rename_i x s1 e1
    split at e
    · rename_i lo s2 e2
      split at e
      · rename_i hi s3 e3
        split at e
        · rename_i z' eg
          cases e
          unfold slcD at eg
          split at eg
          · rename_i w q
            cases eg
            exact .inl (slcS_imp σ H Q ⟨A, s, env, _, _, R, by unfold dSlc; rw [e1]; simp only; rw [e2]; simp only; rw [e3]; simp only; rw [q], k⟩)
          · cases q : slcL (vw _ x) lo hi with
            | none => rw [q] at eg; cases eg
            | some zs =>
              rw [q] at eg
              cases eg
              exact .inr ⟨A, s, env, _, _, R, by unfold dData dSlcF; rw [e1]; simp only; rw [e2]; simp only; rw [e3]; simp only; rw [q], k⟩
        · cases e
      · cases e
    · cases e
  · cases e
end
end Dx
end
section
namespace Dx
open PySem PySem.Spec PyProof.Rows L2

/-! ### built-in functions by values -/
abbrev SeenL (K : PySem.W.Frag) (A : List Addr) (s : Sto) (H : Hp) : List V → List D → Prop := Paired (Seen K A s H)
theorem Reps.seen {K : PySem.W.Frag} {A : List Addr} {s : Sto} {H : Hp} (R : SR K A s H) : ∀ {vs : List V} {ds : List D}, Reps K A (vis A s H) vs ds → SeenL K A s H vs (ds.map (vw s))
  | _, _, .nil => .nil
  | _, _, .cons r t => .cons (r.seen R) (Reps.seen R t)
structure CallD (X : Cx) (r : List V → Hp → VK → Prop) (g : List D → Option D) : Prop where
  ok : ∀ A s H vs ds z, SR X.K A s H → SeenL X.K A s H vs ds → g ds = some z → ∀ Q : VK,
    (∀ w H', (∀ a o, H a = some o → H' a = some o) → Rep X.K A (vis A s H') w z → Q w H') → r vs H Q
structure CallF (X : Cx) (r : List V → Hp → VK → Prop) (g : List D → Option (List D)) : Prop where
  ok : ∀ A s H vs ds z, SR X.K A s H → SeenL X.K A s H vs ds → g ds = some z → ∀ Q : VK,
    (∀ p ws, H p = none → Reps X.K A (vis A s H) ws z → Q (.ref p) (upd H p (.lst ws))) → r vs H Q
def dCB (g : List D → Option D) (ds : DenL) : Den := fun env s => match ds env s with
  | some (xs, s1) => match g (xs.map (vw s1)) with
    | some z => some (z, s1)
    | none => none
  | none => none
def dCBF (g : List D → Option (List D)) (ds : DenL) : DenL := fun env s => match ds env s with
  | some (xs, s1) => match g (xs.map (vw s1)) with
    | some z => some (z, s1)
    | none => none
  | none => none
section
variable {X : Cx} {a b c e o : Expr} {es : List Expr} {da db dc : Den} {ds : DenL} {pos p : Pos} {x : Str} {id T : String} {r r' : List V → Hp → VK → Prop} {g g' : List D → Option D}
theorem tCB_imp (hg : CallD X r g) : ∀ σ H Q, tD X.K (dCB g ds) σ H Q → tCB r (tDA X.K ds) σ H Q := by
  rintro σ H Q ⟨A, s, env, z, s', R, e, k⟩
  unfold dCB at e
  split at e
  · rename_i xs s1 e1
    split at e
    · rename_i z' eg
      cases e
      refine tDA_mk R e1 fun vs H1 A1 S1 l1 r1 => ?_
      refine hg.ok A1 _ H1 vs _ _ S1 (r1.seen S1) eg _ fun w H2 x2 rw => ?_
      obtain ⟨S2, l2⟩ := S1.ex x2
      exact k w H2 A1 S2 (l1.trans l2) rw
    · cases e
  · cases e
theorem tCBF_imp {g : List D → Option (List D)} (hg : CallF X r g) : ∀ σ H Q, tDF X.K (dCBF g ds) σ H Q → tCB r (tDA X.K ds) σ H Q := by
  rintro σ H Q ⟨A, s, env, z, s', R, e, k⟩
  unfold dCBF at e
  split at e
  · rename_i xs s1 e1
    split at e
    · rename_i z' eg
      cases e
      refine tDA_mk R e1 fun vs H1 A1 S1 l1 r1 => ?_
      refine hg.ok A1 _ H1 vs _ _ S1 (r1.seen S1) eg _ fun p ws hp rw => ?_
      have ed : del (upd H1 p (.lst ws)) p = H1 := del_upd hp
      exact k p ws _ A1 (by rw [ed]; exact S1) (by rw [ed]; exact l1) upd_same (by rw [ed]; exact rw)
    · cases e
  · cases e
theorem CallD.or (h : CallD X r g) (h' : CallD X r' g') : CallD X (fun x H Q => r x H Q ∨ r' x H Q) (fun a => match g a with | some z => some z | none => g' a) :=
  ⟨fun A s H vs ds z S ra e Q k => by
    cases q : g ds with
    | some w =>
      simp only [q] at e
      cases e
      exact .inl (h.ok A s H vs ds _ S ra q Q k)
    | none =>
      simp only [q] at e
      exact .inr (h'.ok A s H vs ds _ S ra e Q k)⟩
theorem CallF.data {g : List D → Option (List D)} (h : CallF X r g) : CallD X r (fun a => (g a).map D.lst) :=
  ⟨fun A s H vs ds z S ra e Q k => by
    cases q : g ds with
    | none => rw [q] at e; cases e
    | some zs =>
      rw [q] at e
      cases e
      refine h.ok A s H vs ds zs S ra q Q fun p ws hp r => ?_
      have ex : ∀ a o, H a = some o → upd H p (.lst ws) a = some o := ex_upd hp
      refine k (.ref p) _ ex (.lst ?_ (r.le (S.ex ex).2))
      rw [vis_not (S.notHid hp)]
      exact upd_same⟩
theorem de_bltn (hc : CallR X (.builtin id) r) (hg : CallD X r g) (hv : bootBuiltins x = some (.builtin id)) (hm : X.mg x = none) (ha : DA X (e :: es) ds) (hgl : Gl X x := by rfl) (hn : x ≠ "__name__" := by decide) (hdb : (x == ("__debug__" : Str)) = false := by decide)
    (he : starEach (e :: es) X.env = (false, eval e X.env) :: starEach es X.env := by rfl) (hpl : (backTo pos (starEach es X.env)).any (·.1) = false := by rfl) : DE X (.Call (.Name x p) (e :: es) [] pos) (dCB g ds) :=
  ⟨pe_imp (pe_callB hc hgl hm hv ha.pa hn hdb he hpl) (tCB_imp hg)⟩
theorem de_bty (hc : CallR X (.type T) r) (hg : CallD X r g) (hv : bootBuiltins x = some (.type T)) (hm : X.mg x = none) (ha : DA X (e :: es) ds) (hgl : Gl X x := by rfl) (hn : x ≠ "__name__" := by decide) (hdb : (x == ("__debug__" : Str)) = false := by decide)
    (he : starEach (e :: es) X.env = (false, eval e X.env) :: starEach es X.env := by rfl) (hpl : (backTo pos (starEach es X.env)).any (·.1) = false := by rfl) : DE X (.Call (.Name x p) (e :: es) [] pos) (dCB g ds) :=
  ⟨pe_imp (pe_callTy hc hgl hm hv ha.pa hn hdb he hpl) (tCB_imp hg)⟩
theorem df_bltn {g : List D → Option (List D)} (hc : CallR X (.builtin id) r) (hg : CallF X r g) (hv : bootBuiltins x = some (.builtin id)) (hm : X.mg x = none) (ha : DA X (e :: es) ds) (hgl : Gl X x := by rfl) (hn : x ≠ "__name__" := by decide) (hdb : (x == ("__debug__" : Str)) = false := by decide)
    (he : starEach (e :: es) X.env = (false, eval e X.env) :: starEach es X.env := by rfl) (hpl : (backTo pos (starEach es X.env)).any (·.1) = false := by rfl) : DF X (.Call (.Name x p) (e :: es) [] pos) (dCBF g ds) :=
  ⟨pe_imp (pe_callB hc hgl hm hv ha.pa hn hdb he hpl) (tCBF_imp hg)⟩
theorem df_bty {g : List D → Option (List D)} (hc : CallR X (.type T) r) (hg : CallF X r g) (hv : bootBuiltins x = some (.type T)) (hm : X.mg x = none) (ha : DA X (e :: es) ds) (hgl : Gl X x := by rfl) (hn : x ≠ "__name__" := by decide) (hdb : (x == ("__debug__" : Str)) = false := by decide)
    (he : starEach (e :: es) X.env = (false, eval e X.env) :: starEach es X.env := by rfl) (hpl : (backTo pos (starEach es X.env)).any (·.1) = false := by rfl) : DF X (.Call (.Name x p) (e :: es) [] pos) (dCBF g ds) :=
  ⟨pe_imp (pe_callTy hc hgl hm hv ha.pa hn hdb he hpl) (tCBF_imp hg)⟩
theorem seen1 {K : PySem.W.Frag} {A : List Addr} {s : Sto} {H : Hp} {vs : List V} {d : D} (h : SeenL K A s H vs [d]) : ∃ v, vs = [v] ∧ Seen K A s H v d := by
  cases h with
  | cons r t => cases t; exact ⟨_, rfl, r⟩
theorem seen2 {K : PySem.W.Frag} {A : List Addr} {s : Sto} {H : Hp} {vs : List V} {d e : D} (h : SeenL K A s H vs [d, e]) : ∃ v w, vs = [v, w] ∧ Seen K A s H v d ∧ Seen K A s H w e := by
  cases h with
  | cons r t => cases t with | cons r2 t => cases t; exact ⟨_, _, rfl, r, r2⟩
/-! len -/
def lenG : List D → Option D
  | [.str x] => if x.length ≤ sizeLine then some (.int x.length) else none
  | [.lst xs] => some (.int xs.length)
  | [.tup xs] => some (.int xs.length)
  | [.scr xs] => some (.int xs.length)
  | _ => none
theorem calld_len : CallD X (fun xs H Q => ∃ x n, xs = [x] ∧ LenV X.K x H n ∧ Q (.int n) H) lenG :=
  ⟨fun A s H vs ds z S0 ra e Q k => by
    unfold lenG at e
    split at e
    · split at e
      · rename_i x hz
        cases e
        obtain ⟨v, rfl, r⟩ := seen1 ra
        have r : v = .str (S x) := r
        subst r
        exact ⟨_, x.length, rfl, ⟨by rw [S_length]; exact hz, by rw [S_length]⟩, k _ H (fun _ _ h => h) .int⟩
      · cases e
    · cases e
      obtain ⟨v, rfl, a, ws, rfl, h, r⟩ := seen1 ra
      exact ⟨_, _, rfl, .inl ⟨ws, SqL.of h, r.length.symm⟩, k _ H (fun _ _ h => h) .int⟩
    · cases e
      obtain ⟨v, rfl, a, ws, rfl, h, r⟩ := seen1 ra
      exact ⟨_, _, rfl, .inr ⟨ws, h, r.length.symm⟩, k _ H (fun _ _ h => h) .int⟩
    · rename_i xs
      cases e
      obtain ⟨v, rfl, a, rfl, h⟩ := seen1 ra
      exact ⟨_, _, rfl, .inl ⟨_, h, by rw [List.length_map]⟩, k _ H (fun _ _ h => h) .int⟩
    · cases e⟩
theorem de_len (hm : X.mg "len" = none) (ha : DA X (e :: es) ds) (hgl : Gl X "len" := by rfl)
    (he : starEach (e :: es) X.env = (false, eval e X.env) :: starEach es X.env := by rfl) (hpl : (backTo pos (starEach es X.env)).any (·.1) = false := by rfl) : DE X (.Call (.Name "len" p) (e :: es) [] pos) (dCB lenG ds) := de_bltn call_len calld_len (by decide +kernel) hm ha hgl (by decide) (by decide) he hpl
/-! int -/
def intG : List D → Option D
  | [.int i] => some (.int i)
  | [.bl k] => some (.int (if k then 1 else 0))
  | [.str x] => if x.length ≤ 640 then (PySem.intText? (S x)).map D.int else none
  | _ => none
def rIntA : List V → Hp → VK → Prop := fun xs H Q => ((∃ i, xs = [.int i] ∧ Q (.int i) H) ∨ ∃ k, xs = [.bl k] ∧ Q (.int (if k then 1 else 0)) H) ∨ (∃ a n, xs = [.str a] ∧ PySem.intText? a = some n ∧ a.length ≤ 640 ∧ Q (.int n) H)
theorem calld_int : CallD X rIntA intG :=
  ⟨fun A s H vs ds z S0 ra e Q k => by
    unfold intG at e
    split at e
    · cases e
      obtain ⟨v, rfl, r⟩ := seen1 ra
      exact .inl (.inl ⟨_, by rw [show v = _ from r], k _ H (fun _ _ h => h) .int⟩)
    · cases e
      obtain ⟨v, rfl, r⟩ := seen1 ra
      exact .inl (.inr ⟨_, by rw [show v = _ from r], k _ H (fun _ _ h => h) .int⟩)
    · split at e
      · rename_i x hz
        obtain ⟨v, rfl, r⟩ := seen1 ra
        cases q : PySem.intText? (S x) with
        | none => rw [q] at e; cases e
        | some n =>
          rw [q] at e
          cases e
          exact .inr ⟨S x, n, by rw [show v = _ from r], q, by rw [S_length]; exact hz, k _ H (fun _ _ h => h) .int⟩
      · cases e
    · cases e⟩
theorem de_intc (hm : X.mg "int" = none) (ha : DA X (e :: es) ds) (hgl : Gl X "int" := by rfl)
    (he : starEach (e :: es) X.env = (false, eval e X.env) :: starEach es X.env := by rfl) (hpl : (backTo pos (starEach es X.env)).any (·.1) = false := by rfl) : DE X (.Call (.Name "int" p) (e :: es) [] pos) (dCB intG ds) := de_bty (call_int1.or call_int_str) calld_int (by decide +kernel) hm ha hgl (by decide) (by decide) he hpl
/-! list(x) -/
def listG : List D → Option (List D)
  | [.lst xs] => some xs
  | [.tup xs] => some xs
  | [.scr ns] => some (ns.map D.int)
  | _ => none
theorem callf_list : CallF X (fun xs H Q => ∃ p ys, xs = [.ref p] ∧ (SqL X.K H p ys ∨ SqT X.K H p ys) ∧ ∀ l, H l = none → Q (.ref l) (upd H l (.lst ys))) listG :=
  ⟨fun A s H vs ds z S0 ra e Q k => by
    unfold listG at e
    split at e
    · cases e
      obtain ⟨v, rfl, a, ws, rfl, h, r⟩ := seen1 ra
      exact ⟨_, ws, rfl, .inl (SqL.of h), fun p hp => k p ws hp r⟩
    · cases e
      obtain ⟨v, rfl, a, ws, rfl, h, r⟩ := seen1 ra
      exact ⟨_, ws, rfl, .inr h, fun p hp => k p ws hp r⟩
    · cases e
      obtain ⟨v, rfl, a, rfl, h⟩ := seen1 ra
      exact ⟨_, _, rfl, .inl h, fun p hp => k p _ hp (ints_rep _)⟩
    · cases e⟩
theorem df_list (hm : X.mg "list" = none) (ha : DA X (e :: es) ds) (hgl : Gl X "list" := by rfl)
    (he : starEach (e :: es) X.env = (false, eval e X.env) :: starEach es X.env := by rfl) (hpl : (backTo pos (starEach es X.env)).any (·.1) = false := by rfl) : DF X (.Call (.Name "list" p) (e :: es) [] pos) (dCBF listG ds) := df_bty call_list_of callf_list (by decide +kernel) hm ha hgl (by decide) (by decide) he hpl
/-! max, min of two; abs -/
def max2G : List D → Option D | [.int i, .int j] => some (.int (if j > i then j else i)) | _ => none
def min2G : List D → Option D | [.int i, .int j] => some (.int (if j < i then j else i)) | _ => none
def absG : List D → Option D | [.int i] => some (.int (if i < 0 then -i else i)) | _ => none
theorem calld_max2 : CallD X (fun xs H Q => ∃ i j, xs = [.int i, .int j] ∧ Q (.int (if j > i then j else i)) H) max2G :=
  ⟨fun A s H vs ds z S0 ra e Q k => by
    unfold max2G at e
    split at e
    · cases e
      obtain ⟨v, w, rfl, r1, r2⟩ := seen2 ra
      exact ⟨_, _, by rw [show v = _ from r1, show w = _ from r2], k _ H (fun _ _ h => h) .int⟩
    · cases e⟩
theorem calld_min2 : CallD X (fun xs H Q => ∃ i j, xs = [.int i, .int j] ∧ Q (.int (if j < i then j else i)) H) min2G :=
  ⟨fun A s H vs ds z S0 ra e Q k => by
    unfold min2G at e
    split at e
    · cases e
      obtain ⟨v, w, rfl, r1, r2⟩ := seen2 ra
      exact ⟨_, _, by rw [show v = _ from r1, show w = _ from r2], k _ H (fun _ _ h => h) .int⟩
    · cases e⟩
theorem calld_abs : CallD X (fun xs H Q => ∃ i, xs = [.int i] ∧ Q (.int (if i < 0 then -i else i)) H) absG :=
  ⟨fun A s H vs ds z S0 ra e Q k => by
    unfold absG at e
    split at e
    · cases e
      obtain ⟨v, rfl, r⟩ := seen1 ra
      exact ⟨_, by rw [show v = _ from r], k _ H (fun _ _ h => h) .int⟩
    · cases e⟩
theorem de_max2 (hc : X.calm = true) (hm : X.mg "max" = none) (ha : DA X (e :: es) ds) (hgl : Gl X "max" := by rfl)
    (he : starEach (e :: es) X.env = (false, eval e X.env) :: starEach es X.env := by rfl) (hpl : (backTo pos (starEach es X.env)).any (·.1) = false := by rfl) : DE X (.Call (.Name "max" p) (e :: es) [] pos) (dCB max2G ds) := de_bltn (call_max2 hc) calld_max2 (by decide +kernel) hm ha hgl (by decide) (by decide) he hpl
theorem de_min2 (hc : X.calm = true) (hm : X.mg "min" = none) (ha : DA X (e :: es) ds) (hgl : Gl X "min" := by rfl)
    (he : starEach (e :: es) X.env = (false, eval e X.env) :: starEach es X.env := by rfl) (hpl : (backTo pos (starEach es X.env)).any (·.1) = false := by rfl) : DE X (.Call (.Name "min" p) (e :: es) [] pos) (dCB min2G ds) := de_bltn (call_min2 hc) calld_min2 (by decide +kernel) hm ha hgl (by decide) (by decide) he hpl
theorem de_abs (hm : X.mg "abs" = none) (ha : DA X (e :: es) ds) (hgl : Gl X "abs" := by rfl)
    (he : starEach (e :: es) X.env = (false, eval e X.env) :: starEach es X.env := by rfl) (hpl : (backTo pos (starEach es X.env)).any (·.1) = false := by rfl) : DE X (.Call (.Name "abs" p) (e :: es) [] pos) (dCB absG ds) := de_bltn call_abs calld_abs (by decide +kernel) hm ha hgl (by decide) (by decide) he hpl
/-! all, any, sum of one list -/
def blsD : List D → Option (List Bool)
  | [] => some []
  | .bl b :: xs => match blsD xs with | some bs => some (b :: bs) | none => none
  | _ => none
def intsD : List D → Option (List Int)
  | [] => some []
  | .int b :: xs => match intsD xs with | some bs => some (b :: bs) | none => none
  | _ => none
def strsD : List D → Option (List (List Nat))
  | [] => some []
  | .str b :: xs => match strsD xs with | some bs => some (b :: bs) | none => none
  | _ => none
theorem bls_V {K : PySem.W.Frag} {A : List Addr} {H : Hp} : ∀ {vs : List V} {xs : List D} {bs : List Bool}, Reps K A H vs xs → blsD xs = some bs → vs = bs.map V.bl
  | _, _, _, .nil, e => by simp only [blsD] at e; cases e; rfl
  | _, _, _, .cons r t, e => by
    cases r <;> simp only [blsD] at e <;> try cases e
    split at e
    · rename_i q
      cases e
      rw [bls_V t q]; rfl
    · cases e
theorem ints_V {K : PySem.W.Frag} {A : List Addr} {H : Hp} : ∀ {vs : List V} {xs : List D} {bs : List Int}, Reps K A H vs xs → intsD xs = some bs → vs = bs.map V.int
  | _, _, _, .nil, e => by simp only [intsD] at e; cases e; rfl
  | _, _, _, .cons r t, e => by
    cases r <;> simp only [intsD] at e <;> try cases e
    split at e
    · rename_i q
      cases e
      rw [ints_V t q]; rfl
    · cases e
theorem strs_V {K : PySem.W.Frag} {A : List Addr} {H : Hp} : ∀ {vs : List V} {xs : List D} {bs : List (List Nat)}, Reps K A H vs xs → strsD xs = some bs → vs = (bs.map S).map V.str
  | _, _, _, .nil, e => by simp only [strsD] at e; cases e; rfl
  | _, _, _, .cons r t, e => by
    cases r <;> simp only [strsD] at e <;> try cases e
    split at e
    · rename_i q
      cases e
      rw [strs_V t q]; rfl
    · cases e
def allG : List D → Option D | [.lst xs] => (blsD xs).map fun bs => .bl (bs.all _root_.id) | _ => none
def anyG : List D → Option D | [.lst xs] => (blsD xs).map fun bs => .bl (bs.any _root_.id) | _ => none
def sumG : List D → Option D | [.lst xs] => (intsD xs).map fun bs => .int bs.sum | _ => none
theorem calld_all : CallD X (rAll X.K) allG :=
  ⟨fun A s H vs ds z S0 ra e Q k => by
    unfold allG at e
    split at e
    · rename_i xs
      cases q : blsD xs with
      | none => rw [q] at e; cases e
      | some bs =>
        rw [q] at e
        cases e
        obtain ⟨v, rfl, a, ws, rfl, h, r⟩ := seen1 ra
        exact ⟨a, bs, rfl, by rw [← bls_V r q]; exact SqL.of h, k _ H (fun _ _ h => h) .bl⟩
    · cases e⟩
theorem calld_any : CallD X (rAny X.K) anyG :=
  ⟨fun A s H vs ds z S0 ra e Q k => by
    unfold anyG at e
    split at e
    · rename_i xs
      cases q : blsD xs with
      | none => rw [q] at e; cases e
      | some bs =>
        rw [q] at e
        cases e
        obtain ⟨v, rfl, a, ws, rfl, h, r⟩ := seen1 ra
        exact ⟨a, bs, rfl, by rw [← bls_V r q]; exact SqL.of h, k _ H (fun _ _ h => h) .bl⟩
    · cases e⟩
theorem calld_sum : CallD X (rSum X.K) sumG :=
  ⟨fun A s H vs ds z S0 ra e Q k => by
    unfold sumG at e
    split at e
    · rename_i xs
      cases q : intsD xs with
      | none => rw [q] at e; cases e
      | some bs =>
        rw [q] at e
        cases e
        obtain ⟨v, rfl, a, ws, rfl, h, r⟩ := seen1 ra
        exact ⟨a, bs, rfl, by rw [← ints_V r q]; exact SqL.of h, k _ H (fun _ _ h => h) .int⟩
    · cases e⟩
theorem de_all (hc : X.calm = true) (hm : X.mg "all" = none) (ha : DA X (e :: es) ds) (hgl : Gl X "all" := by rfl)
    (he : starEach (e :: es) X.env = (false, eval e X.env) :: starEach es X.env := by rfl) (hpl : (backTo pos (starEach es X.env)).any (·.1) = false := by rfl) : DE X (.Call (.Name "all" p) (e :: es) [] pos) (dCB allG ds) := de_bltn (cr_all hc) calld_all (by decide +kernel) hm ha hgl (by decide) (by decide) he hpl
theorem de_any (hc : X.calm = true) (hm : X.mg "any" = none) (ha : DA X (e :: es) ds) (hgl : Gl X "any" := by rfl)
    (he : starEach (e :: es) X.env = (false, eval e X.env) :: starEach es X.env := by rfl) (hpl : (backTo pos (starEach es X.env)).any (·.1) = false := by rfl) : DE X (.Call (.Name "any" p) (e :: es) [] pos) (dCB anyG ds) := de_bltn (cr_any hc) calld_any (by decide +kernel) hm ha hgl (by decide) (by decide) he hpl
theorem de_sum (hc : X.calm = true) (hm : X.mg "sum" = none) (ha : DA X (e :: es) ds) (hgl : Gl X "sum" := by rfl)
    (he : starEach (e :: es) X.env = (false, eval e X.env) :: starEach es X.env := by rfl) (hpl : (backTo pos (starEach es X.env)).any (·.1) = false := by rfl) : DE X (.Call (.Name "sum" p) (e :: es) [] pos) (dCB sumG ds) := de_bltn (cr_sum hc) calld_sum (by decide +kernel) hm ha hgl (by decide) (by decide) he hpl
end
end Dx
end
section
namespace Dx
open PySem PySem.Spec PyProof.Rows L2 TL

/-! ### methods of texts: one argument -/
structure MthD (X : Cx) (r : V → List V → Hp → VK → Prop) (g : D → D → Option D) : Prop where
  str : ∀ a b z, g a b = some z → ∃ x, a = .str x
  ok : ∀ A s H x y a b z, SR X.K A s H → Seen X.K A s H x a → Seen X.K A s H y b → g a b = some z → ∀ Q : VK,
    (∀ w H', (∀ a o, H a = some o → H' a = some o) → Rep X.K A (vis A s H') w z → Q w H') → r x [y] H Q
structure MthF (X : Cx) (r : V → List V → Hp → VK → Prop) (g : D → D → Option (List D)) : Prop where
  str : ∀ a b z, g a b = some z → ∃ x, a = .str x
  ok : ∀ A s H x y a b z, SR X.K A s H → Seen X.K A s H x a → Seen X.K A s H y b → g a b = some z → ∀ Q : VK,
    (∀ p ws, H p = none → Reps X.K A (vis A s H) ws z → Q (.ref p) (upd H p (.lst ws))) → r x [y] H Q
def isStr : D → Bool | .str _ => true | _ => false
def dM1 (g : D → D → Option D) (da db : Den) : Den := fun env s => match da env s with
  | some (x, s1) => match x with
    | .str x => match db env s1 with
      | some (y, s2) => match g (.str x) (vw s2 y) with
        | some z => some (z, s2)
        | none => none
      | none => none
    | _ => none
  | none => none
def dM1F (g : D → D → Option (List D)) (da db : Den) : DenL := fun env s => match da env s with
  | some (x, s1) => match x with
    | .str x => match db env s1 with
      | some (y, s2) => match g (.str x) (vw s2 y) with
        | some z => some (z, s2)
        | none => none
      | none => none
    | _ => none
  | none => none
section
variable {X : Cx} {a b c e o : Expr} {es : List Expr} {da db dc : Den} {ds : DenL} {pos p apos : Pos} {x name : Str} {id T : String} {r r' : V → List V → Hp → VK → Prop} {g g' : D → D → Option D}
theorem tM1_imp (hg : MthD X r g) : ∀ σ H Q, tD X.K (dM1 g da db) σ H Q → tM1 r (tD X.K da) (tD X.K db) σ H Q := by
  rintro σ H Q ⟨A, s, env, z, s', R, e, k⟩
  unfold dM1 at e
  split at e
  · rename_i x s1 e1
    split at e
    · rename_i x
      split at e
      · rename_i y s2 e2
        split at e
        · rename_i z' eg
          cases e
          refine tD_mk R e1 fun v H1 A1 S1 l1 r1 => ?_
          cases r1
          refine ⟨⟨_, rfl⟩, tD_mk (R.le S1 l1) e2 fun u H2 A2 S2 l2 r2 => ?_⟩
          refine hg.ok A2 _ H2 (.str (S x)) u (.str x) _ _ S2 rfl (r2.seen S2) eg _ fun w H3 x3 rw => ?_
          obtain ⟨S3, l3⟩ := S2.ex x3
          exact k w H3 A2 S3 (l1.trans (l2.trans l3)) rw
        · cases e
      · cases e
    · cases e
  · cases e
theorem tM1F_imp {g : D → D → Option (List D)} (hg : MthF X r g) : ∀ σ H Q, tDF X.K (dM1F g da db) σ H Q → tM1 r (tD X.K da) (tD X.K db) σ H Q := by
  rintro σ H Q ⟨A, s, env, z, s', R, e, k⟩
  unfold dM1F at e
  split at e
  · rename_i x s1 e1
    split at e
    · rename_i x
      split at e
      · rename_i y s2 e2
        split at e
        · rename_i z' eg
          cases e
          refine tD_mk R e1 fun v H1 A1 S1 l1 r1 => ?_
          cases r1
          refine ⟨⟨_, rfl⟩, tD_mk (R.le S1 l1) e2 fun u H2 A2 S2 l2 r2 => ?_⟩
          refine hg.ok A2 _ H2 (.str (S x)) u (.str x) _ _ S2 rfl (r2.seen S2) eg _ fun p ws hp rw => ?_
          have ed : del (upd H2 p (.lst ws)) p = H2 := del_upd hp
          exact k p ws _ A2 (by rw [ed]; exact S2) (by rw [ed]; exact l1.trans l2) upd_same (by rw [ed]; exact rw)
        · cases e
      · cases e
    · cases e
  · cases e
/-! split -/
def splitG : D → D → Option (List D) | .str x, .str y => if y.length = 1 ∧ y.all (· < 256) = true ∧ x.length + 2 ≤ sizeLine then some ((spl y 0 [] x).map D.str) else none | _, _ => none
theorem S_tl (x : Str) : S (tl x) = x := mk_tl x
theorem strs_rep {K : PySem.W.Frag} {A : List Addr} {H : Hp} : ∀ (ys : List Str) (zs : List (List Nat)), ys.map tl = zs → Reps K A H (ys.map V.str) (zs.map D.str)
  | [], _, h => by subst h; exact .nil
  | y :: ys, _, h => by
    subst h
    refine .cons ?_ (strs_rep ys _ rfl)
    have e : V.str y = V.str (S (tl y)) := by rw [S_tl]
    rw [e]
    exact .str
theorem mthf_split : MthF X (fun x xs H Q => ∃ a b, x = .str a ∧ xs = [.str b] ∧ (b.length == 0) = false ∧ a.length + 2 ≤ sizeLine ∧ rNewStrs (Txt.split a b) H Q) splitG where
  str := fun a b z e => by
    unfold splitG at e
    split at e
    · exact ⟨_, rfl⟩
    · cases e
  ok := fun A s H x y a b z S0 ra rb e Q k => by
    unfold splitG at e
    split at e
    · rename_i x y
      split at e
      · rename_i h
        cases e
        obtain ⟨h1, h2, h3⟩ := h
        refine ⟨S x, S y, ra, by rw [show _ = V.str (S y) from rb], by rw [S_length, h1]; rfl, by rw [S_length]; exact h3, fun p hp => k p _ hp ?_⟩
        refine strs_rep _ _ ?_
        have hy : tl (S y) ≠ [] := by
          show (S y).cps.toList ≠ []
          rw [S_list]
          intro z
          rw [z] at h1
          cases h1
        rw [split_spl (S x) (S y) hy (kind_ok ?_)]
        · show spl (S y).cps.toList 0 [] (S x).cps.toList = _
          rw [S_list, S_list]
        · show (S y).cps.all (· < 256) = true
          simp only [S, List.all_toArray]
          exact h2
      · cases e
    · cases e
theorem df_split (ha : DE X o da) (hb : DE X e db) (hs : starEach [e] X.env = [(false, eval e X.env)] := by rfl) (hbase : attributeBase o "split" X.env (eval o X.env) = eval o X.env := by rfl) (hline : (apos.endLine == pos.line) = true := by rfl) :
    DF X (.Call (.Attribute o "split" apos) [e] [] pos) (dM1F splitG da db) := ⟨pe_imp (pe_split ha.pe hb.pe hs hbase hline) (tM1F_imp mthf_split)⟩
/-! join -/
def joinG : D → D → Option D
  | .str x, .lst xs => (match strsD xs with
    | some ys => if (ys.map List.length).sum + ys.length * x.length ≤ 16777216 then some (.str (joinL x ys)) else none
    | none => none)
  | _, _ => none
theorem join_S (x : List Nat) (ys : List (List Nat)) : Txt.join (S x) (ys.map S) = S (joinL x ys) := by
  refine ext_tl ?_
  rw [join_eq, tl_join]
  show joinL (S x).cps.toList ((ys.map S).map fun y => y.cps.toList) = (S (joinL x ys)).cps.toList
  rw [S_list, S_list, List.map_map]
  congr 1
  refine (List.map_congr_left fun y _ => ?_).trans (List.map_id ys)
  exact S_list y
theorem lens_S (ys : List (List Nat)) : (ys.map S).map (·.length) = ys.map List.length := by
  rw [List.map_map]
  exact List.map_congr_left fun y _ => S_length y
theorem mthd_join : MthD X (fun x xs H Q => ∃ a p, ∃ ys : List Str, x = .str a ∧ xs = [.ref p] ∧ (SqL X.K H p (ys.map V.str) ∨ SqT X.K H p (ys.map V.str)) ∧
    (ys.map (·.length)).sum + ys.length * a.length ≤ 16777216 ∧ Q (.str (Txt.join a ys)) H) joinG where
  str := fun a b z e => by
    unfold joinG at e
    split at e
    · exact ⟨_, rfl⟩
    · cases e
  ok := fun A s H x y a b z S0 ra rb e Q k => by
    unfold joinG at e
    split at e
    · rename_i x xs
      split at e
      · rename_i ys q
        split at e
        · rename_i h
          cases e
          obtain ⟨p, ws, rfl, hp, rr⟩ := rb
          refine ⟨S x, p, ys.map S, ra, rfl, .inl (by rw [← strs_V rr q]; exact SqL.of hp), by rw [lens_S, List.length_map, S_length]; exact h, ?_⟩
          rw [join_S]
          exact k _ H (fun _ _ h => h) .str
        · cases e
      · cases e
    · cases e
theorem de_join (ha : DE X o da) (hb : DE X e db) (hs : starEach [e] X.env = [(false, eval e X.env)] := by rfl) (hbase : attributeBase o "join" X.env (eval o X.env) = eval o X.env := by rfl) (hline : (apos.endLine == pos.line) = true := by rfl) :
    DE X (.Call (.Attribute o "join" apos) [e] [] pos) (dM1 joinG da db) := ⟨pe_imp (pe_join ha.pe hb.pe hs hbase hline) (tM1_imp mthd_join)⟩

/-! ### a class's method -/
variable {C : Addr} {k : Nat} {f : Addr} {fd : FuncData} {ps : List Str} {den : DFn} {m : Str}
theorem getF_none {f : Str} {K : PySem.W.Frag} {A : List Addr} {H : Hp} : ∀ {fs : List (Str × V)} {ds : List D}, Reps K A H (fs.map (·.2)) ds → getF f (fs.map (·.1)) ds = none → fs.lookup f = none
  | [], _, _, _ => rfl
  | (n, v) :: fs, _, .cons r t, e => by
    simp only [List.map_cons, getF] at e
    by_cases h : (f == n) = true
    · rw [if_pos h] at e; cases e
    · rw [if_neg h] at e
      have h' : (f == n) = false := by simpa using h
      simp only [List.lookup, h']
      exact getF_none t e
def dMeths (C : Addr) (m : Str) (f : DFn) (da : Den) (ds : DenL) : Den := fun env s => match da env s with
  | some (x, s1) => match vw s1 x with
    | .obj C' ns vs => if C' = C then match getF m ns vs with
      | some _ => none
      | none => match ds env s1 with
        | some (xs, s2) => match f (x :: xs) s2 with
          | some (.ret r, s3) => some (r, s3)
          | _ => none
        | none => none
      else none
    | _ => none
  | none => none
theorem tMeth_imp : ∀ σ H Q, tD X.K (dMeths C m den da ds) σ H Q → tMeth C m (spOf X.K den) [] E0 (tD X.K da) (tDA X.K ds) σ H Q := by
  rintro σ H Q ⟨A, s, env, z, s', R, e, k⟩
  unfold dMeths at e
  split at e
  · rename_i x s1 e1
    split at e
    · rename_i C' ns vs hv
      split at e
      · rename_i hC
        subst hC
        split at e
        · cases e
        · rename_i hn
          split at e
          · rename_i xs s2 e2
            split at e
            · rename_i r s3 e3
              cases e
              refine tD_mk R e1 fun v H1 A1 S1 l1 r1 => ?_
              have sn := r1.seen S1
              rw [hv] at sn
              obtain ⟨a, dx, fs, rfl, ho, hns, rs⟩ := sn
              subst hns
              refine ⟨a, dx, fs, rfl, ho, getF_none rs hn, ?_⟩
              refine tDA_mk (R.le S1 l1) e2 fun ws H2 A2 S2 l2 r2 => ?_
              rw [List.append_nil]
              exact sp_call S2 (.cons (r1.le l2) r2) e3 fun v H3 A3 S3 l3 r3 => k v H3 A3 S3 (l1.trans (l2.trans l3)) r3
            · cases e
          · cases e
      · cases e
    · cases e
  · cases e
theorem de_meth {pl : Sem Bool} (c : Cls X.K C) (hm : Meth X.K C m f) (F : DefOk X.prog X.w X.K X.mg X.base k f fd ps den) (hr : Room k X.A) (hb : Binds X.K fd ps []) (he : DE X o da) (ha : DA X (e :: es) ds)
    (hst : starEach (e :: es) X.env = (false, eval e X.env) :: starEach es X.env := by rfl) (hpl : (backTo pos (starEach es X.env)).any (·.1) = false := by rfl)
    (ht : eval (.Call (.Attribute o m apos) (e :: es) [] pos) X.env = (do
      let ov ← eval o X.env
      standAt apos.atName
      let (f, first) ← holding [ov] (getMethod ov m pl)
      callWith pos f first (backTo pos (starEach (e :: es) X.env)) (backToKw pos (keywordEach [] X.env))) := by rfl) :
    DE X (.Call (.Attribute o m apos) (e :: es) [] pos) (dMeths C m den da ds) := ⟨pe_imp (pe_meth he.pe c hm F hr hb (dvs := []) .nil (E := E0) passL ha.pa hst hpl ht) tMeth_imp⟩
theorem de_meth0 {pl : Sem Bool} (c : Cls X.K C) (hm : Meth X.K C m f) (F : DefOk X.prog X.w X.K X.mg X.base k f fd ps den) (hr : Room k X.A) (hb : Binds X.K fd ps []) (he : DE X o da)
    (ht : eval (.Call (.Attribute o m apos) [] [] pos) X.env = (do
      let ov ← eval o X.env
      standAt apos.atName
      let (f, first) ← holding [ov] (getMethod ov m pl)
      callWith pos f first (backTo pos (starEach [] X.env)) (backToKw pos (keywordEach [] X.env))) := by rfl) :
    DE X (.Call (.Attribute o m apos) [] [] pos) (dMeths C m den da dNil) := by
  refine ⟨pe_imp (pe_meth0 he.pe c hm F hr hb (dvs := []) .nil (E := E0) passL ht) ?_⟩
  intro σ H Q h
  obtain ⟨A, s, env, z, s', R, e, k⟩ := h
  have h' := tMeth_imp (ds := dNil) (den := den) σ H Q ⟨A, s, env, z, s', R, e, k⟩
  obtain ⟨A, s, env, z, s', R, e, k⟩ := h'
  refine ⟨A, s, env, z, s', R, e, fun v H1 A1 S1 l1 r1 => ?_⟩
  obtain ⟨a, dx, fs, e1, e2, e3, A2, s2, env2, r2, s2', R2, ee, k2⟩ := k v H1 A1 S1 l1 r1
  cases ee
  exact ⟨a, dx, fs, e1, e2, e3, k2 [] H1 A2 R2.sr .refl .nil⟩

/-! ### making an instance: an immutable one -/
open Classical in
noncomputable def dMake (C : Addr) (f : DFn) (ds : DenL) : Den := fun env s => match ds env s with
  | some (xs, s1) => match f (.cell s1.length :: xs) (s1 ++ [.ins C [] []]) with
    | some (.ret .non, s2) => match s2[s1.length]? with
      | some (.ins C' ns vs) => if s2.take s1.length = s1 ∧ s2.length = s1.length + 1 ∧ bnds s1.length vs = true then some (.obj C' ns vs, s1) else none
      | _ => none
    | _ => none
  | none => none
/-- one more cell -/
theorem SR.snoc {K : PySem.W.Frag} {A : List Addr} {s : Sto} {H H' : Hp} {p : Addr} {c : Cell} (R : SR K A s H) (hp : H p = none) (hH : ∀ a o, H a = some o → H' a = some o) (ok : ∀ A' Hs', (∀ (j : Nat) (a : Addr), A[j]? = some a → A'[j]? = some a) → (∀ a o, vis A s H a = some o → Hs' a = some o) → CellOk K A' Hs' H' p c) :
    SR K (A ++ [p]) (s ++ [c]) H' ∧ Le A s H (A ++ [p]) (s ++ [c]) H' := by
  have hA : ∀ (j : Nat) (a : Addr), A[j]? = some a → (A ++ [p])[j]? = some a := fun j a e => by
    rw [List.getElem?_append_left (List.getElem?_eq_some_iff.mp e).1]; exact e
  have hA' : ∀ (j : Nat) (a : Addr), (A ++ [p])[j]? = some a → A[j]? = some a ∨ (j = A.length ∧ a = p) := fun j a e => by
    rw [List.getElem?_append] at e
    split at e
    · exact .inl e
    · rename_i h
      have : j - A.length = 0 := by
        have := (List.getElem?_eq_some_iff.mp e).1
        simp at this; omega
      rw [this] at e
      simp at e
      exact .inr ⟨by omega, e.symm⟩
  have hV : ∀ a o, vis A s H a = some o → vis (A ++ [p]) (s ++ [c]) H' a = some o := fun a o e => by
    obtain ⟨n, e⟩ := vis_some e
    rw [vis_not]
    · exact hH a o e
    · rintro ⟨j, h1, h2⟩
      rcases hA' j a h1 with h1 | ⟨h1, h3⟩
      · have hj : j < s.length := by
          have := (List.getElem?_eq_some_iff.mp h1).1
          rw [R.len] at this; exact this
        exact n ⟨j, h1, by rw [List.getElem?_append_left hj] at h2; exact h2⟩
      · subst h3
        rw [hp] at e; cases e
  have le : Le A s H (A ++ [p]) (s ++ [c]) H' := ⟨hA, hV⟩
  refine ⟨⟨by simp [R.len], fun i j a h1 h2 => ?_, fun j c' a hc' ha => ?_⟩, le⟩
  · rcases hA' i a h1 with q1 | ⟨q1, h3⟩ <;> rcases hA' j a h2 with q2 | ⟨q2, h4⟩
    · exact R.nod i j a q1 q2
    · subst h4
      exact absurd hp (R.used q1)
    · subst h3
      exact absurd hp (R.used q2)
    · omega
  · rcases hA' j a ha with ha | ⟨h1, h3⟩
    · have hj : j < s.length := by
        have := (List.getElem?_eq_some_iff.mp ha).1
        rw [R.len] at this; exact this
      rw [List.getElem?_append_left hj] at hc'
      have q := R.cells j c' a hc' ha
      cases c' with
      | lst xs => obtain ⟨vs, z, r⟩ := q; exact ⟨vs, hH _ _ z, r.le le⟩
      | dk ks vs => obtain ⟨kvs, z, e, r⟩ := q; exact ⟨kvs, hH _ _ z, e, r.le le⟩
      | dt ks vs => obtain ⟨kvs, z, e, r⟩ := q; exact ⟨kvs, hH _ _ z, e, r.le le⟩
      | ins C ns vs => obtain ⟨dx, fs, z, e, r⟩ := q; exact ⟨dx, fs, hH _ _ z, e, r.le le⟩
      | frz d => exact ⟨Rep.le le q.1, let ⟨o, h⟩ := q.2; ⟨o, hH _ _ h⟩⟩
    · subst h3
      rw [h1, R.len] at hc'
      simp at hc'
      subst hc'
      exact ok _ _ hA hV
theorem tMake_imp : ∀ σ H Q, tD X.K (dMake C den ds) σ H Q → tMake C (spOf X.K den) [] E0 (tDA X.K ds) σ H Q := by
  rintro σ H Q ⟨A, s, env, z, s', R, e, k⟩
  unfold dMake at e
  split at e
  · rename_i xs s1 e1
    split at e
    · rename_i s2 e2
      split at e
      · rename_i C' ns vs hc
        split at e
        · rename_i hb
          cases e
          obtain ⟨h1, h2, h3⟩ := hb
          refine tDA_mk R e1 fun ws H1 A1 S1 l1 r1 => fun x dx hx hdx hne => ?_
          rw [List.append_nil]
          obtain ⟨S2, l2⟩ := S1.snoc (p := x) (c := .ins C [] []) (H' := upd (upd H1 dx (.own x)) x (.ins C dx [])) hx (fun a o h => by
            rw [upd_ne (ne_of_none h hx), upd_ne (ne_of_none h hdx)]; exact h) fun A' Hs' _ _ => ⟨dx, [], upd_same, rfl, .nil⟩
          refine sp_call S2 (.cons (.cell (by rw [← S1.len]; simp)) (r1.le l2)) e2 fun v H3 A3 S3 l3 r3 => ?_
          cases r3
          refine ⟨rfl, ?_⟩
          -- the instance is given up as a cell
          have ex : s2 = s' ++ [.ins C' ns vs] := by
            have e4 : s2 = s2.take s'.length ++ s2.drop s'.length := (List.take_append_drop _ _).symm
            rw [h1] at e4
            rw [e4]
            congr 1
            have hl : s'.length < s2.length := by omega
            rw [List.drop_eq_getElem_cons hl, List.drop_eq_nil_of_le (by omega)]
            have := List.getElem?_eq_getElem hl
            rw [hc] at this
            rw [← Option.some.inj this]
          subst ex
          have bd : ∀ c ∈ s', bndC s'.length c = true := S1.bndC
          obtain ⟨S4, hv, hA⟩ := S3.drop bd
          have l4 : Le A3 (s' ++ [.ins C' ns vs]) H3 A3 (s' ++ [.ins C' ns vs]) H3 := .refl
          have hx3 : A3[s'.length]? = some x := l3.ad _ _ (by rw [← S1.len]; simp)
          have q := S3.cells s'.length (.ins C' ns vs) x (by simp) hx3
          obtain ⟨dx', fs, z1, z2, z3⟩ := q
          have hn : ¬ hid (A3.take s'.length) s' x := by
            rintro ⟨j, hj1, hj2⟩
            rw [List.getElem?_take] at hj1
            split at hj1
            · rename_i hj
              have := S3.nod _ _ _ hj1 hx3
              omega
            · cases hj1
          refine k (.ref x) H3 (A3.take s'.length) S4 (l1.trans ⟨fun j a h => ?_, fun a o h => hv a o (l3.vs a o (l2.vs a o h))⟩) (.obj (dx := dx') (fs := fs) ?_ z2 ?_)
          · refine hA j a ?_ (l3.ad j a (l2.ad j a h))
            have := (List.getElem?_eq_some_iff.mp h).1
            rw [S1.len] at this
            exact this
          · rw [vis_not hn]; exact z1
          · exact z3.back hA hv h3
        · cases e
      · cases e
    · cases e
  · cases e
variable {x : Str} {ps : List Str}
theorem de_make (M : Mk X.K C f) (F : DefOk X.prog X.w X.K X.mg X.base k f fd ps den) (hr : Room (k + 1) X.A) (hm : X.mg x = some (.ref C)) (hb : Binds X.K fd ps []) (ha : DA X (e :: es) ds) (hg : Gl X x := by rfl)
    (hdb : (x == ("__debug__" : Str)) = false := by decide) (he : starEach (e :: es) X.env = (false, eval e X.env) :: starEach es X.env := by rfl) (hpl : (backTo pos (starEach es X.env)).any (·.1) = false := by rfl) :
    DE X (.Call (.Name x p) (e :: es) [] pos) (dMake C den ds) := ⟨pe_imp (pe_make M F hr hg hm hb (dvs := []) .nil (E := E0) passL ha.pa hdb he hpl) tMake_imp⟩
end
end Dx
end
section
namespace Dx
open PySem PySem.Spec PyProof.Rows L2

/-! ### statements -/
inductive Fl where
  | nx | bk | ct | rt (d : D) | ex (C : Addr) (p : D)
abbrev DenS := DEnv → Sto → Option (Fl × DEnv × Sto)
abbrev DTgt := D → DEnv → Sto → Option (DEnv × Sto)
abbrev DTgts := List D → DEnv → Sto → Option (DEnv × Sto)
/-- what is wanted behind a statement that ends so -/
def FlP (K : PySem.W.Frag) (W : WX) (E : Ends) (A : List Addr) (s : Sto) (H : Hp) (fl : Fl) (env' : DEnv) (s' : Sto) : Prop :=
  match fl with
  | .nx => ∀ σ' H' A', Rl K A' s' env' σ' H' → Le A s H A' s' H' → E.nx σ' H'
  | .bk => ∀ σ' H' A', Rl K A' s' env' σ' H' → Le A s H A' s' H' → E.bk σ' H'
  | .ct => ∀ σ' H' A', Rl K A' s' env' σ' H' → Le A s H A' s' H' → E.ct σ' H'
  | .rt r => ∀ v H' A', SR K A' s' H' → Le A s H A' s' H' → Rep K A' (vis A' s' H') v r → E.rt v H'
  | .ex C p => ∀ (d : Addr) pv σ' H' A', Rl K A' s' env' σ' H' → Le A s H A' s' H' → H' d = some (.xd [(("value" : Str), pv)]) → Rep K A' (vis A' s' H') pv p → W (.ref C) (some d) σ' H'
theorem FlP.le {K : PySem.W.Frag} {W : WX} {E : Ends} {A A1 : List Addr} {s s1 s' : Sto} {H H1 : Hp} {fl : Fl} {env' : DEnv} (l : Le A s H A1 s1 H1) (h : FlP K W E A s H fl env' s') : FlP K W E A1 s1 H1 fl env' s' := by
  cases fl with
  | nx => exact fun σ' H' A' R l' => h σ' H' A' R (l.trans l')
  | bk => exact fun σ' H' A' R l' => h σ' H' A' R (l.trans l')
  | ct => exact fun σ' H' A' R l' => h σ' H' A' R (l.trans l')
  | rt r => exact fun v H' A' R l' => h v H' A' R (l.trans l')
  | ex C p => exact fun d pv σ' H' A' R l' => h d pv σ' H' A' R (l.trans l')
def tSD (K : PySem.W.Frag) (W : WX) (d : DenS) : TS := fun E σ H => ∃ A s env fl env' s', Rl K A s env σ H ∧ d env s = some (fl, env', s') ∧ FlP K W E A s H fl env' s'
structure DS (X : Cx) (W : WX) (st : Stmt) (d : DenS) : Prop where
  ps : PS X st (tSD X.K W d)
structure DSs (X : Cx) (W : WX) (st : List Stmt) (d : DenS) : Prop where
  ps : PSs X st (tSD X.K W d)
def tGD (K : PySem.W.Frag) (g : DTgt) : TG := fun v σ H Q => ∃ A s env d env' s', Rl K A s env σ H ∧ Rep K A (vis A s H) v d ∧ g d env s = some (env', s') ∧ ∀ σ' H' A', Rl K A' s' env' σ' H' → Le A s H A' s' H' → Q σ' H'
def tGDs (K : PySem.W.Frag) (g : DTgts) : TGs := fun v σ H Q => ∃ A s env d env' s', Rl K A s env σ H ∧ Reps K A (vis A s H) v d ∧ g d env s = some (env', s') ∧ ∀ σ' H' A', Rl K A' s' env' σ' H' → Le A s H A' s' H' → Q σ' H'
structure DG (X : Cx) (tg : Expr) (g : DTgt) : Prop where
  pg : PG X tg (tGD X.K g)
structure DGs (X : Cx) (tg : List Expr) (g : DTgts) : Prop where
  pg : PGs X tg (tGDs X.K g)
theorem ps_imp {X : Cx} {e : Stmt} {t t' : TS} (h : PS X e t) (k : ∀ E σ H, t' E σ H → t E σ H) : PS X e t' := ⟨fun pins s σ H D I q => h.run pins s σ H D I (k D σ H q)⟩
theorem pss_imp {X : Cx} {e : List Stmt} {t t' : TS} (h : PSs X e t) (k : ∀ E σ H, t' E σ H → t E σ H) : PSs X e t' := ⟨fun pins s σ H D I q => h.run pins s σ H D I (k D σ H q)⟩
theorem pg_imp {X : Cx} {e : Expr} {t t' : TG} (h : PG X e t) (k : ∀ v σ H Q, t' v σ H Q → t v σ H Q) : PG X e t' := ⟨fun pins s σ H x u Q I r q => h.run pins s σ H x u Q I r (k x σ H Q q)⟩
theorem pgs_imp {X : Cx} {e : List Expr} {t t' : TGs} (h : PGs X e t) (k : ∀ v σ H Q, t' v σ H Q → t v σ H Q) : PGs X e t' := ⟨fun pins s σ H x u Q I r q => h.run pins s σ H x u Q I r (k x σ H Q q)⟩
section
variable {K : PySem.W.Frag} {A A' : List Addr} {s s' : Sto} {H H' : Hp} {env : DEnv} {σ : L2.St}
theorem EnvR.set {v : V} {d : D} (e : EnvR K A H env σ) (i : Nat) (r : Rep K A H v d) : EnvR K A H (env.set i (some d)) (σ.set i (some v)) :=
  ⟨by rw [List.length_set, List.length_set, e.1], fun j x h => by
    by_cases hj : i = j
    · subst hj
      have hl : i < env.length := by
        have := (List.getElem?_eq_some_iff.mp h).1
        rw [List.length_set] at this; exact this
      rw [List.getElem?_set_self hl] at h
      cases h
      exact ⟨v, List.getElem?_set_self (by rw [← e.1]; exact hl), r⟩
    · rw [List.getElem?_set_ne hj] at h
      obtain ⟨w, h1, h2⟩ := e.2 j x h
      exact ⟨w, by rw [List.getElem?_set_ne hj]; exact h1, h2⟩⟩
theorem Rl.set {v : V} {d : D} (R : Rl K A s env σ H) (i : Nat) (r : Rep K A (vis A s H) v d) : Rl K A s (env.set i (some d)) (σ.set i (some v)) H := ⟨R.sr, R.er.set i r⟩
end
section
variable {X : Cx} {W : WX} {a b c e o : Expr} {es : List Expr} {da db dc : Den} {ds : DenL} {pos p : Pos} {st : Stmt} {sts : List Stmt} {d1 d2 : DenS}
def dSkip : DenS := fun env s => some (.nx, env, s)
def dSeq (d1 d2 : DenS) : DenS := fun env s => match d1 env s with
  | some (.nx, env1, s1) => d2 env1 s1
  | r => r
theorem dss_nil : DSs X W [] dSkip := by
  refine ⟨pss_imp pss_nil ?_⟩
  rintro E σ H ⟨A, s, env, fl, env', s', R, e, k⟩
  cases e
  exact k σ H A R .refl
theorem dss_cons (h1 : DS X W st d1) (h2 : DSs X W sts d2) : DSs X W (st :: sts) (dSeq d1 d2) := by
  refine ⟨pss_imp (pss_cons h1.ps h2.ps) ?_⟩
  rintro E σ H ⟨A, s, env, fl, env', s', R, e, k⟩
  unfold dSeq at e
  split at e
  · rename_i env1 s1 e1
    exact ⟨A, s, env, .nx, env1, s1, R, e1, fun σ1 H1 A1 R1 l1 => ⟨A1, s1, env1, fl, env', s', R1, e, k.le l1⟩⟩
  · rename_i hn
    refine ⟨A, s, env, fl, env', s', R, e, ?_⟩
    cases fl with
    | nx => exact absurd e (hn _ _)
    | bk => exact k
    | ct => exact k
    | rt r => exact k
    | ex C p => exact k
theorem dss_one (h1 : DS X W st d1) : DSs X W [st] d1 := ⟨pss_one h1.ps⟩
theorem ds_pass : DS X W (.Pass pos) dSkip := by
  refine ⟨ps_imp ps_pass ?_⟩
  rintro E σ H ⟨A, s, env, fl, env', s', R, e, k⟩
  cases e
  exact k σ H A R .refl
def dBrk : DenS := fun env s => some (.bk, env, s)
def dCont : DenS := fun env s => some (.ct, env, s)
theorem ds_brk : DS X W (.Break pos) dBrk := by
  refine ⟨ps_imp ps_break ?_⟩
  rintro E σ H ⟨A, s, env, fl, env', s', R, e, k⟩
  cases e
  exact k σ H A R .refl
theorem ds_cont : DS X W (.Continue pos) dCont := by
  refine ⟨ps_imp ps_continue ?_⟩
  rintro E σ H ⟨A, s, env, fl, env', s', R, e, k⟩
  cases e
  exact k σ H A R .refl
/-- code that is not come to -/
def dNever : DenS := fun _ _ => none
theorem ds_never : DS X W st dNever := by
  refine ⟨ps_imp ps_never ?_⟩
  rintro E σ H ⟨A, s, env, fl, env', s', R, e, k⟩
  cases e
def dExpr (da : Den) : DenS := fun env s => match da env s with
  | some (_, s1) => some (.nx, env, s1)
  | none => none
theorem ds_expr (ha : DE X a da) (hs : swapsWith a none pos.line X.env = pure false := by rfl) : DS X W (.Expr a pos) (dExpr da) := by
  refine ⟨ps_imp (ps_expr ha.pe hs) ?_⟩
  rintro E σ H ⟨A, s, env, fl, env', s', R, e, k⟩
  unfold dExpr at e
  split at e
  · rename_i x s1 e1
    cases e
    exact tD_mk R e1 fun v H1 A1 S1 l1 r1 => k σ H1 A1 (R.le S1 l1) l1
  · cases e
def dRet (da : Den) : DenS := fun env s => match da env s with
  | some (x, s1) => some (.rt x, env, s1)
  | none => none
theorem ds_ret (ha : DE X a da) : DS X W (.Return (some a) pos) (dRet da) := by
  refine ⟨ps_imp (ps_ret ha.pe) ?_⟩
  rintro E σ H ⟨A, s, env, fl, env', s', R, e, k⟩
  unfold dRet at e
  split at e
  · rename_i x s1 e1
    cases e
    exact tD_mk R e1 k
  · cases e
def dIfS (t : DenB) (d1 d2 : DenS) : DenS := fun env s => match t env s with
  | some (true, s1) => d1 env s1
  | some (false, s1) => d2 env s1
  | none => none
variable {t : DenB} {sa sb : List Stmt}
theorem ds_if (ht : DT X c t) (ha : DSs X W sa d1) (hb : DSs X W sb d2) : DS X W (.If c sa sb pos) (dIfS t d1 d2) := by
  refine ⟨ps_imp (ps_if ht.pt ha.ps hb.ps) ?_⟩
  rintro E σ H ⟨A, s, env, fl, env', s', R, e, k⟩
  unfold dIfS at e
  split at e
  · rename_i s1 e1
    refine tDT_mk R e1 fun H1 A1 S1 l1 => ?_
    show (if true = true then _ else _)
    rw [if_pos rfl]
    exact ⟨A1, s1, env, fl, env', s', R.le S1 l1, e, k.le l1⟩
  · rename_i s1 e1
    refine tDT_mk R e1 fun H1 A1 S1 l1 => ?_
    show (if false = true then _ else _)
    rw [if_neg Bool.false_ne_true]
    exact ⟨A1, s1, env, fl, env', s', R.le S1 l1, e, k.le l1⟩
  · cases e
/-! targets -/
def gN (i : Nat) : DTgt := fun d env s => some (env.set i (some d), s)
theorem dg_name {i : Nat} {x : Str} (hN : X.N.Nodup) (hi : X.N[i]? = some x := by rfl) (hx : Loc X.env.scope x := by first | exact .inl rfl | exact .inr rfl) (hf : X.fn x = true ∨ X.env.scope.names.lookup x = some .local := by first | exact .inl rfl | exact .inr rfl) : DG X (.Name x pos) (gN i) := by
  refine ⟨pg_imp (pg_name hN hi hx hf) ?_⟩
  rintro v σ H Q ⟨A, s, env, d, env', s', R, r, e, k⟩
  cases e
  exact k _ H A (R.set i r) .refl
def gNilD : DTgts := fun ds env s => match ds with | [] => some (env, s) | _ => none
def gConsD (g : DTgt) (gs : DTgts) : DTgts := fun ds env s => match ds with
  | d :: ds => match g d env s with
    | some (env1, s1) => gs ds env1 s1
    | none => none
  | [] => none
theorem dgs_nil : DGs X [] gNilD := by
  refine ⟨pgs_imp pgs_nil ?_⟩
  rintro v σ H Q ⟨A, s, env, d, env', s', R, r, e, k⟩
  cases r
  · cases e
    exact ⟨rfl, k _ H A R .refl⟩
  · cases e
variable {g : DTgt} {gs : DTgts} {tg : Expr} {tgs : List Expr}
theorem dgs_cons (h1 : DG X tg g) (h2 : DGs X tgs gs) (hs : (assignEach (tg :: tgs) X.env).map (·.2) = assign tg X.env :: (assignEach tgs X.env).map (·.2) := by rfl) : DGs X (tg :: tgs) (gConsD g gs) := by
  refine ⟨pgs_imp (pgs_cons h1.pg h2.pg hs) ?_⟩
  rintro v σ H Q ⟨A, s, env, d, env', s', R, r, e, k⟩
  cases r
  · cases e
  · rename_i v d vs ds r rs
    simp only [gConsD] at e
    split at e
    · rename_i env1 s1 e1
      refine ⟨v, vs, rfl, A, s, env, d, env1, s1, R, r, e1, fun σ1 H1 A1 R1 l1 => ?_⟩
      exact ⟨A1, s1, env1, ds, env', s', R1, rs.le l1, e, fun σ2 H2 A2 R2 l2 => k σ2 H2 A2 R2 (l1.trans l2)⟩
    · cases e
def gT (n : Nat) (gs : DTgts) : DTgt := fun d env s => match d with
  | .tup xs => if xs.length = n then gs xs env s else none
  | _ => none
theorem dg_tup {k n : Nat} (hc : X.calm = true) (h : DGs X tgs gs) (hn : (assignEach tgs X.env).length = n := by rfl) (hst : (assignEach tgs X.env).findIdx? (·.1) = none := by rfl) : DG X (.Tuple tgs k pos) (gT n gs) := by
  refine ⟨pg_imp (pg_tup hc h.pg hn hst) ?_⟩
  rintro v σ H Q ⟨A, s, env, d, env', s', R, r, e, k⟩
  unfold gT at e
  split at e
  · split at e
    · rename_i xs hl
      cases r with
      | tup hs rs => exact ⟨_, _, rfl, sqt_mono (fun a o => vis_sub) hs, by rw [rs.length]; exact hl, A, s, env, _, env', s', R, rs, e, k⟩
    · cases e
  · cases e
/-! a cell changed -/
theorem SR.setc {K : PySem.W.Frag} {A : List Addr} {s : Sto} {H : Hp} {j : Nat} {a : Addr} {c c' : Cell} {o' : HO} (R : SR K A s H) (ha : A[j]? = some a) (hc : s[j]? = some c) (hl : live (some c) = true) (hl' : live (some c') = true)
    (ok : ∀ H', H' a = some o' → CellOk K A (vis A s H) H' a c') : SR K A (s.set j c') (upd H a o') ∧ Le A s H A (s.set j c') (upd H a o') := by
  have hj : j < s.length := (List.getElem?_eq_some_iff.mp hc).1
  have hh : ∀ b, hid A (s.set j c') b ↔ hid A s b := fun b => by
    constructor
    · rintro ⟨i, h1, h2⟩
      refine ⟨i, h1, ?_⟩
      by_cases hi : j = i
      · subst hi
        rw [hc]; exact hl
      · rw [List.getElem?_set_ne hi] at h2; exact h2
    · rintro ⟨i, h1, h2⟩
      refine ⟨i, h1, ?_⟩
      by_cases hi : j = i
      · subst hi
        rw [List.getElem?_set_self hj]; exact hl'
      · rw [List.getElem?_set_ne hi]; exact h2
  have hida : hid A s a := ⟨j, ha, by rw [hc]; exact hl⟩
  have ev : vis A (s.set j c') (upd H a o') = vis A s H := by
    funext b
    by_cases hb : hid A s b
    · rw [vis_hid hb, vis_hid ((hh b).mpr hb)]
    · rw [vis_not hb, vis_not (fun z => hb ((hh b).mp z)), upd_ne (fun z : b = a => hb (by rw [z]; exact hida))]
  refine ⟨⟨by rw [List.length_set]; exact R.len, R.nod, fun i ci b h1 h2 => ?_⟩, ⟨fun _ _ h => h, fun b o h => by rw [ev]; exact h⟩⟩
  rw [ev]
  by_cases hi : j = i
  · subst hi
    rw [List.getElem?_set_self hj] at h1
    cases h1
    rw [ha] at h2
    cases h2
    exact ok _ upd_same
  · rw [List.getElem?_set_ne hi] at h1
    have hne : b ≠ a := fun z => hi (R.nod j i a ha (z ▸ h2))
    have q := R.cells i ci b h1 h2
    cases ci with
    | lst xs => obtain ⟨vs, z, r⟩ := q; exact ⟨vs, by rw [upd_ne hne]; exact z, r⟩
    | dk ks xs => obtain ⟨vs, z, e, r⟩ := q; exact ⟨vs, by rw [upd_ne hne]; exact z, e, r⟩
    | dt ks xs => obtain ⟨vs, z, e, r⟩ := q; exact ⟨vs, by rw [upd_ne hne]; exact z, e, r⟩
    | ins C ns xs => obtain ⟨vs, fs, z, e, r⟩ := q; exact ⟨vs, fs, by rw [upd_ne hne]; exact z, e, r⟩
    | frz d => exact ⟨q.1, by rw [upd_ne hne]; exact q.2⟩
theorem cell_at {K : PySem.W.Frag} {A : List Addr} {s : Sto} {H : Hp} {v : V} {j : Nat} (r : Rep K A (vis A s H) v (.cell j)) : ∃ a, v = .ref a ∧ A[j]? = some a := by
  cases r with
  | cell e => exact ⟨_, rfl, e⟩
/-- xs[i] = v, d[k] = v -/
def putD (k : Key) (d : D) : List Key → List D → List Key × List D
  | n :: ns, v :: vs => if n = k then (n :: ns, d :: vs) else let r := putD k d ns vs; (n :: r.1, v :: r.2)
  | ns, vs => (ns ++ [k], vs ++ [d])
def gSb (da db : Den) : DTgt := fun v env s => match da env s with
  | some (.cell j, s1) => match db env s1 with
    | some (y, s2) => match s2[j]?, y with
      | some (.lst xs), .int i => match ixN xs.length i with
        | some k => some (env, s2.set j (.lst (xs.set k v)))
        | none => none
      | _, _ => none
    | none => none
  | _ => none
theorem dg_sub (ha : DE X a da) (hb : DE X b db) (has : ∀ v, assign (.Subscript a b pos) X.env v = (do
      let ov ← holding [v] (eval a X.env)
      let iv ← holding [v, ov] (eval b X.env)
      standAt pos
      holding [v, ov, iv] (setItem ov iv v)
      release [v, ov, iv] []) := by intro _; rfl) : DG X (.Subscript a b pos) (gSb da db) := by
  refine ⟨pg_imp (pg_sub ha.pe hb.pe set_list has) ?_⟩
  rintro v σ H Q ⟨A, s, env, d, env', s', R, r, e, k⟩
  unfold gSb at e
  split at e
  · rename_i j s1 e1
    split at e
    · rename_i y s2 e2
      split at e
      · rename_i xs i hc
        split at e
        · rename_i n hn
          cases e
          refine tD_mk R e1 fun o H1 A1 S1 l1 r1 => ?_
          refine tD_mk (R.le S1 l1) e2 fun u H2 A2 S2 l2 r2 => ?_
          obtain ⟨a, rfl, ha1⟩ := cell_at (r1.le l2)
          cases r2
          obtain ⟨vs, z, rs⟩ := S2.cells j _ a hc ha1
          refine ⟨a, vs, i, n, rfl, rfl, z, by rw [rs.length]; exact hn, ?_⟩
          obtain ⟨S3, l3⟩ := S2.setc (c' := .lst (xs.set n d)) (o' := .lst (vs.set n v)) ha1 hc rfl rfl fun H' h' => ⟨_, h', rs.set ((r.le l1).le l2) n⟩
          exact k σ _ A2 ((R.le S1 l1).le S3 (l2.trans l3)) (l1.trans (l2.trans l3))
        · cases e
      · cases e
    · cases e
  · cases e
/-! assignments -/
def dAsg (da : Den) (g : DTgt) : DenS := fun env s => match da env s with
  | some (x, s1) => match g x env s1 with
    | some (env2, s2) => some (.nx, env2, s2)
    | none => none
  | none => none
theorem tAsg_imp {te : TE} {tg : TG} (he : ∀ σ H Q, tD X.K da σ H Q → te σ H Q) (hg : ∀ v σ H Q, tGD X.K g v σ H Q → tg v σ H Q) : ∀ E σ H, tSD X.K W (dAsg da g) E σ H → tAsg te tg E σ H := by
  rintro E σ H ⟨A, s, env, fl, env', s', R, e, k⟩
  unfold dAsg at e
  split at e
  · rename_i x s1 e1
    split at e
    · rename_i env2 s2 e2
      cases e
      refine he σ H _ (tD_mk R e1 fun v H1 A1 S1 l1 r1 => ?_)
      exact hg v σ H1 _ ⟨A1, s1, env, x, _, _, R.le S1 l1, r1, e2, fun σ2 H2 A2 R2 l2 => k σ2 H2 A2 R2 (l1.trans l2)⟩
    · cases e
  · cases e
theorem ds_asg (ha : DE X a da) (hg : DG X tg g) (hs : swapsWithSole [tg] a pos.line X.env = pure false := by rfl) (hw : swappedStores [tg] a X.env = pure none := by rfl)
    (h1 : (assignEach [tg] X.env).map (·.2) = [assign tg X.env] := by rfl) : DS X W (.Assign [tg] a pos) (dAsg da g) := ⟨ps_imp (ps_asg ha.pe hg.pg hs hw h1) (tAsg_imp (fun _ _ _ h => h) fun _ _ _ _ h => h)⟩
/-- x = a new list, x a name whose list is changed later: a cell -/
def dNew (i : Nat) (df : DenL) : DenS := fun env s => match df env s with
  | some (xs, s1) => some (.nx, env.set i (some (.cell s1.length)), s1 ++ [.lst xs])
  | none => none
theorem newc_imp {df : DenL} {te : TE} {i : Nat} (he : ∀ σ H Q, tDF X.K df σ H Q → te σ H Q) : ∀ E σ H, tSD X.K W (dNew i df) E σ H → tAsg te (gName i) E σ H := by
  rintro E σ H ⟨A, s, env, fl, env', s', R, e, k⟩
  unfold dNew at e
  split at e
  · rename_i xs s1 e1
    cases e
    refine he σ H _ ⟨A, s, env, xs, s1, R, e1, fun p vs H' A' S l hp rs => ?_⟩
    obtain ⟨S2, l2⟩ := S.snoc (p := p) (c := .lst xs) (H' := H') del_same (fun a o h => del_sub h) fun A2 Hs2 hA hV => ⟨vs, hp, rs.mono hA hV⟩
    have R2 := R.le S2 (l.trans l2)
    exact k _ H' _ (R2.set i (.cell (by rw [← S.len]; simp))) (l.trans l2)
  · cases e
theorem ds_new {i : Nat} {x : Str} {df : DenL} {pos' : Pos} (hN : X.N.Nodup) (hf : DF X a df) (hi : X.N[i]? = some x := by rfl) (hx : Loc X.env.scope x := by first | exact .inl rfl | exact .inr rfl) (hs : swapsWith a (some (.Name x pos')) pos.line X.env = pure false := by rfl)
    (hff : X.fn x = true ∨ X.env.scope.names.lookup x = some .local := by first | exact .inl rfl | exact .inr rfl) : DS X W (.Assign [.Name x pos'] a pos) (dNew i df) := ⟨ps_imp (ps_set hN hi hx hf.pe hs hff) (newc_imp fun _ _ _ h => h)⟩
theorem ds_set {i : Nat} {x : Str} {pos' : Pos} (hN : X.N.Nodup) (ha : DE X a da) (hi : X.N[i]? = some x := by rfl) (hx : Loc X.env.scope x := by first | exact .inl rfl | exact .inr rfl) (hs : swapsWith a (some (.Name x pos')) pos.line X.env = pure false := by rfl)
    (hff : X.fn x = true ∨ X.env.scope.names.lookup x = some .local := by first | exact .inl rfl | exact .inr rfl) : DS X W (.Assign [.Name x pos'] a pos) (dAsg da (gN i)) :=
  ⟨ps_imp (ps_set hN hi hx ha.pe hs hff) (tAsg_imp (fun _ _ _ h => h) fun v σ H Q h => by
    obtain ⟨A, s, env, d, env', s', R, r, e, k⟩ := h
    cases e
    exact k _ H A (R.set i r) .refl)⟩
/-- a, b = x, y -/
def dPar (i j : Nat) (ds : DenL) : DenS := fun env s => match ds env s with
  | some ([x, y], s1) => some (.nx, (env.set i (some x)).set j (some y), s1)
  | _ => none
theorem ds_par {i j : Nat} {x y : Str} {px py pt : Pos} {kt k2 pt2} (hc : X.calm = true) (hN : X.N.Nodup) (ha : DA X [a, b] ds) (hi : X.N[i]? = some x := by rfl) (hj : X.N[j]? = some y := by rfl) (hij : i ≠ j := by decide)
    (hx : X.env.scope.names.lookup x = some .local := by rfl) (hy : X.env.scope.names.lookup y = some .local := by rfl)
    (hw : swappedStores [.Tuple [.Name x px, .Name y py] kt pt] (.Tuple [a, b] k2 pt2) X.env = pure (some [x, y]) := by rfl)
    (hs : swapsWithSole [.Tuple [.Name x px, .Name y py] kt pt] (.Tuple [a, b] k2 pt2) pos.line X.env = pure false := by rfl) :
    DS X W (.Assign [.Tuple [.Name x px, .Name y py] kt pt] (.Tuple [a, b] k2 pt2) pos) (dPar i j ds) := by
  refine ⟨ps_imp (ps_par hc hN hi hj hij hx hy ha.pa hw hs) ?_⟩
  rintro E σ H ⟨A, s, env, fl, env', s', R, e, k⟩
  unfold dPar at e
  split at e
  · rename_i x y s1 e1
    cases e
    refine tDA_mk R e1 fun vs H1 A1 S1 l1 r1 => ?_
    cases r1 with
    | cons q1 r1 =>
      cases r1 with
      | cons q2 r1 =>
        cases r1
        exact ⟨_, _, rfl, k _ H1 A1 (((R.le S1 l1).set i q1).set j q2) l1⟩
  · cases e
/-- x op= e, ints -/
def dAug (i : Nat) (f : Int → Int → Option Int) (da : Den) : DenS := fun env s => match env[i]? with
  | some (some (.int a)) => match da env s with
    | some (.int b, s1) => match f a b with
      | some z => some (.nx, env.set i (some (.int z)), s1)
      | none => none
    | _ => none
  | _ => none
theorem ds_aug {i : Nat} {x : Str} {op : Operator} {f : Int → Int → Option Int} {ti : TIp} {pos' : Pos} (hN : X.N.Nodup) (ho : PIp X op ti) (hf0 : ∀ a b z, f a b = some z → ∀ H (Q : VK), Q (.int z) H → ti (.int a) (.int b) H Q) (ha : DE X a da) (hi : X.N[i]? = some x := by rfl)
    (hx : Loc X.env.scope x := by first | exact .inl rfl | exact .inr rfl) (hff : X.fn x = true ∨ X.env.scope.names.lookup x = some .local := by first | exact .inl rfl | exact .inr rfl) : DS X W (.AugAssign (.Name x pos') op a pos) (dAug i f da) := by
  refine ⟨ps_imp (ps_aug hN hi hx ha.pe ho hff) ?_⟩
  rintro E σ H ⟨A, s, env, fl, env', s', R, e, k⟩
  unfold dAug at e
  split at e
  · rename_i a0 ha0
    split at e
    · rename_i b0 s1 e1
      split at e
      · rename_i z hz
        cases e
        obtain ⟨v, hv, rv⟩ := R.er.2 i _ ha0
        cases rv
        refine ⟨_, hv, tD_mk R e1 fun w H1 A1 S1 l1 r1 => ?_⟩
        cases r1
        exact hf0 _ _ _ hz H1 _ (k _ H1 A1 ((R.le S1 l1).set i .int) l1)
      · cases e
    · cases e
  · cases e
theorem ds_augAdd {i : Nat} {x : Str} {pos' : Pos} (hN : X.N.Nodup) (ha : DE X a da) (hi : X.N[i]? = some x := by rfl) (hx : Loc X.env.scope x := by first | exact .inl rfl | exact .inr rfl) (hff : X.fn x = true ∨ X.env.scope.names.lookup x = some .local := by first | exact .inl rfl | exact .inr rfl) :
    DS X W (.AugAssign (.Name x pos') .Add a pos) (dAug i (fun a b => some (a + b)) da) := ds_aug hN ip_add (fun a b z e H Q q => by cases e; exact ⟨_, _, rfl, rfl, q⟩) ha hi hx hff
theorem ds_augSub {i : Nat} {x : Str} {pos' : Pos} (hN : X.N.Nodup) (ha : DE X a da) (hi : X.N[i]? = some x := by rfl) (hx : Loc X.env.scope x := by first | exact .inl rfl | exact .inr rfl) (hff : X.fn x = true ∨ X.env.scope.names.lookup x = some .local := by first | exact .inl rfl | exact .inr rfl) :
    DS X W (.AugAssign (.Name x pos') .Sub a pos) (dAug i (fun a b => some (a - b)) da) := ds_aug hN ip_sub (fun a b z e H Q q => by cases e; exact ⟨_, _, rfl, rfl, q⟩) ha hi hx hff
/-! xs.append(e) and its like, as expressions -/
def dApp (da db : Den) : Den := fun env s => match da env s with
  | some (.cell j, s1) => match db env s1 with
    | some (y, s2) => match s1[j]?, s2[j]? with
      | some (.lst _), some (.lst xs) => if xs.length < sizeLine then some (.non, s2.set j (.lst (xs ++ [y]))) else none
      | _, _ => none
    | none => none
  | _ => none
theorem de_app {apos : Pos} (ha : DE X o da) (hb : DE X e db) (hbase : attributeBase o "append" X.env (eval o X.env) = eval o X.env := by rfl)
    (hfew : ((backTo pos (starEach (e :: []) X.env)).all (fun x => !x.1) && (backToKw pos (keywordEach [] X.env)).all (fun x => x.1.isSome)
      && decide ((e :: []).length + ([] : List Keyword).length + (if ([] : List Keyword).isEmpty then 0 else 1) < 30)) = true := by rfl)
    (hline : (apos.endLine == pos.line) = true := by rfl) (hs : starEach (e :: []) X.env = (false, eval e X.env) :: starEach [] X.env := by rfl) (hplain : (backTo pos (starEach [] X.env)).any (·.1) = false := by rfl) :
    DE X (.Call (.Attribute o "append" apos) [e] [] pos) (dApp da db) := by
  refine ⟨pe_imp (pe_bm PySem.F.plainAttrs_list PySem.F.slot_list_append PySem.F.type_list_append mt_append ha.pe (pa_cons hb.pe pa_nil hs) hbase hfew hline hs hplain) ?_⟩
  rintro σ H Q ⟨A, s, env, z, s', R, e, k⟩
  unfold dApp at e
  split at e
  · rename_i j s1 e1
    split at e
    · rename_i y s2 e2
      split at e
      · rename_i zs xs hc1 hc
        split at e
        · rename_i hz
          cases e
          refine tD_mk R e1 fun v H1 A1 S1 l1 r1 => ?_
          obtain ⟨a, rfl, ha0⟩ := cell_at r1
          obtain ⟨ws, z0, _⟩ := S1.cells j _ a hc1 ha0
          refine ⟨.inl ⟨rfl, ws, SqL.of z0⟩, ?_⟩
          refine tD_mk (R.le S1 l1) e2 fun u H2 A2 S2 l2 r2 => ?_
          have ha1 := l2.ad _ _ ha0
          obtain ⟨vs, z, rs⟩ := S2.cells j _ a hc ha1
          refine ⟨a, vs, u, rfl, rfl, z, by rw [rs.length]; exact hz, ?_⟩
          obtain ⟨S3, l3⟩ := S2.setc (c' := .lst (xs ++ [y])) (o' := .lst (vs ++ [u])) ha1 hc rfl rfl fun H' h' => ⟨_, h', rs.snoc r2⟩
          exact k _ _ A2 S3 (l1.trans (l2.trans l3)) .non
        · cases e
      · cases e
    · cases e
  · cases e
/-- a cell is given out for good: what reads it then reads its content -/
def dFrz (da : Den) : Den := fun env s => match da env s with
  | some (.cell j, s1) => match s1[j]? with
    | some (.lst xs) => if bnds 0 xs = true then some (.lst xs, s1.set j (.frz (.lst xs))) else none
    | _ => none
  | r => r
theorem SR.frz {K : PySem.W.Frag} {A : List Addr} {s : Sto} {H : Hp} {j : Nat} {a : Addr} {xs : List D} (R : SR K A s H) (ha : A[j]? = some a) (hc : s[j]? = some (.lst xs)) :
    SR K A (s.set j (.frz (.lst xs))) H ∧ Le A s H A (s.set j (.frz (.lst xs))) H ∧ Rep K A (vis A (s.set j (.frz (.lst xs))) H) (.ref a) (.lst xs) := by
  have hj : j < s.length := (List.getElem?_eq_some_iff.mp hc).1
  have hh : ∀ b, hid A (s.set j (.frz (.lst xs))) b → hid A s b ∧ b ≠ a := fun b => by
    rintro ⟨i, h1, h2⟩
    by_cases hi : j = i
    · subst hi
      rw [List.getElem?_set_self hj] at h2; cases h2
    · rw [List.getElem?_set_ne hi] at h2
      exact ⟨⟨i, h1, h2⟩, fun z => hi (R.nod j i a ha (z ▸ h1))⟩
  have hv : ∀ b o, vis A s H b = some o → vis A (s.set j (.frz (.lst xs))) H b = some o := fun b o h => by
    obtain ⟨n, h⟩ := vis_some h
    rw [vis_not fun z => n (hh b z).1]; exact h
  have l : Le A s H A (s.set j (.frz (.lst xs))) H := ⟨fun _ _ h => h, hv⟩
  obtain ⟨vs, z, rs⟩ := R.cells j _ a hc ha
  have rep : Rep K A (vis A (s.set j (.frz (.lst xs))) H) (.ref a) (.lst xs) := .lst (by rw [vis_not fun z => (hh a z).2 rfl]; exact z) (rs.le l)
  refine ⟨⟨by rw [List.length_set]; exact R.len, R.nod, fun i ci b h1 h2 => ?_⟩, l, rep⟩
  by_cases hi : j = i
  · subst hi
    rw [List.getElem?_set_self hj] at h1
    cases h1
    rw [ha] at h2
    cases h2
    exact ⟨rep, _, z⟩
  · rw [List.getElem?_set_ne hi] at h1
    have q := R.cells i ci b h1 h2
    cases ci with
    | lst xs => obtain ⟨vs, z, r⟩ := q; exact ⟨vs, z, r.le l⟩
    | dk ks xs => obtain ⟨vs, z, e, r⟩ := q; exact ⟨vs, z, e, r.le l⟩
    | dt ks xs => obtain ⟨vs, z, e, r⟩ := q; exact ⟨vs, z, e, r.le l⟩
    | ins C ns xs => obtain ⟨vs, fs, z, e, r⟩ := q; exact ⟨vs, fs, z, e, r.le l⟩
    | frz d => exact ⟨Rep.le l q.1, q.2⟩
theorem de_frz (ha : DE X a da) : DE X a (dFrz da) := by
  refine ⟨pe_imp ha.pe ?_⟩
  rintro σ H Q ⟨A, s, env, z, s', R, e, k⟩
  unfold dFrz at e
  split at e
  · rename_i j s1 e1
    split at e
    · rename_i xs hc
      split at e
      · cases e
        refine tD_mk R e1 fun v H1 A1 S1 l1 r1 => ?_
        obtain ⟨a, rfl, ha0⟩ := cell_at r1
        obtain ⟨S2, l2, r2⟩ := S1.frz ha0 hc
        exact k _ H1 A1 S2 (l1.trans l2) r2
      · cases e
    · cases e
  · exact ⟨A, s, env, z, s', R, e, k⟩
end
end Dx
end
section
namespace Dx
open PySem PySem.Spec PyProof.Rows L2

/-! ### while -/
def wStep (t : DenB) (b : DenS) (k : DenS) : DenS := fun env s => match t env s with
    | some (false, s1) => some (.nx, env, s1)
    | some (true, s1) => match b env s1 with
      | some (.nx, env2, s2) => k env2 s2
      | some (.ct, env2, s2) => k env2 s2
      | some (.bk, env2, s2) => some (.nx, env2, s2)
      | some (.rt r, env2, s2) => some (.rt r, env2, s2)
      | some (.ex C p, env2, s2) => some (.ex C p, env2, s2)
      | none => none
    | none => none
def whileN (t : DenB) (b : DenS) : Nat → DenS
  | 0 => fun _ _ => none
  | n + 1 => wStep t b (whileN t b n)
theorem wStep_mono {t : DenB} {b k k' : DenS} (h : ∀ env s r, k env s = some r → k' env s = some r) {env : DEnv} {s : Sto} {r} : wStep t b k env s = some r → wStep t b k' env s = some r := by
  unfold wStep
  cases t env s with
  | none => exact id
  | some p =>
    obtain ⟨bb, s1⟩ := p
    cases bb with
    | false => exact id
    | true =>
      simp only
      cases b env s1 with
      | none => exact id
      | some q =>
        obtain ⟨fl, env2, s2⟩ := q
        cases fl with
        | nx => exact h _ _ _
        | ct => exact h _ _ _
        | bk => exact id
        | rt r => exact id
        | ex C p => exact id
theorem whileN_succ {t : DenB} {b : DenS} : ∀ {n : Nat} {env : DEnv} {s : Sto} {r}, whileN t b n env s = some r → whileN t b (n + 1) env s = some r
  | 0, _, _, _, h => by cases h
  | n + 1, env, s, r, h => wStep_mono (k := whileN t b n) (k' := whileN t b (n + 1)) (fun _ _ _ h => whileN_succ h) h
theorem whileN_le {t : DenB} {b : DenS} {n m : Nat} {env : DEnv} {s : Sto} {r} (h : whileN t b n env s = some r) (hm : n ≤ m) : whileN t b m env s = some r := by
  induction hm with
  | refl => exact h
  | step _ ih => exact whileN_succ ih
open Classical in
noncomputable def dWhile (t : DenB) (b : DenS) : DenS := fun env s => if h : ∃ n r, whileN t b n env s = some r then some (Classical.choose (Classical.choose_spec h)) else none
theorem dWhile_eq {t : DenB} {b : DenS} {n : Nat} {env : DEnv} {s : Sto} {r} (h : whileN t b n env s = some r) : dWhile t b env s = some r := by
  have hx : ∃ n r, whileN t b n env s = some r := ⟨n, r, h⟩
  unfold dWhile
  rw [dif_pos hx]
  have h2 := Classical.choose_spec (Classical.choose_spec hx)
  have h3 := whileN_le h2 (Nat.le_max_left (Classical.choose hx) n)
  have h4 := whileN_le h (Nat.le_max_right (Classical.choose hx) n)
  rw [← h3, h4]
theorem dWhile_some {t : DenB} {b : DenS} {env : DEnv} {s : Sto} {r} (h : dWhile t b env s = some r) : ∃ n, whileN t b n env s = some r := by
  unfold dWhile at h
  split at h
  · rename_i hx
    exact ⟨_, by rw [← h]; exact Classical.choose_spec (Classical.choose_spec hx)⟩
  · cases h
/-- one turn -/
theorem dWhile_done {t : DenB} {b : DenS} {env : DEnv} {s s1 : Sto} (h : t env s = some (false, s1)) : dWhile t b env s = some (.nx, env, s1) := dWhile_eq (n := 1) (by show wStep _ _ _ _ _ = _; unfold wStep; simp only [h])
theorem dWhile_turn {t : DenB} {b : DenS} {env env2 : DEnv} {s s1 s2 : Sto} {r} (h : t env s = some (true, s1)) (h2 : b env s1 = some (.nx, env2, s2)) (h3 : dWhile t b env2 s2 = some r) : dWhile t b env s = some r := by
  obtain ⟨n, h3⟩ := dWhile_some h3
  exact dWhile_eq (n := n + 1) (by show wStep _ _ _ _ _ = _; unfold wStep; simp only [h, h2]; exact h3)
theorem dWhile_ret {t : DenB} {b : DenS} {env env2 : DEnv} {s s1 s2 : Sto} {r : D} (h : t env s = some (true, s1)) (h2 : b env s1 = some (.rt r, env2, s2)) : dWhile t b env s = some (.rt r, env2, s2) := dWhile_eq (n := 1) (by show wStep _ _ _ _ _ = _; unfold wStep; simp only [h, h2])
theorem dWhile_brk {t : DenB} {b : DenS} {env env2 : DEnv} {s s1 s2 : Sto} (h : t env s = some (true, s1)) (h2 : b env s1 = some (.bk, env2, s2)) : dWhile t b env s = some (.nx, env2, s2) := dWhile_eq (n := 1) (by show wStep _ _ _ _ _ = _; unfold wStep; simp only [h, h2])
theorem dWhile_cont {t : DenB} {b : DenS} {env env2 : DEnv} {s s1 s2 : Sto} {r} (h : t env s = some (true, s1)) (h2 : b env s1 = some (.ct, env2, s2)) (h3 : dWhile t b env2 s2 = some r) : dWhile t b env s = some r := by
  obtain ⟨n, h3⟩ := dWhile_some h3
  exact dWhile_eq (n := n + 1) (by show wStep _ _ _ _ _ = _; unfold wStep; simp only [h, h2]; exact h3)
section
variable {X : Cx} {W : WX} {a b c e o : Expr} {es : List Expr} {da db dc : Den} {ds : DenL} {pos p : Pos} {st : Stmt} {sts sa sb : List Stmt} {d1 d2 : DenS} {t : DenB}
theorem ds_while (hp : PassesOwn (model X.prog X.w) X.A X.env X.xe) (ht : DT X c t) (hb : DSs X W sa d1) : DS X W (.While c sa [] pos) (dWhile t d1) := by
  refine ⟨ps_imp (ps_while hp ht.pt hb.ps) ?_⟩
  rintro E σ H ⟨A, s, env, fl, env', s', R, e, k⟩
  obtain ⟨n, e⟩ := dWhile_some e
  refine ⟨fun m σ H => ∃ A s env, Rl X.K A s env σ H ∧ whileN t d1 m env s = some (fl, env', s') ∧ FlP X.K W E A s H fl env' s', ⟨n, A, s, env, R, e, k⟩, ?_⟩
  rintro m σ1 H1 ⟨A, s, env, R, e, k⟩
  cases m with
  | zero => cases e
  | succ m =>
    have e : wStep t d1 (whileN t d1 m) env s = some (fl, env', s') := e
    unfold wStep at e
    split at e
    · rename_i s1 e1
      cases e
      refine tDT_mk R e1 fun H2 A2 S2 l2 => ?_
      show (if false = true then _ else _)
      rw [if_neg Bool.false_ne_true]
      exact k _ H2 A2 (R.le S2 l2) l2
    · rename_i s1 e1
      refine tDT_mk R e1 fun H2 A2 S2 l2 => ?_
      show (if true = true then _ else _)
      rw [if_pos rfl]
      have R2 := R.le S2 l2
      have k2 := k.le l2
      refine ⟨fun σ' H' => ∃ A s env, Rl X.K A s env σ' H' ∧ whileN t d1 m env s = some (fl, env', s') ∧ FlP X.K W E A s H' fl env' s', fun σ' H' h => ⟨m, Nat.lt_succ_self _, h⟩, ?_⟩
      split at e
      · rename_i env2 s2 e2
        exact ⟨A2, s1, env, .nx, env2, s2, R2, e2, fun σ3 H3 A3 R3 l3 => ⟨A3, s2, env2, R3, e, k2.le l3⟩⟩
      · rename_i env2 s2 e2
        exact ⟨A2, s1, env, .ct, env2, s2, R2, e2, fun σ3 H3 A3 R3 l3 => ⟨A3, s2, env2, R3, e, k2.le l3⟩⟩
      · rename_i env2 s2 e2
        cases e
        exact ⟨A2, s1, env, .bk, _, _, R2, e2, k2⟩
      · rename_i r env2 s2 e2
        cases e
        exact ⟨A2, s1, env, .rt r, _, _, R2, e2, k2⟩
      · rename_i C p env2 s2 e2
        cases e
        exact ⟨A2, s1, env, .ex C p, _, _, R2, e2, k2⟩
      · cases e
    · cases e

/-! ### what is walked -/
abbrev Gd := Option (Nat × Cell)
def gdOk : Gd → Sto → Prop
  | none, _ => True
  | some (j, c), s => s[j]? = some c
abbrev DenI := DEnv → Sto → Option (List D × Gd × Sto)
def ItOk (K : PySem.W.Frag) (A : List Addr) (s : Sto) (H : Hp) (gd : Gd) (J : It) (items : List D) : Prop :=
  ∀ A' s' H', SR K A' s' H' → Le A s H A' s' H' → gdOk gd s' →
    (∀ (i : Nat) (d : D), items[i]? = some d → J.go i H' ∧ ∀ x H'', J.yld i H' x H'' → (∀ a o, H' a = some o → H'' a = some o) ∧ Rep K A' (vis A' s' H'') x d) ∧ J.stop items.length H'
theorem ItOk.le {K : PySem.W.Frag} {A A1 : List Addr} {s s1 : Sto} {H H1 : Hp} {gd : Gd} {J : It} {items : List D} (h : ItOk K A s H gd J items) (l : Le A s H A1 s1 H1) : ItOk K A1 s1 H1 gd J items :=
  fun A' s' H' S l' g => h A' s' H' S (l.trans l') g
def tDI (K : PySem.W.Frag) (d : DenI) : TI := fun σ H R => ∃ A s env items gd s', Rl K A s env σ H ∧ d env s = some (items, gd, s') ∧
  ∀ J H' A', SR K A' s' H' → Le A s H A' s' H' → ItOk K A' s' H' gd J items → R J H'
structure DI (X : Cx) (tg e : Expr) (d : DenI) : Prop where
  pi : PI X tg e (tDI X.K d)
theorem pi_imp {tg e : Expr} {t t' : TI} (h : PI X tg e t) (k : ∀ σ H Q, t' σ H Q → t σ H Q) : PI X tg e t' := ⟨fun pins s σ H Q I q => h.run pins s σ H Q I (k σ H Q q)⟩
variable {tg : Expr}
/-- a list, a cell's list (unchanged while it is walked), the script -/
def iLst (da : Den) : DenI := fun env s => match da env s with
  | some (x, s1) => match x with
    | .lst xs => some (xs, none, s1)
    | .scr ns => some (ns.map D.int, none, s1)
    | .cell j => match s1[j]? with
      | some (.lst xs) => some (xs, some (j, .lst xs), s1)
      | _ => none
    | _ => none
  | none => none
theorem itl_ok {K : PySem.W.Frag} {A : List Addr} {s : Sto} {H : Hp} {gd : Gd} {a : Addr} {vs : List V} {xs : List D} (h : ∀ A' s' H', SR K A' s' H' → Le A s H A' s' H' → gdOk gd s' → ∃ ws, SqL K H' a ws ∧ Reps K A' (vis A' s' H') ws xs) : ItOk K A s H gd (Itl K a) xs := by
  intro A' s' H' S l g
  obtain ⟨ws, hs, rs⟩ := h A' s' H' S l g
  refine ⟨fun i d hd => ?_, ⟨ws, hs, by rw [rs.length]; exact Nat.le_refl _⟩⟩
  obtain ⟨v, hv, rv⟩ := rs.get hd
  refine ⟨⟨ws, v, hs, hv⟩, fun x H'' y => ?_⟩
  obtain ⟨e1, y⟩ := y
  subst e1
  have e2 := y ws hs
  rw [hv] at e2
  cases e2
  exact ⟨fun _ _ h => h, rv⟩
theorem di_list (ha : DE X a da) : DI X tg a (iLst da) := by
  refine ⟨pi_imp (pi_list ha.pe) ?_⟩
  rintro σ H R ⟨A, s, env, items, gd, s', Rr, e, k⟩
  unfold iLst at e
  split at e
  · rename_i x s1 e1
    refine tD_mk Rr e1 fun v H1 A1 S1 l1 r1 => ?_
    split at e
    · cases e
      cases r1 with
      | lst h rs =>
        rename_i a vs
        refine ⟨a, rfl, ⟨vs, SqL.of (vis_sub h)⟩, k _ H1 A1 S1 l1 (itl_ok (vs := vs) fun A' s' H' S l g => ⟨vs, SqL.of (vis_sub (l.vs _ _ h)), rs.le l⟩)⟩
    · cases e
      cases r1 with
      | scr h =>
        rename_i ns a
        have sub : ∀ {A s H}, ∀ a o, vis A s H a = some o → H a = some o := fun a o => vis_sub
        exact ⟨a, rfl, ⟨_, sql_mono sub h⟩, k _ H1 A1 S1 l1 (itl_ok (vs := []) fun A' s' H' S l g => ⟨_, sql_mono sub (sql_mono l.vs h), ints_rep _⟩)⟩
    · rename_i j
      split at e
      · rename_i xs hc
        cases e
        obtain ⟨a, rfl, ha0⟩ := cell_at r1
        obtain ⟨vs, z, rs⟩ := S1.cells j _ a hc ha0
        refine ⟨a, rfl, ⟨vs, SqL.of z⟩, k _ H1 A1 S1 l1 (itl_ok (vs := vs) fun A' s' H' S l g => ?_)⟩
        obtain ⟨ws, z2, rs2⟩ := S.cells j _ a g (l.ad _ _ ha0)
        exact ⟨ws, SqL.of z2, rs2⟩
      · cases e
    · cases e
  · cases e
def iTupD (da : Den) : DenI := fun env s => match da env s with
  | some (.tup xs, s1) => some (xs, none, s1)
  | _ => none
theorem di_tup (ha : DE X a da) : DI X tg a (iTupD da) := by
  refine ⟨pi_imp (pi_tup ha.pe) ?_⟩
  rintro σ H R ⟨A, s, env, items, gd, s', Rr, e, k⟩
  unfold iTupD at e
  split at e
  · rename_i xs s1 e1
    cases e
    refine tD_mk Rr e1 fun v H1 A1 S1 l1 r1 => ?_
    have sub : ∀ {A s H}, ∀ a o, vis A s H a = some o → H a = some o := fun a o => vis_sub
    cases r1 with
    | tup h rs =>
      rename_i a vs
      refine ⟨a, rfl, ⟨vs, sqt_mono sub h⟩, k _ H1 A1 S1 l1 fun A' s' H' S l g => ?_⟩
      have hs : SqT X.K H' a vs := sqt_mono sub (sqt_mono l.vs h)
      have rs' := rs.le l
      refine ⟨fun i d hd => ?_, ⟨vs, hs, by rw [rs'.length]; exact Nat.le_refl _⟩⟩
      obtain ⟨v, hv, rv⟩ := rs'.get hd
      refine ⟨⟨vs, v, hs, hv⟩, fun x H'' y => ?_⟩
      obtain ⟨e1, y⟩ := y
      subst e1
      have e2 := y vs hs
      rw [hv] at e2
      cases e2
      exact ⟨fun _ _ h => h, rv⟩
  · cases e
def rangeL (lo : Int) (n : Nat) : List D := (List.range n).map fun (i : Nat) => D.int (lo + (i : Int))
theorem rangeL_get {lo : Int} {n i : Nat} {d : D} (h : (rangeL lo n)[i]? = some d) : i < n ∧ d = .int (lo + (i : Int)) := by
  unfold rangeL at h
  rw [List.getElem?_map] at h
  by_cases hi : i < n
  · rw [List.getElem?_range hi] at h
    exact ⟨hi, (Option.some.inj h).symm⟩
  · rw [List.getElem?_eq_none (by simpa using hi)] at h
    cases h
theorem itr_ok {K : PySem.W.Frag} {A : List Addr} {s : Sto} {H : Hp} {lo : Int} {n : Nat} : ItOk K A s H none (Itr lo n) (rangeL lo n) := by
  intro A' s' H' S l g
  refine ⟨fun i d hd => ?_, ?_⟩
  · obtain ⟨hi, rfl⟩ := rangeL_get hd
    refine ⟨hi, fun x H'' y => ?_⟩
    obtain ⟨rfl, rfl⟩ := y
    exact ⟨fun _ _ h => h, .int⟩
  · show n ≤ (rangeL lo n).length
    unfold rangeL
    rw [List.length_map, List.length_range]
    exact Nat.le_refl _
def iR1 (da : Den) : DenI := fun env s => match da env s with
  | some (.int n, s1) => if -(2 ^ 62) ≤ n ∧ n < 2 ^ 62 then some (rangeL 0 n.toNat, none, s1) else none
  | _ => none
def iR2 (da db : Den) : DenI := fun env s => match da env s with
  | some (.int i, s1) => match db env s1 with
    | some (.int j, s2) => if -(2 ^ 62) ≤ i ∧ i < 2 ^ 62 ∧ -(2 ^ 62) ≤ j ∧ j < 2 ^ 62 then some (rangeL i (j - i).toNat, none, s2) else none
    | _ => none
  | _ => none
theorem di_range1 (hm : X.mg "range" = none) (ha : DE X a da) (hg : Gl X "range" := by rfl) (hs : starEach [a] X.env = [(false, eval a X.env)] := by rfl) : DI X tg (.Call (.Name "range" p) [a] [] pos) (iR1 da) := by
  refine ⟨pi_imp (pi_range1 hg hm (pa_cons ha.pe pa_nil (by rw [hs]; rfl)) hs) ?_⟩
  rintro σ H R ⟨A, s, env, items, gd, s', Rr, e, k⟩
  unfold iR1 at e
  split at e
  · split at e
    · rename_i n s1 e1 hn
      cases e
      refine tD_mk Rr e1 fun vs H1 A1 S1 l1 r1 => ?_
      cases r1
      exact ⟨n, rfl, hn.1, hn.2, k _ H1 A1 S1 l1 itr_ok⟩
    · cases e
  · cases e
theorem di_range2 (hm : X.mg "range" = none) (ha : DE X a da) (hb : DE X b db) (hg : Gl X "range" := by rfl) (hs : starEach [a, b] X.env = [(false, eval a X.env), (false, eval b X.env)] := by rfl) (hs2 : starEach [b] X.env = [(false, eval b X.env)] := by rfl) : DI X tg (.Call (.Name "range" p) [a, b] [] pos) (iR2 da db) := by
  refine ⟨pi_imp (pi_range2 hg hm (pa_cons ha.pe (pa_cons hb.pe pa_nil (by rw [hs2]; rfl)) (by rw [hs, hs2])) hs hs2) ?_⟩
  rintro σ H R ⟨A, s, env, items, gd, s', Rr, e, k⟩
  unfold iR2 at e
  split at e
  · split at e
    · split at e
      · rename_i i s1 e1 _ j s2 e2 hn
        cases e
        refine tD_mk Rr e1 fun v H1 A1 S1 l1 r1 => ?_
        refine tD_mk (Rr.le S1 l1) e2 fun u H2 A2 S2 l2 r2 => ?_
        cases r1
        cases r2
        exact ⟨i, j, rfl, hn, k _ H2 A2 S2 (l1.trans l2) itr_ok⟩
      · cases e
    · cases e
  · cases e
/-- a text, sign by sign -/
def iStrD (da : Den) : DenI := fun env s => match da env s with
  | some (.str x, s1) => some (x.map fun c => .str [c], none, s1)
  | _ => none
theorem di_str (ha : DE X a da) : DI X tg a (iStrD da) := by
  refine ⟨pi_imp (pi_str ha.pe) ?_⟩
  rintro σ H R ⟨A, s, env, items, gd, s', Rr, e, k⟩
  unfold iStrD at e
  split at e
  · rename_i x s1 e1
    cases e
    refine tD_mk Rr e1 fun v H1 A1 S1 l1 r1 => ?_
    cases r1
    refine ⟨S x, rfl, k _ H1 A1 S1 l1 fun A' s' H' S' l g => ⟨fun i d hd => ?_, ?_⟩⟩
    · rw [List.getElem?_map] at hd
      cases q : x[i]? with
      | none => rw [q] at hd; cases hd
      | some c =>
        rw [q] at hd
        cases hd
        have hi := (List.getElem?_eq_some_iff.mp q).1
        refine ⟨by show i < (S x).cps.size; simpa [S] using hi, fun y H'' yy => ?_⟩
        obtain ⟨rfl, c', hc, rfl⟩ := yy
        have e2 : c' = c := by
          have : x[i]? = some c' := by simpa [S] using hc
          rw [q] at this; cases this; rfl
        subst e2
        have e3 : (⟨#[c']⟩ : Str) = S [c'] := by simp [S]
        exact ⟨fun _ _ h => h, by rw [e3]; exact .str⟩
    · show (S x).cps.size ≤ _
      simp [S]
  · cases e
/-- one of two sources, by the values -/
def iOr (d1 d2 : DenI) : DenI := fun env s => match d1 env s with
  | some r => some r
  | none => d2 env s
theorem pi_or {tg e : Expr} {t t' : TI} (h : PI X tg e t) (h' : PI X tg e t') : PI X tg e (fun σ H Q => t σ H Q ∨ t' σ H Q) := ⟨fun pins s σ H Q I q => q.elim (fun q => h.run pins s σ H Q I q) fun q => h'.run pins s σ H Q I q⟩
theorem di_or {d1 d2 : DenI} (h1 : DI X tg a d1) (h2 : DI X tg a d2) : DI X tg a (iOr d1 d2) := by
  refine ⟨pi_imp (pi_or h1.pi h2.pi) ?_⟩
  rintro σ H R ⟨A, s, env, items, gd, s', Rr, e, k⟩
  unfold iOr at e
  split at e
  · rename_i r q
    cases e
    exact .inl ⟨A, s, env, items, gd, s', Rr, q, k⟩
  · exact .inr ⟨A, s, env, items, gd, s', Rr, e, k⟩
/-- any expression that is walked: a list, a tuple, a text -/
def iAny (da : Den) : DenI := iOr (iLst da) (iOr (iTupD da) (iStrD da))
theorem di_any (ha : DE X a da) : DI X tg a (iAny da) := di_or (di_list ha) (di_or (di_tup ha) (di_str ha))

/-! ### for -/
open Classical in
noncomputable def forL (g : DTgt) (b : DenS) (gd : Gd) : List D → DenS
  | [] => fun env s => if gdOk gd s then some (.nx, env, s) else none
  | d :: ds => fun env s => if gdOk gd s then match g d env s with
    | some (env1, s1) => match b env1 s1 with
      | some (.nx, env2, s2) => forL g b gd ds env2 s2
      | some (.ct, env2, s2) => forL g b gd ds env2 s2
      | some (.bk, env2, s2) => some (.nx, env2, s2)
      | some (.rt r, env2, s2) => some (.rt r, env2, s2)
      | some (.ex C p, env2, s2) => some (.ex C p, env2, s2)
      | none => none
    | none => none
    else none
noncomputable def dFor (src : DenI) (g : DTgt) (b : DenS) : DenS := fun env s => match src env s with
  | some (items, gd, s1) => forL g b gd items env s1
  | none => none
variable {src : DenI} {g : DTgt}
theorem ds_for (hp : PassesOwn (model X.prog X.w) X.A X.env X.xe) (hc : X.calm = true) (hi : DI X tg e src) (hg : DG X tg g) (hb : DSs X W sa d1) (hs : ∀ x, foldedSetIterable e X.env x = pure x := by intro _; rfl) : DS X W (.For tg e sa [] pos) (dFor src g d1) := by
  refine ⟨ps_imp (ps_for hp hc hi.pi hg.pg hb.ps hs) ?_⟩
  rintro E σ H ⟨A, s, env, fl, env', s', R, e, k⟩
  unfold dFor at e
  split at e
  · rename_i items gd s1 e1
    refine ⟨A, s, env, items, gd, s1, R, e1, fun J H1 A1 S1 l1 hJ => ?_⟩
    refine ⟨fun i m σ H => ∃ A s env, Rl X.K A s env σ H ∧ Le A1 s1 H1 A s H ∧ m = items.length - i ∧ i ≤ items.length ∧ forL g d1 gd (items.drop i) env s = some (fl, env', s') ∧ FlP X.K W E A s H fl env' s',
      ⟨items.length, A1, s1, env, R.le S1 l1, .refl, by simp, Nat.zero_le _, by simpa using e, k.le l1⟩, ?_⟩
    rintro i m σ2 H2 ⟨A2, s2, env2, R2, l2, rfl, hi, e2, k2⟩
    by_cases hlt : i < items.length
    · obtain ⟨d, hd⟩ : ∃ d, items[i]? = some d := ⟨items[i], List.getElem?_eq_getElem hlt⟩
      have ed : items.drop i = d :: items.drop (i + 1) := by
        rw [List.drop_eq_getElem_cons hlt]
        congr 1
        rw [List.getElem?_eq_getElem hlt] at hd
        exact Option.some.inj hd
      rw [ed] at e2
      unfold forL at e2
      split at e2
      · rename_i hgd
        have h3 := hJ A2 s2 H2 R2.sr l2 hgd
        obtain ⟨hgo, hy⟩ := h3.1 i d hd
        refine .inr ⟨hgo, fun σ' H' => ∃ A s env, Rl X.K A s env σ' H' ∧ Le A1 s1 H1 A s H' ∧ forL g d1 gd (items.drop (i + 1)) env s = some (fl, env', s') ∧ FlP X.K W E A s H' fl env' s',
          fun σ' H' ⟨A, s, env, R', l', e', k'⟩ => ⟨items.length - (i + 1), by omega, A, s, env, R', l', rfl, hlt, e', k'⟩, fun x H3 y3 => ?_⟩
        obtain ⟨x3, r3⟩ := hy x H3 y3
        obtain ⟨S3, l3⟩ := R2.sr.ex x3
        split at e2
        · rename_i env4 s4 e4
          refine ⟨A2, s2, env2, d, env4, s4, R2.le S3 l3, r3, e4, fun σ4 H4 A4 R4 l4 => ?_⟩
          have l24 := l3.trans l4
          split at e2
          · rename_i env5 s5 e5
            exact ⟨A4, s4, env4, .nx, env5, s5, R4, e5, fun σ6 H6 A6 R6 l6 => ⟨A6, s5, env5, R6, l2.trans (l24.trans l6), e2, k2.le (l24.trans l6)⟩⟩
          · rename_i env5 s5 e5
            exact ⟨A4, s4, env4, .ct, env5, s5, R4, e5, fun σ6 H6 A6 R6 l6 => ⟨A6, s5, env5, R6, l2.trans (l24.trans l6), e2, k2.le (l24.trans l6)⟩⟩
          · rename_i env5 s5 e5
            cases e2
            exact ⟨A4, s4, env4, .bk, _, _, R4, e5, k2.le l24⟩
          · rename_i r env5 s5 e5
            cases e2
            exact ⟨A4, s4, env4, .rt r, _, _, R4, e5, k2.le l24⟩
          · rename_i C p env5 s5 e5
            cases e2
            exact ⟨A4, s4, env4, .ex C p, _, _, R4, e5, k2.le l24⟩
          · cases e2
        · cases e2
      · cases e2
    · have hn : items.drop i = [] := List.drop_eq_nil_of_le (by omega)
      rw [hn] at e2
      unfold forL at e2
      split at e2
      · rename_i hgd
        cases e2
        have h3 := hJ A2 _ H2 R2.sr l2 hgd
        have : i = items.length := by omega
        subst this
        exact .inl ⟨h3.2, k2 σ2 H2 A2 R2 .refl⟩
      · cases e2
  · cases e
end
end Dx
end
section
namespace Dx
open PySem PySem.Spec PyProof.Rows L2

/-! ### list comprehensions -/
/-- the last cell, a live one, is given up, and its object with it -/
theorem SR.drop1 {K : PySem.W.Frag} {A : List Addr} {s1 : Sto} {c : Cell} {H : Hp} {p : Addr} (R : SR K A (s1 ++ [c]) H) (hl : live (some c) = true) (hp : A[s1.length]? = some p) (hb : ∀ c ∈ s1, Dx.bndC s1.length c = true) :
    SR K (A.take s1.length) s1 (del H p) ∧ (∀ a o, vis A (s1 ++ [c]) H a = some o → vis (A.take s1.length) s1 (del H p) a = some o) ∧ (∀ (j : Nat) (a : Addr), j < s1.length → A[j]? = some a → (A.take s1.length)[j]? = some a) := by
  have hA : ∀ (j : Nat) (a : Addr), j < s1.length → A[j]? = some a → (A.take s1.length)[j]? = some a := fun j a hj e => by
    rw [List.getElem?_take, if_pos hj]; exact e
  have hA' : ∀ (j : Nat) (a : Addr), (A.take s1.length)[j]? = some a → j < s1.length ∧ A[j]? = some a := fun j a e => by
    rw [List.getElem?_take] at e
    split at e
    · exact ⟨by assumption, e⟩
    · cases e
  have hne : ∀ (j : Nat) (a : Addr), j < s1.length → A[j]? = some a → a ≠ p := fun j a hj e z => by
    subst z
    have := R.nod _ _ _ e hp
    omega
  have hH : ∀ a o, vis A (s1 ++ [c]) H a = some o → vis (A.take s1.length) s1 (del H p) a = some o := fun a o e => by
    obtain ⟨n, e⟩ := vis_some e
    have hap : a ≠ p := fun z => n ⟨s1.length, by rw [z]; exact hp, by simpa using hl⟩
    rw [vis_not, del_ne hap]
    · exact e
    · rintro ⟨j, h1, h2⟩
      obtain ⟨hj, h1⟩ := hA' j a h1
      exact n ⟨j, h1, by rw [List.getElem?_append_left hj]; exact h2⟩
  have hlen : (A.take s1.length).length = s1.length := by
    rw [List.length_take, R.len, List.length_append]; omega
  refine ⟨⟨hlen, fun i j a h1 h2 => R.nod i j a (hA' i a h1).2 (hA' j a h2).2, fun j c' a hc ha => ?_⟩, hH, hA⟩
  obtain ⟨hj, ha⟩ := hA' j a ha
  have q := R.cells j c' a (by rw [List.getElem?_append_left hj]; exact hc) ha
  have b := hb c' (List.mem_of_getElem? hc)
  have hap := hne j a hj ha
  cases c' with
  | lst xs => obtain ⟨vs, z, r⟩ := q; exact ⟨vs, by rw [del_ne hap]; exact z, r.back hA hH b⟩
  | dk ks xs => obtain ⟨vs, z, e, r⟩ := q; exact ⟨vs, by rw [del_ne hap]; exact z, e, r.back hA hH b⟩
  | dt ks xs => obtain ⟨vs, z, e, r⟩ := q; exact ⟨vs, by rw [del_ne hap]; exact z, e, r.back hA hH b⟩
  | ins C ns xs => obtain ⟨vs, fs, z, e, r⟩ := q; exact ⟨vs, fs, by rw [del_ne hap]; exact z, e, r.back hA hH b⟩
  | frz d => exact ⟨Rep.back hA hH q.1 b, by rw [del_ne hap]; exact q.2⟩
def wipeE (env : DEnv) : List Nat → DEnv
  | [] => env
  | v :: vs => (wipeE env vs).set v none
theorem EnvR.unset {K : PySem.W.Frag} {A : List Addr} {H : Hp} {env : DEnv} {σ : L2.St} (e : EnvR K A H env σ) (i : Nat) : EnvR K A H (env.set i none) (σ.set i none) :=
  ⟨by rw [List.length_set, List.length_set, e.1], fun j x h => by
    by_cases hj : i = j
    · subst hj
      have hl : i < env.length := by
        have := (List.getElem?_eq_some_iff.mp h).1
        rw [List.length_set] at this; exact this
      rw [List.getElem?_set_self hl] at h
      cases h
    · rw [List.getElem?_set_ne hj] at h
      obtain ⟨w, h1, h2⟩ := e.2 j x h
      exact ⟨w, by rw [List.getElem?_set_ne hj]; exact h1, h2⟩⟩
theorem EnvR.wipe {K : PySem.W.Frag} {A : List Addr} {H : Hp} {env : DEnv} {σ : L2.St} (e : EnvR K A H env σ) : ∀ vs : List Nat, EnvR K A H (wipeE env vs) (L2.wipe σ vs)
  | [] => e
  | v :: vs => (EnvR.wipe e vs).unset v
/-- a target that stores into the block's own slots alone -/
def tGDo (K : PySem.W.Frag) (vs : List Nat) (g : DTgt) : TG := fun v σ H Q => ∃ A s env d env' s', Rl K A s env σ H ∧ Rep K A (vis A s H) v d ∧ g d env s = some (env', s') ∧ ∀ σ' H' A', Rl K A' s' env' σ' H' → Le A s H A' s' H' → wipe σ' vs = wipe σ vs → Q σ' H'
def tGDos (K : PySem.W.Frag) (vs : List Nat) (g : DTgts) : TGs := fun v σ H Q => ∃ A s env d env' s', Rl K A s env σ H ∧ Reps K A (vis A s H) v d ∧ g d env s = some (env', s') ∧ ∀ σ' H' A', Rl K A' s' env' σ' H' → Le A s H A' s' H' → wipe σ' vs = wipe σ vs → Q σ' H'
structure DGo (X : Cx) (vs : List Nat) (tg : Expr) (g : DTgt) : Prop where
  pg : PG X tg (tGDo X.K vs g)
structure DGos (X : Cx) (vs : List Nat) (tg : List Expr) (g : DTgts) : Prop where
  pg : PGs X tg (tGDos X.K vs g)
theorem wipe_set {σ : L2.St} {i : Nat} {x : Option V} : ∀ {vs : List Nat}, i ∈ vs → wipe (σ.set i x) vs = wipe σ vs
  | v :: vs, h => by
    show (wipe (σ.set i x) vs).set v none = (wipe σ vs).set v none
    by_cases hi : i ∈ vs
    · rw [wipe_set hi]
    · have hv : i = v := by simpa [hi] using h
      subst hv
      have : ∀ ws : List Nat, i ∉ ws → wipe (σ.set i x) ws = (wipe σ ws).set i x := fun ws => by
        induction ws with
        | nil => intro _; rfl
        | cons w ws ih =>
          intro hw
          show (wipe (σ.set i x) ws).set w none = ((wipe σ ws).set w none).set i x
          rw [ih fun z => hw (List.mem_cons_of_mem _ z), List.set_comm _ _ (fun z => hw (by rw [z]; exact List.mem_cons_self))]
      rw [this vs hi, List.set_set]
section
variable {X : Cx} {W : WX} {a b c e o : Expr} {es : List Expr} {da db dc : Den} {ds : DenL} {pos p : Pos} {vs : List Nat} {g : DTgt} {gs : DTgts} {tg : Expr} {tgs : List Expr}
theorem dgo_name {i : Nat} {x : Str} (hN : X.N.Nodup) (hv : i ∈ vs) (hi : X.N[i]? = some x := by rfl) (hx : Loc X.env.scope x := by first | exact .inl rfl | exact .inr rfl) (hf : X.fn x = true ∨ X.env.scope.names.lookup x = some .local := by first | exact .inl rfl | exact .inr rfl) : DGo X vs (.Name x pos) (gN i) := by
  refine ⟨pg_imp (pg_name hN hi hx hf) ?_⟩
  rintro v σ H Q ⟨A, s, env, d, env', s', R, r, e, k⟩
  cases e
  exact k _ H A (R.set i r) .refl (wipe_set hv)
theorem dgos_nil : DGos X vs [] gNilD := by
  refine ⟨pgs_imp pgs_nil ?_⟩
  rintro v σ H Q ⟨A, s, env, d, env', s', R, r, e, k⟩
  cases r
  · cases e
    exact ⟨rfl, k _ H A R .refl rfl⟩
  · cases e
theorem dgos_cons (h1 : DGo X vs tg g) (h2 : DGos X vs tgs gs) (hs : (assignEach (tg :: tgs) X.env).map (·.2) = assign tg X.env :: (assignEach tgs X.env).map (·.2) := by rfl) : DGos X vs (tg :: tgs) (gConsD g gs) := by
  refine ⟨pgs_imp (pgs_cons h1.pg h2.pg hs) ?_⟩
  rintro v σ H Q ⟨A, s, env, d, env', s', R, r, e, k⟩
  cases r
  · cases e
  · rename_i v d ws ds r rs
    simp only [gConsD] at e
    split at e
    · rename_i env1 s1 e1
      refine ⟨v, ws, rfl, A, s, env, d, env1, s1, R, r, e1, fun σ1 H1 A1 R1 l1 w1 => ?_⟩
      exact ⟨A1, s1, env1, ds, env', s', R1, rs.le l1, e, fun σ2 H2 A2 R2 l2 w2 => k σ2 H2 A2 R2 (l1.trans l2) (w2.trans w1)⟩
    · cases e
theorem dgo_tup {k n : Nat} (hc : X.calm = true) (h : DGos X vs tgs gs) (hn : (assignEach tgs X.env).length = n := by rfl) (hst : (assignEach tgs X.env).findIdx? (·.1) = none := by rfl) : DGo X vs (.Tuple tgs k pos) (gT n gs) := by
  refine ⟨pg_imp (pg_tup hc h.pg hn hst) ?_⟩
  rintro v σ H Q ⟨A, s, env, d, env', s', R, r, e, k⟩
  unfold gT at e
  split at e
  · split at e
    · rename_i xs hl
      cases r with
      | tup hs rs => exact ⟨_, _, rfl, sqt_mono (fun a o => vis_sub) hs, by rw [rs.length]; exact hl, A, s, env, _, env', s', R, rs, e, k⟩
    · cases e
  · cases e
structure DTs (X : Cx) (ifs : List Expr) (t : DenB) : Prop where
  pt : PTs X ifs (tDT X.K t)
def dYes : DenB := fun _ s => some (true, s)
theorem dts_nil : DTs X [] dYes := by
  refine ⟨⟨fun pins s σ H Q I h => ?_⟩⟩
  obtain ⟨A, st, env, b, s', R, e, k⟩ := h
  cases e
  exact pts_nil.run pins s σ H Q I (k H A R.sr .refl)
theorem dts_one {t : DenB} (h : DT X c t) : DTs X [c] t := ⟨pts_one h.pt⟩
open Classical in
noncomputable def compL (vs : List Nat) (g : DTgt) (tt : DenB) (te : Den) (gd : Gd) (n : Nat) (env : DEnv) : List D → Sto → Option Sto
  | [] => fun s => if gdOk gd s then some s else none
  | d :: ds => fun s => if gdOk gd s then match g d (wipeE env vs) s with
    | some (env1, s1) => match tt env1 s1 with
      | some (true, s2) => match te env1 s2 with
        | some (y, s3) => match s3[n]? with
          | some (.lst acc) => if acc.length < sizeLine then compL vs g tt te gd n env ds (s3.set n (.lst (acc ++ [y]))) else none
          | _ => none
        | none => none
      | some (false, s2) => compL vs g tt te gd n env ds s2
      | none => none
    | none => none
    else none
def keepB (n : Nat) (xs : List D) (s : Sto) : Bool := bnds n xs && s.all fun c => bndC n c
noncomputable def dComp (src : DenI) (vs : List Nat) (g : DTgt) (tt : DenB) (te : Den) : DenL := fun env s => match src env s with
  | some (items, gd, s1) => match compL vs g tt te gd s1.length env items (s1 ++ [.lst []]) with
    | some s2 => match s2[s1.length]? with
      | some (.lst xs) => if s2.length = s1.length + 1 ∧ keepB s1.length xs (s2.take s1.length) = true then some (xs, s2.take s1.length) else none
      | _ => none
    | none => none
  | none => none
variable {src : DenI} {tt : DenB}
theorem comp_imp {wi : TI} {gt : TG} {ttt : TT} {tet : TE} (hw : ∀ σ H R, tDI X.K src σ H R → wi σ H R) (hg : ∀ v σ H Q, tGDo X.K vs g v σ H Q → gt v σ H Q) (ht : ∀ σ H Q, tDT X.K tt σ H Q → ttt σ H Q) (he : ∀ σ H Q, tD X.K da σ H Q → tet σ H Q) :
    ∀ σ H Q, tDF X.K (dComp src vs g tt da) σ H Q → tLc wi gt ttt tet vs σ H Q := by
  rintro σ H Q ⟨A, s, env, r, s', R, e, k⟩
  unfold dComp at e
  split at e
  · rename_i items gd s1 e1
    split at e
    · rename_i s2 e2
      refine hw σ H _ ⟨A, s, env, items, gd, s1, R, e1, fun J H1 A1 S1 l1 hJ => fun D hD => ?_⟩
      obtain ⟨S0, l0⟩ := S1.snoc (p := D) (c := .lst []) (H' := upd H1 D (.lst [])) hD (ex_upd hD) fun A' Hs' _ _ => ⟨[], upd_same, .nil⟩
      refine ⟨fun i m H => ∃ A s, SR X.K A s H ∧ Le (A1 ++ [D]) (s1 ++ [.lst []]) (upd H1 D (.lst [])) A s H ∧ m = items.length - i ∧ i ≤ items.length ∧ compL vs g tt da gd s1.length env (items.drop i) s = some s2,
        ⟨items.length, A1 ++ [D], s1 ++ [.lst []], S0, .refl, by simp, Nat.zero_le _, by simpa using e2⟩, ?_⟩
      rintro i m H2 ⟨A2, t2, S2, l2, rfl, hi, ec⟩
      have lA : Le A1 s1 H1 A2 t2 H2 := l0.trans l2
      by_cases hlt : i < items.length
      · obtain ⟨d, hd⟩ : ∃ d, items[i]? = some d := ⟨items[i], List.getElem?_eq_getElem hlt⟩
        have ed : items.drop i = d :: items.drop (i + 1) := by
          rw [List.drop_eq_getElem_cons hlt]
          congr 1
          rw [List.getElem?_eq_getElem hlt] at hd
          exact Option.some.inj hd
        rw [ed] at ec
        unfold compL at ec
        split at ec
        · rename_i hgd
          obtain ⟨hgo, hy⟩ := (hJ A2 t2 H2 S2 lA hgd).1 i d hd
          refine .inr ⟨hgo, fun H' => ∃ A s, SR X.K A s H' ∧ Le (A1 ++ [D]) (s1 ++ [.lst []]) (upd H1 D (.lst [])) A s H' ∧ compL vs g tt da gd s1.length env (items.drop (i + 1)) s = some s2,
            fun H' ⟨A, s, S', l', e'⟩ => ⟨items.length - (i + 1), by omega, A, s, S', l', rfl, hlt, e'⟩, fun x H3 y3 => ?_⟩
          obtain ⟨x3, r3⟩ := hy x H3 y3
          obtain ⟨S3, l3⟩ := S2.ex x3
          split at ec
          · rename_i env4 t4 e4
            have E3 : EnvR X.K A2 (vis A2 t2 H3) env σ := (((R.er.le l1).le lA).le l3)
            refine hg x _ H3 _ ⟨A2, t2, wipeE env vs, d, env4, t4, ⟨S3, E3.wipe vs⟩, r3, e4, fun σ4 H4 A4 R4 l4 w4 => ⟨?_, ?_⟩⟩
            · rw [w4]
              have : ∀ (ws : List Nat) (τ : L2.St), (∀ i ∈ ws, τ[i]? = some none ∨ τ[i]? = none) → wipe τ ws = τ := fun ws τ => by
                induction ws with
                | nil => intro _; rfl
                | cons w ws ih =>
                  intro h
                  show (wipe τ ws).set w none = τ
                  rw [ih fun i hi => h i (List.mem_cons_of_mem _ hi)]
                  rcases h w List.mem_cons_self with q | q
                  · refine List.ext_getElem? fun j => ?_
                    by_cases hj : w = j
                    · subst hj
                      rw [List.getElem?_set_self (List.getElem?_eq_some_iff.mp q).1, q]
                    · rw [List.getElem?_set_ne hj]
                  · exact List.set_eq_of_length_le (List.getElem?_eq_none_iff.mp q)
              refine this vs _ fun i hi => ?_
              cases q : (wipe σ vs)[i]? with
              | none => exact .inr rfl
              | some z =>
                cases z with
                | none => exact .inl rfl
                | some v => exact absurd hi (wipe_some q).2
            · split at ec
              · rename_i t5 e5
                refine ht σ4 H4 _ (tDT_mk R4 e5 fun H5 A5 S5 l5 => ?_)
                rw [if_pos rfl]
                split at ec
                · rename_i y t6 e6
                  refine he σ4 H5 _ (tD_mk (R4.le S5 l5) e6 fun v H6 A6 S6 l6 r6 => ?_)
                  split at ec
                  · rename_i acc hacc
                    split at ec
                    · rename_i hz
                      have l36 := l2.trans (l3.trans (l4.trans (l5.trans l6)))
                      have hD6 : A6[s1.length]? = some D := l36.ad _ _ (by rw [← S1.len]; simp)
                      obtain ⟨ws, z, rs⟩ := S6.cells _ _ D hacc hD6
                      obtain ⟨S7, l7⟩ := S6.setc (c' := .lst (acc ++ [y])) (o' := .lst (ws ++ [v])) hD6 hacc rfl rfl fun H' h' => ⟨_, h', rs.snoc r6⟩
                      exact ⟨ws, z, by rw [rs.length]; exact hz, A6, _, S7, l36.trans l7, ec⟩
                    · cases ec
                  · cases ec
                · cases ec
              · rename_i t5 e5
                refine ht σ4 H4 _ (tDT_mk R4 e5 fun H5 A5 S5 l5 => ?_)
                rw [if_neg Bool.false_ne_true]
                exact ⟨A5, t5, S5, l2.trans (l3.trans (l4.trans l5)), ec⟩
              · cases ec
          · cases ec
        · cases ec
      · have hn : items.drop i = [] := List.drop_eq_nil_of_le (by omega)
        rw [hn] at ec
        unfold compL at ec
        split at ec
        · rename_i hgd
          cases ec
          have hi' : i = items.length := by omega
          subst hi'
          refine .inl ⟨(hJ A2 _ H2 S2 lA hgd).2, ?_⟩
          split at e
          · rename_i xs hx
            split at e
            · rename_i hk
              cases e
              obtain ⟨hlen, hkeep⟩ := hk
              unfold keepB at hkeep
              rw [Bool.and_eq_true] at hkeep
              have hD2 : A2[s1.length]? = some D := l2.ad _ _ (by rw [← S1.len]; simp)
              have htl : (s2.take s1.length).length = s1.length := by rw [List.length_take]; omega
              have ex : s2 = s2.take s1.length ++ [.lst r] := by
                have e4 : s2 = s2.take s1.length ++ s2.drop s1.length := (List.take_append_drop _ _).symm
                have hl : s1.length < s2.length := by omega
                rw [List.drop_eq_getElem_cons hl, List.drop_eq_nil_of_le (by omega)] at e4
                have := List.getElem?_eq_getElem hl
                rw [hx] at this
                rw [← Option.some.inj this] at e4
                exact e4
              generalize hs3 : s2.take s1.length = s3 at *
              subst ex
              have hb : ∀ c ∈ s3, bndC s3.length c = true := fun c hc => by
                rw [htl]; exact List.all_eq_true.mp hkeep.2 c hc
              rw [← htl] at hD2
              obtain ⟨S4, hv, hA⟩ := S2.drop1 rfl hD2 hb
              obtain ⟨ws, z, rs⟩ := S2.cells s3.length (.lst r) D (by simp) hD2
              refine k D ws H2 (A2.take s3.length) S4 ⟨fun j a h => hA j a ?_ (lA.ad j a (l1.ad j a h)), fun a o h => hv a o (lA.vs a o (l1.vs a o h))⟩ z (rs.back hA hv (by rw [htl]; exact hkeep.1))
              have h1 := (List.getElem?_eq_some_iff.mp (l1.ad j a h)).1
              rw [S1.len] at h1
              omega
            · cases e
          · cases e
        · cases ec
    · cases e
  · cases e
theorem df_comp {elt iter : Expr} {ifs : List Expr} {scope : Scope} {own : List (Str × Nat)} (hc : X.calm = true) (hN : X.N.Nodup) (hi : DI X tg iter src) (ok : BlkOk X.N X.env.scope scope own)
    (hg : ∀ (s : Shared) (H : Hp) (C : Addr) (cl : List (Str × Addr)) (fp : List Addr), DGo (X.blk s H scope (compEnvC scope cl C X.env) fp) (own.map (·.2)) tg g) (ht : ∀ (s : Shared) (H : Hp) (C : Addr) (cl : List (Str × Addr)) (fp : List Addr), DTs (X.blk s H scope (compEnvC scope cl C X.env) fp) ifs tt)
    (he : ∀ (s : Shared) (H : Hp) (C : Addr) (cl : List (Str × Addr)) (fp : List Addr), DE (X.blk s H scope (compEnvC scope cl C X.env) fp) elt da) (hs : ∀ x, foldedSetIterable iter X.env x = pure x := by intro _; rfl) :
    DF X (.ListComp elt [⟨tg, iter, ifs, 0⟩] scope pos) (dComp src (own.map (·.2)) g tt da) :=
  ⟨pe_imp (pe_lc hc hN hi.pi ok (fun s H C cl fp => (hg s H C cl fp).pg) (fun s H C cl fp => (ht s H C cl fp).pt) (fun s H C cl fp => (he s H C cl fp).pe) hs) (comp_imp (fun _ _ _ h => h) (fun _ _ _ _ h => h) (fun _ _ _ h => h) fun _ _ _ h => h)⟩
theorem ds_newLc {i : Nat} {y : Str} {py : Pos} {spos : Pos} {elt iter : Expr} {ifs : List Expr} {scope : Scope} {own : List (Str × Nat)} (hc : X.calm = true) (hN : X.N.Nodup) (hi : DI X tg iter src) (ok : BlkOk X.N X.env.scope scope own)
    (hg : ∀ (s : Shared) (H : Hp) (C : Addr) (cl : List (Str × Addr)) (fp : List Addr), DGo (X.blk s H scope (compEnvC scope cl C X.env) fp) (own.map (·.2)) tg g) (ht : ∀ (s : Shared) (H : Hp) (C : Addr) (cl : List (Str × Addr)) (fp : List Addr), DTs (X.blk s H scope (compEnvC scope cl C X.env) fp) ifs tt)
    (he : ∀ (s : Shared) (H : Hp) (C : Addr) (cl : List (Str × Addr)) (fp : List Addr), DE (X.blk s H scope (compEnvC scope cl C X.env) fp) elt da) (hy : X.N[i]? = some y := by rfl) (hyl : X.env.scope.names.lookup y = some .local := by rfl)
    (hsw : swapsWith (.ListComp elt [⟨tg, iter, ifs, 0⟩] scope pos) (some (.Name y py)) spos.line X.env = pure true := by exact sw_true rfl rfl rfl (by decide +kernel)) (hs : ∀ x, foldedSetIterable iter X.env x = pure x := by intro _; rfl) :
    DS X W (.Assign [.Name y py] (.ListComp elt [⟨tg, iter, ifs, 0⟩] scope pos) spos) (dNew i (dComp src (own.map (·.2)) g tt da)) :=
  ⟨ps_imp (ps_setLc hc hN hy hyl hsw hi.pi ok (fun s H C cl fp => (hg s H C cl fp).pg) (fun s H C cl fp => (ht s H C cl fp).pt) (fun s H C cl fp => (he s H C cl fp).pe) hs)
    (newc_imp (comp_imp (fun _ _ _ h => h) (fun _ _ _ _ h => h) (fun _ _ _ h => h) fun _ _ _ h => h))⟩
theorem ds_setLc {i : Nat} {y : Str} {py : Pos} {spos : Pos} {elt iter : Expr} {ifs : List Expr} {scope : Scope} {own : List (Str × Nat)} (hc : X.calm = true) (hN : X.N.Nodup) (hi : DI X tg iter src) (ok : BlkOk X.N X.env.scope scope own)
    (hg : ∀ (s : Shared) (H : Hp) (C : Addr) (cl : List (Str × Addr)) (fp : List Addr), DGo (X.blk s H scope (compEnvC scope cl C X.env) fp) (own.map (·.2)) tg g) (ht : ∀ (s : Shared) (H : Hp) (C : Addr) (cl : List (Str × Addr)) (fp : List Addr), DTs (X.blk s H scope (compEnvC scope cl C X.env) fp) ifs tt)
    (he : ∀ (s : Shared) (H : Hp) (C : Addr) (cl : List (Str × Addr)) (fp : List Addr), DE (X.blk s H scope (compEnvC scope cl C X.env) fp) elt da) (hy : X.N[i]? = some y := by rfl) (hyl : X.env.scope.names.lookup y = some .local := by rfl)
    (hsw : swapsWith (.ListComp elt [⟨tg, iter, ifs, 0⟩] scope pos) (some (.Name y py)) spos.line X.env = pure true := by exact sw_true rfl rfl rfl (by decide +kernel)) (hs : ∀ x, foldedSetIterable iter X.env x = pure x := by intro _; rfl) :
    DS X W (.Assign [.Name y py] (.ListComp elt [⟨tg, iter, ifs, 0⟩] scope pos) spos) (dAsg (dData (dComp src (own.map (·.2)) g tt da)) (gN i)) :=
  ⟨ps_imp (ps_setLc hc hN hy hyl hsw hi.pi ok (fun s H C cl fp => (hg s H C cl fp).pg) (fun s H C cl fp => (ht s H C cl fp).pt) (fun s H C cl fp => (he s H C cl fp).pe) hs)
    (tAsg_imp (fun σ H Q h => comp_imp (fun _ _ _ h => h) (fun _ _ _ _ h => h) (fun _ _ _ h => h) (fun _ _ _ h => h) σ H Q (tDF_imp σ H Q h)) fun v σ H Q h => by
      obtain ⟨A, s, env, d, env', s', R, r, e, k⟩ := h
      cases e
      exact k _ H A (R.set i r) .refl)⟩
end
end Dx
end
section
namespace Dx
open PySem PySem.Spec PyProof.Rows L2

/-! ### a def -/
def setl (n : Nat) (s : Sto) : D → Option D
  | .cell j => if j < n then some (.cell j) else match s[j]? with
    | some (.lst xs) => if bnds n xs = true then some (.lst xs) else none
    | some (.dk ks xs) => if bnds n xs = true then some (.dk ks xs) else none
    | some (.ins C ns xs) => if bnds n xs = true then some (.obj C ns xs) else none
    | some (.frz d) => if bnd n d = true then some d else none
    | _ => none
  | d => if bnd n d = true then some d else none
theorem setl_rep {K : PySem.W.Frag} {A : List Addr} {s1 ex : Sto} {H : Hp} {v : V} {d r : D} (R : SR K A (s1 ++ ex) H) (hb : ∀ c ∈ s1, Dx.bndC s1.length c = true) (rv : Rep K A (vis A (s1 ++ ex) H) v d) (e : setl s1.length (s1 ++ ex) d = some r) :
    Rep K (A.take s1.length) (vis (A.take s1.length) s1 H) v r := by
  obtain ⟨S, hv, hA⟩ := R.drop hb
  have plain : ∀ {d r : D}, Rep K A (vis A (s1 ++ ex) H) v d → (if bnd s1.length d = true then some d else none) = some r → Rep K (A.take s1.length) (vis (A.take s1.length) s1 H) v r := fun {d r} rv e => by
    split at e
    · rename_i h
      cases e
      exact rv.back hA hv h
    · cases e
  cases d with
  | cell j =>
    simp only [setl] at e
    split at e
    · rename_i hj
      cases e
      obtain ⟨a, rfl, ha⟩ := cell_at rv
      exact .cell (hA j a hj ha)
    · rename_i hj
      obtain ⟨a, rfl, ha⟩ := cell_at rv
      have nh : ¬ hid (A.take s1.length) s1 a := by
        rintro ⟨i, h1, h2⟩
        rw [List.getElem?_take] at h1
        split at h1
        · have := R.nod _ _ _ h1 ha
          omega
        · cases h1
      split at e
      · rename_i xs hc
        split at e
        · rename_i h
          cases e
          obtain ⟨vs, z, rs⟩ := R.cells j _ a hc ha
          exact .lst (by rw [vis_not nh]; exact z) (rs.back hA hv h)
        · cases e
      · rename_i ks xs hc
        split at e
        · rename_i h
          cases e
          obtain ⟨vs, z, ek, rs⟩ := R.cells j _ a hc ha
          exact .dk (.inl (by rw [vis_not nh]; exact z)) ek (rs.back hA hv h)
        · cases e
      · rename_i C ns xs hc
        split at e
        · rename_i h
          cases e
          obtain ⟨dx, vs, z, ek, rs⟩ := R.cells j _ a hc ha
          exact .obj (by rw [vis_not nh]; exact z) ek (rs.back hA hv h)
        · cases e
      · rename_i d hc
        split at e
        · rename_i h
          cases e
          have q := R.cells j _ a hc ha
          exact Rep.back hA hv q.1 h
        · cases e
      · cases e
  | _ => exact plain rv e
def env0 (m : Nat) (xs : List D) : DEnv := xs.map some ++ List.replicate (m - xs.length) none
open Classical in
/-- a def that gives up its own cells at its end, and leaves the caller's as they were -/
noncomputable def dFun (n m : Nat) (body : DenS) : DFn := fun xs s => if xs.length = n then match body (env0 m xs) s with
    | some (fl, _, s') => if s'.take s.length = s then match fl with
      | .nx => some (.ret .non, s)
      | .rt r => match setl s.length s' r with
        | some d => some (.ret d, s)
        | none => none
      | .ex C p => match setl s.length s' p with
        | some d => some (.exc C d, s)
        | none => none
      | _ => none
      else none
    | none => none
  else none
/-- a def that may change the caller's cells, and make new ones -/
def dFunM (n m : Nat) (body : DenS) : DFn := fun xs s => if xs.length = n then match body (env0 m xs) s with
    | some (.nx, _, s') => some (.ret .non, s')
    | some (.rt r, _, s') => some (.ret r, s')
    | some (.ex C p, _, s') => some (.exc C p, s')
    | _ => none
  else none
theorem env0_rep {K : PySem.W.Frag} {A : List Addr} {H : Hp} {N : List Str} : ∀ {vs : List V} {xs : List D}, Reps K A H vs xs → EnvR K A H (env0 N.length xs) (L2.start N vs) := fun {vs xs} r => by
  unfold env0 L2.start
  rw [r.length]
  refine ⟨by simp [r.length], fun i d h => ?_⟩
  rw [List.getElem?_append] at h
  split at h
  · rename_i hi
    rw [List.getElem?_map] at h
    cases q : xs[i]? with
    | none => rw [q] at h; cases h
    | some x =>
      rw [q] at h
      cases h
      obtain ⟨v, h1, h2⟩ := r.get q
      refine ⟨v, ?_, h2⟩
      rw [List.getElem?_append_left (by rw [List.length_map]; exact (List.getElem?_eq_some_iff.mp h1).1), List.getElem?_map, h1]
      rfl
  · rename_i hi
    rw [List.getElem?_replicate] at h
    split at h <;> cases h
section
variable {P : Program} {w : World} {K : PySem.W.Frag} {mg : Str → Option Value} {base : Heap}
theorem def_len {den : DFn} {n : Nat} (h : ∀ xs s r, den xs s = some r → xs.length = n) : ∀ vs H Q E, spOf K den vs H Q E → vs.length = n := fun vs H Q E ⟨A, s, ds, o, s', S, r, e, _⟩ => by
  rw [r.length]; exact h _ _ _ e
theorem dFun_len {n m : Nat} {body : DenS} : ∀ xs s r, dFun n m body xs s = some r → xs.length = n := fun xs s r e => by
  unfold dFun at e
  split at e
  · assumption
  · cases e
theorem dFunM_len {n m : Nat} {body : DenS} : ∀ xs s r, dFunM n m body xs s = some r → xs.length = n := fun xs s r e => by
  unfold dFunM at e
  split at e
  · assumption
  · cases e
abbrev WE0 (E : XK) : WX := fun cls d _ H => E cls d H
theorem def_ok {x qual : Str} {st : Stmt} {f : Addr} {fd : FuncData} {N ps : List Str} {k : Nat} {body : DenS} (F : Fun K x qual st f fd) (S : FnScope N ps (defScope st))
    (hbody : ∀ (cdv : Value) (A : Around) (outer : List Env) (s : Shared) (H : Hp) (E : XK), Room k (A.deeper (envOfC qual (defScope st) s.heap.objs.size f cdv)) →
      DSs (cxOf (L2.CX P w) P w K mg base N qual (defScope st) f cdv A outer s H E) (WE0 E) (defBody st) body) : DefOk P w K mg base (k + 1) f fd ps (dFun ps.length N.length body) := by
  refine F.okX S (def_len dFun_len) fun cdv A outer s H vs Q E hr h => ⟨_, (hbody cdv A outer s H E hr).ps, ?_⟩
  obtain ⟨B, t, ds, o, t', S1, r, e, k⟩ := h
  unfold dFun at e
  split at e
  · split at e
    · rename_i fl env' t2 e2
      split at e
      · rename_i ht
        refine ⟨B, t, env0 N.length ds, fl, env', t2, ⟨S1, env0_rep r⟩, e2, ?_⟩
        have et : t2 = t ++ t2.drop t.length := by
          have := (List.take_append_drop t.length t2).symm
          rw [ht] at this; exact this
        generalize t2.drop t.length = ex at et
        subst et
        have hb := S1.bndC
        have le : ∀ {H' A'}, SR K A' (t ++ ex) H' → Le B t H A' (t ++ ex) H' → SR K (A'.take t.length) t H' ∧ Le B t H (A'.take t.length) t H' := fun {H' A'} S' l => by
          obtain ⟨S2, hv, hA⟩ := S'.drop hb
          refine ⟨S2, fun j a h => hA j a ?_ (l.ad j a h), fun a o h => hv a o (l.vs a o h)⟩
          have := (List.getElem?_eq_some_iff.mp h).1
          rw [S1.len] at this; exact this
        split at e
        · cases e
          intro σ' H' A' R l
          obtain ⟨S2, l2⟩ := le R.sr l
          exact k .non H' _ S2 l2 .non
        · split at e
          · rename_i d hd
            cases e
            intro v H' A' S' l rv
            obtain ⟨S2, l2⟩ := le S' l
            exact k v H' _ S2 l2 (setl_rep S' hb rv hd)
          · cases e
        · split at e
          · rename_i d hd
            cases e
            intro dd pv σ' H' A' R l hx rv
            obtain ⟨S2, l2⟩ := le R.sr l
            exact k dd pv H' _ S2 l2 hx (setl_rep R.sr hb rv hd)
          · cases e
        · cases e
      · cases e
    · cases e
  · cases e
theorem defM_ok {x qual : Str} {st : Stmt} {f : Addr} {fd : FuncData} {N ps : List Str} {k : Nat} {body : DenS} (F : Fun K x qual st f fd) (S : FnScope N ps (defScope st))
    (hbody : ∀ (cdv : Value) (A : Around) (outer : List Env) (s : Shared) (H : Hp) (E : XK), Room k (A.deeper (envOfC qual (defScope st) s.heap.objs.size f cdv)) →
      DSs (cxOf (L2.CX P w) P w K mg base N qual (defScope st) f cdv A outer s H E) (WE0 E) (defBody st) body) : DefOk P w K mg base (k + 1) f fd ps (dFunM ps.length N.length body) := by
  refine F.okX S (def_len dFunM_len) fun cdv A outer s H vs Q E hr h => ⟨_, (hbody cdv A outer s H E hr).ps, ?_⟩
  obtain ⟨B, t, ds, o, t', S1, r, e, k⟩ := h
  unfold dFunM at e
  split at e
  · split at e
    · rename_i env' t2 e2
      cases e
      exact ⟨B, t, env0 N.length ds, _, env', _, ⟨S1, env0_rep r⟩, e2, fun σ' H' A' R l => k .non H' A' R.sr l .non⟩
    · rename_i r' env' t2 e2
      cases e
      exact ⟨B, t, env0 N.length ds, _, env', _, ⟨S1, env0_rep r⟩, e2, k⟩
    · rename_i C p env' t2 e2
      cases e
      exact ⟨B, t, env0 N.length ds, _, env', _, ⟨S1, env0_rep r⟩, e2, fun dd pv σ' H' A' R l hx rv => k dd pv H' A' R.sr l hx rv⟩
    · cases e
  · cases e
theorem pass_ok {N : List Str} {qual : Str} {sc : Scope} {f : Addr} {cdv : Value} {A : Around} {outer : List Env} {s : Shared} {H : Hp} {E : XK} : PassesOwn (model P w) (cxOf (L2.CX P w) P w K mg base N qual sc f cdv A outer s H E).A (cxOf (L2.CX P w) P w K mg base N qual sc f cdv A outer s H E).env (cxOf (L2.CX P w) P w K mg base N qual sc f cdv A outer s H E).xe :=
  passes_of (X := cxOf (L2.CX P w) P w K mg base N qual sc f cdv A outer s H E) rfl
theorem takes_ok {N : List Str} {qual : Str} {sc : Scope} {f : Addr} {cdv : Value} {A : Around} {outer : List Env} {s : Shared} {H : Hp} {E : XK} : Takes (cxOf (L2.CX P w) P w K mg base N qual sc f cdv A outer s H E) (WE0 E) := takes_of rfl rfl rfl rfl
end

/-! ### own errors -/
def spErr (K : PySem.W.Frag) : Sp := fun vs H Q _ => ∃ (a C : Addr) (v : V), vs = [.ref a, v] ∧ OexC K C ∧ PySem.W.findIn K (.ref C) "value" = some none ∧ H a = some (exo a C none) ∧
  ∀ dx, H dx = none → dx ≠ a → Q .non (upd (upd H dx (exd dx [(("value" : Str), v)])) a (exo a C (some dx)))
/-- what the written part says of an error's class C, its __init__ at fI -/
structure ErrC (K : PySem.W.Frag) (C fI : Addr) : Prop where
  oex : OexC K C
  noV : PySem.W.findIn K (.ref C) "value" = some none
  ini : PySem.W.findIn K (.ref C) "__init__" = some (some (.ref fI))
  tyI : PySem.W.typeIn K (.ref fI) = some (.type "function")
section
variable {X : Cx} {W : WX} {a b c e o : Expr} {es : List Expr} {da db dc : Den} {ds : DenL} {pos p : Pos} {x : Str} {C fI : Addr} {fd : FuncData} {k : Nat}
def dRaise (C : Addr) (da : Den) : DenS := fun env s => match da env s with
  | some (x, s1) => some (.ex C x, env, s1)
  | none => none
theorem ds_raise (hc : X.calm = true) (tk : Takes X W) (T : ErrC X.K C fI) (F : FnOk X.prog X.w X.K X.mg X.base (L2.CX X.prog X.w) k fI fd ["self", "value"] (spErr X.K)) (hr : Room (k + 1) X.A) (hb : Binds X.K fd ["self", "value"] []) (hm : X.mg x = some (.ref C)) (ha : DE X e da) (hg : Gl X x := by rfl)
    (hs : starEach [e] X.env = (false, eval e X.env) :: starEach [] X.env := by rfl) (hdb : (x == ("__debug__" : Str)) = false := by decide) (hpl : (backTo p (starEach [] X.env)).any (·.1) = false := by rfl) {p0 : Pos} :
    DS X W (.Raise (some (.Call (.Name x p0) [e] [] p)) none pos) (dRaise C da) := by
  refine ⟨ps_imp (ps_raise hc tk (pmk_oex T.oex T.ini T.tyI F hr hb (dvs := []) .nil passL hg hm (pa_cons ha.pe pa_nil hs) hdb hs hpl)) ?_⟩
  rintro E σ H ⟨A, s, env, fl, env', s', R, e, k⟩
  unfold dRaise at e
  split at e
  · rename_i x s1 e1
    cases e
    refine tD_mk R e1 fun v H1 A1 S1 l1 r1 => ?_
    refine ⟨by show 1 ≤ 1000; decide, fun a hna => ?_⟩
    refine ⟨a, C, v, rfl, T.oex, T.noV, upd_same, fun dx hdx hne => ⟨rfl, ?_⟩⟩
    have hd1 : H1 dx = none := by rw [upd_ne hne] at hdx; exact hdx
    refine ⟨dx, [(("value" : Str), v)], upd_same, by rw [upd_ne hne]; exact upd_same, hd1, ?_⟩
    have eH : upd (L2.del (upd (upd (upd H1 a (exo a C none)) dx (exd dx [(("value" : Str), v)])) a (exo a C (some dx))) a) dx (.xd [(("value" : Str), v)]) = upd H1 dx (.xd [(("value" : Str), v)]) := by
      funext b
      by_cases hb : b = dx
      · subst hb; rw [upd_same, upd_same]
      · rw [upd_ne hb, upd_ne hb]
        by_cases hba : b = a
        · subst hba; rw [L2.del_same, hna]
        · rw [L2.del_ne hba, upd_ne hba, upd_ne hb, upd_ne hba]
    rw [eH]
    obtain ⟨S2, l2⟩ := S1.ex (ex_upd (o := .xd [(("value" : Str), v)]) hd1)
    exact k dx v σ _ A1 ((R.le S1 l1).le S2 l2) (l1.trans l2) upd_same (r1.le l2)
  · cases e
theorem err_init {P : Program} {w : World} {K : PySem.W.Frag} {mg : Str → Option Value} {base : Heap} {st : Stmt} {fI : Addr} {fd : FuncData} {qual : Str} (F : Fun K "__init__" qual st fI fd) (S : FnScope ["self", "value"] ["self", "value"] (defScope st))
    {p1 p2 p3 p4 : Pos} (hb : defBody st = [.Assign [.Attribute (.Name "self" p1) "value" p2] (.Name "value" p3) p4]) (h1 : (defScope st).names.lookup ("self" : Str) = some NameKind.local) (h2 : (defScope st).names.lookup ("value" : Str) = some NameKind.local) :
    FnOk P w K mg base (L2.CX P w) 1 fI fd ["self", "value"] (spErr K) := by
  refine F.okX S (fun vs H Q E h => ?_) fun cdv A outer s H vs Q E hr h => ?_
  · obtain ⟨a, C, v, rfl, _⟩ := h
    rfl
  · rw [hb]
    refine ⟨_, pss_one (ps_ost (pv 0 (hv := .inl h1)) (pv 1 (hv := .inl h2))), ?_⟩
    obtain ⟨a, C, v, rfl, T, hn, ha, q⟩ := h
    exact ⟨v, rfl, .ref a, rfl, a, C, rfl, T, hn, .inl ⟨ha, q⟩⟩
end
end Dx
end
section
namespace Dx
open PySem PySem.Spec PyProof.Rows L2

/-! ### calls that may raise, as a statement's value -/
abbrev DenX := DEnv → Sto → Option (Out × Sto)
def tDX (K : PySem.W.Frag) (W : WX) (d : DenX) : TE := fun σ H Q => ∃ A s env o s', Rl K A s env σ H ∧ d env s = some (o, s') ∧ match o with
  | .ret r => ∀ v H' A', SR K A' s' H' → Le A s H A' s' H' → Rep K A' (vis A' s' H') v r → Q v H'
  | .exc C p => ∀ (dd : Addr) pv H' A', SR K A' s' H' → Le A s H A' s' H' → H' dd = some (.xd [(("value" : Str), pv)]) → Rep K A' (vis A' s' H') pv p → W (.ref C) (some dd) σ H'
structure DEX (X : Cx) (W : WX) (e : Expr) (d : DenX) : Prop where
  pe : PE X e (tDX X.K W d)
def dCallX (f : DFn) (ds : DenL) : DenX := fun env s => match ds env s with
  | some (xs, s1) => f xs s1
  | none => none
def dAsgX (dx : DenX) (g : DTgt) : DenS := fun env s => match dx env s with
  | some (.ret r, s1) => match g r env s1 with
    | some (env2, s2) => some (.nx, env2, s2)
    | none => none
  | some (.exc C p, s1) => some (.ex C p, env, s1)
  | none => none
def dRetX (dx : DenX) : DenS := fun env s => match dx env s with
  | some (.ret r, s1) => some (.rt r, env, s1)
  | some (.exc C p, s1) => some (.ex C p, env, s1)
  | none => none
def dExprX (dx : DenX) : DenS := fun env s => match dx env s with
  | some (.ret _, s1) => some (.nx, env, s1)
  | some (.exc C p, s1) => some (.ex C p, env, s1)
  | none => none
section
variable {X : Cx} {W : WX} {x : Str} {p pos : Pos} {f : Addr} {fd : FuncData} {ps : List Str} {den : DFn} {k : Nat} {a e tg : Expr} {es : List Expr} {ds : DenL} {dx : DenX} {g : DTgt}
theorem dex_call (tk : Takes X W) (F : DefOk X.prog X.w X.K X.mg X.base k f fd ps den) (hr : Room k X.A) (hm : X.mg x = some (.ref f)) (hk : PySem.W.keepIn X.K (.ref f) = true) (hb : Binds X.K fd ps []) (ha : DA X (e :: es) ds) (hg : Gl X x := by rfl)
    (hd : (x == ("__debug__" : Str)) = false := by decide) (hs : starEach (e :: es) X.env = (false, eval e X.env) :: starEach es X.env := by rfl) (hpl : (backTo pos (starEach es X.env)).any (·.1) = false := by rfl) :
    DEX X W (.Call (.Name x p) (e :: es) [] pos) (dCallX den ds) := by
  refine ⟨pe_imp (pe_callS F hr hg hm hk hb (fun σ => passAt tk σ) ha.pa hd hs hpl) ?_⟩
  rintro σ H Q ⟨A, s, env, o, s', R, e, k⟩
  unfold dCallX at e
  split at e
  · rename_i xs s1 e1
    refine tDA_mk R e1 fun vs H1 A1 S1 l1 r1 => ?_
    refine ⟨A1, s1, xs, o, s', S1, r1, e, ?_⟩
    cases o with
    | ret r => exact fun v H2 A2 S2 l2 r2 => k v H2 A2 S2 (l1.trans l2) r2
    | exc C p => exact fun d pv H2 A2 S2 l2 hx r2 => k d pv H2 A2 S2 (l1.trans l2) hx r2
  · cases e
theorem ds_asgX (ha : DEX X W a dx) (hg : DG X tg g) (hs : swapsWithSole [tg] a pos.line X.env = pure false := by rfl) (hw : swappedStores [tg] a X.env = pure none := by rfl)
    (h1 : (assignEach [tg] X.env).map (·.2) = [assign tg X.env] := by rfl) : DS X W (.Assign [tg] a pos) (dAsgX dx g) := by
  refine ⟨ps_imp (ps_asg ha.pe hg.pg hs hw h1) ?_⟩
  rintro E σ H ⟨A, s, env, fl, env', s', R, e, k⟩
  unfold dAsgX at e
  split at e
  · rename_i r s1 e1
    split at e
    · rename_i env2 s2 e2
      cases e
      refine ⟨A, s, env, _, _, R, e1, fun v H1 A1 S1 l1 r1 => ?_⟩
      exact hg.pg |> fun _ => ⟨A1, s1, env, _, _, _, R.le S1 l1, r1, e2, fun σ2 H2 A2 R2 l2 => k σ2 H2 A2 R2 (l1.trans l2)⟩
    · cases e
  · rename_i C p s1 e1
    cases e
    exact ⟨A, s, env, _, _, R, e1, fun dd pv H1 A1 S1 l1 hx r1 => k dd pv σ H1 A1 (R.le S1 l1) l1 hx r1⟩
  · cases e
theorem ds_retX (ha : DEX X W a dx) : DS X W (.Return (some a) pos) (dRetX dx) := by
  refine ⟨ps_imp (ps_ret ha.pe) ?_⟩
  rintro E σ H ⟨A, s, env, fl, env', s', R, e, k⟩
  unfold dRetX at e
  split at e
  · rename_i r s1 e1
    cases e
    exact ⟨A, s, env, _, _, R, e1, k⟩
  · rename_i C p s1 e1
    cases e
    exact ⟨A, s, env, _, _, R, e1, fun dd pv H1 A1 S1 l1 hx r1 => k dd pv σ H1 A1 (R.le S1 l1) l1 hx r1⟩
  · cases e
theorem ds_exprX (ha : DEX X W a dx) (hs : swapsWith a none pos.line X.env = pure false := by rfl) : DS X W (.Expr a pos) (dExprX dx) := by
  refine ⟨ps_imp (ps_expr ha.pe hs) ?_⟩
  rintro E σ H ⟨A, s, env, fl, env', s', R, e, k⟩
  unfold dExprX at e
  split at e
  · rename_i r s1 e1
    cases e
    exact ⟨A, s, env, _, _, R, e1, fun v H1 A1 S1 l1 r1 => k σ H1 A1 (R.le S1 l1) l1⟩
  · rename_i C p s1 e1
    cases e
    exact ⟨A, s, env, _, _, R, e1, fun dd pv H1 A1 S1 l1 hx r1 => k dd pv σ H1 A1 (R.le S1 l1) l1 hx r1⟩
  · cases e
end

/-! ### try: body / except x as n: suite -/
def fin (i : Nat) : Fl × DEnv × Sto → Option (Fl × DEnv × Sto)
  | (.ex _ _, _, _) => none
  | (.rt r, _, s) => some (.rt r, [], s)
  | (fl, env, s) => some (fl, env.set i none, s)
open Classical in
noncomputable def dTry (i : Nat) (C0 : Addr) (body : DenS) (suite : Addr → Addr → DenS) : DenS := fun env s => match body env s with
  | some (.ex C p, env1, s1) => if C = C0 then
      if h : ∃ r, ∀ a dd, (suite a dd (env1.set i (some (.exn a dd C0 p))) s1).bind (fin i) = some r then some (Classical.choose h) else none
    else none
  | r => r
theorem dTry_ex {i : Nat} {C0 : Addr} {body : DenS} {suite : Addr → Addr → DenS} {env env1 : DEnv} {s s1 : Sto} {p : D} {r : Fl × DEnv × Sto} (e : body env s = some (.ex C0 p, env1, s1))
    (h : ∀ a dd, (suite a dd (env1.set i (some (.exn a dd C0 p))) s1).bind (fin i) = some r) : dTry i C0 body suite env s = some r := by
  unfold dTry
  rw [e]
  simp only [if_true]
  have hx : ∃ r, ∀ a dd, (suite a dd (env1.set i (some (.exn a dd C0 p))) s1).bind (fin i) = some r := ⟨r, h⟩
  rw [dif_pos hx]
  have q := Classical.choose_spec hx (0 : Nat) (0 : Nat)
  rw [h] at q
  exact congrArg some (Option.some.inj q).symm
theorem dTry_no {i : Nat} {C0 : Addr} {body : DenS} {suite : Addr → Addr → DenS} {env env1 : DEnv} {s s1 : Sto} {fl : Fl} (e : body env s = some (fl, env1, s1)) (h : ∀ C p, fl ≠ .ex C p) : dTry i C0 body suite env s = some (fl, env1, s1) := by
  unfold dTry
  rw [e]
  split
  · rename_i C p _ _ q
    cases q
    exact absurd rfl (h C p)
  · rfl
theorem EnvR.setNone {K : PySem.W.Frag} {A : List Addr} {H : Hp} {env : DEnv} {σ : L2.St} (e : EnvR K A H env σ) (i : Nat) : EnvR K A H (env.set i none) (σ.set i none) :=
  ⟨by rw [List.length_set, List.length_set, e.1], fun j x h => by
    by_cases hj : i = j
    · subst hj
      by_cases hl : i < env.length
      · rw [List.getElem?_set_self hl] at h
        cases h
      · rw [List.getElem?_eq_none (by rw [List.length_set]; omega)] at h
        cases h
    · rw [List.getElem?_set_ne hj] at h
      obtain ⟨w, h1, h2⟩ := e.2 j x h
      exact ⟨w, by rw [List.getElem?_set_ne hj]; exact h1, h2⟩⟩
theorem SR.xd_vis {K : PySem.W.Frag} {A : List Addr} {s : Sto} {H : Hp} {d : Addr} {fs : List (Str × V)} (R : SR K A s H) (h : H d = some (.xd fs)) : vis A s H d = some (.xd fs) := by
  rw [vis_not]
  · exact h
  · rintro ⟨j, ha, hl⟩
    cases hc : s[j]? with
    | none => rw [hc] at hl; cases hl
    | some c =>
      have q := R.cells j c d hc ha
      rw [hc] at hl
      cases c with
      | lst xs => obtain ⟨_, z, _⟩ := q; rw [h] at z; cases z
      | dk ks xs => obtain ⟨_, z, _⟩ := q; rw [h] at z; cases z
      | dt ks xs => obtain ⟨_, z, _⟩ := q; rw [h] at z; cases z
      | ins C ns xs => obtain ⟨_, _, z, _⟩ := q; rw [h] at z; cases z
      | frz d => cases hl
abbrev WF : WX := fun _ _ _ _ => False
section
variable {X : Cx} {W : WX} {x n : Str} {C0 : Addr} {i : Nat} {body suite : List Stmt} {b₀ : Stmt} {np pos pos' : Pos} {db : DenS} {du : Addr → Addr → DenS}
theorem ds_try (hs : X.stack = X.env :: X.outer) (hf : X.env.frame = some X.env.locals) (hN : X.N.Nodup) (hm : X.mg x = some (.ref C0)) (hx : PySem.W.exmOne X.K (.ref C0) (.ref C0) = some true) (tk : Takes X W)
    (hb : ∀ (W' : WX) (pn : List (Addr × Obj)) (xe : Value → Shared → Prop), Takes (X.tr pn xe) W' → PassesOwn (model X.prog X.w) X.A X.env xe → DSs (X.tr pn xe) W' body db)
    (hsu : ∀ (a : Addr) (oe : Obj) (dd : Addr) (pn : List (Addr × Obj)), Zc (.ref C0) (some dd) oe → (∃ vs, oe.data = .fields vs) → DSs (X.suite a ((a, oe) :: pn)) WF (b₀ :: suite) (du a dd))
    (hi : X.N[i]? = some n := by rfl) (hln : X.env.kindOf n = some .local := by rfl) (hgl : Gl X x := by rfl) (hd : (x == ("__debug__" : Str)) = false := by decide) :
    DS X W (.Try body [.ExceptHandler (some (.Name x np)) (some n) (b₀ :: suite) pos'] [] [] pos) (dTry i C0 db du) := by
  refine ⟨ps_imp (ps_try_as (i := i) (c := .ref C0) (tb := fun W => tSD X.K W db) (ts := fun a cls d => match cls, d with | .ref C, some dd => fun D σ H => C = C0 ∧ tSD X.K WF (du a dd) D σ H | _, _ => fun _ _ _ => False) (Wout := W) hs hf hN hi hln ⟨hgl, hd, .inl hm⟩ tk
    (fun W' pn xe t p => (hb W' pn xe t p).ps) (fun a oe cls d pn hz hv => ?_)) ?_⟩
  · cases cls with
    | ref C =>
      cases d with
      | some dd =>
        refine ⟨fun pins s σ H D I q => ?_⟩
        obtain ⟨hC, q⟩ := q
        subst hC
        exact (hsu a oe dd pn hz hv).ps.run pins s σ H D I q
      | none => exact ⟨fun pins s σ H D I q => q.elim⟩
    | _ => exact ⟨fun pins s σ H D I q => q.elim⟩
  · rintro E σ H ⟨A, s, env, fl, env', s', R, e, k⟩
    unfold dTry at e
    split at e
    · rename_i C p env1 s1 e1
      split at e
      · rename_i hC
        subst hC
        split at e
        · rename_i hx'
          have q := Classical.choose_spec hx'
          have er := Option.some.inj e
          rw [er] at q
          refine ⟨A, s, env, .ex C p, env1, s1, R, e1, fun d pv σ' H' A' R' l hxd rv => ?_⟩
          refine ⟨true, hx, fun _ a hna => ⟨rfl, ?_⟩, fun h => nomatch h⟩
          have qa := q a d
          obtain ⟨r0, h0, h1⟩ := Option.bind_eq_some_iff.mp qa
          obtain ⟨fl0, env0, s0⟩ := r0
          refine ⟨A', s1, _, fl0, env0, s0, R'.set i (Rep.exn (R'.sr.xd_vis hxd) rv), h0, ?_⟩
          cases fl0 with
          | nx =>
            cases h1
            exact fun σ2 H2 A2 R2 l2 => k (σ2.set i none) H2 A2 ⟨R2.sr, R2.er.setNone i⟩ (l.trans l2)
          | bk =>
            cases h1
            exact fun σ2 H2 A2 R2 l2 => k (σ2.set i none) H2 A2 ⟨R2.sr, R2.er.setNone i⟩ (l.trans l2)
          | ct =>
            cases h1
            exact fun σ2 H2 A2 R2 l2 => k (σ2.set i none) H2 A2 ⟨R2.sr, R2.er.setNone i⟩ (l.trans l2)
          | rt r =>
            cases h1
            exact fun v H2 A2 S2 l2 r2 => k v H2 A2 S2 (l.trans l2) r2
          | ex C p => cases h1
        · cases e
      · cases e
    · rename_i hn
      refine ⟨A, s, env, fl, env', s', R, e, ?_⟩
      cases fl with
      | nx => exact k
      | bk => exact k
      | ct => exact k
      | rt r => exact k
      | ex C p => exact absurd e (hn _ _ _ _)
/-! in the suite: the error's field, isinstance of it -/
def dXf (a dd : Addr) (da : Den) : Den := fun env s => match da env s with
  | some (.exn a' dd' _ p, s1) => if a' = a ∧ dd' = dd then some (p, s1) else none
  | _ => none
variable {a dd : Addr} {oe : Obj} {pn : List (Addr × Obj)} {e : Expr} {da : Den} {xe : Value → Shared → Prop}
theorem de_xf (T : XfC X.K C0) (hno : PySem.W.findIn X.K (.ref C0) "value" = some none) (hz : Zc (.ref C0) (some dd) oe) (hf : ∃ vs, oe.data = .fields vs) (he : DE (X.suite a ((a, oe) :: pn)) e da)
    (hb : attributeBase e "value" X.env (eval e X.env) = eval e X.env := by rfl) : DE (X.suite a ((a, oe) :: pn)) (.Attribute e "value" pos) (dXf a dd da) := by
  refine ⟨pe_imp (pe_xf T hno hz hf he.pe hb) ?_⟩
  rintro σ H Q ⟨A, s, env, r, s', R, e, k⟩
  unfold dXf at e
  split at e
  · rename_i a' dd' C' p s1 e1
    split at e
    · rename_i h
      obtain ⟨rfl, rfl⟩ := h
      cases e
      refine tD_mk R e1 fun v H1 A1 S1 l1 r1 => ?_
      obtain ⟨pv, rfl, h1, h2⟩ := r1.seen1
      exact ⟨rfl, rfl, _, _, pv, rfl, h1, by simp, k pv H1 A1 S1 l1 h2⟩
    · cases e
  · cases e
/-- what the written part says of a caught class, for isinstance -/
structure IxC (K : PySem.W.Frag) (C : Addr) : Prop where
  hcl : (PySem.W.clsIn K C).isSome = true
  hg : PySem.W.findIn K (.ref C) "__getattribute__" = some (some (.builtin "BaseException.__getattribute__"))
  hk : PySem.W.findIn K (.ref C) "__getattr__" = some none
  hs : PySem.W.subIn K (.ref C) (.type "BaseException") = some true
  ha : PySem.W.findIn K (.ref C) "__class__" = some (some (.builtin "object.__class__"))
  hn : PySem.W.specialIn K (.builtin "object.__class__") "__get__" = some (some (.builtin "getset_descriptor.__get__"))
  ht : PySem.W.takesIn K (.builtin "object.__class__") = some true
  hm : PySem.W.mroIn K C (.type "object") = some true
def rIx (K : PySem.W.Frag) (C a dd : Addr) : List V → Hp → VK → Prop := fun xs H Q => ∃ (R : Addr) (b : Bool) (fs : List (Str × V)), xs = [.ref a, .ref R] ∧ H dd = some (.xd fs) ∧ PySem.W.kitOne K (.ref C) (.ref R) = some b ∧ Q (.bl b) H
theorem call_ix (T : IxC X.K C0) (hz : Zc (.ref C0) (some dd) oe) (hf : ∃ vs, oe.data = .fields vs) : CallR (X.suite a ((a, oe) :: pn)) (.builtin "isinstance") (rIx X.K C0 a dd) := by
  intro pins s σ H xs us Q I r h
  obtain ⟨R, b, fs, rfl, hd, e, q⟩ := h
  obtain ⟨u1, u2, rfl, r1, r2⟩ := vals2 r
  cases (show u1 = Value.ref a from r1)
  cases (show u2 = Value.ref R from r2)
  obtain ⟨hget, _⟩ := I.pin (a, oe) (List.mem_append.mpr (.inl List.mem_cons_self))
  obtain ⟨vs, hv⟩ := hf
  obtain ⟨mA, hns, _⟩ := (show ObjOk X.prog X.w H s.heap dd (.xd fs) from I.hok dd _ hd)
  obtain ⟨od, ho, _⟩ := lookIn_ns hns
  have J : PySem.W.InstAt s.heap a oe C0 (some od) := ⟨hget, hz.1, by unfold PySem.W.notCls; rw [hv] <;> rfl, by rw [hz.2]; exact ho⟩
  exact PySem.W.kia_one (PySem.W.kitx_exc T.hcl T.hg T.hk T.hs T.ha T.hn T.ht T.hm) I.kIn J e (fun z => nomatch z) fun tk => ⟨.bl b, H, I.tok tk, rfl, q⟩
def ixG (a dd R : Addr) (b : Bool) : List D → Option D
  | [.exn a' dd' _ _, .cls R'] => if a' = a ∧ dd' = dd ∧ R' = R then some (.bl b) else none
  | _ => none
theorem calld_ix {R : Addr} {b : Bool} (e : PySem.W.kitOne X.K (.ref C0) (.ref R) = some b) : CallD X (rIx X.K C0 a dd) (ixG a dd R b) :=
  ⟨fun A s H vs ds z S0 ra e2 Q k => by
    unfold ixG at e2
    split at e2
    · split at e2
      · rename_i h
        obtain ⟨rfl, rfl, rfl⟩ := h
        cases e2
        obtain ⟨v, w, rfl, r, r2⟩ := seen2 ra
        obtain ⟨pv, rfl, h1, _⟩ := r
        have r2 : w = .ref _ := r2
        subst r2
        exact ⟨_, b, _, rfl, h1, e, k _ H (fun _ _ h => h) .bl⟩
      · cases e2
    · cases e2⟩
end
/-! ### classes as values; isinstance of data -/
section
variable {X : Cx} {x : Str} {pos : Pos}
theorem de_cls {C : Addr} (hm : X.mg x = some (.ref C)) (hg : Gl X x := by rfl) (hd : (x == ("__debug__" : Str)) = false := by decide) : DE X (.Name x pos) (dC (.cls C)) := ⟨pe_imp (pe_glob (v := .ref C) hg hm rfl hd) (tDc fun _ _ => .cls)⟩
theorem de_ty {T : String} (hm : X.mg x = none) (hv : bootBuiltins x = some (.type T)) (hg : Gl X x := by rfl) (hn : x ≠ "__name__" := by decide) (hd : (x == ("__debug__" : Str)) = false := by decide) : DE X (.Name x pos) (dC (.ty T)) := ⟨pe_imp (pe_bltn (v := .ty T) hg hm hv rfl hn hd) (tDc fun _ _ => .ty)⟩
/-- a plain value's type -/
def tyD : D → Option String
  | .non => some "NoneType"
  | .bl _ => some "bool"
  | .int _ => some "int"
  | .str _ => some "str"
  | .scr _ => some "list"
  | .lst _ => some "list"
  | .tup _ => some "tuple"
  | .dk _ _ => some "dict"
  | _ => none
def isTy (t T : String) : Bool := t == T || (t == "bool" && T == "int")
def isiG : List D → Option D
  | [d, .ty T] => if T == "bool" || T == "int" || T == "str" || T == "list" || T == "tuple" || T == "dict" then (tyD d).map fun t => D.bl (isTy t T) else none
  | _ => none
theorem kit_plain {K : PySem.W.Frag} {t T : String} (ht : t = "NoneType" ∨ t = "bool" ∨ t = "int" ∨ t = "str" ∨ t = "list" ∨ t = "tuple" ∨ t = "dict") (hT : T = "bool" ∨ T = "int" ∨ T = "str" ∨ T = "list" ∨ T = "tuple" ∨ T = "dict") :
    PySem.W.kitOne K (.type t) (.type T) = some (isTy t T) := by
  rcases ht with rfl | rfl | rfl | rfl | rfl | rfl | rfl <;> rcases hT with rfl | rfl | rfl | rfl | rfl | rfl <;> kernel_rfl
theorem tyx_of {K : PySem.W.Frag} {A : List Addr} {s : Sto} {H : Hp} {v : V} {d : D} {t : String} (r : Seen K A s H v d) (e : tyD d = some t) : TyX K H v (.type t) ∧ (t = "NoneType" ∨ t = "bool" ∨ t = "int" ∨ t = "str" ∨ t = "list" ∨ t = "tuple" ∨ t = "dict") := by
  cases d with
  | non => cases e; have r : v = .non := r; subst r; exact ⟨.base .non, by simp⟩
  | bl b => cases e; have r : v = .bl b := r; subst r; exact ⟨.base (.bl b), by simp⟩
  | int b => cases e; have r : v = .int b := r; subst r; exact ⟨.base (.int b), by simp⟩
  | str b => cases e; have r : v = .str (S b) := r; subst r; exact ⟨.base (.str _), by simp⟩
  | scr ns =>
    cases e
    obtain ⟨a, rfl, (h | ⟨o, h⟩) | ⟨o, its, n, h, c, _⟩⟩ := r
    · exact ⟨.base (.lst h), by simp⟩
    · exact ⟨.base (.frz h), by simp⟩
    · exact ⟨.kList h c, by simp⟩
  | lst xs => cases e; obtain ⟨a, ws, rfl, h, _⟩ := r; exact ⟨.base (.lst h), by simp⟩
  | tup xs =>
    cases e
    obtain ⟨a, ws, rfl, (h | ⟨o, h⟩) | ⟨o, its, n, h, c, _⟩, _⟩ := r
    · exact ⟨.base (.tup h), by simp⟩
    · exact ⟨.fTuple h, by simp⟩
    · exact ⟨.kTuple h c, by simp⟩
  | dk ks xs =>
    cases e
    obtain ⟨a, kvs, rfl, h | ⟨o, h⟩, _⟩ := r
    · exact ⟨.base (.dK h), by simp⟩
    · exact ⟨.fDict h, by simp⟩
  | _ => cases e
theorem calld_isi : CallD X (rIsi X.K) isiG :=
  ⟨fun A s H vs ds z S0 ra e Q k => by
    unfold isiG at e
    split at e
    · rename_i d T
      split at e
      · rename_i hT
        obtain ⟨v, w, rfl, r, r2⟩ := seen2 ra
        have r2 : w = .ty T := r2
        subst r2
        cases q : tyD d with
        | none => rw [q] at e; cases e
        | some t =>
          rw [q] at e
          cases e
          obtain ⟨h1, h2⟩ := tyx_of r q
          have hT' : T = "bool" ∨ T = "int" ∨ T = "str" ∨ T = "list" ∨ T = "tuple" ∨ T = "dict" := by
            simp only [Bool.or_eq_true, beq_iff_eq] at hT
            rcases hT with ((((h | h) | h) | h) | h) | h <;> simp [h]
          exact ⟨v, _, _, _, _, rfl, .ty T, h1, kit_plain h2 hT', k _ H (fun _ _ h => h) .bl⟩
      · cases e
    · cases e⟩
/-- isinstance(x, C), x an instance of C -/
def isoG (C : Addr) : List D → Option D
  | [.obj C' _ _, .cls C''] => if C' = C ∧ C'' = C then some (.bl true) else none
  | _ => none
structure IoC (K : PySem.W.Frag) (C : Addr) : Prop where
  cl : Cls K C
  ha : PySem.W.findIn K (.ref C) "__class__" = some (some (.builtin "object.__class__"))
  hn : PySem.W.specialIn K (.builtin "object.__class__") "__get__" = some (some (.builtin "getset_descriptor.__get__"))
  htk : PySem.W.takesIn K (.builtin "object.__class__") = some true
  hm : PySem.W.mroIn K C (.type "object") = some true
theorem calld_iso {C : Addr} (T : IoC X.K C) : CallD X (rIsi X.K) (isoG C) :=
  ⟨fun A s H vs ds z S0 ra e Q k => by
    unfold isoG at e
    split at e
    · split at e
      · rename_i h
        obtain ⟨rfl, rfl⟩ := h
        cases e
        obtain ⟨v, w, rfl, r, r2⟩ := seen2 ra
        have r2 : w = .ref _ := r2
        subst r2
        obtain ⟨a, dx, fs, rfl, ho, _, _⟩ := r
        exact ⟨_, _, _, _, true, rfl, .own _, .base (.ins ho T.cl T.ha T.hn T.htk T.hm), by unfold PySem.W.kitOne; rw [if_pos (by simp)], k _ H (fun _ _ h => h) .bl⟩
      · cases e
    · cases e⟩
end
end Dx
end
section
namespace Dx
open PySem PySem.Spec PyProof.Rows L2

/-! ### one token is out: str.replace with written texts -/
structure DTk (X : Cx) (e : Expr) (d : DenB) : Prop where
  run : ∀ (whole : Sem Value) (pins : List (Addr × Obj)) (s : Shared) (σ : L2.St) (H : Hp) (Q : Bool → Hp → Prop), Inv X pins σ H s → tDT X.K d σ H Q → wpAny (model X.prog X.w) X.A (isTrue e X.env whole) (fun b s' => 1 ≤ s'.toks ∧ TP X pins σ Q b s') X.xe s
structure DPsT (X : Cx) (W : WX) (st : List Stmt) (d : DenS) : Prop where
  run : PSsT X st (tSD X.K W d)
structure DPT (X : Cx) (W : WX) (st : Stmt) (d : DenS) : Prop where
  run : PST X st (tSD X.K W d)
structure DET (X : Cx) (e : Expr) (d : Den) : Prop where
  run : PET X e (tD X.K d)
def dReplG (y z x : List Nat) : Option (List Nat) := if x.length + (x.length + 1) * z.length ≤ 16777216 ∧ 1 ≤ y.length then some (StrLaws.replL y z x) else none
def dRepl (y z : List Nat) (da : Den) : Den := fun env s => match da env s with
  | some (.str x, s1) => match dReplG y z x with
    | some r => some (.str r, s1)
    | none => none
  | _ => none
section
variable {X : Cx} {W : WX} {a b c e o : Expr} {es rest : List Expr} {da db dc : Den} {t u : DenB} {pos p p' apos c0 c1 : Pos} {st : Stmt} {sts sa sb : List Stmt} {d1 d2 dr : DenS} {j j' : Nat}
theorem dtk_eqS {k : Nat} {x : Str} (l : List Nat) (hr : Room k X.A) (ha : DE X a da) (h : x = S l := by decide +kernel) : DTk X (.Compare a [.Eq] [.Constant (.str x) j p] pos) (dTst (dOp eqD da (dC (.str l)))) := by
  subst h
  refine ⟨fun wh pins s σ H Q I h => ?_⟩
  have ho : OpR X (compareOp .Eq) _ := op_eq.or (op_eqD hr.units)
  have h' := tTest_imp (K := X.K) (fun σ H Q q => tOp_imp (X := X) opd_eq σ H Q q) σ H Q h
  refine wpAny_isTrue_Compare1 (thn (ha.pe.run pins s σ H _ I h') fun v s1 ⟨x, H1, I1, r1, q1⟩ => ?_) (nomark _)
  have q2 := tDc (K := X.K) (v := .str (S l)) (d := .str l) (fun _ _ => .str) σ H1 _ q1
  refine Calls.Constant_str ?_
  have I2 := I1.tok (s1.toks + 1)
  refine wpAny_mono (PySem.wpAny_toks_of (n := 1) (by show 1 ≤ s1.toks + 1; omega) (ho pins _ σ H1 x (.str (S l)) v (.str (S l) s1.toks) _ I2 r1 ⟨s1.toks, rfl⟩ q2)) (fun c s3 h3 => ?_) fun _ _ x => x.2
  obtain ⟨hk, z, H3, I3, r3, kb, e, q3⟩ := h3
  subst e
  cases r3
  exact PySem.wpAny_toks_of hk (wpAny_truthy_bool ⟨H3, I3, q3⟩) |> fun w => wpAny_mono w (fun _ _ x => x) (fun _ _ x => x.2)
theorem dtk_or (ha : DTk X a t) (hb : DW X (.BoolOp .Or (b :: rest) pos) u) : DTk X (.BoolOp .Or (a :: b :: rest) pos) (dOrT t u) := by
  refine ⟨fun wh pins s σ H Q I h => ?_⟩
  obtain ⟨A, s0, env, z, s', R, e, k⟩ := h
  unfold dOrT at e
  split at e
  · rename_i s1 e1
    cases e
    refine isTrue_or (thn (ha.run _ pins s σ H (fun b H' => b = true ∧ Q true H') I (tDT_mk R e1 fun H1 A1 S1 l1 => ⟨rfl, k H1 A1 S1 l1⟩)) fun c s1 ⟨hk, H1, I1, hc, q1⟩ => ?_)
    subst hc
    exact ⟨hk, H1, I1, q1⟩
  · rename_i s1 e1
    refine isTrue_or (thn (ha.run _ pins s σ H (fun b H' => b = false ∧ tDT X.K u σ H' Q) I (tDT_mk R e1 fun H1 A1 S1 l1 => ⟨rfl, tDT_mk (R.le S1 l1) e fun H2 A2 S2 l2 => k H2 A2 S2 (l1.trans l2)⟩)) fun c s1 ⟨hk, H1, I1, hc, q1⟩ => ?_)
    subst hc
    exact wpAny_mono (PySem.wpAny_toks_of hk (hb.pw.run wh pins s1 σ H1 Q I1 q1)) (fun _ _ x => x) (fun _ _ x => x.2)
  · cases e
theorem dpt_of (h : DS X W st d1) : DPT X W st d1 := ⟨PST.of h.ps⟩
theorem dpst_of (h : DSs X W sts d1) : DPsT X W sts d1 := ⟨PSsT.of h.ps⟩
theorem psst_imp {e : List Stmt} {t t' : TS} (h : PSsT X e t) (k : ∀ E σ H, t' E σ H → t E σ H) : PSsT X e t' := fun pins s σ H D h0 I q => h pins s σ H D h0 I (k D σ H q)
theorem pst_imp {e : Stmt} {t t' : TS} (h : PST X e t) (k : ∀ E σ H, t' E σ H → t E σ H) : PST X e t' := fun pins s σ H D h0 I q => h pins s σ H D h0 I (k D σ H q)
theorem pet_imp {e : Expr} {t t' : TE} (h : PET X e t) (k : ∀ σ H Q, t' σ H Q → t σ H Q) : PET X e t' := fun pins s σ H Q h0 I q => h pins s σ H Q h0 I (k σ H Q q)
theorem tSeq_imp : ∀ E σ H, tSD X.K W (dSeq d1 d2) E σ H → tSeq (tSD X.K W d1) (tSD X.K W d2) E σ H := by
  rintro E σ H ⟨A, s, env, fl, env', s', R, e, k⟩
  unfold dSeq at e
  split at e
  · rename_i env1 s1 e1
    exact ⟨A, s, env, .nx, env1, s1, R, e1, fun σ1 H1 A1 R1 l1 => ⟨A1, s1, env1, fl, env', s', R1, e, k.le l1⟩⟩
  · rename_i hn
    refine ⟨A, s, env, fl, env', s', R, e, ?_⟩
    cases fl with
    | nx => exact absurd e (hn _ _)
    | bk => exact k
    | ct => exact k
    | rt r => exact k
    | ex C p => exact k
theorem dpst_cons (h1 : DPT X W st d1) (h2 : DPsT X W sts d2) : DPsT X W (st :: sts) (dSeq d1 d2) := ⟨psst_imp (psst_cons h1.run h2.run) tSeq_imp⟩
theorem dpst_one (h1 : DPT X W st d1) : DPsT X W [st] d1 := by
  have h := dpst_cons h1 (dpst_of dss_nil)
  refine ⟨psst_imp h.run ?_⟩
  rintro E σ H ⟨A, s, env, fl, env', s', R, e, k⟩
  refine ⟨A, s, env, fl, env', s', R, ?_, k⟩
  unfold dSeq dSkip
  rw [e]
  cases fl <;> rfl
/-- if c: .. / rest, where c leaves a token behind -/
theorem dss_ifk (hc : DTk X c t) (ha : DSs X W sa d1) (hb : DSs X W sb d2) (hr : DPsT X W sts dr) : DSs X W (.If c sa sb pos :: sts) (dSeq (dIfS t d1 d2) dr) := by
  refine ⟨pss_imp (t := tSeq (tSD X.K W (dIfS t d1 d2)) (tSD X.K W dr)) ⟨fun pins s σ H D I h => ?_⟩ tSeq_imp⟩
  have hst : wpAny (model X.prog X.w) X.A (exec (.If c sa sb pos) X.env) (fun f s' => 1 ≤ s'.toks ∧ SP X pins { D with nx := (tSD X.K W dr) D } f s') X.xe s := by
    obtain ⟨A, s0, env, fl, env', s', R, e, k⟩ := h
    unfold dIfS at e
    split at e
    · rename_i s1 e1
      refine wpAny_If (thn (hc.run _ pins s σ H (fun b H' => b = true ∧ tSD X.K W d1 { D with nx := (tSD X.K W dr) D } σ H') I (tDT_mk R e1 fun H1 A1 S1 l1 => ⟨rfl, ⟨A1, s1, env, fl, env', s', R.le S1 l1, e, k.le l1⟩⟩)) fun b s2 ⟨hk, H2, I2, hb2, q2⟩ => ?_)
      subst hb2
      exact wpAny_mono (PySem.wpAny_toks_of hk (ha.ps.run pins s2 σ H2 _ I2 q2)) (fun _ _ x => x) (fun _ _ x => x.2)
    · rename_i s1 e1
      refine wpAny_If (thn (hc.run _ pins s σ H (fun b H' => b = false ∧ tSD X.K W d2 { D with nx := (tSD X.K W dr) D } σ H') I (tDT_mk R e1 fun H1 A1 S1 l1 => ⟨rfl, ⟨A1, s1, env, fl, env', s', R.le S1 l1, e, k.le l1⟩⟩)) fun b s2 ⟨hk, H2, I2, hb2, q2⟩ => ?_)
      subst hb2
      exact wpAny_mono (PySem.wpAny_toks_of hk (hb.ps.run pins s2 σ H2 _ I2 q2)) (fun _ _ x => x) (fun _ _ x => x.2)
    · cases e
  refine wpAny_execs_cons (thn hst fun f s1 q => ?_)
  obtain ⟨hk, q⟩ := q
  cases f with
  | next =>
    obtain ⟨σ', H', I', q⟩ := q
    exact hr.run pins s1 σ' H' D hk I' q
  | ret v => exact q
  | brk => exact q
  | cont => exact q
theorem det_of (h : DE X a da) : DET X a da := ⟨fun pins s σ H Q _ I q => h.pe.run pins s σ H Q I q⟩
/-- the receiver may want a token -/
theorem det_repl {y z : Str} (ly lz : List Nat) (ha : DET X o da) (hyz : (y == z) = false := by decide) (hy : y = S ly := by decide +kernel) (hz : z = S lz := by decide +kernel)
    (hst : starEach [.Constant (.str y) j c0, .Constant (.str z) j' c1] X.env = [(false, eval (.Constant (.str y) j c0) X.env), (false, eval (.Constant (.str z) j' c1) X.env)] := by rfl)
    (hbase : attributeBase o "replace" X.env (eval o X.env) = eval o X.env := by rfl) (hline : (apos.endLine == pos.line) = true := by rfl) :
    DET X (.Call (.Attribute o "replace" apos) [.Constant (.str y) j c0, .Constant (.str z) j' c1] [] pos) (dRepl ly lz da) := by
  subst hy
  subst hz
  refine ⟨pet_imp (CwR.pet_replT ha.run hyz hst hbase hline) ?_⟩
  rintro σ H Q ⟨A, s, env, r, s', R, e, k⟩
  unfold dRepl at e
  split at e
  · rename_i x s1 e1
    split at e
    · rename_i r hr
      cases e
      unfold dReplG at hr
      split at hr
      · rename_i hb
        cases hr
        refine tD_mk R e1 fun v H1 A1 S1 l1 r1 => ?_
        cases r1
        refine ⟨S x, rfl, by rw [S_length, S_length]; exact hb.1, ?_⟩
        have er : Txt.replace (S x) (S ly) (S lz) = S (StrLaws.replL ly lz x) := by
          have q := StrLaws.replace_list (x := S x) (y := S ly) (z := S lz) (by rw [S_length]; exact hb.2)
          rw [S_list, S_list, S_list] at q
          rw [← q]
          exact (S_tl _).symm
        rw [er]
        exact k _ H1 A1 S1 l1 .str
      · cases hr
    · cases e
  · cases e
theorem det_cmp {op : CmpOp} {r : R2} {g : G2} (ho : OpR X (compareOp op) r) (hg : OpD X r g) (ha : DET X a da) (hb : DE X b db) (hm : behindInMarks op b = false) : DET X (.Compare a [op] [b] pos) (dOp g da db) := by
  refine ⟨pet_imp (t := tOp r (tD X.K da) (tD X.K db)) (fun pins s σ H Q h0 I h => ?_) (tOp_imp hg)⟩
  exact wpAny_Compare1 (thn (ha.run pins s σ H _ h0 I h) fun v s1 ⟨x, H1, I1, r1, q1⟩ => thn (hb.pe.run pins s1 σ H1 _ I1 q1) fun u s2 ⟨y, H2, I2, r2, q2⟩ => ho pins s2 σ H2 x y v u Q I2 r1 r2 q2) hm
theorem det_eq {k : Nat} (hr : Room k X.A) (ha : DET X a da) (hb : DE X b db) : DET X (.Compare a [.Eq] [b] pos) (dOp eqD da db) := det_cmp (op_eq.or (op_eqD hr.units)) opd_eq ha hb (nomark _)
theorem dpt_ret (ha : DET X a da) : DPT X W (.Return (some a) pos) (dRet da) := by
  refine ⟨pst_imp (CwR.pst_ret ha.run) ?_⟩
  rintro E σ H ⟨A, s, env, fl, env', s', R, e, k⟩
  unfold dRet at e
  split at e
  · rename_i x s1 e1
    cases e
    exact tD_mk R e1 k
  · cases e
end
end Dx
end
section
namespace Dx
open PySem PySem.Spec PyProof.Rows L2

/-! ### self.f = e -/
def putN (f : Str) (d : D) : List Str → List D → List Str × List D
  | n :: ns, v :: vs => if n = f then (n :: ns, d :: vs) else ((n :: (putN f d ns vs).1), (v :: (putN f d ns vs).2))
  | _, _ => ([f], [d])
theorem putN_V {K : PySem.W.Frag} {A : List Addr} {H : Hp} {f : Str} {y : V} {d : D} (r : Rep K A H y d) : ∀ {fs : List (Str × V)} {ds : List D}, Reps K A H (fs.map (·.2)) ds →
    (putF f y fs).map (·.1) = (putN f d (fs.map (·.1)) ds).1 ∧ Reps K A H ((putF f y fs).map (·.2)) (putN f d (fs.map (·.1)) ds).2
  | [], _, .nil => ⟨rfl, .cons r .nil⟩
  | (n, v) :: fs, _, .cons q t => by
    simp only [putF, List.map_cons, putN]
    by_cases h : n = f
    · rw [if_pos h, if_pos h]
      exact ⟨rfl, .cons r t⟩
    · rw [if_neg h, if_neg h]
      obtain ⟨h1, h2⟩ := putN_V r t
      exact ⟨congrArg (n :: ·) h1, .cons q h2⟩
def dFldS (C : Addr) (f : Str) (dob da : Den) : DenS := fun env s => match da env s with
  | some (y, s1) => match dob env s1 with
    | some (.cell j, s2) => match s2[j]? with
      | some (.ins C' ns vs) => if C' = C ∧ ns.length < 1000 then some (.nx, env, s2.set j (.ins C' (putN f y ns vs).1 (putN f y ns vs).2)) else none
      | _ => none
    | _ => none
  | none => none
section
variable {X : Cx} {W : WX} {a b c e o : Expr} {es : List Expr} {da db dc : Den} {pos pos' p : Pos} {C : Addr} {f : Str}
theorem ds_fld (cl : Cls X.K C) (n : NoAttr X.K C f) (hob : DE X o da) (ha : DE X a db) (hs : swapsWith a (some (.Attribute o f pos')) pos.line X.env = pure false := by rfl) : DS X W (.Assign [.Attribute o f pos'] a pos) (dFldS C f da db) := by
  refine ⟨ps_imp (ps_fld hob.pe ha.pe hs) ?_⟩
  rintro E σ H ⟨A, s, env, fl, env', s', R, e, k⟩
  unfold dFldS at e
  split at e
  · rename_i y s1 e1
    split at e
    · rename_i j s2 e2
      split at e
      · rename_i C' ns vs hc
        split at e
        · rename_i hC
          obtain ⟨rfl, hl⟩ := hC
          cases e
          refine tD_mk R e1 fun v H1 A1 S1 l1 r1 => ?_
          refine tD_mk (R.le S1 l1) e2 fun u H2 A2 S2 l2 r2 => ?_
          obtain ⟨a, rfl, ha1⟩ := cell_at r2
          obtain ⟨dx, fs, z, en, rs⟩ := S2.cells j _ a hc ha1
          subst en
          obtain ⟨q1, q2⟩ := putN_V (f := f) (r1.le l2) rs
          refine ⟨a, _, dx, fs, rfl, z, cl, n, by simpa using hl, ?_⟩
          obtain ⟨S3, l3⟩ := S2.setc (c' := .ins C' (putN f y (fs.map (·.1)) vs).1 (putN f y (fs.map (·.1)) vs).2) (o' := .ins C' dx (putF f v fs)) ha1 hc rfl rfl fun H' h' => ⟨dx, _, h', q1.symm, q2⟩
          exact k σ _ A2 ((R.le S1 l1).le S3 (l2.trans l3)) (l1.trans (l2.trans l3))
        · cases e
      · cases e
    · cases e
  · cases e

/-! ### x == y, x + y of an own class -/
def okRes : D → Bool
  | .bl _ => true
  | .obj _ _ _ => true
  | .lst _ => true
  | .cell _ => true
  | _ => false
def dOwn (C : Addr) (g : DFn) (da db : Den) : Den := fun env s => match da env s with
  | some (x, s1) => match db env s1 with
    | some (y, s2) => match vw s2 x, vw s2 y with
      | .obj C1 _ _, .obj C2 _ _ => if C1 = C ∧ C2 = C then match g [x, y] s2 with
        | some (.ret r, s3) => if okRes r = true then some (r, s3) else none
        | _ => none
        else none
      | _, _ => none
    | none => none
  | none => none
def rOwn (K : PySem.W.Frag) (C : Addr) (g : DFn) : R2 := fun x y H Q => ∃ (a b dx dy : Addr) (fs gs : List (Str × V)), x = .ref a ∧ y = .ref b ∧ H a = some (.ins C dx fs) ∧ H b = some (.ins C dy gs) ∧ spOf K g [.ref a, .ref b] H (fun v H' => Q v H' ∧ ((∃ r, v = .bl r) ∨ ∃ r, v = .ref r)) E0
theorem tOwn_imp {g : DFn} : ∀ σ H Q, tD X.K (dOwn C g da db) σ H Q → tOp (rOwn X.K C g) (tD X.K da) (tD X.K db) σ H Q := by
  rintro σ H Q ⟨A, s, env, z, s', R, e, k⟩
  unfold dOwn at e
  split at e
  · rename_i x s1 e1
    split at e
    · rename_i y s2 e2
      split at e
      · rename_i C1 ns vs C2 ns' vs' h1 h2
        split at e
        · rename_i hC
          obtain ⟨rfl, rfl⟩ := hC
          split at e
          · rename_i r s3 e3
            split at e
            · rename_i hok
              cases e
              refine tD_mk R e1 fun v H1 A1 S1 l1 r1 => ?_
              refine tD_mk (R.le S1 l1) e2 fun u H2 A2 S2 l2 r2 => ?_
              have sn1 := (r1.le l2).seen S2
              have sn2 := r2.seen S2
              rw [h1] at sn1
              rw [h2] at sn2
              obtain ⟨a, dx, fs, rfl, ho, _, _⟩ := sn1
              obtain ⟨b, dy, gs, rfl, ho2, _, _⟩ := sn2
              refine ⟨a, b, dx, dy, fs, gs, rfl, rfl, ho, ho2, sp_call S2 (.cons (r1.le l2) (.cons r2 .nil)) e3 fun v H3 A3 S3 l3 r3 => ⟨k v H3 A3 S3 (l1.trans (l2.trans l3)) r3, ?_⟩⟩
              cases r3 <;> first | exact .inl ⟨_, rfl⟩ | exact .inr ⟨_, rfl⟩ | cases hok
            · cases e
          · cases e
        · cases e
      · cases e
    · cases e
  · cases e
variable {k : Nat} {m : Addr} {fd : FuncData} {ps : List Str} {g : DFn}
theorem back_ok {pins : List (Addr × Obj)} {σ : L2.St} {Q : VK} {w : Value} {s' : Shared} (h : EP X pins σ (fun v H' => Q v H' ∧ ((∃ r, v = .bl r) ∨ ∃ r, v = .ref r)) w s') : PySem.W.CmpBack (EP X pins σ Q) w s' := by
  obtain ⟨v, H', I, r, q, t⟩ := h
  rcases t with ⟨b, rfl⟩ | ⟨b, rfl⟩
  · have r' := r
    cases r
    exact ⟨_, H', I, r', q⟩
  · have r' := r
    cases r
    exact ⟨_, H', I, r', q⟩
theorem op_eqOwn (F : DefOk X.prog X.w X.K X.mg X.base k m fd ps g) (hr : Room k X.A) (hs : PySem.W.findIn X.K (.ref C) "__eq__" = some (some (.ref m))) (hf : PySem.W.isFn X.K (.ref m) = true) (hb : Binds X.K fd ps []) : OpR X (compareOp .Eq) (rOwn X.K C g) := by
  intro pins s σ H x y v u Q I rx ry hq
  obtain ⟨a, b, dx, dy, fs, gs, rfl, rfl, ha, hb', hsp⟩ := hq
  cases rx
  cases ry
  obtain ⟨mA, J, _⟩ := ins_get I.hok ha
  obtain ⟨mB, J', _⟩ := ins_get I.hok hb'
  obtain ⟨od, J, _⟩ := J.look
  obtain ⟨od', J', _⟩ := J'.look
  obtain ⟨mm, hF⟩ := I.fr
  refine PySem.W.cmp_K (op := .Eq) (tb := .ref C) hr.units0 hF I.ok.mod.kin J J'.type (by simp [PySem.W.notFirst]) hs hf ?_
  exact thn (run_fn F hr hb (dvs := []) .nil (E := E0) passL I (Paired.cons (show RelV (.ref a) (.ref a) from rfl) (Paired.cons (show RelV (.ref b) (.ref b) from rfl) .nil)) hsp) fun w s1 h => back_ok h
theorem op_addOwn (F : DefOk X.prog X.w X.K X.mg X.base k m fd ps g) (hr : Room k X.A) (hc : PySem.W.selfFirst X.K C = true) (hs : PySem.W.findIn X.K (.ref C) "__add__" = some (some (.ref m))) (hf : PySem.W.isFn X.K (.ref m) = true) (hb : Binds X.K fd ps []) : OpR X (binaryOp .Add) (rOwn X.K C g) := by
  intro pins s σ H x y v u Q I rx ry hq
  obtain ⟨a, b, dx, dy, fs, gs, rfl, rfl, ha, hb', hsp⟩ := hq
  cases rx
  cases ry
  obtain ⟨mA, J, _⟩ := ins_get I.hok ha
  obtain ⟨mB, J', _⟩ := ins_get I.hok hb'
  obtain ⟨od, J, _⟩ := J.look
  obtain ⟨od', J', _⟩ := J'.look
  obtain ⟨mm, hF⟩ := I.fr
  refine PySem.W.binop_K (op := .Add) hF I.ok.mod.kin J J'.type hc hs hf ?_
  exact thn (run_fn F hr hb (dvs := []) .nil (E := E0) passL I (Paired.cons (show RelV (.ref a) (.ref a) from rfl) (Paired.cons (show RelV (.ref b) (.ref b) from rfl) .nil)) hsp) fun w s1 h => back_ok h
theorem de_eqOwn (F : DefOk X.prog X.w X.K X.mg X.base k m fd ps g) (hr : Room k X.A) (hs : PySem.W.findIn X.K (.ref C) "__eq__" = some (some (.ref m))) (hf : PySem.W.isFn X.K (.ref m) = true) (hb : Binds X.K fd ps []) (ha : DE X a da) (hb' : DE X b db) :
    DE X (.Compare a [.Eq] [b] pos) (dOwn C g da db) := ⟨pe_imp (pe_cmpR (op_eqOwn F hr hs hf hb) ha.pe hb'.pe (nomark _)) tOwn_imp⟩
theorem dt_eqOwn (F : DefOk X.prog X.w X.K X.mg X.base k m fd ps g) (hr : Room k X.A) (hs : PySem.W.findIn X.K (.ref C) "__eq__" = some (some (.ref m))) (hf : PySem.W.isFn X.K (.ref m) = true) (hb : Binds X.K fd ps []) (ha : DE X a da) (hb' : DE X b db) :
    DT X (.Compare a [.Eq] [b] pos) (dTst (dOwn C g da db)) := ⟨pt_imp (pt_cmpR (op_eqOwn F hr hs hf hb) ha.pe hb'.pe (nomark _)) (tTest_imp tOwn_imp)⟩
theorem de_addOwn (F : DefOk X.prog X.w X.K X.mg X.base k m fd ps g) (hr : Room k X.A) (hc : PySem.W.selfFirst X.K C = true) (hs : PySem.W.findIn X.K (.ref C) "__add__" = some (some (.ref m))) (hf : PySem.W.isFn X.K (.ref m) = true) (hb : Binds X.K fd ps []) (ha : DE X a da) (hb' : DE X b db) :
    DE X (.BinOp a .Add b pos) (dOwn C g da db) := ⟨pe_imp (pe_op (op_addOwn F hr hc hs hf hb) ha.pe hb'.pe) tOwn_imp⟩
end
end Dx
end
section
namespace Dx
open PySem PySem.Spec PyProof.Rows L2

/-! ### small things for the printed texts -/
def blkB (N : List Str) (sc scope : Scope) (own : List (Str × Nat)) : Bool :=
  decide (scope.kind = .function) && (scope.names.all (fun y => decide (scope.names.lookup y.1 = some y.2)) && (own.all (fun p => decide (N[p.2]? = some p.1)) &&
    (scope.names.all (fun y => !decide (y.2 = .free) || (decide (sc.names.lookup y.1 = some .cell) || decide (sc.names.lookup y.1 = some .free))) &&
      scope.names.all (fun y => !(decide (y.2 = .local) || decide (y.2 = .cell)) || (decide (y.1 ∈ own.map (·.1)) || !decide (y.1 ∈ N))))))
theorem blk_mk {N N' : List Str} {sc sc' scope : Scope} {own : List (Str × Nat)} (hN : N = N') (hs : sc = sc') (h : blkB N' sc' scope own = true) : BlkOk N sc scope own := by
  subst hN
  subst hs
  unfold blkB at h
  simp only [Bool.and_eq_true, List.all_eq_true, decide_eq_true_eq] at h
  obtain ⟨h1, h2, h3, h4, h5⟩ := h
  refine ⟨h1, h2, h3, fun y hy e => ?_, fun y hy e => ?_⟩
  · have := h4 y hy
    simpa [e] using this
  · have := h5 y hy
    rcases e with e | e <;> simpa [e] using this
/-- a, b = a tuple or a list -/
def gTL (n : Nat) (gs : DTgts) : DTgt := fun d env s => match vw s d with
  | .tup xs => if xs.length = n then gs xs env s else none
  | .lst xs => if xs.length = n then gs xs env s else none
  | _ => none
section
variable {X : Cx} {tg : Expr} {tgs : List Expr} {gs : DTgts} {pos : Pos}
theorem dg_tupL {k n : Nat} (hc : X.calm = true) (h : DGs X tgs gs) (hn : (assignEach tgs X.env).length = n := by rfl) (hst : (assignEach tgs X.env).findIdx? (·.1) = none := by rfl) : DG X (.Tuple tgs k pos) (gTL n gs) := by
  have h1 := pg_tup (k := k) (pos := pos) hc h.pg hn hst
  have h2 := pg_unl (k := k) (pos := pos) hc h.pg hn hst
  refine ⟨pg_imp (t := fun v σ H Q => _ ∨ _) ⟨fun pins s σ H x u Q I r q => q.elim (h1.run pins s σ H x u Q I r) (h2.run pins s σ H x u Q I r)⟩ ?_⟩
  rintro v σ H Q ⟨A, s, env, d, env', s', R, r, e, k⟩
  unfold gTL at e
  have sn := r.seen R.sr
  split at e
  · rename_i xs hv
    rw [hv] at sn
    obtain ⟨a, vs, rfl, hs, rs⟩ := sn
    split at e
    · rename_i hl
      exact .inl ⟨_, _, rfl, hs, by rw [rs.length]; exact hl, A, s, env, _, env', s', R, rs, e, k⟩
    · cases e
  · rename_i xs hv
    rw [hv] at sn
    obtain ⟨a, vs, rfl, hs, rs⟩ := sn
    split at e
    · rename_i hl
      exact .inr ⟨_, _, rfl, SqL.of hs, by rw [rs.length]; exact hl, A, s, env, _, env', s', R, rs, e, k⟩
    · cases e
  · cases e
end
section
variable {P : Program} {w : World} {K : PySem.W.Frag} {mg : Str → Option Value} {base : Heap}
theorem def_none {k : Nat} {f : Addr} {fd : FuncData} {ps : List Str} : DefOk P w K mg base k f fd ps (fun _ _ => none) :=
  ⟨fun vs H Q E h => (by obtain ⟨_, _, _, _, _, _, _, e, _⟩ := h; cases e), fun A st s H a us vs Q E hr e0 b r h => (by obtain ⟨_, _, _, _, _, _, _, e, _⟩ := h; cases e)⟩
/-- what is known of a def -/
structure FnT (K : PySem.W.Frag) (x qual : Str) (st : Stmt) (ps : List Str) (f : Addr) (fd : FuncData) : Prop where
  F : Fun K x qual st f fd
  B : Binds K fd ps []
structure FnG (K : PySem.W.Frag) (mg : Str → Option Value) (x : Str) (st : Stmt) (ps : List Str) (f : Addr) (fd : FuncData) : Prop where
  F : Fun K x x st f fd
  B : Binds K fd ps []
  G : mg x = some (.ref f)
theorem kit_own {C R : Addr} (h1 : PySem.W.isClsIn K R = true) (h2 : PySem.W.typeIn K (.ref R) = some (.type "type")) (h3 : PySem.W.subIn K (.ref C) (.ref R) = some true) : PySem.W.kitOne K (.ref C) (.ref R) = some true := by
  have hc : (PySem.W.clsIn K R).isSome = true := h1
  unfold PySem.W.kitOne
  split
  · rfl
  · show (if ((PySem.W.clsIn K R).isSome && PySem.W.typeIn K (.ref R) == some (.type "type")) = true then PySem.W.subIn K (.ref C) (.ref R) else none) = some true
    rw [hc, h2]
    exact h3
theorem exm_own {C : Addr} (h1 : PySem.W.subIn K (.ref C) (.type "BaseException") = some true) (h2 : PySem.W.isClsIn K C = true) (h3 : PySem.W.typeIn K (.ref C) = some (.type "type")) (h4 : PySem.W.subIn K (.ref C) (.ref C) = some true) :
    PySem.W.exmOne K (.ref C) (.ref C) = some true := by
  have hc : (PySem.W.clsIn K C).isSome = true := h2
  have e1 : (PySem.W.subIn K (.ref C) (.type "BaseException") == some true) = true := by rw [h1]; rfl
  have e2 : ((PySem.W.clsIn K C).isSome && PySem.W.typeIn K (.ref C) == some (.type "type")) = true := by rw [hc, h3]; rfl
  show (if (PySem.W.subIn K (.ref C) (.type "BaseException") == some true) = true then (if ((PySem.W.clsIn K C).isSome && PySem.W.typeIn K (.ref C) == some (.type "type")) = true then PySem.W.subIn K (.ref C) (.ref C) else none) else none) = some true
  rw [if_pos e1, if_pos e2]
  exact h4
/-! the law itself -/
def spLaw (K : PySem.W.Frag) : Sp := fun vs H Q _ => ∃ (a : Addr) (ns : List Int), vs = [.ref a] ∧ SqL K H a (ns.map V.int) ∧ ns.length ≤ 63 ∧ ∀ H', Q (.bl true) H'
theorem vis_nil {H : Hp} : vis [] [] H = H := by
  funext a
  exact vis_not fun ⟨j, h, _⟩ => by simp at h
theorem law_fn {k : Nat} {f : Addr} {fd : FuncData} {den : DFn} (F : DefOk P w K mg base k f fd ["script"] den) (h : ∀ ns : List Int, ns.length ≤ 63 → den [.scr ns] [] = some (.ret (.bl true), [])) :
    FnOk P w K mg base (L2.CX P w) k f fd ["script"] (spLaw K) := F.imp fun vs H Q E hq => by
  obtain ⟨a, ns, rfl, hS, hl, q⟩ := hq
  refine ⟨[], [], [.scr ns], _, _, ⟨rfl, fun i j a h => by simp at h, fun j c a h => by simp at h⟩, .cons (.scr (by rw [vis_nil]; exact hS)) .nil, h ns hl, fun v H' A' _ _ r => ?_⟩
  cases r
  exact q H'
theorem cx_no {H : Hp} {s : Shared} {e : Value} {s' : Shared} (h : L2.CX P w [] H s (fun _ _ _ => False) e s') : False := by
  obtain ⟨a, B, H', cls, d, _, _, _, _, _, _, _, z⟩ := h
  exact z
end
end Dx
end
section
namespace Dx
open PySem PySem.Spec PyProof.Rows L2

/-! ### a text in a text -/
def infB (x : List Nat) : List Nat → Bool
  | [] => x.isEmpty
  | c :: r => x.isPrefixOf (c :: r) || infB x r
theorem infB_iff (x : List Nat) : ∀ y : List Nat, infB x y = true ↔ ∃ i, i + x.length ≤ y.length ∧ (y.drop i).take x.length = x
  | [] => by
    constructor
    · intro h
      have : x = [] := by simpa [infB] using h
      subst this
      exact ⟨0, by simp⟩
    · rintro ⟨i, h1, _⟩
      have : x = [] := by
        have : x.length = 0 := by simp only [List.length_nil] at h1; omega
        exact List.eq_nil_of_length_eq_zero this
      subst this
      rfl
  | c :: r => by
    have pre : x.isPrefixOf (c :: r) = true ↔ x.length ≤ (c :: r).length ∧ (c :: r).take x.length = x := by
      rw [List.isPrefixOf_iff_prefix, List.prefix_iff_eq_take]
      constructor
      · intro h
        refine ⟨?_, h.symm⟩
        have := congrArg List.length h
        rw [List.length_take] at this
        omega
      · exact fun h => h.2.symm
    simp only [infB, Bool.or_eq_true]
    rw [pre, infB_iff x r]
    constructor
    · rintro (⟨h1, h2⟩ | ⟨i, h1, h2⟩)
      · exact ⟨0, by simpa using h1, by simpa using h2⟩
      · exact ⟨i + 1, by simp; omega, by simpa using h2⟩
    · rintro ⟨i, h1, h2⟩
      cases i with
      | zero => exact .inl ⟨by simpa using h1, by simpa using h2⟩
      | succ i => exact .inr ⟨i, by simp at h1; omega, by simpa using h2⟩
def inSD : G2 | .str x, .str y => some (.bl (infB x y)) | _, _ => none
section
variable {X : Cx} {a b : Expr} {da db : Den} {pos : Pos}
theorem opd_inS : OpD X (fun x y H Q => ∃ i j, x = .str i ∧ y = .str j ∧ Q (.bl (!(Builtin.Str.occurrences j i 0 j.length 1).isEmpty)) H) inSD :=
  ⟨fun A s H x y a b z S0 ra rb e Q k => by
    cases a <;> cases b <;> simp [inSD] at e
    rename_i x y
    subst e
    refine ⟨S x, S y, ra, rb, ?_⟩
    have : (!(Builtin.Str.occurrences (S y) (S x) 0 (S y).length 1).isEmpty) = infB x y := by
      rw [Bool.eq_iff_iff, StrLaws.found_iff, infB_iff]
      constructor
      · rintro ⟨i, h1, h2⟩
        rw [StrLaws.subAt_eq, S_list, S_list, S_length] at h2
        rw [S_length, S_length] at h1
        exact ⟨i, h1, by simpa using h2⟩
      · rintro ⟨i, h1, h2⟩
        refine ⟨i, by rw [S_length, S_length]; exact h1, ?_⟩
        rw [StrLaws.subAt_eq, S_list, S_list, S_length]
        simpa using h2
    rw [this]
    exact k _ H (fun _ _ h => h) .bl⟩
theorem de_inS (ha : DE X a da) (hb : DE X b db) (hm : behindInMarks .In b = false := by rfl) : DE X (.Compare a [.In] [b] pos) (dOp inSD da db) := de_cmp op_in_str opd_inS ha hb hm
theorem dt_inS (ha : DE X a da) (hb : DE X b db) (hm : behindInMarks .In b = false := by rfl) : DT X (.Compare a [.In] [b] pos) (dTst (dOp inSD da db)) := dt_cmp op_in_str opd_inS ha hb hm
end

/-! ### evaluation, for the pure part -/
section
variable {g : G2} {da db dc : Den} {ds : DenL} {t u : DenB} {d1 d2 : DenS} {env : DEnv} {s : Sto} {i j n : Nat}
def seqK (d2 : DenS) : Fl × DEnv × Sto → Option (Fl × DEnv × Sto)
  | (.nx, e, s) => d2 e s
  | r => some r
theorem ev_seq : dSeq d1 d2 env s = (d1 env s).bind (seqK d2) := by
  unfold dSeq seqK
  cases d1 env s with
  | none => rfl
  | some r => obtain ⟨fl, e, s1⟩ := r; cases fl <;> rfl
theorem seqK_nx : seqK d2 (.nx, env, s) = d2 env s := rfl
theorem seqK_rt {r : D} : seqK d2 (.rt r, env, s) = some (.rt r, env, s) := rfl
theorem seqK_ex {C : Addr} {r : D} : seqK d2 (.ex C r, env, s) = some (.ex C r, env, s) := rfl
theorem seqK_bk : seqK d2 (.bk, env, s) = some (.bk, env, s) := rfl
theorem seqK_ct : seqK d2 (.ct, env, s) = some (.ct, env, s) := rfl
theorem ev_skip : dSkip env s = some (.nx, env, s) := rfl
theorem ev_brk : dBrk env s = some (.bk, env, s) := rfl
theorem ev_cont : dCont env s = some (.ct, env, s) := rfl
theorem ev_asg {gt : DTgt} : dAsg da gt env s = (da env s).bind fun p => (gt p.1 env p.2).bind fun q => some (.nx, q.1, q.2) := by
  unfold dAsg
  cases da env s with
  | none => rfl
  | some r => obtain ⟨x, s1⟩ := r; simp only [Option.bind_some]; cases gt x env s1 <;> rfl
theorem ev_gN {d : D} : gN i d env s = some (env.set i (some d), s) := rfl
theorem ev_if : dIfS t d1 d2 env s = (t env s).bind fun p => if p.1 = true then d1 env p.2 else d2 env p.2 := by
  unfold dIfS
  cases t env s with
  | none => rfl
  | some r => obtain ⟨b, s1⟩ := r; cases b <;> rfl
theorem ev_ret : dRet da env s = (da env s).bind fun p => some (.rt p.1, env, p.2) := by
  unfold dRet
  cases da env s <;> rfl
theorem ev_expr : dExpr da env s = (da env s).bind fun p => some (.nx, env, p.2) := by
  unfold dExpr
  cases da env s <;> rfl
theorem ev_raise {C : Addr} : dRaise C da env s = (da env s).bind fun p => some (.ex C p.1, env, p.2) := by
  unfold dRaise
  cases da env s <;> rfl
theorem ev_new : dNew i ds env s = (ds env s).bind fun p => some (.nx, env.set i (some (.cell p.2.length)), p.2 ++ [.lst p.1]) := by
  unfold dNew
  cases ds env s <;> rfl
def parK (i j : Nat) (env : DEnv) : List D × Sto → Option (Fl × DEnv × Sto)
  | ([x, y], s) => some (.nx, (env.set i (some x)).set j (some y), s)
  | _ => none
theorem ev_par : dPar i j ds env s = (ds env s).bind (parK i j env) := by
  unfold dPar parK
  cases ds env s with
  | none => rfl
  | some r =>
    obtain ⟨x, s1⟩ := r
    match x with
    | [] => rfl
    | [_] => rfl
    | [_, _] => rfl
    | _ :: _ :: _ :: _ => rfl
theorem parK_ev {x y : D} : parK i j env ([x, y], s) = some (.nx, (env.set i (some x)).set j (some y), s) := rfl
/- tests -/
def tstK : D × Sto → Option (Bool × Sto)
  | (.bl b, s) => some (b, s)
  | _ => none
theorem ev_tst : dTst da env s = (da env s).bind tstK := by
  unfold dTst tstK
  cases da env s with
  | none => rfl
  | some r => obtain ⟨x, s1⟩ := r; cases x <;> rfl
theorem tstK_bl {b : Bool} : tstK (.bl b, s) = some (b, s) := rfl
theorem ev_tru : dTru da env s = (da env s).bind fun p => (truD (vw p.2 p.1)).bind fun b => some (b, p.2) := by
  unfold dTru
  cases da env s with
  | none => rfl
  | some r => obtain ⟨x, s1⟩ := r; simp only [Option.bind_some]; cases truD (vw s1 x) <;> rfl
theorem ev_andT : dAndT t u env s = (t env s).bind fun p => if p.1 = true then u env p.2 else some (false, p.2) := by
  unfold dAndT
  cases t env s with
  | none => rfl
  | some r => obtain ⟨b, s1⟩ := r; cases b <;> rfl
theorem ev_orT : dOrT t u env s = (t env s).bind fun p => if p.1 = true then some (true, p.2) else u env p.2 := by
  unfold dOrT
  cases t env s with
  | none => rfl
  | some r => obtain ⟨b, s1⟩ := r; cases b <;> rfl
theorem ev_notT : dNotT t env s = (t env s).bind fun p => some (!p.1, p.2) := by
  unfold dNotT
  cases t env s with
  | none => rfl
  | some r => obtain ⟨b, s1⟩ := r; cases b <;> rfl
theorem ev_andE : dAndE da db env s = (da env s).bind fun p => (truD (vw p.2 p.1)).bind fun b => if b = true then db env p.2 else some (p.1, p.2) := by
  unfold dAndE
  cases da env s with
  | none => rfl
  | some r =>
    obtain ⟨x, s1⟩ := r
    simp only [Option.bind_some]
    cases truD (vw s1 x) with
    | none => rfl
    | some b => cases b <;> rfl
theorem ev_orE : dOrE da db env s = (da env s).bind fun p => (truD (vw p.2 p.1)).bind fun b => if b = true then some (p.1, p.2) else db env p.2 := by
  unfold dOrE
  cases da env s with
  | none => rfl
  | some r =>
    obtain ⟨x, s1⟩ := r
    simp only [Option.bind_some]
    cases truD (vw s1 x) with
    | none => rfl
    | some b => cases b <;> rfl
theorem ev_notE : dNotE da env s = (da env s).bind fun p => (truD (vw p.2 p.1)).bind fun b => some (.bl (!b), p.2) := by
  unfold dNotE
  cases da env s with
  | none => rfl
  | some r => obtain ⟨x, s1⟩ := r; simp only [Option.bind_some]; cases truD (vw s1 x) <;> rfl
theorem ev_ifE : dIfE t da db env s = (t env s).bind fun p => if p.1 = true then da env p.2 else db env p.2 := by
  unfold dIfE
  cases t env s with
  | none => rfl
  | some r => obtain ⟨b, s1⟩ := r; cases b <;> rfl
/- values -/
def varK (s : Sto) : Option (Option D) → Option (D × Sto)
  | some (some d) => some (fz s d, s)
  | _ => none
theorem ev_V : dV i env s = varK s env[i]? := by
  unfold dV varK
  rfl
theorem varK_ev {d : D} : varK s (some (some d)) = some (fz s d, s) := rfl
theorem ev_C {d : D} : dC d env s = some (d, s) := rfl
theorem ev_op : dOp g da db env s = (da env s).bind fun p => (db env p.2).bind fun q => (g (vw q.2 p.1) (vw q.2 q.1)).bind fun z => some (z, q.2) := by
  unfold dOp
  cases da env s with
  | none => rfl
  | some r =>
    obtain ⟨x, s1⟩ := r
    simp only [Option.bind_some]
    cases db env s1 with
    | none => rfl
    | some r2 => obtain ⟨y, s2⟩ := r2; simp only [Option.bind_some]; cases g (vw s2 x) (vw s2 y) <;> rfl
theorem ev_opF {gl : D → D → Option (List D)} : dOpF gl da db env s = (da env s).bind fun p => (db env p.2).bind fun q => (gl (vw q.2 p.1) (vw q.2 q.1)).bind fun z => some (z, q.2) := by
  unfold dOpF
  cases da env s with
  | none => rfl
  | some r =>
    obtain ⟨x, s1⟩ := r
    simp only [Option.bind_some]
    cases db env s1 with
    | none => rfl
    | some r2 => obtain ⟨y, s2⟩ := r2; simp only [Option.bind_some]; cases gl (vw s2 x) (vw s2 y) <;> rfl
theorem ev_nil : dNil env s = some ([], s) := rfl
theorem ev_cons : dCons da ds env s = (da env s).bind fun p => (ds env p.2).bind fun q => some (p.1 :: q.1, q.2) := by
  unfold dCons
  cases da env s with
  | none => rfl
  | some r => obtain ⟨x, s1⟩ := r; simp only [Option.bind_some]; cases ds env s1 <;> rfl
theorem ev_data : dData ds env s = (ds env s).bind fun p => some (.lst p.1, p.2) := by
  unfold dData
  cases ds env s <;> rfl
theorem ev_lst : dLst ds env s = (ds env s).bind fun p => if p.1.length ≤ sizeLine then some p else none := by
  unfold dLst
  cases ds env s <;> rfl
theorem ev_tup : dTup ds env s = (ds env s).bind fun p => if p.1.length ≤ sizeLine then some (.tup p.1, p.2) else none := by
  unfold dTup
  cases ds env s <;> rfl
theorem ev_CB {f : List D → Option D} : dCB f ds env s = (ds env s).bind fun p => (f (p.1.map (vw p.2))).bind fun z => some (z, p.2) := by
  unfold dCB
  cases ds env s with
  | none => rfl
  | some r => obtain ⟨x, s1⟩ := r; simp only [Option.bind_some]; cases f (x.map (vw s1)) <;> rfl
theorem ev_CBF {f : List D → Option (List D)} : dCBF f ds env s = (ds env s).bind fun p => (f (p.1.map (vw p.2))).bind fun z => some (z, p.2) := by
  unfold dCBF
  cases ds env s with
  | none => rfl
  | some r => obtain ⟨x, s1⟩ := r; simp only [Option.bind_some]; cases f (x.map (vw s1)) <;> rfl
def outK : Out × Sto → Option (D × Sto)
  | (.ret r, s) => some (r, s)
  | _ => none
theorem outK_ev {r : D} : outK (.ret r, s) = some (r, s) := rfl
theorem ev_call {f : DFn} : dCall f ds env s = (ds env s).bind fun p => (f p.1 p.2).bind outK := by
  unfold dCall
  cases ds env s with
  | none => rfl
  | some r =>
    obtain ⟨x, s1⟩ := r
    simp only [Option.bind_some]
    cases f x s1 with
    | none => rfl
    | some r2 => obtain ⟨o, s2⟩ := r2; cases o <;> rfl
def negK : D × Sto → Option (D × Sto)
  | (.int i, s) => some (.int (-i), s)
  | _ => none
theorem negK_ev {i : Int} : negK (.int i, s) = some (.int (-i), s) := rfl
theorem ev_neg : dNeg da env s = (da env s).bind negK := by
  unfold dNeg negK
  cases da env s with
  | none => rfl
  | some r => obtain ⟨x, s1⟩ := r; cases x <;> rfl
def soK : D × Sto → Option (Option Int × Sto)
  | (.int i, s) => some (some i, s)
  | _ => none
theorem soK_ev {i : Int} : soK (.int i, s) = some (some i, s) := rfl
theorem ev_so : dSo da env s = (da env s).bind soK := by
  unfold dSo soK
  cases da env s with
  | none => rfl
  | some r => obtain ⟨x, s1⟩ := r; cases x <;> rfl
theorem ev_no : dNo env s = some (none, s) := rfl
theorem ev_slc {gl : D → Option Int → Option Int → Option D} {dl dh : DenO} : dSlc gl da dl dh env s = (da env s).bind fun p => (dl env p.2).bind fun q => (dh env q.2).bind fun r => (gl (vw r.2 p.1) q.1 r.1).bind fun z => some (z, r.2) := by
  unfold dSlc
  cases da env s with
  | none => rfl
  | some r =>
    obtain ⟨x, s1⟩ := r
    simp only [Option.bind_some]
    cases dl env s1 with
    | none => rfl
    | some r2 =>
      obtain ⟨y, s2⟩ := r2
      simp only [Option.bind_some]
      cases dh env s2 with
      | none => rfl
      | some r3 => obtain ⟨z, s3⟩ := r3; simp only [Option.bind_some]; cases gl (vw s3 x) y z <;> rfl
theorem ev_slcF {gl : D → Option Int → Option Int → Option (List D)} {dl dh : DenO} : dSlcF gl da dl dh env s = (da env s).bind fun p => (dl env p.2).bind fun q => (dh env q.2).bind fun r => (gl (vw r.2 p.1) q.1 r.1).bind fun z => some (z, r.2) := by
  unfold dSlcF
  cases da env s with
  | none => rfl
  | some r =>
    obtain ⟨x, s1⟩ := r
    simp only [Option.bind_some]
    cases dl env s1 with
    | none => rfl
    | some r2 =>
      obtain ⟨y, s2⟩ := r2
      simp only [Option.bind_some]
      cases dh env s2 with
      | none => rfl
      | some r3 => obtain ⟨z, s3⟩ := r3; simp only [Option.bind_some]; cases gl (vw s3 x) y z <;> rfl
end
section
variable {s : Sto} {i j : Int} {x y : List Nat} {xs ys : List D} {ns : List Int} {b : Bool} {k : Nat}
theorem fz_non : fz s .non = .non := rfl
theorem fz_bl : fz s (.bl b) = .bl b := rfl
theorem fz_int : fz s (.int i) = .int i := rfl
theorem fz_str : fz s (.str x) = .str x := rfl
theorem fz_scr : fz s (.scr ns) = .scr ns := rfl
theorem fz_lst : fz s (.lst xs) = .lst xs := rfl
theorem fz_tup : fz s (.tup xs) = .tup xs := rfl
theorem fz_obj {C : Addr} {fs : List Str} : fz s (.obj C fs xs) = .obj C fs xs := rfl
theorem fz_exn {a dd C : Addr} {p : D} : fz s (.exn a dd C p) = .exn a dd C p := rfl
theorem fz_cell (h : s[k]? = some (.lst xs)) : fz s (.cell k) = .cell k := by simp only [fz, h]
theorem fz_ins {C : Addr} {fs : List Str} (h : s[k]? = some (.ins C fs xs)) : fz s (.cell k) = .cell k := by simp only [fz, h]
theorem fz_frz {d : D} (h : s[k]? = some (.frz d)) : fz s (.cell k) = d := by simp only [fz, h]
theorem vw_non : vw s .non = .non := rfl
theorem vw_bl : vw s (.bl b) = .bl b := rfl
theorem vw_int : vw s (.int i) = .int i := rfl
theorem vw_str : vw s (.str x) = .str x := rfl
theorem vw_scr : vw s (.scr ns) = .scr ns := rfl
theorem vw_lst : vw s (.lst xs) = .lst xs := rfl
theorem vw_tup : vw s (.tup xs) = .tup xs := rfl
theorem vw_obj {C : Addr} {fs : List Str} : vw s (.obj C fs xs) = .obj C fs xs := rfl
theorem vw_ty {n : String} : vw s (.ty n) = .ty n := rfl
theorem vw_cls {C : Addr} : vw s (.cls C) = .cls C := rfl
theorem vw_exn {a dd C : Addr} {p : D} : vw s (.exn a dd C p) = .exn a dd C p := rfl
theorem vw_cell (h : s[k]? = some (.lst xs)) : vw s (.cell k) = .lst xs := by simp only [vw, h]
theorem vw_ins {C : Addr} {fs : List Str} (h : s[k]? = some (.ins C fs xs)) : vw s (.cell k) = .obj C fs xs := by simp only [vw, h]
theorem vw_frz {d : D} (h : s[k]? = some (.frz d)) : vw s (.cell k) = d := by simp only [vw, h]
theorem st_last {c : Cell} : (s ++ [c])[s.length]? = some c := by simp
theorem st_set {c c' : Cell} : (s ++ [c]).set s.length c' = s ++ [c'] := by simp
theorem st_take {c : Cell} : (s ++ [c]).take s.length = s := by simp
theorem st_mid {c c' : Cell} : (s ++ [c] ++ [c'])[s.length]? = some c := by simp
theorem st_mset {c c' c2 : Cell} : (s ++ [c] ++ [c2]).set s.length c' = s ++ [c'] ++ [c2] := by simp
theorem st_mtake {c c' : Cell} : (s ++ [c] ++ [c']).take s.length = s := by simp
theorem add_int : addD (.int i) (.int j) = some (.int (i + j)) := rfl
theorem add_str (h : x.length + y.length ≤ 16777216) : addD (.str x) (.str y) = some (.str (x ++ y)) := by
  show orG addI _ _ _ = _
  simp only [orG, addI, addS]
  rw [if_pos (show x.length + y.length ≤ sizeLine from h)]
theorem add_lst (h : xs.length + ys.length ≤ 16777216) : addD (.lst xs) (.lst ys) = some (.lst (xs ++ ys)) := by
  show orG addI _ _ _ = _
  simp only [orG, addI, addS, addL]
  rw [if_pos (show xs.length + ys.length ≤ sizeLine from h)]
  rfl
theorem addL_lst (h : xs.length + ys.length ≤ 16777216) : addL (.lst xs) (.lst ys) = some (xs ++ ys) := by
  simp only [addL]
  rw [if_pos (show xs.length + ys.length ≤ sizeLine from h)]
theorem sub_int : subI (.int i) (.int j) = some (.int (i - j)) := rfl
theorem mul_r (h : j.natAbs < 18446744073709551616) : mulD (.int i) (.int j) = some (.int (i * j)) := by
  show orG mulI _ _ _ = _
  simp only [orG, mulI]
  rw [if_pos (show mulOk i j from .inl (.inr h))]
theorem mul_l (h : i.natAbs < 18446744073709551616) : mulD (.int i) (.int j) = some (.int (i * j)) := by
  show orG mulI _ _ _ = _
  simp only [orG, mulI]
  rw [if_pos (show mulOk i j from .inl (.inl h))]
theorem p62 : (2 : Int) ^ 62 = 4611686018427387904 := by decide +kernel
theorem p63 : (2 : Int) ^ 63 = 9223372036854775808 := by decide +kernel
theorem mul_str (h0 : -4611686018427387904 ≤ i) (h1 : i ≤ 16777216) (h : x.length * i.toNat ≤ 16777216) : mulD (.str x) (.int i) = some (.str (List.replicate i.toNat x).flatten) := by
  show orG mulI _ _ _ = _
  simp only [orG, mulI, mulS]
  rw [if_pos ⟨by rw [p62]; exact h0, h1, h⟩]
theorem mul_lst (h0 : -4611686018427387904 ≤ i) (h1 : i ≤ 16777216) (h : xs.length * i.toNat ≤ 16777216) : mulD (.lst xs) (.int i) = some (.lst (List.replicate i.toNat xs).flatten) := by
  show orG mulI _ _ _ = _
  simp only [orG, mulI, mulS, mulL]
  rw [if_pos ⟨by rw [p63]; omega, by rw [p63]; omega, show _ ≤ sizeLine from h⟩]
  all_goals rfl
theorem mulL_lst (h0 : -4611686018427387904 ≤ i) (h1 : i ≤ 16777216) (h : xs.length * i.toNat ≤ 16777216) : mulL (.lst xs) (.int i) = some (List.replicate i.toNat xs).flatten := by
  simp only [mulL]
  rw [if_pos ⟨by rw [p63]; omega, by rw [p63]; omega, show _ ≤ sizeLine from h⟩]
theorem div_int (h : 0 < j) (h2 : j < 18446744073709551616) : divI (.int i) (.int j) = some (.int (i / j)) := by
  have h3 : j.natAbs < 2 ^ 64 := by
    have : j.natAbs < 18446744073709551616 := by omega
    exact this
  have h4 := (Nat.log2_lt (n := j.natAbs) (k := 64) (by omega)).mpr h3
  simp only [divI]
  exact if_pos ⟨h, by omega⟩
theorem mod_int (h : 0 < j) : modI (.int i) (.int j) = some (.int (i % j)) := by
  simp only [modI]
  rw [if_pos h]
theorem pow_18 : powI (.int 10) (.int 18) = some (.int 1000000000000000000) := by
  simp only [powI]
  rw [if_pos (by decide +kernel)]
  rfl
theorem pow_60 : powI (.int 10) (.int 60) = some (.int 1000000000000000000000000000000000000000000000000000000000000) := by
  simp only [powI]
  rw [if_pos (by decide +kernel)]
  rfl
theorem lt_int : ltI (.int i) (.int j) = some (.bl (decide (i < j))) := rfl
theorem le_int : leI (.int i) (.int j) = some (.bl (decide (i ≤ j))) := rfl
theorem gt_int : gtI (.int i) (.int j) = some (.bl (decide (j < i))) := rfl
theorem ge_int : geI (.int i) (.int j) = some (.bl (decide (j ≤ i))) := rfl
theorem eq_int : eqD (.int i) (.int j) = some (.bl (decide (i = j))) := rfl
theorem eq_str : eqD (.str x) (.str y) = some (.bl (decide (x = y))) := rfl
theorem ne_int : neD (.int i) (.int j) = some (.bl (!decide (i = j))) := rfl
theorem ne_str : neD (.str x) (.str y) = some (.bl (!decide (x = y))) := rfl
theorem eq_bl {c : Bool} : eqD (.bl b) (.bl c) = some (.bl (decide (b = c))) := rfl
theorem isN_non : isN .non .non = some (.bl true) := rfl
theorem isN_tup : isN (.tup xs) .non = some (.bl false) := rfl
theorem isN_lst : isN (.lst xs) .non = some (.bl false) := rfl
theorem isN_str : isN (.str x) .non = some (.bl false) := rfl
theorem isN_int : isN (.int i) .non = some (.bl false) := rfl
theorem isN_bl : isN (.bl b) .non = some (.bl false) := rfl
theorem len_str (h : x.length ≤ 16777216) : lenG [.str x] = some (.int x.length) := by
  simp only [lenG]
  rw [if_pos (show _ ≤ sizeLine from h)]
theorem len_lst : lenG [.lst xs] = some (.int xs.length) := rfl
theorem len_tup : lenG [.tup xs] = some (.int xs.length) := rfl
theorem len_scr : lenG [.scr ns] = some (.int ns.length) := rfl
theorem int_int : intG [.int i] = some (.int i) := rfl
theorem max_int : max2G [.int i, .int j] = some (.int (if j > i then j else i)) := rfl
theorem min_int : min2G [.int i, .int j] = some (.int (if j < i then j else i)) := rfl
theorem tru_bl : truD (.bl b) = some b := rfl
theorem tru_non : truD .non = some false := rfl
theorem tru_int : truD (.int i) = some (i != 0) := rfl
theorem tru_str (h : x.length ≤ 16777216) : truD (.str x) = some (!x.isEmpty) := by
  simp only [truD]
  rw [if_pos (show _ ≤ sizeLine from h)]
theorem tru_lst : truD (.lst xs) = some (!xs.isEmpty) := rfl
theorem at_nat {α : Type} {l : List α} {n : Nat} {v : α} (h : l[n]? = some v) : atI l (n : Int) = some v := by
  unfold atI ixN
  have hn : n < l.length := (List.getElem?_eq_some_iff.mp h).1
  rw [if_pos (by omega), if_pos (by omega)]
  simpa using h
theorem idx_lst {v : D} (h : atI xs i = some v) : idxD (.lst xs) (.int i) = some v := by
  show orG idxS _ _ _ = _
  simp only [orG, idxS, h]
theorem idx_tup {v : D} (h : atI xs i = some v) : idxD (.tup xs) (.int i) = some v := by
  show orG idxS _ _ _ = _
  simp only [orG, idxS, h]
theorem idx_scr {v : Int} (h : atI ns i = some v) : idxD (.scr ns) (.int i) = some (.int v) := by
  show orG idxS _ _ _ = _
  simp only [orG, idxS, h, Option.map]
theorem idx_str {v : Nat} (hl : x.length ≤ 16777216) (h : atI x i = some v) : idxD (.str x) (.int i) = some (.str [v]) := by
  show orG idxS _ _ _ = _
  simp only [orG, idxS, h, Option.map]
  rw [if_pos (show _ ≤ sizeLine from hl)]
theorem slc_str {lo hi : Option Int} (hl : x.length ≤ 16777216) : slcD (.str x) lo hi = some (.str (cut x lo hi)) := by
  have : slcS (.str x) lo hi = some (.str (cut x lo hi)) := by
    show (if x.length ≤ sizeLine then _ else _) = _
    rw [if_pos (show _ ≤ sizeLine from hl)]
  unfold slcD
  rw [this]
theorem slc_lst {lo hi : Option Int} : slcD (.lst xs) lo hi = some (.lst (cut xs lo hi)) := rfl
end
/-! functions -/
def setlR (n : Nat) (s' : Sto) (r : D) (f : D → Out) (s : Sto) : Option (Out × Sto) := (setl n s' r).bind fun d => some (f d, s)
open Classical in
theorem ev_fun {n m : Nat} {body : DenS} {xs : List D} {s s' : Sto} {env' : DEnv} {r d : D} (hl : xs.length = n) (h : body (env0 m xs) s = some (.rt r, env', s')) (ht : s'.take s.length = s) (hd : setl s.length s' r = some d) :
    dFun n m body xs s = some (.ret d, s) := by
  unfold dFun
  rw [if_pos hl, h]
  simp only [ht, if_true, hd]
open Classical in
theorem ev_funX {n m : Nat} {body : DenS} {xs : List D} {s s' : Sto} {env' : DEnv} {r d : D} {C : Addr} (hl : xs.length = n) (h : body (env0 m xs) s = some (.ex C r, env', s')) (ht : s'.take s.length = s) (hd : setl s.length s' r = some d) :
    dFun n m body xs s = some (.exc C d, s) := by
  unfold dFun
  rw [if_pos hl, h]
  simp only [ht, if_true, hd]
open Classical in
theorem ev_funN {n m : Nat} {body : DenS} {xs : List D} {s s' : Sto} {env' : DEnv} (hl : xs.length = n) (h : body (env0 m xs) s = some (.nx, env', s')) (ht : s'.take s.length = s) :
    dFun n m body xs s = some (.ret .non, s) := by
  unfold dFun
  rw [if_pos hl, h]
  simp only [ht, if_true]
end Dx
end
section
namespace Dx
open PySem PySem.Spec PyProof.Rows L2

/-! ### loops, for the pure part -/
/-- a turn goes on -/
def Goes (P : DEnv → Sto → Prop) (r : Option (Fl × DEnv × Sto)) : Prop := ∃ e s, (r = some (.nx, e, s) ∨ r = some (.ct, e, s)) ∧ P e s
/-- a turn leaves by ρ -/
def Ends (ρ : Fl) (P : DEnv → Sto → Prop) (r : Option (Fl × DEnv × Sto)) : Prop := ∃ e s, r = some (ρ, e, s) ∧ P e s
theorem for_all {g : DTgt} {b : DenS} {gd : Gd} (I : Nat → DEnv → Sto → Prop) : ∀ {items : List D} (k : Nat) {env : DEnv} {s : Sto}, I k env s → (∀ i env s, I i env s → gdOk gd s) →
    (∀ i d env s, items[i]? = some d → I (k + i) env s → ∃ env1 s1, g d env s = some (env1, s1) ∧ Goes (I (k + i + 1)) (b env1 s1)) →
    ∃ env' s', forL g b gd items env s = some (.nx, env', s') ∧ I (k + items.length) env' s'
  | [], k, env, s, h0, hg, hs => ⟨env, s, by unfold forL; rw [if_pos (hg _ _ _ h0)], h0⟩
  | d :: ds, k, env, s, h0, hg, hs => by
    obtain ⟨env1, s1, e1, env2, s2, e2, h1⟩ := hs 0 d env s rfl h0
    obtain ⟨env', s', e3, h3⟩ := for_all (g := g) (b := b) I (items := ds) (k + 1) h1 hg fun i d' env s hi h => by
      have := hs (i + 1) d' env s (by simpa using hi) (by rw [show k + (i + 1) = k + 1 + i by omega]; exact h)
      rw [show k + (i + 1) + 1 = k + 1 + i + 1 by omega] at this
      exact this
    refine ⟨env', s', ?_, by rw [List.length_cons, show k + (ds.length + 1) = k + 1 + ds.length by omega]; exact h3⟩
    unfold forL
    rw [if_pos (hg _ _ _ h0), e1]
    rcases e2 with e2 | e2 <;> · simp only [e2]; exact e3
/-- turns that pass, or leave the loop at once by ρ -/
theorem for_find {g : DTgt} {b : DenS} {gd : Gd} (p : D → Bool) (ρ : Fl) (hρ : (∃ r, ρ = .rt r) ∨ ∃ C r, ρ = .ex C r) (I J : DEnv → Sto → Prop) : ∀ {items : List D} {env : DEnv} {s : Sto}, I env s → (∀ env s, I env s → gdOk gd s) →
    (∀ d env s, d ∈ items → p d = true → I env s → ∃ env1 s1, g d env s = some (env1, s1) ∧ Goes I (b env1 s1)) →
    (∀ d env s, d ∈ items → p d = false → I env s → ∃ env1 s1, g d env s = some (env1, s1) ∧ Ends ρ J (b env1 s1)) →
    (items.all p = true → ∃ env' s', forL g b gd items env s = some (.nx, env', s') ∧ I env' s') ∧ (items.all p = false → ∃ env' s', forL g b gd items env s = some (ρ, env', s') ∧ J env' s')
  | [], env, s, h0, hg, _, _ => ⟨fun _ => ⟨env, s, by unfold forL; rw [if_pos (hg _ _ h0)], h0⟩, fun h => nomatch h⟩
  | d :: ds, env, s, h0, hg, hp, hn => by
    cases q : p d with
    | true =>
      obtain ⟨env1, s1, e1, env2, s2, e2, h1⟩ := hp d env s List.mem_cons_self q h0
      obtain ⟨k1, k2⟩ := for_find p ρ hρ I J (items := ds) h1 hg (fun d env s h => hp d env s (List.mem_cons_of_mem _ h)) (fun d env s h => hn d env s (List.mem_cons_of_mem _ h))
      have e : forL g b gd (d :: ds) env s = forL g b gd ds env2 s2 := by
        conv => lhs; unfold forL
        rw [if_pos (hg _ _ h0), e1]
        rcases e2 with e2 | e2 <;> simp only [e2]
      rw [e, List.all_cons, q, Bool.true_and]
      exact ⟨k1, k2⟩
    | false =>
      obtain ⟨env1, s1, e1, env2, s2, e2, h1⟩ := hn d env s List.mem_cons_self q h0
      rw [List.all_cons, q, Bool.false_and]
      refine ⟨fun h => (nomatch h), fun _ => ⟨env2, s2, ?_, h1⟩⟩
      unfold forL
      rw [if_pos (hg _ _ h0), e1]
      rcases hρ with ⟨r, rfl⟩ | ⟨C, r, rfl⟩ <;> simp only [e2]
theorem bnds_mem {n : Nat} : ∀ {xs : List D} {x : D}, bnds n xs = true → x ∈ xs → bnd n x = true
  | y :: ys, x, h, hx => by
    simp only [bnds, Bool.and_eq_true] at h
    rcases List.mem_cons.mp hx with rfl | hx
    · exact h.1
    · exact bnds_mem h.2 hx
theorem bnds_app {n : Nat} : ∀ {xs ys : List D}, bnds n xs = true → bnds n ys = true → bnds n (xs ++ ys) = true
  | [], ys, _, h => h
  | x :: xs, ys, h, h2 => by
    simp only [bnds, Bool.and_eq_true, List.cons_append] at h ⊢
    exact ⟨h.1, bnds_app h.2 h2⟩
mutual
theorem bnd_up {n m : Nat} (hnm : n ≤ m) : ∀ {d : D}, bnd n d = true → bnd m d = true
  | .lst xs, h => by simp only [bnd] at h ⊢; exact bnds_up hnm h
  | .tup xs, h => by simp only [bnd] at h ⊢; exact bnds_up hnm h
  | .dk ks xs, h => by simp only [bnd] at h ⊢; exact bnds_up hnm h
  | .obj C ns xs, h => by simp only [bnd] at h ⊢; exact bnds_up hnm h
  | .cell j, h => by simp only [bnd, decide_eq_true_eq] at h ⊢; omega
  | .exn a dd C p, h => by simp only [bnd] at h ⊢; exact bnd_up hnm h
  | .non, _ | .bl _, _ | .int _, _ | .str _, _ | .scr _, _ | .ty _, _ | .cls _, _ => by simp only [bnd]
theorem bnds_up {n m : Nat} (hnm : n ≤ m) : ∀ {xs : List D}, bnds n xs = true → bnds m xs = true
  | [], _ => rfl
  | x :: xs, h => by
    simp only [bnds, Bool.and_eq_true] at h ⊢
    exact ⟨bnd_up hnm h.1, bnds_up hnm h.2⟩
end
/-- a comprehension whose turns only look -/
theorem compL_run {vs : List Nat} {g : DTgt} {tt : DenB} {te : Den} {gd : Gd} {env : DEnv} {s : Sto} (f : D → D) (p : D → Bool) : ∀ {items : List D} {acc : List D}, acc.length + items.length ≤ sizeLine → (∀ c, gdOk gd (s ++ [c])) → bnds s.length acc = true → (∀ d, d ∈ items → p d = true → bnd s.length (f d) = true) →
    (∀ d acc, d ∈ items → bnds s.length acc = true → ∃ env1, g d (wipeE env vs) (s ++ [.lst acc]) = some (env1, s ++ [.lst acc]) ∧ tt env1 (s ++ [.lst acc]) = some (p d, s ++ [.lst acc]) ∧ (p d = true → te env1 (s ++ [.lst acc]) = some (f d, s ++ [.lst acc]))) →
    compL vs g tt te gd s.length env items (s ++ [.lst acc]) = some (s ++ [.lst (acc ++ (items.filter p).map f)])
  | [], acc, _, hg, _, _, _ => by unfold compL; rw [if_pos (hg _)]; simp
  | d :: ds, acc, hl, hg, hba, hbf, h => by
    obtain ⟨env1, e1, e2, e3⟩ := h d acc List.mem_cons_self hba
    unfold compL
    rw [if_pos (hg _), e1]
    simp only [e2]
    cases q : p d with
    | true =>
      rw [q] at e3
      have hl2 : acc.length < sizeLine := by
        simp only [List.length_cons] at hl
        omega
      simp only [e3 rfl]
      rw [st_last]
      simp only
      rw [if_pos hl2, st_set, compL_run f p (by simp only [List.length_append, List.length_cons, List.length_nil] at hl ⊢; omega) hg (bnds_app hba (by simp only [bnds, hbf d List.mem_cons_self q, Bool.and_self])) (fun d hd => hbf d (List.mem_cons_of_mem _ hd)) fun d acc hd => h d acc (List.mem_cons_of_mem _ hd)]
      rw [List.filter_cons_of_pos q, List.map_cons, List.append_assoc]
      rfl
    | false =>
      simp only
      rw [compL_run f p (by simp only [List.length_cons] at hl; omega) hg hba (fun d hd => hbf d (List.mem_cons_of_mem _ hd)) fun d acc hd => h d acc (List.mem_cons_of_mem _ hd)]
      rw [List.filter_cons_of_neg (by rw [q]; exact Bool.false_ne_true)]
def Ok (s : Sto) : Prop := ∀ c ∈ s, bndC s.length c = true
theorem comp_run {src : DenI} {vs : List Nat} {g : DTgt} {tt : DenB} {te : Den} {gd : Gd} {env : DEnv} {s : Sto} {items : List D} (f : D → D) (p : D → Bool) (hs : src env s = some (items, gd, s)) (hok : Ok s) (hl : items.length ≤ sizeLine) (hg : ∀ c, gdOk gd (s ++ [c]))
    (h : ∀ d acc, d ∈ items → bnds s.length acc = true → ∃ env1, g d (wipeE env vs) (s ++ [.lst acc]) = some (env1, s ++ [.lst acc]) ∧ tt env1 (s ++ [.lst acc]) = some (p d, s ++ [.lst acc]) ∧ (p d = true → te env1 (s ++ [.lst acc]) = some (f d, s ++ [.lst acc])))
    (hb : bnds s.length ((items.filter p).map f) = true) : dComp src vs g tt te env s = some ((items.filter p).map f, s) := by
  unfold dComp
  rw [hs]
  simp only
  rw [compL_run f p (acc := []) (by simpa using hl) hg rfl (fun d hd hp => bnds_mem hb (List.mem_map.mpr ⟨d, List.mem_filter.mpr ⟨hd, hp⟩, rfl⟩)) h]
  simp only [List.nil_append]
  rw [st_last]
  simp only
  rw [st_take, if_pos]
  refine ⟨by simp, ?_⟩
  unfold keepB
  rw [hb, Bool.true_and, List.all_eq_true]
  exact hok
theorem filter_yes {α : Type} (l : List α) : l.filter (fun _ => true) = l := by simp
/-- without a test -/
theorem comp_map {src : DenI} {vs : List Nat} {g : DTgt} {te : Den} {gd : Gd} {env : DEnv} {s : Sto} {items : List D} (f : D → D) (hs : src env s = some (items, gd, s)) (hok : Ok s) (hl : items.length ≤ sizeLine) (hg : ∀ c, gdOk gd (s ++ [c]))
    (h : ∀ d acc, d ∈ items → bnds s.length acc = true → ∃ env1, g d (wipeE env vs) (s ++ [.lst acc]) = some (env1, s ++ [.lst acc]) ∧ te env1 (s ++ [.lst acc]) = some (f d, s ++ [.lst acc]))
    (hb : bnds s.length (items.map f) = true) : dComp src vs g dYes te env s = some (items.map f, s) := by
  have q := comp_run (tt := dYes) f (fun _ => true) hs hok hl hg (fun d acc hd ha => by
    obtain ⟨env1, e1, e2⟩ := h d acc hd ha
    exact ⟨env1, e1, rfl, fun _ => e2⟩) (by rw [filter_yes]; exact hb)
  rw [filter_yes] at q
  exact q
theorem ev_for {src : DenI} {g : DTgt} {b : DenS} {env : DEnv} {s : Sto} : dFor src g b env s = (src env s).bind fun p => forL g b p.2.1 p.1 env p.2.2 := by
  unfold dFor
  cases src env s with
  | none => rfl
  | some r => obtain ⟨x, gd, s1⟩ := r; rfl
theorem ev_R1 {da : Den} {env : DEnv} {s s1 : Sto} {n : Int} (e : da env s = some (.int n, s1)) (h1 : -4611686018427387904 ≤ n) (h2 : n < 4611686018427387904) : iR1 da env s = some (rangeL 0 n.toNat, none, s1) := by
  unfold iR1
  rw [e]
  simp only
  rw [p62, if_pos ⟨h1, h2⟩]
theorem ev_R2 {da db : Den} {env : DEnv} {s s1 s2 : Sto} {i j : Int} (e : da env s = some (.int i, s1)) (e2 : db env s1 = some (.int j, s2)) (h1 : -4611686018427387904 ≤ i) (h2 : i < 4611686018427387904) (h3 : -4611686018427387904 ≤ j) (h4 : j < 4611686018427387904) : iR2 da db env s = some (rangeL i (j - i).toNat, none, s2) := by
  unfold iR2
  rw [e]
  simp only
  rw [e2]
  simp only
  rw [p62, if_pos ⟨h1, h2, h3, h4⟩]
theorem ev_any_lst {da : Den} {env : DEnv} {s s1 : Sto} {xs : List D} (e : da env s = some (.lst xs, s1)) : iAny da env s = some (xs, none, s1) := by
  unfold iAny iOr iLst
  rw [e]
theorem ev_any_scr {da : Den} {env : DEnv} {s s1 : Sto} {xs : List Int} (e : da env s = some (.scr xs, s1)) : iAny da env s = some (xs.map D.int, none, s1) := by
  unfold iAny iOr iLst
  rw [e]
theorem ev_any_tup {da : Den} {env : DEnv} {s s1 : Sto} {xs : List D} (e : da env s = some (.tup xs, s1)) : iAny da env s = some (xs, none, s1) := by
  unfold iAny iOr iLst iTupD
  simp only [e]
theorem ev_any_str {da : Den} {env : DEnv} {s s1 : Sto} {x : List Nat} (e : da env s = some (.str x, s1)) : iAny da env s = some (x.map fun c => D.str [c], none, s1) := by
  unfold iAny iOr iLst iTupD iStrD
  simp only [e]
theorem ev_any_cell {da : Den} {env : DEnv} {s s1 : Sto} {j : Nat} {xs : List D} (e : da env s = some (.cell j, s1)) (h : s1[j]? = some (.lst xs)) : iAny da env s = some (xs, some (j, .lst xs), s1) := by
  unfold iAny iOr iLst
  simp only [e, h]
theorem range_get {lo : Int} {n i : Nat} {d : D} (h : (rangeL lo n)[i]? = some d) : i < n ∧ d = .int (lo + (i : Int)) := by
  unfold rangeL at h
  rw [List.getElem?_map] at h
  by_cases hi : i < n
  · rw [List.getElem?_range hi] at h
    exact ⟨hi, (Option.some.inj h).symm⟩
  · rw [List.getElem?_eq_none (by simpa using hi)] at h
    cases h
theorem range_len {lo : Int} {n : Nat} : (rangeL lo n).length = n := by simp [rangeL]
/-! append, a cell's change -/
theorem ev_app {da db : Den} {env : DEnv} {s s1 s2 : Sto} {j : Nat} {xs ys : List D} {y : D} (e : da env s = some (.cell j, s1)) (e2 : db env s1 = some (y, s2)) (h1 : s1[j]? = some (.lst ys)) (h2 : s2[j]? = some (.lst xs)) (hl : xs.length < 16777216) :
    dApp da db env s = some (.non, s2.set j (.lst (xs ++ [y]))) := by
  unfold dApp
  rw [e]
  simp only
  rw [e2]
  simp only
  rw [h1, h2]
  simp only
  rw [if_pos (show _ < sizeLine from hl)]
theorem bnds_ints {n : Nat} (xs : List Int) : bnds n (xs.map D.int) = true := by
  induction xs with
  | nil => rfl
  | cons x xs ih => rw [List.map_cons, bnds, ih]; rfl
theorem bnds_strs {n : Nat} (xs : List (List Nat)) : bnds n (xs.map D.str) = true := by
  induction xs with
  | nil => rfl
  | cons x xs ih => rw [List.map_cons, bnds, ih]; rfl
theorem bnds_bls {n : Nat} (xs : List Bool) : bnds n (xs.map D.bl) = true := by
  induction xs with
  | nil => rfl
  | cons x xs ih => rw [List.map_cons, bnds, ih]; rfl
theorem setl_last {s : Sto} {xs : List D} (h : bnds s.length xs = true) : setl s.length (s ++ [.lst xs]) (.cell s.length) = some (.lst xs) := by
  show (if s.length < s.length then _ else _) = _
  rw [if_neg (Nat.lt_irrefl _), st_last]
  simp only
  rw [if_pos h]
theorem setl_int {n : Nat} {s : Sto} {i : Int} : setl n s (.int i) = some (.int i) := rfl
theorem setl_bl {n : Nat} {s : Sto} {i : Bool} : setl n s (.bl i) = some (.bl i) := rfl
theorem setl_str {n : Nat} {s : Sto} {i : List Nat} : setl n s (.str i) = some (.str i) := rfl
theorem setl_non {n : Nat} {s : Sto} : setl n s .non = some .non := rfl
theorem setl_lst {n : Nat} {s : Sto} {xs : List D} (h : bnds n xs = true) : setl n s (.lst xs) = some (.lst xs) := by
  unfold setl bnd
  simp only [h, if_true]
theorem setl_tup {n : Nat} {s : Sto} {xs : List D} (h : bnds n xs = true) : setl n s (.tup xs) = some (.tup xs) := by
  unfold setl bnd
  simp only [h, if_true]
theorem setl_obj {n : Nat} {s : Sto} {C : Addr} {fs : List Str} {xs : List D} (h : bnds n xs = true) : setl n s (.obj C fs xs) = some (.obj C fs xs) := by
  unfold setl bnd
  simp only [h, if_true]
theorem Ok.snoc {s : Sto} {xs : List D} (h : Ok s) (hb : bnds s.length xs = true) : Ok (s ++ [.lst xs]) := fun c hc => by
  rw [List.length_append, List.length_singleton]
  rcases List.mem_append.mp hc with h1 | h1
  · have := h c h1
    cases c with
    | lst xs => exact bnds_up (Nat.le_succ _) this
    | dk ks xs => exact bnds_up (Nat.le_succ _) this
    | dt ks xs => exact bnds_up (Nat.le_succ _) this
    | ins C ns xs => exact bnds_up (Nat.le_succ _) this
    | frz d => exact bnd_up (Nat.le_succ _) this
  · simp only [List.mem_singleton] at h1
    subst h1
    exact bnds_up (Nat.le_succ _) hb
end Dx
namespace Dx
theorem sl_eq : PySem.sizeLine = 16777216 := by decide +kernel
theorem ev_funE {n m : Nat} {body : DenS} {xs : List D} {s s' : Sto} {r d : D} (hl : xs.length = n) (h : ∃ env', body (env0 m xs) s = some (.rt r, env', s')) (ht : s'.take s.length = s) (hd : setl s.length s' r = some d) :
    dFun n m body xs s = some (.ret d, s) := by
  obtain ⟨env', h⟩ := h
  exact ev_fun hl h ht hd
theorem ev_funXE {n m : Nat} {body : DenS} {xs : List D} {s s' : Sto} {r d : D} {C : PySem.Addr} (hl : xs.length = n) (h : ∃ env', body (env0 m xs) s = some (.ex C r, env', s')) (ht : s'.take s.length = s) (hd : setl s.length s' r = some d) :
    dFun n m body xs s = some (.exc C d, s) := by
  obtain ⟨env', h⟩ := h
  exact ev_funX hl h ht hd
theorem take_self (s : Sto) : s.take s.length = s := List.take_length
end Dx
namespace Dx
def appK : D × Sto → D × Sto → Option (D × Sto)
  | (.cell j, s1), (y, s2) => match s1[j]?, s2[j]? with
    | some (.lst _), some (.lst xs) => if xs.length < PySem.sizeLine then some (.non, s2.set j (.lst (xs ++ [y]))) else none
    | _, _ => none
  | _, _ => none
theorem ev_appB {da db : Den} {env : DEnv} {s : Sto} : dApp da db env s = (da env s).bind fun p => (db env p.2).bind fun q => appK p q := by
  unfold dApp
  cases da env s with
  | none => rfl
  | some r =>
    obtain ⟨x, s1⟩ := r
    simp only [Option.bind_some]
    cases x with
    | cell j =>
      simp only
      cases db env s1 with
      | none => rfl
      | some r2 => obtain ⟨y, s2⟩ := r2; rfl
    | _ => simp only; cases db env s1 <;> rfl
theorem appK_last {s : Sto} {xs ys : List D} {y : D} (h : xs.length < 16777216) : appK (.cell s.length, s ++ [.lst ys]) (y, s ++ [.lst xs]) = some (.non, s ++ [.lst (xs ++ [y])]) := by
  unfold appK
  simp only [st_last]
  rw [if_pos (show _ < PySem.sizeLine from h), st_set]
theorem appK_mid {s : Sto} {xs ys : List D} {y : D} {c c' : Cell} (h : xs.length < 16777216) : appK (.cell s.length, s ++ [.lst ys] ++ [c]) (y, s ++ [.lst xs] ++ [c']) = some (.non, s ++ [.lst (xs ++ [y])] ++ [c']) := by
  unfold appK
  simp only [st_mid]
  rw [if_pos (show _ < PySem.sizeLine from h), st_mset]
def sbK (v : D) (env : DEnv) : D × Sto → D × Sto → Option (DEnv × Sto)
  | (.cell j, _), (y, s2) => match s2[j]?, y with
    | some (.lst xs), .int i => match L2.ixN xs.length i with
      | some k => some (env, s2.set j (.lst (xs.set k v)))
      | none => none
    | _, _ => none
  | _, _ => none
theorem ev_sb {da db : Den} {env : DEnv} {s : Sto} {v : D} : gSb da db v env s = (da env s).bind fun p => (db env p.2).bind fun q => sbK v env p q := by
  unfold gSb
  cases da env s with
  | none => rfl
  | some r =>
    obtain ⟨x, s1⟩ := r
    simp only [Option.bind_some]
    cases x with
    | cell j =>
      simp only
      cases db env s1 with
      | none => rfl
      | some r2 => obtain ⟨y, s2⟩ := r2; rfl
    | _ => simp only; cases db env s1 <;> rfl
theorem sbK_last {s s1 : Sto} {xs : List D} {v : D} {env : DEnv} {i : Int} {k : Nat} (h : L2.ixN xs.length i = some k) : sbK v env (.cell s.length, s1) (.int i, s ++ [.lst xs]) = some (env, s ++ [.lst (xs.set k v)]) := by
  unfold sbK
  simp only [st_last, h, st_set]
theorem tl_lst {n : Nat} {gs : DTgts} {env : DEnv} {s : Sto} {xs : List D} (h : xs.length = n) : gTL n gs (.lst xs) env s = gs xs env s := by
  unfold gTL
  simp only [vw, h, if_true]
theorem tl_tup {n : Nat} {gs : DTgts} {env : DEnv} {s : Sto} {xs : List D} (h : xs.length = n) : gTL n gs (.tup xs) env s = gs xs env s := by
  unfold gTL
  simp only [vw, h, if_true]
theorem ev_gcons {g : DTgt} {gs : DTgts} {d : D} {ds : List D} {env : DEnv} {s : Sto} : gConsD g gs (d :: ds) env s = (g d env s).bind fun p => gs ds p.1 p.2 := by
  show (match g d env s with | some (env1, s1) => gs ds env1 s1 | none => none) = _
  cases g d env s <;> rfl
theorem ev_gnil {env : DEnv} {s : Sto} : gNilD [] env s = some (env, s) := rfl
end Dx
namespace Dx
theorem na_lit (n : Nat) : (@OfNat.ofNat Int n instOfNat).natAbs = @OfNat.ofNat Nat n (instOfNatNat n) := rfl
end Dx
namespace Dx
section
variable {s : Sto} {xs : List D} {i : Int} {ns : List Int} {x : List Nat} {C : PySem.Addr} {fs : List PySem.Str} {d : D} {c : Cell}
theorem fz_last : fz (s ++ [.lst xs]) (.cell s.length) = .cell s.length := fz_cell st_last
theorem vw_last : vw (s ++ [.lst xs]) (.cell s.length) = .lst xs := vw_cell st_last
theorem fz_mid : fz (s ++ [.lst xs] ++ [c]) (.cell s.length) = .cell s.length := fz_cell st_mid
theorem vw_mid : vw (s ++ [.lst xs] ++ [c]) (.cell s.length) = .lst xs := vw_cell st_mid
theorem fz_lastI : fz (s ++ [.ins C fs xs]) (.cell s.length) = .cell s.length := fz_ins st_last
theorem vw_lastI : vw (s ++ [.ins C fs xs]) (.cell s.length) = .obj C fs xs := vw_ins st_last
theorem fz_lastF : fz (s ++ [.frz d]) (.cell s.length) = d := fz_frz st_last
theorem vw_lastF : vw (s ++ [.frz d]) (.cell s.length) = d := vw_frz st_last
theorem ix_lst : idxD (.lst xs) (.int i) = L2.atI xs i := by
  show orG idxS _ _ _ = _
  simp only [orG, idxS]
  cases L2.atI xs i <;> rfl
theorem ix_tup : idxD (.tup xs) (.int i) = L2.atI xs i := by
  show orG idxS _ _ _ = _
  simp only [orG, idxS]
  cases L2.atI xs i <;> rfl
theorem ix_scr : idxD (.scr ns) (.int i) = (L2.atI ns i).map D.int := by
  show orG idxS _ _ _ = _
  simp only [orG, idxS]
  cases L2.atI ns i <;> rfl
theorem ix_str (h : x.length ≤ 16777216) : idxD (.str x) (.int i) = (L2.atI x i).map fun c => .str [c] := by
  show orG idxS _ _ _ = _
  simp only [orG, idxS]
  rw [if_pos (show _ ≤ PySem.sizeLine from h)]
  cases L2.atI x i <;> rfl
end
end Dx
end
section
namespace Dx
theorem goes_bind {α : Type} {x : Option α} {y : α} {f : α → Option (Fl × DEnv × Sto)} {P : DEnv → Sto → Prop} (h : x = some y) (k : Goes P (f y)) : Goes P (x.bind f) := by
  rw [h]; exact k
theorem ends_bind {α : Type} {x : Option α} {y : α} {f : α → Option (Fl × DEnv × Sto)} {ρ : Fl} {P : DEnv → Sto → Prop} (h : x = some y) (k : Ends ρ P (f y)) : Ends ρ P (x.bind f) := by
  rw [h]; exact k
theorem ex_bind {α β γ : Type} {x : Option α} {y : α} {f : α → Option β} {g : γ → β} (h : x = some y) (k : ∃ e, f y = some (g e)) : ∃ e, x.bind f = some (g e) := by
  rw [h]; exact k
/-! texts -/
theorem cut_last (l : List Nat) : cut l (some (-1)) none = l.drop (l.length - 1) := by
  unfold cut HT.sIx
  simp only
  rw [if_pos (by decide)]
  have : ((-1 : Int) + (l.length : Int)).toNat = l.length - 1 := by omega
  rw [this]
  exact List.take_of_length_le (by rw [List.length_drop]; omega)
theorem cut_to {α : Type} (l : List α) (n : Nat) : cut l none (some (n : Int)) = l.take n := by
  unfold cut HT.sIx
  simp only
  rw [if_neg (by omega), List.drop_zero, Int.toNat_natCast, Nat.sub_zero]
  by_cases h : n ≤ l.length
  · rw [Nat.min_eq_left h]
  · rw [Nat.min_eq_right (by omega), List.take_length, List.take_of_length_le (by omega)]
theorem cut_from {α : Type} (l : List α) (n : Nat) : cut l (some (n : Int)) none = l.drop n := by
  unfold cut HT.sIx
  simp only
  rw [if_neg (by omega), Int.toNat_natCast]
  by_cases h : n ≤ l.length
  · rw [Nat.min_eq_left h]
    exact List.take_of_length_le (by rw [List.length_drop]; omega)
  · rw [Nat.min_eq_right (by omega), Nat.sub_self, List.take_zero, List.drop_of_length_le (by omega)]
theorem cut_both {α : Type} (l : List α) (m n : Nat) : cut l (some (m : Int)) (some (n : Int)) = (l.drop m).take (n - m) := by
  unfold cut HT.sIx
  simp only
  rw [if_neg (by omega), if_neg (by omega), Int.toNat_natCast, Int.toNat_natCast]
  by_cases h : m ≤ l.length
  · rw [Nat.min_eq_left h]
    by_cases h2 : n ≤ l.length
    · rw [Nat.min_eq_left h2]
    · rw [Nat.min_eq_right (by omega)]
      rw [List.take_of_length_le (by rw [List.length_drop]; omega), List.take_of_length_le (by rw [List.length_drop]; omega)]
  · have e : min m l.length = l.length := Nat.min_eq_right (by omega)
    rw [e, List.drop_of_length_le (Nat.le_refl _), List.drop_of_length_le (by omega), List.take_nil, List.take_nil]
theorem at_last {α : Type} (l : List α) : L2.atI l (-1) = l.getLast? := by
  unfold L2.atI L2.ixN
  rw [if_neg (by decide)]
  cases l with
  | nil => rfl
  | cons a r =>
    have : -(((a :: r).length : Nat) : Int) ≤ -1 := by simp only [List.length_cons]; omega
    rw [if_pos this, Option.bind_some, List.getLast?_eq_getElem?]
    congr 1
    simp only [List.length_cons]
    omega
end Dx
namespace Dx
theorem ev_funP {n m : Nat} {body : DenS} {xs : List D} {s : Sto} {γ : Type} {Q : γ → Prop} (S : γ → Sto) (r d : γ → D) (hl : xs.length = n) (ht : ∀ c, (S c).take s.length = s) (hd : ∀ c, Q c → setl s.length (S c) (r c) = some (d c)) (h : ∃ c, Q c ∧ ∃ env', body (env0 m xs) s = some (.rt (r c), env', S c)) :
    ∃ c, dFun n m body xs s = some (.ret (d c), s) ∧ Q c := by
  obtain ⟨c, q, env', e⟩ := h
  exact ⟨c, ev_fun hl e (ht c) (hd c q), q⟩
end Dx
namespace Dx
theorem sbK_at {s s1 : Sto} {xs : List D} {v : D} {env : DEnv} {i : Int} : sbK v env (.cell s.length, s1) (.int i, s ++ [.lst xs]) = (L2.ixN xs.length i).map fun k => (env, s ++ [.lst (xs.set k v)]) := by
  unfold sbK
  simp only [st_last]
  cases L2.ixN xs.length i with
  | none => rfl
  | some k => simp only [Option.map_some, st_set]
theorem ix_nat {n k : Nat} (h : k < n) : L2.ixN n (k : Int) = some k := by
  unfold L2.ixN
  rw [if_pos (by omega), if_pos (by omega), Int.toNat_natCast]
end Dx
end
section
namespace Dx
open PySem L2
/-! objects, for the pure part -/
section
variable {C : Addr} {f : DFn} {da db : Den} {ds : DenL} {env : DEnv} {s : Sto} {ns : List Str} {vs : List D} {m : Str}
def isObj (C : Addr) : D → Bool
  | .obj C' _ _ => decide (C' = C)
  | _ => false
theorem isObj_ev : isObj C (.obj C ns vs) = true := decide_eq_true rfl
def fldK (C : Addr) (m : Str) (s : Sto) : D → Option (D × Sto)
  | .obj C' ns vs => if C' = C then (getF m ns vs).map fun d => (fz s d, s) else none
  | _ => none
theorem ev_fld : dFld C m da env s = (da env s).bind fun p => fldK C m p.2 (vw p.2 p.1) := by
  unfold dFld
  cases da env s with
  | none => rfl
  | some r =>
    obtain ⟨x, s1⟩ := r
    simp only [Option.bind_some]
    cases vw s1 x with
    | obj C' ns vs =>
      simp only [fldK]
      split
      · cases getF m ns vs <;> rfl
      · rfl
    | _ => rfl
theorem fldK_obj : fldK C m s (.obj C ns vs) = (getF m ns vs).map fun d => (fz s d, s) := if_pos rfl
theorem getF_hit {v : D} : getF m (m :: ns) (v :: vs) = some v := by
  unfold getF
  rw [if_pos (beq_self_eq_true m)]
theorem ev_prop : dMeth C f da dNil env s = (da env s).bind fun p => if isObj C (vw p.2 p.1) = true then (f [p.1] p.2).bind outK else none := by
  unfold dMeth dNil
  cases da env s with
  | none => rfl
  | some r =>
    obtain ⟨x, s1⟩ := r
    simp only [Option.bind_some]
    cases vw s1 x with
    | obj C' ns vs =>
      simp only [isObj, decide_eq_true_eq]
      split
      · cases f [x] s1 with
        | none => rfl
        | some r2 => obtain ⟨o, s2⟩ := r2; cases o <;> rfl
      · rfl
    | _ => rfl
theorem ev_own : dOwn C f da db env s = (da env s).bind fun p => (db env p.2).bind fun q => if isObj C (vw q.2 p.1) = true then if isObj C (vw q.2 q.1) = true then ((f [p.1, q.1] q.2).bind outK).bind fun r => if okRes r.1 = true then some r else none else none else none := by
  unfold dOwn
  cases da env s with
  | none => rfl
  | some r =>
    obtain ⟨x, s1⟩ := r
    simp only [Option.bind_some]
    cases db env s1 with
    | none => rfl
    | some r =>
      obtain ⟨y, s2⟩ := r
      simp only [Option.bind_some]
      cases vw s2 x with
      | obj C1 ns vs =>
        cases vw s2 y with
        | obj C2 ns2 vs2 =>
          simp only [isObj, decide_eq_true_eq]
          by_cases h1 : C1 = C
          · by_cases h2 : C2 = C
            · rw [if_pos ⟨h1, h2⟩, if_pos h1, if_pos h2]
              cases f [x, y] s2 with
              | none => rfl
              | some r2 => obtain ⟨o, s3⟩ := r2; cases o <;> rfl
            · rw [if_neg (fun h => h2 h.2), if_pos h1, if_neg h2]
          · rw [if_neg (fun h => h1 h.1), if_neg h1]
        | _ => simp only [isObj, Bool.false_eq_true, if_false, ite_self]
      | _ => rfl
theorem ok_bl {b : Bool} : okRes (.bl b) = true := rfl
theorem ok_obj : okRes (.obj C ns vs) = true := rfl
theorem ev_make {xs : List D} (e : ds env s = some (xs, s)) (h : f (.cell s.length :: xs) (s ++ [.ins C [] []]) = some (.ret .non, s ++ [.ins C ns vs])) (hb : bnds s.length vs = true) : dMake C f ds env s = some (.obj C ns vs, s) := by
  unfold dMake
  rw [e]
  simp only
  rw [h]
  simp only
  rw [st_last]
  simp only
  rw [if_pos ⟨st_take, by simp, hb⟩]
theorem ev_fldS {s1 s2 : Sto} {y : D} {j : Nat} (e : db env s = some (y, s1)) (e2 : da env s1 = some (.cell j, s2)) (h : s2[j]? = some (.ins C ns vs)) (hl : ns.length < 1000) :
    dFldS C m da db env s = some (.nx, env, s2.set j (.ins C (putN m y ns vs).1 (putN m y ns vs).2)) := by
  unfold dFldS
  rw [e]
  simp only
  rw [e2]
  simp only
  rw [h]
  simp only
  rw [if_pos ⟨trivial, hl⟩]
theorem putN_nil {d : D} : putN m d [] [] = ([m], [d]) := rfl
theorem ev_funM {n k : Nat} {body : DenS} {xs : List D} {s s' : Sto} (hl : xs.length = n) (h : ∃ env', body (env0 k xs) s = some (.nx, env', s')) : dFunM n k body xs s = some (.ret .non, s') := by
  obtain ⟨env', h⟩ := h
  unfold dFunM
  rw [if_pos hl, h]
theorem list_lst {xs : List D} : listG [.lst xs] = some xs := rfl
theorem iso_ev : isoG C [.obj C ns vs, .cls C] = some (.bl true) := by
  unfold isoG
  exact if_pos ⟨rfl, rfl⟩
/-! raising calls -/
def asgX (env : DEnv) (g : DTgt) : Out × Sto → Option (Fl × DEnv × Sto)
  | (.ret r, s1) => (g r env s1).bind fun q => some (.nx, q.1, q.2)
  | (.exc C p, s1) => some (.ex C p, env, s1)
theorem ev_asgX {dx : DenX} {g : DTgt} : dAsgX dx g env s = (dx env s).bind (asgX env g) := by
  unfold dAsgX
  cases dx env s with
  | none => rfl
  | some r =>
    obtain ⟨o, s1⟩ := r
    cases o with
    | ret r => simp only [Option.bind_some, asgX]; cases g r env s1 <;> rfl
    | exc C p => rfl
theorem asgX_ret {g : DTgt} {r : D} : asgX env g (.ret r, s) = (g r env s).bind fun q => some (.nx, q.1, q.2) := rfl
theorem asgX_exc {g : DTgt} {r : D} : asgX env g (.exc C r, s) = some (.ex C r, env, s) := rfl
theorem ev_callX : dCallX f ds env s = (ds env s).bind fun p => f p.1 p.2 := by
  unfold dCallX
  cases ds env s <;> rfl
theorem xf_ev {a dd : Addr} {p : D} (e : da env s = some (.exn a dd C p, s)) : dXf a dd da env s = some (p, s) := by
  unfold dXf
  rw [e]
  simp only [and_self, if_true]
theorem ix_ev {a dd R : Addr} {b : Bool} {p : D} : ixG a dd R b [.exn a dd C p, .cls R] = some (.bl b) := by
  unfold ixG
  exact if_pos ⟨rfl, rfl, rfl⟩
end
section
variable {x : List D} {xs ys : List D} {i : Int} {b : Bool} {z : List Nat} {T : String}
theorem i_non_bool : isiG [.non, .ty "bool"] = some (.bl false) := by simp [isiG, tyD, isTy]
theorem i_non_int : isiG [.non, .ty "int"] = some (.bl false) := by simp [isiG, tyD, isTy]
theorem i_non_str : isiG [.non, .ty "str"] = some (.bl false) := by simp [isiG, tyD, isTy]
theorem i_non_list : isiG [.non, .ty "list"] = some (.bl false) := by simp [isiG, tyD, isTy]
theorem i_non_tuple : isiG [.non, .ty "tuple"] = some (.bl false) := by simp [isiG, tyD, isTy]
theorem i_bl_bool : isiG [.bl b, .ty "bool"] = some (.bl true) := by simp [isiG, tyD, isTy]
theorem i_bl_int : isiG [.bl b, .ty "int"] = some (.bl true) := by simp [isiG, tyD, isTy]
theorem i_bl_str : isiG [.bl b, .ty "str"] = some (.bl false) := by simp [isiG, tyD, isTy]
theorem i_bl_list : isiG [.bl b, .ty "list"] = some (.bl false) := by simp [isiG, tyD, isTy]
theorem i_bl_tuple : isiG [.bl b, .ty "tuple"] = some (.bl false) := by simp [isiG, tyD, isTy]
theorem i_int_bool : isiG [.int i, .ty "bool"] = some (.bl false) := by simp [isiG, tyD, isTy]
theorem i_int_int : isiG [.int i, .ty "int"] = some (.bl true) := by simp [isiG, tyD, isTy]
theorem i_int_str : isiG [.int i, .ty "str"] = some (.bl false) := by simp [isiG, tyD, isTy]
theorem i_int_list : isiG [.int i, .ty "list"] = some (.bl false) := by simp [isiG, tyD, isTy]
theorem i_int_tuple : isiG [.int i, .ty "tuple"] = some (.bl false) := by simp [isiG, tyD, isTy]
theorem i_str_bool : isiG [.str z, .ty "bool"] = some (.bl false) := by simp [isiG, tyD, isTy]
theorem i_str_int : isiG [.str z, .ty "int"] = some (.bl false) := by simp [isiG, tyD, isTy]
theorem i_str_str : isiG [.str z, .ty "str"] = some (.bl true) := by simp [isiG, tyD, isTy]
theorem i_str_list : isiG [.str z, .ty "list"] = some (.bl false) := by simp [isiG, tyD, isTy]
theorem i_str_tuple : isiG [.str z, .ty "tuple"] = some (.bl false) := by simp [isiG, tyD, isTy]
theorem i_lst_bool : isiG [.lst xs, .ty "bool"] = some (.bl false) := by simp [isiG, tyD, isTy]
theorem i_lst_int : isiG [.lst xs, .ty "int"] = some (.bl false) := by simp [isiG, tyD, isTy]
theorem i_lst_str : isiG [.lst xs, .ty "str"] = some (.bl false) := by simp [isiG, tyD, isTy]
theorem i_lst_list : isiG [.lst xs, .ty "list"] = some (.bl true) := by simp [isiG, tyD, isTy]
theorem i_lst_tuple : isiG [.lst xs, .ty "tuple"] = some (.bl false) := by simp [isiG, tyD, isTy]
theorem i_tup_bool : isiG [.tup xs, .ty "bool"] = some (.bl false) := by simp [isiG, tyD, isTy]
theorem i_tup_int : isiG [.tup xs, .ty "int"] = some (.bl false) := by simp [isiG, tyD, isTy]
theorem i_tup_str : isiG [.tup xs, .ty "str"] = some (.bl false) := by simp [isiG, tyD, isTy]
theorem i_tup_list : isiG [.tup xs, .ty "list"] = some (.bl false) := by simp [isiG, tyD, isTy]
theorem i_tup_tuple : isiG [.tup xs, .ty "tuple"] = some (.bl true) := by simp [isiG, tyD, isTy]
end
end Dx
end
section
namespace K84
open Dx
open PySem PySem.Spec PyProof.Rows L2
def top (i : Nat) : Stmt := PySem.Challenge.pw_rungrepeats_k84_whole_every_text_of_rule.main.body.getD i (.Pass ⟨0, 0, 0, 0⟩)
structure Ads where
  f_RungError___init__ : Addr
  d_RungError___init__ : FuncData
  f__law_cell : Addr
  d__law_cell : FuncData
  f__law_draws : Addr
  d__law_draws : FuncData
  f__law_lines : Addr
  d__law_lines : FuncData
  f__law_large : Addr
  d__law_large : FuncData
  f__law_sign : Addr
  d__law_sign : FuncData
  f__law_changed : Addr
  d__law_changed : FuncData
  f__law_is_row : Addr
  d__law_is_row : FuncData
  f__law_due : Addr
  d__law_due : FuncData
  f_is_row : Addr
  d_is_row : FuncData
  f_Rule___init__ : Addr
  d_Rule___init__ : FuncData
  f_read_rule : Addr
  d_read_rule : FuncData
  f_Rule_rows : Addr
  d_Rule_rows : FuncData
  f_show_rule : Addr
  d_show_rule : FuncData
  f_Rule___eq__ : Addr
  d_Rule___eq__ : FuncData
  f__law_found : Addr
  d__law_found : FuncData
  f__law_same : Addr
  d__law_same : FuncData
  f_law : Addr
  d_law : FuncData
  C_InvalidRow : Addr
  C_InvalidSize : Addr
  C_Rule : Addr
  C_RungError : Addr
  C_Unreadable : Addr
  p_Rule_rows : Addr
/-! _law_cell -/
abbrev st__law_cell : Stmt := top 15
abbrev N__law_cell : List Str := ["script", "at", "cell"]
theorem sc__law_cell : FnScope N__law_cell ["script", "at"] (defScope st__law_cell) := ⟨rfl, rfl, rfl, by decide +kernel, rfl, by decide +kernel, by decide +kernel⟩
noncomputable def d__law_cell (T : Ads) : DFn := dFun 2 3
 (dSeq (dAsg (dC (.int 0)) (gN 2))
 (dSeq (dIfS (dTst (dOp ltI (dV 1) (dCB lenG (dCons (dV 0) dNil)))) (dAsg (dOp idxD (dV 0) (dV 1)) (gN 2)) dSkip)
 (dSeq (dIfS (dTst (dOp ltI (dV 2) (dC (.int 0)))) (dAsg (dOp subI (dC (.int 1)) (dOp mulD (dC (.int 2)) (dV 2))) (gN 2)) dSkip)
 (dRet (dOp modI (dV 2) (dOp mulD (dOp powI (dC (.int 10)) (dC (.int 60))) (dOp powI (dC (.int 10)) (dC (.int 60)))))))))
/-! _law_draws -/
abbrev st__law_draws : Stmt := top 16
abbrev N__law_draws : List Str := ["script", "at", "limits", "cell", "rest", "drawn", "k", "stir"]
theorem sc__law_draws : FnScope N__law_draws ["script", "at", "limits"] (defScope st__law_draws) := ⟨rfl, rfl, rfl, by decide +kernel, rfl, by decide +kernel, by decide +kernel⟩
noncomputable def b1__law_draws (T : Ads) : DenS :=
 (dSeq (dAsg (dOp modI (dCB intG (dCons (dOp addD (dOp addD (dOp mulD (dV 3) (dC (.int 40014))) (dOp mulD (dOp mulD (dOp addD (dV 6) (dC (.int 3))) (dOp addD (dV 6) (dC (.int 3)))) (dC (.int 16807)))) (dOp mulD (dV 1) (dC (.int 65539)))) dNil)) (dC (.int 2147483563))) (gN 7))
 (dSeq (dAsg (dOp divI (dOp modI (dCB intG (dCons (dOp addD (dOp addD (dOp mulD (dV 7) (dV 7)) (dOp mulD (dV 6) (dC (.int 69621)))) (dC (.int 271))) dNil)) (dC (.int 2147483399))) (dC (.int 7))) (gN 7))
 (dSeq (dIfS (dTst (dOp geI (dV 3) (dOp powI (dC (.int 10)) (dC (.int 18))))) (dSeq (dAsg (dV 4) (gN 7))
 (dAsg (dOp divI (dV 4) (dOp idxD (dV 2) (dV 6))) (gN 4))) dSkip)
 (dExpr (dApp (dV 5) (dOp modI (dCB intG (dCons (dV 7) dNil)) (dOp idxD (dV 2) (dV 6))))))))
noncomputable def d__law_draws (T : Ads) : DFn := dFun 3 8
 (dSeq (dAsg (dCall (d__law_cell T) (dCons (dV 0) (dCons (dV 1) dNil))) (gN 3))
 (dSeq (dAsg (dOp subI (dV 3) (dOp powI (dC (.int 10)) (dC (.int 18)))) (gN 4))
 (dSeq (dNew 5 (dLst dNil))
 (dSeq (dFor (iR1 (dCB lenG (dCons (dV 2) dNil))) (gN 6)
 (b1__law_draws T))
 (dRet (dV 5))))))
/-! _law_lines -/
abbrev st__law_lines : Stmt := top 17
abbrev N__law_lines : List Str := ["script", "at", "wide", "high", "drawn", "size", "lines", "k", "line", "i", "mark"]
theorem sc__law_lines : FnScope N__law_lines ["script", "at", "wide", "high"] (defScope st__law_lines) := ⟨rfl, rfl, rfl, by decide +kernel, rfl, by decide +kernel, by decide +kernel⟩
noncomputable def b1__law_lines (T : Ads) : DenS :=
 (dSeq (dAsg (dAndE (dOp eqD (dOp idxD (dV 4) (dOp addD (dOp addD (dC (.int 2)) (dOp mulD (dV 7) (dV 2))) (dV 9))) (dC (.int 1))) (dOp neD (dSlc slcD (dV 8) (dSo (dNeg (dC (.int 1)))) dNo) (dC (.str [45])))) (gN 10))
 (dSeq (dIfS (dAndT (dTst (dOp eqD (dV 9) (dOp subI (dV 5) (dC (.int 1))))) (dOrT (dTst (dOp eqD (dV 5) (dC (.int 1)))) (dTst (dOp eqD (dOp idxD (dV 8) (dC (.int 0))) (dC (.str [45])))))) (dAsg (dC (.bl false)) (gN 10)) dSkip)
 (dAsg (dOp addD (dV 8) (dIfE (dTru (dV 10)) (dC (.str [45])) (dC (.str [46])))) (gN 8))))
noncomputable def b2__law_lines (T : Ads) : DenS :=
 (dSeq (dAsg (dC (.str [])) (gN 8))
 (dSeq (dFor (iR1 (dV 5)) (gN 9)
 (b1__law_lines T))
 (dExpr (dApp (dV 6) (dV 8)))))
noncomputable def d__law_lines (T : Ads) : DFn := dFun 4 11
 (dSeq (dAsg (dCall (d__law_draws T) (dCons (dV 0) (dCons (dV 1) (dCons (dOp addD (dData (dLst (dCons (dV 2) (dCons (dV 3) dNil)))) (dOp mulD (dData (dLst (dCons (dC (.int 2)) dNil))) (dOp mulD (dV 2) (dV 3)))) dNil)))) (gN 4))
 (dSeq (dAsg (dOp addD (dC (.int 1)) (dOp idxD (dV 4) (dC (.int 0)))) (gN 5))
 (dSeq (dNew 6 (dLst dNil))
 (dSeq (dFor (iR1 (dOp addD (dC (.int 1)) (dOp idxD (dV 4) (dC (.int 1))))) (gN 7)
 (b2__law_lines T))
 (dRet (dV 6))))))
/-! _law_large -/
abbrev st__law_large : Stmt := top 18
abbrev N__law_large : List Str := ["script", "at", "drawn", "lines", "deep", "spot", "line"]
theorem sc__law_large : FnScope N__law_large ["script", "at"] (defScope st__law_large) := ⟨rfl, rfl, rfl, by decide +kernel, rfl, by decide +kernel, by decide +kernel⟩
noncomputable def d__law_large (T : Ads) : DFn := dFun 2 7
 (dSeq (dAsg (dCall (d__law_draws T) (dCons (dV 0) (dCons (dOp addD (dV 1) (dC (.int 1))) (dCons (dData (dLst (dCons (dC (.int 10)) (dCons (dC (.int 6)) (dCons (dC (.int 36)) (dCons (dC (.int 60)) dNil)))))) dNil)))) (gN 2))
 (dSeq (dNew 3 (dOpF mulL (dData (dComp (iAny (dCall (d__law_lines T) (dCons (dV 0) (dCons (dV 1) (dCons (dC (.int 6)) (dCons (dC (.int 6)) dNil)))))) [6] (gN 6) dYes (dOp mulD (dV 6) (dOp addD (dC (.int 1)) (dOp idxD (dV 2) (dC (.int 0))))))) (dOp addD (dC (.int 1)) (dOp idxD (dV 2) (dC (.int 1))))))
 (dSeq (dAsg (dOp modI (dOp idxD (dV 2) (dC (.int 2))) (dCB lenG (dCons (dV 3) dNil))) (gN 4))
 (dSeq (dAsg (dOp modI (dOp idxD (dV 2) (dC (.int 3))) (dCB lenG (dCons (dOp idxD (dV 3) (dC (.int 0))) dNil))) (gN 5))
 (dSeq (dAsg (dOp addD (dOp addD (dSlc slcD (dOp idxD (dV 3) (dV 4)) dNo (dSo (dV 5))) (dC (.str [46]))) (dSlc slcD (dOp idxD (dV 3) (dV 4)) (dSo (dOp addD (dV 5) (dC (.int 1)))) dNo)) (gSb (dV 3) (dV 4)))
 (dRet (dV 3)))))))
/-! _law_sign -/
abbrev st__law_sign : Stmt := top 20
abbrev N__law_sign : List Str := ["number", "signs"]
theorem sc__law_sign : FnScope N__law_sign ["number"] (defScope st__law_sign) := ⟨rfl, rfl, rfl, by decide +kernel, rfl, by decide +kernel, by decide +kernel⟩
noncomputable def d__law_sign (T : Ads) : DFn := dFun 1 2
 (dSeq (dAsg (dC (.str [126, 125, 124, 123, 122, 121, 120, 119, 118, 117, 116, 115, 114, 113, 112, 111, 110, 109, 108, 107, 106, 105, 104, 103, 102, 101, 100, 99, 98, 97, 95, 94, 93, 92, 91, 90, 89, 88, 87, 86, 85, 84, 83, 82, 81, 80, 79, 78, 77, 76, 75, 74, 73, 72, 71, 70, 69, 68, 67, 66, 65, 64, 63, 62, 61, 60, 59, 58, 57, 56, 55, 54, 53, 52, 51, 50, 49, 48, 47, 46, 45, 44, 43, 42, 41, 40, 39, 38, 36, 35, 34, 33, 32, 96])) (gN 1))
 (dRet (dOp idxD (dV 1) (dOp modI (dV 0) (dC (.int 94))))))
/-! _law_changed -/
abbrev st__law_changed : Stmt := top 24
abbrev N__law_changed : List Str := ["line", "script", "at", "drawn", "k", "way", "kind", "place", "sign", "char", "spot", "mark"]
theorem sc__law_changed : FnScope N__law_changed ["line", "script", "at"] (defScope st__law_changed) := ⟨rfl, rfl, rfl, by decide +kernel, rfl, by decide +kernel, by decide +kernel⟩
noncomputable def b1__law_changed (T : Ads) : DenS :=
 (dSeq (dAsg (dSlc slcD (dV 3) (dSo (dOp addD (dC (.int 2)) (dOp mulD (dC (.int 5)) (dV 4)))) (dSo (dOp addD (dC (.int 7)) (dOp mulD (dC (.int 5)) (dV 4))))) (gTL 5 (gConsD (gN 5) (gConsD (gN 6) (gConsD (gN 7) (gConsD (gN 8) (gConsD (gN 9) gNilD)))))))
 (dSeq (dAsg (dOp modI (dV 7) (dOp addD (dCB lenG (dCons (dV 0) dNil)) (dC (.int 1)))) (gN 10))
 (dSeq (dAsg (dOp idxD (dC (.str [45, 46, 47, 46])) (dV 8)) (gN 11))
 (dSeq (dIfS (dTst (dOp eqD (dV 6) (dC (.int 3)))) (dAsg (dCall (d__law_sign T) (dCons (dV 9) dNil)) (gN 11)) dSkip)
 (dSeq (dIfS (dTst (dOp eqD (dV 5) (dC (.int 0)))) (dAsg (dOp addD (dOp addD (dSlc slcD (dV 0) dNo (dSo (dV 10))) (dV 11)) (dSlc slcD (dV 0) (dSo (dV 10)) dNo)) (gN 0)) dSkip)
 (dSeq (dIfS (dTst (dOp eqD (dV 5) (dC (.int 1)))) (dAsg (dOp addD (dSlc slcD (dV 0) dNo (dSo (dV 10))) (dSlc slcD (dV 0) (dSo (dOp addD (dV 10) (dC (.int 1)))) dNo)) (gN 0)) dSkip)
 (dIfS (dTst (dOp eqD (dV 5) (dC (.int 2)))) (dAsg (dOp addD (dOp addD (dSlc slcD (dV 0) dNo (dSo (dV 10))) (dV 11)) (dSlc slcD (dV 0) (dSo (dOp addD (dV 10) (dC (.int 1)))) dNo)) (gN 0)) dSkip)))))))
noncomputable def d__law_changed (T : Ads) : DFn := dFun 3 12
 (dSeq (dAsg (dCall (d__law_draws T) (dCons (dV 1) (dCons (dV 2) (dCons (dOp addD (dData (dLst (dCons (dC (.int 4)) (dCons (dC (.int 9)) dNil)))) (dOp mulD (dData (dLst (dCons (dC (.int 3)) (dCons (dC (.int 4)) (dCons (dC (.int 2200)) (dCons (dC (.int 4)) (dCons (dC (.int 94)) dNil))))))) (dC (.int 4)))) dNil)))) (gN 3))
 (dSeq (dIfS (dTst (dOp eqD (dOp idxD (dV 3) (dC (.int 1))) (dC (.int 8)))) (dAsg (dC (.str [])) (gN 0)) dSkip)
 (dSeq (dFor (iR1 (dOp addD (dC (.int 1)) (dOp idxD (dV 3) (dC (.int 0))))) (gN 4)
 (b1__law_changed T))
 (dRet (dV 0)))))
/-! _law_is_row -/
abbrev st__law_is_row : Stmt := top 19
abbrev N__law_is_row : List Str := ["line"]
theorem sc__law_is_row : FnScope N__law_is_row ["line"] (defScope st__law_is_row) := ⟨rfl, rfl, rfl, by decide +kernel, rfl, by decide +kernel, by decide +kernel⟩
noncomputable def d__law_is_row (T : Ads) : DFn := dFun 1 1
 (dSeq (dIfS (dOrT (dTst (dOp eqD (dV 0) (dC (.str [])))) (dOrT (dTst (dOp eqD (dV 0) (dC (.str [45])))) (dTst (dOp inSD (dC (.str [45, 45])) (dV 0))))) (dRet (dC (.bl false))) dSkip)
 (dSeq (dIfS (dAndT (dTst (dOp eqD (dOp idxD (dV 0) (dC (.int 0))) (dC (.str [45])))) (dTst (dOp eqD (dOp idxD (dV 0) (dNeg (dC (.int 1)))) (dC (.str [45]))))) (dRet (dC (.bl false))) dSkip)
 (dRet (dOp eqD (dRepl [46] [] (dRepl [45] [] (dV 0))) (dC (.str []))))))
/-! _law_due -/
abbrev st__law_due : Stmt := top 22
abbrev N__law_due : List Str := ["line", "parts", "part"]
theorem sc__law_due : FnScope N__law_due ["line"] (defScope st__law_due) := ⟨rfl, rfl, rfl, by decide +kernel, rfl, by decide +kernel, by decide +kernel⟩
noncomputable def b1__law_due (T : Ads) : DenS :=
 (dIfS (dOrT (dNotT (dTru (dCall (d__law_is_row T) (dCons (dV 2) dNil)))) (dTst (dOp neD (dCB lenG (dCons (dV 2) dNil)) (dCB lenG (dCons (dOp idxD (dV 1) (dC (.int 0))) dNil))))) (dRet (dTup (dCons (dC (.str [98, 97, 100])) (dCons (dV 0) (dCons (dC (.bl true)) dNil))))) dSkip)
noncomputable def d__law_due (T : Ads) : DFn := dFun 1 3
 (dSeq (dAsg (dData (dM1F splitG (dV 0) (dC (.str [47])))) (gN 1))
 (dSeq (dFor (iAny (dV 1)) (gN 2)
 (b1__law_due T))
 (dRet (dTup (dCons (dC (.str [103, 111, 111, 100])) (dCons (dV 1) (dCons (dC (.bl true)) dNil)))))))
/-! is_row -/
abbrev st_is_row : Stmt := top 7
abbrev N_is_row : List Str := ["text", "at"]
theorem sc_is_row : FnScope N_is_row ["text"] (defScope st_is_row) := ⟨rfl, rfl, rfl, by decide +kernel, rfl, by decide +kernel, by decide +kernel⟩
noncomputable def b1_is_row (T : Ads) : DenS :=
 (dSeq (dIfS (dTst (dOp notInD (dOp idxD (dV 0) (dV 1)) (dTup (dCons (dC (.str [45])) (dCons (dC (.str [46])) dNil))))) (dRet (dC (.bl false))) dSkip)
 (dIfS (dAndT (dTst (dOp eqD (dOp idxD (dV 0) (dV 1)) (dC (.str [45])))) (dTst (dOp eqD (dOp idxD (dV 0) (dOp modI (dOp addD (dV 1) (dC (.int 1))) (dCB lenG (dCons (dV 0) dNil)))) (dC (.str [45]))))) (dRet (dC (.bl false))) dSkip))
noncomputable def d_is_row (T : Ads) : DFn := dFun 1 2
 (dSeq (dFor (iR1 (dCB lenG (dCons (dV 0) dNil))) (gN 1)
 (b1_is_row T))
 (dRet (dOp neD (dV 0) (dC (.str [])))))
/-! Rule.__init__ -/
abbrev st_Rule___init__ : Stmt := inClass (top 9) 0
abbrev N_Rule___init__ : List Str := ["self", "texts", "text"]
theorem sc_Rule___init__ : FnScope N_Rule___init__ ["self", "texts"] (defScope st_Rule___init__) := ⟨rfl, rfl, rfl, by decide +kernel, rfl, by decide +kernel, by decide +kernel⟩
noncomputable def b1_Rule___init__ (T : Ads) : DenS :=
 (dIfS (dOrT (dNotT (dTru (dCall (d_is_row T) (dCons (dV 2) dNil)))) (dTst (dOp neD (dCB lenG (dCons (dV 2) dNil)) (dCB lenG (dCons (dOp idxD (dV 1) (dC (.int 0))) dNil))))) (dRaise T.C_InvalidRow (dV 2)) dSkip)
noncomputable def d_Rule___init__ (T : Ads) : DFn := dFunM 2 3
 (dSeq (dIfS (dTst (dOp eqD (dCB lenG (dCons (dV 1) dNil)) (dC (.int 0)))) (dRaise T.C_InvalidSize (dC (.int 0))) dSkip)
 (dSeq (dFor (iAny (dV 1)) (gN 2)
 (b1_Rule___init__ T))
 (dFldS T.C_Rule "lines" (dV 0) (dData (dCBF listG (dCons (dV 1) dNil))))))
/-! read_rule -/
abbrev st_read_rule : Stmt := top 11
abbrev N_read_rule : List Str := ["text", "texts", "part"]
theorem sc_read_rule : FnScope N_read_rule ["text"] (defScope st_read_rule) := ⟨rfl, rfl, rfl, by decide +kernel, rfl, by decide +kernel, by decide +kernel⟩
noncomputable def b1_read_rule (T : Ads) : DenS :=
 (dIfS (dOrT (dNotT (dTru (dCall (d_is_row T) (dCons (dV 2) dNil)))) (dTst (dOp neD (dCB lenG (dCons (dV 2) dNil)) (dCB lenG (dCons (dOp idxD (dV 1) (dC (.int 0))) dNil))))) (dRaise T.C_Unreadable (dV 0)) dSkip)
noncomputable def d_read_rule (T : Ads) : DFn := dFun 1 3
 (dSeq (dAsg (dData (dM1F splitG (dV 0) (dC (.str [47])))) (gN 1))
 (dSeq (dFor (iAny (dV 1)) (gN 2)
 (b1_read_rule T))
 (dRet (dMake T.C_Rule (d_Rule___init__ T) (dCons (dV 1) dNil)))))
/-! Rule.rows -/
abbrev st_Rule_rows : Stmt := inClass (top 9) 1
abbrev N_Rule_rows : List Str := ["self"]
theorem sc_Rule_rows : FnScope N_Rule_rows ["self"] (defScope st_Rule_rows) := ⟨rfl, rfl, rfl, by decide +kernel, rfl, by decide +kernel, by decide +kernel⟩
noncomputable def d_Rule_rows (T : Ads) : DFn := dFun 1 1
 (dRet (dData (dCBF listG (dCons (dFld T.C_Rule "lines" (dV 0)) dNil))))
/-! show_rule -/
abbrev st_show_rule : Stmt := top 13
abbrev N_show_rule : List Str := ["rule"]
theorem sc_show_rule : FnScope N_show_rule ["rule"] (defScope st_show_rule) := ⟨rfl, rfl, rfl, by decide +kernel, rfl, by decide +kernel, by decide +kernel⟩
noncomputable def d_show_rule (T : Ads) : DFn := dFun 1 1
 (dRet (dM1 joinG (dC (.str [47])) (dMeth T.C_Rule (d_Rule_rows T) (dV 0) dNil)))
/-! Rule.__eq__ -/
abbrev st_Rule___eq__ : Stmt := inClass (top 9) 11
abbrev N_Rule___eq__ : List Str := ["self", "other"]
theorem sc_Rule___eq__ : FnScope N_Rule___eq__ ["self", "other"] (defScope st_Rule___eq__) := ⟨rfl, rfl, rfl, by decide +kernel, rfl, by decide +kernel, by decide +kernel⟩
noncomputable def d_Rule___eq__ (T : Ads) : DFn := dFun 2 2
 (dRet (dAndE (dCB (isoG T.C_Rule) (dCons (dV 1) (dCons (dC (.cls T.C_Rule)) dNil))) (dOp eqD (dFld T.C_Rule "lines" (dV 0)) (dFld T.C_Rule "lines" (dV 1)))))
/-! _law_found -/
abbrev st__law_found : Stmt := top 23
abbrev N__law_found : List Str := ["line", "answer", "found", "e"]
theorem sc__law_found : FnScope N__law_found ["line"] (defScope st__law_found) := ⟨rfl, rfl, rfl, by decide +kernel, rfl, by decide +kernel, by decide +kernel⟩
noncomputable def d__law_found (T : Ads) : DFn := dFun 1 4
 (dSeq (dAsg (dC .non) (gN 1))
 (dSeq (dAsg (dC .non) (gN 2))
 (dSeq (dTry 3 T.C_Unreadable (dAsgX (dCallX (d_read_rule T) (dCons (dV 0) dNil)) (gN 1)) (fun a dd => (dAsg (dTup (dCons (dC (.str [98, 97, 100])) (dCons (dXf a dd (dV 3)) (dCons (dCB (ixG a dd T.C_RungError true) (dCons (dV 3) (dCons (dC (.cls T.C_RungError)) dNil))) dNil)))) (gN 2))))
 (dSeq (dIfS (dTst (dOp isN (dV 2) (dC .non))) (dAsg (dTup (dCons (dC (.str [103, 111, 111, 100])) (dCons (dMeth T.C_Rule (d_Rule_rows T) (dV 1) dNil) (dCons (dAndE (dOp eqD (dCall (d_show_rule T) (dCons (dV 1) dNil)) (dV 0)) (dOwn T.C_Rule (d_Rule___eq__ T) (dV 1) (dCall (d_read_rule T) (dCons (dV 0) dNil)))) dNil)))) (gN 2)) dSkip)
 (dRet (dV 2))))))
/-! _law_same -/
abbrev st__law_same : Stmt := top 21
abbrev N__law_same : List Str := ["found", "due", "k"]
theorem sc__law_same : FnScope N__law_same ["found", "due"] (defScope st__law_same) := ⟨rfl, rfl, rfl, by decide +kernel, rfl, by decide +kernel, by decide +kernel⟩
noncomputable def d__law_same (T : Ads) : Nat → DFn
 | 0 => fun _ _ => none
 | n + 1 => let rc := d__law_same T n
 dFun 2 3 (dSeq (dIfS (dTst (dOp isN (dV 1) (dC .non))) (dRet (dOp isN (dV 0) (dC .non))) dSkip)
 (dSeq (dIfS (dTru (dCB isiG (dCons (dV 1) (dCons (dC (.ty "bool")) dNil)))) (dRet (dAndE (dCB isiG (dCons (dV 0) (dCons (dC (.ty "bool")) dNil))) (dOp eqD (dV 0) (dV 1)))) dSkip)
 (dSeq (dIfS (dTru (dCB isiG (dCons (dV 1) (dCons (dC (.ty "int")) dNil)))) (dRet (dAndE (dCB isiG (dCons (dV 0) (dCons (dC (.ty "int")) dNil))) (dAndE (dNotE (dCB isiG (dCons (dV 0) (dCons (dC (.ty "bool")) dNil)))) (dOp eqD (dV 0) (dV 1))))) dSkip)
 (dSeq (dIfS (dTru (dCB isiG (dCons (dV 1) (dCons (dC (.ty "str")) dNil)))) (dRet (dAndE (dCB isiG (dCons (dV 0) (dCons (dC (.ty "str")) dNil))) (dOp eqD (dV 0) (dV 1)))) dSkip)
 (dSeq (dIfS (dTru (dCB isiG (dCons (dV 1) (dCons (dC (.ty "list")) dNil)))) (dIfS (dNotT (dTru (dCB isiG (dCons (dV 0) (dCons (dC (.ty "list")) dNil))))) (dRet (dC (.bl false))) dSkip) (dIfS (dNotT (dTru (dCB isiG (dCons (dV 0) (dCons (dC (.ty "tuple")) dNil))))) (dRet (dC (.bl false))) dSkip))
 (dSeq (dIfS (dTst (dOp neD (dCB lenG (dCons (dV 0) dNil)) (dCB lenG (dCons (dV 1) dNil)))) (dRet (dC (.bl false))) dSkip)
 (dRet (dCB allG (dCons (dData (dComp (iR1 (dCB lenG (dCons (dV 1) dNil))) [2] (gN 2) dYes (dCall rc (dCons (dOp idxD (dV 0) (dV 2)) (dCons (dOp idxD (dV 1) (dV 2)) dNil))))) dNil)))))))))
/-! law -/
abbrev st_law : Stmt := top 25
abbrev N_law : List Str := ["script", "lines", "good", "at", "line"]
theorem sc_law : FnScope N_law ["script"] (defScope st_law) := ⟨rfl, rfl, rfl, by decide +kernel, rfl, by decide +kernel, by decide +kernel⟩
noncomputable def b1_law (T : Ads) : DenS :=
 (dSeq (dAsg (dCall (d__law_changed T) (dCons (dV 2) (dCons (dV 0) (dCons (dV 3) dNil)))) (gN 4))
 (dSeq (dIfS (dNotT (dTru (dCall (d__law_same T 4) (dCons (dCall (d__law_found T) (dCons (dV 4) dNil)) (dCons (dCall (d__law_due T) (dCons (dV 4) dNil)) dNil))))) (dRet (dC (.bl false))) dSkip)
 (dIfS (dNotT (dTru (dCall (d__law_same T 4) (dCons (dCall (d__law_found T) (dCons (dV 2) dNil)) (dCons (dTup (dCons (dC (.str [103, 111, 111, 100])) (dCons (dV 1) (dCons (dC (.bl true)) dNil)))) dNil))))) (dRet (dC (.bl false))) dSkip)))
noncomputable def d_law (T : Ads) : DFn := dFun 1 5
 (dSeq (dAsg (dCall (d__law_lines T) (dCons (dV 0) (dCons (dC (.int 0)) (dCons (dC (.int 6)) (dCons (dC (.int 6)) dNil))))) (gN 1))
 (dSeq (dIfS (dTst (dOp eqD (dOp idxD (dCall (d__law_draws T) (dCons (dV 0) (dCons (dC (.int 1)) (dCons (dData (dLst (dCons (dC (.int 3)) dNil))) dNil)))) (dC (.int 0))) (dC (.int 1)))) (dAsg (dCall (d__law_large T) (dCons (dV 0) (dCons (dC (.int 0)) dNil))) (gN 1)) dSkip)
 (dSeq (dAsg (dM1 joinG (dC (.str [47])) (dV 1)) (gN 2))
 (dSeq (dFor (iR2 (dC (.int 2)) (dCB max2G (dCons (dC (.int 3)) (dCons (dCB min2G (dCons (dCB lenG (dCons (dV 0) dNil)) (dCons (dC (.int 12)) dNil))) dNil)))) (gN 3)
 (b1_law T))
 (dRet (dC (.bl true)))))))
abbrev st_RungError___init__ : Stmt := inClass (top 2) 0
theorem sc_RungError___init__ : FnScope ["self", "value"] ["self", "value"] (defScope st_RungError___init__) := ⟨rfl, rfl, rfl, by decide +kernel, rfl, by decide +kernel, by decide +kernel⟩
structure Txt (K : PySem.W.Frag) (mg : Str → Option Value) (T : Ads) : Prop where
  RungError___init__ : FnT K "__init__" "RungError.__init__" st_RungError___init__ ["self", "value"] T.f_RungError___init__ T.d_RungError___init__
  _law_cell : FnG K mg "_law_cell" st__law_cell ["script", "at"] T.f__law_cell T.d__law_cell
  _law_draws : FnG K mg "_law_draws" st__law_draws ["script", "at", "limits"] T.f__law_draws T.d__law_draws
  _law_lines : FnG K mg "_law_lines" st__law_lines ["script", "at", "wide", "high"] T.f__law_lines T.d__law_lines
  _law_large : FnG K mg "_law_large" st__law_large ["script", "at"] T.f__law_large T.d__law_large
  _law_sign : FnG K mg "_law_sign" st__law_sign ["number"] T.f__law_sign T.d__law_sign
  _law_changed : FnG K mg "_law_changed" st__law_changed ["line", "script", "at"] T.f__law_changed T.d__law_changed
  _law_is_row : FnG K mg "_law_is_row" st__law_is_row ["line"] T.f__law_is_row T.d__law_is_row
  _law_due : FnG K mg "_law_due" st__law_due ["line"] T.f__law_due T.d__law_due
  is_row : FnG K mg "is_row" st_is_row ["text"] T.f_is_row T.d_is_row
  Rule___init__ : FnT K "__init__" "Rule.__init__" st_Rule___init__ ["self", "texts"] T.f_Rule___init__ T.d_Rule___init__
  read_rule : FnG K mg "read_rule" st_read_rule ["text"] T.f_read_rule T.d_read_rule
  Rule_rows : FnT K "rows" "Rule.rows" st_Rule_rows ["self"] T.f_Rule_rows T.d_Rule_rows
  show_rule : FnG K mg "show_rule" st_show_rule ["rule"] T.f_show_rule T.d_show_rule
  Rule___eq__ : FnT K "__eq__" "Rule.__eq__" st_Rule___eq__ ["self", "other"] T.f_Rule___eq__ T.d_Rule___eq__
  _law_found : FnG K mg "_law_found" st__law_found ["line"] T.f__law_found T.d__law_found
  _law_same : FnG K mg "_law_same" st__law_same ["found", "due"] T.f__law_same T.d__law_same
  law : FnG K mg "law" st_law ["script"] T.f_law T.d_law
  g_InvalidRow : mg "InvalidRow" = some (.ref T.C_InvalidRow)
  g_InvalidSize : mg "InvalidSize" = some (.ref T.C_InvalidSize)
  g_Rule : mg "Rule" = some (.ref T.C_Rule)
  cl_Rule : Cls K T.C_Rule
  g_RungError : mg "RungError" = some (.ref T.C_RungError)
  g_Unreadable : mg "Unreadable" = some (.ref T.C_Unreadable)
  na_Rule_lines : NoAttr K T.C_Rule "lines"
  pr_Rule_rows : PropOf K T.C_Rule "rows" T.p_Rule_rows T.f_Rule_rows
  fi_Rule___eq__ : PySem.W.findIn K (.ref T.C_Rule) "__eq__" = some (some (.ref T.f_Rule___eq__))
  fn_Rule___eq__ : PySem.W.isFn K (.ref T.f_Rule___eq__) = true
  mk_Rule : Mk K T.C_Rule T.f_Rule___init__
  n_all : mg "all" = none
  n_bool : mg "bool" = none
  n_int : mg "int" = none
  n_isinstance : mg "isinstance" = none
  n_len : mg "len" = none
  n_list : mg "list" = none
  n_max : mg "max" = none
  n_min : mg "min" = none
  n_range : mg "range" = none
  n_str : mg "str" = none
  n_tuple : mg "tuple" = none
  io_Rule : IoC K T.C_Rule
  er_InvalidRow : ErrC K T.C_InvalidRow T.f_RungError___init__
  er_InvalidSize : ErrC K T.C_InvalidSize T.f_RungError___init__
  er_Unreadable : ErrC K T.C_Unreadable T.f_RungError___init__
  ex_Unreadable : PySem.W.exmOne K (.ref T.C_Unreadable) (.ref T.C_Unreadable) = some true
  xf_Unreadable : XfC K T.C_Unreadable
  nv_Unreadable : PySem.W.findIn K (.ref T.C_Unreadable) "value" = some none
  ix_Unreadable : IxC K T.C_Unreadable
  ko_Unreadable_RungError : PySem.W.kitOne K (.ref T.C_Unreadable) (.ref T.C_RungError) = some true
section
variable {P : Program} {w : World} {K : PySem.W.Frag} {mg : Str → Option Value} {base : Heap}
theorem ok_err (T : Ads) (X : Txt K mg T) : FnOk P w K mg base (L2.CX P w) 1 T.f_RungError___init__ T.d_RungError___init__ ["self", "value"] (spErr K) := err_init X.RungError___init__.F sc_RungError___init__ rfl rfl rfl
theorem ok__law_cell (T : Ads) (X : Txt K mg T) : DefOk P w K mg base 1 T.f__law_cell T.d__law_cell ["script", "at"] (d__law_cell T) := by
  refine def_ok X._law_cell.F sc__law_cell fun cdv A outer s H E hr => ?_
  exact (dss_cons (ds_set sc__law_cell.nd de_int)
 (dss_cons (ds_if (dt_lt (de_var 1) (de_len X.n_len (da_cons (de_var 0) da_nil))) (dss_one (ds_set sc__law_cell.nd (de_idx hr (de_var 0) (de_var 1)))) dss_nil)
 (dss_cons (ds_if (dt_lt (de_var 2) de_int) (dss_one (ds_set sc__law_cell.nd (de_sub de_int (de_mul de_int (de_var 2))))) dss_nil)
 (dss_one (ds_ret (de_mod (de_var 2) (de_mul (de_pow de_int de_int) (de_pow de_int de_int))))))))
theorem ok__law_draws (T : Ads) (X : Txt K mg T) : DefOk P w K mg base 2 T.f__law_draws T.d__law_draws ["script", "at", "limits"] (d__law_draws T) := by
  refine def_ok X._law_draws.F sc__law_draws fun cdv A outer s H E hr => ?_
  exact (dss_cons (ds_set sc__law_draws.nd (de_call (ok__law_cell T X) (hr.mono (by decide)) X._law_cell.G X._law_cell.F.kp X._law_cell.B (da_cons (de_var 0) (da_cons (de_var 1) da_nil))))
 (dss_cons (ds_set sc__law_draws.nd (de_sub (de_var 3) (de_pow de_int de_int)))
 (dss_cons (ds_new sc__law_draws.nd (df_lst da_nil))
 (dss_cons (ds_for pass_ok rfl (di_range1 X.n_range (de_len X.n_len (da_cons (de_var 2) da_nil))) (dg_name sc__law_draws.nd)
 (dss_cons (ds_set sc__law_draws.nd (de_mod (de_intc X.n_int (da_cons (de_add (de_add (de_mul (de_var 3) de_int) (de_mul (de_mul (de_add (de_var 6) de_int) (de_add (de_var 6) de_int)) de_int)) (de_mul (de_var 1) de_int)) da_nil)) de_int))
 (dss_cons (ds_set sc__law_draws.nd (de_div (de_mod (de_intc X.n_int (da_cons (de_add (de_add (de_mul (de_var 7) (de_var 7)) (de_mul (de_var 6) de_int)) de_int) da_nil)) de_int) de_int))
 (dss_cons (ds_if (dt_ge (de_var 3) (de_pow de_int de_int)) (dss_cons (ds_set sc__law_draws.nd (de_var 4))
 (dss_one (ds_set sc__law_draws.nd (de_div (de_var 4) (de_idx hr (de_var 2) (de_var 6)))))) dss_nil)
 (dss_one (ds_expr (de_app (de_var 5) (de_mod (de_intc X.n_int (da_cons (de_var 7) da_nil)) (de_idx hr (de_var 2) (de_var 6))))))))))
 (dss_one (ds_ret (de_var 5)))))))
theorem ok__law_lines (T : Ads) (X : Txt K mg T) : DefOk P w K mg base 3 T.f__law_lines T.d__law_lines ["script", "at", "wide", "high"] (d__law_lines T) := by
  refine def_ok X._law_lines.F sc__law_lines fun cdv A outer s H E hr => ?_
  exact (dss_cons (ds_set sc__law_lines.nd (de_call (ok__law_draws T X) (hr.mono (by decide)) X._law_draws.G X._law_draws.F.kp X._law_draws.B (da_cons (de_var 0) (da_cons (de_var 1) (da_cons (de_add (de_df (df_lst (da_cons (de_var 2) (da_cons (de_var 3) da_nil)))) (de_mul (de_df (df_lst (da_cons de_int da_nil))) (de_mul (de_var 2) (de_var 3)))) da_nil)))))
 (dss_cons (ds_set sc__law_lines.nd (de_add de_int (de_idx hr (de_var 4) de_int)))
 (dss_cons (ds_new sc__law_lines.nd (df_lst da_nil))
 (dss_cons (ds_for pass_ok rfl (di_range1 X.n_range (de_add de_int (de_idx hr (de_var 4) de_int))) (dg_name sc__law_lines.nd)
 (dss_cons (ds_set sc__law_lines.nd (de_str []))
 (dss_cons (ds_for pass_ok rfl (di_range1 X.n_range (de_var 5)) (dg_name sc__law_lines.nd)
 (dss_cons (ds_set sc__law_lines.nd (de_and (de_eq hr (de_idx hr (de_var 4) (de_add (de_add de_int (de_mul (de_var 7) (de_var 2))) (de_var 9))) de_int) (de_one (de_ne hr (de_slc (de_var 8) (do_some (de_neg de_int)) do_none) (de_str [45])))))
 (dss_cons (ds_if (dt_w (dw_and (dt_eq hr (de_var 9) (de_sub (de_var 5) de_int)) (dw_and1 (dt_w (dw_or (dt_eq hr (de_var 5) de_int) (dw_or1 (dt_eq hr (de_idx hr (de_var 8) de_int) (de_str [45])))))))) (dss_one (ds_set sc__law_lines.nd de_bl)) dss_nil)
 (dss_one (ds_set sc__law_lines.nd (de_add (de_var 8) (de_if (dt_tru (de_var 10)) (de_str [45]) (de_str [46]))))))))
 (dss_one (ds_expr (de_app (de_var 6) (de_var 8)))))))
 (dss_one (ds_ret (de_var 6)))))))
theorem ok__law_large (T : Ads) (X : Txt K mg T) : DefOk P w K mg base 4 T.f__law_large T.d__law_large ["script", "at"] (d__law_large T) := by
  refine def_ok X._law_large.F sc__law_large fun cdv A outer s H E hr => ?_
  exact (dss_cons (ds_set sc__law_large.nd (de_call (ok__law_draws T X) (hr.mono (by decide)) X._law_draws.G X._law_draws.F.kp X._law_draws.B (da_cons (de_var 0) (da_cons (de_add (de_var 1) de_int) (da_cons (de_df (df_lst (da_cons de_int (da_cons de_int (da_cons de_int (da_cons de_int da_nil)))))) da_nil)))))
 (dss_cons (ds_new sc__law_large.nd (df_mul (de_df (df_comp rfl sc__law_large.nd (di_any (de_call (ok__law_lines T X) (hr.mono (by decide)) X._law_lines.G X._law_lines.F.kp X._law_lines.B (da_cons (de_var 0) (da_cons (de_var 1) (da_cons de_int (da_cons de_int da_nil)))))) (blk_mk (N' := N__law_large) (sc' := defScope (st__law_large)) (own := [("line", 6)]) rfl rfl (by decide +kernel)) (fun _ _ _ _ _ => (dgo_name sc__law_large.nd (by decide))) (fun _ _ _ _ _ => dts_nil) (fun _ _ _ _ _ => (de_mul (de_var 6) (de_add de_int (de_idx hr (de_var 2) de_int)))))) (de_add de_int (de_idx hr (de_var 2) de_int))))
 (dss_cons (ds_set sc__law_large.nd (de_mod (de_idx hr (de_var 2) de_int) (de_len X.n_len (da_cons (de_var 3) da_nil))))
 (dss_cons (ds_set sc__law_large.nd (de_mod (de_idx hr (de_var 2) de_int) (de_len X.n_len (da_cons (de_idx hr (de_var 3) de_int) da_nil))))
 (dss_cons (ds_asg (de_add (de_add (de_slc (de_idx hr (de_var 3) (de_var 4)) do_none (do_some (de_var 5))) (de_str [46])) (de_slc (de_idx hr (de_var 3) (de_var 4)) (do_some (de_add (de_var 5) de_int)) do_none)) (dg_sub (de_var 3) (de_var 4)))
 (dss_one (ds_ret (de_var 3))))))))
theorem ok__law_sign (T : Ads) (X : Txt K mg T) : DefOk P w K mg base 1 T.f__law_sign T.d__law_sign ["number"] (d__law_sign T) := by
  refine def_ok X._law_sign.F sc__law_sign fun cdv A outer s H E hr => ?_
  exact (dss_cons (ds_set sc__law_sign.nd (de_str [126, 125, 124, 123, 122, 121, 120, 119, 118, 117, 116, 115, 114, 113, 112, 111, 110, 109, 108, 107, 106, 105, 104, 103, 102, 101, 100, 99, 98, 97, 95, 94, 93, 92, 91, 90, 89, 88, 87, 86, 85, 84, 83, 82, 81, 80, 79, 78, 77, 76, 75, 74, 73, 72, 71, 70, 69, 68, 67, 66, 65, 64, 63, 62, 61, 60, 59, 58, 57, 56, 55, 54, 53, 52, 51, 50, 49, 48, 47, 46, 45, 44, 43, 42, 41, 40, 39, 38, 36, 35, 34, 33, 32, 96]))
 (dss_one (ds_ret (de_idx hr (de_var 1) (de_mod (de_var 0) de_int)))))
theorem ok__law_changed (T : Ads) (X : Txt K mg T) : DefOk P w K mg base 3 T.f__law_changed T.d__law_changed ["line", "script", "at"] (d__law_changed T) := by
  refine def_ok X._law_changed.F sc__law_changed fun cdv A outer s H E hr => ?_
  exact (dss_cons (ds_set sc__law_changed.nd (de_call (ok__law_draws T X) (hr.mono (by decide)) X._law_draws.G X._law_draws.F.kp X._law_draws.B (da_cons (de_var 1) (da_cons (de_var 2) (da_cons (de_add (de_df (df_lst (da_cons de_int (da_cons de_int da_nil)))) (de_mul (de_df (df_lst (da_cons de_int (da_cons de_int (da_cons de_int (da_cons de_int (da_cons de_int da_nil))))))) de_int)) da_nil)))))
 (dss_cons (ds_if (dt_eq hr (de_idx hr (de_var 3) de_int) de_int) (dss_one (ds_set sc__law_changed.nd (de_str []))) dss_nil)
 (dss_cons (ds_for pass_ok rfl (di_range1 X.n_range (de_add de_int (de_idx hr (de_var 3) de_int))) (dg_name sc__law_changed.nd)
 (dss_cons (ds_asg (de_slc (de_var 3) (do_some (de_add de_int (de_mul de_int (de_var 4)))) (do_some (de_add de_int (de_mul de_int (de_var 4))))) (dg_tupL rfl (dgs_cons (dg_name sc__law_changed.nd) (dgs_cons (dg_name sc__law_changed.nd) (dgs_cons (dg_name sc__law_changed.nd) (dgs_cons (dg_name sc__law_changed.nd) (dgs_cons (dg_name sc__law_changed.nd) dgs_nil)))))))
 (dss_cons (ds_set sc__law_changed.nd (de_mod (de_var 7) (de_add (de_len X.n_len (da_cons (de_var 0) da_nil)) de_int)))
 (dss_cons (ds_set sc__law_changed.nd (de_idx hr (de_str [45, 46, 47, 46]) (de_var 8)))
 (dss_cons (ds_if (dt_eq hr (de_var 6) de_int) (dss_one (ds_set sc__law_changed.nd (de_call (ok__law_sign T X) (hr.mono (by decide)) X._law_sign.G X._law_sign.F.kp X._law_sign.B (da_cons (de_var 9) da_nil)))) dss_nil)
 (dss_cons (ds_if (dt_eq hr (de_var 5) de_int) (dss_one (ds_set sc__law_changed.nd (de_add (de_add (de_slc (de_var 0) do_none (do_some (de_var 10))) (de_var 11)) (de_slc (de_var 0) (do_some (de_var 10)) do_none)))) dss_nil)
 (dss_cons (ds_if (dt_eq hr (de_var 5) de_int) (dss_one (ds_set sc__law_changed.nd (de_add (de_slc (de_var 0) do_none (do_some (de_var 10))) (de_slc (de_var 0) (do_some (de_add (de_var 10) de_int)) do_none)))) dss_nil)
 (dss_one (ds_if (dt_eq hr (de_var 5) de_int) (dss_one (ds_set sc__law_changed.nd (de_add (de_add (de_slc (de_var 0) do_none (do_some (de_var 10))) (de_var 11)) (de_slc (de_var 0) (do_some (de_add (de_var 10) de_int)) do_none)))) dss_nil)))))))))
 (dss_one (ds_ret (de_var 0))))))
theorem ok__law_is_row (T : Ads) (X : Txt K mg T) : DefOk P w K mg base 1 T.f__law_is_row T.d__law_is_row ["line"] (d__law_is_row T) := by
  refine def_ok X._law_is_row.F sc__law_is_row fun cdv A outer s H E hr => ?_
  exact (dss_ifk (dtk_or (dtk_eqS [] hr (de_var 0)) (dw_or (dt_eq hr (de_var 0) (de_str [45])) (dw_or1 (dt_inS (de_str [45, 45]) (de_var 0))))) (dss_one (ds_ret de_bl)) dss_nil
 (dpst_cons (dpt_of (ds_if (dt_w (dw_and (dt_eq hr (de_idx hr (de_var 0) de_int) (de_str [45])) (dw_and1 (dt_eq hr (de_idx hr (de_var 0) (de_neg de_int)) (de_str [45]))))) (dss_one (ds_ret de_bl)) dss_nil))
 (dpst_one (dpt_ret (det_eq hr (det_repl [46] [] (det_repl [45] [] (det_of (de_var 0)))) (de_str []))))))
theorem ok__law_due (T : Ads) (X : Txt K mg T) : DefOk P w K mg base 2 T.f__law_due T.d__law_due ["line"] (d__law_due T) := by
  refine def_ok X._law_due.F sc__law_due fun cdv A outer s H E hr => ?_
  exact (dss_cons (ds_set sc__law_due.nd (de_df (df_split (de_var 0) (de_str [47]))))
 (dss_cons (ds_for pass_ok rfl (di_any (de_var 1)) (dg_name sc__law_due.nd)
 (dss_one (ds_if (dt_w (dw_or (dt_not (dt_tru (de_call (ok__law_is_row T X) (hr.mono (by decide)) X._law_is_row.G X._law_is_row.F.kp X._law_is_row.B (da_cons (de_var 2) da_nil)))) (dw_or1 (dt_ne hr (de_len X.n_len (da_cons (de_var 2) da_nil)) (de_len X.n_len (da_cons (de_idx hr (de_var 1) de_int) da_nil)))))) (dss_one (ds_ret (de_tup (da_cons (de_str [98, 97, 100]) (da_cons (de_var 0) (da_cons de_bl da_nil)))))) dss_nil)))
 (dss_one (ds_ret (de_tup (da_cons (de_str [103, 111, 111, 100]) (da_cons (de_var 1) (da_cons de_bl da_nil))))))))
theorem ok_is_row (T : Ads) (X : Txt K mg T) : DefOk P w K mg base 1 T.f_is_row T.d_is_row ["text"] (d_is_row T) := by
  refine def_ok X.is_row.F sc_is_row fun cdv A outer s H E hr => ?_
  exact (dss_cons (ds_for pass_ok rfl (di_range1 X.n_range (de_len X.n_len (da_cons (de_var 0) da_nil))) (dg_name sc_is_row.nd)
 (dss_cons (ds_if (dt_notIn hr (de_idx hr (de_var 0) (de_var 1)) (de_tup (da_cons (de_str [45]) (da_cons (de_str [46]) da_nil)))) (dss_one (ds_ret de_bl)) dss_nil)
 (dss_one (ds_if (dt_w (dw_and (dt_eq hr (de_idx hr (de_var 0) (de_var 1)) (de_str [45])) (dw_and1 (dt_eq hr (de_idx hr (de_var 0) (de_mod (de_add (de_var 1) de_int) (de_len X.n_len (da_cons (de_var 0) da_nil)))) (de_str [45]))))) (dss_one (ds_ret de_bl)) dss_nil))))
 (dss_one (ds_ret (de_ne hr (de_var 0) (de_str [])))))
theorem ok_Rule___init__ (T : Ads) (X : Txt K mg T) : DefOk P w K mg base 3 T.f_Rule___init__ T.d_Rule___init__ ["self", "texts"] (d_Rule___init__ T) := by
  refine defM_ok X.Rule___init__.F sc_Rule___init__ fun cdv A outer s H E hr => ?_
  exact (dss_cons (ds_if (dt_eq hr (de_len X.n_len (da_cons (de_var 1) da_nil)) de_int) (dss_one (ds_raise rfl takes_ok X.er_InvalidSize (ok_err T X) (hr.mono (by decide)) X.RungError___init__.B X.g_InvalidSize de_int)) dss_nil)
 (dss_cons (ds_for pass_ok rfl (di_any (de_var 1)) (dg_name sc_Rule___init__.nd)
 (dss_one (ds_if (dt_w (dw_or (dt_not (dt_tru (de_call (ok_is_row T X) (hr.mono (by decide)) X.is_row.G X.is_row.F.kp X.is_row.B (da_cons (de_var 2) da_nil)))) (dw_or1 (dt_ne hr (de_len X.n_len (da_cons (de_var 2) da_nil)) (de_len X.n_len (da_cons (de_idx hr (de_var 1) de_int) da_nil)))))) (dss_one (ds_raise rfl takes_ok X.er_InvalidRow (ok_err T X) (hr.mono (by decide)) X.RungError___init__.B X.g_InvalidRow (de_var 2))) dss_nil)))
 (dss_one (ds_fld X.cl_Rule X.na_Rule_lines (de_var 0) (de_df (df_list X.n_list (da_cons (de_var 1) da_nil)))))))
theorem ok_read_rule (T : Ads) (X : Txt K mg T) : DefOk P w K mg base 5 T.f_read_rule T.d_read_rule ["text"] (d_read_rule T) := by
  refine def_ok X.read_rule.F sc_read_rule fun cdv A outer s H E hr => ?_
  exact (dss_cons (ds_set sc_read_rule.nd (de_df (df_split (de_var 0) (de_str [47]))))
 (dss_cons (ds_for pass_ok rfl (di_any (de_var 1)) (dg_name sc_read_rule.nd)
 (dss_one (ds_if (dt_w (dw_or (dt_not (dt_tru (de_call (ok_is_row T X) (hr.mono (by decide)) X.is_row.G X.is_row.F.kp X.is_row.B (da_cons (de_var 2) da_nil)))) (dw_or1 (dt_ne hr (de_len X.n_len (da_cons (de_var 2) da_nil)) (de_len X.n_len (da_cons (de_idx hr (de_var 1) de_int) da_nil)))))) (dss_one (ds_raise rfl takes_ok X.er_Unreadable (ok_err T X) (hr.mono (by decide)) X.RungError___init__.B X.g_Unreadable (de_var 0))) dss_nil)))
 (dss_one (ds_ret (de_make X.mk_Rule (ok_Rule___init__ T X) (hr.mono (by decide)) X.g_Rule X.Rule___init__.B (da_cons (de_var 1) da_nil))))))
theorem ok_Rule_rows (T : Ads) (X : Txt K mg T) : DefOk P w K mg base 1 T.f_Rule_rows T.d_Rule_rows ["self"] (d_Rule_rows T) := by
  refine def_ok X.Rule_rows.F sc_Rule_rows fun cdv A outer s H E hr => ?_
  exact (dss_one (ds_ret (de_df (df_list X.n_list (da_cons (de_fld X.cl_Rule X.na_Rule_lines (de_var 0)) da_nil)))))
theorem ok_show_rule (T : Ads) (X : Txt K mg T) : DefOk P w K mg base 3 T.f_show_rule T.d_show_rule ["rule"] (d_show_rule T) := by
  refine def_ok X.show_rule.F sc_show_rule fun cdv A outer s H E hr => ?_
  exact (dss_one (ds_ret (de_join (de_str [47]) (de_prop X.cl_Rule X.pr_Rule_rows (ok_Rule_rows T X) (hr.mono (by decide)) X.Rule_rows.B (de_var 0)))))
theorem ok_Rule___eq__ (T : Ads) (X : Txt K mg T) : DefOk P w K mg base 1 T.f_Rule___eq__ T.d_Rule___eq__ ["self", "other"] (d_Rule___eq__ T) := by
  refine def_ok X.Rule___eq__.F sc_Rule___eq__ fun cdv A outer s H E hr => ?_
  exact (dss_one (ds_ret (de_and (de_bltn call_isi (calld_iso X.io_Rule) (by decide +kernel) X.n_isinstance (da_cons (de_var 1) (da_cons (de_cls X.g_Rule) da_nil))) (de_one (de_eq hr (de_fld X.cl_Rule X.na_Rule_lines (de_var 0)) (de_fld X.cl_Rule X.na_Rule_lines (de_var 1)))))))
theorem ok__law_found (T : Ads) (X : Txt K mg T) : DefOk P w K mg base 6 T.f__law_found T.d__law_found ["line"] (d__law_found T) := by
  refine def_ok X._law_found.F sc__law_found fun cdv A outer s H E hr => ?_
  exact (dss_cons (ds_set sc__law_found.nd de_non)
 (dss_cons (ds_set sc__law_found.nd de_non)
 (dss_cons (ds_try rfl rfl sc__law_found.nd X.g_Unreadable X.ex_Unreadable takes_ok (fun _ _ _ tk' pp' => (dss_one (ds_asgX (dex_call tk' (ok_read_rule T X) (hr.mono (by decide)) X.read_rule.G X.read_rule.F.kp X.read_rule.B (da_cons (de_var 0) da_nil)) (dg_name sc__law_found.nd))))
 (fun a oe dd pn hz hv => (dss_one (ds_set sc__law_found.nd (de_tup (da_cons (de_str [98, 97, 100]) (da_cons (de_xf X.xf_Unreadable X.nv_Unreadable hz hv (de_var 3)) (da_cons (de_bltn (call_ix X.ix_Unreadable hz hv) (calld_ix X.ko_Unreadable_RungError) (by decide +kernel) X.n_isinstance (da_cons (de_var 3) (da_cons (de_cls X.g_RungError) da_nil))) da_nil))))))))
 (dss_cons (ds_if (dt_isN (de_var 2) de_non) (dss_one (ds_set sc__law_found.nd (de_tup (da_cons (de_str [103, 111, 111, 100]) (da_cons (de_prop X.cl_Rule X.pr_Rule_rows (ok_Rule_rows T X) (hr.mono (by decide)) X.Rule_rows.B (de_var 1)) (da_cons (de_and (de_eq hr (de_call (ok_show_rule T X) (hr.mono (by decide)) X.show_rule.G X.show_rule.F.kp X.show_rule.B (da_cons (de_var 1) da_nil)) (de_var 0)) (de_one (de_eqOwn (ok_Rule___eq__ T X) (hr.mono (by decide)) X.fi_Rule___eq__ X.fn_Rule___eq__ X.Rule___eq__.B (de_var 1) (de_call (ok_read_rule T X) (hr.mono (by decide)) X.read_rule.G X.read_rule.F.kp X.read_rule.B (da_cons (de_var 0) da_nil))))) da_nil)))))) dss_nil)
 (dss_one (ds_ret (de_var 2)))))))
theorem ok__law_same (T : Ads) (X : Txt K mg T) : ∀ n : Nat, DefOk P w K mg base (n + 1) T.f__law_same T.d__law_same ["found", "due"] (d__law_same T n)
 | 0 => ⟨fun vs H Q E h => (by obtain ⟨_, _, _, _, _, _, _, e, _⟩ := h; cases e), fun A st s H a us vs Q E hr e0 b r h => (by obtain ⟨_, _, _, _, _, _, _, e, _⟩ := h; cases e)⟩
 | n + 1 => by
  have ih := ok__law_same T X n
  refine def_ok X._law_same.F sc__law_same fun cdv A outer s H E hr => ?_
  exact (dss_cons (ds_if (dt_isN (de_var 1) de_non) (dss_one (ds_ret (de_isN (de_var 0) de_non))) dss_nil)
 (dss_cons (ds_if (dt_tru (de_bltn call_isi calld_isi (by decide +kernel) X.n_isinstance (da_cons (de_var 1) (da_cons (de_ty X.n_bool (by decide +kernel)) da_nil)))) (dss_one (ds_ret (de_and (de_bltn call_isi calld_isi (by decide +kernel) X.n_isinstance (da_cons (de_var 0) (da_cons (de_ty X.n_bool (by decide +kernel)) da_nil))) (de_one (de_eq hr (de_var 0) (de_var 1)))))) dss_nil)
 (dss_cons (ds_if (dt_tru (de_bltn call_isi calld_isi (by decide +kernel) X.n_isinstance (da_cons (de_var 1) (da_cons (de_ty X.n_int (by decide +kernel)) da_nil)))) (dss_one (ds_ret (de_and (de_bltn call_isi calld_isi (by decide +kernel) X.n_isinstance (da_cons (de_var 0) (da_cons (de_ty X.n_int (by decide +kernel)) da_nil))) (de_and (de_not (de_bltn call_isi calld_isi (by decide +kernel) X.n_isinstance (da_cons (de_var 0) (da_cons (de_ty X.n_bool (by decide +kernel)) da_nil)))) (de_one (de_eq hr (de_var 0) (de_var 1))))))) dss_nil)
 (dss_cons (ds_if (dt_tru (de_bltn call_isi calld_isi (by decide +kernel) X.n_isinstance (da_cons (de_var 1) (da_cons (de_ty X.n_str (by decide +kernel)) da_nil)))) (dss_one (ds_ret (de_and (de_bltn call_isi calld_isi (by decide +kernel) X.n_isinstance (da_cons (de_var 0) (da_cons (de_ty X.n_str (by decide +kernel)) da_nil))) (de_one (de_eq hr (de_var 0) (de_var 1)))))) dss_nil)
 (dss_cons (ds_if (dt_tru (de_bltn call_isi calld_isi (by decide +kernel) X.n_isinstance (da_cons (de_var 1) (da_cons (de_ty X.n_list (by decide +kernel)) da_nil)))) (dss_one (ds_if (dt_not (dt_tru (de_bltn call_isi calld_isi (by decide +kernel) X.n_isinstance (da_cons (de_var 0) (da_cons (de_ty X.n_list (by decide +kernel)) da_nil))))) (dss_one (ds_ret de_bl)) dss_nil)) (dss_one (ds_if (dt_not (dt_tru (de_bltn call_isi calld_isi (by decide +kernel) X.n_isinstance (da_cons (de_var 0) (da_cons (de_ty X.n_tuple (by decide +kernel)) da_nil))))) (dss_one (ds_ret de_bl)) dss_nil)))
 (dss_cons (ds_if (dt_ne hr (de_len X.n_len (da_cons (de_var 0) da_nil)) (de_len X.n_len (da_cons (de_var 1) da_nil))) (dss_one (ds_ret de_bl)) dss_nil)
 (dss_one (ds_ret (de_all rfl X.n_all (da_cons (de_df (df_comp rfl sc__law_same.nd (di_range1 X.n_range (de_len X.n_len (da_cons (de_var 1) da_nil))) (blk_mk (N' := N__law_same) (sc' := defScope (st__law_same)) (own := [("k", 2)]) rfl rfl (by decide +kernel)) (fun _ _ _ _ _ => (dgo_name sc__law_same.nd (by decide))) (fun _ _ _ _ _ => dts_nil) (fun _ _ _ _ _ => (de_call ih (hr.mono (by omega)) X._law_same.G X._law_same.F.kp X._law_same.B (da_cons (de_idx hr (de_var 0) (de_var 2)) (da_cons (de_idx hr (de_var 1) (de_var 2)) da_nil)))))) da_nil))))))))))
theorem ok_law (T : Ads) (X : Txt K mg T) : DefOk P w K mg base 7 T.f_law T.d_law ["script"] (d_law T) := by
  refine def_ok X.law.F sc_law fun cdv A outer s H E hr => ?_
  exact (dss_cons (ds_set sc_law.nd (de_call (ok__law_lines T X) (hr.mono (by decide)) X._law_lines.G X._law_lines.F.kp X._law_lines.B (da_cons (de_var 0) (da_cons de_int (da_cons de_int (da_cons de_int da_nil))))))
 (dss_cons (ds_if (dt_eq hr (de_idx hr (de_call (ok__law_draws T X) (hr.mono (by decide)) X._law_draws.G X._law_draws.F.kp X._law_draws.B (da_cons (de_var 0) (da_cons de_int (da_cons (de_df (df_lst (da_cons de_int da_nil))) da_nil)))) de_int) de_int) (dss_one (ds_set sc_law.nd (de_call (ok__law_large T X) (hr.mono (by decide)) X._law_large.G X._law_large.F.kp X._law_large.B (da_cons (de_var 0) (da_cons de_int da_nil))))) dss_nil)
 (dss_cons (ds_set sc_law.nd (de_join (de_str [47]) (de_var 1)))
 (dss_cons (ds_for pass_ok rfl (di_range2 X.n_range de_int (de_max2 rfl X.n_max (da_cons de_int (da_cons (de_min2 rfl X.n_min (da_cons (de_len X.n_len (da_cons (de_var 0) da_nil)) (da_cons de_int da_nil))) da_nil)))) (dg_name sc_law.nd)
 (dss_cons (ds_set sc_law.nd (de_call (ok__law_changed T X) (hr.mono (by decide)) X._law_changed.G X._law_changed.F.kp X._law_changed.B (da_cons (de_var 2) (da_cons (de_var 0) (da_cons (de_var 3) da_nil)))))
 (dss_cons (ds_if (dt_not (dt_tru (de_call (ok__law_same T X 4) (hr.mono (by decide)) X._law_same.G X._law_same.F.kp X._law_same.B (da_cons (de_call (ok__law_found T X) (hr.mono (by decide)) X._law_found.G X._law_found.F.kp X._law_found.B (da_cons (de_var 4) da_nil)) (da_cons (de_call (ok__law_due T X) (hr.mono (by decide)) X._law_due.G X._law_due.F.kp X._law_due.B (da_cons (de_var 4) da_nil)) da_nil))))) (dss_one (ds_ret de_bl)) dss_nil)
 (dss_one (ds_if (dt_not (dt_tru (de_call (ok__law_same T X 4) (hr.mono (by decide)) X._law_same.G X._law_same.F.kp X._law_same.B (da_cons (de_call (ok__law_found T X) (hr.mono (by decide)) X._law_found.G X._law_found.F.kp X._law_found.B (da_cons (de_var 2) da_nil)) (da_cons (de_tup (da_cons (de_str [103, 111, 111, 100]) (da_cons (de_var 1) (da_cons de_bl da_nil)))) da_nil))))) (dss_one (ds_ret de_bl)) dss_nil)))))
 (dss_one (ds_ret de_bl))))))
end
theorem all_mk {K : PySem.W.Frag} {h : Heap} {mg : Str → Option Value} {fa : Addr} (X : K.In h) (G : h.Ns mainGlobals mg) (hfa : mg "law" = some (.ref fa))
  {f_RungError___init__ : Addr} {od_RungError___init__ an_RungError___init__ : Option Addr} {sl_RungError___init__ : Array (Option Value)} {oc_RungError___init__ kV_RungError___init__ dc_RungError___init__ pm_RungError___init__ cd_RungError___init__ ct_RungError___init__ : Value}
  {f__law_cell : Addr} {od__law_cell an__law_cell : Option Addr} {sl__law_cell : Array (Option Value)} {oc__law_cell kV__law_cell dc__law_cell pm__law_cell cd__law_cell ct__law_cell : Value}
  {f__law_draws : Addr} {od__law_draws an__law_draws : Option Addr} {sl__law_draws : Array (Option Value)} {oc__law_draws kV__law_draws dc__law_draws pm__law_draws cd__law_draws ct__law_draws : Value}
  {f__law_lines : Addr} {od__law_lines an__law_lines : Option Addr} {sl__law_lines : Array (Option Value)} {oc__law_lines kV__law_lines dc__law_lines pm__law_lines cd__law_lines ct__law_lines : Value}
  {f__law_large : Addr} {od__law_large an__law_large : Option Addr} {sl__law_large : Array (Option Value)} {oc__law_large kV__law_large dc__law_large pm__law_large cd__law_large ct__law_large : Value}
  {f__law_sign : Addr} {od__law_sign an__law_sign : Option Addr} {sl__law_sign : Array (Option Value)} {oc__law_sign kV__law_sign dc__law_sign pm__law_sign cd__law_sign ct__law_sign : Value}
  {f__law_changed : Addr} {od__law_changed an__law_changed : Option Addr} {sl__law_changed : Array (Option Value)} {oc__law_changed kV__law_changed dc__law_changed pm__law_changed cd__law_changed ct__law_changed : Value}
  {f__law_is_row : Addr} {od__law_is_row an__law_is_row : Option Addr} {sl__law_is_row : Array (Option Value)} {oc__law_is_row kV__law_is_row dc__law_is_row pm__law_is_row cd__law_is_row ct__law_is_row : Value}
  {f__law_due : Addr} {od__law_due an__law_due : Option Addr} {sl__law_due : Array (Option Value)} {oc__law_due kV__law_due dc__law_due pm__law_due cd__law_due ct__law_due : Value}
  {f_is_row : Addr} {od_is_row an_is_row : Option Addr} {sl_is_row : Array (Option Value)} {oc_is_row kV_is_row dc_is_row pm_is_row cd_is_row ct_is_row : Value}
  {f_Rule___init__ : Addr} {od_Rule___init__ an_Rule___init__ : Option Addr} {sl_Rule___init__ : Array (Option Value)} {oc_Rule___init__ kV_Rule___init__ dc_Rule___init__ pm_Rule___init__ cd_Rule___init__ ct_Rule___init__ : Value}
  {f_read_rule : Addr} {od_read_rule an_read_rule : Option Addr} {sl_read_rule : Array (Option Value)} {oc_read_rule kV_read_rule dc_read_rule pm_read_rule cd_read_rule ct_read_rule : Value}
  {f_Rule_rows : Addr} {od_Rule_rows an_Rule_rows : Option Addr} {sl_Rule_rows : Array (Option Value)} {oc_Rule_rows kV_Rule_rows dc_Rule_rows pm_Rule_rows cd_Rule_rows ct_Rule_rows : Value}
  {f_show_rule : Addr} {od_show_rule an_show_rule : Option Addr} {sl_show_rule : Array (Option Value)} {oc_show_rule kV_show_rule dc_show_rule pm_show_rule cd_show_rule ct_show_rule : Value}
  {f_Rule___eq__ : Addr} {od_Rule___eq__ an_Rule___eq__ : Option Addr} {sl_Rule___eq__ : Array (Option Value)} {oc_Rule___eq__ kV_Rule___eq__ dc_Rule___eq__ pm_Rule___eq__ cd_Rule___eq__ ct_Rule___eq__ : Value}
  {f__law_found : Addr} {od__law_found an__law_found : Option Addr} {sl__law_found : Array (Option Value)} {oc__law_found kV__law_found dc__law_found pm__law_found cd__law_found ct__law_found : Value}
  {f__law_same : Addr} {od__law_same an__law_same : Option Addr} {sl__law_same : Array (Option Value)} {oc__law_same kV__law_same dc__law_same pm__law_same cd__law_same ct__law_same : Value}
  {f_law : Addr} {od_law an_law : Option Addr} {sl_law : Array (Option Value)} {oc_law kV_law dc_law pm_law cd_law ct_law : Value}
  {C_InvalidRow : Addr}
  {C_InvalidSize : Addr}
  {C_Rule : Addr}
  {C_RungError : Addr}
  {C_Unreadable : Addr}
  {p_Rule_rows : Addr} {r_Rule_rows : List Value}
  {nm_InvalidRow q_InvalidRow : Str} {N_InvalidRow : Addr} {bs_InvalidRow bm_InvalidRow : List Value} {sn_InvalidRow : List Str} {sub_InvalidRow : List Value} {ab_InvalidRow : Bool} {col_InvalidRow : Option Bool} {dd_InvalidRow : Option Addr} {m0_InvalidRow m1_InvalidRow m2_InvalidRow m3_InvalidRow m5_InvalidRow : Option Value}
  {nm_InvalidSize q_InvalidSize : Str} {N_InvalidSize : Addr} {bs_InvalidSize bm_InvalidSize : List Value} {sn_InvalidSize : List Str} {sub_InvalidSize : List Value} {ab_InvalidSize : Bool} {col_InvalidSize : Option Bool} {dd_InvalidSize : Option Addr} {m0_InvalidSize m1_InvalidSize m2_InvalidSize m3_InvalidSize m5_InvalidSize : Option Value}
  {nm_Unreadable q_Unreadable : Str} {N_Unreadable : Addr} {bs_Unreadable bm_Unreadable : List Value} {sn_Unreadable : List Str} {sub_Unreadable : List Value} {ab_Unreadable : Bool} {col_Unreadable : Option Bool} {dd_Unreadable : Option Addr} {m0_Unreadable m1_Unreadable m2_Unreadable m3_Unreadable m5_Unreadable : Option Value}
  (g_InvalidRow : PySem.W.nsIn K mainGlobals "InvalidRow" = some (some (.ref C_InvalidRow)))
  (g_InvalidSize : PySem.W.nsIn K mainGlobals "InvalidSize" = some (some (.ref C_InvalidSize)))
  (g_Rule : PySem.W.nsIn K mainGlobals "Rule" = some (some (.ref C_Rule)))
  (pg_Rule : PySem.W.plainGet K C_Rule Str.empty = true)
  (hd_Rule : PySem.W.hasDictIn K C_Rule = true)
  (po_Rule : PySem.W.plainOver K C_Rule = true)
  (sa_Rule : PySem.W.findIn K (.ref C_Rule) "__setattr__" = some (some (.builtin "object.__setattr__")))
  (g_RungError : PySem.W.nsIn K mainGlobals "RungError" = some (some (.ref C_RungError)))
  (g_Unreadable : PySem.W.nsIn K mainGlobals "Unreadable" = some (some (.ref C_Unreadable)))
  (na_Rule_lines : PySem.W.findIn K (.ref C_Rule) "lines" = some none)
  (pa_Rule_rows : PySem.W.findIn K (.ref C_Rule) "rows" = some (some (.ref p_Rule_rows)))
  (pb_Rule_rows : PySem.W.specialIn K (.ref p_Rule_rows) "__get__" = some (some (.builtin "property.__get__")))
  (pc_Rule_rows : PySem.W.takesIn K (.ref p_Rule_rows) = some true)
  (pd_Rule_rows : PySem.W.recIn K p_Rule_rows "property" = some (.ref f_Rule_rows :: r_Rule_rows))
  (n_all : PySem.W.nsIn K mainGlobals "all" = some none)
  (n_bool : PySem.W.nsIn K mainGlobals "bool" = some none)
  (n_int : PySem.W.nsIn K mainGlobals "int" = some none)
  (n_isinstance : PySem.W.nsIn K mainGlobals "isinstance" = some none)
  (n_len : PySem.W.nsIn K mainGlobals "len" = some none)
  (n_list : PySem.W.nsIn K mainGlobals "list" = some none)
  (n_max : PySem.W.nsIn K mainGlobals "max" = some none)
  (n_min : PySem.W.nsIn K mainGlobals "min" = some none)
  (n_range : PySem.W.nsIn K mainGlobals "range" = some none)
  (n_str : PySem.W.nsIn K mainGlobals "str" = some none)
  (n_tuple : PySem.W.nsIn K mainGlobals "tuple" = some none)
  (oc_n : PySem.W.specialIn K (.builtin "object.__class__") "__get__" = some (some (.builtin "getset_descriptor.__get__")))
  (oc_t : PySem.W.takesIn K (.builtin "object.__class__") = some true)
  (ia_Rule : PySem.W.findIn K (.ref C_Rule) "__class__" = some (some (.builtin "object.__class__")))
  (im_Rule : PySem.W.mroIn K C_Rule (.type "object") = some true)
  (eb_InvalidRow : PySem.W.subIn K (.ref C_InvalidRow) (.type "BaseException") = some true)
  (et_InvalidRow : PySem.W.typeIn K (.ref C_InvalidRow) = some (.type "type"))
  (nv_InvalidRow : PySem.W.findIn K (.ref C_InvalidRow) "value" = some none)
  (xl_InvalidRow : K.lookup C_InvalidRow = some (excClassObj nm_InvalidRow q_InvalidRow C_InvalidRow N_InvalidRow bs_InvalidRow bm_InvalidRow true sn_InvalidRow sub_InvalidRow ab_InvalidRow col_InvalidRow dd_InvalidRow m0_InvalidRow m1_InvalidRow m2_InvalidRow m3_InvalidRow m5_InvalidRow "ValueError.__new__"))
  (xb_InvalidRow : PySem.HandSPX.refsVE bm_InvalidRow = true)
  (xs_InvalidRow : PySem.W.findIn K (.ref C_InvalidRow) "__setattr__" = some (some (.builtin "object.__setattr__")))
  (xk_InvalidRow : PySem.W.keepIn K (.ref C_InvalidRow) = true)
  (eb_InvalidSize : PySem.W.subIn K (.ref C_InvalidSize) (.type "BaseException") = some true)
  (et_InvalidSize : PySem.W.typeIn K (.ref C_InvalidSize) = some (.type "type"))
  (nv_InvalidSize : PySem.W.findIn K (.ref C_InvalidSize) "value" = some none)
  (xl_InvalidSize : K.lookup C_InvalidSize = some (excClassObj nm_InvalidSize q_InvalidSize C_InvalidSize N_InvalidSize bs_InvalidSize bm_InvalidSize true sn_InvalidSize sub_InvalidSize ab_InvalidSize col_InvalidSize dd_InvalidSize m0_InvalidSize m1_InvalidSize m2_InvalidSize m3_InvalidSize m5_InvalidSize "ValueError.__new__"))
  (xb_InvalidSize : PySem.HandSPX.refsVE bm_InvalidSize = true)
  (xs_InvalidSize : PySem.W.findIn K (.ref C_InvalidSize) "__setattr__" = some (some (.builtin "object.__setattr__")))
  (xk_InvalidSize : PySem.W.keepIn K (.ref C_InvalidSize) = true)
  (eb_Unreadable : PySem.W.subIn K (.ref C_Unreadable) (.type "BaseException") = some true)
  (et_Unreadable : PySem.W.typeIn K (.ref C_Unreadable) = some (.type "type"))
  (nv_Unreadable : PySem.W.findIn K (.ref C_Unreadable) "value" = some none)
  (xl_Unreadable : K.lookup C_Unreadable = some (excClassObj nm_Unreadable q_Unreadable C_Unreadable N_Unreadable bs_Unreadable bm_Unreadable true sn_Unreadable sub_Unreadable ab_Unreadable col_Unreadable dd_Unreadable m0_Unreadable m1_Unreadable m2_Unreadable m3_Unreadable m5_Unreadable "ValueError.__new__"))
  (xb_Unreadable : PySem.HandSPX.refsVE bm_Unreadable = true)
  (xs_Unreadable : PySem.W.findIn K (.ref C_Unreadable) "__setattr__" = some (some (.builtin "object.__setattr__")))
  (xk_Unreadable : PySem.W.keepIn K (.ref C_Unreadable) = true)
  (ei_Unreadable : PySem.W.isClsIn K C_Unreadable = true)
  (es_Unreadable : PySem.W.subIn K (.ref C_Unreadable) (.ref C_Unreadable) = some true)
  (xg_Unreadable : PySem.W.findIn K (.ref C_Unreadable) "__getattribute__" = some (some (.builtin "BaseException.__getattribute__")))
  (xh_Unreadable : PySem.W.findIn K (.ref C_Unreadable) "__getattr__" = some none)
  (xd_Unreadable : PySem.W.hasDictIn K C_Unreadable = true)
  (ic_Unreadable : PySem.W.findIn K (.ref C_Unreadable) "__class__" = some (some (.builtin "object.__class__")))
  (ih_Unreadable : PySem.W.mroIn K C_Unreadable (.type "object") = some true)
  (ko1_RungError : PySem.W.isClsIn K C_RungError = true)
  (ko2_RungError : PySem.W.typeIn K (.ref C_RungError) = some (.type "type"))
  (ko3_Unreadable_RungError : PySem.W.subIn K (.ref C_Unreadable) (.ref C_RungError) = some true)
  (a_RungError___init__ : PySem.W.findIn K (.ref C_InvalidRow) "__init__" = some (some (.ref f_RungError___init__)))
  (l_RungError___init__ : K.lookup f_RungError___init__ = some ⟨oc_RungError___init__, od_RungError___init__, .func (PySem.W.fnOf "__init__" "RungError.__init__" (defArgs st_RungError___init__) (defBody st_RungError___init__) (defScope st_RungError___init__) .none kV_RungError___init__ dc_RungError___init__ pm_RungError___init__ an_RungError___init__ cd_RungError___init__ ct_RungError___init__), sl_RungError___init__⟩)
  (c_RungError___init__ : PySem.W.codeIn K cd_RungError___init__ "RungError.__init__" = true)
  (k_RungError___init__ : PySem.W.keepIn K (.ref f_RungError___init__) = true)
  (a__law_cell : PySem.W.nsIn K mainGlobals "_law_cell" = some (some (.ref f__law_cell)))
  (l__law_cell : K.lookup f__law_cell = some ⟨oc__law_cell, od__law_cell, .func (PySem.W.fnOf "_law_cell" "_law_cell" (defArgs st__law_cell) (defBody st__law_cell) (defScope st__law_cell) .none kV__law_cell dc__law_cell pm__law_cell an__law_cell cd__law_cell ct__law_cell), sl__law_cell⟩)
  (c__law_cell : PySem.W.codeIn K cd__law_cell "_law_cell" = true)
  (k__law_cell : PySem.W.keepIn K (.ref f__law_cell) = true)
  (a__law_draws : PySem.W.nsIn K mainGlobals "_law_draws" = some (some (.ref f__law_draws)))
  (l__law_draws : K.lookup f__law_draws = some ⟨oc__law_draws, od__law_draws, .func (PySem.W.fnOf "_law_draws" "_law_draws" (defArgs st__law_draws) (defBody st__law_draws) (defScope st__law_draws) .none kV__law_draws dc__law_draws pm__law_draws an__law_draws cd__law_draws ct__law_draws), sl__law_draws⟩)
  (c__law_draws : PySem.W.codeIn K cd__law_draws "_law_draws" = true)
  (k__law_draws : PySem.W.keepIn K (.ref f__law_draws) = true)
  (a__law_lines : PySem.W.nsIn K mainGlobals "_law_lines" = some (some (.ref f__law_lines)))
  (l__law_lines : K.lookup f__law_lines = some ⟨oc__law_lines, od__law_lines, .func (PySem.W.fnOf "_law_lines" "_law_lines" (defArgs st__law_lines) (defBody st__law_lines) (defScope st__law_lines) .none kV__law_lines dc__law_lines pm__law_lines an__law_lines cd__law_lines ct__law_lines), sl__law_lines⟩)
  (c__law_lines : PySem.W.codeIn K cd__law_lines "_law_lines" = true)
  (k__law_lines : PySem.W.keepIn K (.ref f__law_lines) = true)
  (a__law_large : PySem.W.nsIn K mainGlobals "_law_large" = some (some (.ref f__law_large)))
  (l__law_large : K.lookup f__law_large = some ⟨oc__law_large, od__law_large, .func (PySem.W.fnOf "_law_large" "_law_large" (defArgs st__law_large) (defBody st__law_large) (defScope st__law_large) .none kV__law_large dc__law_large pm__law_large an__law_large cd__law_large ct__law_large), sl__law_large⟩)
  (c__law_large : PySem.W.codeIn K cd__law_large "_law_large" = true)
  (k__law_large : PySem.W.keepIn K (.ref f__law_large) = true)
  (a__law_sign : PySem.W.nsIn K mainGlobals "_law_sign" = some (some (.ref f__law_sign)))
  (l__law_sign : K.lookup f__law_sign = some ⟨oc__law_sign, od__law_sign, .func (PySem.W.fnOf "_law_sign" "_law_sign" (defArgs st__law_sign) (defBody st__law_sign) (defScope st__law_sign) .none kV__law_sign dc__law_sign pm__law_sign an__law_sign cd__law_sign ct__law_sign), sl__law_sign⟩)
  (c__law_sign : PySem.W.codeIn K cd__law_sign "_law_sign" = true)
  (k__law_sign : PySem.W.keepIn K (.ref f__law_sign) = true)
  (a__law_changed : PySem.W.nsIn K mainGlobals "_law_changed" = some (some (.ref f__law_changed)))
  (l__law_changed : K.lookup f__law_changed = some ⟨oc__law_changed, od__law_changed, .func (PySem.W.fnOf "_law_changed" "_law_changed" (defArgs st__law_changed) (defBody st__law_changed) (defScope st__law_changed) .none kV__law_changed dc__law_changed pm__law_changed an__law_changed cd__law_changed ct__law_changed), sl__law_changed⟩)
  (c__law_changed : PySem.W.codeIn K cd__law_changed "_law_changed" = true)
  (k__law_changed : PySem.W.keepIn K (.ref f__law_changed) = true)
  (a__law_is_row : PySem.W.nsIn K mainGlobals "_law_is_row" = some (some (.ref f__law_is_row)))
  (l__law_is_row : K.lookup f__law_is_row = some ⟨oc__law_is_row, od__law_is_row, .func (PySem.W.fnOf "_law_is_row" "_law_is_row" (defArgs st__law_is_row) (defBody st__law_is_row) (defScope st__law_is_row) .none kV__law_is_row dc__law_is_row pm__law_is_row an__law_is_row cd__law_is_row ct__law_is_row), sl__law_is_row⟩)
  (c__law_is_row : PySem.W.codeIn K cd__law_is_row "_law_is_row" = true)
  (k__law_is_row : PySem.W.keepIn K (.ref f__law_is_row) = true)
  (a__law_due : PySem.W.nsIn K mainGlobals "_law_due" = some (some (.ref f__law_due)))
  (l__law_due : K.lookup f__law_due = some ⟨oc__law_due, od__law_due, .func (PySem.W.fnOf "_law_due" "_law_due" (defArgs st__law_due) (defBody st__law_due) (defScope st__law_due) .none kV__law_due dc__law_due pm__law_due an__law_due cd__law_due ct__law_due), sl__law_due⟩)
  (c__law_due : PySem.W.codeIn K cd__law_due "_law_due" = true)
  (k__law_due : PySem.W.keepIn K (.ref f__law_due) = true)
  (a_is_row : PySem.W.nsIn K mainGlobals "is_row" = some (some (.ref f_is_row)))
  (l_is_row : K.lookup f_is_row = some ⟨oc_is_row, od_is_row, .func (PySem.W.fnOf "is_row" "is_row" (defArgs st_is_row) (defBody st_is_row) (defScope st_is_row) .none kV_is_row dc_is_row pm_is_row an_is_row cd_is_row ct_is_row), sl_is_row⟩)
  (c_is_row : PySem.W.codeIn K cd_is_row "is_row" = true)
  (k_is_row : PySem.W.keepIn K (.ref f_is_row) = true)
  (a_Rule___init__ : PySem.W.findIn K (.ref C_Rule) "__init__" = some (some (.ref f_Rule___init__)))
  (l_Rule___init__ : K.lookup f_Rule___init__ = some ⟨oc_Rule___init__, od_Rule___init__, .func (PySem.W.fnOf "__init__" "Rule.__init__" (defArgs st_Rule___init__) (defBody st_Rule___init__) (defScope st_Rule___init__) .none kV_Rule___init__ dc_Rule___init__ pm_Rule___init__ an_Rule___init__ cd_Rule___init__ ct_Rule___init__), sl_Rule___init__⟩)
  (c_Rule___init__ : PySem.W.codeIn K cd_Rule___init__ "Rule.__init__" = true)
  (k_Rule___init__ : PySem.W.keepIn K (.ref f_Rule___init__) = true)
  (a_read_rule : PySem.W.nsIn K mainGlobals "read_rule" = some (some (.ref f_read_rule)))
  (l_read_rule : K.lookup f_read_rule = some ⟨oc_read_rule, od_read_rule, .func (PySem.W.fnOf "read_rule" "read_rule" (defArgs st_read_rule) (defBody st_read_rule) (defScope st_read_rule) .none kV_read_rule dc_read_rule pm_read_rule an_read_rule cd_read_rule ct_read_rule), sl_read_rule⟩)
  (c_read_rule : PySem.W.codeIn K cd_read_rule "read_rule" = true)
  (k_read_rule : PySem.W.keepIn K (.ref f_read_rule) = true)
  (l_Rule_rows : K.lookup f_Rule_rows = some ⟨oc_Rule_rows, od_Rule_rows, .func (PySem.W.fnOf "rows" "Rule.rows" (defArgs st_Rule_rows) (defBody st_Rule_rows) (defScope st_Rule_rows) .none kV_Rule_rows dc_Rule_rows pm_Rule_rows an_Rule_rows cd_Rule_rows ct_Rule_rows), sl_Rule_rows⟩)
  (c_Rule_rows : PySem.W.codeIn K cd_Rule_rows "Rule.rows" = true)
  (k_Rule_rows : PySem.W.keepIn K (.ref f_Rule_rows) = true)
  (a_show_rule : PySem.W.nsIn K mainGlobals "show_rule" = some (some (.ref f_show_rule)))
  (l_show_rule : K.lookup f_show_rule = some ⟨oc_show_rule, od_show_rule, .func (PySem.W.fnOf "show_rule" "show_rule" (defArgs st_show_rule) (defBody st_show_rule) (defScope st_show_rule) .none kV_show_rule dc_show_rule pm_show_rule an_show_rule cd_show_rule ct_show_rule), sl_show_rule⟩)
  (c_show_rule : PySem.W.codeIn K cd_show_rule "show_rule" = true)
  (k_show_rule : PySem.W.keepIn K (.ref f_show_rule) = true)
  (a_Rule___eq__ : PySem.W.findIn K (.ref C_Rule) "__eq__" = some (some (.ref f_Rule___eq__)))
  (l_Rule___eq__ : K.lookup f_Rule___eq__ = some ⟨oc_Rule___eq__, od_Rule___eq__, .func (PySem.W.fnOf "__eq__" "Rule.__eq__" (defArgs st_Rule___eq__) (defBody st_Rule___eq__) (defScope st_Rule___eq__) .none kV_Rule___eq__ dc_Rule___eq__ pm_Rule___eq__ an_Rule___eq__ cd_Rule___eq__ ct_Rule___eq__), sl_Rule___eq__⟩)
  (c_Rule___eq__ : PySem.W.codeIn K cd_Rule___eq__ "Rule.__eq__" = true)
  (k_Rule___eq__ : PySem.W.keepIn K (.ref f_Rule___eq__) = true)
  (a__law_found : PySem.W.nsIn K mainGlobals "_law_found" = some (some (.ref f__law_found)))
  (l__law_found : K.lookup f__law_found = some ⟨oc__law_found, od__law_found, .func (PySem.W.fnOf "_law_found" "_law_found" (defArgs st__law_found) (defBody st__law_found) (defScope st__law_found) .none kV__law_found dc__law_found pm__law_found an__law_found cd__law_found ct__law_found), sl__law_found⟩)
  (c__law_found : PySem.W.codeIn K cd__law_found "_law_found" = true)
  (k__law_found : PySem.W.keepIn K (.ref f__law_found) = true)
  (a__law_same : PySem.W.nsIn K mainGlobals "_law_same" = some (some (.ref f__law_same)))
  (l__law_same : K.lookup f__law_same = some ⟨oc__law_same, od__law_same, .func (PySem.W.fnOf "_law_same" "_law_same" (defArgs st__law_same) (defBody st__law_same) (defScope st__law_same) .none kV__law_same dc__law_same pm__law_same an__law_same cd__law_same ct__law_same), sl__law_same⟩)
  (c__law_same : PySem.W.codeIn K cd__law_same "_law_same" = true)
  (k__law_same : PySem.W.keepIn K (.ref f__law_same) = true)
  (a_law : PySem.W.nsIn K mainGlobals "law" = some (some (.ref f_law)))
  (l_law : K.lookup f_law = some ⟨oc_law, od_law, .func (PySem.W.fnOf "law" "law" (defArgs st_law) (defBody st_law) (defScope st_law) .none kV_law dc_law pm_law an_law cd_law ct_law), sl_law⟩)
  (c_law : PySem.W.codeIn K cd_law "law" = true)
  (k_law : PySem.W.keepIn K (.ref f_law) = true)
  (fi_Rule___eq__ : PySem.W.findIn K (.ref C_Rule) "__eq__" = some (some (.ref f_Rule___eq__)))
  (fn_Rule___eq__ : PySem.W.isFn K (.ref f_Rule___eq__) = true)
  (mm_Rule : PySem.W.makesIn K C_Rule = true)
  (mi_Rule : PySem.W.findIn K (.ref C_Rule) "__init__" = some (some (.ref f_Rule___init__)))
  (mf_Rule : PySem.W.isFn K (.ref f_Rule___init__) = true)
  (mk_Rule : PySem.W.keepIn K (.ref C_Rule) = true)
  (xi_InvalidRow : PySem.W.findIn K (.ref C_InvalidRow) "__init__" = some (some (.ref f_RungError___init__)))
  (xt_InvalidRow : PySem.W.typeIn K (.ref f_RungError___init__) = some (.type "function"))
  (xi_InvalidSize : PySem.W.findIn K (.ref C_InvalidSize) "__init__" = some (some (.ref f_RungError___init__)))
  (xt_InvalidSize : PySem.W.typeIn K (.ref f_RungError___init__) = some (.type "function"))
  (xi_Unreadable : PySem.W.findIn K (.ref C_Unreadable) "__init__" = some (some (.ref f_RungError___init__)))
  (xt_Unreadable : PySem.W.typeIn K (.ref f_RungError___init__) = some (.type "function")) :
  ∃ T : Ads, Txt K mg T ∧ T.f_law = fa ∧ ∀ (s : Shared) (v : Value), BindsTo s T.d_law ⟨[v], []⟩ [("script", v)] := by
  have e := hfa.symm.trans (PySem.W.mg_of X G a_law)
  cases e
  exact ⟨{ f_RungError___init__ := f_RungError___init__, d_RungError___init__ := PySem.W.fnOf "__init__" "RungError.__init__" (defArgs st_RungError___init__) (defBody st_RungError___init__) (defScope st_RungError___init__) .none kV_RungError___init__ dc_RungError___init__ pm_RungError___init__ an_RungError___init__ cd_RungError___init__ ct_RungError___init__, f__law_cell := f__law_cell, d__law_cell := PySem.W.fnOf "_law_cell" "_law_cell" (defArgs st__law_cell) (defBody st__law_cell) (defScope st__law_cell) .none kV__law_cell dc__law_cell pm__law_cell an__law_cell cd__law_cell ct__law_cell, f__law_draws := f__law_draws, d__law_draws := PySem.W.fnOf "_law_draws" "_law_draws" (defArgs st__law_draws) (defBody st__law_draws) (defScope st__law_draws) .none kV__law_draws dc__law_draws pm__law_draws an__law_draws cd__law_draws ct__law_draws, f__law_lines := f__law_lines, d__law_lines := PySem.W.fnOf "_law_lines" "_law_lines" (defArgs st__law_lines) (defBody st__law_lines) (defScope st__law_lines) .none kV__law_lines dc__law_lines pm__law_lines an__law_lines cd__law_lines ct__law_lines, f__law_large := f__law_large, d__law_large := PySem.W.fnOf "_law_large" "_law_large" (defArgs st__law_large) (defBody st__law_large) (defScope st__law_large) .none kV__law_large dc__law_large pm__law_large an__law_large cd__law_large ct__law_large, f__law_sign := f__law_sign, d__law_sign := PySem.W.fnOf "_law_sign" "_law_sign" (defArgs st__law_sign) (defBody st__law_sign) (defScope st__law_sign) .none kV__law_sign dc__law_sign pm__law_sign an__law_sign cd__law_sign ct__law_sign, f__law_changed := f__law_changed, d__law_changed := PySem.W.fnOf "_law_changed" "_law_changed" (defArgs st__law_changed) (defBody st__law_changed) (defScope st__law_changed) .none kV__law_changed dc__law_changed pm__law_changed an__law_changed cd__law_changed ct__law_changed, f__law_is_row := f__law_is_row, d__law_is_row := PySem.W.fnOf "_law_is_row" "_law_is_row" (defArgs st__law_is_row) (defBody st__law_is_row) (defScope st__law_is_row) .none kV__law_is_row dc__law_is_row pm__law_is_row an__law_is_row cd__law_is_row ct__law_is_row, f__law_due := f__law_due, d__law_due := PySem.W.fnOf "_law_due" "_law_due" (defArgs st__law_due) (defBody st__law_due) (defScope st__law_due) .none kV__law_due dc__law_due pm__law_due an__law_due cd__law_due ct__law_due, f_is_row := f_is_row, d_is_row := PySem.W.fnOf "is_row" "is_row" (defArgs st_is_row) (defBody st_is_row) (defScope st_is_row) .none kV_is_row dc_is_row pm_is_row an_is_row cd_is_row ct_is_row, f_Rule___init__ := f_Rule___init__, d_Rule___init__ := PySem.W.fnOf "__init__" "Rule.__init__" (defArgs st_Rule___init__) (defBody st_Rule___init__) (defScope st_Rule___init__) .none kV_Rule___init__ dc_Rule___init__ pm_Rule___init__ an_Rule___init__ cd_Rule___init__ ct_Rule___init__, f_read_rule := f_read_rule, d_read_rule := PySem.W.fnOf "read_rule" "read_rule" (defArgs st_read_rule) (defBody st_read_rule) (defScope st_read_rule) .none kV_read_rule dc_read_rule pm_read_rule an_read_rule cd_read_rule ct_read_rule, f_Rule_rows := f_Rule_rows, d_Rule_rows := PySem.W.fnOf "rows" "Rule.rows" (defArgs st_Rule_rows) (defBody st_Rule_rows) (defScope st_Rule_rows) .none kV_Rule_rows dc_Rule_rows pm_Rule_rows an_Rule_rows cd_Rule_rows ct_Rule_rows, f_show_rule := f_show_rule, d_show_rule := PySem.W.fnOf "show_rule" "show_rule" (defArgs st_show_rule) (defBody st_show_rule) (defScope st_show_rule) .none kV_show_rule dc_show_rule pm_show_rule an_show_rule cd_show_rule ct_show_rule, f_Rule___eq__ := f_Rule___eq__, d_Rule___eq__ := PySem.W.fnOf "__eq__" "Rule.__eq__" (defArgs st_Rule___eq__) (defBody st_Rule___eq__) (defScope st_Rule___eq__) .none kV_Rule___eq__ dc_Rule___eq__ pm_Rule___eq__ an_Rule___eq__ cd_Rule___eq__ ct_Rule___eq__, f__law_found := f__law_found, d__law_found := PySem.W.fnOf "_law_found" "_law_found" (defArgs st__law_found) (defBody st__law_found) (defScope st__law_found) .none kV__law_found dc__law_found pm__law_found an__law_found cd__law_found ct__law_found, f__law_same := f__law_same, d__law_same := PySem.W.fnOf "_law_same" "_law_same" (defArgs st__law_same) (defBody st__law_same) (defScope st__law_same) .none kV__law_same dc__law_same pm__law_same an__law_same cd__law_same ct__law_same, f_law := fa, d_law := PySem.W.fnOf "law" "law" (defArgs st_law) (defBody st_law) (defScope st_law) .none kV_law dc_law pm_law an_law cd_law ct_law, C_InvalidRow := C_InvalidRow, C_InvalidSize := C_InvalidSize, C_Rule := C_Rule, C_RungError := C_RungError, C_Unreadable := C_Unreadable, p_Rule_rows := p_Rule_rows }, { RungError___init__ := ⟨fun_mk (st := st_RungError___init__) l_RungError___init__ c_RungError___init__ k_RungError___init__, (fun_mk (st := st_RungError___init__) l_RungError___init__ c_RungError___init__ k_RungError___init__).binds (ps := ["self", "value"]) fun _ _ _ _ _ _ us hl => match us, hl with | [_, _], _ => rfl⟩, _law_cell := ⟨fun_mk (st := st__law_cell) l__law_cell c__law_cell k__law_cell, (fun_mk (st := st__law_cell) l__law_cell c__law_cell k__law_cell).binds (ps := ["script", "at"]) fun _ _ _ _ _ _ us hl => match us, hl with | [_, _], _ => rfl, PySem.W.mg_of X G a__law_cell⟩, _law_draws := ⟨fun_mk (st := st__law_draws) l__law_draws c__law_draws k__law_draws, (fun_mk (st := st__law_draws) l__law_draws c__law_draws k__law_draws).binds (ps := ["script", "at", "limits"]) fun _ _ _ _ _ _ us hl => match us, hl with | [_, _, _], _ => rfl, PySem.W.mg_of X G a__law_draws⟩, _law_lines := ⟨fun_mk (st := st__law_lines) l__law_lines c__law_lines k__law_lines, (fun_mk (st := st__law_lines) l__law_lines c__law_lines k__law_lines).binds (ps := ["script", "at", "wide", "high"]) fun _ _ _ _ _ _ us hl => match us, hl with | [_, _, _, _], _ => rfl, PySem.W.mg_of X G a__law_lines⟩, _law_large := ⟨fun_mk (st := st__law_large) l__law_large c__law_large k__law_large, (fun_mk (st := st__law_large) l__law_large c__law_large k__law_large).binds (ps := ["script", "at"]) fun _ _ _ _ _ _ us hl => match us, hl with | [_, _], _ => rfl, PySem.W.mg_of X G a__law_large⟩, _law_sign := ⟨fun_mk (st := st__law_sign) l__law_sign c__law_sign k__law_sign, (fun_mk (st := st__law_sign) l__law_sign c__law_sign k__law_sign).binds (ps := ["number"]) fun _ _ _ _ _ _ us hl => match us, hl with | [_], _ => rfl, PySem.W.mg_of X G a__law_sign⟩, _law_changed := ⟨fun_mk (st := st__law_changed) l__law_changed c__law_changed k__law_changed, (fun_mk (st := st__law_changed) l__law_changed c__law_changed k__law_changed).binds (ps := ["line", "script", "at"]) fun _ _ _ _ _ _ us hl => match us, hl with | [_, _, _], _ => rfl, PySem.W.mg_of X G a__law_changed⟩, _law_is_row := ⟨fun_mk (st := st__law_is_row) l__law_is_row c__law_is_row k__law_is_row, (fun_mk (st := st__law_is_row) l__law_is_row c__law_is_row k__law_is_row).binds (ps := ["line"]) fun _ _ _ _ _ _ us hl => match us, hl with | [_], _ => rfl, PySem.W.mg_of X G a__law_is_row⟩, _law_due := ⟨fun_mk (st := st__law_due) l__law_due c__law_due k__law_due, (fun_mk (st := st__law_due) l__law_due c__law_due k__law_due).binds (ps := ["line"]) fun _ _ _ _ _ _ us hl => match us, hl with | [_], _ => rfl, PySem.W.mg_of X G a__law_due⟩, is_row := ⟨fun_mk (st := st_is_row) l_is_row c_is_row k_is_row, (fun_mk (st := st_is_row) l_is_row c_is_row k_is_row).binds (ps := ["text"]) fun _ _ _ _ _ _ us hl => match us, hl with | [_], _ => rfl, PySem.W.mg_of X G a_is_row⟩, Rule___init__ := ⟨fun_mk (st := st_Rule___init__) l_Rule___init__ c_Rule___init__ k_Rule___init__, (fun_mk (st := st_Rule___init__) l_Rule___init__ c_Rule___init__ k_Rule___init__).binds (ps := ["self", "texts"]) fun _ _ _ _ _ _ us hl => match us, hl with | [_, _], _ => rfl⟩, read_rule := ⟨fun_mk (st := st_read_rule) l_read_rule c_read_rule k_read_rule, (fun_mk (st := st_read_rule) l_read_rule c_read_rule k_read_rule).binds (ps := ["text"]) fun _ _ _ _ _ _ us hl => match us, hl with | [_], _ => rfl, PySem.W.mg_of X G a_read_rule⟩, Rule_rows := ⟨fun_mk (st := st_Rule_rows) l_Rule_rows c_Rule_rows k_Rule_rows, (fun_mk (st := st_Rule_rows) l_Rule_rows c_Rule_rows k_Rule_rows).binds (ps := ["self"]) fun _ _ _ _ _ _ us hl => match us, hl with | [_], _ => rfl⟩, show_rule := ⟨fun_mk (st := st_show_rule) l_show_rule c_show_rule k_show_rule, (fun_mk (st := st_show_rule) l_show_rule c_show_rule k_show_rule).binds (ps := ["rule"]) fun _ _ _ _ _ _ us hl => match us, hl with | [_], _ => rfl, PySem.W.mg_of X G a_show_rule⟩, Rule___eq__ := ⟨fun_mk (st := st_Rule___eq__) l_Rule___eq__ c_Rule___eq__ k_Rule___eq__, (fun_mk (st := st_Rule___eq__) l_Rule___eq__ c_Rule___eq__ k_Rule___eq__).binds (ps := ["self", "other"]) fun _ _ _ _ _ _ us hl => match us, hl with | [_, _], _ => rfl⟩, _law_found := ⟨fun_mk (st := st__law_found) l__law_found c__law_found k__law_found, (fun_mk (st := st__law_found) l__law_found c__law_found k__law_found).binds (ps := ["line"]) fun _ _ _ _ _ _ us hl => match us, hl with | [_], _ => rfl, PySem.W.mg_of X G a__law_found⟩, _law_same := ⟨fun_mk (st := st__law_same) l__law_same c__law_same k__law_same, (fun_mk (st := st__law_same) l__law_same c__law_same k__law_same).binds (ps := ["found", "due"]) fun _ _ _ _ _ _ us hl => match us, hl with | [_, _], _ => rfl, PySem.W.mg_of X G a__law_same⟩, law := ⟨fun_mk (st := st_law) l_law c_law k_law, (fun_mk (st := st_law) l_law c_law k_law).binds (ps := ["script"]) fun _ _ _ _ _ _ us hl => match us, hl with | [_], _ => rfl, PySem.W.mg_of X G a_law⟩, g_InvalidRow := PySem.W.mg_of X G g_InvalidRow, g_InvalidSize := PySem.W.mg_of X G g_InvalidSize, g_Rule := PySem.W.mg_of X G g_Rule, cl_Rule := ⟨pg_Rule, hd_Rule, po_Rule, sa_Rule⟩, g_RungError := PySem.W.mg_of X G g_RungError, g_Unreadable := PySem.W.mg_of X G g_Unreadable, na_Rule_lines := na_Rule_lines, pr_Rule_rows := ⟨pa_Rule_rows, pb_Rule_rows, pc_Rule_rows, ⟨_, pd_Rule_rows⟩⟩, fi_Rule___eq__ := fi_Rule___eq__, fn_Rule___eq__ := fn_Rule___eq__, mk_Rule := ⟨mm_Rule, mi_Rule, mf_Rule, mk_Rule⟩, n_all := PySem.W.mg_none_of X G n_all, n_bool := PySem.W.mg_none_of X G n_bool, n_int := PySem.W.mg_none_of X G n_int, n_isinstance := PySem.W.mg_none_of X G n_isinstance, n_len := PySem.W.mg_none_of X G n_len, n_list := PySem.W.mg_none_of X G n_list, n_max := PySem.W.mg_none_of X G n_max, n_min := PySem.W.mg_none_of X G n_min, n_range := PySem.W.mg_none_of X G n_range, n_str := PySem.W.mg_none_of X G n_str, n_tuple := PySem.W.mg_none_of X G n_tuple, io_Rule := ⟨⟨pg_Rule, hd_Rule, po_Rule, sa_Rule⟩, ia_Rule, oc_n, oc_t, im_Rule⟩, er_InvalidRow := ⟨⟨⟨nm_InvalidRow, q_InvalidRow, N_InvalidRow, bs_InvalidRow, bm_InvalidRow, sn_InvalidRow, sub_InvalidRow, ab_InvalidRow, col_InvalidRow, dd_InvalidRow, m0_InvalidRow, m1_InvalidRow, m2_InvalidRow, m3_InvalidRow, m5_InvalidRow, xl_InvalidRow, xb_InvalidRow⟩, xs_InvalidRow, eb_InvalidRow, et_InvalidRow, xk_InvalidRow⟩, nv_InvalidRow, xi_InvalidRow, xt_InvalidRow⟩, er_InvalidSize := ⟨⟨⟨nm_InvalidSize, q_InvalidSize, N_InvalidSize, bs_InvalidSize, bm_InvalidSize, sn_InvalidSize, sub_InvalidSize, ab_InvalidSize, col_InvalidSize, dd_InvalidSize, m0_InvalidSize, m1_InvalidSize, m2_InvalidSize, m3_InvalidSize, m5_InvalidSize, xl_InvalidSize, xb_InvalidSize⟩, xs_InvalidSize, eb_InvalidSize, et_InvalidSize, xk_InvalidSize⟩, nv_InvalidSize, xi_InvalidSize, xt_InvalidSize⟩, er_Unreadable := ⟨⟨⟨nm_Unreadable, q_Unreadable, N_Unreadable, bs_Unreadable, bm_Unreadable, sn_Unreadable, sub_Unreadable, ab_Unreadable, col_Unreadable, dd_Unreadable, m0_Unreadable, m1_Unreadable, m2_Unreadable, m3_Unreadable, m5_Unreadable, xl_Unreadable, xb_Unreadable⟩, xs_Unreadable, eb_Unreadable, et_Unreadable, xk_Unreadable⟩, nv_Unreadable, xi_Unreadable, xt_Unreadable⟩, ex_Unreadable := exm_own eb_Unreadable ei_Unreadable et_Unreadable es_Unreadable, xf_Unreadable := ⟨xg_Unreadable, xh_Unreadable, eb_Unreadable, xd_Unreadable⟩, nv_Unreadable := nv_Unreadable, ix_Unreadable := ⟨ei_Unreadable, xg_Unreadable, xh_Unreadable, eb_Unreadable, ic_Unreadable, oc_n, oc_t, ih_Unreadable⟩, ko_Unreadable_RungError := kit_own ko1_RungError ko2_RungError ko3_Unreadable_RungError }, rfl, fun s v => .of_eq rfl⟩
end K84
end
section
namespace K84
open PySem Dx
open L2 (atI ixN)
def cellF (ns : List Int) (a : Nat) : Int := (if ns.getD a 0 < 0 then 1 - 2 * ns.getD a 0 else ns.getD a 0) % 1000000000000000000000000000000000000000000000000000000000000000000000000000000000000000000000000000000000000000000000000
theorem cell_low (ns : List Int) (a : Nat) : 0 ≤ cellF ns a := Int.emod_nonneg _ (by decide)
theorem m__law_cell (T : Ads) (ns : List Int) (a : Nat) (s : Sto) : d__law_cell T [.scr ns, .int a] s = some (.ret (.int (cellF ns a)), s) := by
  refine ev_funE (r := .int (cellF ns a)) rfl ?_ (take_self s) rfl
  simp only [env0, List.map_cons, List.map_nil, List.length_cons, List.length_nil, List.replicate_succ, List.replicate_zero, List.cons_append, List.nil_append, Nat.reduceAdd, Nat.reduceSub]
  have hd : ¬ a < ns.length → ns.getD a 0 = 0 := fun h => by simp [List.getD, List.getElem?_eq_none (Nat.le_of_not_lt h)]
  have h1 : a < ns.length → atI ns (a : Int) = some (ns.getD a 0) := fun h => at_nat (by simp [List.getD, h])
  unfold cellF
  generalize ns.getD a 0 = c at h1 hd ⊢
  by_cases h : a < ns.length
  · have h1 := h1 h
    by_cases h2 : c < 0
    · simp -implicitDefEqProofs (maxSteps := 1000000) only [ev_seq, seqK_nx, seqK_rt, seqK_ex, seqK_bk, seqK_ct, ev_skip, ev_brk, ev_cont, ev_asg, ev_gN, ev_if, ev_ret, ev_expr, ev_raise, ev_new, ev_par, parK_ev, ev_tst, tstK_bl, ev_tru, ev_andT, ev_orT, ev_notT, ev_andE, ev_orE, ev_notE, ev_ifE, ev_V, varK_ev, ev_C, ev_op, ev_opF, ev_nil, ev_cons, ev_data, ev_lst, ev_tup, ev_CB, ev_CBF, ev_call, outK_ev, ev_neg, negK_ev, ev_so, soK_ev, ev_no, ev_slc, ev_slcF, fz_non, fz_bl, fz_int, fz_str, fz_scr, fz_lst, fz_tup, fz_obj, fz_exn, fz_last, fz_mid, fz_lastI, fz_lastF, vw_non, vw_bl, vw_int, vw_str, vw_scr, vw_lst, vw_tup, vw_obj, vw_ty, vw_cls, vw_exn, vw_last, vw_mid, vw_lastI, vw_lastF, st_last, st_set, st_take, st_mid, st_mset, st_mtake, add_int, add_str, add_lst, addL_lst, sub_int, mul_r, mul_l, mul_str, mul_lst, mulL_lst, div_int, mod_int, pow_18, pow_60, lt_int, le_int, gt_int, ge_int, eq_int, eq_str, ne_int, ne_str, eq_bl, isN_non, isN_tup, isN_lst, isN_str, isN_int, isN_bl, len_str, len_lst, len_tup, len_scr, int_int, max_int, min_int, tru_bl, tru_non, tru_int, tru_str, tru_lst, ix_lst, ix_tup, ix_scr, ix_str, Option.map_some, Option.map_none, slc_str, slc_lst, Option.bind_some, Option.bind_none, List.getElem?_cons_zero, List.getElem?_cons_succ, List.set_cons_zero, List.set_cons_succ, List.map_cons, List.map_nil, if_true, if_false, ite_true, ite_false, Bool.false_eq_true, decide_true, decide_false, Bool.not_true, Bool.not_false, reduceIte, sl_eq, eq_self, Nat.zero_le, List.length_cons, List.length_nil, List.length_map, ite_self, Int.natAbs_natCast, isObj_ev, ev_fld, fldK_obj, getF_hit, ev_prop, ev_own, ok_bl, ok_obj, list_lst, iso_ev, ev_asgX, asgX_ret, asgX_exc, ev_callX, i_non_bool, i_non_int, i_non_str, i_non_list, i_non_tuple, i_bl_bool, i_bl_int, i_bl_str, i_bl_list, i_bl_tuple, i_int_bool, i_int_int, i_int_str, i_int_list, i_int_tuple, i_str_bool, i_str_int, i_str_str, i_str_list, i_str_tuple, i_lst_bool, i_lst_int, i_lst_str, i_lst_list, i_lst_tuple, i_tup_bool, i_tup_int, i_tup_str, i_tup_list, i_tup_tuple, ev_appB, Int.reduceAbs, Nat.reduceLT, Nat.reduceLeDiff, Int.reduceLT, Int.reduceLE, Int.reduceEq, Int.reduceNe, Int.reduceAdd, Int.reduceSub, Int.reduceMul, Int.reduceNeg, Int.reduceMod, Int.reduceDiv, Nat.reduceAdd, Nat.reduceSub, Nat.reduceMul, Nat.reduceEqDiff, Int.reduceToNat, Nat.reduceGT, Int.reduceGT, Int.reduceGE, Nat.reduceMod, Nat.reduceDiv, Nat.reduceBEq, Nat.reduceBNe, Int.reduceBEq, Int.reduceBNe, appK_last, appK_mid, ev_sb, sbK_at, ev_gcons, ev_gnil, h, h1, h2, Int.ofNat_lt, h1]
      exact ⟨_, rfl⟩
    · simp -implicitDefEqProofs (maxSteps := 1000000) only [ev_seq, seqK_nx, seqK_rt, seqK_ex, seqK_bk, seqK_ct, ev_skip, ev_brk, ev_cont, ev_asg, ev_gN, ev_if, ev_ret, ev_expr, ev_raise, ev_new, ev_par, parK_ev, ev_tst, tstK_bl, ev_tru, ev_andT, ev_orT, ev_notT, ev_andE, ev_orE, ev_notE, ev_ifE, ev_V, varK_ev, ev_C, ev_op, ev_opF, ev_nil, ev_cons, ev_data, ev_lst, ev_tup, ev_CB, ev_CBF, ev_call, outK_ev, ev_neg, negK_ev, ev_so, soK_ev, ev_no, ev_slc, ev_slcF, fz_non, fz_bl, fz_int, fz_str, fz_scr, fz_lst, fz_tup, fz_obj, fz_exn, fz_last, fz_mid, fz_lastI, fz_lastF, vw_non, vw_bl, vw_int, vw_str, vw_scr, vw_lst, vw_tup, vw_obj, vw_ty, vw_cls, vw_exn, vw_last, vw_mid, vw_lastI, vw_lastF, st_last, st_set, st_take, st_mid, st_mset, st_mtake, add_int, add_str, add_lst, addL_lst, sub_int, mul_r, mul_l, mul_str, mul_lst, mulL_lst, div_int, mod_int, pow_18, pow_60, lt_int, le_int, gt_int, ge_int, eq_int, eq_str, ne_int, ne_str, eq_bl, isN_non, isN_tup, isN_lst, isN_str, isN_int, isN_bl, len_str, len_lst, len_tup, len_scr, int_int, max_int, min_int, tru_bl, tru_non, tru_int, tru_str, tru_lst, ix_lst, ix_tup, ix_scr, ix_str, Option.map_some, Option.map_none, slc_str, slc_lst, Option.bind_some, Option.bind_none, List.getElem?_cons_zero, List.getElem?_cons_succ, List.set_cons_zero, List.set_cons_succ, List.map_cons, List.map_nil, if_true, if_false, ite_true, ite_false, Bool.false_eq_true, decide_true, decide_false, Bool.not_true, Bool.not_false, reduceIte, sl_eq, eq_self, Nat.zero_le, List.length_cons, List.length_nil, List.length_map, ite_self, Int.natAbs_natCast, isObj_ev, ev_fld, fldK_obj, getF_hit, ev_prop, ev_own, ok_bl, ok_obj, list_lst, iso_ev, ev_asgX, asgX_ret, asgX_exc, ev_callX, i_non_bool, i_non_int, i_non_str, i_non_list, i_non_tuple, i_bl_bool, i_bl_int, i_bl_str, i_bl_list, i_bl_tuple, i_int_bool, i_int_int, i_int_str, i_int_list, i_int_tuple, i_str_bool, i_str_int, i_str_str, i_str_list, i_str_tuple, i_lst_bool, i_lst_int, i_lst_str, i_lst_list, i_lst_tuple, i_tup_bool, i_tup_int, i_tup_str, i_tup_list, i_tup_tuple, ev_appB, Int.reduceAbs, Nat.reduceLT, Nat.reduceLeDiff, Int.reduceLT, Int.reduceLE, Int.reduceEq, Int.reduceNe, Int.reduceAdd, Int.reduceSub, Int.reduceMul, Int.reduceNeg, Int.reduceMod, Int.reduceDiv, Nat.reduceAdd, Nat.reduceSub, Nat.reduceMul, Nat.reduceEqDiff, Int.reduceToNat, Nat.reduceGT, Int.reduceGT, Int.reduceGE, Nat.reduceMod, Nat.reduceDiv, Nat.reduceBEq, Nat.reduceBNe, Int.reduceBEq, Int.reduceBNe, appK_last, appK_mid, ev_sb, sbK_at, ev_gcons, ev_gnil, h, h1, h2, Int.ofNat_lt, h1]
      exact ⟨_, rfl⟩
  · have e := hd h
    subst e
    simp -implicitDefEqProofs (maxSteps := 1000000) only [ev_seq, seqK_nx, seqK_rt, seqK_ex, seqK_bk, seqK_ct, ev_skip, ev_brk, ev_cont, ev_asg, ev_gN, ev_if, ev_ret, ev_expr, ev_raise, ev_new, ev_par, parK_ev, ev_tst, tstK_bl, ev_tru, ev_andT, ev_orT, ev_notT, ev_andE, ev_orE, ev_notE, ev_ifE, ev_V, varK_ev, ev_C, ev_op, ev_opF, ev_nil, ev_cons, ev_data, ev_lst, ev_tup, ev_CB, ev_CBF, ev_call, outK_ev, ev_neg, negK_ev, ev_so, soK_ev, ev_no, ev_slc, ev_slcF, fz_non, fz_bl, fz_int, fz_str, fz_scr, fz_lst, fz_tup, fz_obj, fz_exn, fz_last, fz_mid, fz_lastI, fz_lastF, vw_non, vw_bl, vw_int, vw_str, vw_scr, vw_lst, vw_tup, vw_obj, vw_ty, vw_cls, vw_exn, vw_last, vw_mid, vw_lastI, vw_lastF, st_last, st_set, st_take, st_mid, st_mset, st_mtake, add_int, add_str, add_lst, addL_lst, sub_int, mul_r, mul_l, mul_str, mul_lst, mulL_lst, div_int, mod_int, pow_18, pow_60, lt_int, le_int, gt_int, ge_int, eq_int, eq_str, ne_int, ne_str, eq_bl, isN_non, isN_tup, isN_lst, isN_str, isN_int, isN_bl, len_str, len_lst, len_tup, len_scr, int_int, max_int, min_int, tru_bl, tru_non, tru_int, tru_str, tru_lst, ix_lst, ix_tup, ix_scr, ix_str, Option.map_some, Option.map_none, slc_str, slc_lst, Option.bind_some, Option.bind_none, List.getElem?_cons_zero, List.getElem?_cons_succ, List.set_cons_zero, List.set_cons_succ, List.map_cons, List.map_nil, if_true, if_false, ite_true, ite_false, Bool.false_eq_true, decide_true, decide_false, Bool.not_true, Bool.not_false, reduceIte, sl_eq, eq_self, Nat.zero_le, List.length_cons, List.length_nil, List.length_map, ite_self, Int.natAbs_natCast, isObj_ev, ev_fld, fldK_obj, getF_hit, ev_prop, ev_own, ok_bl, ok_obj, list_lst, iso_ev, ev_asgX, asgX_ret, asgX_exc, ev_callX, i_non_bool, i_non_int, i_non_str, i_non_list, i_non_tuple, i_bl_bool, i_bl_int, i_bl_str, i_bl_list, i_bl_tuple, i_int_bool, i_int_int, i_int_str, i_int_list, i_int_tuple, i_str_bool, i_str_int, i_str_str, i_str_list, i_str_tuple, i_lst_bool, i_lst_int, i_lst_str, i_lst_list, i_lst_tuple, i_tup_bool, i_tup_int, i_tup_str, i_tup_list, i_tup_tuple, ev_appB, Int.reduceAbs, Nat.reduceLT, Nat.reduceLeDiff, Int.reduceLT, Int.reduceLE, Int.reduceEq, Int.reduceNe, Int.reduceAdd, Int.reduceSub, Int.reduceMul, Int.reduceNeg, Int.reduceMod, Int.reduceDiv, Nat.reduceAdd, Nat.reduceSub, Nat.reduceMul, Nat.reduceEqDiff, Int.reduceToNat, Nat.reduceGT, Int.reduceGT, Int.reduceGE, Nat.reduceMod, Nat.reduceDiv, Nat.reduceBEq, Nat.reduceBNe, Int.reduceBEq, Int.reduceBNe, appK_last, appK_mid, ev_sb, sbK_at, ev_gcons, ev_gnil, h, Int.ofNat_lt, Int.lt_irrefl]
    exact ⟨_, rfl⟩
def stirF (cell at_ : Int) (k : Nat) : Int :=
  ((cell * 40014 + ((k : Int) + 3) * ((k : Int) + 3) * 16807 + at_ * 65539) % 2147483563 * ((cell * 40014 + ((k : Int) + 3) * ((k : Int) + 3) * 16807 + at_ * 65539) % 2147483563) + (k : Int) * 69621 + 271) % 2147483399 / 7
/-- a turn of draws: the rest, what is drawn -/
def drStep (cell at_ : Int) (st : Nat × Int × List Int) (l : Int) : Nat × Int × List Int :=
  if 1000000000000000000 ≤ cell then (st.1 + 1, st.2.1 / l, st.2.2 ++ [st.2.1 % l]) else (st.1 + 1, st.2.1, st.2.2 ++ [stirF cell at_ st.1 % l])
def drRun (cell at_ : Int) (lims : List Int) : Nat × Int × List Int := lims.foldl (drStep cell at_) (0, cell - 1000000000000000000, [])
def drawsF (ns : List Int) (a : Nat) (lims : List Int) : List Int := (drRun (cellF ns a) a lims).2.2
theorem foldl_take_succ {α β : Type} (f : β → α → β) (b : β) {l : List α} {i : Nat} {x : α} (h : l[i]? = some x) : (l.take (i + 1)).foldl f b = f ((l.take i).foldl f b) x := by
  rw [List.take_succ, h, List.foldl_append]
  rfl
theorem drStep_fst (cell at_ : Int) (st : Nat × Int × List Int) (l : Int) : (drStep cell at_ st l).1 = st.1 + 1 := by
  unfold drStep; split <;> rfl
theorem drStep_len (cell at_ : Int) (st : Nat × Int × List Int) (l : Int) : (drStep cell at_ st l).2.2.length = st.2.2.length + 1 := by
  unfold drStep; split <;> simp
theorem drFold (cell at_ : Int) : ∀ (lims : List Int) (st : Nat × Int × List Int), (lims.foldl (drStep cell at_) st).1 = st.1 + lims.length ∧ (lims.foldl (drStep cell at_) st).2.2.length = st.2.2.length + lims.length ∧
    ((∀ l ∈ lims, 0 < l) → ∀ (i : Nat) (l : Int), lims[i]? = some l → ∃ d, (lims.foldl (drStep cell at_) st).2.2[st.2.2.length + i]? = some d ∧ 0 ≤ d ∧ d < l) ∧ (∀ i, i < st.2.2.length → (lims.foldl (drStep cell at_) st).2.2[i]? = st.2.2[i]?)
  | [], st => by simp
  | l :: ls, st => by
    obtain ⟨h1, h2, h3, h4⟩ := drFold cell at_ ls (drStep cell at_ st l)
    rw [List.foldl_cons]
    refine ⟨by rw [h1, drStep_fst]; simp; omega, by rw [h2, drStep_len]; simp; omega, fun hp i l' hi => ?_, fun i hi => ?_⟩
    · cases i with
      | zero =>
        simp only [List.getElem?_cons_zero] at hi
        cases hi
        rw [h4 _ (by rw [drStep_len]; omega)]
        have h0 : 0 < l := hp l List.mem_cons_self
        unfold drStep
        split
        · exact ⟨_, by simp; rfl, Int.emod_nonneg _ (by omega), Int.emod_lt_of_pos _ h0⟩
        · exact ⟨_, by simp; rfl, Int.emod_nonneg _ (by omega), Int.emod_lt_of_pos _ h0⟩
      | succ i =>
        have := h3 (fun l hl => hp l (List.mem_cons_of_mem _ hl)) i l' (by simpa using hi)
        rw [drStep_len] at this
        rw [show st.2.2.length + (i + 1) = st.2.2.length + 1 + i by omega]
        exact this
    · rw [h4 i (by rw [drStep_len]; omega)]
      unfold drStep
      split <;> · simp only; rw [List.getElem?_append_left hi]
theorem draws_len (ns : List Int) (a : Nat) (lims : List Int) : (drawsF ns a lims).length = lims.length := by
  unfold drawsF drRun
  rw [(drFold _ _ lims _).2.1]
  simp
theorem draws_get (ns : List Int) (a : Nat) {lims : List Int} (hp : ∀ l ∈ lims, 0 < l) {i : Nat} {l : Int} (hi : lims[i]? = some l) : ∃ d, (drawsF ns a lims)[i]? = some d ∧ 0 ≤ d ∧ d < l := by
  have := (drFold (cellF ns a) a lims (0, cellF ns a - 1000000000000000000, [])).2.2.1 hp i l hi
  simpa [drawsF, drRun] using this
def drI (ns : List Int) (a : Nat) (c : Int) (lims : List Int) (s : Sto) (i : Nat) (env : DEnv) (s' : Sto) : Prop :=
  ∃ x y, env = [some (.scr ns), some (.int a), some (.lst (lims.map D.int)), some (.int c), some (.int (drRun c a (lims.take i)).2.1), some (.cell s.length), x, y] ∧ s' = s ++ [.lst ((drRun c a (lims.take i)).2.2.map D.int)]
theorem drRun_0 (c a : Int) (lims : List Int) : drRun c a (lims.take 0) = (0, c - 1000000000000000000, []) := by
  unfold drRun
  rw [List.take_zero, List.foldl_nil]
theorem m__law_draws (T : Ads) (ns : List Int) (a : Nat) (lims : List Int) (s : Sto) (hl : ∀ l ∈ lims, 0 < l ∧ l < 18446744073709551616) (hn : lims.length ≤ 1000000) :
    d__law_draws T [.scr ns, .int a, .lst (lims.map D.int)] s = some (.ret (.lst ((drawsF ns a lims).map D.int)), s) := by
  refine ev_funE (r := .cell s.length) (s' := s ++ [.lst ((drawsF ns a lims).map D.int)]) rfl ?_ st_take (setl_last (bnds_ints _))
  simp only [env0, List.map_cons, List.map_nil, List.length_cons, List.length_nil, List.replicate_succ, List.replicate_zero, List.cons_append, List.nil_append, Nat.reduceAdd, Nat.reduceSub]
  unfold drawsF
  have hc := cell_low ns a
  have hcell := m__law_cell T ns a
  generalize cellF ns a = c at hc hcell ⊢
  simp -implicitDefEqProofs (maxSteps := 1000000) only [ev_seq, seqK_nx, seqK_rt, seqK_ex, seqK_bk, seqK_ct, ev_skip, ev_brk, ev_cont, ev_asg, ev_gN, ev_if, ev_ret, ev_expr, ev_raise, ev_new, ev_par, parK_ev, ev_tst, tstK_bl, ev_tru, ev_andT, ev_orT, ev_notT, ev_andE, ev_orE, ev_notE, ev_ifE, ev_V, varK_ev, ev_C, ev_op, ev_opF, ev_nil, ev_cons, ev_data, ev_lst, ev_tup, ev_CB, ev_CBF, ev_call, outK_ev, ev_neg, negK_ev, ev_so, soK_ev, ev_no, ev_slc, ev_slcF, fz_non, fz_bl, fz_int, fz_str, fz_scr, fz_lst, fz_tup, fz_obj, fz_exn, fz_last, fz_mid, fz_lastI, fz_lastF, vw_non, vw_bl, vw_int, vw_str, vw_scr, vw_lst, vw_tup, vw_obj, vw_ty, vw_cls, vw_exn, vw_last, vw_mid, vw_lastI, vw_lastF, st_last, st_set, st_take, st_mid, st_mset, st_mtake, add_int, add_str, add_lst, addL_lst, sub_int, mul_r, mul_l, mul_str, mul_lst, mulL_lst, div_int, mod_int, pow_18, pow_60, lt_int, le_int, gt_int, ge_int, eq_int, eq_str, ne_int, ne_str, eq_bl, isN_non, isN_tup, isN_lst, isN_str, isN_int, isN_bl, len_str, len_lst, len_tup, len_scr, int_int, max_int, min_int, tru_bl, tru_non, tru_int, tru_str, tru_lst, ix_lst, ix_tup, ix_scr, ix_str, Option.map_some, Option.map_none, slc_str, slc_lst, Option.bind_some, Option.bind_none, List.getElem?_cons_zero, List.getElem?_cons_succ, List.set_cons_zero, List.set_cons_succ, List.map_cons, List.map_nil, if_true, if_false, ite_true, ite_false, Bool.false_eq_true, decide_true, decide_false, Bool.not_true, Bool.not_false, reduceIte, sl_eq, eq_self, Nat.zero_le, List.length_cons, List.length_nil, List.length_map, ite_self, Int.natAbs_natCast, isObj_ev, ev_fld, fldK_obj, getF_hit, ev_prop, ev_own, ok_bl, ok_obj, list_lst, iso_ev, ev_asgX, asgX_ret, asgX_exc, ev_callX, i_non_bool, i_non_int, i_non_str, i_non_list, i_non_tuple, i_bl_bool, i_bl_int, i_bl_str, i_bl_list, i_bl_tuple, i_int_bool, i_int_int, i_int_str, i_int_list, i_int_tuple, i_str_bool, i_str_int, i_str_str, i_str_list, i_str_tuple, i_lst_bool, i_lst_int, i_lst_str, i_lst_list, i_lst_tuple, i_tup_bool, i_tup_int, i_tup_str, i_tup_list, i_tup_tuple, ev_appB, Int.reduceAbs, Nat.reduceLT, Nat.reduceLeDiff, Int.reduceLT, Int.reduceLE, Int.reduceEq, Int.reduceNe, Int.reduceAdd, Int.reduceSub, Int.reduceMul, Int.reduceNeg, Int.reduceMod, Int.reduceDiv, Nat.reduceAdd, Nat.reduceSub, Nat.reduceMul, Nat.reduceEqDiff, Int.reduceToNat, Nat.reduceGT, Int.reduceGT, Int.reduceGE, Nat.reduceMod, Nat.reduceDiv, Nat.reduceBEq, Nat.reduceBNe, Int.reduceBEq, Int.reduceBNe, appK_last, appK_mid, ev_sb, sbK_at, ev_gcons, ev_gnil, hcell]
  rw [ev_for, ev_R1 (n := (lims.length : Int)) (s1 := s ++ [.lst []]) (by simp -implicitDefEqProofs (maxSteps := 1000000) only [ev_seq, seqK_nx, seqK_rt, seqK_ex, seqK_bk, seqK_ct, ev_skip, ev_brk, ev_cont, ev_asg, ev_gN, ev_if, ev_ret, ev_expr, ev_raise, ev_new, ev_par, parK_ev, ev_tst, tstK_bl, ev_tru, ev_andT, ev_orT, ev_notT, ev_andE, ev_orE, ev_notE, ev_ifE, ev_V, varK_ev, ev_C, ev_op, ev_opF, ev_nil, ev_cons, ev_data, ev_lst, ev_tup, ev_CB, ev_CBF, ev_call, outK_ev, ev_neg, negK_ev, ev_so, soK_ev, ev_no, ev_slc, ev_slcF, fz_non, fz_bl, fz_int, fz_str, fz_scr, fz_lst, fz_tup, fz_obj, fz_exn, fz_last, fz_mid, fz_lastI, fz_lastF, vw_non, vw_bl, vw_int, vw_str, vw_scr, vw_lst, vw_tup, vw_obj, vw_ty, vw_cls, vw_exn, vw_last, vw_mid, vw_lastI, vw_lastF, st_last, st_set, st_take, st_mid, st_mset, st_mtake, add_int, add_str, add_lst, addL_lst, sub_int, mul_r, mul_l, mul_str, mul_lst, mulL_lst, div_int, mod_int, pow_18, pow_60, lt_int, le_int, gt_int, ge_int, eq_int, eq_str, ne_int, ne_str, eq_bl, isN_non, isN_tup, isN_lst, isN_str, isN_int, isN_bl, len_str, len_lst, len_tup, len_scr, int_int, max_int, min_int, tru_bl, tru_non, tru_int, tru_str, tru_lst, ix_lst, ix_tup, ix_scr, ix_str, Option.map_some, Option.map_none, slc_str, slc_lst, Option.bind_some, Option.bind_none, List.getElem?_cons_zero, List.getElem?_cons_succ, List.set_cons_zero, List.set_cons_succ, List.map_cons, List.map_nil, if_true, if_false, ite_true, ite_false, Bool.false_eq_true, decide_true, decide_false, Bool.not_true, Bool.not_false, reduceIte, sl_eq, eq_self, Nat.zero_le, List.length_cons, List.length_nil, List.length_map, ite_self, Int.natAbs_natCast, isObj_ev, ev_fld, fldK_obj, getF_hit, ev_prop, ev_own, ok_bl, ok_obj, list_lst, iso_ev, ev_asgX, asgX_ret, asgX_exc, ev_callX, i_non_bool, i_non_int, i_non_str, i_non_list, i_non_tuple, i_bl_bool, i_bl_int, i_bl_str, i_bl_list, i_bl_tuple, i_int_bool, i_int_int, i_int_str, i_int_list, i_int_tuple, i_str_bool, i_str_int, i_str_str, i_str_list, i_str_tuple, i_lst_bool, i_lst_int, i_lst_str, i_lst_list, i_lst_tuple, i_tup_bool, i_tup_int, i_tup_str, i_tup_list, i_tup_tuple, ev_appB, Int.reduceAbs, Nat.reduceLT, Nat.reduceLeDiff, Int.reduceLT, Int.reduceLE, Int.reduceEq, Int.reduceNe, Int.reduceAdd, Int.reduceSub, Int.reduceMul, Int.reduceNeg, Int.reduceMod, Int.reduceDiv, Nat.reduceAdd, Nat.reduceSub, Nat.reduceMul, Nat.reduceEqDiff, Int.reduceToNat, Nat.reduceGT, Int.reduceGT, Int.reduceGE, Nat.reduceMod, Nat.reduceDiv, Nat.reduceBEq, Nat.reduceBNe, Int.reduceBEq, Int.reduceBNe, appK_last, appK_mid, ev_sb, sbK_at, ev_gcons, ev_gnil]) (by omega) (by omega)]
  simp only [Option.bind_some, Int.toNat_natCast]
  obtain ⟨env', s', e, hI⟩ := for_all (g := gN 6) (b := b1__law_draws T) (gd := none) (drI ns a c lims s) (items := rangeL 0 lims.length) 0 (env := [some (.scr ns), some (.int a), some (.lst (lims.map D.int)), some (.int c), some (.int (c - 1000000000000000000)), some (.cell s.length), none, none]) (s := s ++ [.lst []]) ⟨none, none, by rw [drRun_0], by rw [drRun_0, List.map_nil]⟩ (fun _ _ _ _ => trivial) (by
    rintro i d env s' hi ⟨x, y, rfl, rfl⟩
    obtain ⟨hlt, rfl⟩ := range_get hi
    obtain ⟨l, hlm⟩ : ∃ l, lims[i]? = some l := ⟨lims[i], List.getElem?_eq_getElem hlt⟩
    obtain ⟨hl0, hl1⟩ := hl l (List.mem_of_getElem? hlm)
    unfold drI
    have hdr : drRun c a (lims.take (0 + i + 1)) = drStep c a (drRun c a (lims.take (0 + i))) l := by
      unfold drRun
      rw [Nat.zero_add]
      exact foldl_take_succ _ _ hlm
    have hfst : (drRun c a (lims.take (0 + i))).1 = i := by
      unfold drRun
      rw [(drFold _ _ _ _).1]
      simp
      omega
    have hlen : (drRun c a (lims.take (0 + i))).2.2.length = i := by
      unfold drRun
      rw [(drFold _ _ _ _).2.1]
      simp
      omega
    rw [hdr]
    generalize drRun c a (lims.take (0 + i)) = st at hfst hlen ⊢
    obtain ⟨k, rest, dr⟩ := st
    simp only at hfst hlen
    subst hfst
    have hat : atI (lims.map D.int) (k : Int) = some (.int l) := at_nat (by rw [List.getElem?_map, hlm]; rfl)
    have hk3 : ((k : Int) + 3).natAbs < 18446744073709551616 := by omega
    have hk1 : (k : Int).natAbs < 18446744073709551616 := by omega
    have hs1 : ((c * 40014 + ((k : Int) + 3) * ((k : Int) + 3) * 16807 + (a : Int) * 65539) % 2147483563).natAbs < 18446744073709551616 := by omega
    have hdl : dr.length < 16777216 := by omega
    have hl2 := hl1
    refine ⟨_, _, rfl, ?_⟩
    unfold b1__law_draws
    by_cases hbig : 1000000000000000000 ≤ c
    · have hst : drStep c a (k, rest, dr) l = (k + 1, rest / l, dr ++ [rest % l]) := by
        unfold drStep
        rw [if_pos hbig]
      simp -implicitDefEqProofs (maxSteps := 1000000) only [ev_seq, seqK_nx, seqK_rt, seqK_ex, seqK_bk, seqK_ct, ev_skip, ev_brk, ev_cont, ev_asg, ev_gN, ev_if, ev_ret, ev_expr, ev_raise, ev_new, ev_par, parK_ev, ev_tst, tstK_bl, ev_tru, ev_andT, ev_orT, ev_notT, ev_andE, ev_orE, ev_notE, ev_ifE, ev_V, varK_ev, ev_C, ev_op, ev_opF, ev_nil, ev_cons, ev_data, ev_lst, ev_tup, ev_CB, ev_CBF, ev_call, outK_ev, ev_neg, negK_ev, ev_so, soK_ev, ev_no, ev_slc, ev_slcF, fz_non, fz_bl, fz_int, fz_str, fz_scr, fz_lst, fz_tup, fz_obj, fz_exn, fz_last, fz_mid, fz_lastI, fz_lastF, vw_non, vw_bl, vw_int, vw_str, vw_scr, vw_lst, vw_tup, vw_obj, vw_ty, vw_cls, vw_exn, vw_last, vw_mid, vw_lastI, vw_lastF, st_last, st_set, st_take, st_mid, st_mset, st_mtake, add_int, add_str, add_lst, addL_lst, sub_int, mul_r, mul_l, mul_str, mul_lst, mulL_lst, div_int, mod_int, pow_18, pow_60, lt_int, le_int, gt_int, ge_int, eq_int, eq_str, ne_int, ne_str, eq_bl, isN_non, isN_tup, isN_lst, isN_str, isN_int, isN_bl, len_str, len_lst, len_tup, len_scr, int_int, max_int, min_int, tru_bl, tru_non, tru_int, tru_str, tru_lst, ix_lst, ix_tup, ix_scr, ix_str, Option.map_some, Option.map_none, slc_str, slc_lst, Option.bind_some, Option.bind_none, List.getElem?_cons_zero, List.getElem?_cons_succ, List.set_cons_zero, List.set_cons_succ, List.map_cons, List.map_nil, if_true, if_false, ite_true, ite_false, Bool.false_eq_true, decide_true, decide_false, Bool.not_true, Bool.not_false, reduceIte, sl_eq, eq_self, Nat.zero_le, List.length_cons, List.length_nil, List.length_map, ite_self, Int.natAbs_natCast, isObj_ev, ev_fld, fldK_obj, getF_hit, ev_prop, ev_own, ok_bl, ok_obj, list_lst, iso_ev, ev_asgX, asgX_ret, asgX_exc, ev_callX, i_non_bool, i_non_int, i_non_str, i_non_list, i_non_tuple, i_bl_bool, i_bl_int, i_bl_str, i_bl_list, i_bl_tuple, i_int_bool, i_int_int, i_int_str, i_int_list, i_int_tuple, i_str_bool, i_str_int, i_str_str, i_str_list, i_str_tuple, i_lst_bool, i_lst_int, i_lst_str, i_lst_list, i_lst_tuple, i_tup_bool, i_tup_int, i_tup_str, i_tup_list, i_tup_tuple, ev_appB, Int.reduceAbs, Nat.reduceLT, Nat.reduceLeDiff, Int.reduceLT, Int.reduceLE, Int.reduceEq, Int.reduceNe, Int.reduceAdd, Int.reduceSub, Int.reduceMul, Int.reduceNeg, Int.reduceMod, Int.reduceDiv, Nat.reduceAdd, Nat.reduceSub, Nat.reduceMul, Nat.reduceEqDiff, Int.reduceToNat, Nat.reduceGT, Int.reduceGT, Int.reduceGE, Nat.reduceMod, Nat.reduceDiv, Nat.reduceBEq, Nat.reduceBNe, Int.reduceBEq, Int.reduceBNe, appK_last, appK_mid, ev_sb, sbK_at, ev_gcons, ev_gnil, Int.zero_add, hat, hk3, hk1, hs1, hbig, hl0, hdl, hl2, hst]
      refine ⟨_, _, .inl rfl, _, _, rfl, ?_⟩
      simp only [List.map_append, List.map_cons, List.map_nil]
    · have hst : drStep c a (k, rest, dr) l = (k + 1, rest, dr ++ [stirF c a k % l]) := by
        unfold drStep
        rw [if_neg hbig]
      simp -implicitDefEqProofs (maxSteps := 1000000) only [ev_seq, seqK_nx, seqK_rt, seqK_ex, seqK_bk, seqK_ct, ev_skip, ev_brk, ev_cont, ev_asg, ev_gN, ev_if, ev_ret, ev_expr, ev_raise, ev_new, ev_par, parK_ev, ev_tst, tstK_bl, ev_tru, ev_andT, ev_orT, ev_notT, ev_andE, ev_orE, ev_notE, ev_ifE, ev_V, varK_ev, ev_C, ev_op, ev_opF, ev_nil, ev_cons, ev_data, ev_lst, ev_tup, ev_CB, ev_CBF, ev_call, outK_ev, ev_neg, negK_ev, ev_so, soK_ev, ev_no, ev_slc, ev_slcF, fz_non, fz_bl, fz_int, fz_str, fz_scr, fz_lst, fz_tup, fz_obj, fz_exn, fz_last, fz_mid, fz_lastI, fz_lastF, vw_non, vw_bl, vw_int, vw_str, vw_scr, vw_lst, vw_tup, vw_obj, vw_ty, vw_cls, vw_exn, vw_last, vw_mid, vw_lastI, vw_lastF, st_last, st_set, st_take, st_mid, st_mset, st_mtake, add_int, add_str, add_lst, addL_lst, sub_int, mul_r, mul_l, mul_str, mul_lst, mulL_lst, div_int, mod_int, pow_18, pow_60, lt_int, le_int, gt_int, ge_int, eq_int, eq_str, ne_int, ne_str, eq_bl, isN_non, isN_tup, isN_lst, isN_str, isN_int, isN_bl, len_str, len_lst, len_tup, len_scr, int_int, max_int, min_int, tru_bl, tru_non, tru_int, tru_str, tru_lst, ix_lst, ix_tup, ix_scr, ix_str, Option.map_some, Option.map_none, slc_str, slc_lst, Option.bind_some, Option.bind_none, List.getElem?_cons_zero, List.getElem?_cons_succ, List.set_cons_zero, List.set_cons_succ, List.map_cons, List.map_nil, if_true, if_false, ite_true, ite_false, Bool.false_eq_true, decide_true, decide_false, Bool.not_true, Bool.not_false, reduceIte, sl_eq, eq_self, Nat.zero_le, List.length_cons, List.length_nil, List.length_map, ite_self, Int.natAbs_natCast, isObj_ev, ev_fld, fldK_obj, getF_hit, ev_prop, ev_own, ok_bl, ok_obj, list_lst, iso_ev, ev_asgX, asgX_ret, asgX_exc, ev_callX, i_non_bool, i_non_int, i_non_str, i_non_list, i_non_tuple, i_bl_bool, i_bl_int, i_bl_str, i_bl_list, i_bl_tuple, i_int_bool, i_int_int, i_int_str, i_int_list, i_int_tuple, i_str_bool, i_str_int, i_str_str, i_str_list, i_str_tuple, i_lst_bool, i_lst_int, i_lst_str, i_lst_list, i_lst_tuple, i_tup_bool, i_tup_int, i_tup_str, i_tup_list, i_tup_tuple, ev_appB, Int.reduceAbs, Nat.reduceLT, Nat.reduceLeDiff, Int.reduceLT, Int.reduceLE, Int.reduceEq, Int.reduceNe, Int.reduceAdd, Int.reduceSub, Int.reduceMul, Int.reduceNeg, Int.reduceMod, Int.reduceDiv, Nat.reduceAdd, Nat.reduceSub, Nat.reduceMul, Nat.reduceEqDiff, Int.reduceToNat, Nat.reduceGT, Int.reduceGT, Int.reduceGE, Nat.reduceMod, Nat.reduceDiv, Nat.reduceBEq, Nat.reduceBNe, Int.reduceBEq, Int.reduceBNe, appK_last, appK_mid, ev_sb, sbK_at, ev_gcons, ev_gnil, Int.zero_add, hat, hk3, hk1, hs1, hbig, hl0, hdl, hl2, hst]
      refine ⟨_, _, .inl rfl, _, _, rfl, ?_⟩
      simp only [List.map_append, List.map_cons, List.map_nil, stirF])
  unfold drI at hI
  rw [range_len, Nat.zero_add, List.take_length] at hI
  obtain ⟨x, y, rfl, rfl⟩ := hI
  rw [e]
  simp -implicitDefEqProofs (maxSteps := 1000000) only [ev_seq, seqK_nx, seqK_rt, seqK_ex, seqK_bk, seqK_ct, ev_skip, ev_brk, ev_cont, ev_asg, ev_gN, ev_if, ev_ret, ev_expr, ev_raise, ev_new, ev_par, parK_ev, ev_tst, tstK_bl, ev_tru, ev_andT, ev_orT, ev_notT, ev_andE, ev_orE, ev_notE, ev_ifE, ev_V, varK_ev, ev_C, ev_op, ev_opF, ev_nil, ev_cons, ev_data, ev_lst, ev_tup, ev_CB, ev_CBF, ev_call, outK_ev, ev_neg, negK_ev, ev_so, soK_ev, ev_no, ev_slc, ev_slcF, fz_non, fz_bl, fz_int, fz_str, fz_scr, fz_lst, fz_tup, fz_obj, fz_exn, fz_last, fz_mid, fz_lastI, fz_lastF, vw_non, vw_bl, vw_int, vw_str, vw_scr, vw_lst, vw_tup, vw_obj, vw_ty, vw_cls, vw_exn, vw_last, vw_mid, vw_lastI, vw_lastF, st_last, st_set, st_take, st_mid, st_mset, st_mtake, add_int, add_str, add_lst, addL_lst, sub_int, mul_r, mul_l, mul_str, mul_lst, mulL_lst, div_int, mod_int, pow_18, pow_60, lt_int, le_int, gt_int, ge_int, eq_int, eq_str, ne_int, ne_str, eq_bl, isN_non, isN_tup, isN_lst, isN_str, isN_int, isN_bl, len_str, len_lst, len_tup, len_scr, int_int, max_int, min_int, tru_bl, tru_non, tru_int, tru_str, tru_lst, ix_lst, ix_tup, ix_scr, ix_str, Option.map_some, Option.map_none, slc_str, slc_lst, Option.bind_some, Option.bind_none, List.getElem?_cons_zero, List.getElem?_cons_succ, List.set_cons_zero, List.set_cons_succ, List.map_cons, List.map_nil, if_true, if_false, ite_true, ite_false, Bool.false_eq_true, decide_true, decide_false, Bool.not_true, Bool.not_false, reduceIte, sl_eq, eq_self, Nat.zero_le, List.length_cons, List.length_nil, List.length_map, ite_self, Int.natAbs_natCast, isObj_ev, ev_fld, fldK_obj, getF_hit, ev_prop, ev_own, ok_bl, ok_obj, list_lst, iso_ev, ev_asgX, asgX_ret, asgX_exc, ev_callX, i_non_bool, i_non_int, i_non_str, i_non_list, i_non_tuple, i_bl_bool, i_bl_int, i_bl_str, i_bl_list, i_bl_tuple, i_int_bool, i_int_int, i_int_str, i_int_list, i_int_tuple, i_str_bool, i_str_int, i_str_str, i_str_list, i_str_tuple, i_lst_bool, i_lst_int, i_lst_str, i_lst_list, i_lst_tuple, i_tup_bool, i_tup_int, i_tup_str, i_tup_list, i_tup_tuple, ev_appB, Int.reduceAbs, Nat.reduceLT, Nat.reduceLeDiff, Int.reduceLT, Int.reduceLE, Int.reduceEq, Int.reduceNe, Int.reduceAdd, Int.reduceSub, Int.reduceMul, Int.reduceNeg, Int.reduceMod, Int.reduceDiv, Nat.reduceAdd, Nat.reduceSub, Nat.reduceMul, Nat.reduceEqDiff, Int.reduceToNat, Nat.reduceGT, Int.reduceGT, Int.reduceGE, Nat.reduceMod, Nat.reduceDiv, Nat.reduceBEq, Nat.reduceBNe, Int.reduceBEq, Int.reduceBNe, appK_last, appK_mid, ev_sb, sbK_at, ev_gcons, ev_gnil]
  exact ⟨_, rfl⟩
/-- a row as it should be -/
structure RowOk (l : List Nat) : Prop where
  ne : l ≠ []
  ch : ∀ c ∈ l, c = 45 ∨ c = 46
  nn : infB [45, 45] l = false
  fl : ¬ (l.head? = some 45 ∧ l.getLast? = some 45)
def LinesOk (wide high : Nat) (lines : List (List Nat)) : Prop := 1 ≤ lines.length ∧ lines.length ≤ high ∧ ∃ n, 1 ≤ n ∧ n ≤ wide ∧ ∀ l ∈ lines, l.length = n ∧ RowOk l
theorem inf_cons (a b : Nat) (l : List Nat) : infB [45, 45] (a :: b :: l) = ((a == 45 && b == 45) || infB [45, 45] (b :: l)) := by
  simp only [infB, List.isPrefixOf, Bool.and_true]
  rw [show (45 == a) = (a == 45) from BEq.comm, show (45 == b) = (b == 45) from BEq.comm]
theorem inf_one (a : Nat) : infB [45, 45] [a] = false := by
  simp [infB, List.isPrefixOf]
theorem inf_snoc : ∀ (l : List Nat) (c : Nat), infB [45, 45] (l ++ [c]) = (infB [45, 45] l || (l.getLast? == some 45 && c == 45))
  | [], c => by simp [infB, List.isPrefixOf]
  | [a], c => by
    show infB [45, 45] (a :: c :: []) = _
    rw [inf_cons, inf_one, inf_one]
    simp
  | a :: b :: l, c => by
    have ih := inf_snoc (b :: l) c
    show infB [45, 45] (a :: b :: (l ++ [c])) = _
    rw [inf_cons, inf_cons]
    have : (b :: (l ++ [c])) = (b :: l) ++ [c] := rfl
    rw [this, ih, List.getLast?_cons_cons, Bool.or_assoc]
theorem last_cut {l : List Nat} (h : cut l (some (-1)) none ≠ [45]) : l.getLast? ≠ some 45 := fun e => h (by
  rw [cut_last]
  rw [List.getLast?_eq_getElem?] at e
  obtain ⟨h1, h2⟩ := List.getElem?_eq_some_iff.mp e
  rw [List.drop_eq_getElem_cons h1, h2, List.drop_of_length_le (by omega)])
def lnI (ns : List Int) (a wide high : Nat) (dr : List Int) (n : Nat) (s : Sto) (k : Nat) (acc : List (List Nat)) (i : Nat) (env : DEnv) (s' : Sto) : Prop :=
  ∃ (l : List Nat) (x y : Option D), env = [some (.scr ns), some (.int a), some (.int wide), some (.int high), some (.lst (dr.map D.int)), some (.int n), some (.cell s.length), some (.int k), some (.str l), x, y] ∧ s' = s ++ [.lst (acc.map D.str)] ∧
    l.length = i ∧ (∀ c ∈ l, c = 45 ∨ c = 46) ∧ infB [45, 45] l = false ∧ (i = n → ¬ (l.head? = some 45 ∧ l.getLast? = some 45))
theorem b1_lines (T : Ads) {ns : List Int} {a wide high : Nat} {dr : List Int} {n : Nat} {s : Sto} {k : Nat} {acc : List (List Nat)} (hn : 1 ≤ n) (hn2 : n ≤ wide) (hw : wide ≤ 1000) (hk : k < high) (hdr : dr.length = 2 + wide * high) :
    ∀ i d env s', (rangeL 0 n)[i]? = some d → lnI ns a wide high dr n s k acc (0 + i) env s' → ∃ env1 s1, gN 9 d env s' = some (env1, s1) ∧ Goes (lnI ns a wide high dr n s k acc (0 + i + 1)) (b1__law_lines T env1 s1) := by
  rintro i d env s' hi ⟨l, x, y, rfl, rfl, hl, hc, hf, _⟩
  obtain ⟨hlt, rfl⟩ := range_get hi
  rw [Nat.zero_add] at hl ⊢
  refine ⟨_, _, rfl, ?_⟩
  have hix : 2 + k * wide + i < dr.length := by
    rw [hdr]
    have : k * wide + wide ≤ wide * high := by
      have h1 : (k + 1) * wide ≤ high * wide := Nat.mul_le_mul_right _ hk
      rw [Nat.add_mul, Nat.one_mul, Nat.mul_comm high] at h1
      exact h1
    omega
  obtain ⟨d, hd⟩ : ∃ d, dr[2 + k * wide + i]? = some d := ⟨dr[2 + k * wide + i], List.getElem?_eq_getElem hix⟩
  have hat : atI (dr.map D.int) (2 + (k : Int) * (wide : Int) + (i : Int)) = some (.int d) := by
    have : (2 + (k : Int) * (wide : Int) + (i : Int)) = ((2 + k * wide + i : Nat) : Int) := by
      simp only [Int.natCast_add, Int.natCast_mul]
      rfl
    rw [this]
    exact at_nat (by rw [List.getElem?_map, hd]; rfl)
  have hwn : (wide : Int).natAbs < 18446744073709551616 := by omega
  have hwn' : wide < 18446744073709551616 := by omega
  have hll : l.length ≤ 16777216 := by omega
  unfold b1__law_lines
  rw [ev_seq]
  refine goes_bind (y := (.nx, [some (.scr ns), some (.int a), some (.int wide), some (.int high), some (.lst (dr.map D.int)), some (.int n), some (.cell s.length), some (.int k), some (.str l), some (.int i), some (.bl (decide (d = 1) && !decide (cut l (some (-1)) none = [45])))], s ++ [.lst (acc.map D.str)])) ?_ ?_
  · by_cases h1 : d = 1
    · subst h1
      by_cases h2 : cut l (some (-1)) none = [45]
      · simp -implicitDefEqProofs (maxSteps := 1000000) only [ev_seq, seqK_nx, seqK_rt, seqK_ex, seqK_bk, seqK_ct, ev_skip, ev_brk, ev_cont, ev_asg, ev_gN, ev_if, ev_ret, ev_expr, ev_raise, ev_new, ev_par, parK_ev, ev_tst, tstK_bl, ev_tru, ev_andT, ev_orT, ev_notT, ev_andE, ev_orE, ev_notE, ev_ifE, ev_V, varK_ev, ev_C, ev_op, ev_opF, ev_nil, ev_cons, ev_data, ev_lst, ev_tup, ev_CB, ev_CBF, ev_call, outK_ev, ev_neg, negK_ev, ev_so, soK_ev, ev_no, ev_slc, ev_slcF, fz_non, fz_bl, fz_int, fz_str, fz_scr, fz_lst, fz_tup, fz_obj, fz_exn, fz_last, fz_mid, fz_lastI, fz_lastF, vw_non, vw_bl, vw_int, vw_str, vw_scr, vw_lst, vw_tup, vw_obj, vw_ty, vw_cls, vw_exn, vw_last, vw_mid, vw_lastI, vw_lastF, st_last, st_set, st_take, st_mid, st_mset, st_mtake, add_int, add_str, add_lst, addL_lst, sub_int, mul_r, mul_l, mul_str, mul_lst, mulL_lst, div_int, mod_int, pow_18, pow_60, lt_int, le_int, gt_int, ge_int, eq_int, eq_str, ne_int, ne_str, eq_bl, isN_non, isN_tup, isN_lst, isN_str, isN_int, isN_bl, len_str, len_lst, len_tup, len_scr, int_int, max_int, min_int, tru_bl, tru_non, tru_int, tru_str, tru_lst, ix_lst, ix_tup, ix_scr, ix_str, Option.map_some, Option.map_none, slc_str, slc_lst, Option.bind_some, Option.bind_none, List.getElem?_cons_zero, List.getElem?_cons_succ, List.set_cons_zero, List.set_cons_succ, List.map_cons, List.map_nil, if_true, if_false, ite_true, ite_false, Bool.false_eq_true, decide_true, decide_false, Bool.not_true, Bool.not_false, reduceIte, sl_eq, eq_self, Nat.zero_le, List.length_cons, List.length_nil, List.length_map, ite_self, Int.natAbs_natCast, isObj_ev, ev_fld, fldK_obj, getF_hit, ev_prop, ev_own, ok_bl, ok_obj, list_lst, iso_ev, ev_asgX, asgX_ret, asgX_exc, ev_callX, i_non_bool, i_non_int, i_non_str, i_non_list, i_non_tuple, i_bl_bool, i_bl_int, i_bl_str, i_bl_list, i_bl_tuple, i_int_bool, i_int_int, i_int_str, i_int_list, i_int_tuple, i_str_bool, i_str_int, i_str_str, i_str_list, i_str_tuple, i_lst_bool, i_lst_int, i_lst_str, i_lst_list, i_lst_tuple, i_tup_bool, i_tup_int, i_tup_str, i_tup_list, i_tup_tuple, ev_appB, Int.reduceAbs, Nat.reduceLT, Nat.reduceLeDiff, Int.reduceLT, Int.reduceLE, Int.reduceEq, Int.reduceNe, Int.reduceAdd, Int.reduceSub, Int.reduceMul, Int.reduceNeg, Int.reduceMod, Int.reduceDiv, Nat.reduceAdd, Nat.reduceSub, Nat.reduceMul, Nat.reduceEqDiff, Int.reduceToNat, Nat.reduceGT, Int.reduceGT, Int.reduceGE, Nat.reduceMod, Nat.reduceDiv, Nat.reduceBEq, Nat.reduceBNe, Int.reduceBEq, Int.reduceBNe, appK_last, appK_mid, ev_sb, sbK_at, ev_gcons, ev_gnil, Int.zero_add, hat, hwn, hwn', hll, h2, Bool.and_false, Bool.and_true, Bool.true_and]
      · simp -implicitDefEqProofs (maxSteps := 1000000) only [ev_seq, seqK_nx, seqK_rt, seqK_ex, seqK_bk, seqK_ct, ev_skip, ev_brk, ev_cont, ev_asg, ev_gN, ev_if, ev_ret, ev_expr, ev_raise, ev_new, ev_par, parK_ev, ev_tst, tstK_bl, ev_tru, ev_andT, ev_orT, ev_notT, ev_andE, ev_orE, ev_notE, ev_ifE, ev_V, varK_ev, ev_C, ev_op, ev_opF, ev_nil, ev_cons, ev_data, ev_lst, ev_tup, ev_CB, ev_CBF, ev_call, outK_ev, ev_neg, negK_ev, ev_so, soK_ev, ev_no, ev_slc, ev_slcF, fz_non, fz_bl, fz_int, fz_str, fz_scr, fz_lst, fz_tup, fz_obj, fz_exn, fz_last, fz_mid, fz_lastI, fz_lastF, vw_non, vw_bl, vw_int, vw_str, vw_scr, vw_lst, vw_tup, vw_obj, vw_ty, vw_cls, vw_exn, vw_last, vw_mid, vw_lastI, vw_lastF, st_last, st_set, st_take, st_mid, st_mset, st_mtake, add_int, add_str, add_lst, addL_lst, sub_int, mul_r, mul_l, mul_str, mul_lst, mulL_lst, div_int, mod_int, pow_18, pow_60, lt_int, le_int, gt_int, ge_int, eq_int, eq_str, ne_int, ne_str, eq_bl, isN_non, isN_tup, isN_lst, isN_str, isN_int, isN_bl, len_str, len_lst, len_tup, len_scr, int_int, max_int, min_int, tru_bl, tru_non, tru_int, tru_str, tru_lst, ix_lst, ix_tup, ix_scr, ix_str, Option.map_some, Option.map_none, slc_str, slc_lst, Option.bind_some, Option.bind_none, List.getElem?_cons_zero, List.getElem?_cons_succ, List.set_cons_zero, List.set_cons_succ, List.map_cons, List.map_nil, if_true, if_false, ite_true, ite_false, Bool.false_eq_true, decide_true, decide_false, Bool.not_true, Bool.not_false, reduceIte, sl_eq, eq_self, Nat.zero_le, List.length_cons, List.length_nil, List.length_map, ite_self, Int.natAbs_natCast, isObj_ev, ev_fld, fldK_obj, getF_hit, ev_prop, ev_own, ok_bl, ok_obj, list_lst, iso_ev, ev_asgX, asgX_ret, asgX_exc, ev_callX, i_non_bool, i_non_int, i_non_str, i_non_list, i_non_tuple, i_bl_bool, i_bl_int, i_bl_str, i_bl_list, i_bl_tuple, i_int_bool, i_int_int, i_int_str, i_int_list, i_int_tuple, i_str_bool, i_str_int, i_str_str, i_str_list, i_str_tuple, i_lst_bool, i_lst_int, i_lst_str, i_lst_list, i_lst_tuple, i_tup_bool, i_tup_int, i_tup_str, i_tup_list, i_tup_tuple, ev_appB, Int.reduceAbs, Nat.reduceLT, Nat.reduceLeDiff, Int.reduceLT, Int.reduceLE, Int.reduceEq, Int.reduceNe, Int.reduceAdd, Int.reduceSub, Int.reduceMul, Int.reduceNeg, Int.reduceMod, Int.reduceDiv, Nat.reduceAdd, Nat.reduceSub, Nat.reduceMul, Nat.reduceEqDiff, Int.reduceToNat, Nat.reduceGT, Int.reduceGT, Int.reduceGE, Nat.reduceMod, Nat.reduceDiv, Nat.reduceBEq, Nat.reduceBNe, Int.reduceBEq, Int.reduceBNe, appK_last, appK_mid, ev_sb, sbK_at, ev_gcons, ev_gnil, Int.zero_add, hat, hwn, hwn', hll, h2, Bool.and_false, Bool.and_true, Bool.true_and]
    · simp -implicitDefEqProofs (maxSteps := 1000000) only [ev_seq, seqK_nx, seqK_rt, seqK_ex, seqK_bk, seqK_ct, ev_skip, ev_brk, ev_cont, ev_asg, ev_gN, ev_if, ev_ret, ev_expr, ev_raise, ev_new, ev_par, parK_ev, ev_tst, tstK_bl, ev_tru, ev_andT, ev_orT, ev_notT, ev_andE, ev_orE, ev_notE, ev_ifE, ev_V, varK_ev, ev_C, ev_op, ev_opF, ev_nil, ev_cons, ev_data, ev_lst, ev_tup, ev_CB, ev_CBF, ev_call, outK_ev, ev_neg, negK_ev, ev_so, soK_ev, ev_no, ev_slc, ev_slcF, fz_non, fz_bl, fz_int, fz_str, fz_scr, fz_lst, fz_tup, fz_obj, fz_exn, fz_last, fz_mid, fz_lastI, fz_lastF, vw_non, vw_bl, vw_int, vw_str, vw_scr, vw_lst, vw_tup, vw_obj, vw_ty, vw_cls, vw_exn, vw_last, vw_mid, vw_lastI, vw_lastF, st_last, st_set, st_take, st_mid, st_mset, st_mtake, add_int, add_str, add_lst, addL_lst, sub_int, mul_r, mul_l, mul_str, mul_lst, mulL_lst, div_int, mod_int, pow_18, pow_60, lt_int, le_int, gt_int, ge_int, eq_int, eq_str, ne_int, ne_str, eq_bl, isN_non, isN_tup, isN_lst, isN_str, isN_int, isN_bl, len_str, len_lst, len_tup, len_scr, int_int, max_int, min_int, tru_bl, tru_non, tru_int, tru_str, tru_lst, ix_lst, ix_tup, ix_scr, ix_str, Option.map_some, Option.map_none, slc_str, slc_lst, Option.bind_some, Option.bind_none, List.getElem?_cons_zero, List.getElem?_cons_succ, List.set_cons_zero, List.set_cons_succ, List.map_cons, List.map_nil, if_true, if_false, ite_true, ite_false, Bool.false_eq_true, decide_true, decide_false, Bool.not_true, Bool.not_false, reduceIte, sl_eq, eq_self, Nat.zero_le, List.length_cons, List.length_nil, List.length_map, ite_self, Int.natAbs_natCast, isObj_ev, ev_fld, fldK_obj, getF_hit, ev_prop, ev_own, ok_bl, ok_obj, list_lst, iso_ev, ev_asgX, asgX_ret, asgX_exc, ev_callX, i_non_bool, i_non_int, i_non_str, i_non_list, i_non_tuple, i_bl_bool, i_bl_int, i_bl_str, i_bl_list, i_bl_tuple, i_int_bool, i_int_int, i_int_str, i_int_list, i_int_tuple, i_str_bool, i_str_int, i_str_str, i_str_list, i_str_tuple, i_lst_bool, i_lst_int, i_lst_str, i_lst_list, i_lst_tuple, i_tup_bool, i_tup_int, i_tup_str, i_tup_list, i_tup_tuple, ev_appB, Int.reduceAbs, Nat.reduceLT, Nat.reduceLeDiff, Int.reduceLT, Int.reduceLE, Int.reduceEq, Int.reduceNe, Int.reduceAdd, Int.reduceSub, Int.reduceMul, Int.reduceNeg, Int.reduceMod, Int.reduceDiv, Nat.reduceAdd, Nat.reduceSub, Nat.reduceMul, Nat.reduceEqDiff, Int.reduceToNat, Nat.reduceGT, Int.reduceGT, Int.reduceGE, Nat.reduceMod, Nat.reduceDiv, Nat.reduceBEq, Nat.reduceBNe, Int.reduceBEq, Int.reduceBNe, appK_last, appK_mid, ev_sb, sbK_at, ev_gcons, ev_gnil, Int.zero_add, hat, hwn, hwn', hll, h1, Bool.false_and]
  · simp only [seqK_nx]
    have hb0 : (decide (d = 1) && !decide (cut l (some (-1)) none = [45])) = true → l.getLast? ≠ some 45 := fun h => by
      simp only [Bool.and_eq_true, Bool.not_eq_true', decide_eq_false_iff_not] at h
      exact last_cut h.2
    generalize (decide (d = 1) && !decide (cut l (some (-1)) none = [45])) = b0 at hb0 ⊢
    rw [ev_seq]
    refine goes_bind (y := (.nx, [some (.scr ns), some (.int a), some (.int wide), some (.int high), some (.lst (dr.map D.int)), some (.int n), some (.cell s.length), some (.int k), some (.str l), some (.int i), some (.bl (b0 && !decide (i + 1 = n ∧ (n = 1 ∨ l.head? = some 45))))], s ++ [.lst (acc.map D.str)])) ?_ ?_
    · by_cases h3 : i + 1 = n
      · have h3' : (i : Int) = (n : Int) - 1 := by omega
        by_cases h4 : n = 1
        · subst h4
          simp -implicitDefEqProofs (maxSteps := 1000000) only [ev_seq, seqK_nx, seqK_rt, seqK_ex, seqK_bk, seqK_ct, ev_skip, ev_brk, ev_cont, ev_asg, ev_gN, ev_if, ev_ret, ev_expr, ev_raise, ev_new, ev_par, parK_ev, ev_tst, tstK_bl, ev_tru, ev_andT, ev_orT, ev_notT, ev_andE, ev_orE, ev_notE, ev_ifE, ev_V, varK_ev, ev_C, ev_op, ev_opF, ev_nil, ev_cons, ev_data, ev_lst, ev_tup, ev_CB, ev_CBF, ev_call, outK_ev, ev_neg, negK_ev, ev_so, soK_ev, ev_no, ev_slc, ev_slcF, fz_non, fz_bl, fz_int, fz_str, fz_scr, fz_lst, fz_tup, fz_obj, fz_exn, fz_last, fz_mid, fz_lastI, fz_lastF, vw_non, vw_bl, vw_int, vw_str, vw_scr, vw_lst, vw_tup, vw_obj, vw_ty, vw_cls, vw_exn, vw_last, vw_mid, vw_lastI, vw_lastF, st_last, st_set, st_take, st_mid, st_mset, st_mtake, add_int, add_str, add_lst, addL_lst, sub_int, mul_r, mul_l, mul_str, mul_lst, mulL_lst, div_int, mod_int, pow_18, pow_60, lt_int, le_int, gt_int, ge_int, eq_int, eq_str, ne_int, ne_str, eq_bl, isN_non, isN_tup, isN_lst, isN_str, isN_int, isN_bl, len_str, len_lst, len_tup, len_scr, int_int, max_int, min_int, tru_bl, tru_non, tru_int, tru_str, tru_lst, ix_lst, ix_tup, ix_scr, ix_str, Option.map_some, Option.map_none, slc_str, slc_lst, Option.bind_some, Option.bind_none, List.getElem?_cons_zero, List.getElem?_cons_succ, List.set_cons_zero, List.set_cons_succ, List.map_cons, List.map_nil, if_true, if_false, ite_true, ite_false, Bool.false_eq_true, decide_true, decide_false, Bool.not_true, Bool.not_false, reduceIte, sl_eq, eq_self, Nat.zero_le, List.length_cons, List.length_nil, List.length_map, ite_self, Int.natAbs_natCast, isObj_ev, ev_fld, fldK_obj, getF_hit, ev_prop, ev_own, ok_bl, ok_obj, list_lst, iso_ev, ev_asgX, asgX_ret, asgX_exc, ev_callX, i_non_bool, i_non_int, i_non_str, i_non_list, i_non_tuple, i_bl_bool, i_bl_int, i_bl_str, i_bl_list, i_bl_tuple, i_int_bool, i_int_int, i_int_str, i_int_list, i_int_tuple, i_str_bool, i_str_int, i_str_str, i_str_list, i_str_tuple, i_lst_bool, i_lst_int, i_lst_str, i_lst_list, i_lst_tuple, i_tup_bool, i_tup_int, i_tup_str, i_tup_list, i_tup_tuple, ev_appB, Int.reduceAbs, Nat.reduceLT, Nat.reduceLeDiff, Int.reduceLT, Int.reduceLE, Int.reduceEq, Int.reduceNe, Int.reduceAdd, Int.reduceSub, Int.reduceMul, Int.reduceNeg, Int.reduceMod, Int.reduceDiv, Nat.reduceAdd, Nat.reduceSub, Nat.reduceMul, Nat.reduceEqDiff, Int.reduceToNat, Nat.reduceGT, Int.reduceGT, Int.reduceGE, Nat.reduceMod, Nat.reduceDiv, Nat.reduceBEq, Nat.reduceBNe, Int.reduceBEq, Int.reduceBNe, appK_last, appK_mid, ev_sb, sbK_at, ev_gcons, ev_gnil, h3, h3', Bool.and_false, true_and, true_or, Int.natCast_one, Int.reduceSub]
        · cases l with
          | nil => simp only [List.length_nil] at hl; omega
          | cons c r =>
            have h4' : ¬ (n : Int) = 1 := by omega
            have hat0 : atI (c :: r) 0 = some c := at_nat (n := 0) rfl
            have hrl : r.length + 1 ≤ 16777216 := by simpa using hll
            by_cases h5 : c = 45
            · subst h5
              simp -implicitDefEqProofs (maxSteps := 1000000) only [ev_seq, seqK_nx, seqK_rt, seqK_ex, seqK_bk, seqK_ct, ev_skip, ev_brk, ev_cont, ev_asg, ev_gN, ev_if, ev_ret, ev_expr, ev_raise, ev_new, ev_par, parK_ev, ev_tst, tstK_bl, ev_tru, ev_andT, ev_orT, ev_notT, ev_andE, ev_orE, ev_notE, ev_ifE, ev_V, varK_ev, ev_C, ev_op, ev_opF, ev_nil, ev_cons, ev_data, ev_lst, ev_tup, ev_CB, ev_CBF, ev_call, outK_ev, ev_neg, negK_ev, ev_so, soK_ev, ev_no, ev_slc, ev_slcF, fz_non, fz_bl, fz_int, fz_str, fz_scr, fz_lst, fz_tup, fz_obj, fz_exn, fz_last, fz_mid, fz_lastI, fz_lastF, vw_non, vw_bl, vw_int, vw_str, vw_scr, vw_lst, vw_tup, vw_obj, vw_ty, vw_cls, vw_exn, vw_last, vw_mid, vw_lastI, vw_lastF, st_last, st_set, st_take, st_mid, st_mset, st_mtake, add_int, add_str, add_lst, addL_lst, sub_int, mul_r, mul_l, mul_str, mul_lst, mulL_lst, div_int, mod_int, pow_18, pow_60, lt_int, le_int, gt_int, ge_int, eq_int, eq_str, ne_int, ne_str, eq_bl, isN_non, isN_tup, isN_lst, isN_str, isN_int, isN_bl, len_str, len_lst, len_tup, len_scr, int_int, max_int, min_int, tru_bl, tru_non, tru_int, tru_str, tru_lst, ix_lst, ix_tup, ix_scr, ix_str, Option.map_some, Option.map_none, slc_str, slc_lst, Option.bind_some, Option.bind_none, List.getElem?_cons_zero, List.getElem?_cons_succ, List.set_cons_zero, List.set_cons_succ, List.map_cons, List.map_nil, if_true, if_false, ite_true, ite_false, Bool.false_eq_true, decide_true, decide_false, Bool.not_true, Bool.not_false, reduceIte, sl_eq, eq_self, Nat.zero_le, List.length_cons, List.length_nil, List.length_map, ite_self, Int.natAbs_natCast, isObj_ev, ev_fld, fldK_obj, getF_hit, ev_prop, ev_own, ok_bl, ok_obj, list_lst, iso_ev, ev_asgX, asgX_ret, asgX_exc, ev_callX, i_non_bool, i_non_int, i_non_str, i_non_list, i_non_tuple, i_bl_bool, i_bl_int, i_bl_str, i_bl_list, i_bl_tuple, i_int_bool, i_int_int, i_int_str, i_int_list, i_int_tuple, i_str_bool, i_str_int, i_str_str, i_str_list, i_str_tuple, i_lst_bool, i_lst_int, i_lst_str, i_lst_list, i_lst_tuple, i_tup_bool, i_tup_int, i_tup_str, i_tup_list, i_tup_tuple, ev_appB, Int.reduceAbs, Nat.reduceLT, Nat.reduceLeDiff, Int.reduceLT, Int.reduceLE, Int.reduceEq, Int.reduceNe, Int.reduceAdd, Int.reduceSub, Int.reduceMul, Int.reduceNeg, Int.reduceMod, Int.reduceDiv, Nat.reduceAdd, Nat.reduceSub, Nat.reduceMul, Nat.reduceEqDiff, Int.reduceToNat, Nat.reduceGT, Int.reduceGT, Int.reduceGE, Nat.reduceMod, Nat.reduceDiv, Nat.reduceBEq, Nat.reduceBNe, Int.reduceBEq, Int.reduceBNe, appK_last, appK_mid, ev_sb, sbK_at, ev_gcons, ev_gnil, h3, h3', h4, h4', hat0, hrl, List.head?_cons, Bool.and_false, true_and, or_true]
            · simp -implicitDefEqProofs (maxSteps := 1000000) only [ev_seq, seqK_nx, seqK_rt, seqK_ex, seqK_bk, seqK_ct, ev_skip, ev_brk, ev_cont, ev_asg, ev_gN, ev_if, ev_ret, ev_expr, ev_raise, ev_new, ev_par, parK_ev, ev_tst, tstK_bl, ev_tru, ev_andT, ev_orT, ev_notT, ev_andE, ev_orE, ev_notE, ev_ifE, ev_V, varK_ev, ev_C, ev_op, ev_opF, ev_nil, ev_cons, ev_data, ev_lst, ev_tup, ev_CB, ev_CBF, ev_call, outK_ev, ev_neg, negK_ev, ev_so, soK_ev, ev_no, ev_slc, ev_slcF, fz_non, fz_bl, fz_int, fz_str, fz_scr, fz_lst, fz_tup, fz_obj, fz_exn, fz_last, fz_mid, fz_lastI, fz_lastF, vw_non, vw_bl, vw_int, vw_str, vw_scr, vw_lst, vw_tup, vw_obj, vw_ty, vw_cls, vw_exn, vw_last, vw_mid, vw_lastI, vw_lastF, st_last, st_set, st_take, st_mid, st_mset, st_mtake, add_int, add_str, add_lst, addL_lst, sub_int, mul_r, mul_l, mul_str, mul_lst, mulL_lst, div_int, mod_int, pow_18, pow_60, lt_int, le_int, gt_int, ge_int, eq_int, eq_str, ne_int, ne_str, eq_bl, isN_non, isN_tup, isN_lst, isN_str, isN_int, isN_bl, len_str, len_lst, len_tup, len_scr, int_int, max_int, min_int, tru_bl, tru_non, tru_int, tru_str, tru_lst, ix_lst, ix_tup, ix_scr, ix_str, Option.map_some, Option.map_none, slc_str, slc_lst, Option.bind_some, Option.bind_none, List.getElem?_cons_zero, List.getElem?_cons_succ, List.set_cons_zero, List.set_cons_succ, List.map_cons, List.map_nil, if_true, if_false, ite_true, ite_false, Bool.false_eq_true, decide_true, decide_false, Bool.not_true, Bool.not_false, reduceIte, sl_eq, eq_self, Nat.zero_le, List.length_cons, List.length_nil, List.length_map, ite_self, Int.natAbs_natCast, isObj_ev, ev_fld, fldK_obj, getF_hit, ev_prop, ev_own, ok_bl, ok_obj, list_lst, iso_ev, ev_asgX, asgX_ret, asgX_exc, ev_callX, i_non_bool, i_non_int, i_non_str, i_non_list, i_non_tuple, i_bl_bool, i_bl_int, i_bl_str, i_bl_list, i_bl_tuple, i_int_bool, i_int_int, i_int_str, i_int_list, i_int_tuple, i_str_bool, i_str_int, i_str_str, i_str_list, i_str_tuple, i_lst_bool, i_lst_int, i_lst_str, i_lst_list, i_lst_tuple, i_tup_bool, i_tup_int, i_tup_str, i_tup_list, i_tup_tuple, ev_appB, Int.reduceAbs, Nat.reduceLT, Nat.reduceLeDiff, Int.reduceLT, Int.reduceLE, Int.reduceEq, Int.reduceNe, Int.reduceAdd, Int.reduceSub, Int.reduceMul, Int.reduceNeg, Int.reduceMod, Int.reduceDiv, Nat.reduceAdd, Nat.reduceSub, Nat.reduceMul, Nat.reduceEqDiff, Int.reduceToNat, Nat.reduceGT, Int.reduceGT, Int.reduceGE, Nat.reduceMod, Nat.reduceDiv, Nat.reduceBEq, Nat.reduceBNe, Int.reduceBEq, Int.reduceBNe, appK_last, appK_mid, ev_sb, sbK_at, ev_gcons, ev_gnil, h3, h3', h4, h4', h5, hat0, hrl, List.head?_cons, Bool.and_false, Bool.and_true, true_and, or_true, List.cons.injEq, and_true, Option.some.injEq, false_or, or_false, and_false]
      · have h3' : ¬ (i : Int) = (n : Int) - 1 := by omega
        simp -implicitDefEqProofs (maxSteps := 1000000) only [ev_seq, seqK_nx, seqK_rt, seqK_ex, seqK_bk, seqK_ct, ev_skip, ev_brk, ev_cont, ev_asg, ev_gN, ev_if, ev_ret, ev_expr, ev_raise, ev_new, ev_par, parK_ev, ev_tst, tstK_bl, ev_tru, ev_andT, ev_orT, ev_notT, ev_andE, ev_orE, ev_notE, ev_ifE, ev_V, varK_ev, ev_C, ev_op, ev_opF, ev_nil, ev_cons, ev_data, ev_lst, ev_tup, ev_CB, ev_CBF, ev_call, outK_ev, ev_neg, negK_ev, ev_so, soK_ev, ev_no, ev_slc, ev_slcF, fz_non, fz_bl, fz_int, fz_str, fz_scr, fz_lst, fz_tup, fz_obj, fz_exn, fz_last, fz_mid, fz_lastI, fz_lastF, vw_non, vw_bl, vw_int, vw_str, vw_scr, vw_lst, vw_tup, vw_obj, vw_ty, vw_cls, vw_exn, vw_last, vw_mid, vw_lastI, vw_lastF, st_last, st_set, st_take, st_mid, st_mset, st_mtake, add_int, add_str, add_lst, addL_lst, sub_int, mul_r, mul_l, mul_str, mul_lst, mulL_lst, div_int, mod_int, pow_18, pow_60, lt_int, le_int, gt_int, ge_int, eq_int, eq_str, ne_int, ne_str, eq_bl, isN_non, isN_tup, isN_lst, isN_str, isN_int, isN_bl, len_str, len_lst, len_tup, len_scr, int_int, max_int, min_int, tru_bl, tru_non, tru_int, tru_str, tru_lst, ix_lst, ix_tup, ix_scr, ix_str, Option.map_some, Option.map_none, slc_str, slc_lst, Option.bind_some, Option.bind_none, List.getElem?_cons_zero, List.getElem?_cons_succ, List.set_cons_zero, List.set_cons_succ, List.map_cons, List.map_nil, if_true, if_false, ite_true, ite_false, Bool.false_eq_true, decide_true, decide_false, Bool.not_true, Bool.not_false, reduceIte, sl_eq, eq_self, Nat.zero_le, List.length_cons, List.length_nil, List.length_map, ite_self, Int.natAbs_natCast, isObj_ev, ev_fld, fldK_obj, getF_hit, ev_prop, ev_own, ok_bl, ok_obj, list_lst, iso_ev, ev_asgX, asgX_ret, asgX_exc, ev_callX, i_non_bool, i_non_int, i_non_str, i_non_list, i_non_tuple, i_bl_bool, i_bl_int, i_bl_str, i_bl_list, i_bl_tuple, i_int_bool, i_int_int, i_int_str, i_int_list, i_int_tuple, i_str_bool, i_str_int, i_str_str, i_str_list, i_str_tuple, i_lst_bool, i_lst_int, i_lst_str, i_lst_list, i_lst_tuple, i_tup_bool, i_tup_int, i_tup_str, i_tup_list, i_tup_tuple, ev_appB, Int.reduceAbs, Nat.reduceLT, Nat.reduceLeDiff, Int.reduceLT, Int.reduceLE, Int.reduceEq, Int.reduceNe, Int.reduceAdd, Int.reduceSub, Int.reduceMul, Int.reduceNeg, Int.reduceMod, Int.reduceDiv, Nat.reduceAdd, Nat.reduceSub, Nat.reduceMul, Nat.reduceEqDiff, Int.reduceToNat, Nat.reduceGT, Int.reduceGT, Int.reduceGE, Nat.reduceMod, Nat.reduceDiv, Nat.reduceBEq, Nat.reduceBNe, Int.reduceBEq, Int.reduceBNe, appK_last, appK_mid, ev_sb, sbK_at, ev_gcons, ev_gnil, h3, h3', false_and, Bool.and_true]
    · simp only [seqK_nx]
      have hm : (b0 && !decide (i + 1 = n ∧ (n = 1 ∨ l.head? = some 45))) = true → l.getLast? ≠ some 45 ∧ ¬ (i + 1 = n ∧ (n = 1 ∨ l.head? = some 45)) := fun h => by
        simp only [Bool.and_eq_true, Bool.not_eq_true', decide_eq_false_iff_not] at h
        exact ⟨hb0 h.1, h.2⟩
      generalize (b0 && !decide (i + 1 = n ∧ (n = 1 ∨ l.head? = some 45))) = m at hm ⊢
      have hl1 : l.length + 1 ≤ 16777216 := by omega
      cases m with
      | true =>
        obtain ⟨hm1, hm2⟩ := hm rfl
        simp -implicitDefEqProofs (maxSteps := 1000000) only [ev_seq, seqK_nx, seqK_rt, seqK_ex, seqK_bk, seqK_ct, ev_skip, ev_brk, ev_cont, ev_asg, ev_gN, ev_if, ev_ret, ev_expr, ev_raise, ev_new, ev_par, parK_ev, ev_tst, tstK_bl, ev_tru, ev_andT, ev_orT, ev_notT, ev_andE, ev_orE, ev_notE, ev_ifE, ev_V, varK_ev, ev_C, ev_op, ev_opF, ev_nil, ev_cons, ev_data, ev_lst, ev_tup, ev_CB, ev_CBF, ev_call, outK_ev, ev_neg, negK_ev, ev_so, soK_ev, ev_no, ev_slc, ev_slcF, fz_non, fz_bl, fz_int, fz_str, fz_scr, fz_lst, fz_tup, fz_obj, fz_exn, fz_last, fz_mid, fz_lastI, fz_lastF, vw_non, vw_bl, vw_int, vw_str, vw_scr, vw_lst, vw_tup, vw_obj, vw_ty, vw_cls, vw_exn, vw_last, vw_mid, vw_lastI, vw_lastF, st_last, st_set, st_take, st_mid, st_mset, st_mtake, add_int, add_str, add_lst, addL_lst, sub_int, mul_r, mul_l, mul_str, mul_lst, mulL_lst, div_int, mod_int, pow_18, pow_60, lt_int, le_int, gt_int, ge_int, eq_int, eq_str, ne_int, ne_str, eq_bl, isN_non, isN_tup, isN_lst, isN_str, isN_int, isN_bl, len_str, len_lst, len_tup, len_scr, int_int, max_int, min_int, tru_bl, tru_non, tru_int, tru_str, tru_lst, ix_lst, ix_tup, ix_scr, ix_str, Option.map_some, Option.map_none, slc_str, slc_lst, Option.bind_some, Option.bind_none, List.getElem?_cons_zero, List.getElem?_cons_succ, List.set_cons_zero, List.set_cons_succ, List.map_cons, List.map_nil, if_true, if_false, ite_true, ite_false, Bool.false_eq_true, decide_true, decide_false, Bool.not_true, Bool.not_false, reduceIte, sl_eq, eq_self, Nat.zero_le, List.length_cons, List.length_nil, List.length_map, ite_self, Int.natAbs_natCast, isObj_ev, ev_fld, fldK_obj, getF_hit, ev_prop, ev_own, ok_bl, ok_obj, list_lst, iso_ev, ev_asgX, asgX_ret, asgX_exc, ev_callX, i_non_bool, i_non_int, i_non_str, i_non_list, i_non_tuple, i_bl_bool, i_bl_int, i_bl_str, i_bl_list, i_bl_tuple, i_int_bool, i_int_int, i_int_str, i_int_list, i_int_tuple, i_str_bool, i_str_int, i_str_str, i_str_list, i_str_tuple, i_lst_bool, i_lst_int, i_lst_str, i_lst_list, i_lst_tuple, i_tup_bool, i_tup_int, i_tup_str, i_tup_list, i_tup_tuple, ev_appB, Int.reduceAbs, Nat.reduceLT, Nat.reduceLeDiff, Int.reduceLT, Int.reduceLE, Int.reduceEq, Int.reduceNe, Int.reduceAdd, Int.reduceSub, Int.reduceMul, Int.reduceNeg, Int.reduceMod, Int.reduceDiv, Nat.reduceAdd, Nat.reduceSub, Nat.reduceMul, Nat.reduceEqDiff, Int.reduceToNat, Nat.reduceGT, Int.reduceGT, Int.reduceGE, Nat.reduceMod, Nat.reduceDiv, Nat.reduceBEq, Nat.reduceBNe, Int.reduceBEq, Int.reduceBNe, appK_last, appK_mid, ev_sb, sbK_at, ev_gcons, ev_gnil, hl1]
        refine ⟨_, _, .inl rfl, l ++ [45], _, _, rfl, rfl, by simp [hl], fun c h => ?_, ?_, fun hin => ?_⟩
        · rcases List.mem_append.mp h with h | h
          · exact hc c h
          · simp at h; exact .inl h
        · rw [inf_snoc, hf]
          simp [hm1]
        · rintro ⟨q1, _⟩
          cases l with
          | nil =>
            simp only [List.length_nil] at hl
            exact hm2 ⟨hin, .inl (by omega)⟩
          | cons c r => exact hm2 ⟨hin, .inr (by simpa using q1)⟩
      | false =>
        simp -implicitDefEqProofs (maxSteps := 1000000) only [ev_seq, seqK_nx, seqK_rt, seqK_ex, seqK_bk, seqK_ct, ev_skip, ev_brk, ev_cont, ev_asg, ev_gN, ev_if, ev_ret, ev_expr, ev_raise, ev_new, ev_par, parK_ev, ev_tst, tstK_bl, ev_tru, ev_andT, ev_orT, ev_notT, ev_andE, ev_orE, ev_notE, ev_ifE, ev_V, varK_ev, ev_C, ev_op, ev_opF, ev_nil, ev_cons, ev_data, ev_lst, ev_tup, ev_CB, ev_CBF, ev_call, outK_ev, ev_neg, negK_ev, ev_so, soK_ev, ev_no, ev_slc, ev_slcF, fz_non, fz_bl, fz_int, fz_str, fz_scr, fz_lst, fz_tup, fz_obj, fz_exn, fz_last, fz_mid, fz_lastI, fz_lastF, vw_non, vw_bl, vw_int, vw_str, vw_scr, vw_lst, vw_tup, vw_obj, vw_ty, vw_cls, vw_exn, vw_last, vw_mid, vw_lastI, vw_lastF, st_last, st_set, st_take, st_mid, st_mset, st_mtake, add_int, add_str, add_lst, addL_lst, sub_int, mul_r, mul_l, mul_str, mul_lst, mulL_lst, div_int, mod_int, pow_18, pow_60, lt_int, le_int, gt_int, ge_int, eq_int, eq_str, ne_int, ne_str, eq_bl, isN_non, isN_tup, isN_lst, isN_str, isN_int, isN_bl, len_str, len_lst, len_tup, len_scr, int_int, max_int, min_int, tru_bl, tru_non, tru_int, tru_str, tru_lst, ix_lst, ix_tup, ix_scr, ix_str, Option.map_some, Option.map_none, slc_str, slc_lst, Option.bind_some, Option.bind_none, List.getElem?_cons_zero, List.getElem?_cons_succ, List.set_cons_zero, List.set_cons_succ, List.map_cons, List.map_nil, if_true, if_false, ite_true, ite_false, Bool.false_eq_true, decide_true, decide_false, Bool.not_true, Bool.not_false, reduceIte, sl_eq, eq_self, Nat.zero_le, List.length_cons, List.length_nil, List.length_map, ite_self, Int.natAbs_natCast, isObj_ev, ev_fld, fldK_obj, getF_hit, ev_prop, ev_own, ok_bl, ok_obj, list_lst, iso_ev, ev_asgX, asgX_ret, asgX_exc, ev_callX, i_non_bool, i_non_int, i_non_str, i_non_list, i_non_tuple, i_bl_bool, i_bl_int, i_bl_str, i_bl_list, i_bl_tuple, i_int_bool, i_int_int, i_int_str, i_int_list, i_int_tuple, i_str_bool, i_str_int, i_str_str, i_str_list, i_str_tuple, i_lst_bool, i_lst_int, i_lst_str, i_lst_list, i_lst_tuple, i_tup_bool, i_tup_int, i_tup_str, i_tup_list, i_tup_tuple, ev_appB, Int.reduceAbs, Nat.reduceLT, Nat.reduceLeDiff, Int.reduceLT, Int.reduceLE, Int.reduceEq, Int.reduceNe, Int.reduceAdd, Int.reduceSub, Int.reduceMul, Int.reduceNeg, Int.reduceMod, Int.reduceDiv, Nat.reduceAdd, Nat.reduceSub, Nat.reduceMul, Nat.reduceEqDiff, Int.reduceToNat, Nat.reduceGT, Int.reduceGT, Int.reduceGE, Nat.reduceMod, Nat.reduceDiv, Nat.reduceBEq, Nat.reduceBNe, Int.reduceBEq, Int.reduceBNe, appK_last, appK_mid, ev_sb, sbK_at, ev_gcons, ev_gnil, hl1]
        refine ⟨_, _, .inl rfl, l ++ [46], _, _, rfl, rfl, by simp [hl], fun c h => ?_, ?_, fun hin => ?_⟩
        · rcases List.mem_append.mp h with h | h
          · exact hc c h
          · simp at h; exact .inr h
        · rw [inf_snoc, hf]
          simp
        · rintro ⟨_, q2⟩
          simp at q2
/-- the rows that the law makes -/
def lsI (ns : List Int) (a wide high : Nat) (dr : List Int) (n : Nat) (s : Sto) (k : Nat) (env : DEnv) (s' : Sto) : Prop :=
  ∃ (acc : List (List Nat)) (w x y z : Option D), env = [some (.scr ns), some (.int a), some (.int wide), some (.int high), some (.lst (dr.map D.int)), some (.int n), some (.cell s.length), w, x, y, z] ∧ s' = s ++ [.lst (acc.map D.str)] ∧
    acc.length = k ∧ ∀ l ∈ acc, l.length = n ∧ RowOk l
theorem two_lims (wide high : Nat) : ([D.int wide, D.int high] ++ (List.replicate ((wide : Int) * (high : Int)).toNat [D.int 2]).flatten) = (((wide : Int) :: (high : Int) :: List.replicate (wide * high) (2 : Int)).map D.int) := by
  rw [← Int.natCast_mul, Int.toNat_natCast, List.map_cons, List.map_cons, List.map_replicate, List.flatten_replicate_singleton]
  rfl
theorem m__law_lines (T : Ads) (ns : List Int) (a wide high : Nat) (s : Sto) (hw : 1 ≤ wide) (hw2 : wide ≤ 100) (hh : 1 ≤ high) (hh2 : high ≤ 100) :
    ∃ lines, d__law_lines T [.scr ns, .int a, .int wide, .int high] s = some (.ret (.lst (lines.map D.str)), s) ∧ LinesOk wide high lines := by
  have hp : wide * high ≤ 10000 := by
    have := Nat.mul_le_mul hw2 hh2
    exact this
  have hpos : ∀ l ∈ ((wide : Int) :: (high : Int) :: List.replicate (wide * high) (2 : Int)), 0 < l ∧ l < 18446744073709551616 := fun l h => by
    rcases List.mem_cons.mp h with rfl | h
    · omega
    rcases List.mem_cons.mp h with rfl | h
    · omega
    · have := List.eq_of_mem_replicate h
      subst this
      decide
  have hdraw := m__law_draws T ns a _ s hpos (by simp only [List.length_cons, List.length_replicate]; omega)
  have hlen := draws_len ns a ((wide : Int) :: (high : Int) :: List.replicate (wide * high) (2 : Int))
  obtain ⟨d0, e0, p0, q0⟩ := draws_get ns a (fun l h => (hpos l h).1) (i := 0) (l := (wide : Int)) rfl
  obtain ⟨d1, e1, p1, q1⟩ := draws_get ns a (fun l h => (hpos l h).1) (i := 1) (l := (high : Int)) rfl
  rw [← two_lims] at hdraw
  generalize drawsF ns a ((wide : Int) :: (high : Int) :: List.replicate (wide * high) (2 : Int)) = dr at hdraw hlen e0 e1
  simp only [List.length_cons, List.length_replicate] at hlen
  obtain ⟨n, rfl⟩ : ∃ n : Nat, d0 = (n : Int) - 1 := ⟨d0.toNat + 1, by omega⟩
  obtain ⟨m, rfl⟩ : ∃ m : Nat, d1 = (m : Int) - 1 := ⟨d1.toNat + 1, by omega⟩
  have hat0 : atI (dr.map D.int) 0 = some (.int ((n : Int) - 1)) := at_nat (n := 0) (by rw [List.getElem?_map, e0]; rfl)
  have hat1 : atI (dr.map D.int) 1 = some (.int ((m : Int) - 1)) := at_nat (n := 1) (by rw [List.getElem?_map, e1]; rfl)
  have en : 1 + ((n : Int) - 1) = (n : Int) := by omega
  have em : 1 + ((m : Int) - 1) = (m : Int) := by omega
  have hwn : (wide : Int).natAbs < 18446744073709551616 := by omega
  have hwn' : wide < 18446744073709551616 := by omega
  have hpn : ((wide : Int) * (high : Int)).toNat = wide * high := by rw [← Int.natCast_mul, Int.toNat_natCast]
  have hp1 : (wide : Int) * (high : Int) ≤ 16777216 := by
    rw [← Int.natCast_mul]
    omega
  have hp2 : -4611686018427387904 ≤ (wide : Int) * (high : Int) := by
    rw [← Int.natCast_mul]
    omega
  have hp3 : (List.replicate (wide * high) [D.int 2]).flatten.length = wide * high := by
    rw [List.flatten_replicate_singleton, List.length_replicate]
  rw [hpn] at hdraw
  have hp4 : 2 + wide * high ≤ 16777216 := by omega
  have hp5 : wide * high ≤ 16777216 := by omega
  unfold d__law_lines
  refine ev_funP (fun (lines : List (List Nat)) => s ++ [.lst (lines.map D.str)]) (fun _ => .cell s.length) (fun (lines : List (List Nat)) => .lst (lines.map D.str)) rfl (fun _ => st_take) (fun _ _ => setl_last (bnds_strs _)) ?_
  simp only [env0, List.map_cons, List.map_nil, List.length_cons, List.length_nil, List.replicate_succ, List.replicate_zero, List.cons_append, List.nil_append, Nat.reduceAdd, Nat.reduceSub]
  generalize d__law_draws T = dd at hdraw
  simp -implicitDefEqProofs (maxSteps := 1000000) only [ev_seq, seqK_nx, seqK_rt, seqK_ex, seqK_bk, seqK_ct, ev_skip, ev_brk, ev_cont, ev_asg, ev_gN, ev_if, ev_ret, ev_expr, ev_raise, ev_new, ev_par, parK_ev, ev_tst, tstK_bl, ev_tru, ev_andT, ev_orT, ev_notT, ev_andE, ev_orE, ev_notE, ev_ifE, ev_V, varK_ev, ev_C, ev_op, ev_opF, ev_nil, ev_cons, ev_data, ev_lst, ev_tup, ev_CB, ev_CBF, ev_call, outK_ev, ev_neg, negK_ev, ev_so, soK_ev, ev_no, ev_slc, ev_slcF, fz_non, fz_bl, fz_int, fz_str, fz_scr, fz_lst, fz_tup, fz_obj, fz_exn, fz_last, fz_mid, fz_lastI, fz_lastF, vw_non, vw_bl, vw_int, vw_str, vw_scr, vw_lst, vw_tup, vw_obj, vw_ty, vw_cls, vw_exn, vw_last, vw_mid, vw_lastI, vw_lastF, st_last, st_set, st_take, st_mid, st_mset, st_mtake, add_int, add_str, add_lst, addL_lst, sub_int, mul_r, mul_l, mul_str, mul_lst, mulL_lst, div_int, mod_int, pow_18, pow_60, lt_int, le_int, gt_int, ge_int, eq_int, eq_str, ne_int, ne_str, eq_bl, isN_non, isN_tup, isN_lst, isN_str, isN_int, isN_bl, len_str, len_lst, len_tup, len_scr, int_int, max_int, min_int, tru_bl, tru_non, tru_int, tru_str, tru_lst, ix_lst, ix_tup, ix_scr, ix_str, Option.map_some, Option.map_none, slc_str, slc_lst, Option.bind_some, Option.bind_none, List.getElem?_cons_zero, List.getElem?_cons_succ, List.set_cons_zero, List.set_cons_succ, List.map_cons, List.map_nil, if_true, if_false, ite_true, ite_false, Bool.false_eq_true, decide_true, decide_false, Bool.not_true, Bool.not_false, reduceIte, sl_eq, eq_self, Nat.zero_le, List.length_cons, List.length_nil, List.length_map, ite_self, Int.natAbs_natCast, isObj_ev, ev_fld, fldK_obj, getF_hit, ev_prop, ev_own, ok_bl, ok_obj, list_lst, iso_ev, ev_asgX, asgX_ret, asgX_exc, ev_callX, i_non_bool, i_non_int, i_non_str, i_non_list, i_non_tuple, i_bl_bool, i_bl_int, i_bl_str, i_bl_list, i_bl_tuple, i_int_bool, i_int_int, i_int_str, i_int_list, i_int_tuple, i_str_bool, i_str_int, i_str_str, i_str_list, i_str_tuple, i_lst_bool, i_lst_int, i_lst_str, i_lst_list, i_lst_tuple, i_tup_bool, i_tup_int, i_tup_str, i_tup_list, i_tup_tuple, ev_appB, Int.reduceAbs, Nat.reduceLT, Nat.reduceLeDiff, Int.reduceLT, Int.reduceLE, Int.reduceEq, Int.reduceNe, Int.reduceAdd, Int.reduceSub, Int.reduceMul, Int.reduceNeg, Int.reduceMod, Int.reduceDiv, Nat.reduceAdd, Nat.reduceSub, Nat.reduceMul, Nat.reduceEqDiff, Int.reduceToNat, Nat.reduceGT, Int.reduceGT, Int.reduceGE, Nat.reduceMod, Nat.reduceDiv, Nat.reduceBEq, Nat.reduceBNe, Int.reduceBEq, Int.reduceBNe, appK_last, appK_mid, ev_sb, sbK_at, ev_gcons, ev_gnil, hwn, hwn', hp1, hp2, hp3, hp4, hp5, hdraw, hat0, hat1, en, em, Nat.one_mul, hpn]
  rw [ev_for, ev_R1 (n := (m : Int)) (s1 := s ++ [.lst []]) (by simp -implicitDefEqProofs (maxSteps := 1000000) only [ev_seq, seqK_nx, seqK_rt, seqK_ex, seqK_bk, seqK_ct, ev_skip, ev_brk, ev_cont, ev_asg, ev_gN, ev_if, ev_ret, ev_expr, ev_raise, ev_new, ev_par, parK_ev, ev_tst, tstK_bl, ev_tru, ev_andT, ev_orT, ev_notT, ev_andE, ev_orE, ev_notE, ev_ifE, ev_V, varK_ev, ev_C, ev_op, ev_opF, ev_nil, ev_cons, ev_data, ev_lst, ev_tup, ev_CB, ev_CBF, ev_call, outK_ev, ev_neg, negK_ev, ev_so, soK_ev, ev_no, ev_slc, ev_slcF, fz_non, fz_bl, fz_int, fz_str, fz_scr, fz_lst, fz_tup, fz_obj, fz_exn, fz_last, fz_mid, fz_lastI, fz_lastF, vw_non, vw_bl, vw_int, vw_str, vw_scr, vw_lst, vw_tup, vw_obj, vw_ty, vw_cls, vw_exn, vw_last, vw_mid, vw_lastI, vw_lastF, st_last, st_set, st_take, st_mid, st_mset, st_mtake, add_int, add_str, add_lst, addL_lst, sub_int, mul_r, mul_l, mul_str, mul_lst, mulL_lst, div_int, mod_int, pow_18, pow_60, lt_int, le_int, gt_int, ge_int, eq_int, eq_str, ne_int, ne_str, eq_bl, isN_non, isN_tup, isN_lst, isN_str, isN_int, isN_bl, len_str, len_lst, len_tup, len_scr, int_int, max_int, min_int, tru_bl, tru_non, tru_int, tru_str, tru_lst, ix_lst, ix_tup, ix_scr, ix_str, Option.map_some, Option.map_none, slc_str, slc_lst, Option.bind_some, Option.bind_none, List.getElem?_cons_zero, List.getElem?_cons_succ, List.set_cons_zero, List.set_cons_succ, List.map_cons, List.map_nil, if_true, if_false, ite_true, ite_false, Bool.false_eq_true, decide_true, decide_false, Bool.not_true, Bool.not_false, reduceIte, sl_eq, eq_self, Nat.zero_le, List.length_cons, List.length_nil, List.length_map, ite_self, Int.natAbs_natCast, isObj_ev, ev_fld, fldK_obj, getF_hit, ev_prop, ev_own, ok_bl, ok_obj, list_lst, iso_ev, ev_asgX, asgX_ret, asgX_exc, ev_callX, i_non_bool, i_non_int, i_non_str, i_non_list, i_non_tuple, i_bl_bool, i_bl_int, i_bl_str, i_bl_list, i_bl_tuple, i_int_bool, i_int_int, i_int_str, i_int_list, i_int_tuple, i_str_bool, i_str_int, i_str_str, i_str_list, i_str_tuple, i_lst_bool, i_lst_int, i_lst_str, i_lst_list, i_lst_tuple, i_tup_bool, i_tup_int, i_tup_str, i_tup_list, i_tup_tuple, ev_appB, Int.reduceAbs, Nat.reduceLT, Nat.reduceLeDiff, Int.reduceLT, Int.reduceLE, Int.reduceEq, Int.reduceNe, Int.reduceAdd, Int.reduceSub, Int.reduceMul, Int.reduceNeg, Int.reduceMod, Int.reduceDiv, Nat.reduceAdd, Nat.reduceSub, Nat.reduceMul, Nat.reduceEqDiff, Int.reduceToNat, Nat.reduceGT, Int.reduceGT, Int.reduceGE, Nat.reduceMod, Nat.reduceDiv, Nat.reduceBEq, Nat.reduceBNe, Int.reduceBEq, Int.reduceBNe, appK_last, appK_mid, ev_sb, sbK_at, ev_gcons, ev_gnil, hat1, em]) (by omega) (by omega)]
  simp only [Option.bind_some, Int.toNat_natCast]
  obtain ⟨env', s', e, acc, w, x, y, z, rfl, rfl, h1, h2⟩ := for_all (g := gN 7) (b := b2__law_lines T) (gd := none) (lsI ns a wide high dr n s) (items := rangeL 0 m) 0 (env := [some (.scr ns), some (.int a), some (.int wide), some (.int high), some (.lst (dr.map D.int)), some (.int n), some (.cell s.length), none, none, none, none]) (s := s ++ [.lst []]) ⟨[], none, none, none, none, rfl, rfl, rfl, fun l h => by cases h⟩ (fun _ _ _ _ => trivial) (by
    rintro k d env s' hk ⟨acc, w, x, y, z, rfl, rfl, h1, h2⟩
    obtain ⟨hlt, rfl⟩ := range_get hk
    rw [Nat.zero_add] at h1 ⊢
    refine ⟨_, _, rfl, ?_⟩
    unfold b2__law_lines
    simp -implicitDefEqProofs (maxSteps := 1000000) only [ev_seq, seqK_nx, seqK_rt, seqK_ex, seqK_bk, seqK_ct, ev_skip, ev_brk, ev_cont, ev_asg, ev_gN, ev_if, ev_ret, ev_expr, ev_raise, ev_new, ev_par, parK_ev, ev_tst, tstK_bl, ev_tru, ev_andT, ev_orT, ev_notT, ev_andE, ev_orE, ev_notE, ev_ifE, ev_V, varK_ev, ev_C, ev_op, ev_opF, ev_nil, ev_cons, ev_data, ev_lst, ev_tup, ev_CB, ev_CBF, ev_call, outK_ev, ev_neg, negK_ev, ev_so, soK_ev, ev_no, ev_slc, ev_slcF, fz_non, fz_bl, fz_int, fz_str, fz_scr, fz_lst, fz_tup, fz_obj, fz_exn, fz_last, fz_mid, fz_lastI, fz_lastF, vw_non, vw_bl, vw_int, vw_str, vw_scr, vw_lst, vw_tup, vw_obj, vw_ty, vw_cls, vw_exn, vw_last, vw_mid, vw_lastI, vw_lastF, st_last, st_set, st_take, st_mid, st_mset, st_mtake, add_int, add_str, add_lst, addL_lst, sub_int, mul_r, mul_l, mul_str, mul_lst, mulL_lst, div_int, mod_int, pow_18, pow_60, lt_int, le_int, gt_int, ge_int, eq_int, eq_str, ne_int, ne_str, eq_bl, isN_non, isN_tup, isN_lst, isN_str, isN_int, isN_bl, len_str, len_lst, len_tup, len_scr, int_int, max_int, min_int, tru_bl, tru_non, tru_int, tru_str, tru_lst, ix_lst, ix_tup, ix_scr, ix_str, Option.map_some, Option.map_none, slc_str, slc_lst, Option.bind_some, Option.bind_none, List.getElem?_cons_zero, List.getElem?_cons_succ, List.set_cons_zero, List.set_cons_succ, List.map_cons, List.map_nil, if_true, if_false, ite_true, ite_false, Bool.false_eq_true, decide_true, decide_false, Bool.not_true, Bool.not_false, reduceIte, sl_eq, eq_self, Nat.zero_le, List.length_cons, List.length_nil, List.length_map, ite_self, Int.natAbs_natCast, isObj_ev, ev_fld, fldK_obj, getF_hit, ev_prop, ev_own, ok_bl, ok_obj, list_lst, iso_ev, ev_asgX, asgX_ret, asgX_exc, ev_callX, i_non_bool, i_non_int, i_non_str, i_non_list, i_non_tuple, i_bl_bool, i_bl_int, i_bl_str, i_bl_list, i_bl_tuple, i_int_bool, i_int_int, i_int_str, i_int_list, i_int_tuple, i_str_bool, i_str_int, i_str_str, i_str_list, i_str_tuple, i_lst_bool, i_lst_int, i_lst_str, i_lst_list, i_lst_tuple, i_tup_bool, i_tup_int, i_tup_str, i_tup_list, i_tup_tuple, ev_appB, Int.reduceAbs, Nat.reduceLT, Nat.reduceLeDiff, Int.reduceLT, Int.reduceLE, Int.reduceEq, Int.reduceNe, Int.reduceAdd, Int.reduceSub, Int.reduceMul, Int.reduceNeg, Int.reduceMod, Int.reduceDiv, Nat.reduceAdd, Nat.reduceSub, Nat.reduceMul, Nat.reduceEqDiff, Int.reduceToNat, Nat.reduceGT, Int.reduceGT, Int.reduceGE, Nat.reduceMod, Nat.reduceDiv, Nat.reduceBEq, Nat.reduceBNe, Int.reduceBEq, Int.reduceBNe, appK_last, appK_mid, ev_sb, sbK_at, ev_gcons, ev_gnil, Int.zero_add]
    rw [ev_for, ev_R1 (n := (n : Int)) (s1 := s ++ [.lst (acc.map D.str)]) (by simp -implicitDefEqProofs (maxSteps := 1000000) only [ev_seq, seqK_nx, seqK_rt, seqK_ex, seqK_bk, seqK_ct, ev_skip, ev_brk, ev_cont, ev_asg, ev_gN, ev_if, ev_ret, ev_expr, ev_raise, ev_new, ev_par, parK_ev, ev_tst, tstK_bl, ev_tru, ev_andT, ev_orT, ev_notT, ev_andE, ev_orE, ev_notE, ev_ifE, ev_V, varK_ev, ev_C, ev_op, ev_opF, ev_nil, ev_cons, ev_data, ev_lst, ev_tup, ev_CB, ev_CBF, ev_call, outK_ev, ev_neg, negK_ev, ev_so, soK_ev, ev_no, ev_slc, ev_slcF, fz_non, fz_bl, fz_int, fz_str, fz_scr, fz_lst, fz_tup, fz_obj, fz_exn, fz_last, fz_mid, fz_lastI, fz_lastF, vw_non, vw_bl, vw_int, vw_str, vw_scr, vw_lst, vw_tup, vw_obj, vw_ty, vw_cls, vw_exn, vw_last, vw_mid, vw_lastI, vw_lastF, st_last, st_set, st_take, st_mid, st_mset, st_mtake, add_int, add_str, add_lst, addL_lst, sub_int, mul_r, mul_l, mul_str, mul_lst, mulL_lst, div_int, mod_int, pow_18, pow_60, lt_int, le_int, gt_int, ge_int, eq_int, eq_str, ne_int, ne_str, eq_bl, isN_non, isN_tup, isN_lst, isN_str, isN_int, isN_bl, len_str, len_lst, len_tup, len_scr, int_int, max_int, min_int, tru_bl, tru_non, tru_int, tru_str, tru_lst, ix_lst, ix_tup, ix_scr, ix_str, Option.map_some, Option.map_none, slc_str, slc_lst, Option.bind_some, Option.bind_none, List.getElem?_cons_zero, List.getElem?_cons_succ, List.set_cons_zero, List.set_cons_succ, List.map_cons, List.map_nil, if_true, if_false, ite_true, ite_false, Bool.false_eq_true, decide_true, decide_false, Bool.not_true, Bool.not_false, reduceIte, sl_eq, eq_self, Nat.zero_le, List.length_cons, List.length_nil, List.length_map, ite_self, Int.natAbs_natCast, isObj_ev, ev_fld, fldK_obj, getF_hit, ev_prop, ev_own, ok_bl, ok_obj, list_lst, iso_ev, ev_asgX, asgX_ret, asgX_exc, ev_callX, i_non_bool, i_non_int, i_non_str, i_non_list, i_non_tuple, i_bl_bool, i_bl_int, i_bl_str, i_bl_list, i_bl_tuple, i_int_bool, i_int_int, i_int_str, i_int_list, i_int_tuple, i_str_bool, i_str_int, i_str_str, i_str_list, i_str_tuple, i_lst_bool, i_lst_int, i_lst_str, i_lst_list, i_lst_tuple, i_tup_bool, i_tup_int, i_tup_str, i_tup_list, i_tup_tuple, ev_appB, Int.reduceAbs, Nat.reduceLT, Nat.reduceLeDiff, Int.reduceLT, Int.reduceLE, Int.reduceEq, Int.reduceNe, Int.reduceAdd, Int.reduceSub, Int.reduceMul, Int.reduceNeg, Int.reduceMod, Int.reduceDiv, Nat.reduceAdd, Nat.reduceSub, Nat.reduceMul, Nat.reduceEqDiff, Int.reduceToNat, Nat.reduceGT, Int.reduceGT, Int.reduceGE, Nat.reduceMod, Nat.reduceDiv, Nat.reduceBEq, Nat.reduceBNe, Int.reduceBEq, Int.reduceBNe, appK_last, appK_mid, ev_sb, sbK_at, ev_gcons, ev_gnil]) (by omega) (by omega)]
    simp only [Option.bind_some, Int.toNat_natCast]
    obtain ⟨env', s', e, l, x', y', rfl, rfl, g1, g2, g3, g4⟩ := for_all (g := gN 9) (b := b1__law_lines T) (gd := none) (lnI ns a wide high dr n s k acc) (items := rangeL 0 n) 0 (env := [some (.scr ns), some (.int a), some (.int wide), some (.int high), some (.lst (dr.map D.int)), some (.int n), some (.cell s.length), some (.int k), some (.str []), y, z]) (s := s ++ [.lst (acc.map D.str)])
      ⟨[], y, z, rfl, rfl, rfl, (fun c h => by cases h), rfl, (fun h => by simp)⟩ (fun _ _ _ _ => trivial) (b1_lines T (by omega) (by omega) (by omega) (by omega) (by omega))
    rw [e]
    rw [range_len, Nat.zero_add] at g1 g4
    have hacc : acc.length < 16777216 := by omega
    simp -implicitDefEqProofs (maxSteps := 1000000) only [ev_seq, seqK_nx, seqK_rt, seqK_ex, seqK_bk, seqK_ct, ev_skip, ev_brk, ev_cont, ev_asg, ev_gN, ev_if, ev_ret, ev_expr, ev_raise, ev_new, ev_par, parK_ev, ev_tst, tstK_bl, ev_tru, ev_andT, ev_orT, ev_notT, ev_andE, ev_orE, ev_notE, ev_ifE, ev_V, varK_ev, ev_C, ev_op, ev_opF, ev_nil, ev_cons, ev_data, ev_lst, ev_tup, ev_CB, ev_CBF, ev_call, outK_ev, ev_neg, negK_ev, ev_so, soK_ev, ev_no, ev_slc, ev_slcF, fz_non, fz_bl, fz_int, fz_str, fz_scr, fz_lst, fz_tup, fz_obj, fz_exn, fz_last, fz_mid, fz_lastI, fz_lastF, vw_non, vw_bl, vw_int, vw_str, vw_scr, vw_lst, vw_tup, vw_obj, vw_ty, vw_cls, vw_exn, vw_last, vw_mid, vw_lastI, vw_lastF, st_last, st_set, st_take, st_mid, st_mset, st_mtake, add_int, add_str, add_lst, addL_lst, sub_int, mul_r, mul_l, mul_str, mul_lst, mulL_lst, div_int, mod_int, pow_18, pow_60, lt_int, le_int, gt_int, ge_int, eq_int, eq_str, ne_int, ne_str, eq_bl, isN_non, isN_tup, isN_lst, isN_str, isN_int, isN_bl, len_str, len_lst, len_tup, len_scr, int_int, max_int, min_int, tru_bl, tru_non, tru_int, tru_str, tru_lst, ix_lst, ix_tup, ix_scr, ix_str, Option.map_some, Option.map_none, slc_str, slc_lst, Option.bind_some, Option.bind_none, List.getElem?_cons_zero, List.getElem?_cons_succ, List.set_cons_zero, List.set_cons_succ, List.map_cons, List.map_nil, if_true, if_false, ite_true, ite_false, Bool.false_eq_true, decide_true, decide_false, Bool.not_true, Bool.not_false, reduceIte, sl_eq, eq_self, Nat.zero_le, List.length_cons, List.length_nil, List.length_map, ite_self, Int.natAbs_natCast, isObj_ev, ev_fld, fldK_obj, getF_hit, ev_prop, ev_own, ok_bl, ok_obj, list_lst, iso_ev, ev_asgX, asgX_ret, asgX_exc, ev_callX, i_non_bool, i_non_int, i_non_str, i_non_list, i_non_tuple, i_bl_bool, i_bl_int, i_bl_str, i_bl_list, i_bl_tuple, i_int_bool, i_int_int, i_int_str, i_int_list, i_int_tuple, i_str_bool, i_str_int, i_str_str, i_str_list, i_str_tuple, i_lst_bool, i_lst_int, i_lst_str, i_lst_list, i_lst_tuple, i_tup_bool, i_tup_int, i_tup_str, i_tup_list, i_tup_tuple, ev_appB, Int.reduceAbs, Nat.reduceLT, Nat.reduceLeDiff, Int.reduceLT, Int.reduceLE, Int.reduceEq, Int.reduceNe, Int.reduceAdd, Int.reduceSub, Int.reduceMul, Int.reduceNeg, Int.reduceMod, Int.reduceDiv, Nat.reduceAdd, Nat.reduceSub, Nat.reduceMul, Nat.reduceEqDiff, Int.reduceToNat, Nat.reduceGT, Int.reduceGT, Int.reduceGE, Nat.reduceMod, Nat.reduceDiv, Nat.reduceBEq, Nat.reduceBNe, Int.reduceBEq, Int.reduceBNe, appK_last, appK_mid, ev_sb, sbK_at, ev_gcons, ev_gnil, hacc]
    refine ⟨_, _, .inl rfl, acc ++ [l], _, _, _, _, rfl, by simp, by simp [h1], fun q hq => ?_⟩
    rcases List.mem_append.mp hq with hq | hq
    · exact h2 q hq
    · simp only [List.mem_singleton] at hq
      subst hq
      exact ⟨g1, fun h => by subst h; simp only [List.length_nil] at g1; omega, g2, g3, g4 rfl⟩)
  rw [e]
  rw [range_len, Nat.zero_add] at h1
  simp -implicitDefEqProofs (maxSteps := 1000000) only [ev_seq, seqK_nx, seqK_rt, seqK_ex, seqK_bk, seqK_ct, ev_skip, ev_brk, ev_cont, ev_asg, ev_gN, ev_if, ev_ret, ev_expr, ev_raise, ev_new, ev_par, parK_ev, ev_tst, tstK_bl, ev_tru, ev_andT, ev_orT, ev_notT, ev_andE, ev_orE, ev_notE, ev_ifE, ev_V, varK_ev, ev_C, ev_op, ev_opF, ev_nil, ev_cons, ev_data, ev_lst, ev_tup, ev_CB, ev_CBF, ev_call, outK_ev, ev_neg, negK_ev, ev_so, soK_ev, ev_no, ev_slc, ev_slcF, fz_non, fz_bl, fz_int, fz_str, fz_scr, fz_lst, fz_tup, fz_obj, fz_exn, fz_last, fz_mid, fz_lastI, fz_lastF, vw_non, vw_bl, vw_int, vw_str, vw_scr, vw_lst, vw_tup, vw_obj, vw_ty, vw_cls, vw_exn, vw_last, vw_mid, vw_lastI, vw_lastF, st_last, st_set, st_take, st_mid, st_mset, st_mtake, add_int, add_str, add_lst, addL_lst, sub_int, mul_r, mul_l, mul_str, mul_lst, mulL_lst, div_int, mod_int, pow_18, pow_60, lt_int, le_int, gt_int, ge_int, eq_int, eq_str, ne_int, ne_str, eq_bl, isN_non, isN_tup, isN_lst, isN_str, isN_int, isN_bl, len_str, len_lst, len_tup, len_scr, int_int, max_int, min_int, tru_bl, tru_non, tru_int, tru_str, tru_lst, ix_lst, ix_tup, ix_scr, ix_str, Option.map_some, Option.map_none, slc_str, slc_lst, Option.bind_some, Option.bind_none, List.getElem?_cons_zero, List.getElem?_cons_succ, List.set_cons_zero, List.set_cons_succ, List.map_cons, List.map_nil, if_true, if_false, ite_true, ite_false, Bool.false_eq_true, decide_true, decide_false, Bool.not_true, Bool.not_false, reduceIte, sl_eq, eq_self, Nat.zero_le, List.length_cons, List.length_nil, List.length_map, ite_self, Int.natAbs_natCast, isObj_ev, ev_fld, fldK_obj, getF_hit, ev_prop, ev_own, ok_bl, ok_obj, list_lst, iso_ev, ev_asgX, asgX_ret, asgX_exc, ev_callX, i_non_bool, i_non_int, i_non_str, i_non_list, i_non_tuple, i_bl_bool, i_bl_int, i_bl_str, i_bl_list, i_bl_tuple, i_int_bool, i_int_int, i_int_str, i_int_list, i_int_tuple, i_str_bool, i_str_int, i_str_str, i_str_list, i_str_tuple, i_lst_bool, i_lst_int, i_lst_str, i_lst_list, i_lst_tuple, i_tup_bool, i_tup_int, i_tup_str, i_tup_list, i_tup_tuple, ev_appB, Int.reduceAbs, Nat.reduceLT, Nat.reduceLeDiff, Int.reduceLT, Int.reduceLE, Int.reduceEq, Int.reduceNe, Int.reduceAdd, Int.reduceSub, Int.reduceMul, Int.reduceNeg, Int.reduceMod, Int.reduceDiv, Nat.reduceAdd, Nat.reduceSub, Nat.reduceMul, Nat.reduceEqDiff, Int.reduceToNat, Nat.reduceGT, Int.reduceGT, Int.reduceGE, Nat.reduceMod, Nat.reduceDiv, Nat.reduceBEq, Nat.reduceBNe, Int.reduceBEq, Int.reduceBNe, appK_last, appK_mid, ev_sb, sbK_at, ev_gcons, ev_gnil]
  exact ⟨acc, ⟨by omega, by omega, n, by omega, by omega, h2⟩, _, rfl⟩
/-! rows, round about -/
structure RowC (l : List Nat) : Prop where
  ne : l ≠ []
  ch : ∀ c ∈ l, c = 45 ∨ c = 46
  cy : ∀ i, i < l.length → ¬ (l[i]? = some 45 ∧ l[(i + 1) % l.length]? = some 45)
theorem inf_iff : ∀ l : List Nat, infB [45, 45] l = true ↔ ∃ i, l[i]? = some 45 ∧ l[i + 1]? = some 45
  | [] => by simp [infB]
  | [a] => by simp [inf_one]
  | a :: b :: l => by
    have ih := inf_iff (b :: l)
    rw [inf_cons, Bool.or_eq_true, ih]
    constructor
    · rintro (h | ⟨i, h1, h2⟩)
      · simp only [Bool.and_eq_true, beq_iff_eq] at h
        exact ⟨0, by simp [h.1], by simp [h.2]⟩
      · exact ⟨i + 1, by simpa using h1, by simpa using h2⟩
    · rintro ⟨i, h1, h2⟩
      cases i with
      | zero => left; simp at h1 h2; simp [h1, h2]
      | succ i => right; exact ⟨i, by simpa using h1, by simpa using h2⟩
theorem rowC_iff (l : List Nat) : RowC l ↔ RowOk l := by
  constructor
  · rintro ⟨h1, h2, h3⟩
    have hp : 0 < l.length := List.length_pos_iff.mpr h1
    refine ⟨h1, h2, ?_, ?_⟩
    · cases q : infB [45, 45] l with
      | false => rfl
      | true =>
        obtain ⟨i, a, b⟩ := (inf_iff l).mp q
        have hi : i + 1 < l.length := (List.getElem?_eq_some_iff.mp b).1
        exact absurd ⟨a, by rw [Nat.mod_eq_of_lt hi]; exact b⟩ (h3 i (by omega))
    · rintro ⟨a, b⟩
      rw [List.head?_eq_getElem?] at a
      rw [List.getLast?_eq_getElem?] at b
      refine h3 (l.length - 1) (by omega) ⟨b, ?_⟩
      rw [show l.length - 1 + 1 = l.length by omega, Nat.mod_self]
      exact a
  · rintro ⟨h1, h2, h3, h4⟩
    refine ⟨h1, h2, fun i hi ⟨a, b⟩ => ?_⟩
    by_cases hl : i + 1 < l.length
    · rw [Nat.mod_eq_of_lt hl] at b
      have := (inf_iff l).mpr ⟨i, a, b⟩
      rw [h3] at this
      cases this
    · have e : i + 1 = l.length := by omega
      rw [e, Nat.mod_self] at b
      refine h4 ⟨by rw [List.head?_eq_getElem?]; exact b, ?_⟩
      rw [List.getLast?_eq_getElem?, show l.length - 1 = i by omega]
      exact a
theorem flat_get {α : Type} (l : List α) (hl : 0 < l.length) : ∀ (k i : Nat), i < k * l.length → (List.replicate k l).flatten[i]? = l[i % l.length]?
  | 0, i, h => by simp at h
  | k + 1, i, h => by
    rw [List.replicate_succ, List.flatten_cons]
    by_cases hi : i < l.length
    · rw [List.getElem?_append_left hi, Nat.mod_eq_of_lt hi]
    · rw [List.getElem?_append_right (by omega), flat_get l hl k (i - l.length) (by rw [Nat.add_mul, Nat.one_mul] at h; omega)]
      congr 1
      rw [← Nat.mod_eq_sub_mod (by omega)]
theorem flat_len {α : Type} (l : List α) (k : Nat) : (List.replicate k l).flatten.length = k * l.length := by
  rw [List.length_flatten, List.map_replicate, List.sum_replicate_nat]
theorem RowC.rep {l : List Nat} (h : RowC l) {k : Nat} (hk : 1 ≤ k) : RowC (List.replicate k l).flatten := by
  have hp : 0 < l.length := List.length_pos_iff.mpr h.ne
  have hkp : 0 < k * l.length := Nat.mul_pos hk hp
  refine ⟨fun e => ?_, fun c hc => ?_, fun i hi ⟨a, b⟩ => ?_⟩
  · have := flat_len l k
    rw [e, List.length_nil] at this
    omega
  · obtain ⟨m, hm, hc⟩ := List.mem_flatten.mp hc
    rw [List.eq_of_mem_replicate hm] at hc
    exact h.ch c hc
  · rw [flat_len] at hi b
    rw [flat_get l hp k i hi] at a
    rw [flat_get l hp k _ (Nat.mod_lt _ hkp)] at b
    have e : (i + 1) % (k * l.length) % l.length = (i % l.length + 1) % l.length := by
      rw [Nat.mod_mul_left_mod, Nat.mod_add_mod]
    rw [e] at b
    exact h.cy (i % l.length) (Nat.mod_lt _ hp) ⟨a, b⟩
theorem set_no {l : List Nat} {i j : Nat} (h : (l.set i 46)[j]? = some 45) : l[j]? = some 45 := by
  by_cases hij : i = j
  · subst hij
    by_cases hl : i < l.length
    · rw [List.getElem?_set_self hl] at h
      cases h
    · rw [List.getElem?_eq_none (by rw [List.length_set]; omega)] at h
      cases h
  · rw [List.getElem?_set_ne hij] at h
    exact h
theorem RowC.set {l : List Nat} (h : RowC l) (i : Nat) : RowC (l.set i 46) := by
  refine ⟨fun e => h.ne (List.eq_nil_of_length_eq_zero (by have := congrArg List.length e; rw [List.length_set] at this; exact this)), fun c hc => ?_, fun j hj ⟨a, b⟩ => ?_⟩
  · rcases List.mem_or_eq_of_mem_set hc with hc | hc
    · exact h.ch c hc
    · exact .inr hc
  · rw [List.length_set] at hj b
    exact h.cy j hj ⟨set_no a, set_no b⟩
theorem set_eq {l : List Nat} {i : Nat} (h : i < l.length) (c : Nat) : l.set i c = l.take i ++ [c] ++ l.drop (i + 1) := by
  rw [List.set_eq_take_append_cons_drop, if_pos h]
  simp
def LinesC (wide high : Nat) (lines : List (List Nat)) : Prop := 1 ≤ lines.length ∧ lines.length ≤ high ∧ ∃ n, 1 ≤ n ∧ n ≤ wide ∧ ∀ l ∈ lines, l.length = n ∧ RowC l
theorem LinesOk.c {wide high : Nat} {lines : List (List Nat)} (h : LinesOk wide high lines) : LinesC wide high lines := by
  obtain ⟨h1, h2, n, h3, h4, h5⟩ := h
  exact ⟨h1, h2, n, h3, h4, fun l hl => ⟨(h5 l hl).1, (rowC_iff l).mpr (h5 l hl).2⟩⟩
theorem nat_of {d l : Int} (h0 : 0 ≤ d) (h1 : d < l) : ∃ n : Nat, d = (n : Int) ∧ (n : Int) < l := ⟨d.toNat, by omega, by omega⟩
theorem m__law_large (T : Ads) (ns : List Int) (s : Sto) (hok : Ok s) :
    ∃ lines, d__law_large T [.scr ns, .int 0] s = some (.ret (.lst (lines.map D.str)), s) ∧ LinesC 60 36 lines := by
  have hpos : ∀ l ∈ ([10, 6, 36, 60] : List Int), 0 < l ∧ l < 18446744073709551616 := by decide
  have hdraw : d__law_draws T [.scr ns, .int 1, .lst [.int 10, .int 6, .int 36, .int 60]] s = _ := m__law_draws T ns 1 [10, 6, 36, 60] s hpos (by decide)
  obtain ⟨d0, e0, p0, q0⟩ := draws_get ns 1 (lims := [10, 6, 36, 60]) (fun l h => (hpos l h).1) (i := 0) rfl
  obtain ⟨d1, e1, p1, q1⟩ := draws_get ns 1 (lims := [10, 6, 36, 60]) (fun l h => (hpos l h).1) (i := 1) rfl
  obtain ⟨d2, e2, p2, q2⟩ := draws_get ns 1 (lims := [10, 6, 36, 60]) (fun l h => (hpos l h).1) (i := 2) rfl
  obtain ⟨d3, e3, p3, q3⟩ := draws_get ns 1 (lims := [10, 6, 36, 60]) (fun l h => (hpos l h).1) (i := 3) rfl
  generalize drawsF ns 1 [10, 6, 36, 60] = dr at hdraw e0 e1 e2 e3
  obtain ⟨n0, rfl, q0⟩ := nat_of p0 q0
  obtain ⟨n1, rfl, q1⟩ := nat_of p1 q1
  obtain ⟨n2, rfl, q2⟩ := nat_of p2 q2
  obtain ⟨n3, rfl, q3⟩ := nat_of p3 q3
  have hat0 : atI (dr.map D.int) 0 = some (.int n0) := at_nat (n := 0) (by rw [List.getElem?_map, e0]; rfl)
  have hat1 : atI (dr.map D.int) 1 = some (.int n1) := at_nat (n := 1) (by rw [List.getElem?_map, e1]; rfl)
  have hat2 : atI (dr.map D.int) 2 = some (.int n2) := at_nat (n := 2) (by rw [List.getElem?_map, e2]; rfl)
  have hat3 : atI (dr.map D.int) 3 = some (.int n3) := at_nat (n := 3) (by rw [List.getElem?_map, e3]; rfl)
  obtain ⟨ls, hls, hok1⟩ := m__law_lines T ns 0 6 6 s (by decide) (by decide) (by decide) (by decide)
  have hls : d__law_lines T [.scr ns, .int 0, .int 6, .int 6] s = some (.ret (.lst (ls.map D.str)), s) := hls
  obtain ⟨c1, c2, n, c3, c4, c5⟩ := hok1.c
  unfold d__law_large
  refine ev_funP (fun (lines : List (List Nat)) => s ++ [.lst (lines.map D.str)]) (fun _ => .cell s.length) (fun (lines : List (List Nat)) => .lst (lines.map D.str)) rfl (fun _ => st_take) (fun _ _ => setl_last (bnds_strs _)) ?_
  simp only [env0, List.map_cons, List.map_nil, List.length_cons, List.length_nil, List.replicate_succ, List.replicate_zero, List.cons_append, List.nil_append, Nat.reduceAdd, Nat.reduceSub]
  generalize d__law_draws T = dd at hdraw
  generalize d__law_lines T = dl at hls
  simp -implicitDefEqProofs (maxSteps := 1000000) only [ev_seq, seqK_nx, seqK_rt, seqK_ex, seqK_bk, seqK_ct, ev_skip, ev_brk, ev_cont, ev_asg, ev_gN, ev_if, ev_ret, ev_expr, ev_raise, ev_new, ev_par, parK_ev, ev_tst, tstK_bl, ev_tru, ev_andT, ev_orT, ev_notT, ev_andE, ev_orE, ev_notE, ev_ifE, ev_V, varK_ev, ev_C, ev_op, ev_opF, ev_nil, ev_cons, ev_data, ev_lst, ev_tup, ev_CB, ev_CBF, ev_call, outK_ev, ev_neg, negK_ev, ev_so, soK_ev, ev_no, ev_slc, ev_slcF, fz_non, fz_bl, fz_int, fz_str, fz_scr, fz_lst, fz_tup, fz_obj, fz_exn, fz_last, fz_mid, fz_lastI, fz_lastF, vw_non, vw_bl, vw_int, vw_str, vw_scr, vw_lst, vw_tup, vw_obj, vw_ty, vw_cls, vw_exn, vw_last, vw_mid, vw_lastI, vw_lastF, st_last, st_set, st_take, st_mid, st_mset, st_mtake, add_int, add_str, add_lst, addL_lst, sub_int, mul_r, mul_l, mul_str, mul_lst, mulL_lst, div_int, mod_int, pow_18, pow_60, lt_int, le_int, gt_int, ge_int, eq_int, eq_str, ne_int, ne_str, eq_bl, isN_non, isN_tup, isN_lst, isN_str, isN_int, isN_bl, len_str, len_lst, len_tup, len_scr, int_int, max_int, min_int, tru_bl, tru_non, tru_int, tru_str, tru_lst, ix_lst, ix_tup, ix_scr, ix_str, Option.map_some, Option.map_none, slc_str, slc_lst, Option.bind_some, Option.bind_none, List.getElem?_cons_zero, List.getElem?_cons_succ, List.set_cons_zero, List.set_cons_succ, List.map_cons, List.map_nil, if_true, if_false, ite_true, ite_false, Bool.false_eq_true, decide_true, decide_false, Bool.not_true, Bool.not_false, reduceIte, sl_eq, eq_self, Nat.zero_le, List.length_cons, List.length_nil, List.length_map, ite_self, Int.natAbs_natCast, isObj_ev, ev_fld, fldK_obj, getF_hit, ev_prop, ev_own, ok_bl, ok_obj, list_lst, iso_ev, ev_asgX, asgX_ret, asgX_exc, ev_callX, i_non_bool, i_non_int, i_non_str, i_non_list, i_non_tuple, i_bl_bool, i_bl_int, i_bl_str, i_bl_list, i_bl_tuple, i_int_bool, i_int_int, i_int_str, i_int_list, i_int_tuple, i_str_bool, i_str_int, i_str_str, i_str_list, i_str_tuple, i_lst_bool, i_lst_int, i_lst_str, i_lst_list, i_lst_tuple, i_tup_bool, i_tup_int, i_tup_str, i_tup_list, i_tup_tuple, ev_appB, Int.reduceAbs, Nat.reduceLT, Nat.reduceLeDiff, Int.reduceLT, Int.reduceLE, Int.reduceEq, Int.reduceNe, Int.reduceAdd, Int.reduceSub, Int.reduceMul, Int.reduceNeg, Int.reduceMod, Int.reduceDiv, Nat.reduceAdd, Nat.reduceSub, Nat.reduceMul, Nat.reduceEqDiff, Int.reduceToNat, Nat.reduceGT, Int.reduceGT, Int.reduceGE, Nat.reduceMod, Nat.reduceDiv, Nat.reduceBEq, Nat.reduceBNe, Int.reduceBEq, Int.reduceBNe, appK_last, appK_mid, ev_sb, sbK_at, ev_gcons, ev_gnil, hdraw]
  have hcomp : ∀ (x y z w : Option D), dComp (iAny (dCall dl (dCons (dV 0) (dCons (dV 1) (dCons (dC (D.int 6)) (dCons (dC (D.int 6)) dNil)))))) [6] (gN 6) dYes (dOp mulD (dV 6) (dOp addD (dC (D.int 1)) (dOp idxD (dV 2) (dC (D.int 0)))))
      [some (.scr ns), some (.int 0), some (.lst (dr.map D.int)), x, y, z, w] s = some ((ls.map fun l => (List.replicate (1 + n0) l).flatten).map D.str, s) := fun x y z w => by
    have q := comp_map (src := iAny (dCall dl (dCons (dV 0) (dCons (dV 1) (dCons (dC (D.int 6)) (dCons (dC (D.int 6)) dNil)))))) (vs := [6]) (g := gN 6) (te := dOp mulD (dV 6) (dOp addD (dC (D.int 1)) (dOp idxD (dV 2) (dC (D.int 0))))) (gd := none)
      (env := [some (.scr ns), some (.int 0), some (.lst (dr.map D.int)), x, y, z, w]) (s := s) (items := ls.map D.str) (fun d => match d with | .str l => .str (List.replicate (1 + n0) l).flatten | d => d)
      (ev_any_lst (by simp -implicitDefEqProofs (maxSteps := 1000000) only [ev_seq, seqK_nx, seqK_rt, seqK_ex, seqK_bk, seqK_ct, ev_skip, ev_brk, ev_cont, ev_asg, ev_gN, ev_if, ev_ret, ev_expr, ev_raise, ev_new, ev_par, parK_ev, ev_tst, tstK_bl, ev_tru, ev_andT, ev_orT, ev_notT, ev_andE, ev_orE, ev_notE, ev_ifE, ev_V, varK_ev, ev_C, ev_op, ev_opF, ev_nil, ev_cons, ev_data, ev_lst, ev_tup, ev_CB, ev_CBF, ev_call, outK_ev, ev_neg, negK_ev, ev_so, soK_ev, ev_no, ev_slc, ev_slcF, fz_non, fz_bl, fz_int, fz_str, fz_scr, fz_lst, fz_tup, fz_obj, fz_exn, fz_last, fz_mid, fz_lastI, fz_lastF, vw_non, vw_bl, vw_int, vw_str, vw_scr, vw_lst, vw_tup, vw_obj, vw_ty, vw_cls, vw_exn, vw_last, vw_mid, vw_lastI, vw_lastF, st_last, st_set, st_take, st_mid, st_mset, st_mtake, add_int, add_str, add_lst, addL_lst, sub_int, mul_r, mul_l, mul_str, mul_lst, mulL_lst, div_int, mod_int, pow_18, pow_60, lt_int, le_int, gt_int, ge_int, eq_int, eq_str, ne_int, ne_str, eq_bl, isN_non, isN_tup, isN_lst, isN_str, isN_int, isN_bl, len_str, len_lst, len_tup, len_scr, int_int, max_int, min_int, tru_bl, tru_non, tru_int, tru_str, tru_lst, ix_lst, ix_tup, ix_scr, ix_str, Option.map_some, Option.map_none, slc_str, slc_lst, Option.bind_some, Option.bind_none, List.getElem?_cons_zero, List.getElem?_cons_succ, List.set_cons_zero, List.set_cons_succ, List.map_cons, List.map_nil, if_true, if_false, ite_true, ite_false, Bool.false_eq_true, decide_true, decide_false, Bool.not_true, Bool.not_false, reduceIte, sl_eq, eq_self, Nat.zero_le, List.length_cons, List.length_nil, List.length_map, ite_self, Int.natAbs_natCast, isObj_ev, ev_fld, fldK_obj, getF_hit, ev_prop, ev_own, ok_bl, ok_obj, list_lst, iso_ev, ev_asgX, asgX_ret, asgX_exc, ev_callX, i_non_bool, i_non_int, i_non_str, i_non_list, i_non_tuple, i_bl_bool, i_bl_int, i_bl_str, i_bl_list, i_bl_tuple, i_int_bool, i_int_int, i_int_str, i_int_list, i_int_tuple, i_str_bool, i_str_int, i_str_str, i_str_list, i_str_tuple, i_lst_bool, i_lst_int, i_lst_str, i_lst_list, i_lst_tuple, i_tup_bool, i_tup_int, i_tup_str, i_tup_list, i_tup_tuple, ev_appB, Int.reduceAbs, Nat.reduceLT, Nat.reduceLeDiff, Int.reduceLT, Int.reduceLE, Int.reduceEq, Int.reduceNe, Int.reduceAdd, Int.reduceSub, Int.reduceMul, Int.reduceNeg, Int.reduceMod, Int.reduceDiv, Nat.reduceAdd, Nat.reduceSub, Nat.reduceMul, Nat.reduceEqDiff, Int.reduceToNat, Nat.reduceGT, Int.reduceGT, Int.reduceGE, Nat.reduceMod, Nat.reduceDiv, Nat.reduceBEq, Nat.reduceBNe, Int.reduceBEq, Int.reduceBNe, appK_last, appK_mid, ev_sb, sbK_at, ev_gcons, ev_gnil, hls])) hok (by rw [sl_eq, List.length_map]; omega) (fun _ => trivial) (fun d acc hd _ => by
        obtain ⟨l, hl, rfl⟩ := List.mem_map.mp hd
        refine ⟨_, rfl, ?_⟩
        simp only [wipeE]
        have hl1 := (c5 l hl).1
        have b1 : l.length * (1 + (n0 : Int)).toNat ≤ 16777216 := by
          have : (1 + (n0 : Int)).toNat = 1 + n0 := by omega
          rw [this, hl1]
          have : n * (1 + n0) ≤ 6 * 10 := Nat.mul_le_mul c4 (by omega)
          omega
        have b2 : -4611686018427387904 ≤ 1 + (n0 : Int) := by omega
        have b3 : 1 + (n0 : Int) ≤ 16777216 := by omega
        simp -implicitDefEqProofs (maxSteps := 1000000) only [ev_seq, seqK_nx, seqK_rt, seqK_ex, seqK_bk, seqK_ct, ev_skip, ev_brk, ev_cont, ev_asg, ev_gN, ev_if, ev_ret, ev_expr, ev_raise, ev_new, ev_par, parK_ev, ev_tst, tstK_bl, ev_tru, ev_andT, ev_orT, ev_notT, ev_andE, ev_orE, ev_notE, ev_ifE, ev_V, varK_ev, ev_C, ev_op, ev_opF, ev_nil, ev_cons, ev_data, ev_lst, ev_tup, ev_CB, ev_CBF, ev_call, outK_ev, ev_neg, negK_ev, ev_so, soK_ev, ev_no, ev_slc, ev_slcF, fz_non, fz_bl, fz_int, fz_str, fz_scr, fz_lst, fz_tup, fz_obj, fz_exn, fz_last, fz_mid, fz_lastI, fz_lastF, vw_non, vw_bl, vw_int, vw_str, vw_scr, vw_lst, vw_tup, vw_obj, vw_ty, vw_cls, vw_exn, vw_last, vw_mid, vw_lastI, vw_lastF, st_last, st_set, st_take, st_mid, st_mset, st_mtake, add_int, add_str, add_lst, addL_lst, sub_int, mul_r, mul_l, mul_str, mul_lst, mulL_lst, div_int, mod_int, pow_18, pow_60, lt_int, le_int, gt_int, ge_int, eq_int, eq_str, ne_int, ne_str, eq_bl, isN_non, isN_tup, isN_lst, isN_str, isN_int, isN_bl, len_str, len_lst, len_tup, len_scr, int_int, max_int, min_int, tru_bl, tru_non, tru_int, tru_str, tru_lst, ix_lst, ix_tup, ix_scr, ix_str, Option.map_some, Option.map_none, slc_str, slc_lst, Option.bind_some, Option.bind_none, List.getElem?_cons_zero, List.getElem?_cons_succ, List.set_cons_zero, List.set_cons_succ, List.map_cons, List.map_nil, if_true, if_false, ite_true, ite_false, Bool.false_eq_true, decide_true, decide_false, Bool.not_true, Bool.not_false, reduceIte, sl_eq, eq_self, Nat.zero_le, List.length_cons, List.length_nil, List.length_map, ite_self, Int.natAbs_natCast, isObj_ev, ev_fld, fldK_obj, getF_hit, ev_prop, ev_own, ok_bl, ok_obj, list_lst, iso_ev, ev_asgX, asgX_ret, asgX_exc, ev_callX, i_non_bool, i_non_int, i_non_str, i_non_list, i_non_tuple, i_bl_bool, i_bl_int, i_bl_str, i_bl_list, i_bl_tuple, i_int_bool, i_int_int, i_int_str, i_int_list, i_int_tuple, i_str_bool, i_str_int, i_str_str, i_str_list, i_str_tuple, i_lst_bool, i_lst_int, i_lst_str, i_lst_list, i_lst_tuple, i_tup_bool, i_tup_int, i_tup_str, i_tup_list, i_tup_tuple, ev_appB, Int.reduceAbs, Nat.reduceLT, Nat.reduceLeDiff, Int.reduceLT, Int.reduceLE, Int.reduceEq, Int.reduceNe, Int.reduceAdd, Int.reduceSub, Int.reduceMul, Int.reduceNeg, Int.reduceMod, Int.reduceDiv, Nat.reduceAdd, Nat.reduceSub, Nat.reduceMul, Nat.reduceEqDiff, Int.reduceToNat, Nat.reduceGT, Int.reduceGT, Int.reduceGE, Nat.reduceMod, Nat.reduceDiv, Nat.reduceBEq, Nat.reduceBNe, Int.reduceBEq, Int.reduceBNe, appK_last, appK_mid, ev_sb, sbK_at, ev_gcons, ev_gnil, hat0, b1, b2, b3]
        have : (1 + (n0 : Int)).toNat = 1 + n0 := by omega
        rw [this]) (by
        rw [List.map_map]
        exact (by
          have := bnds_strs (n := s.length) (ls.map fun l => (List.replicate (1 + n0) l).flatten)
          rw [List.map_map] at this
          exact this))
    rw [q]
    simp only [List.map_map]
    rfl
  have hL : ∀ l ∈ (ls.map fun l => (List.replicate (1 + n0) l).flatten), l.length = n * (1 + n0) ∧ RowC l := fun l hl => by
    obtain ⟨q, hq, rfl⟩ := List.mem_map.mp hl
    have := c5 q hq
    exact ⟨by rw [flat_len, this.1, Nat.mul_comm], this.2.rep (by omega)⟩
  have hLl : (ls.map fun l => (List.replicate (1 + n0) l).flatten).length = ls.length := List.length_map _
  generalize (ls.map fun l => (List.replicate (1 + n0) l).flatten) = L at hcomp hL hLl
  have hN1 : 1 ≤ n * (1 + n0) := Nat.mul_pos c3 (by omega)
  have hN2 : n * (1 + n0) ≤ 6 * 10 := Nat.mul_le_mul c4 (by omega)
  generalize n * (1 + n0) = N at hL hN1 hN2
  obtain ⟨bl, hbl, hb1, hb2, hb3⟩ : ∃ bl : List (List Nat), (List.replicate (1 + (n1 : Int)).toNat (L.map D.str)).flatten = bl.map D.str ∧ 1 ≤ bl.length ∧ bl.length ≤ 36 ∧ ∀ l ∈ bl, l.length = N ∧ RowC l := by
    refine ⟨(List.replicate (1 + n1) L).flatten, ?_, ?_, ?_, fun l hl => ?_⟩
    · rw [show (1 + (n1 : Int)).toNat = 1 + n1 by omega, List.map_flatten, List.map_replicate]
    · rw [flat_len]
      exact Nat.mul_pos (by omega) (by omega)
    · rw [flat_len]
      have : (1 + n1) * L.length ≤ 6 * 6 := Nat.mul_le_mul (by omega) (by omega)
      omega
    · obtain ⟨q, hq, hl⟩ := List.mem_flatten.mp hl
      rw [List.eq_of_mem_replicate hq] at hl
      exact hL l hl
  have b1 : L.length * (1 + (n1 : Int)).toNat ≤ 16777216 := by
    rw [show (1 + (n1 : Int)).toNat = 1 + n1 by omega]
    have : L.length * (1 + n1) ≤ 6 * 6 := Nat.mul_le_mul (by omega) (by omega)
    omega
  have b2 : -4611686018427387904 ≤ 1 + (n1 : Int) := by omega
  have b3 : 1 + (n1 : Int) ≤ 16777216 := by omega
  have b4 : (0 : Int) < (bl.length : Int) := by omega
  have hdl : n2 % bl.length < bl.length := Nat.mod_lt _ (by omega)
  obtain ⟨l0, hl0⟩ : ∃ l0, bl[0]? = some l0 := ⟨bl[0], List.getElem?_eq_getElem (by omega)⟩
  obtain ⟨l1, hl1⟩ : ∃ l1, bl[n2 % bl.length]? = some l1 := ⟨bl[n2 % bl.length], List.getElem?_eq_getElem hdl⟩
  have hb0 := hb3 l0 (List.mem_of_getElem? hl0)
  have hb1' := hb3 l1 (List.mem_of_getElem? hl1)
  have a0 : atI (bl.map D.str) 0 = some (.str l0) := at_nat (n := 0) (by rw [List.getElem?_map, hl0]; rfl)
  have e2' : (n2 : Int) % (bl.length : Int) = ((n2 % bl.length : Nat) : Int) := rfl
  have e3' : (n3 : Int) % (N : Int) = ((n3 % N : Nat) : Int) := rfl
  have hsl : n3 % N < N := Nat.mod_lt _ (by omega)
  have e4 : ((n3 % N : Nat) : Int) + 1 = ((n3 % N + 1 : Nat) : Int) := rfl
  have a1 : atI (bl.map D.str) ((n2 % bl.length : Nat) : Int) = some (.str l1) := at_nat (by rw [List.getElem?_map, hl1]; rfl)
  have b5 : l0.length ≤ 16777216 := by omega
  have b6 : l1.length ≤ 16777216 := by omega
  have b7 : (0 : Int) < (N : Int) := by omega
  have hix := ix_nat hdl
  have l0N := hb0.1
  have b8 : N ≤ 16777216 := by omega
  have b9 : (l1.take (n3 % N)).length + 1 ≤ 16777216 := by rw [List.length_take]; omega
  have b10 : (l1.take (n3 % N) ++ [46]).length + (l1.drop (n3 % N + 1)).length ≤ 16777216 := by
    rw [List.length_append, List.length_take, List.length_drop, List.length_singleton]; omega
  simp -implicitDefEqProofs (maxSteps := 1000000) only [ev_seq, seqK_nx, seqK_rt, seqK_ex, seqK_bk, seqK_ct, ev_skip, ev_brk, ev_cont, ev_asg, ev_gN, ev_if, ev_ret, ev_expr, ev_raise, ev_new, ev_par, parK_ev, ev_tst, tstK_bl, ev_tru, ev_andT, ev_orT, ev_notT, ev_andE, ev_orE, ev_notE, ev_ifE, ev_V, varK_ev, ev_C, ev_op, ev_opF, ev_nil, ev_cons, ev_data, ev_lst, ev_tup, ev_CB, ev_CBF, ev_call, outK_ev, ev_neg, negK_ev, ev_so, soK_ev, ev_no, ev_slc, ev_slcF, fz_non, fz_bl, fz_int, fz_str, fz_scr, fz_lst, fz_tup, fz_obj, fz_exn, fz_last, fz_mid, fz_lastI, fz_lastF, vw_non, vw_bl, vw_int, vw_str, vw_scr, vw_lst, vw_tup, vw_obj, vw_ty, vw_cls, vw_exn, vw_last, vw_mid, vw_lastI, vw_lastF, st_last, st_set, st_take, st_mid, st_mset, st_mtake, add_int, add_str, add_lst, addL_lst, sub_int, mul_r, mul_l, mul_str, mul_lst, mulL_lst, div_int, mod_int, pow_18, pow_60, lt_int, le_int, gt_int, ge_int, eq_int, eq_str, ne_int, ne_str, eq_bl, isN_non, isN_tup, isN_lst, isN_str, isN_int, isN_bl, len_str, len_lst, len_tup, len_scr, int_int, max_int, min_int, tru_bl, tru_non, tru_int, tru_str, tru_lst, ix_lst, ix_tup, ix_scr, ix_str, Option.map_some, Option.map_none, slc_str, slc_lst, Option.bind_some, Option.bind_none, List.getElem?_cons_zero, List.getElem?_cons_succ, List.set_cons_zero, List.set_cons_succ, List.map_cons, List.map_nil, if_true, if_false, ite_true, ite_false, Bool.false_eq_true, decide_true, decide_false, Bool.not_true, Bool.not_false, reduceIte, sl_eq, eq_self, Nat.zero_le, List.length_cons, List.length_nil, List.length_map, ite_self, Int.natAbs_natCast, isObj_ev, ev_fld, fldK_obj, getF_hit, ev_prop, ev_own, ok_bl, ok_obj, list_lst, iso_ev, ev_asgX, asgX_ret, asgX_exc, ev_callX, i_non_bool, i_non_int, i_non_str, i_non_list, i_non_tuple, i_bl_bool, i_bl_int, i_bl_str, i_bl_list, i_bl_tuple, i_int_bool, i_int_int, i_int_str, i_int_list, i_int_tuple, i_str_bool, i_str_int, i_str_str, i_str_list, i_str_tuple, i_lst_bool, i_lst_int, i_lst_str, i_lst_list, i_lst_tuple, i_tup_bool, i_tup_int, i_tup_str, i_tup_list, i_tup_tuple, ev_appB, Int.reduceAbs, Nat.reduceLT, Nat.reduceLeDiff, Int.reduceLT, Int.reduceLE, Int.reduceEq, Int.reduceNe, Int.reduceAdd, Int.reduceSub, Int.reduceMul, Int.reduceNeg, Int.reduceMod, Int.reduceDiv, Nat.reduceAdd, Nat.reduceSub, Nat.reduceMul, Nat.reduceEqDiff, Int.reduceToNat, Nat.reduceGT, Int.reduceGT, Int.reduceGE, Nat.reduceMod, Nat.reduceDiv, Nat.reduceBEq, Nat.reduceBNe, Int.reduceBEq, Int.reduceBNe, appK_last, appK_mid, ev_sb, sbK_at, ev_gcons, ev_gnil, hcomp, hat1, b1, b2, b3, hbl, hat2, b4, a0, l0N, b7, b8, hat3, e2', e3', e4, a1, b6, cut_to, cut_from, b9, b10, hix]
  rw [← set_eq (l := l1) (i := n3 % N) (by omega) 46, ← List.map_set]
  refine ⟨bl.set (n2 % bl.length) (l1.set (n3 % N) 46), ⟨by rw [List.length_set]; exact hb1, by rw [List.length_set]; exact hb2, N, hN1, by omega, fun l hl => ?_⟩, _, rfl⟩
  rcases List.mem_or_eq_of_mem_set hl with hl | rfl
  · exact hb3 l hl
  · exact ⟨by rw [List.length_set]; exact hb1'.1, hb1'.2.set _⟩
/-! is_row, both -/
def okAt (l : List Nat) (i : Nat) : Bool := (l[i]? == some 45 || l[i]? == some 46) && !(l[i]? == some 45 && l[(i + 1) % l.length]? == some 45)
def rowB (l : List Nat) : Bool := (rangeL 0 l.length).all (fun d => match d with | .int i => okAt l i.toNat | _ => true) && !decide (l = [])
theorem rowB_iff (l : List Nat) : rowB l = true ↔ RowC l := by
  unfold rowB
  rw [Bool.and_eq_true, List.all_eq_true]
  constructor
  · rintro ⟨h1, h2⟩
    have h0 : ∀ i, i < l.length → okAt l i = true := fun i hi => by
      have hm : D.int (0 + (i : Int)) ∈ rangeL 0 l.length := by
        unfold rangeL
        exact List.mem_map.mpr ⟨i, List.mem_range.mpr hi, rfl⟩
      have := h1 _ hm
      simpa using this
    refine ⟨by simpa using h2, fun c hc => ?_, fun i hi ⟨a, b⟩ => ?_⟩
    · obtain ⟨i, hi, e⟩ := List.getElem_of_mem hc
      have := h0 i hi
      unfold okAt at this
      rw [List.getElem?_eq_getElem hi, e] at this
      simp at this
      exact this.1
    · have := h0 i hi
      unfold okAt at this
      rw [a, b] at this
      simp at this
  · rintro ⟨h1, h2, h3⟩
    refine ⟨fun d hd => ?_, by simpa using h1⟩
    unfold rangeL at hd
    obtain ⟨i, hi, rfl⟩ := List.mem_map.mp hd
    have hi := List.mem_range.mp hi
    simp only [Int.zero_add, Int.toNat_natCast]
    unfold okAt
    have h3 := h3 i hi
    have hc := h2 l[i] (List.getElem_mem hi)
    rw [List.getElem?_eq_getElem hi] at h3 ⊢
    simp only [Bool.and_eq_true, Bool.or_eq_true, Bool.not_eq_true', beq_iff_eq, Option.some.injEq]
    refine ⟨hc, ?_⟩
    cases q : (some l[i] == some 45 && l[(i + 1) % l.length]? == some 45) with
    | false => rfl
    | true =>
      simp only [Bool.and_eq_true, beq_iff_eq] at q
      exact absurd q h3
theorem notin_marks (c : Nat) : notInD (.str [c]) (.tup [.str [45], .str [46]]) = some (.bl (!(c == 45 || c == 46))) := by
  show orG notSignD _ _ _ = _
  simp only [orG, notSignD, inFl, itemsD, flatD, List.all_cons, List.all_nil, Bool.and_self, and_self, if_true, inF, List.any_cons, List.any_nil, eqF]
  have e1 : ([45] == [c]) = (c == 45) := by
    rw [Bool.eq_iff_iff, beq_iff_eq, beq_iff_eq]
    exact ⟨fun h => (List.cons.inj h).1.symm, fun h => by rw [h]⟩
  have e2 : ([46] == [c]) = (c == 46) := by
    rw [Bool.eq_iff_iff, beq_iff_eq, beq_iff_eq]
    exact ⟨fun h => (List.cons.inj h).1.symm, fun h => by rw [h]⟩
  rw [e1, e2, Bool.or_false]
def rwI (l : List Nat) (s : Sto) (env : DEnv) (s' : Sto) : Prop := ∃ x, env = [some (.str l), x] ∧ s' = s
theorem m_is_row (T : Ads) (l : List Nat) (s : Sto) (hl : l.length ≤ 16777216) : d_is_row T [.str l] s = some (.ret (.bl (rowB l)), s) := by
  refine ev_funE (r := .bl (rowB l)) rfl ?_ (take_self s) rfl
  simp only [env0, List.map_cons, List.map_nil, List.length_cons, List.length_nil, List.replicate_succ, List.replicate_zero, List.cons_append, List.nil_append, Nat.reduceAdd, Nat.reduceSub]
  rw [ev_seq, ev_for, ev_R1 (n := (l.length : Int)) (s1 := s) (by simp -implicitDefEqProofs (maxSteps := 1000000) only [ev_seq, seqK_nx, seqK_rt, seqK_ex, seqK_bk, seqK_ct, ev_skip, ev_brk, ev_cont, ev_asg, ev_gN, ev_if, ev_ret, ev_expr, ev_raise, ev_new, ev_par, parK_ev, ev_tst, tstK_bl, ev_tru, ev_andT, ev_orT, ev_notT, ev_andE, ev_orE, ev_notE, ev_ifE, ev_V, varK_ev, ev_C, ev_op, ev_opF, ev_nil, ev_cons, ev_data, ev_lst, ev_tup, ev_CB, ev_CBF, ev_call, outK_ev, ev_neg, negK_ev, ev_so, soK_ev, ev_no, ev_slc, ev_slcF, fz_non, fz_bl, fz_int, fz_str, fz_scr, fz_lst, fz_tup, fz_obj, fz_exn, fz_last, fz_mid, fz_lastI, fz_lastF, vw_non, vw_bl, vw_int, vw_str, vw_scr, vw_lst, vw_tup, vw_obj, vw_ty, vw_cls, vw_exn, vw_last, vw_mid, vw_lastI, vw_lastF, st_last, st_set, st_take, st_mid, st_mset, st_mtake, add_int, add_str, add_lst, addL_lst, sub_int, mul_r, mul_l, mul_str, mul_lst, mulL_lst, div_int, mod_int, pow_18, pow_60, lt_int, le_int, gt_int, ge_int, eq_int, eq_str, ne_int, ne_str, eq_bl, isN_non, isN_tup, isN_lst, isN_str, isN_int, isN_bl, len_str, len_lst, len_tup, len_scr, int_int, max_int, min_int, tru_bl, tru_non, tru_int, tru_str, tru_lst, ix_lst, ix_tup, ix_scr, ix_str, Option.map_some, Option.map_none, slc_str, slc_lst, Option.bind_some, Option.bind_none, List.getElem?_cons_zero, List.getElem?_cons_succ, List.set_cons_zero, List.set_cons_succ, List.map_cons, List.map_nil, if_true, if_false, ite_true, ite_false, Bool.false_eq_true, decide_true, decide_false, Bool.not_true, Bool.not_false, reduceIte, sl_eq, eq_self, Nat.zero_le, List.length_cons, List.length_nil, List.length_map, ite_self, Int.natAbs_natCast, isObj_ev, ev_fld, fldK_obj, getF_hit, ev_prop, ev_own, ok_bl, ok_obj, list_lst, iso_ev, ev_asgX, asgX_ret, asgX_exc, ev_callX, i_non_bool, i_non_int, i_non_str, i_non_list, i_non_tuple, i_bl_bool, i_bl_int, i_bl_str, i_bl_list, i_bl_tuple, i_int_bool, i_int_int, i_int_str, i_int_list, i_int_tuple, i_str_bool, i_str_int, i_str_str, i_str_list, i_str_tuple, i_lst_bool, i_lst_int, i_lst_str, i_lst_list, i_lst_tuple, i_tup_bool, i_tup_int, i_tup_str, i_tup_list, i_tup_tuple, ev_appB, Int.reduceAbs, Nat.reduceLT, Nat.reduceLeDiff, Int.reduceLT, Int.reduceLE, Int.reduceEq, Int.reduceNe, Int.reduceAdd, Int.reduceSub, Int.reduceMul, Int.reduceNeg, Int.reduceMod, Int.reduceDiv, Nat.reduceAdd, Nat.reduceSub, Nat.reduceMul, Nat.reduceEqDiff, Int.reduceToNat, Nat.reduceGT, Int.reduceGT, Int.reduceGE, Nat.reduceMod, Nat.reduceDiv, Nat.reduceBEq, Nat.reduceBNe, Int.reduceBEq, Int.reduceBNe, appK_last, appK_mid, ev_sb, sbK_at, ev_gcons, ev_gnil, hl]) (by omega) (by omega)]
  simp only [Option.bind_some, Int.toNat_natCast]
  obtain ⟨k1, k2⟩ := for_find (g := gN 1) (b := b1_is_row T) (gd := none) (fun d => match d with | .int i => okAt l i.toNat | _ => true) (.rt (.bl false)) (.inl ⟨_, rfl⟩) (rwI l s) (rwI l s) (items := rangeL 0 l.length) (env := [some (.str l), none]) (s := s) ⟨none, rfl, rfl⟩ (fun _ _ _ => trivial)
    (by
      rintro d env s' hd hp ⟨x, rfl, rfl⟩
      unfold rangeL at hd
      obtain ⟨i, hi, rfl⟩ := List.mem_map.mp hd
      have hi := List.mem_range.mp hi
      simp only [Int.zero_add, Int.toNat_natCast] at hp ⊢
      refine ⟨_, _, rfl, ?_⟩
      have a0 : atI l (i : Int) = some l[i] := at_nat (List.getElem?_eq_getElem hi)
      have hj : (i + 1) % l.length < l.length := Nat.mod_lt _ (by omega)
      have e1 : ((i : Int) + 1) % (l.length : Int) = (((i + 1) % l.length : Nat) : Int) := rfl
      have a1 : atI l (((i + 1) % l.length : Nat) : Int) = some l[(i + 1) % l.length] := at_nat (List.getElem?_eq_getElem hj)
      have b1 : (0 : Int) < (l.length : Int) := by omega
      unfold okAt at hp
      rw [List.getElem?_eq_getElem hi, List.getElem?_eq_getElem hj] at hp
      simp only [Bool.and_eq_true, Bool.or_eq_true, Bool.not_eq_true', beq_iff_eq, Option.some.injEq] at hp
      unfold b1_is_row
      obtain ⟨hp1, hp2⟩ := hp
      generalize l[i] = c at a0 hp1 hp2
      generalize l[(i + 1) % l.length] = c' at a1 hp2
      rcases hp1 with rfl | rfl
      · have hc' : c' ≠ 45 := fun h => by subst h; simp at hp2
        have e2 : ¬ ([c'] = [45]) := by simpa using hc'
        simp -implicitDefEqProofs (maxSteps := 1000000) only [ev_seq, seqK_nx, seqK_rt, seqK_ex, seqK_bk, seqK_ct, ev_skip, ev_brk, ev_cont, ev_asg, ev_gN, ev_if, ev_ret, ev_expr, ev_raise, ev_new, ev_par, parK_ev, ev_tst, tstK_bl, ev_tru, ev_andT, ev_orT, ev_notT, ev_andE, ev_orE, ev_notE, ev_ifE, ev_V, varK_ev, ev_C, ev_op, ev_opF, ev_nil, ev_cons, ev_data, ev_lst, ev_tup, ev_CB, ev_CBF, ev_call, outK_ev, ev_neg, negK_ev, ev_so, soK_ev, ev_no, ev_slc, ev_slcF, fz_non, fz_bl, fz_int, fz_str, fz_scr, fz_lst, fz_tup, fz_obj, fz_exn, fz_last, fz_mid, fz_lastI, fz_lastF, vw_non, vw_bl, vw_int, vw_str, vw_scr, vw_lst, vw_tup, vw_obj, vw_ty, vw_cls, vw_exn, vw_last, vw_mid, vw_lastI, vw_lastF, st_last, st_set, st_take, st_mid, st_mset, st_mtake, add_int, add_str, add_lst, addL_lst, sub_int, mul_r, mul_l, mul_str, mul_lst, mulL_lst, div_int, mod_int, pow_18, pow_60, lt_int, le_int, gt_int, ge_int, eq_int, eq_str, ne_int, ne_str, eq_bl, isN_non, isN_tup, isN_lst, isN_str, isN_int, isN_bl, len_str, len_lst, len_tup, len_scr, int_int, max_int, min_int, tru_bl, tru_non, tru_int, tru_str, tru_lst, ix_lst, ix_tup, ix_scr, ix_str, Option.map_some, Option.map_none, slc_str, slc_lst, Option.bind_some, Option.bind_none, List.getElem?_cons_zero, List.getElem?_cons_succ, List.set_cons_zero, List.set_cons_succ, List.map_cons, List.map_nil, if_true, if_false, ite_true, ite_false, Bool.false_eq_true, decide_true, decide_false, Bool.not_true, Bool.not_false, reduceIte, sl_eq, eq_self, Nat.zero_le, List.length_cons, List.length_nil, List.length_map, ite_self, Int.natAbs_natCast, isObj_ev, ev_fld, fldK_obj, getF_hit, ev_prop, ev_own, ok_bl, ok_obj, list_lst, iso_ev, ev_asgX, asgX_ret, asgX_exc, ev_callX, i_non_bool, i_non_int, i_non_str, i_non_list, i_non_tuple, i_bl_bool, i_bl_int, i_bl_str, i_bl_list, i_bl_tuple, i_int_bool, i_int_int, i_int_str, i_int_list, i_int_tuple, i_str_bool, i_str_int, i_str_str, i_str_list, i_str_tuple, i_lst_bool, i_lst_int, i_lst_str, i_lst_list, i_lst_tuple, i_tup_bool, i_tup_int, i_tup_str, i_tup_list, i_tup_tuple, ev_appB, Int.reduceAbs, Nat.reduceLT, Nat.reduceLeDiff, Int.reduceLT, Int.reduceLE, Int.reduceEq, Int.reduceNe, Int.reduceAdd, Int.reduceSub, Int.reduceMul, Int.reduceNeg, Int.reduceMod, Int.reduceDiv, Nat.reduceAdd, Nat.reduceSub, Nat.reduceMul, Nat.reduceEqDiff, Int.reduceToNat, Nat.reduceGT, Int.reduceGT, Int.reduceGE, Nat.reduceMod, Nat.reduceDiv, Nat.reduceBEq, Nat.reduceBNe, Int.reduceBEq, Int.reduceBNe, appK_last, appK_mid, ev_sb, sbK_at, ev_gcons, ev_gnil, a0, hl, notin_marks, a1, e1, b1, e2, beq_self_eq_true, Bool.true_or]
        exact ⟨_, _, .inl rfl, _, rfl, rfl⟩
      · simp -implicitDefEqProofs (maxSteps := 1000000) only [ev_seq, seqK_nx, seqK_rt, seqK_ex, seqK_bk, seqK_ct, ev_skip, ev_brk, ev_cont, ev_asg, ev_gN, ev_if, ev_ret, ev_expr, ev_raise, ev_new, ev_par, parK_ev, ev_tst, tstK_bl, ev_tru, ev_andT, ev_orT, ev_notT, ev_andE, ev_orE, ev_notE, ev_ifE, ev_V, varK_ev, ev_C, ev_op, ev_opF, ev_nil, ev_cons, ev_data, ev_lst, ev_tup, ev_CB, ev_CBF, ev_call, outK_ev, ev_neg, negK_ev, ev_so, soK_ev, ev_no, ev_slc, ev_slcF, fz_non, fz_bl, fz_int, fz_str, fz_scr, fz_lst, fz_tup, fz_obj, fz_exn, fz_last, fz_mid, fz_lastI, fz_lastF, vw_non, vw_bl, vw_int, vw_str, vw_scr, vw_lst, vw_tup, vw_obj, vw_ty, vw_cls, vw_exn, vw_last, vw_mid, vw_lastI, vw_lastF, st_last, st_set, st_take, st_mid, st_mset, st_mtake, add_int, add_str, add_lst, addL_lst, sub_int, mul_r, mul_l, mul_str, mul_lst, mulL_lst, div_int, mod_int, pow_18, pow_60, lt_int, le_int, gt_int, ge_int, eq_int, eq_str, ne_int, ne_str, eq_bl, isN_non, isN_tup, isN_lst, isN_str, isN_int, isN_bl, len_str, len_lst, len_tup, len_scr, int_int, max_int, min_int, tru_bl, tru_non, tru_int, tru_str, tru_lst, ix_lst, ix_tup, ix_scr, ix_str, Option.map_some, Option.map_none, slc_str, slc_lst, Option.bind_some, Option.bind_none, List.getElem?_cons_zero, List.getElem?_cons_succ, List.set_cons_zero, List.set_cons_succ, List.map_cons, List.map_nil, if_true, if_false, ite_true, ite_false, Bool.false_eq_true, decide_true, decide_false, Bool.not_true, Bool.not_false, reduceIte, sl_eq, eq_self, Nat.zero_le, List.length_cons, List.length_nil, List.length_map, ite_self, Int.natAbs_natCast, isObj_ev, ev_fld, fldK_obj, getF_hit, ev_prop, ev_own, ok_bl, ok_obj, list_lst, iso_ev, ev_asgX, asgX_ret, asgX_exc, ev_callX, i_non_bool, i_non_int, i_non_str, i_non_list, i_non_tuple, i_bl_bool, i_bl_int, i_bl_str, i_bl_list, i_bl_tuple, i_int_bool, i_int_int, i_int_str, i_int_list, i_int_tuple, i_str_bool, i_str_int, i_str_str, i_str_list, i_str_tuple, i_lst_bool, i_lst_int, i_lst_str, i_lst_list, i_lst_tuple, i_tup_bool, i_tup_int, i_tup_str, i_tup_list, i_tup_tuple, ev_appB, Int.reduceAbs, Nat.reduceLT, Nat.reduceLeDiff, Int.reduceLT, Int.reduceLE, Int.reduceEq, Int.reduceNe, Int.reduceAdd, Int.reduceSub, Int.reduceMul, Int.reduceNeg, Int.reduceMod, Int.reduceDiv, Nat.reduceAdd, Nat.reduceSub, Nat.reduceMul, Nat.reduceEqDiff, Int.reduceToNat, Nat.reduceGT, Int.reduceGT, Int.reduceGE, Nat.reduceMod, Nat.reduceDiv, Nat.reduceBEq, Nat.reduceBNe, Int.reduceBEq, Int.reduceBNe, appK_last, appK_mid, ev_sb, sbK_at, ev_gcons, ev_gnil, a0, hl, notin_marks, a1, e1, b1, beq_self_eq_true, Bool.or_true, List.cons.injEq, and_true]
        exact ⟨_, _, .inl rfl, _, rfl, rfl⟩)
    (by
      rintro d env s' hd hp ⟨x, rfl, rfl⟩
      unfold rangeL at hd
      obtain ⟨i, hi, rfl⟩ := List.mem_map.mp hd
      have hi := List.mem_range.mp hi
      simp only [Int.zero_add, Int.toNat_natCast] at hp ⊢
      refine ⟨_, _, rfl, ?_⟩
      have a0 : atI l (i : Int) = some l[i] := at_nat (List.getElem?_eq_getElem hi)
      have hj : (i + 1) % l.length < l.length := Nat.mod_lt _ (by omega)
      have e1 : ((i : Int) + 1) % (l.length : Int) = (((i + 1) % l.length : Nat) : Int) := rfl
      have a1 : atI l (((i + 1) % l.length : Nat) : Int) = some l[(i + 1) % l.length] := at_nat (List.getElem?_eq_getElem hj)
      have b1 : (0 : Int) < (l.length : Int) := by omega
      unfold okAt at hp
      rw [List.getElem?_eq_getElem hi, List.getElem?_eq_getElem hj] at hp
      unfold b1_is_row
      generalize l[i] = c at a0 hp
      generalize l[(i + 1) % l.length] = c' at a1 hp
      by_cases h1 : c = 45
      · subst h1
        have hc' : c' = 45 := by simpa using hp
        subst hc'
        simp -implicitDefEqProofs (maxSteps := 1000000) only [ev_seq, seqK_nx, seqK_rt, seqK_ex, seqK_bk, seqK_ct, ev_skip, ev_brk, ev_cont, ev_asg, ev_gN, ev_if, ev_ret, ev_expr, ev_raise, ev_new, ev_par, parK_ev, ev_tst, tstK_bl, ev_tru, ev_andT, ev_orT, ev_notT, ev_andE, ev_orE, ev_notE, ev_ifE, ev_V, varK_ev, ev_C, ev_op, ev_opF, ev_nil, ev_cons, ev_data, ev_lst, ev_tup, ev_CB, ev_CBF, ev_call, outK_ev, ev_neg, negK_ev, ev_so, soK_ev, ev_no, ev_slc, ev_slcF, fz_non, fz_bl, fz_int, fz_str, fz_scr, fz_lst, fz_tup, fz_obj, fz_exn, fz_last, fz_mid, fz_lastI, fz_lastF, vw_non, vw_bl, vw_int, vw_str, vw_scr, vw_lst, vw_tup, vw_obj, vw_ty, vw_cls, vw_exn, vw_last, vw_mid, vw_lastI, vw_lastF, st_last, st_set, st_take, st_mid, st_mset, st_mtake, add_int, add_str, add_lst, addL_lst, sub_int, mul_r, mul_l, mul_str, mul_lst, mulL_lst, div_int, mod_int, pow_18, pow_60, lt_int, le_int, gt_int, ge_int, eq_int, eq_str, ne_int, ne_str, eq_bl, isN_non, isN_tup, isN_lst, isN_str, isN_int, isN_bl, len_str, len_lst, len_tup, len_scr, int_int, max_int, min_int, tru_bl, tru_non, tru_int, tru_str, tru_lst, ix_lst, ix_tup, ix_scr, ix_str, Option.map_some, Option.map_none, slc_str, slc_lst, Option.bind_some, Option.bind_none, List.getElem?_cons_zero, List.getElem?_cons_succ, List.set_cons_zero, List.set_cons_succ, List.map_cons, List.map_nil, if_true, if_false, ite_true, ite_false, Bool.false_eq_true, decide_true, decide_false, Bool.not_true, Bool.not_false, reduceIte, sl_eq, eq_self, Nat.zero_le, List.length_cons, List.length_nil, List.length_map, ite_self, Int.natAbs_natCast, isObj_ev, ev_fld, fldK_obj, getF_hit, ev_prop, ev_own, ok_bl, ok_obj, list_lst, iso_ev, ev_asgX, asgX_ret, asgX_exc, ev_callX, i_non_bool, i_non_int, i_non_str, i_non_list, i_non_tuple, i_bl_bool, i_bl_int, i_bl_str, i_bl_list, i_bl_tuple, i_int_bool, i_int_int, i_int_str, i_int_list, i_int_tuple, i_str_bool, i_str_int, i_str_str, i_str_list, i_str_tuple, i_lst_bool, i_lst_int, i_lst_str, i_lst_list, i_lst_tuple, i_tup_bool, i_tup_int, i_tup_str, i_tup_list, i_tup_tuple, ev_appB, Int.reduceAbs, Nat.reduceLT, Nat.reduceLeDiff, Int.reduceLT, Int.reduceLE, Int.reduceEq, Int.reduceNe, Int.reduceAdd, Int.reduceSub, Int.reduceMul, Int.reduceNeg, Int.reduceMod, Int.reduceDiv, Nat.reduceAdd, Nat.reduceSub, Nat.reduceMul, Nat.reduceEqDiff, Int.reduceToNat, Nat.reduceGT, Int.reduceGT, Int.reduceGE, Nat.reduceMod, Nat.reduceDiv, Nat.reduceBEq, Nat.reduceBNe, Int.reduceBEq, Int.reduceBNe, appK_last, appK_mid, ev_sb, sbK_at, ev_gcons, ev_gnil, a0, hl, notin_marks, a1, e1, b1, beq_self_eq_true, Bool.true_or]
        exact ⟨_, _, rfl, _, rfl, rfl⟩
      · have h2 : c ≠ 46 := fun h => by subst h; simp at hp
        have h3 : (c == 45 || c == 46) = false := by simp [h1, h2]
        simp -implicitDefEqProofs (maxSteps := 1000000) only [ev_seq, seqK_nx, seqK_rt, seqK_ex, seqK_bk, seqK_ct, ev_skip, ev_brk, ev_cont, ev_asg, ev_gN, ev_if, ev_ret, ev_expr, ev_raise, ev_new, ev_par, parK_ev, ev_tst, tstK_bl, ev_tru, ev_andT, ev_orT, ev_notT, ev_andE, ev_orE, ev_notE, ev_ifE, ev_V, varK_ev, ev_C, ev_op, ev_opF, ev_nil, ev_cons, ev_data, ev_lst, ev_tup, ev_CB, ev_CBF, ev_call, outK_ev, ev_neg, negK_ev, ev_so, soK_ev, ev_no, ev_slc, ev_slcF, fz_non, fz_bl, fz_int, fz_str, fz_scr, fz_lst, fz_tup, fz_obj, fz_exn, fz_last, fz_mid, fz_lastI, fz_lastF, vw_non, vw_bl, vw_int, vw_str, vw_scr, vw_lst, vw_tup, vw_obj, vw_ty, vw_cls, vw_exn, vw_last, vw_mid, vw_lastI, vw_lastF, st_last, st_set, st_take, st_mid, st_mset, st_mtake, add_int, add_str, add_lst, addL_lst, sub_int, mul_r, mul_l, mul_str, mul_lst, mulL_lst, div_int, mod_int, pow_18, pow_60, lt_int, le_int, gt_int, ge_int, eq_int, eq_str, ne_int, ne_str, eq_bl, isN_non, isN_tup, isN_lst, isN_str, isN_int, isN_bl, len_str, len_lst, len_tup, len_scr, int_int, max_int, min_int, tru_bl, tru_non, tru_int, tru_str, tru_lst, ix_lst, ix_tup, ix_scr, ix_str, Option.map_some, Option.map_none, slc_str, slc_lst, Option.bind_some, Option.bind_none, List.getElem?_cons_zero, List.getElem?_cons_succ, List.set_cons_zero, List.set_cons_succ, List.map_cons, List.map_nil, if_true, if_false, ite_true, ite_false, Bool.false_eq_true, decide_true, decide_false, Bool.not_true, Bool.not_false, reduceIte, sl_eq, eq_self, Nat.zero_le, List.length_cons, List.length_nil, List.length_map, ite_self, Int.natAbs_natCast, isObj_ev, ev_fld, fldK_obj, getF_hit, ev_prop, ev_own, ok_bl, ok_obj, list_lst, iso_ev, ev_asgX, asgX_ret, asgX_exc, ev_callX, i_non_bool, i_non_int, i_non_str, i_non_list, i_non_tuple, i_bl_bool, i_bl_int, i_bl_str, i_bl_list, i_bl_tuple, i_int_bool, i_int_int, i_int_str, i_int_list, i_int_tuple, i_str_bool, i_str_int, i_str_str, i_str_list, i_str_tuple, i_lst_bool, i_lst_int, i_lst_str, i_lst_list, i_lst_tuple, i_tup_bool, i_tup_int, i_tup_str, i_tup_list, i_tup_tuple, ev_appB, Int.reduceAbs, Nat.reduceLT, Nat.reduceLeDiff, Int.reduceLT, Int.reduceLE, Int.reduceEq, Int.reduceNe, Int.reduceAdd, Int.reduceSub, Int.reduceMul, Int.reduceNeg, Int.reduceMod, Int.reduceDiv, Nat.reduceAdd, Nat.reduceSub, Nat.reduceMul, Nat.reduceEqDiff, Int.reduceToNat, Nat.reduceGT, Int.reduceGT, Int.reduceGE, Nat.reduceMod, Nat.reduceDiv, Nat.reduceBEq, Nat.reduceBNe, Int.reduceBEq, Int.reduceBNe, appK_last, appK_mid, ev_sb, sbK_at, ev_gcons, ev_gnil, a0, hl, notin_marks, h3]
        exact ⟨_, _, rfl, _, rfl, rfl⟩)
  unfold rowB
  cases q : (rangeL 0 l.length).all (fun d => match d with | .int i => okAt l i.toNat | _ => true) with
  | true =>
    obtain ⟨env', s', e, x, rfl, rfl⟩ := k1 q
    rw [e]
    simp -implicitDefEqProofs (maxSteps := 1000000) only [ev_seq, seqK_nx, seqK_rt, seqK_ex, seqK_bk, seqK_ct, ev_skip, ev_brk, ev_cont, ev_asg, ev_gN, ev_if, ev_ret, ev_expr, ev_raise, ev_new, ev_par, parK_ev, ev_tst, tstK_bl, ev_tru, ev_andT, ev_orT, ev_notT, ev_andE, ev_orE, ev_notE, ev_ifE, ev_V, varK_ev, ev_C, ev_op, ev_opF, ev_nil, ev_cons, ev_data, ev_lst, ev_tup, ev_CB, ev_CBF, ev_call, outK_ev, ev_neg, negK_ev, ev_so, soK_ev, ev_no, ev_slc, ev_slcF, fz_non, fz_bl, fz_int, fz_str, fz_scr, fz_lst, fz_tup, fz_obj, fz_exn, fz_last, fz_mid, fz_lastI, fz_lastF, vw_non, vw_bl, vw_int, vw_str, vw_scr, vw_lst, vw_tup, vw_obj, vw_ty, vw_cls, vw_exn, vw_last, vw_mid, vw_lastI, vw_lastF, st_last, st_set, st_take, st_mid, st_mset, st_mtake, add_int, add_str, add_lst, addL_lst, sub_int, mul_r, mul_l, mul_str, mul_lst, mulL_lst, div_int, mod_int, pow_18, pow_60, lt_int, le_int, gt_int, ge_int, eq_int, eq_str, ne_int, ne_str, eq_bl, isN_non, isN_tup, isN_lst, isN_str, isN_int, isN_bl, len_str, len_lst, len_tup, len_scr, int_int, max_int, min_int, tru_bl, tru_non, tru_int, tru_str, tru_lst, ix_lst, ix_tup, ix_scr, ix_str, Option.map_some, Option.map_none, slc_str, slc_lst, Option.bind_some, Option.bind_none, List.getElem?_cons_zero, List.getElem?_cons_succ, List.set_cons_zero, List.set_cons_succ, List.map_cons, List.map_nil, if_true, if_false, ite_true, ite_false, Bool.false_eq_true, decide_true, decide_false, Bool.not_true, Bool.not_false, reduceIte, sl_eq, eq_self, Nat.zero_le, List.length_cons, List.length_nil, List.length_map, ite_self, Int.natAbs_natCast, isObj_ev, ev_fld, fldK_obj, getF_hit, ev_prop, ev_own, ok_bl, ok_obj, list_lst, iso_ev, ev_asgX, asgX_ret, asgX_exc, ev_callX, i_non_bool, i_non_int, i_non_str, i_non_list, i_non_tuple, i_bl_bool, i_bl_int, i_bl_str, i_bl_list, i_bl_tuple, i_int_bool, i_int_int, i_int_str, i_int_list, i_int_tuple, i_str_bool, i_str_int, i_str_str, i_str_list, i_str_tuple, i_lst_bool, i_lst_int, i_lst_str, i_lst_list, i_lst_tuple, i_tup_bool, i_tup_int, i_tup_str, i_tup_list, i_tup_tuple, ev_appB, Int.reduceAbs, Nat.reduceLT, Nat.reduceLeDiff, Int.reduceLT, Int.reduceLE, Int.reduceEq, Int.reduceNe, Int.reduceAdd, Int.reduceSub, Int.reduceMul, Int.reduceNeg, Int.reduceMod, Int.reduceDiv, Nat.reduceAdd, Nat.reduceSub, Nat.reduceMul, Nat.reduceEqDiff, Int.reduceToNat, Nat.reduceGT, Int.reduceGT, Int.reduceGE, Nat.reduceMod, Nat.reduceDiv, Nat.reduceBEq, Nat.reduceBNe, Int.reduceBEq, Int.reduceBNe, appK_last, appK_mid, ev_sb, sbK_at, ev_gcons, ev_gnil, Bool.true_and]
    exact ⟨_, rfl⟩
  | false =>
    obtain ⟨env', s', e, x, rfl, rfl⟩ := k2 q
    rw [e]
    simp -implicitDefEqProofs (maxSteps := 1000000) only [ev_seq, seqK_nx, seqK_rt, seqK_ex, seqK_bk, seqK_ct, ev_skip, ev_brk, ev_cont, ev_asg, ev_gN, ev_if, ev_ret, ev_expr, ev_raise, ev_new, ev_par, parK_ev, ev_tst, tstK_bl, ev_tru, ev_andT, ev_orT, ev_notT, ev_andE, ev_orE, ev_notE, ev_ifE, ev_V, varK_ev, ev_C, ev_op, ev_opF, ev_nil, ev_cons, ev_data, ev_lst, ev_tup, ev_CB, ev_CBF, ev_call, outK_ev, ev_neg, negK_ev, ev_so, soK_ev, ev_no, ev_slc, ev_slcF, fz_non, fz_bl, fz_int, fz_str, fz_scr, fz_lst, fz_tup, fz_obj, fz_exn, fz_last, fz_mid, fz_lastI, fz_lastF, vw_non, vw_bl, vw_int, vw_str, vw_scr, vw_lst, vw_tup, vw_obj, vw_ty, vw_cls, vw_exn, vw_last, vw_mid, vw_lastI, vw_lastF, st_last, st_set, st_take, st_mid, st_mset, st_mtake, add_int, add_str, add_lst, addL_lst, sub_int, mul_r, mul_l, mul_str, mul_lst, mulL_lst, div_int, mod_int, pow_18, pow_60, lt_int, le_int, gt_int, ge_int, eq_int, eq_str, ne_int, ne_str, eq_bl, isN_non, isN_tup, isN_lst, isN_str, isN_int, isN_bl, len_str, len_lst, len_tup, len_scr, int_int, max_int, min_int, tru_bl, tru_non, tru_int, tru_str, tru_lst, ix_lst, ix_tup, ix_scr, ix_str, Option.map_some, Option.map_none, slc_str, slc_lst, Option.bind_some, Option.bind_none, List.getElem?_cons_zero, List.getElem?_cons_succ, List.set_cons_zero, List.set_cons_succ, List.map_cons, List.map_nil, if_true, if_false, ite_true, ite_false, Bool.false_eq_true, decide_true, decide_false, Bool.not_true, Bool.not_false, reduceIte, sl_eq, eq_self, Nat.zero_le, List.length_cons, List.length_nil, List.length_map, ite_self, Int.natAbs_natCast, isObj_ev, ev_fld, fldK_obj, getF_hit, ev_prop, ev_own, ok_bl, ok_obj, list_lst, iso_ev, ev_asgX, asgX_ret, asgX_exc, ev_callX, i_non_bool, i_non_int, i_non_str, i_non_list, i_non_tuple, i_bl_bool, i_bl_int, i_bl_str, i_bl_list, i_bl_tuple, i_int_bool, i_int_int, i_int_str, i_int_list, i_int_tuple, i_str_bool, i_str_int, i_str_str, i_str_list, i_str_tuple, i_lst_bool, i_lst_int, i_lst_str, i_lst_list, i_lst_tuple, i_tup_bool, i_tup_int, i_tup_str, i_tup_list, i_tup_tuple, ev_appB, Int.reduceAbs, Nat.reduceLT, Nat.reduceLeDiff, Int.reduceLT, Int.reduceLE, Int.reduceEq, Int.reduceNe, Int.reduceAdd, Int.reduceSub, Int.reduceMul, Int.reduceNeg, Int.reduceMod, Int.reduceDiv, Nat.reduceAdd, Nat.reduceSub, Nat.reduceMul, Nat.reduceEqDiff, Int.reduceToNat, Nat.reduceGT, Int.reduceGT, Int.reduceGE, Nat.reduceMod, Nat.reduceDiv, Nat.reduceBEq, Nat.reduceBNe, Int.reduceBEq, Int.reduceBNe, appK_last, appK_mid, ev_sb, sbK_at, ev_gcons, ev_gnil, Bool.false_and]
    exact ⟨_, rfl⟩

end K84
end
section
namespace K84
open PySem Dx
open L2 (atI ixN)
theorem repl_one (c : Nat) : ∀ l : List Nat, PySem.StrLaws.replL [c] [] l = l.filter (fun x => !decide (x = c))
  | [] => rfl
  | a :: r => by
    have ih := repl_one c r
    unfold PySem.StrLaws.replL at ih ⊢
    rw [PySem.StrLaws.replS]
    by_cases h : a = c
    · subst h
      rw [if_pos (by simp), List.filter_cons_of_neg (by simp)]
      simpa using ih
    · rw [if_neg (by simpa using h), List.filter_cons_of_pos (by simpa using h)]
      rw [ih]
theorem ev_repl {y z x : List Nat} {da : Den} {env : DEnv} {s : Sto} (e : da env s = some (.str x, s)) (h : x.length + (x.length + 1) * z.length ≤ 16777216) (hy : 1 ≤ y.length) : dRepl y z da env s = some (.str (PySem.StrLaws.replL y z x), s) := by
  unfold dRepl
  rw [e]
  simp only [dReplG]
  rw [if_pos ⟨h, hy⟩]
theorem inS_str (x y : List Nat) : inSD (.str x) (.str y) = some (.bl (infB x y)) := rfl
theorem row_false {l : List Nat} (h : ¬ RowOk l) : rowB l = false := by
  cases q : rowB l with
  | false => rfl
  | true => exact absurd ((rowC_iff l).mp ((rowB_iff l).mp q)) h
theorem m__law_is_row (T : Ads) (l : List Nat) (s : Sto) (hl : l.length ≤ 1000000) : d__law_is_row T [.str l] s = some (.ret (.bl (rowB l)), s) := by
  have hl' : l.length ≤ 16777216 := by omega
  refine ev_funE (r := .bl (rowB l)) rfl ?_ (take_self s) rfl
  simp only [env0, List.map_cons, List.map_nil, List.length_cons, List.length_nil, List.replicate_succ, List.replicate_zero, List.cons_append, List.nil_append, Nat.reduceAdd, Nat.reduceSub]
  by_cases h0 : l = []
  · subst h0
    rw [row_false (l := []) (fun h => h.ne rfl)]
    simp -implicitDefEqProofs (maxSteps := 1000000) only [ev_seq, seqK_nx, seqK_rt, seqK_ex, seqK_bk, seqK_ct, ev_skip, ev_brk, ev_cont, ev_asg, ev_gN, ev_if, ev_ret, ev_expr, ev_raise, ev_new, ev_par, parK_ev, ev_tst, tstK_bl, ev_tru, ev_andT, ev_orT, ev_notT, ev_andE, ev_orE, ev_notE, ev_ifE, ev_V, varK_ev, ev_C, ev_op, ev_opF, ev_nil, ev_cons, ev_data, ev_lst, ev_tup, ev_CB, ev_CBF, ev_call, outK_ev, ev_neg, negK_ev, ev_so, soK_ev, ev_no, ev_slc, ev_slcF, fz_non, fz_bl, fz_int, fz_str, fz_scr, fz_lst, fz_tup, fz_obj, fz_exn, fz_last, fz_mid, fz_lastI, fz_lastF, vw_non, vw_bl, vw_int, vw_str, vw_scr, vw_lst, vw_tup, vw_obj, vw_ty, vw_cls, vw_exn, vw_last, vw_mid, vw_lastI, vw_lastF, st_last, st_set, st_take, st_mid, st_mset, st_mtake, add_int, add_str, add_lst, addL_lst, sub_int, mul_r, mul_l, mul_str, mul_lst, mulL_lst, div_int, mod_int, pow_18, pow_60, lt_int, le_int, gt_int, ge_int, eq_int, eq_str, ne_int, ne_str, eq_bl, isN_non, isN_tup, isN_lst, isN_str, isN_int, isN_bl, len_str, len_lst, len_tup, len_scr, int_int, max_int, min_int, tru_bl, tru_non, tru_int, tru_str, tru_lst, ix_lst, ix_tup, ix_scr, ix_str, Option.map_some, Option.map_none, slc_str, slc_lst, Option.bind_some, Option.bind_none, List.getElem?_cons_zero, List.getElem?_cons_succ, List.set_cons_zero, List.set_cons_succ, List.map_cons, List.map_nil, if_true, if_false, ite_true, ite_false, Bool.false_eq_true, decide_true, decide_false, Bool.not_true, Bool.not_false, reduceIte, sl_eq, eq_self, Nat.zero_le, List.length_cons, List.length_nil, List.length_map, ite_self, Int.natAbs_natCast, isObj_ev, ev_fld, fldK_obj, getF_hit, ev_prop, ev_own, ok_bl, ok_obj, list_lst, iso_ev, ev_asgX, asgX_ret, asgX_exc, ev_callX, i_non_bool, i_non_int, i_non_str, i_non_list, i_non_tuple, i_bl_bool, i_bl_int, i_bl_str, i_bl_list, i_bl_tuple, i_int_bool, i_int_int, i_int_str, i_int_list, i_int_tuple, i_str_bool, i_str_int, i_str_str, i_str_list, i_str_tuple, i_lst_bool, i_lst_int, i_lst_str, i_lst_list, i_lst_tuple, i_tup_bool, i_tup_int, i_tup_str, i_tup_list, i_tup_tuple, ev_appB, Int.reduceAbs, Nat.reduceLT, Nat.reduceLeDiff, Int.reduceLT, Int.reduceLE, Int.reduceEq, Int.reduceNe, Int.reduceAdd, Int.reduceSub, Int.reduceMul, Int.reduceNeg, Int.reduceMod, Int.reduceDiv, Nat.reduceAdd, Nat.reduceSub, Nat.reduceMul, Nat.reduceEqDiff, Int.reduceToNat, Nat.reduceGT, Int.reduceGT, Int.reduceGE, Nat.reduceMod, Nat.reduceDiv, Nat.reduceBEq, Nat.reduceBNe, Int.reduceBEq, Int.reduceBNe, appK_last, appK_mid, ev_sb, sbK_at, ev_gcons, ev_gnil, inS_str]
    exact ⟨_, rfl⟩
  by_cases h1 : l = [45]
  · subst h1
    rw [row_false (l := [45]) (fun h => h.fl ⟨rfl, rfl⟩)]
    simp -implicitDefEqProofs (maxSteps := 1000000) only [ev_seq, seqK_nx, seqK_rt, seqK_ex, seqK_bk, seqK_ct, ev_skip, ev_brk, ev_cont, ev_asg, ev_gN, ev_if, ev_ret, ev_expr, ev_raise, ev_new, ev_par, parK_ev, ev_tst, tstK_bl, ev_tru, ev_andT, ev_orT, ev_notT, ev_andE, ev_orE, ev_notE, ev_ifE, ev_V, varK_ev, ev_C, ev_op, ev_opF, ev_nil, ev_cons, ev_data, ev_lst, ev_tup, ev_CB, ev_CBF, ev_call, outK_ev, ev_neg, negK_ev, ev_so, soK_ev, ev_no, ev_slc, ev_slcF, fz_non, fz_bl, fz_int, fz_str, fz_scr, fz_lst, fz_tup, fz_obj, fz_exn, fz_last, fz_mid, fz_lastI, fz_lastF, vw_non, vw_bl, vw_int, vw_str, vw_scr, vw_lst, vw_tup, vw_obj, vw_ty, vw_cls, vw_exn, vw_last, vw_mid, vw_lastI, vw_lastF, st_last, st_set, st_take, st_mid, st_mset, st_mtake, add_int, add_str, add_lst, addL_lst, sub_int, mul_r, mul_l, mul_str, mul_lst, mulL_lst, div_int, mod_int, pow_18, pow_60, lt_int, le_int, gt_int, ge_int, eq_int, eq_str, ne_int, ne_str, eq_bl, isN_non, isN_tup, isN_lst, isN_str, isN_int, isN_bl, len_str, len_lst, len_tup, len_scr, int_int, max_int, min_int, tru_bl, tru_non, tru_int, tru_str, tru_lst, ix_lst, ix_tup, ix_scr, ix_str, Option.map_some, Option.map_none, slc_str, slc_lst, Option.bind_some, Option.bind_none, List.getElem?_cons_zero, List.getElem?_cons_succ, List.set_cons_zero, List.set_cons_succ, List.map_cons, List.map_nil, if_true, if_false, ite_true, ite_false, Bool.false_eq_true, decide_true, decide_false, Bool.not_true, Bool.not_false, reduceIte, sl_eq, eq_self, Nat.zero_le, List.length_cons, List.length_nil, List.length_map, ite_self, Int.natAbs_natCast, isObj_ev, ev_fld, fldK_obj, getF_hit, ev_prop, ev_own, ok_bl, ok_obj, list_lst, iso_ev, ev_asgX, asgX_ret, asgX_exc, ev_callX, i_non_bool, i_non_int, i_non_str, i_non_list, i_non_tuple, i_bl_bool, i_bl_int, i_bl_str, i_bl_list, i_bl_tuple, i_int_bool, i_int_int, i_int_str, i_int_list, i_int_tuple, i_str_bool, i_str_int, i_str_str, i_str_list, i_str_tuple, i_lst_bool, i_lst_int, i_lst_str, i_lst_list, i_lst_tuple, i_tup_bool, i_tup_int, i_tup_str, i_tup_list, i_tup_tuple, ev_appB, Int.reduceAbs, Nat.reduceLT, Nat.reduceLeDiff, Int.reduceLT, Int.reduceLE, Int.reduceEq, Int.reduceNe, Int.reduceAdd, Int.reduceSub, Int.reduceMul, Int.reduceNeg, Int.reduceMod, Int.reduceDiv, Nat.reduceAdd, Nat.reduceSub, Nat.reduceMul, Nat.reduceEqDiff, Int.reduceToNat, Nat.reduceGT, Int.reduceGT, Int.reduceGE, Nat.reduceMod, Nat.reduceDiv, Nat.reduceBEq, Nat.reduceBNe, Int.reduceBEq, Int.reduceBNe, appK_last, appK_mid, ev_sb, sbK_at, ev_gcons, ev_gnil, inS_str]
    exact ⟨_, rfl⟩
  cases h2 : infB [45, 45] l with
  | true =>
    rw [row_false (fun h => by rw [h.nn] at h2; cases h2)]
    simp -implicitDefEqProofs (maxSteps := 1000000) only [ev_seq, seqK_nx, seqK_rt, seqK_ex, seqK_bk, seqK_ct, ev_skip, ev_brk, ev_cont, ev_asg, ev_gN, ev_if, ev_ret, ev_expr, ev_raise, ev_new, ev_par, parK_ev, ev_tst, tstK_bl, ev_tru, ev_andT, ev_orT, ev_notT, ev_andE, ev_orE, ev_notE, ev_ifE, ev_V, varK_ev, ev_C, ev_op, ev_opF, ev_nil, ev_cons, ev_data, ev_lst, ev_tup, ev_CB, ev_CBF, ev_call, outK_ev, ev_neg, negK_ev, ev_so, soK_ev, ev_no, ev_slc, ev_slcF, fz_non, fz_bl, fz_int, fz_str, fz_scr, fz_lst, fz_tup, fz_obj, fz_exn, fz_last, fz_mid, fz_lastI, fz_lastF, vw_non, vw_bl, vw_int, vw_str, vw_scr, vw_lst, vw_tup, vw_obj, vw_ty, vw_cls, vw_exn, vw_last, vw_mid, vw_lastI, vw_lastF, st_last, st_set, st_take, st_mid, st_mset, st_mtake, add_int, add_str, add_lst, addL_lst, sub_int, mul_r, mul_l, mul_str, mul_lst, mulL_lst, div_int, mod_int, pow_18, pow_60, lt_int, le_int, gt_int, ge_int, eq_int, eq_str, ne_int, ne_str, eq_bl, isN_non, isN_tup, isN_lst, isN_str, isN_int, isN_bl, len_str, len_lst, len_tup, len_scr, int_int, max_int, min_int, tru_bl, tru_non, tru_int, tru_str, tru_lst, ix_lst, ix_tup, ix_scr, ix_str, Option.map_some, Option.map_none, slc_str, slc_lst, Option.bind_some, Option.bind_none, List.getElem?_cons_zero, List.getElem?_cons_succ, List.set_cons_zero, List.set_cons_succ, List.map_cons, List.map_nil, if_true, if_false, ite_true, ite_false, Bool.false_eq_true, decide_true, decide_false, Bool.not_true, Bool.not_false, reduceIte, sl_eq, eq_self, Nat.zero_le, List.length_cons, List.length_nil, List.length_map, ite_self, Int.natAbs_natCast, isObj_ev, ev_fld, fldK_obj, getF_hit, ev_prop, ev_own, ok_bl, ok_obj, list_lst, iso_ev, ev_asgX, asgX_ret, asgX_exc, ev_callX, i_non_bool, i_non_int, i_non_str, i_non_list, i_non_tuple, i_bl_bool, i_bl_int, i_bl_str, i_bl_list, i_bl_tuple, i_int_bool, i_int_int, i_int_str, i_int_list, i_int_tuple, i_str_bool, i_str_int, i_str_str, i_str_list, i_str_tuple, i_lst_bool, i_lst_int, i_lst_str, i_lst_list, i_lst_tuple, i_tup_bool, i_tup_int, i_tup_str, i_tup_list, i_tup_tuple, ev_appB, Int.reduceAbs, Nat.reduceLT, Nat.reduceLeDiff, Int.reduceLT, Int.reduceLE, Int.reduceEq, Int.reduceNe, Int.reduceAdd, Int.reduceSub, Int.reduceMul, Int.reduceNeg, Int.reduceMod, Int.reduceDiv, Nat.reduceAdd, Nat.reduceSub, Nat.reduceMul, Nat.reduceEqDiff, Int.reduceToNat, Nat.reduceGT, Int.reduceGT, Int.reduceGE, Nat.reduceMod, Nat.reduceDiv, Nat.reduceBEq, Nat.reduceBNe, Int.reduceBEq, Int.reduceBNe, appK_last, appK_mid, ev_sb, sbK_at, ev_gcons, ev_gnil, inS_str, h0, h1, h2]
    exact ⟨_, rfl⟩
  | false =>
    obtain ⟨c, hc⟩ : ∃ c, l.head? = some c := by
      cases l with
      | nil => exact absurd rfl h0
      | cons a r => exact ⟨a, rfl⟩
    obtain ⟨c2, hc2⟩ : ∃ c, l.getLast? = some c := ⟨l.getLast h0, List.getLast?_eq_some_getLast h0⟩
    have a0 : atI l 0 = some c := at_nat (n := 0) (by rw [← List.head?_eq_getElem?]; exact hc)
    have a1 : atI l (-1) = some c2 := by rw [at_last]; exact hc2
    have fin : (¬ (c = 45 ∧ c2 = 45)) → rowB l = decide ((l.filter (fun x => !decide (x = 45))).filter (fun x => !decide (x = 46)) = []) := fun hcc => by
      rw [Bool.eq_iff_iff, rowB_iff, rowC_iff, decide_eq_true_eq, List.filter_eq_nil_iff]
      constructor
      · intro h x hx hn
        obtain ⟨h3, h4⟩ := List.mem_filter.mp hx
        rcases h.ch x h3 with rfl | rfl
        · simp at h4
        · simp at hn
      · intro h
        refine ⟨h0, fun x hx => ?_, h2, ?_⟩
        · by_cases e1 : x = 45
          · exact .inl e1
          · by_cases e2 : x = 46
            · exact .inr e2
            · exact absurd (by simpa using e2) (h x (List.mem_filter.mpr ⟨hx, by simpa using e1⟩))
        · rw [hc, hc2]
          rintro ⟨q1, q2⟩
          exact hcc ⟨Option.some.inj q1, Option.some.inj q2⟩
    have r1 : dRepl [45] [] (dV 0) [some (.str l)] s = some (.str (l.filter fun x => !decide (x = 45)), s) := by
      rw [ev_repl (x := l) (by simp -implicitDefEqProofs (maxSteps := 1000000) only [ev_seq, seqK_nx, seqK_rt, seqK_ex, seqK_bk, seqK_ct, ev_skip, ev_brk, ev_cont, ev_asg, ev_gN, ev_if, ev_ret, ev_expr, ev_raise, ev_new, ev_par, parK_ev, ev_tst, tstK_bl, ev_tru, ev_andT, ev_orT, ev_notT, ev_andE, ev_orE, ev_notE, ev_ifE, ev_V, varK_ev, ev_C, ev_op, ev_opF, ev_nil, ev_cons, ev_data, ev_lst, ev_tup, ev_CB, ev_CBF, ev_call, outK_ev, ev_neg, negK_ev, ev_so, soK_ev, ev_no, ev_slc, ev_slcF, fz_non, fz_bl, fz_int, fz_str, fz_scr, fz_lst, fz_tup, fz_obj, fz_exn, fz_last, fz_mid, fz_lastI, fz_lastF, vw_non, vw_bl, vw_int, vw_str, vw_scr, vw_lst, vw_tup, vw_obj, vw_ty, vw_cls, vw_exn, vw_last, vw_mid, vw_lastI, vw_lastF, st_last, st_set, st_take, st_mid, st_mset, st_mtake, add_int, add_str, add_lst, addL_lst, sub_int, mul_r, mul_l, mul_str, mul_lst, mulL_lst, div_int, mod_int, pow_18, pow_60, lt_int, le_int, gt_int, ge_int, eq_int, eq_str, ne_int, ne_str, eq_bl, isN_non, isN_tup, isN_lst, isN_str, isN_int, isN_bl, len_str, len_lst, len_tup, len_scr, int_int, max_int, min_int, tru_bl, tru_non, tru_int, tru_str, tru_lst, ix_lst, ix_tup, ix_scr, ix_str, Option.map_some, Option.map_none, slc_str, slc_lst, Option.bind_some, Option.bind_none, List.getElem?_cons_zero, List.getElem?_cons_succ, List.set_cons_zero, List.set_cons_succ, List.map_cons, List.map_nil, if_true, if_false, ite_true, ite_false, Bool.false_eq_true, decide_true, decide_false, Bool.not_true, Bool.not_false, reduceIte, sl_eq, eq_self, Nat.zero_le, List.length_cons, List.length_nil, List.length_map, ite_self, Int.natAbs_natCast, isObj_ev, ev_fld, fldK_obj, getF_hit, ev_prop, ev_own, ok_bl, ok_obj, list_lst, iso_ev, ev_asgX, asgX_ret, asgX_exc, ev_callX, i_non_bool, i_non_int, i_non_str, i_non_list, i_non_tuple, i_bl_bool, i_bl_int, i_bl_str, i_bl_list, i_bl_tuple, i_int_bool, i_int_int, i_int_str, i_int_list, i_int_tuple, i_str_bool, i_str_int, i_str_str, i_str_list, i_str_tuple, i_lst_bool, i_lst_int, i_lst_str, i_lst_list, i_lst_tuple, i_tup_bool, i_tup_int, i_tup_str, i_tup_list, i_tup_tuple, ev_appB, Int.reduceAbs, Nat.reduceLT, Nat.reduceLeDiff, Int.reduceLT, Int.reduceLE, Int.reduceEq, Int.reduceNe, Int.reduceAdd, Int.reduceSub, Int.reduceMul, Int.reduceNeg, Int.reduceMod, Int.reduceDiv, Nat.reduceAdd, Nat.reduceSub, Nat.reduceMul, Nat.reduceEqDiff, Int.reduceToNat, Nat.reduceGT, Int.reduceGT, Int.reduceGE, Nat.reduceMod, Nat.reduceDiv, Nat.reduceBEq, Nat.reduceBNe, Int.reduceBEq, Int.reduceBNe, appK_last, appK_mid, ev_sb, sbK_at, ev_gcons, ev_gnil]) (by simp only [List.length_nil, Nat.mul_zero, Nat.add_zero]; exact hl') (by decide), repl_one]
    have r2 : dRepl [46] [] (dRepl [45] [] (dV 0)) [some (.str l)] s = some (.str ((l.filter fun x => !decide (x = 45)).filter fun x => !decide (x = 46)), s) := by
      rw [ev_repl r1 (by simp only [List.length_nil, Nat.mul_zero, Nat.add_zero]; have := List.length_filter_le (fun x => !decide (x = 45)) l; omega) (by decide), repl_one]
    by_cases h3 : c = 45
    · subst h3
      by_cases h4 : c2 = 45
      · subst h4
        rw [row_false (fun h => h.fl ⟨hc, hc2⟩)]
        simp -implicitDefEqProofs (maxSteps := 1000000) only [ev_seq, seqK_nx, seqK_rt, seqK_ex, seqK_bk, seqK_ct, ev_skip, ev_brk, ev_cont, ev_asg, ev_gN, ev_if, ev_ret, ev_expr, ev_raise, ev_new, ev_par, parK_ev, ev_tst, tstK_bl, ev_tru, ev_andT, ev_orT, ev_notT, ev_andE, ev_orE, ev_notE, ev_ifE, ev_V, varK_ev, ev_C, ev_op, ev_opF, ev_nil, ev_cons, ev_data, ev_lst, ev_tup, ev_CB, ev_CBF, ev_call, outK_ev, ev_neg, negK_ev, ev_so, soK_ev, ev_no, ev_slc, ev_slcF, fz_non, fz_bl, fz_int, fz_str, fz_scr, fz_lst, fz_tup, fz_obj, fz_exn, fz_last, fz_mid, fz_lastI, fz_lastF, vw_non, vw_bl, vw_int, vw_str, vw_scr, vw_lst, vw_tup, vw_obj, vw_ty, vw_cls, vw_exn, vw_last, vw_mid, vw_lastI, vw_lastF, st_last, st_set, st_take, st_mid, st_mset, st_mtake, add_int, add_str, add_lst, addL_lst, sub_int, mul_r, mul_l, mul_str, mul_lst, mulL_lst, div_int, mod_int, pow_18, pow_60, lt_int, le_int, gt_int, ge_int, eq_int, eq_str, ne_int, ne_str, eq_bl, isN_non, isN_tup, isN_lst, isN_str, isN_int, isN_bl, len_str, len_lst, len_tup, len_scr, int_int, max_int, min_int, tru_bl, tru_non, tru_int, tru_str, tru_lst, ix_lst, ix_tup, ix_scr, ix_str, Option.map_some, Option.map_none, slc_str, slc_lst, Option.bind_some, Option.bind_none, List.getElem?_cons_zero, List.getElem?_cons_succ, List.set_cons_zero, List.set_cons_succ, List.map_cons, List.map_nil, if_true, if_false, ite_true, ite_false, Bool.false_eq_true, decide_true, decide_false, Bool.not_true, Bool.not_false, reduceIte, sl_eq, eq_self, Nat.zero_le, List.length_cons, List.length_nil, List.length_map, ite_self, Int.natAbs_natCast, isObj_ev, ev_fld, fldK_obj, getF_hit, ev_prop, ev_own, ok_bl, ok_obj, list_lst, iso_ev, ev_asgX, asgX_ret, asgX_exc, ev_callX, i_non_bool, i_non_int, i_non_str, i_non_list, i_non_tuple, i_bl_bool, i_bl_int, i_bl_str, i_bl_list, i_bl_tuple, i_int_bool, i_int_int, i_int_str, i_int_list, i_int_tuple, i_str_bool, i_str_int, i_str_str, i_str_list, i_str_tuple, i_lst_bool, i_lst_int, i_lst_str, i_lst_list, i_lst_tuple, i_tup_bool, i_tup_int, i_tup_str, i_tup_list, i_tup_tuple, ev_appB, Int.reduceAbs, Nat.reduceLT, Nat.reduceLeDiff, Int.reduceLT, Int.reduceLE, Int.reduceEq, Int.reduceNe, Int.reduceAdd, Int.reduceSub, Int.reduceMul, Int.reduceNeg, Int.reduceMod, Int.reduceDiv, Nat.reduceAdd, Nat.reduceSub, Nat.reduceMul, Nat.reduceEqDiff, Int.reduceToNat, Nat.reduceGT, Int.reduceGT, Int.reduceGE, Nat.reduceMod, Nat.reduceDiv, Nat.reduceBEq, Nat.reduceBNe, Int.reduceBEq, Int.reduceBNe, appK_last, appK_mid, ev_sb, sbK_at, ev_gcons, ev_gnil, inS_str, h0, h1, h2, a0, a1, hl']
        exact ⟨_, rfl⟩
      · rw [fin (fun h => h4 h.2)]
        simp -implicitDefEqProofs (maxSteps := 1000000) only [ev_seq, seqK_nx, seqK_rt, seqK_ex, seqK_bk, seqK_ct, ev_skip, ev_brk, ev_cont, ev_asg, ev_gN, ev_if, ev_ret, ev_expr, ev_raise, ev_new, ev_par, parK_ev, ev_tst, tstK_bl, ev_tru, ev_andT, ev_orT, ev_notT, ev_andE, ev_orE, ev_notE, ev_ifE, ev_V, varK_ev, ev_C, ev_op, ev_opF, ev_nil, ev_cons, ev_data, ev_lst, ev_tup, ev_CB, ev_CBF, ev_call, outK_ev, ev_neg, negK_ev, ev_so, soK_ev, ev_no, ev_slc, ev_slcF, fz_non, fz_bl, fz_int, fz_str, fz_scr, fz_lst, fz_tup, fz_obj, fz_exn, fz_last, fz_mid, fz_lastI, fz_lastF, vw_non, vw_bl, vw_int, vw_str, vw_scr, vw_lst, vw_tup, vw_obj, vw_ty, vw_cls, vw_exn, vw_last, vw_mid, vw_lastI, vw_lastF, st_last, st_set, st_take, st_mid, st_mset, st_mtake, add_int, add_str, add_lst, addL_lst, sub_int, mul_r, mul_l, mul_str, mul_lst, mulL_lst, div_int, mod_int, pow_18, pow_60, lt_int, le_int, gt_int, ge_int, eq_int, eq_str, ne_int, ne_str, eq_bl, isN_non, isN_tup, isN_lst, isN_str, isN_int, isN_bl, len_str, len_lst, len_tup, len_scr, int_int, max_int, min_int, tru_bl, tru_non, tru_int, tru_str, tru_lst, ix_lst, ix_tup, ix_scr, ix_str, Option.map_some, Option.map_none, slc_str, slc_lst, Option.bind_some, Option.bind_none, List.getElem?_cons_zero, List.getElem?_cons_succ, List.set_cons_zero, List.set_cons_succ, List.map_cons, List.map_nil, if_true, if_false, ite_true, ite_false, Bool.false_eq_true, decide_true, decide_false, Bool.not_true, Bool.not_false, reduceIte, sl_eq, eq_self, Nat.zero_le, List.length_cons, List.length_nil, List.length_map, ite_self, Int.natAbs_natCast, isObj_ev, ev_fld, fldK_obj, getF_hit, ev_prop, ev_own, ok_bl, ok_obj, list_lst, iso_ev, ev_asgX, asgX_ret, asgX_exc, ev_callX, i_non_bool, i_non_int, i_non_str, i_non_list, i_non_tuple, i_bl_bool, i_bl_int, i_bl_str, i_bl_list, i_bl_tuple, i_int_bool, i_int_int, i_int_str, i_int_list, i_int_tuple, i_str_bool, i_str_int, i_str_str, i_str_list, i_str_tuple, i_lst_bool, i_lst_int, i_lst_str, i_lst_list, i_lst_tuple, i_tup_bool, i_tup_int, i_tup_str, i_tup_list, i_tup_tuple, ev_appB, Int.reduceAbs, Nat.reduceLT, Nat.reduceLeDiff, Int.reduceLT, Int.reduceLE, Int.reduceEq, Int.reduceNe, Int.reduceAdd, Int.reduceSub, Int.reduceMul, Int.reduceNeg, Int.reduceMod, Int.reduceDiv, Nat.reduceAdd, Nat.reduceSub, Nat.reduceMul, Nat.reduceEqDiff, Int.reduceToNat, Nat.reduceGT, Int.reduceGT, Int.reduceGE, Nat.reduceMod, Nat.reduceDiv, Nat.reduceBEq, Nat.reduceBNe, Int.reduceBEq, Int.reduceBNe, appK_last, appK_mid, ev_sb, sbK_at, ev_gcons, ev_gnil, inS_str, h0, h1, h2, a0, a1, hl', r2, h4, List.cons.injEq, and_true]
        exact ⟨_, rfl⟩
    · rw [fin (fun h => h3 h.1)]
      simp -implicitDefEqProofs (maxSteps := 1000000) only [ev_seq, seqK_nx, seqK_rt, seqK_ex, seqK_bk, seqK_ct, ev_skip, ev_brk, ev_cont, ev_asg, ev_gN, ev_if, ev_ret, ev_expr, ev_raise, ev_new, ev_par, parK_ev, ev_tst, tstK_bl, ev_tru, ev_andT, ev_orT, ev_notT, ev_andE, ev_orE, ev_notE, ev_ifE, ev_V, varK_ev, ev_C, ev_op, ev_opF, ev_nil, ev_cons, ev_data, ev_lst, ev_tup, ev_CB, ev_CBF, ev_call, outK_ev, ev_neg, negK_ev, ev_so, soK_ev, ev_no, ev_slc, ev_slcF, fz_non, fz_bl, fz_int, fz_str, fz_scr, fz_lst, fz_tup, fz_obj, fz_exn, fz_last, fz_mid, fz_lastI, fz_lastF, vw_non, vw_bl, vw_int, vw_str, vw_scr, vw_lst, vw_tup, vw_obj, vw_ty, vw_cls, vw_exn, vw_last, vw_mid, vw_lastI, vw_lastF, st_last, st_set, st_take, st_mid, st_mset, st_mtake, add_int, add_str, add_lst, addL_lst, sub_int, mul_r, mul_l, mul_str, mul_lst, mulL_lst, div_int, mod_int, pow_18, pow_60, lt_int, le_int, gt_int, ge_int, eq_int, eq_str, ne_int, ne_str, eq_bl, isN_non, isN_tup, isN_lst, isN_str, isN_int, isN_bl, len_str, len_lst, len_tup, len_scr, int_int, max_int, min_int, tru_bl, tru_non, tru_int, tru_str, tru_lst, ix_lst, ix_tup, ix_scr, ix_str, Option.map_some, Option.map_none, slc_str, slc_lst, Option.bind_some, Option.bind_none, List.getElem?_cons_zero, List.getElem?_cons_succ, List.set_cons_zero, List.set_cons_succ, List.map_cons, List.map_nil, if_true, if_false, ite_true, ite_false, Bool.false_eq_true, decide_true, decide_false, Bool.not_true, Bool.not_false, reduceIte, sl_eq, eq_self, Nat.zero_le, List.length_cons, List.length_nil, List.length_map, ite_self, Int.natAbs_natCast, isObj_ev, ev_fld, fldK_obj, getF_hit, ev_prop, ev_own, ok_bl, ok_obj, list_lst, iso_ev, ev_asgX, asgX_ret, asgX_exc, ev_callX, i_non_bool, i_non_int, i_non_str, i_non_list, i_non_tuple, i_bl_bool, i_bl_int, i_bl_str, i_bl_list, i_bl_tuple, i_int_bool, i_int_int, i_int_str, i_int_list, i_int_tuple, i_str_bool, i_str_int, i_str_str, i_str_list, i_str_tuple, i_lst_bool, i_lst_int, i_lst_str, i_lst_list, i_lst_tuple, i_tup_bool, i_tup_int, i_tup_str, i_tup_list, i_tup_tuple, ev_appB, Int.reduceAbs, Nat.reduceLT, Nat.reduceLeDiff, Int.reduceLT, Int.reduceLE, Int.reduceEq, Int.reduceNe, Int.reduceAdd, Int.reduceSub, Int.reduceMul, Int.reduceNeg, Int.reduceMod, Int.reduceDiv, Nat.reduceAdd, Nat.reduceSub, Nat.reduceMul, Nat.reduceEqDiff, Int.reduceToNat, Nat.reduceGT, Int.reduceGT, Int.reduceGE, Nat.reduceMod, Nat.reduceDiv, Nat.reduceBEq, Nat.reduceBNe, Int.reduceBEq, Int.reduceBNe, appK_last, appK_mid, ev_sb, sbK_at, ev_gcons, ev_gnil, inS_str, h0, h1, h2, a0, a1, hl', r2, h3, List.cons.injEq, and_true]
      exact ⟨_, rfl⟩
/-! signs, changes -/
theorem m__law_sign (T : Ads) (i : Int) (s : Sto) : ∃ c, d__law_sign T [.int i] s = some (.ret (.str [c]), s) := by
  have hL : ∀ L : List Nat, L.length = 94 → ∃ c, atI L (i % 94) = some c := fun L hl => by
    obtain ⟨k, hk, hk2⟩ := nat_of (d := i % 94) (l := 94) (Int.emod_nonneg _ (by decide)) (Int.emod_lt_of_pos _ (by decide))
    rw [hk]
    exact ⟨L[k]'(by omega), at_nat (List.getElem?_eq_getElem (by omega))⟩
  obtain ⟨c, hc⟩ := hL [126, 125, 124, 123, 122, 121, 120, 119, 118, 117, 116, 115, 114, 113, 112, 111, 110, 109, 108, 107, 106, 105, 104, 103, 102, 101, 100, 99, 98, 97, 95, 94, 93, 92, 91, 90, 89, 88, 87, 86, 85, 84, 83, 82, 81, 80, 79, 78, 77, 76, 75, 74, 73, 72, 71, 70, 69, 68, 67, 66, 65, 64, 63, 62, 61, 60, 59, 58, 57, 56, 55, 54, 53, 52, 51, 50, 49, 48, 47, 46, 45, 44, 43, 42, 41, 40, 39, 38, 36, 35, 34, 33, 32, 96] rfl
  refine ⟨c, ev_funE (r := .str [c]) rfl ?_ (take_self s) rfl⟩
  simp only [env0, List.map_cons, List.map_nil, List.length_cons, List.length_nil, List.replicate_succ, List.replicate_zero, List.cons_append, List.nil_append, Nat.reduceAdd, Nat.reduceSub]
  simp -implicitDefEqProofs (maxSteps := 1000000) only [ev_seq, seqK_nx, seqK_rt, seqK_ex, seqK_bk, seqK_ct, ev_skip, ev_brk, ev_cont, ev_asg, ev_gN, ev_if, ev_ret, ev_expr, ev_raise, ev_new, ev_par, parK_ev, ev_tst, tstK_bl, ev_tru, ev_andT, ev_orT, ev_notT, ev_andE, ev_orE, ev_notE, ev_ifE, ev_V, varK_ev, ev_C, ev_op, ev_opF, ev_nil, ev_cons, ev_data, ev_lst, ev_tup, ev_CB, ev_CBF, ev_call, outK_ev, ev_neg, negK_ev, ev_so, soK_ev, ev_no, ev_slc, ev_slcF, fz_non, fz_bl, fz_int, fz_str, fz_scr, fz_lst, fz_tup, fz_obj, fz_exn, fz_last, fz_mid, fz_lastI, fz_lastF, vw_non, vw_bl, vw_int, vw_str, vw_scr, vw_lst, vw_tup, vw_obj, vw_ty, vw_cls, vw_exn, vw_last, vw_mid, vw_lastI, vw_lastF, st_last, st_set, st_take, st_mid, st_mset, st_mtake, add_int, add_str, add_lst, addL_lst, sub_int, mul_r, mul_l, mul_str, mul_lst, mulL_lst, div_int, mod_int, pow_18, pow_60, lt_int, le_int, gt_int, ge_int, eq_int, eq_str, ne_int, ne_str, eq_bl, isN_non, isN_tup, isN_lst, isN_str, isN_int, isN_bl, len_str, len_lst, len_tup, len_scr, int_int, max_int, min_int, tru_bl, tru_non, tru_int, tru_str, tru_lst, ix_lst, ix_tup, ix_scr, ix_str, Option.map_some, Option.map_none, slc_str, slc_lst, Option.bind_some, Option.bind_none, List.getElem?_cons_zero, List.getElem?_cons_succ, List.set_cons_zero, List.set_cons_succ, List.map_cons, List.map_nil, if_true, if_false, ite_true, ite_false, Bool.false_eq_true, decide_true, decide_false, Bool.not_true, Bool.not_false, reduceIte, sl_eq, eq_self, Nat.zero_le, List.length_cons, List.length_nil, List.length_map, ite_self, Int.natAbs_natCast, isObj_ev, ev_fld, fldK_obj, getF_hit, ev_prop, ev_own, ok_bl, ok_obj, list_lst, iso_ev, ev_asgX, asgX_ret, asgX_exc, ev_callX, i_non_bool, i_non_int, i_non_str, i_non_list, i_non_tuple, i_bl_bool, i_bl_int, i_bl_str, i_bl_list, i_bl_tuple, i_int_bool, i_int_int, i_int_str, i_int_list, i_int_tuple, i_str_bool, i_str_int, i_str_str, i_str_list, i_str_tuple, i_lst_bool, i_lst_int, i_lst_str, i_lst_list, i_lst_tuple, i_tup_bool, i_tup_int, i_tup_str, i_tup_list, i_tup_tuple, ev_appB, Int.reduceAbs, Nat.reduceLT, Nat.reduceLeDiff, Int.reduceLT, Int.reduceLE, Int.reduceEq, Int.reduceNe, Int.reduceAdd, Int.reduceSub, Int.reduceMul, Int.reduceNeg, Int.reduceMod, Int.reduceDiv, Nat.reduceAdd, Nat.reduceSub, Nat.reduceMul, Nat.reduceEqDiff, Int.reduceToNat, Nat.reduceGT, Int.reduceGT, Int.reduceGE, Nat.reduceMod, Nat.reduceDiv, Nat.reduceBEq, Nat.reduceBNe, Int.reduceBEq, Int.reduceBNe, appK_last, appK_mid, ev_sb, sbK_at, ev_gcons, ev_gnil, hc]
  exact ⟨_, rfl⟩
theorem take5 {α : Type} {l : List α} {i : Nat} {a b c d e : α} (h0 : l[i]? = some a) (h1 : l[i + 1]? = some b) (h2 : l[i + 2]? = some c) (h3 : l[i + 3]? = some d) (h4 : l[i + 4]? = some e) : (l.drop i).take 5 = [a, b, c, d, e] := by
  obtain ⟨q0, r0⟩ := List.getElem?_eq_some_iff.mp h0
  obtain ⟨q1, r1⟩ := List.getElem?_eq_some_iff.mp h1
  obtain ⟨q2, r2⟩ := List.getElem?_eq_some_iff.mp h2
  obtain ⟨q3, r3⟩ := List.getElem?_eq_some_iff.mp h3
  obtain ⟨q4, r4⟩ := List.getElem?_eq_some_iff.mp h4
  rw [List.drop_eq_getElem_cons q0, List.drop_eq_getElem_cons q1, List.drop_eq_getElem_cons (i := i + 1 + 1) q2, List.drop_eq_getElem_cons (i := i + 1 + 1 + 1) q3, List.drop_eq_getElem_cons (i := i + 1 + 1 + 1 + 1) q4]
  simp only [List.take_succ_cons, List.take_zero, r0, r1]
  exact congrArg (fun x => a :: b :: x) (by rw [show l[i + 1 + 1] = c from r2, show l[i + 1 + 1 + 1] = d from r3, show l[i + 1 + 1 + 1 + 1] = e from r4])
def chI (ns : List Int) (a : Nat) (dr : List Int) (n : Nat) (s : Sto) (i : Nat) (env : DEnv) (s' : Sto) : Prop :=
  ∃ (l : List Nat) (x1 x2 x3 x4 x5 x6 x7 x8 : Option D), env = [some (.str l), some (.scr ns), some (.int a), some (.lst (dr.map D.int)), x1, x2, x3, x4, x5, x6, x7, x8] ∧ s = s' ∧ l.length ≤ n + i
theorem m__law_changed (T : Ads) (l : List Nat) (ns : List Int) (a : Nat) (s : Sto) (hl : l.length ≤ 100000) :
    ∃ l', d__law_changed T [.str l, .scr ns, .int a] s = some (.ret (.str l'), s) ∧ l'.length ≤ l.length + 4 := by
  have hpos : ∀ l ∈ ([4, 9, 3, 4, 2200, 4, 94, 3, 4, 2200, 4, 94, 3, 4, 2200, 4, 94, 3, 4, 2200, 4, 94] : List Int), 0 < l ∧ l < 18446744073709551616 := by decide
  have hdraw : d__law_draws T [.scr ns, .int a, .lst ([D.int 4, .int 9] ++ (List.replicate 4 [D.int 3, .int 4, .int 2200, .int 4, .int 94]).flatten)] s = _ := m__law_draws T ns a _ s hpos (by decide)
  have get := fun (i : Nat) (l : Int) (h : ([4, 9, 3, 4, 2200, 4, 94, 3, 4, 2200, 4, 94, 3, 4, 2200, 4, 94, 3, 4, 2200, 4, 94] : List Int)[i]? = some l) => draws_get ns a (fun l h => (hpos l h).1) h
  generalize drawsF ns a [4, 9, 3, 4, 2200, 4, 94, 3, 4, 2200, 4, 94, 3, 4, 2200, 4, 94, 3, 4, 2200, 4, 94] = dr at hdraw get
  obtain ⟨d0, e0, p0, q0⟩ := get 0 4 rfl
  obtain ⟨d1, e1, p1, q1⟩ := get 1 9 rfl
  obtain ⟨n0, rfl, q0'⟩ := nat_of p0 q0
  have hat0 : atI (dr.map D.int) 0 = some (.int n0) := at_nat (n := 0) (by rw [List.getElem?_map, e0]; rfl)
  have hat1 : atI (dr.map D.int) 1 = some (.int d1) := at_nat (n := 1) (by rw [List.getElem?_map, e1]; rfl)
  have five : ∀ k : Nat, k < 4 → ∃ (w kd p sg ch : Nat), cut (dr.map D.int) (some (2 + 5 * (k : Int))) (some (7 + 5 * (k : Int))) = [.int w, .int kd, .int p, .int sg, .int ch] ∧ sg < 4 := fun k hk => by
    have hk' : k = 0 ∨ k = 1 ∨ k = 2 ∨ k = 3 := by omega
    have lims : ([4, 9, 3, 4, 2200, 4, 94, 3, 4, 2200, 4, 94, 3, 4, 2200, 4, 94, 3, 4, 2200, 4, 94] : List Int)[2 + 5 * k]? = some 3 ∧ ([4, 9, 3, 4, 2200, 4, 94, 3, 4, 2200, 4, 94, 3, 4, 2200, 4, 94, 3, 4, 2200, 4, 94] : List Int)[2 + 5 * k + 1]? = some 4 ∧
        ([4, 9, 3, 4, 2200, 4, 94, 3, 4, 2200, 4, 94, 3, 4, 2200, 4, 94, 3, 4, 2200, 4, 94] : List Int)[2 + 5 * k + 2]? = some 2200 ∧ ([4, 9, 3, 4, 2200, 4, 94, 3, 4, 2200, 4, 94, 3, 4, 2200, 4, 94, 3, 4, 2200, 4, 94] : List Int)[2 + 5 * k + 3]? = some 4 ∧
        ([4, 9, 3, 4, 2200, 4, 94, 3, 4, 2200, 4, 94, 3, 4, 2200, 4, 94, 3, 4, 2200, 4, 94] : List Int)[2 + 5 * k + 4]? = some 94 := by
      rcases hk' with rfl | rfl | rfl | rfl <;> exact ⟨rfl, rfl, rfl, rfl, rfl⟩
    obtain ⟨l0, l1, l2, l3, l4⟩ := lims
    obtain ⟨a0, b0, c0, f0⟩ := get _ _ l0
    obtain ⟨a1, b1, c1, f1⟩ := get _ _ l1
    obtain ⟨a2, b2, c2, f2⟩ := get _ _ l2
    obtain ⟨a3, b3, c3, f3⟩ := get _ _ l3
    obtain ⟨a4, b4, c4, f4⟩ := get _ _ l4
    obtain ⟨w, rfl, _⟩ := nat_of c0 f0
    obtain ⟨kd, rfl, _⟩ := nat_of c1 f1
    obtain ⟨p, rfl, _⟩ := nat_of c2 f2
    obtain ⟨sg, rfl, _⟩ := nat_of c3 f3
    obtain ⟨ch, rfl, _⟩ := nat_of c4 f4
    have mp : ∀ (i : Nat) (v : Int), dr[i]? = some v → (dr.map D.int)[i]? = some (.int v) := fun i v h => by rw [List.getElem?_map, h]; rfl
    refine ⟨w, kd, p, sg, ch, ?_, by omega⟩
    rw [show (2 + 5 * (k : Int)) = ((2 + 5 * k : Nat) : Int) by omega, show (7 + 5 * (k : Int)) = ((7 + 5 * k : Nat) : Int) by omega, cut_both, show 7 + 5 * k - (2 + 5 * k) = 5 by omega]
    exact take5 (mp _ _ b0) (mp _ _ b1) (mp _ _ b2) (mp _ _ b3) (mp _ _ b4)
  have hsign := fun (i : Int) => m__law_sign T i s
  unfold d__law_changed
  refine ev_funP (fun _ => s) (fun (l' : List Nat) => .str l') (fun (l' : List Nat) => .str l') rfl (fun _ => take_self s) (fun _ _ => rfl) ?_
  simp only [env0, List.map_cons, List.map_nil, List.length_cons, List.length_nil, List.replicate_succ, List.replicate_zero, List.cons_append, List.nil_append, Nat.reduceAdd, Nat.reduceSub]
  generalize d__law_draws T = dd at hdraw
  have flat5 : (List.replicate 4 [D.int 3, .int 4, .int 2200, .int 4, .int 94]).flatten.length = 20 := rfl
  rw [ev_seq]
  have first : dAsg (dCall dd (dCons (dV 1) (dCons (dV 2) (dCons (dOp addD (dData (dLst (dCons (dC (.int 4)) (dCons (dC (.int 9)) dNil)))) (dOp mulD (dData (dLst (dCons (dC (.int 3)) (dCons (dC (.int 4)) (dCons (dC (.int 2200)) (dCons (dC (.int 4)) (dCons (dC (.int 94)) dNil))))))) (dC (.int 4)))) dNil)))) (gN 3)
      [some (.str l), some (.scr ns), some (.int a), none, none, none, none, none, none, none, none, none] s = some (.nx, [some (.str l), some (.scr ns), some (.int a), some (.lst (dr.map D.int)), none, none, none, none, none, none, none, none], s) := by
    simp -implicitDefEqProofs (maxSteps := 1000000) only [ev_seq, seqK_nx, seqK_rt, seqK_ex, seqK_bk, seqK_ct, ev_skip, ev_brk, ev_cont, ev_asg, ev_gN, ev_if, ev_ret, ev_expr, ev_raise, ev_new, ev_par, parK_ev, ev_tst, tstK_bl, ev_tru, ev_andT, ev_orT, ev_notT, ev_andE, ev_orE, ev_notE, ev_ifE, ev_V, varK_ev, ev_C, ev_op, ev_opF, ev_nil, ev_cons, ev_data, ev_lst, ev_tup, ev_CB, ev_CBF, ev_call, outK_ev, ev_neg, negK_ev, ev_so, soK_ev, ev_no, ev_slc, ev_slcF, fz_non, fz_bl, fz_int, fz_str, fz_scr, fz_lst, fz_tup, fz_obj, fz_exn, fz_last, fz_mid, fz_lastI, fz_lastF, vw_non, vw_bl, vw_int, vw_str, vw_scr, vw_lst, vw_tup, vw_obj, vw_ty, vw_cls, vw_exn, vw_last, vw_mid, vw_lastI, vw_lastF, st_last, st_set, st_take, st_mid, st_mset, st_mtake, add_int, add_str, add_lst, addL_lst, sub_int, mul_r, mul_l, mul_str, mul_lst, mulL_lst, div_int, mod_int, pow_18, pow_60, lt_int, le_int, gt_int, ge_int, eq_int, eq_str, ne_int, ne_str, eq_bl, isN_non, isN_tup, isN_lst, isN_str, isN_int, isN_bl, len_str, len_lst, len_tup, len_scr, int_int, max_int, min_int, tru_bl, tru_non, tru_int, tru_str, tru_lst, ix_lst, ix_tup, ix_scr, ix_str, Option.map_some, Option.map_none, slc_str, slc_lst, Option.bind_some, Option.bind_none, List.getElem?_cons_zero, List.getElem?_cons_succ, List.set_cons_zero, List.set_cons_succ, List.map_cons, List.map_nil, if_true, if_false, ite_true, ite_false, Bool.false_eq_true, decide_true, decide_false, Bool.not_true, Bool.not_false, reduceIte, sl_eq, eq_self, Nat.zero_le, List.length_cons, List.length_nil, List.length_map, ite_self, Int.natAbs_natCast, isObj_ev, ev_fld, fldK_obj, getF_hit, ev_prop, ev_own, ok_bl, ok_obj, list_lst, iso_ev, ev_asgX, asgX_ret, asgX_exc, ev_callX, i_non_bool, i_non_int, i_non_str, i_non_list, i_non_tuple, i_bl_bool, i_bl_int, i_bl_str, i_bl_list, i_bl_tuple, i_int_bool, i_int_int, i_int_str, i_int_list, i_int_tuple, i_str_bool, i_str_int, i_str_str, i_str_list, i_str_tuple, i_lst_bool, i_lst_int, i_lst_str, i_lst_list, i_lst_tuple, i_tup_bool, i_tup_int, i_tup_str, i_tup_list, i_tup_tuple, ev_appB, Int.reduceAbs, Nat.reduceLT, Nat.reduceLeDiff, Int.reduceLT, Int.reduceLE, Int.reduceEq, Int.reduceNe, Int.reduceAdd, Int.reduceSub, Int.reduceMul, Int.reduceNeg, Int.reduceMod, Int.reduceDiv, Nat.reduceAdd, Nat.reduceSub, Nat.reduceMul, Nat.reduceEqDiff, Int.reduceToNat, Nat.reduceGT, Int.reduceGT, Int.reduceGE, Nat.reduceMod, Nat.reduceDiv, Nat.reduceBEq, Nat.reduceBNe, Int.reduceBEq, Int.reduceBNe, appK_last, appK_mid, ev_sb, sbK_at, ev_gcons, ev_gnil, flat5, hdraw]
  rw [first]
  simp only [Option.bind_some, seqK_nx]
  rw [ev_seq]
  refine Exists.imp (fun l' h => ⟨h.2, h.1⟩) (show ∃ l' : List Nat, (∃ env', _ = some (Fl.rt (.str l'), env', s)) ∧ l'.length ≤ l.length + 4 from ?_)
  obtain ⟨l1, hl1, e1'⟩ : ∃ l1 : List Nat, l1.length ≤ l.length ∧ dIfS (dTst (dOp eqD (dOp idxD (dV 3) (dC (.int 1))) (dC (.int 8)))) (dAsg (dC (.str [])) (gN 0)) dSkip
      [some (.str l), some (.scr ns), some (.int a), some (.lst (dr.map D.int)), none, none, none, none, none, none, none, none] s = some (.nx, [some (.str l1), some (.scr ns), some (.int a), some (.lst (dr.map D.int)), none, none, none, none, none, none, none, none], s) := by
    by_cases h8 : d1 = 8
    · subst h8
      exact ⟨[], by simp, by simp -implicitDefEqProofs (maxSteps := 1000000) only [ev_seq, seqK_nx, seqK_rt, seqK_ex, seqK_bk, seqK_ct, ev_skip, ev_brk, ev_cont, ev_asg, ev_gN, ev_if, ev_ret, ev_expr, ev_raise, ev_new, ev_par, parK_ev, ev_tst, tstK_bl, ev_tru, ev_andT, ev_orT, ev_notT, ev_andE, ev_orE, ev_notE, ev_ifE, ev_V, varK_ev, ev_C, ev_op, ev_opF, ev_nil, ev_cons, ev_data, ev_lst, ev_tup, ev_CB, ev_CBF, ev_call, outK_ev, ev_neg, negK_ev, ev_so, soK_ev, ev_no, ev_slc, ev_slcF, fz_non, fz_bl, fz_int, fz_str, fz_scr, fz_lst, fz_tup, fz_obj, fz_exn, fz_last, fz_mid, fz_lastI, fz_lastF, vw_non, vw_bl, vw_int, vw_str, vw_scr, vw_lst, vw_tup, vw_obj, vw_ty, vw_cls, vw_exn, vw_last, vw_mid, vw_lastI, vw_lastF, st_last, st_set, st_take, st_mid, st_mset, st_mtake, add_int, add_str, add_lst, addL_lst, sub_int, mul_r, mul_l, mul_str, mul_lst, mulL_lst, div_int, mod_int, pow_18, pow_60, lt_int, le_int, gt_int, ge_int, eq_int, eq_str, ne_int, ne_str, eq_bl, isN_non, isN_tup, isN_lst, isN_str, isN_int, isN_bl, len_str, len_lst, len_tup, len_scr, int_int, max_int, min_int, tru_bl, tru_non, tru_int, tru_str, tru_lst, ix_lst, ix_tup, ix_scr, ix_str, Option.map_some, Option.map_none, slc_str, slc_lst, Option.bind_some, Option.bind_none, List.getElem?_cons_zero, List.getElem?_cons_succ, List.set_cons_zero, List.set_cons_succ, List.map_cons, List.map_nil, if_true, if_false, ite_true, ite_false, Bool.false_eq_true, decide_true, decide_false, Bool.not_true, Bool.not_false, reduceIte, sl_eq, eq_self, Nat.zero_le, List.length_cons, List.length_nil, List.length_map, ite_self, Int.natAbs_natCast, isObj_ev, ev_fld, fldK_obj, getF_hit, ev_prop, ev_own, ok_bl, ok_obj, list_lst, iso_ev, ev_asgX, asgX_ret, asgX_exc, ev_callX, i_non_bool, i_non_int, i_non_str, i_non_list, i_non_tuple, i_bl_bool, i_bl_int, i_bl_str, i_bl_list, i_bl_tuple, i_int_bool, i_int_int, i_int_str, i_int_list, i_int_tuple, i_str_bool, i_str_int, i_str_str, i_str_list, i_str_tuple, i_lst_bool, i_lst_int, i_lst_str, i_lst_list, i_lst_tuple, i_tup_bool, i_tup_int, i_tup_str, i_tup_list, i_tup_tuple, ev_appB, Int.reduceAbs, Nat.reduceLT, Nat.reduceLeDiff, Int.reduceLT, Int.reduceLE, Int.reduceEq, Int.reduceNe, Int.reduceAdd, Int.reduceSub, Int.reduceMul, Int.reduceNeg, Int.reduceMod, Int.reduceDiv, Nat.reduceAdd, Nat.reduceSub, Nat.reduceMul, Nat.reduceEqDiff, Int.reduceToNat, Nat.reduceGT, Int.reduceGT, Int.reduceGE, Nat.reduceMod, Nat.reduceDiv, Nat.reduceBEq, Nat.reduceBNe, Int.reduceBEq, Int.reduceBNe, appK_last, appK_mid, ev_sb, sbK_at, ev_gcons, ev_gnil, hat1]⟩
    · exact ⟨l, Nat.le_refl _, by simp -implicitDefEqProofs (maxSteps := 1000000) only [ev_seq, seqK_nx, seqK_rt, seqK_ex, seqK_bk, seqK_ct, ev_skip, ev_brk, ev_cont, ev_asg, ev_gN, ev_if, ev_ret, ev_expr, ev_raise, ev_new, ev_par, parK_ev, ev_tst, tstK_bl, ev_tru, ev_andT, ev_orT, ev_notT, ev_andE, ev_orE, ev_notE, ev_ifE, ev_V, varK_ev, ev_C, ev_op, ev_opF, ev_nil, ev_cons, ev_data, ev_lst, ev_tup, ev_CB, ev_CBF, ev_call, outK_ev, ev_neg, negK_ev, ev_so, soK_ev, ev_no, ev_slc, ev_slcF, fz_non, fz_bl, fz_int, fz_str, fz_scr, fz_lst, fz_tup, fz_obj, fz_exn, fz_last, fz_mid, fz_lastI, fz_lastF, vw_non, vw_bl, vw_int, vw_str, vw_scr, vw_lst, vw_tup, vw_obj, vw_ty, vw_cls, vw_exn, vw_last, vw_mid, vw_lastI, vw_lastF, st_last, st_set, st_take, st_mid, st_mset, st_mtake, add_int, add_str, add_lst, addL_lst, sub_int, mul_r, mul_l, mul_str, mul_lst, mulL_lst, div_int, mod_int, pow_18, pow_60, lt_int, le_int, gt_int, ge_int, eq_int, eq_str, ne_int, ne_str, eq_bl, isN_non, isN_tup, isN_lst, isN_str, isN_int, isN_bl, len_str, len_lst, len_tup, len_scr, int_int, max_int, min_int, tru_bl, tru_non, tru_int, tru_str, tru_lst, ix_lst, ix_tup, ix_scr, ix_str, Option.map_some, Option.map_none, slc_str, slc_lst, Option.bind_some, Option.bind_none, List.getElem?_cons_zero, List.getElem?_cons_succ, List.set_cons_zero, List.set_cons_succ, List.map_cons, List.map_nil, if_true, if_false, ite_true, ite_false, Bool.false_eq_true, decide_true, decide_false, Bool.not_true, Bool.not_false, reduceIte, sl_eq, eq_self, Nat.zero_le, List.length_cons, List.length_nil, List.length_map, ite_self, Int.natAbs_natCast, isObj_ev, ev_fld, fldK_obj, getF_hit, ev_prop, ev_own, ok_bl, ok_obj, list_lst, iso_ev, ev_asgX, asgX_ret, asgX_exc, ev_callX, i_non_bool, i_non_int, i_non_str, i_non_list, i_non_tuple, i_bl_bool, i_bl_int, i_bl_str, i_bl_list, i_bl_tuple, i_int_bool, i_int_int, i_int_str, i_int_list, i_int_tuple, i_str_bool, i_str_int, i_str_str, i_str_list, i_str_tuple, i_lst_bool, i_lst_int, i_lst_str, i_lst_list, i_lst_tuple, i_tup_bool, i_tup_int, i_tup_str, i_tup_list, i_tup_tuple, ev_appB, Int.reduceAbs, Nat.reduceLT, Nat.reduceLeDiff, Int.reduceLT, Int.reduceLE, Int.reduceEq, Int.reduceNe, Int.reduceAdd, Int.reduceSub, Int.reduceMul, Int.reduceNeg, Int.reduceMod, Int.reduceDiv, Nat.reduceAdd, Nat.reduceSub, Nat.reduceMul, Nat.reduceEqDiff, Int.reduceToNat, Nat.reduceGT, Int.reduceGT, Int.reduceGE, Nat.reduceMod, Nat.reduceDiv, Nat.reduceBEq, Nat.reduceBNe, Int.reduceBEq, Int.reduceBNe, appK_last, appK_mid, ev_sb, sbK_at, ev_gcons, ev_gnil, hat1, h8]⟩
  rw [e1']
  simp only [Option.bind_some, seqK_nx]
  have en : 1 + (n0 : Int) = ((1 + n0 : Nat) : Int) := rfl
  rw [ev_seq, ev_for, ev_R1 (n := ((1 + n0 : Nat) : Int)) (s1 := s) (by simp -implicitDefEqProofs (maxSteps := 1000000) only [ev_seq, seqK_nx, seqK_rt, seqK_ex, seqK_bk, seqK_ct, ev_skip, ev_brk, ev_cont, ev_asg, ev_gN, ev_if, ev_ret, ev_expr, ev_raise, ev_new, ev_par, parK_ev, ev_tst, tstK_bl, ev_tru, ev_andT, ev_orT, ev_notT, ev_andE, ev_orE, ev_notE, ev_ifE, ev_V, varK_ev, ev_C, ev_op, ev_opF, ev_nil, ev_cons, ev_data, ev_lst, ev_tup, ev_CB, ev_CBF, ev_call, outK_ev, ev_neg, negK_ev, ev_so, soK_ev, ev_no, ev_slc, ev_slcF, fz_non, fz_bl, fz_int, fz_str, fz_scr, fz_lst, fz_tup, fz_obj, fz_exn, fz_last, fz_mid, fz_lastI, fz_lastF, vw_non, vw_bl, vw_int, vw_str, vw_scr, vw_lst, vw_tup, vw_obj, vw_ty, vw_cls, vw_exn, vw_last, vw_mid, vw_lastI, vw_lastF, st_last, st_set, st_take, st_mid, st_mset, st_mtake, add_int, add_str, add_lst, addL_lst, sub_int, mul_r, mul_l, mul_str, mul_lst, mulL_lst, div_int, mod_int, pow_18, pow_60, lt_int, le_int, gt_int, ge_int, eq_int, eq_str, ne_int, ne_str, eq_bl, isN_non, isN_tup, isN_lst, isN_str, isN_int, isN_bl, len_str, len_lst, len_tup, len_scr, int_int, max_int, min_int, tru_bl, tru_non, tru_int, tru_str, tru_lst, ix_lst, ix_tup, ix_scr, ix_str, Option.map_some, Option.map_none, slc_str, slc_lst, Option.bind_some, Option.bind_none, List.getElem?_cons_zero, List.getElem?_cons_succ, List.set_cons_zero, List.set_cons_succ, List.map_cons, List.map_nil, if_true, if_false, ite_true, ite_false, Bool.false_eq_true, decide_true, decide_false, Bool.not_true, Bool.not_false, reduceIte, sl_eq, eq_self, Nat.zero_le, List.length_cons, List.length_nil, List.length_map, ite_self, Int.natAbs_natCast, isObj_ev, ev_fld, fldK_obj, getF_hit, ev_prop, ev_own, ok_bl, ok_obj, list_lst, iso_ev, ev_asgX, asgX_ret, asgX_exc, ev_callX, i_non_bool, i_non_int, i_non_str, i_non_list, i_non_tuple, i_bl_bool, i_bl_int, i_bl_str, i_bl_list, i_bl_tuple, i_int_bool, i_int_int, i_int_str, i_int_list, i_int_tuple, i_str_bool, i_str_int, i_str_str, i_str_list, i_str_tuple, i_lst_bool, i_lst_int, i_lst_str, i_lst_list, i_lst_tuple, i_tup_bool, i_tup_int, i_tup_str, i_tup_list, i_tup_tuple, ev_appB, Int.reduceAbs, Nat.reduceLT, Nat.reduceLeDiff, Int.reduceLT, Int.reduceLE, Int.reduceEq, Int.reduceNe, Int.reduceAdd, Int.reduceSub, Int.reduceMul, Int.reduceNeg, Int.reduceMod, Int.reduceDiv, Nat.reduceAdd, Nat.reduceSub, Nat.reduceMul, Nat.reduceEqDiff, Int.reduceToNat, Nat.reduceGT, Int.reduceGT, Int.reduceGE, Nat.reduceMod, Nat.reduceDiv, Nat.reduceBEq, Nat.reduceBNe, Int.reduceBEq, Int.reduceBNe, appK_last, appK_mid, ev_sb, sbK_at, ev_gcons, ev_gnil, hat0, en]) (by omega) (by omega)]
  simp only [Option.bind_some, Int.toNat_natCast]
  obtain ⟨env', s', e, l2, x1, x2, x3, x4, x5, x6, x7, x8, rfl, rfl, hl2⟩ := for_all (g := gN 4) (b := b1__law_changed T) (gd := none) (chI ns a dr l.length s) (items := rangeL 0 (1 + n0)) 0 (env := [some (.str l1), some (.scr ns), some (.int a), some (.lst (dr.map D.int)), none, none, none, none, none, none, none, none]) (s := s)
    ⟨l1, none, none, none, none, none, none, none, none, rfl, rfl, hl1⟩ (fun _ _ _ _ => trivial) (by
    rintro k d env s' hk ⟨l2, x1, x2, x3, x4, x5, x6, x7, x8, rfl, rfl, hl2⟩
    obtain ⟨hlt, rfl⟩ := range_get hk
    refine ⟨_, _, rfl, ?_⟩
    obtain ⟨w, kd, p, sg, ch, hcut, hsg⟩ := five k (by omega)
    have b1 : (0 : Int) < (l2.length : Int) + 1 := by omega
    have b2 : l2.length ≤ 16777216 := by omega
    have ep : (p : Int) % ((l2.length : Int) + 1) = ((p % (l2.length + 1) : Nat) : Int) := rfl
    have hsp : p % (l2.length + 1) ≤ l2.length := Nat.le_of_lt_succ (Nat.mod_lt _ (by omega))
    generalize p % (l2.length + 1) = sp at ep hsp
    have esp : (sp : Int) + 1 = ((sp + 1 : Nat) : Int) := rfl
    obtain ⟨c, hc⟩ : ∃ c, atI [45, 46, 47, 46] (sg : Int) = some c := ⟨([45, 46, 47, 46] : List Nat)[sg]'(by simpa using hsg), at_nat (List.getElem?_eq_getElem (by simpa using hsg))⟩
    obtain ⟨c2, hc2⟩ := hsign (ch : Int)
    unfold b1__law_changed
    generalize d__law_sign T = ds at hc2
    have t1 : (l2.take sp).length + 1 ≤ 16777216 := by rw [List.length_take]; omega
    have t2 : ∀ q : Nat, (l2.take sp ++ [q]).length + (l2.drop sp).length ≤ 16777216 := fun q => by rw [List.length_append, List.length_take, List.length_drop, List.length_singleton]; omega
    have t3 : ∀ q : Nat, (l2.take sp ++ [q]).length + (l2.drop (sp + 1)).length ≤ 16777216 := fun q => by rw [List.length_append, List.length_take, List.length_drop, List.length_singleton]; omega
    have t4 : (l2.take sp).length + (l2.drop (sp + 1)).length ≤ 16777216 := by rw [List.length_take, List.length_drop]; omega
    have g1 : ∀ q : Nat, (l2.take sp ++ [q] ++ l2.drop sp).length ≤ l.length + (0 + k + 1) := fun q => by rw [List.length_append, List.length_append, List.length_take, List.length_drop, List.length_singleton]; omega
    have g2 : (l2.take sp ++ l2.drop (sp + 1)).length ≤ l.length + (0 + k + 1) := by rw [List.length_append, List.length_take, List.length_drop]; omega
    have g3 : ∀ q : Nat, (l2.take sp ++ [q] ++ l2.drop (sp + 1)).length ≤ l.length + (0 + k + 1) := fun q => by rw [List.length_append, List.length_append, List.length_take, List.length_drop, List.length_singleton]; omega
    rw [ev_seq]
    refine goes_bind (y := (.nx, [some (.str l2), some (.scr ns), some (.int a), some (.lst (dr.map D.int)), some (.int (0 + (k : Int))), some (.int w), some (.int kd), some (.int p), some (.int sg), some (.int ch), x7, x8], s)) (by simp -implicitDefEqProofs (maxSteps := 1000000) only [ev_seq, seqK_nx, seqK_rt, seqK_ex, seqK_bk, seqK_ct, ev_skip, ev_brk, ev_cont, ev_asg, ev_gN, ev_if, ev_ret, ev_expr, ev_raise, ev_new, ev_par, parK_ev, ev_tst, tstK_bl, ev_tru, ev_andT, ev_orT, ev_notT, ev_andE, ev_orE, ev_notE, ev_ifE, ev_V, varK_ev, ev_C, ev_op, ev_opF, ev_nil, ev_cons, ev_data, ev_lst, ev_tup, ev_CB, ev_CBF, ev_call, outK_ev, ev_neg, negK_ev, ev_so, soK_ev, ev_no, ev_slc, ev_slcF, fz_non, fz_bl, fz_int, fz_str, fz_scr, fz_lst, fz_tup, fz_obj, fz_exn, fz_last, fz_mid, fz_lastI, fz_lastF, vw_non, vw_bl, vw_int, vw_str, vw_scr, vw_lst, vw_tup, vw_obj, vw_ty, vw_cls, vw_exn, vw_last, vw_mid, vw_lastI, vw_lastF, st_last, st_set, st_take, st_mid, st_mset, st_mtake, add_int, add_str, add_lst, addL_lst, sub_int, mul_r, mul_l, mul_str, mul_lst, mulL_lst, div_int, mod_int, pow_18, pow_60, lt_int, le_int, gt_int, ge_int, eq_int, eq_str, ne_int, ne_str, eq_bl, isN_non, isN_tup, isN_lst, isN_str, isN_int, isN_bl, len_str, len_lst, len_tup, len_scr, int_int, max_int, min_int, tru_bl, tru_non, tru_int, tru_str, tru_lst, ix_lst, ix_tup, ix_scr, ix_str, Option.map_some, Option.map_none, slc_str, slc_lst, Option.bind_some, Option.bind_none, List.getElem?_cons_zero, List.getElem?_cons_succ, List.set_cons_zero, List.set_cons_succ, List.map_cons, List.map_nil, if_true, if_false, ite_true, ite_false, Bool.false_eq_true, decide_true, decide_false, Bool.not_true, Bool.not_false, reduceIte, sl_eq, eq_self, Nat.zero_le, List.length_cons, List.length_nil, List.length_map, ite_self, Int.natAbs_natCast, isObj_ev, ev_fld, fldK_obj, getF_hit, ev_prop, ev_own, ok_bl, ok_obj, list_lst, iso_ev, ev_asgX, asgX_ret, asgX_exc, ev_callX, i_non_bool, i_non_int, i_non_str, i_non_list, i_non_tuple, i_bl_bool, i_bl_int, i_bl_str, i_bl_list, i_bl_tuple, i_int_bool, i_int_int, i_int_str, i_int_list, i_int_tuple, i_str_bool, i_str_int, i_str_str, i_str_list, i_str_tuple, i_lst_bool, i_lst_int, i_lst_str, i_lst_list, i_lst_tuple, i_tup_bool, i_tup_int, i_tup_str, i_tup_list, i_tup_tuple, ev_appB, Int.reduceAbs, Nat.reduceLT, Nat.reduceLeDiff, Int.reduceLT, Int.reduceLE, Int.reduceEq, Int.reduceNe, Int.reduceAdd, Int.reduceSub, Int.reduceMul, Int.reduceNeg, Int.reduceMod, Int.reduceDiv, Nat.reduceAdd, Nat.reduceSub, Nat.reduceMul, Nat.reduceEqDiff, Int.reduceToNat, Nat.reduceGT, Int.reduceGT, Int.reduceGE, Nat.reduceMod, Nat.reduceDiv, Nat.reduceBEq, Nat.reduceBNe, Int.reduceBEq, Int.reduceBNe, appK_last, appK_mid, ev_sb, sbK_at, ev_gcons, ev_gnil, Int.zero_add, hcut, tl_lst]) ?_
    simp only [seqK_nx]
    rw [ev_seq]
    refine goes_bind (y := (.nx, [some (.str l2), some (.scr ns), some (.int a), some (.lst (dr.map D.int)), some (.int (0 + (k : Int))), some (.int w), some (.int kd), some (.int p), some (.int sg), some (.int ch), some (.int sp), x8], s)) (by simp -implicitDefEqProofs (maxSteps := 1000000) only [ev_seq, seqK_nx, seqK_rt, seqK_ex, seqK_bk, seqK_ct, ev_skip, ev_brk, ev_cont, ev_asg, ev_gN, ev_if, ev_ret, ev_expr, ev_raise, ev_new, ev_par, parK_ev, ev_tst, tstK_bl, ev_tru, ev_andT, ev_orT, ev_notT, ev_andE, ev_orE, ev_notE, ev_ifE, ev_V, varK_ev, ev_C, ev_op, ev_opF, ev_nil, ev_cons, ev_data, ev_lst, ev_tup, ev_CB, ev_CBF, ev_call, outK_ev, ev_neg, negK_ev, ev_so, soK_ev, ev_no, ev_slc, ev_slcF, fz_non, fz_bl, fz_int, fz_str, fz_scr, fz_lst, fz_tup, fz_obj, fz_exn, fz_last, fz_mid, fz_lastI, fz_lastF, vw_non, vw_bl, vw_int, vw_str, vw_scr, vw_lst, vw_tup, vw_obj, vw_ty, vw_cls, vw_exn, vw_last, vw_mid, vw_lastI, vw_lastF, st_last, st_set, st_take, st_mid, st_mset, st_mtake, add_int, add_str, add_lst, addL_lst, sub_int, mul_r, mul_l, mul_str, mul_lst, mulL_lst, div_int, mod_int, pow_18, pow_60, lt_int, le_int, gt_int, ge_int, eq_int, eq_str, ne_int, ne_str, eq_bl, isN_non, isN_tup, isN_lst, isN_str, isN_int, isN_bl, len_str, len_lst, len_tup, len_scr, int_int, max_int, min_int, tru_bl, tru_non, tru_int, tru_str, tru_lst, ix_lst, ix_tup, ix_scr, ix_str, Option.map_some, Option.map_none, slc_str, slc_lst, Option.bind_some, Option.bind_none, List.getElem?_cons_zero, List.getElem?_cons_succ, List.set_cons_zero, List.set_cons_succ, List.map_cons, List.map_nil, if_true, if_false, ite_true, ite_false, Bool.false_eq_true, decide_true, decide_false, Bool.not_true, Bool.not_false, reduceIte, sl_eq, eq_self, Nat.zero_le, List.length_cons, List.length_nil, List.length_map, ite_self, Int.natAbs_natCast, isObj_ev, ev_fld, fldK_obj, getF_hit, ev_prop, ev_own, ok_bl, ok_obj, list_lst, iso_ev, ev_asgX, asgX_ret, asgX_exc, ev_callX, i_non_bool, i_non_int, i_non_str, i_non_list, i_non_tuple, i_bl_bool, i_bl_int, i_bl_str, i_bl_list, i_bl_tuple, i_int_bool, i_int_int, i_int_str, i_int_list, i_int_tuple, i_str_bool, i_str_int, i_str_str, i_str_list, i_str_tuple, i_lst_bool, i_lst_int, i_lst_str, i_lst_list, i_lst_tuple, i_tup_bool, i_tup_int, i_tup_str, i_tup_list, i_tup_tuple, ev_appB, Int.reduceAbs, Nat.reduceLT, Nat.reduceLeDiff, Int.reduceLT, Int.reduceLE, Int.reduceEq, Int.reduceNe, Int.reduceAdd, Int.reduceSub, Int.reduceMul, Int.reduceNeg, Int.reduceMod, Int.reduceDiv, Nat.reduceAdd, Nat.reduceSub, Nat.reduceMul, Nat.reduceEqDiff, Int.reduceToNat, Nat.reduceGT, Int.reduceGT, Int.reduceGE, Nat.reduceMod, Nat.reduceDiv, Nat.reduceBEq, Nat.reduceBNe, Int.reduceBEq, Int.reduceBNe, appK_last, appK_mid, ev_sb, sbK_at, ev_gcons, ev_gnil, Int.zero_add, b1, b2, ep]) ?_
    simp only [seqK_nx]
    rw [ev_seq]
    refine goes_bind (y := (.nx, [some (.str l2), some (.scr ns), some (.int a), some (.lst (dr.map D.int)), some (.int (0 + (k : Int))), some (.int w), some (.int kd), some (.int p), some (.int sg), some (.int ch), some (.int sp), some (.str [c])], s)) (by simp -implicitDefEqProofs (maxSteps := 1000000) only [ev_seq, seqK_nx, seqK_rt, seqK_ex, seqK_bk, seqK_ct, ev_skip, ev_brk, ev_cont, ev_asg, ev_gN, ev_if, ev_ret, ev_expr, ev_raise, ev_new, ev_par, parK_ev, ev_tst, tstK_bl, ev_tru, ev_andT, ev_orT, ev_notT, ev_andE, ev_orE, ev_notE, ev_ifE, ev_V, varK_ev, ev_C, ev_op, ev_opF, ev_nil, ev_cons, ev_data, ev_lst, ev_tup, ev_CB, ev_CBF, ev_call, outK_ev, ev_neg, negK_ev, ev_so, soK_ev, ev_no, ev_slc, ev_slcF, fz_non, fz_bl, fz_int, fz_str, fz_scr, fz_lst, fz_tup, fz_obj, fz_exn, fz_last, fz_mid, fz_lastI, fz_lastF, vw_non, vw_bl, vw_int, vw_str, vw_scr, vw_lst, vw_tup, vw_obj, vw_ty, vw_cls, vw_exn, vw_last, vw_mid, vw_lastI, vw_lastF, st_last, st_set, st_take, st_mid, st_mset, st_mtake, add_int, add_str, add_lst, addL_lst, sub_int, mul_r, mul_l, mul_str, mul_lst, mulL_lst, div_int, mod_int, pow_18, pow_60, lt_int, le_int, gt_int, ge_int, eq_int, eq_str, ne_int, ne_str, eq_bl, isN_non, isN_tup, isN_lst, isN_str, isN_int, isN_bl, len_str, len_lst, len_tup, len_scr, int_int, max_int, min_int, tru_bl, tru_non, tru_int, tru_str, tru_lst, ix_lst, ix_tup, ix_scr, ix_str, Option.map_some, Option.map_none, slc_str, slc_lst, Option.bind_some, Option.bind_none, List.getElem?_cons_zero, List.getElem?_cons_succ, List.set_cons_zero, List.set_cons_succ, List.map_cons, List.map_nil, if_true, if_false, ite_true, ite_false, Bool.false_eq_true, decide_true, decide_false, Bool.not_true, Bool.not_false, reduceIte, sl_eq, eq_self, Nat.zero_le, List.length_cons, List.length_nil, List.length_map, ite_self, Int.natAbs_natCast, isObj_ev, ev_fld, fldK_obj, getF_hit, ev_prop, ev_own, ok_bl, ok_obj, list_lst, iso_ev, ev_asgX, asgX_ret, asgX_exc, ev_callX, i_non_bool, i_non_int, i_non_str, i_non_list, i_non_tuple, i_bl_bool, i_bl_int, i_bl_str, i_bl_list, i_bl_tuple, i_int_bool, i_int_int, i_int_str, i_int_list, i_int_tuple, i_str_bool, i_str_int, i_str_str, i_str_list, i_str_tuple, i_lst_bool, i_lst_int, i_lst_str, i_lst_list, i_lst_tuple, i_tup_bool, i_tup_int, i_tup_str, i_tup_list, i_tup_tuple, ev_appB, Int.reduceAbs, Nat.reduceLT, Nat.reduceLeDiff, Int.reduceLT, Int.reduceLE, Int.reduceEq, Int.reduceNe, Int.reduceAdd, Int.reduceSub, Int.reduceMul, Int.reduceNeg, Int.reduceMod, Int.reduceDiv, Nat.reduceAdd, Nat.reduceSub, Nat.reduceMul, Nat.reduceEqDiff, Int.reduceToNat, Nat.reduceGT, Int.reduceGT, Int.reduceGE, Nat.reduceMod, Nat.reduceDiv, Nat.reduceBEq, Nat.reduceBNe, Int.reduceBEq, Int.reduceBNe, appK_last, appK_mid, ev_sb, sbK_at, ev_gcons, ev_gnil, hc]) ?_
    simp only [seqK_nx]
    rw [ev_seq]
    refine goes_bind (y := (.nx, [some (.str l2), some (.scr ns), some (.int a), some (.lst (dr.map D.int)), some (.int (0 + (k : Int))), some (.int w), some (.int kd), some (.int p), some (.int sg), some (.int ch), some (.int sp), some (.str [if (kd : Int) = 3 then c2 else c])], s)) ?_ ?_
    · by_cases h : (kd : Int) = 3
      · simp -implicitDefEqProofs (maxSteps := 1000000) only [ev_seq, seqK_nx, seqK_rt, seqK_ex, seqK_bk, seqK_ct, ev_skip, ev_brk, ev_cont, ev_asg, ev_gN, ev_if, ev_ret, ev_expr, ev_raise, ev_new, ev_par, parK_ev, ev_tst, tstK_bl, ev_tru, ev_andT, ev_orT, ev_notT, ev_andE, ev_orE, ev_notE, ev_ifE, ev_V, varK_ev, ev_C, ev_op, ev_opF, ev_nil, ev_cons, ev_data, ev_lst, ev_tup, ev_CB, ev_CBF, ev_call, outK_ev, ev_neg, negK_ev, ev_so, soK_ev, ev_no, ev_slc, ev_slcF, fz_non, fz_bl, fz_int, fz_str, fz_scr, fz_lst, fz_tup, fz_obj, fz_exn, fz_last, fz_mid, fz_lastI, fz_lastF, vw_non, vw_bl, vw_int, vw_str, vw_scr, vw_lst, vw_tup, vw_obj, vw_ty, vw_cls, vw_exn, vw_last, vw_mid, vw_lastI, vw_lastF, st_last, st_set, st_take, st_mid, st_mset, st_mtake, add_int, add_str, add_lst, addL_lst, sub_int, mul_r, mul_l, mul_str, mul_lst, mulL_lst, div_int, mod_int, pow_18, pow_60, lt_int, le_int, gt_int, ge_int, eq_int, eq_str, ne_int, ne_str, eq_bl, isN_non, isN_tup, isN_lst, isN_str, isN_int, isN_bl, len_str, len_lst, len_tup, len_scr, int_int, max_int, min_int, tru_bl, tru_non, tru_int, tru_str, tru_lst, ix_lst, ix_tup, ix_scr, ix_str, Option.map_some, Option.map_none, slc_str, slc_lst, Option.bind_some, Option.bind_none, List.getElem?_cons_zero, List.getElem?_cons_succ, List.set_cons_zero, List.set_cons_succ, List.map_cons, List.map_nil, if_true, if_false, ite_true, ite_false, Bool.false_eq_true, decide_true, decide_false, Bool.not_true, Bool.not_false, reduceIte, sl_eq, eq_self, Nat.zero_le, List.length_cons, List.length_nil, List.length_map, ite_self, Int.natAbs_natCast, isObj_ev, ev_fld, fldK_obj, getF_hit, ev_prop, ev_own, ok_bl, ok_obj, list_lst, iso_ev, ev_asgX, asgX_ret, asgX_exc, ev_callX, i_non_bool, i_non_int, i_non_str, i_non_list, i_non_tuple, i_bl_bool, i_bl_int, i_bl_str, i_bl_list, i_bl_tuple, i_int_bool, i_int_int, i_int_str, i_int_list, i_int_tuple, i_str_bool, i_str_int, i_str_str, i_str_list, i_str_tuple, i_lst_bool, i_lst_int, i_lst_str, i_lst_list, i_lst_tuple, i_tup_bool, i_tup_int, i_tup_str, i_tup_list, i_tup_tuple, ev_appB, Int.reduceAbs, Nat.reduceLT, Nat.reduceLeDiff, Int.reduceLT, Int.reduceLE, Int.reduceEq, Int.reduceNe, Int.reduceAdd, Int.reduceSub, Int.reduceMul, Int.reduceNeg, Int.reduceMod, Int.reduceDiv, Nat.reduceAdd, Nat.reduceSub, Nat.reduceMul, Nat.reduceEqDiff, Int.reduceToNat, Nat.reduceGT, Int.reduceGT, Int.reduceGE, Nat.reduceMod, Nat.reduceDiv, Nat.reduceBEq, Nat.reduceBNe, Int.reduceBEq, Int.reduceBNe, appK_last, appK_mid, ev_sb, sbK_at, ev_gcons, ev_gnil, h, hc2]
      · simp -implicitDefEqProofs (maxSteps := 1000000) only [ev_seq, seqK_nx, seqK_rt, seqK_ex, seqK_bk, seqK_ct, ev_skip, ev_brk, ev_cont, ev_asg, ev_gN, ev_if, ev_ret, ev_expr, ev_raise, ev_new, ev_par, parK_ev, ev_tst, tstK_bl, ev_tru, ev_andT, ev_orT, ev_notT, ev_andE, ev_orE, ev_notE, ev_ifE, ev_V, varK_ev, ev_C, ev_op, ev_opF, ev_nil, ev_cons, ev_data, ev_lst, ev_tup, ev_CB, ev_CBF, ev_call, outK_ev, ev_neg, negK_ev, ev_so, soK_ev, ev_no, ev_slc, ev_slcF, fz_non, fz_bl, fz_int, fz_str, fz_scr, fz_lst, fz_tup, fz_obj, fz_exn, fz_last, fz_mid, fz_lastI, fz_lastF, vw_non, vw_bl, vw_int, vw_str, vw_scr, vw_lst, vw_tup, vw_obj, vw_ty, vw_cls, vw_exn, vw_last, vw_mid, vw_lastI, vw_lastF, st_last, st_set, st_take, st_mid, st_mset, st_mtake, add_int, add_str, add_lst, addL_lst, sub_int, mul_r, mul_l, mul_str, mul_lst, mulL_lst, div_int, mod_int, pow_18, pow_60, lt_int, le_int, gt_int, ge_int, eq_int, eq_str, ne_int, ne_str, eq_bl, isN_non, isN_tup, isN_lst, isN_str, isN_int, isN_bl, len_str, len_lst, len_tup, len_scr, int_int, max_int, min_int, tru_bl, tru_non, tru_int, tru_str, tru_lst, ix_lst, ix_tup, ix_scr, ix_str, Option.map_some, Option.map_none, slc_str, slc_lst, Option.bind_some, Option.bind_none, List.getElem?_cons_zero, List.getElem?_cons_succ, List.set_cons_zero, List.set_cons_succ, List.map_cons, List.map_nil, if_true, if_false, ite_true, ite_false, Bool.false_eq_true, decide_true, decide_false, Bool.not_true, Bool.not_false, reduceIte, sl_eq, eq_self, Nat.zero_le, List.length_cons, List.length_nil, List.length_map, ite_self, Int.natAbs_natCast, isObj_ev, ev_fld, fldK_obj, getF_hit, ev_prop, ev_own, ok_bl, ok_obj, list_lst, iso_ev, ev_asgX, asgX_ret, asgX_exc, ev_callX, i_non_bool, i_non_int, i_non_str, i_non_list, i_non_tuple, i_bl_bool, i_bl_int, i_bl_str, i_bl_list, i_bl_tuple, i_int_bool, i_int_int, i_int_str, i_int_list, i_int_tuple, i_str_bool, i_str_int, i_str_str, i_str_list, i_str_tuple, i_lst_bool, i_lst_int, i_lst_str, i_lst_list, i_lst_tuple, i_tup_bool, i_tup_int, i_tup_str, i_tup_list, i_tup_tuple, ev_appB, Int.reduceAbs, Nat.reduceLT, Nat.reduceLeDiff, Int.reduceLT, Int.reduceLE, Int.reduceEq, Int.reduceNe, Int.reduceAdd, Int.reduceSub, Int.reduceMul, Int.reduceNeg, Int.reduceMod, Int.reduceDiv, Nat.reduceAdd, Nat.reduceSub, Nat.reduceMul, Nat.reduceEqDiff, Int.reduceToNat, Nat.reduceGT, Int.reduceGT, Int.reduceGE, Nat.reduceMod, Nat.reduceDiv, Nat.reduceBEq, Nat.reduceBNe, Int.reduceBEq, Int.reduceBNe, appK_last, appK_mid, ev_sb, sbK_at, ev_gcons, ev_gnil, h]
    · simp only [seqK_nx]
      generalize (if (kd : Int) = 3 then c2 else c) = q
      have t2 := t2 q
      have t3 := t3 q
      by_cases w0 : (w : Int) = 0
      · simp -implicitDefEqProofs (maxSteps := 1000000) only [ev_seq, seqK_nx, seqK_rt, seqK_ex, seqK_bk, seqK_ct, ev_skip, ev_brk, ev_cont, ev_asg, ev_gN, ev_if, ev_ret, ev_expr, ev_raise, ev_new, ev_par, parK_ev, ev_tst, tstK_bl, ev_tru, ev_andT, ev_orT, ev_notT, ev_andE, ev_orE, ev_notE, ev_ifE, ev_V, varK_ev, ev_C, ev_op, ev_opF, ev_nil, ev_cons, ev_data, ev_lst, ev_tup, ev_CB, ev_CBF, ev_call, outK_ev, ev_neg, negK_ev, ev_so, soK_ev, ev_no, ev_slc, ev_slcF, fz_non, fz_bl, fz_int, fz_str, fz_scr, fz_lst, fz_tup, fz_obj, fz_exn, fz_last, fz_mid, fz_lastI, fz_lastF, vw_non, vw_bl, vw_int, vw_str, vw_scr, vw_lst, vw_tup, vw_obj, vw_ty, vw_cls, vw_exn, vw_last, vw_mid, vw_lastI, vw_lastF, st_last, st_set, st_take, st_mid, st_mset, st_mtake, add_int, add_str, add_lst, addL_lst, sub_int, mul_r, mul_l, mul_str, mul_lst, mulL_lst, div_int, mod_int, pow_18, pow_60, lt_int, le_int, gt_int, ge_int, eq_int, eq_str, ne_int, ne_str, eq_bl, isN_non, isN_tup, isN_lst, isN_str, isN_int, isN_bl, len_str, len_lst, len_tup, len_scr, int_int, max_int, min_int, tru_bl, tru_non, tru_int, tru_str, tru_lst, ix_lst, ix_tup, ix_scr, ix_str, Option.map_some, Option.map_none, slc_str, slc_lst, Option.bind_some, Option.bind_none, List.getElem?_cons_zero, List.getElem?_cons_succ, List.set_cons_zero, List.set_cons_succ, List.map_cons, List.map_nil, if_true, if_false, ite_true, ite_false, Bool.false_eq_true, decide_true, decide_false, Bool.not_true, Bool.not_false, reduceIte, sl_eq, eq_self, Nat.zero_le, List.length_cons, List.length_nil, List.length_map, ite_self, Int.natAbs_natCast, isObj_ev, ev_fld, fldK_obj, getF_hit, ev_prop, ev_own, ok_bl, ok_obj, list_lst, iso_ev, ev_asgX, asgX_ret, asgX_exc, ev_callX, i_non_bool, i_non_int, i_non_str, i_non_list, i_non_tuple, i_bl_bool, i_bl_int, i_bl_str, i_bl_list, i_bl_tuple, i_int_bool, i_int_int, i_int_str, i_int_list, i_int_tuple, i_str_bool, i_str_int, i_str_str, i_str_list, i_str_tuple, i_lst_bool, i_lst_int, i_lst_str, i_lst_list, i_lst_tuple, i_tup_bool, i_tup_int, i_tup_str, i_tup_list, i_tup_tuple, ev_appB, Int.reduceAbs, Nat.reduceLT, Nat.reduceLeDiff, Int.reduceLT, Int.reduceLE, Int.reduceEq, Int.reduceNe, Int.reduceAdd, Int.reduceSub, Int.reduceMul, Int.reduceNeg, Int.reduceMod, Int.reduceDiv, Nat.reduceAdd, Nat.reduceSub, Nat.reduceMul, Nat.reduceEqDiff, Int.reduceToNat, Nat.reduceGT, Int.reduceGT, Int.reduceGE, Nat.reduceMod, Nat.reduceDiv, Nat.reduceBEq, Nat.reduceBNe, Int.reduceBEq, Int.reduceBNe, appK_last, appK_mid, ev_sb, sbK_at, ev_gcons, ev_gnil, w0, b2, cut_to, cut_from, t1, t2, esp]
        exact ⟨_, _, .inl rfl, _, _, _, _, _, _, _, _, _, rfl, rfl, g1 q⟩
      · by_cases w1 : (w : Int) = 1
        · simp -implicitDefEqProofs (maxSteps := 1000000) only [ev_seq, seqK_nx, seqK_rt, seqK_ex, seqK_bk, seqK_ct, ev_skip, ev_brk, ev_cont, ev_asg, ev_gN, ev_if, ev_ret, ev_expr, ev_raise, ev_new, ev_par, parK_ev, ev_tst, tstK_bl, ev_tru, ev_andT, ev_orT, ev_notT, ev_andE, ev_orE, ev_notE, ev_ifE, ev_V, varK_ev, ev_C, ev_op, ev_opF, ev_nil, ev_cons, ev_data, ev_lst, ev_tup, ev_CB, ev_CBF, ev_call, outK_ev, ev_neg, negK_ev, ev_so, soK_ev, ev_no, ev_slc, ev_slcF, fz_non, fz_bl, fz_int, fz_str, fz_scr, fz_lst, fz_tup, fz_obj, fz_exn, fz_last, fz_mid, fz_lastI, fz_lastF, vw_non, vw_bl, vw_int, vw_str, vw_scr, vw_lst, vw_tup, vw_obj, vw_ty, vw_cls, vw_exn, vw_last, vw_mid, vw_lastI, vw_lastF, st_last, st_set, st_take, st_mid, st_mset, st_mtake, add_int, add_str, add_lst, addL_lst, sub_int, mul_r, mul_l, mul_str, mul_lst, mulL_lst, div_int, mod_int, pow_18, pow_60, lt_int, le_int, gt_int, ge_int, eq_int, eq_str, ne_int, ne_str, eq_bl, isN_non, isN_tup, isN_lst, isN_str, isN_int, isN_bl, len_str, len_lst, len_tup, len_scr, int_int, max_int, min_int, tru_bl, tru_non, tru_int, tru_str, tru_lst, ix_lst, ix_tup, ix_scr, ix_str, Option.map_some, Option.map_none, slc_str, slc_lst, Option.bind_some, Option.bind_none, List.getElem?_cons_zero, List.getElem?_cons_succ, List.set_cons_zero, List.set_cons_succ, List.map_cons, List.map_nil, if_true, if_false, ite_true, ite_false, Bool.false_eq_true, decide_true, decide_false, Bool.not_true, Bool.not_false, reduceIte, sl_eq, eq_self, Nat.zero_le, List.length_cons, List.length_nil, List.length_map, ite_self, Int.natAbs_natCast, isObj_ev, ev_fld, fldK_obj, getF_hit, ev_prop, ev_own, ok_bl, ok_obj, list_lst, iso_ev, ev_asgX, asgX_ret, asgX_exc, ev_callX, i_non_bool, i_non_int, i_non_str, i_non_list, i_non_tuple, i_bl_bool, i_bl_int, i_bl_str, i_bl_list, i_bl_tuple, i_int_bool, i_int_int, i_int_str, i_int_list, i_int_tuple, i_str_bool, i_str_int, i_str_str, i_str_list, i_str_tuple, i_lst_bool, i_lst_int, i_lst_str, i_lst_list, i_lst_tuple, i_tup_bool, i_tup_int, i_tup_str, i_tup_list, i_tup_tuple, ev_appB, Int.reduceAbs, Nat.reduceLT, Nat.reduceLeDiff, Int.reduceLT, Int.reduceLE, Int.reduceEq, Int.reduceNe, Int.reduceAdd, Int.reduceSub, Int.reduceMul, Int.reduceNeg, Int.reduceMod, Int.reduceDiv, Nat.reduceAdd, Nat.reduceSub, Nat.reduceMul, Nat.reduceEqDiff, Int.reduceToNat, Nat.reduceGT, Int.reduceGT, Int.reduceGE, Nat.reduceMod, Nat.reduceDiv, Nat.reduceBEq, Nat.reduceBNe, Int.reduceBEq, Int.reduceBNe, appK_last, appK_mid, ev_sb, sbK_at, ev_gcons, ev_gnil, w1, b2, cut_to, cut_from, t4, esp]
          exact ⟨_, _, .inl rfl, _, _, _, _, _, _, _, _, _, rfl, rfl, g2⟩
        · by_cases w2 : (w : Int) = 2
          · simp -implicitDefEqProofs (maxSteps := 1000000) only [ev_seq, seqK_nx, seqK_rt, seqK_ex, seqK_bk, seqK_ct, ev_skip, ev_brk, ev_cont, ev_asg, ev_gN, ev_if, ev_ret, ev_expr, ev_raise, ev_new, ev_par, parK_ev, ev_tst, tstK_bl, ev_tru, ev_andT, ev_orT, ev_notT, ev_andE, ev_orE, ev_notE, ev_ifE, ev_V, varK_ev, ev_C, ev_op, ev_opF, ev_nil, ev_cons, ev_data, ev_lst, ev_tup, ev_CB, ev_CBF, ev_call, outK_ev, ev_neg, negK_ev, ev_so, soK_ev, ev_no, ev_slc, ev_slcF, fz_non, fz_bl, fz_int, fz_str, fz_scr, fz_lst, fz_tup, fz_obj, fz_exn, fz_last, fz_mid, fz_lastI, fz_lastF, vw_non, vw_bl, vw_int, vw_str, vw_scr, vw_lst, vw_tup, vw_obj, vw_ty, vw_cls, vw_exn, vw_last, vw_mid, vw_lastI, vw_lastF, st_last, st_set, st_take, st_mid, st_mset, st_mtake, add_int, add_str, add_lst, addL_lst, sub_int, mul_r, mul_l, mul_str, mul_lst, mulL_lst, div_int, mod_int, pow_18, pow_60, lt_int, le_int, gt_int, ge_int, eq_int, eq_str, ne_int, ne_str, eq_bl, isN_non, isN_tup, isN_lst, isN_str, isN_int, isN_bl, len_str, len_lst, len_tup, len_scr, int_int, max_int, min_int, tru_bl, tru_non, tru_int, tru_str, tru_lst, ix_lst, ix_tup, ix_scr, ix_str, Option.map_some, Option.map_none, slc_str, slc_lst, Option.bind_some, Option.bind_none, List.getElem?_cons_zero, List.getElem?_cons_succ, List.set_cons_zero, List.set_cons_succ, List.map_cons, List.map_nil, if_true, if_false, ite_true, ite_false, Bool.false_eq_true, decide_true, decide_false, Bool.not_true, Bool.not_false, reduceIte, sl_eq, eq_self, Nat.zero_le, List.length_cons, List.length_nil, List.length_map, ite_self, Int.natAbs_natCast, isObj_ev, ev_fld, fldK_obj, getF_hit, ev_prop, ev_own, ok_bl, ok_obj, list_lst, iso_ev, ev_asgX, asgX_ret, asgX_exc, ev_callX, i_non_bool, i_non_int, i_non_str, i_non_list, i_non_tuple, i_bl_bool, i_bl_int, i_bl_str, i_bl_list, i_bl_tuple, i_int_bool, i_int_int, i_int_str, i_int_list, i_int_tuple, i_str_bool, i_str_int, i_str_str, i_str_list, i_str_tuple, i_lst_bool, i_lst_int, i_lst_str, i_lst_list, i_lst_tuple, i_tup_bool, i_tup_int, i_tup_str, i_tup_list, i_tup_tuple, ev_appB, Int.reduceAbs, Nat.reduceLT, Nat.reduceLeDiff, Int.reduceLT, Int.reduceLE, Int.reduceEq, Int.reduceNe, Int.reduceAdd, Int.reduceSub, Int.reduceMul, Int.reduceNeg, Int.reduceMod, Int.reduceDiv, Nat.reduceAdd, Nat.reduceSub, Nat.reduceMul, Nat.reduceEqDiff, Int.reduceToNat, Nat.reduceGT, Int.reduceGT, Int.reduceGE, Nat.reduceMod, Nat.reduceDiv, Nat.reduceBEq, Nat.reduceBNe, Int.reduceBEq, Int.reduceBNe, appK_last, appK_mid, ev_sb, sbK_at, ev_gcons, ev_gnil, w2, b2, cut_to, cut_from, t1, t3, esp]
            exact ⟨_, _, .inl rfl, _, _, _, _, _, _, _, _, _, rfl, rfl, g3 q⟩
          · simp -implicitDefEqProofs (maxSteps := 1000000) only [ev_seq, seqK_nx, seqK_rt, seqK_ex, seqK_bk, seqK_ct, ev_skip, ev_brk, ev_cont, ev_asg, ev_gN, ev_if, ev_ret, ev_expr, ev_raise, ev_new, ev_par, parK_ev, ev_tst, tstK_bl, ev_tru, ev_andT, ev_orT, ev_notT, ev_andE, ev_orE, ev_notE, ev_ifE, ev_V, varK_ev, ev_C, ev_op, ev_opF, ev_nil, ev_cons, ev_data, ev_lst, ev_tup, ev_CB, ev_CBF, ev_call, outK_ev, ev_neg, negK_ev, ev_so, soK_ev, ev_no, ev_slc, ev_slcF, fz_non, fz_bl, fz_int, fz_str, fz_scr, fz_lst, fz_tup, fz_obj, fz_exn, fz_last, fz_mid, fz_lastI, fz_lastF, vw_non, vw_bl, vw_int, vw_str, vw_scr, vw_lst, vw_tup, vw_obj, vw_ty, vw_cls, vw_exn, vw_last, vw_mid, vw_lastI, vw_lastF, st_last, st_set, st_take, st_mid, st_mset, st_mtake, add_int, add_str, add_lst, addL_lst, sub_int, mul_r, mul_l, mul_str, mul_lst, mulL_lst, div_int, mod_int, pow_18, pow_60, lt_int, le_int, gt_int, ge_int, eq_int, eq_str, ne_int, ne_str, eq_bl, isN_non, isN_tup, isN_lst, isN_str, isN_int, isN_bl, len_str, len_lst, len_tup, len_scr, int_int, max_int, min_int, tru_bl, tru_non, tru_int, tru_str, tru_lst, ix_lst, ix_tup, ix_scr, ix_str, Option.map_some, Option.map_none, slc_str, slc_lst, Option.bind_some, Option.bind_none, List.getElem?_cons_zero, List.getElem?_cons_succ, List.set_cons_zero, List.set_cons_succ, List.map_cons, List.map_nil, if_true, if_false, ite_true, ite_false, Bool.false_eq_true, decide_true, decide_false, Bool.not_true, Bool.not_false, reduceIte, sl_eq, eq_self, Nat.zero_le, List.length_cons, List.length_nil, List.length_map, ite_self, Int.natAbs_natCast, isObj_ev, ev_fld, fldK_obj, getF_hit, ev_prop, ev_own, ok_bl, ok_obj, list_lst, iso_ev, ev_asgX, asgX_ret, asgX_exc, ev_callX, i_non_bool, i_non_int, i_non_str, i_non_list, i_non_tuple, i_bl_bool, i_bl_int, i_bl_str, i_bl_list, i_bl_tuple, i_int_bool, i_int_int, i_int_str, i_int_list, i_int_tuple, i_str_bool, i_str_int, i_str_str, i_str_list, i_str_tuple, i_lst_bool, i_lst_int, i_lst_str, i_lst_list, i_lst_tuple, i_tup_bool, i_tup_int, i_tup_str, i_tup_list, i_tup_tuple, ev_appB, Int.reduceAbs, Nat.reduceLT, Nat.reduceLeDiff, Int.reduceLT, Int.reduceLE, Int.reduceEq, Int.reduceNe, Int.reduceAdd, Int.reduceSub, Int.reduceMul, Int.reduceNeg, Int.reduceMod, Int.reduceDiv, Nat.reduceAdd, Nat.reduceSub, Nat.reduceMul, Nat.reduceEqDiff, Int.reduceToNat, Nat.reduceGT, Int.reduceGT, Int.reduceGE, Nat.reduceMod, Nat.reduceDiv, Nat.reduceBEq, Nat.reduceBNe, Int.reduceBEq, Int.reduceBNe, appK_last, appK_mid, ev_sb, sbK_at, ev_gcons, ev_gnil, w0, w1, w2]
            exact ⟨_, _, .inl rfl, _, _, _, _, _, _, _, _, _, rfl, rfl, by omega⟩)
  rw [e]
  rw [range_len] at hl2
  simp -implicitDefEqProofs (maxSteps := 1000000) only [ev_seq, seqK_nx, seqK_rt, seqK_ex, seqK_bk, seqK_ct, ev_skip, ev_brk, ev_cont, ev_asg, ev_gN, ev_if, ev_ret, ev_expr, ev_raise, ev_new, ev_par, parK_ev, ev_tst, tstK_bl, ev_tru, ev_andT, ev_orT, ev_notT, ev_andE, ev_orE, ev_notE, ev_ifE, ev_V, varK_ev, ev_C, ev_op, ev_opF, ev_nil, ev_cons, ev_data, ev_lst, ev_tup, ev_CB, ev_CBF, ev_call, outK_ev, ev_neg, negK_ev, ev_so, soK_ev, ev_no, ev_slc, ev_slcF, fz_non, fz_bl, fz_int, fz_str, fz_scr, fz_lst, fz_tup, fz_obj, fz_exn, fz_last, fz_mid, fz_lastI, fz_lastF, vw_non, vw_bl, vw_int, vw_str, vw_scr, vw_lst, vw_tup, vw_obj, vw_ty, vw_cls, vw_exn, vw_last, vw_mid, vw_lastI, vw_lastF, st_last, st_set, st_take, st_mid, st_mset, st_mtake, add_int, add_str, add_lst, addL_lst, sub_int, mul_r, mul_l, mul_str, mul_lst, mulL_lst, div_int, mod_int, pow_18, pow_60, lt_int, le_int, gt_int, ge_int, eq_int, eq_str, ne_int, ne_str, eq_bl, isN_non, isN_tup, isN_lst, isN_str, isN_int, isN_bl, len_str, len_lst, len_tup, len_scr, int_int, max_int, min_int, tru_bl, tru_non, tru_int, tru_str, tru_lst, ix_lst, ix_tup, ix_scr, ix_str, Option.map_some, Option.map_none, slc_str, slc_lst, Option.bind_some, Option.bind_none, List.getElem?_cons_zero, List.getElem?_cons_succ, List.set_cons_zero, List.set_cons_succ, List.map_cons, List.map_nil, if_true, if_false, ite_true, ite_false, Bool.false_eq_true, decide_true, decide_false, Bool.not_true, Bool.not_false, reduceIte, sl_eq, eq_self, Nat.zero_le, List.length_cons, List.length_nil, List.length_map, ite_self, Int.natAbs_natCast, isObj_ev, ev_fld, fldK_obj, getF_hit, ev_prop, ev_own, ok_bl, ok_obj, list_lst, iso_ev, ev_asgX, asgX_ret, asgX_exc, ev_callX, i_non_bool, i_non_int, i_non_str, i_non_list, i_non_tuple, i_bl_bool, i_bl_int, i_bl_str, i_bl_list, i_bl_tuple, i_int_bool, i_int_int, i_int_str, i_int_list, i_int_tuple, i_str_bool, i_str_int, i_str_str, i_str_list, i_str_tuple, i_lst_bool, i_lst_int, i_lst_str, i_lst_list, i_lst_tuple, i_tup_bool, i_tup_int, i_tup_str, i_tup_list, i_tup_tuple, ev_appB, Int.reduceAbs, Nat.reduceLT, Nat.reduceLeDiff, Int.reduceLT, Int.reduceLE, Int.reduceEq, Int.reduceNe, Int.reduceAdd, Int.reduceSub, Int.reduceMul, Int.reduceNeg, Int.reduceMod, Int.reduceDiv, Nat.reduceAdd, Nat.reduceSub, Nat.reduceMul, Nat.reduceEqDiff, Int.reduceToNat, Nat.reduceGT, Int.reduceGT, Int.reduceGE, Nat.reduceMod, Nat.reduceDiv, Nat.reduceBEq, Nat.reduceBNe, Int.reduceBEq, Int.reduceBNe, appK_last, appK_mid, ev_sb, sbK_at, ev_gcons, ev_gnil]
  exact ⟨l2, ⟨_, rfl⟩, by omega⟩

end K84
end
section
namespace K84
open PySem Dx
open L2 (atI ixN)
/-! cutting at / and joining -/
theorem join_cons {p : List Nat} {ps : List (List Nat)} (h : ps ≠ []) : TL.joinL [47] (p :: ps) = p ++ (47 :: TL.joinL [47] ps) := by
  cases ps with
  | nil => exact absurd rfl h
  | cons q r => rfl
theorem spl_ne : ∀ (l acc : List Nat), TL.spl [47] 0 acc l ≠ []
  | [], acc => by rw [TL.spl_nil]; simp
  | c :: r, acc => by
    by_cases h : TL.pre [47] (c :: r) = true
    · rw [TL.spl_hit h]; simp
    · rw [TL.spl_miss (by simpa using h)]; exact spl_ne r _
theorem pre_iff (c : Nat) (r : List Nat) : TL.pre [47] (c :: r) = decide (c = 47) := by
  unfold TL.pre
  rw [Bool.eq_iff_iff]
  simp
theorem join_spl : ∀ (l acc : List Nat), TL.joinL [47] (TL.spl [47] 0 acc l) = acc ++ l
  | [], acc => by rw [TL.spl_nil]; simp [TL.joinL]
  | c :: r, acc => by
    by_cases h : c = 47
    · subst h
      rw [TL.spl_hit (by rw [pre_iff]; rfl)]
      show TL.joinL [47] (acc :: TL.spl [47] 0 [] r) = _
      rw [join_cons (spl_ne r []), join_spl r []]
      rfl
    · rw [TL.spl_miss (by rw [pre_iff]; simpa using h), join_spl r]
      simp
theorem spl_sum : ∀ (l acc : List Nat), ((TL.spl [47] 0 acc l).map List.length).sum + (TL.spl [47] 0 acc l).length = acc.length + l.length + 1
  | [], acc => by rw [TL.spl_nil]; simp
  | c :: r, acc => by
    by_cases h : c = 47
    · subst h
      rw [TL.spl_hit (by rw [pre_iff]; rfl)]
      have := spl_sum r []
      show ((acc :: TL.spl [47] 0 [] r).map List.length).sum + (acc :: TL.spl [47] 0 [] r).length = _
      simp only [List.map_cons, List.sum_cons, List.length_cons, List.length_nil] at this ⊢
      omega
    · rw [TL.spl_miss (by rw [pre_iff]; simpa using h), spl_sum r]
      simp only [List.length_append, List.length_cons, List.length_nil]
      omega
theorem mem_sum : ∀ {ps : List (List Nat)} {p : List Nat}, p ∈ ps → p.length ≤ (ps.map List.length).sum
  | q :: ps, p, h => by
    rw [List.map_cons, List.sum_cons]
    rcases List.mem_cons.mp h with rfl | h
    · omega
    · have := mem_sum h
      omega
def parts (l : List Nat) : List (List Nat) := TL.spl [47] 0 [] l
theorem parts_ne (l : List Nat) : parts l ≠ [] := spl_ne l []
theorem parts_join (l : List Nat) : TL.joinL [47] (parts l) = l := join_spl l []
theorem parts_sum (l : List Nat) : ((parts l).map List.length).sum + (parts l).length = l.length + 1 := by
  have := spl_sum l []
  unfold parts
  simpa using this
theorem split_47 {l : List Nat} (h : l.length ≤ 1000000) : splitG (.str l) (.str [47]) = some ((parts l).map D.str) := by
  show (if _ then _ else _) = _
  rw [if_pos ⟨rfl, rfl, by rw [sl_eq]; omega⟩]
  rfl
theorem strs_D : ∀ xs : List (List Nat), strsD (xs.map D.str) = some xs
  | [] => rfl
  | x :: xs => by
    rw [List.map_cons, strsD, strs_D xs]
theorem join_47 {ps : List (List Nat)} (h : (ps.map List.length).sum + ps.length * 1 ≤ 16777216) : joinG (.str [47]) (.lst (ps.map D.str)) = some (.str (TL.joinL [47] ps)) := by
  show (match strsD (ps.map D.str) with | some ys => _ | none => none) = _
  rw [strs_D]
  simp only
  exact if_pos h
theorem ev_M1 {g : D → D → Option D} {da db : Den} {env : DEnv} {s s1 s2 : Sto} {x : List Nat} {y : D} (e : da env s = some (.str x, s1)) (e2 : db env s1 = some (y, s2)) : dM1 g da db env s = (g (.str x) (vw s2 y)).bind fun z => some (z, s2) := by
  unfold dM1
  rw [e]
  simp only
  rw [e2]
  simp only
  cases g (.str x) (vw s2 y) <;> rfl
theorem ev_M1F {g : D → D → Option (List D)} {da db : Den} {env : DEnv} {s s1 s2 : Sto} {x : List Nat} {y : D} (e : da env s = some (.str x, s1)) (e2 : db env s1 = some (y, s2)) : dM1F g da db env s = (g (.str x) (vw s2 y)).bind fun z => some (z, s2) := by
  unfold dM1F
  rw [e]
  simp only
  rw [e2]
  simp only
  cases g (.str x) (vw s2 y) <;> rfl
/-- every row good, all as long as the first -/
def okP (n : Nat) : D → Bool
  | .str p => rowB p && decide (p.length = n)
  | _ => true
def allP (ps : List (List Nat)) : Bool := (ps.map D.str).all (okP (ps.head?.getD []).length)
theorem head_get {ps : List (List Nat)} (h : ps ≠ []) : ∃ p0, ps[0]? = some p0 ∧ ps.head?.getD [] = p0 ∧ p0 ∈ ps := by
  cases ps with
  | nil => exact absurd rfl h
  | cons p r => exact ⟨p, rfl, rfl, List.mem_cons_self⟩
def dueD (l : List Nat) : D := if allP (parts l) = true then .tup [.str [103, 111, 111, 100], .lst ((parts l).map D.str), .bl true] else .tup [.str [98, 97, 100], .str l, .bl true]
def duI (l : List Nat) (s : Sto) (env : DEnv) (s' : Sto) : Prop := ∃ x, env = [some (.str l), some (.lst ((parts l).map D.str)), x] ∧ s = s'
theorem m__law_due (T : Ads) (l : List Nat) (s : Sto) (hl : l.length ≤ 1000000) : d__law_due T [.str l] s = some (.ret (dueD l), s) := by
  have hsum := parts_sum l
  have hp1 : 0 < (parts l).length := List.length_pos_iff.mpr (parts_ne l)
  obtain ⟨p0, g0, gh, gm⟩ := head_get (parts_ne l)
  have hm0 := mem_sum gm
  have a0 : atI ((parts l).map D.str) 0 = some (.str p0) := at_nat (n := 0) (by rw [List.getElem?_map, g0]; rfl)
  have hrow := fun (p : List Nat) (h : p.length ≤ 1000000) => m__law_is_row T p s h
  have hb : bnds s.length [.str [103, 111, 111, 100], .lst ((parts l).map D.str), .bl true] = true := by
    simp only [bnds, bnd, bnds_strs, Bool.and_self]
  have hset : setl s.length s (dueD l) = some (dueD l) := by
    unfold dueD
    split
    · exact setl_tup hb
    · exact setl_tup rfl
  refine ev_funE (r := dueD l) rfl ?_ (take_self s) hset
  simp only [env0, List.map_cons, List.map_nil, List.length_cons, List.length_nil, List.replicate_succ, List.replicate_zero, List.cons_append, List.nil_append, Nat.reduceAdd, Nat.reduceSub]
  rw [ev_seq, ev_asg, ev_data, ev_M1F (x := l) (y := .str [47]) (s1 := s) (s2 := s) (by simp -implicitDefEqProofs (maxSteps := 1000000) only [ev_seq, seqK_nx, seqK_rt, seqK_ex, seqK_bk, seqK_ct, ev_skip, ev_brk, ev_cont, ev_asg, ev_gN, ev_if, ev_ret, ev_expr, ev_raise, ev_new, ev_par, parK_ev, ev_tst, tstK_bl, ev_tru, ev_andT, ev_orT, ev_notT, ev_andE, ev_orE, ev_notE, ev_ifE, ev_V, varK_ev, ev_C, ev_op, ev_opF, ev_nil, ev_cons, ev_data, ev_lst, ev_tup, ev_CB, ev_CBF, ev_call, outK_ev, ev_neg, negK_ev, ev_so, soK_ev, ev_no, ev_slc, ev_slcF, fz_non, fz_bl, fz_int, fz_str, fz_scr, fz_lst, fz_tup, fz_obj, fz_exn, fz_last, fz_mid, fz_lastI, fz_lastF, vw_non, vw_bl, vw_int, vw_str, vw_scr, vw_lst, vw_tup, vw_obj, vw_ty, vw_cls, vw_exn, vw_last, vw_mid, vw_lastI, vw_lastF, st_last, st_set, st_take, st_mid, st_mset, st_mtake, add_int, add_str, add_lst, addL_lst, sub_int, mul_r, mul_l, mul_str, mul_lst, mulL_lst, div_int, mod_int, pow_18, pow_60, lt_int, le_int, gt_int, ge_int, eq_int, eq_str, ne_int, ne_str, eq_bl, isN_non, isN_tup, isN_lst, isN_str, isN_int, isN_bl, len_str, len_lst, len_tup, len_scr, int_int, max_int, min_int, tru_bl, tru_non, tru_int, tru_str, tru_lst, ix_lst, ix_tup, ix_scr, ix_str, Option.map_some, Option.map_none, slc_str, slc_lst, Option.bind_some, Option.bind_none, List.getElem?_cons_zero, List.getElem?_cons_succ, List.set_cons_zero, List.set_cons_succ, List.map_cons, List.map_nil, if_true, if_false, ite_true, ite_false, Bool.false_eq_true, decide_true, decide_false, Bool.not_true, Bool.not_false, reduceIte, sl_eq, eq_self, Nat.zero_le, List.length_cons, List.length_nil, List.length_map, ite_self, Int.natAbs_natCast, isObj_ev, ev_fld, fldK_obj, getF_hit, ev_prop, ev_own, ok_bl, ok_obj, list_lst, iso_ev, ev_asgX, asgX_ret, asgX_exc, ev_callX, i_non_bool, i_non_int, i_non_str, i_non_list, i_non_tuple, i_bl_bool, i_bl_int, i_bl_str, i_bl_list, i_bl_tuple, i_int_bool, i_int_int, i_int_str, i_int_list, i_int_tuple, i_str_bool, i_str_int, i_str_str, i_str_list, i_str_tuple, i_lst_bool, i_lst_int, i_lst_str, i_lst_list, i_lst_tuple, i_tup_bool, i_tup_int, i_tup_str, i_tup_list, i_tup_tuple, ev_appB, Int.reduceAbs, Nat.reduceLT, Nat.reduceLeDiff, Int.reduceLT, Int.reduceLE, Int.reduceEq, Int.reduceNe, Int.reduceAdd, Int.reduceSub, Int.reduceMul, Int.reduceNeg, Int.reduceMod, Int.reduceDiv, Nat.reduceAdd, Nat.reduceSub, Nat.reduceMul, Nat.reduceEqDiff, Int.reduceToNat, Nat.reduceGT, Int.reduceGT, Int.reduceGE, Nat.reduceMod, Nat.reduceDiv, Nat.reduceBEq, Nat.reduceBNe, Int.reduceBEq, Int.reduceBNe, appK_last, appK_mid, ev_sb, sbK_at, ev_gcons, ev_gnil]) (by simp -implicitDefEqProofs (maxSteps := 1000000) only [ev_seq, seqK_nx, seqK_rt, seqK_ex, seqK_bk, seqK_ct, ev_skip, ev_brk, ev_cont, ev_asg, ev_gN, ev_if, ev_ret, ev_expr, ev_raise, ev_new, ev_par, parK_ev, ev_tst, tstK_bl, ev_tru, ev_andT, ev_orT, ev_notT, ev_andE, ev_orE, ev_notE, ev_ifE, ev_V, varK_ev, ev_C, ev_op, ev_opF, ev_nil, ev_cons, ev_data, ev_lst, ev_tup, ev_CB, ev_CBF, ev_call, outK_ev, ev_neg, negK_ev, ev_so, soK_ev, ev_no, ev_slc, ev_slcF, fz_non, fz_bl, fz_int, fz_str, fz_scr, fz_lst, fz_tup, fz_obj, fz_exn, fz_last, fz_mid, fz_lastI, fz_lastF, vw_non, vw_bl, vw_int, vw_str, vw_scr, vw_lst, vw_tup, vw_obj, vw_ty, vw_cls, vw_exn, vw_last, vw_mid, vw_lastI, vw_lastF, st_last, st_set, st_take, st_mid, st_mset, st_mtake, add_int, add_str, add_lst, addL_lst, sub_int, mul_r, mul_l, mul_str, mul_lst, mulL_lst, div_int, mod_int, pow_18, pow_60, lt_int, le_int, gt_int, ge_int, eq_int, eq_str, ne_int, ne_str, eq_bl, isN_non, isN_tup, isN_lst, isN_str, isN_int, isN_bl, len_str, len_lst, len_tup, len_scr, int_int, max_int, min_int, tru_bl, tru_non, tru_int, tru_str, tru_lst, ix_lst, ix_tup, ix_scr, ix_str, Option.map_some, Option.map_none, slc_str, slc_lst, Option.bind_some, Option.bind_none, List.getElem?_cons_zero, List.getElem?_cons_succ, List.set_cons_zero, List.set_cons_succ, List.map_cons, List.map_nil, if_true, if_false, ite_true, ite_false, Bool.false_eq_true, decide_true, decide_false, Bool.not_true, Bool.not_false, reduceIte, sl_eq, eq_self, Nat.zero_le, List.length_cons, List.length_nil, List.length_map, ite_self, Int.natAbs_natCast, isObj_ev, ev_fld, fldK_obj, getF_hit, ev_prop, ev_own, ok_bl, ok_obj, list_lst, iso_ev, ev_asgX, asgX_ret, asgX_exc, ev_callX, i_non_bool, i_non_int, i_non_str, i_non_list, i_non_tuple, i_bl_bool, i_bl_int, i_bl_str, i_bl_list, i_bl_tuple, i_int_bool, i_int_int, i_int_str, i_int_list, i_int_tuple, i_str_bool, i_str_int, i_str_str, i_str_list, i_str_tuple, i_lst_bool, i_lst_int, i_lst_str, i_lst_list, i_lst_tuple, i_tup_bool, i_tup_int, i_tup_str, i_tup_list, i_tup_tuple, ev_appB, Int.reduceAbs, Nat.reduceLT, Nat.reduceLeDiff, Int.reduceLT, Int.reduceLE, Int.reduceEq, Int.reduceNe, Int.reduceAdd, Int.reduceSub, Int.reduceMul, Int.reduceNeg, Int.reduceMod, Int.reduceDiv, Nat.reduceAdd, Nat.reduceSub, Nat.reduceMul, Nat.reduceEqDiff, Int.reduceToNat, Nat.reduceGT, Int.reduceGT, Int.reduceGE, Nat.reduceMod, Nat.reduceDiv, Nat.reduceBEq, Nat.reduceBNe, Int.reduceBEq, Int.reduceBNe, appK_last, appK_mid, ev_sb, sbK_at, ev_gcons, ev_gnil]), vw_str, split_47 hl]
  simp -implicitDefEqProofs (maxSteps := 1000000) only [ev_seq, seqK_nx, seqK_rt, seqK_ex, seqK_bk, seqK_ct, ev_skip, ev_brk, ev_cont, ev_asg, ev_gN, ev_if, ev_ret, ev_expr, ev_raise, ev_new, ev_par, parK_ev, ev_tst, tstK_bl, ev_tru, ev_andT, ev_orT, ev_notT, ev_andE, ev_orE, ev_notE, ev_ifE, ev_V, varK_ev, ev_C, ev_op, ev_opF, ev_nil, ev_cons, ev_data, ev_lst, ev_tup, ev_CB, ev_CBF, ev_call, outK_ev, ev_neg, negK_ev, ev_so, soK_ev, ev_no, ev_slc, ev_slcF, fz_non, fz_bl, fz_int, fz_str, fz_scr, fz_lst, fz_tup, fz_obj, fz_exn, fz_last, fz_mid, fz_lastI, fz_lastF, vw_non, vw_bl, vw_int, vw_str, vw_scr, vw_lst, vw_tup, vw_obj, vw_ty, vw_cls, vw_exn, vw_last, vw_mid, vw_lastI, vw_lastF, st_last, st_set, st_take, st_mid, st_mset, st_mtake, add_int, add_str, add_lst, addL_lst, sub_int, mul_r, mul_l, mul_str, mul_lst, mulL_lst, div_int, mod_int, pow_18, pow_60, lt_int, le_int, gt_int, ge_int, eq_int, eq_str, ne_int, ne_str, eq_bl, isN_non, isN_tup, isN_lst, isN_str, isN_int, isN_bl, len_str, len_lst, len_tup, len_scr, int_int, max_int, min_int, tru_bl, tru_non, tru_int, tru_str, tru_lst, ix_lst, ix_tup, ix_scr, ix_str, Option.map_some, Option.map_none, slc_str, slc_lst, Option.bind_some, Option.bind_none, List.getElem?_cons_zero, List.getElem?_cons_succ, List.set_cons_zero, List.set_cons_succ, List.map_cons, List.map_nil, if_true, if_false, ite_true, ite_false, Bool.false_eq_true, decide_true, decide_false, Bool.not_true, Bool.not_false, reduceIte, sl_eq, eq_self, Nat.zero_le, List.length_cons, List.length_nil, List.length_map, ite_self, Int.natAbs_natCast, isObj_ev, ev_fld, fldK_obj, getF_hit, ev_prop, ev_own, ok_bl, ok_obj, list_lst, iso_ev, ev_asgX, asgX_ret, asgX_exc, ev_callX, i_non_bool, i_non_int, i_non_str, i_non_list, i_non_tuple, i_bl_bool, i_bl_int, i_bl_str, i_bl_list, i_bl_tuple, i_int_bool, i_int_int, i_int_str, i_int_list, i_int_tuple, i_str_bool, i_str_int, i_str_str, i_str_list, i_str_tuple, i_lst_bool, i_lst_int, i_lst_str, i_lst_list, i_lst_tuple, i_tup_bool, i_tup_int, i_tup_str, i_tup_list, i_tup_tuple, ev_appB, Int.reduceAbs, Nat.reduceLT, Nat.reduceLeDiff, Int.reduceLT, Int.reduceLE, Int.reduceEq, Int.reduceNe, Int.reduceAdd, Int.reduceSub, Int.reduceMul, Int.reduceNeg, Int.reduceMod, Int.reduceDiv, Nat.reduceAdd, Nat.reduceSub, Nat.reduceMul, Nat.reduceEqDiff, Int.reduceToNat, Nat.reduceGT, Int.reduceGT, Int.reduceGE, Nat.reduceMod, Nat.reduceDiv, Nat.reduceBEq, Nat.reduceBNe, Int.reduceBEq, Int.reduceBNe, appK_last, appK_mid, ev_sb, sbK_at, ev_gcons, ev_gnil]
  rw [ev_for, ev_any_lst (xs := (parts l).map D.str) (s1 := s) (by simp -implicitDefEqProofs (maxSteps := 1000000) only [ev_seq, seqK_nx, seqK_rt, seqK_ex, seqK_bk, seqK_ct, ev_skip, ev_brk, ev_cont, ev_asg, ev_gN, ev_if, ev_ret, ev_expr, ev_raise, ev_new, ev_par, parK_ev, ev_tst, tstK_bl, ev_tru, ev_andT, ev_orT, ev_notT, ev_andE, ev_orE, ev_notE, ev_ifE, ev_V, varK_ev, ev_C, ev_op, ev_opF, ev_nil, ev_cons, ev_data, ev_lst, ev_tup, ev_CB, ev_CBF, ev_call, outK_ev, ev_neg, negK_ev, ev_so, soK_ev, ev_no, ev_slc, ev_slcF, fz_non, fz_bl, fz_int, fz_str, fz_scr, fz_lst, fz_tup, fz_obj, fz_exn, fz_last, fz_mid, fz_lastI, fz_lastF, vw_non, vw_bl, vw_int, vw_str, vw_scr, vw_lst, vw_tup, vw_obj, vw_ty, vw_cls, vw_exn, vw_last, vw_mid, vw_lastI, vw_lastF, st_last, st_set, st_take, st_mid, st_mset, st_mtake, add_int, add_str, add_lst, addL_lst, sub_int, mul_r, mul_l, mul_str, mul_lst, mulL_lst, div_int, mod_int, pow_18, pow_60, lt_int, le_int, gt_int, ge_int, eq_int, eq_str, ne_int, ne_str, eq_bl, isN_non, isN_tup, isN_lst, isN_str, isN_int, isN_bl, len_str, len_lst, len_tup, len_scr, int_int, max_int, min_int, tru_bl, tru_non, tru_int, tru_str, tru_lst, ix_lst, ix_tup, ix_scr, ix_str, Option.map_some, Option.map_none, slc_str, slc_lst, Option.bind_some, Option.bind_none, List.getElem?_cons_zero, List.getElem?_cons_succ, List.set_cons_zero, List.set_cons_succ, List.map_cons, List.map_nil, if_true, if_false, ite_true, ite_false, Bool.false_eq_true, decide_true, decide_false, Bool.not_true, Bool.not_false, reduceIte, sl_eq, eq_self, Nat.zero_le, List.length_cons, List.length_nil, List.length_map, ite_self, Int.natAbs_natCast, isObj_ev, ev_fld, fldK_obj, getF_hit, ev_prop, ev_own, ok_bl, ok_obj, list_lst, iso_ev, ev_asgX, asgX_ret, asgX_exc, ev_callX, i_non_bool, i_non_int, i_non_str, i_non_list, i_non_tuple, i_bl_bool, i_bl_int, i_bl_str, i_bl_list, i_bl_tuple, i_int_bool, i_int_int, i_int_str, i_int_list, i_int_tuple, i_str_bool, i_str_int, i_str_str, i_str_list, i_str_tuple, i_lst_bool, i_lst_int, i_lst_str, i_lst_list, i_lst_tuple, i_tup_bool, i_tup_int, i_tup_str, i_tup_list, i_tup_tuple, ev_appB, Int.reduceAbs, Nat.reduceLT, Nat.reduceLeDiff, Int.reduceLT, Int.reduceLE, Int.reduceEq, Int.reduceNe, Int.reduceAdd, Int.reduceSub, Int.reduceMul, Int.reduceNeg, Int.reduceMod, Int.reduceDiv, Nat.reduceAdd, Nat.reduceSub, Nat.reduceMul, Nat.reduceEqDiff, Int.reduceToNat, Nat.reduceGT, Int.reduceGT, Int.reduceGE, Nat.reduceMod, Nat.reduceDiv, Nat.reduceBEq, Nat.reduceBNe, Int.reduceBEq, Int.reduceBNe, appK_last, appK_mid, ev_sb, sbK_at, ev_gcons, ev_gnil])]
  simp only [Option.bind_some]
  generalize hgr : d__law_is_row T = dr at hrow
  obtain ⟨k1, k2⟩ := for_find (g := gN 2) (b := b1__law_due T) (gd := none) (okP p0.length) (.rt (.tup [.str [98, 97, 100], .str l, .bl true])) (.inl ⟨_, rfl⟩) (duI l s) (duI l s) (items := (parts l).map D.str) (env := [some (.str l), some (.lst ((parts l).map D.str)), none]) (s := s) ⟨none, rfl, rfl⟩ (fun _ _ _ => trivial)
    (by
      rintro d env s' hd hp ⟨x, rfl, rfl⟩
      obtain ⟨p, hpm, rfl⟩ := List.mem_map.mp hd
      have hp2 := mem_sum hpm
      simp only [okP, Bool.and_eq_true, decide_eq_true_eq] at hp
      refine ⟨_, _, rfl, ?_⟩
      have hr := hrow p (by omega)
      rw [hp.1] at hr
      have c1 : p.length ≤ 16777216 := by omega
      have c2 : p0.length ≤ 16777216 := by omega
      have c3 : (p.length : Int) = (p0.length : Int) := by rw [hp.2]
      unfold b1__law_due
      rw [hgr]
      simp -implicitDefEqProofs (maxSteps := 1000000) only [ev_seq, seqK_nx, seqK_rt, seqK_ex, seqK_bk, seqK_ct, ev_skip, ev_brk, ev_cont, ev_asg, ev_gN, ev_if, ev_ret, ev_expr, ev_raise, ev_new, ev_par, parK_ev, ev_tst, tstK_bl, ev_tru, ev_andT, ev_orT, ev_notT, ev_andE, ev_orE, ev_notE, ev_ifE, ev_V, varK_ev, ev_C, ev_op, ev_opF, ev_nil, ev_cons, ev_data, ev_lst, ev_tup, ev_CB, ev_CBF, ev_call, outK_ev, ev_neg, negK_ev, ev_so, soK_ev, ev_no, ev_slc, ev_slcF, fz_non, fz_bl, fz_int, fz_str, fz_scr, fz_lst, fz_tup, fz_obj, fz_exn, fz_last, fz_mid, fz_lastI, fz_lastF, vw_non, vw_bl, vw_int, vw_str, vw_scr, vw_lst, vw_tup, vw_obj, vw_ty, vw_cls, vw_exn, vw_last, vw_mid, vw_lastI, vw_lastF, st_last, st_set, st_take, st_mid, st_mset, st_mtake, add_int, add_str, add_lst, addL_lst, sub_int, mul_r, mul_l, mul_str, mul_lst, mulL_lst, div_int, mod_int, pow_18, pow_60, lt_int, le_int, gt_int, ge_int, eq_int, eq_str, ne_int, ne_str, eq_bl, isN_non, isN_tup, isN_lst, isN_str, isN_int, isN_bl, len_str, len_lst, len_tup, len_scr, int_int, max_int, min_int, tru_bl, tru_non, tru_int, tru_str, tru_lst, ix_lst, ix_tup, ix_scr, ix_str, Option.map_some, Option.map_none, slc_str, slc_lst, Option.bind_some, Option.bind_none, List.getElem?_cons_zero, List.getElem?_cons_succ, List.set_cons_zero, List.set_cons_succ, List.map_cons, List.map_nil, if_true, if_false, ite_true, ite_false, Bool.false_eq_true, decide_true, decide_false, Bool.not_true, Bool.not_false, reduceIte, sl_eq, eq_self, Nat.zero_le, List.length_cons, List.length_nil, List.length_map, ite_self, Int.natAbs_natCast, isObj_ev, ev_fld, fldK_obj, getF_hit, ev_prop, ev_own, ok_bl, ok_obj, list_lst, iso_ev, ev_asgX, asgX_ret, asgX_exc, ev_callX, i_non_bool, i_non_int, i_non_str, i_non_list, i_non_tuple, i_bl_bool, i_bl_int, i_bl_str, i_bl_list, i_bl_tuple, i_int_bool, i_int_int, i_int_str, i_int_list, i_int_tuple, i_str_bool, i_str_int, i_str_str, i_str_list, i_str_tuple, i_lst_bool, i_lst_int, i_lst_str, i_lst_list, i_lst_tuple, i_tup_bool, i_tup_int, i_tup_str, i_tup_list, i_tup_tuple, ev_appB, Int.reduceAbs, Nat.reduceLT, Nat.reduceLeDiff, Int.reduceLT, Int.reduceLE, Int.reduceEq, Int.reduceNe, Int.reduceAdd, Int.reduceSub, Int.reduceMul, Int.reduceNeg, Int.reduceMod, Int.reduceDiv, Nat.reduceAdd, Nat.reduceSub, Nat.reduceMul, Nat.reduceEqDiff, Int.reduceToNat, Nat.reduceGT, Int.reduceGT, Int.reduceGE, Nat.reduceMod, Nat.reduceDiv, Nat.reduceBEq, Nat.reduceBNe, Int.reduceBEq, Int.reduceBNe, appK_last, appK_mid, ev_sb, sbK_at, ev_gcons, ev_gnil, hr, c1, c2, a0, c3]
      exact ⟨_, _, .inl rfl, _, rfl, rfl⟩)
    (by
      rintro d env s' hd hp ⟨x, rfl, rfl⟩
      obtain ⟨p, hpm, rfl⟩ := List.mem_map.mp hd
      have hp2 := mem_sum hpm
      refine ⟨_, _, rfl, ?_⟩
      have hr := hrow p (by omega)
      have c1 : p.length ≤ 16777216 := by omega
      have c2 : p0.length ≤ 16777216 := by omega
      unfold b1__law_due
      rw [hgr]
      cases q : rowB p with
      | false =>
        rw [q] at hr
        simp -implicitDefEqProofs (maxSteps := 1000000) only [ev_seq, seqK_nx, seqK_rt, seqK_ex, seqK_bk, seqK_ct, ev_skip, ev_brk, ev_cont, ev_asg, ev_gN, ev_if, ev_ret, ev_expr, ev_raise, ev_new, ev_par, parK_ev, ev_tst, tstK_bl, ev_tru, ev_andT, ev_orT, ev_notT, ev_andE, ev_orE, ev_notE, ev_ifE, ev_V, varK_ev, ev_C, ev_op, ev_opF, ev_nil, ev_cons, ev_data, ev_lst, ev_tup, ev_CB, ev_CBF, ev_call, outK_ev, ev_neg, negK_ev, ev_so, soK_ev, ev_no, ev_slc, ev_slcF, fz_non, fz_bl, fz_int, fz_str, fz_scr, fz_lst, fz_tup, fz_obj, fz_exn, fz_last, fz_mid, fz_lastI, fz_lastF, vw_non, vw_bl, vw_int, vw_str, vw_scr, vw_lst, vw_tup, vw_obj, vw_ty, vw_cls, vw_exn, vw_last, vw_mid, vw_lastI, vw_lastF, st_last, st_set, st_take, st_mid, st_mset, st_mtake, add_int, add_str, add_lst, addL_lst, sub_int, mul_r, mul_l, mul_str, mul_lst, mulL_lst, div_int, mod_int, pow_18, pow_60, lt_int, le_int, gt_int, ge_int, eq_int, eq_str, ne_int, ne_str, eq_bl, isN_non, isN_tup, isN_lst, isN_str, isN_int, isN_bl, len_str, len_lst, len_tup, len_scr, int_int, max_int, min_int, tru_bl, tru_non, tru_int, tru_str, tru_lst, ix_lst, ix_tup, ix_scr, ix_str, Option.map_some, Option.map_none, slc_str, slc_lst, Option.bind_some, Option.bind_none, List.getElem?_cons_zero, List.getElem?_cons_succ, List.set_cons_zero, List.set_cons_succ, List.map_cons, List.map_nil, if_true, if_false, ite_true, ite_false, Bool.false_eq_true, decide_true, decide_false, Bool.not_true, Bool.not_false, reduceIte, sl_eq, eq_self, Nat.zero_le, List.length_cons, List.length_nil, List.length_map, ite_self, Int.natAbs_natCast, isObj_ev, ev_fld, fldK_obj, getF_hit, ev_prop, ev_own, ok_bl, ok_obj, list_lst, iso_ev, ev_asgX, asgX_ret, asgX_exc, ev_callX, i_non_bool, i_non_int, i_non_str, i_non_list, i_non_tuple, i_bl_bool, i_bl_int, i_bl_str, i_bl_list, i_bl_tuple, i_int_bool, i_int_int, i_int_str, i_int_list, i_int_tuple, i_str_bool, i_str_int, i_str_str, i_str_list, i_str_tuple, i_lst_bool, i_lst_int, i_lst_str, i_lst_list, i_lst_tuple, i_tup_bool, i_tup_int, i_tup_str, i_tup_list, i_tup_tuple, ev_appB, Int.reduceAbs, Nat.reduceLT, Nat.reduceLeDiff, Int.reduceLT, Int.reduceLE, Int.reduceEq, Int.reduceNe, Int.reduceAdd, Int.reduceSub, Int.reduceMul, Int.reduceNeg, Int.reduceMod, Int.reduceDiv, Nat.reduceAdd, Nat.reduceSub, Nat.reduceMul, Nat.reduceEqDiff, Int.reduceToNat, Nat.reduceGT, Int.reduceGT, Int.reduceGE, Nat.reduceMod, Nat.reduceDiv, Nat.reduceBEq, Nat.reduceBNe, Int.reduceBEq, Int.reduceBNe, appK_last, appK_mid, ev_sb, sbK_at, ev_gcons, ev_gnil, hr]
        exact ⟨_, _, rfl, _, rfl, rfl⟩
      | true =>
        rw [q] at hr
        simp only [okP, q, Bool.true_and, decide_eq_false_iff_not] at hp
        have c3 : ¬ ((p.length : Int) = (p0.length : Int)) := by omega
        simp -implicitDefEqProofs (maxSteps := 1000000) only [ev_seq, seqK_nx, seqK_rt, seqK_ex, seqK_bk, seqK_ct, ev_skip, ev_brk, ev_cont, ev_asg, ev_gN, ev_if, ev_ret, ev_expr, ev_raise, ev_new, ev_par, parK_ev, ev_tst, tstK_bl, ev_tru, ev_andT, ev_orT, ev_notT, ev_andE, ev_orE, ev_notE, ev_ifE, ev_V, varK_ev, ev_C, ev_op, ev_opF, ev_nil, ev_cons, ev_data, ev_lst, ev_tup, ev_CB, ev_CBF, ev_call, outK_ev, ev_neg, negK_ev, ev_so, soK_ev, ev_no, ev_slc, ev_slcF, fz_non, fz_bl, fz_int, fz_str, fz_scr, fz_lst, fz_tup, fz_obj, fz_exn, fz_last, fz_mid, fz_lastI, fz_lastF, vw_non, vw_bl, vw_int, vw_str, vw_scr, vw_lst, vw_tup, vw_obj, vw_ty, vw_cls, vw_exn, vw_last, vw_mid, vw_lastI, vw_lastF, st_last, st_set, st_take, st_mid, st_mset, st_mtake, add_int, add_str, add_lst, addL_lst, sub_int, mul_r, mul_l, mul_str, mul_lst, mulL_lst, div_int, mod_int, pow_18, pow_60, lt_int, le_int, gt_int, ge_int, eq_int, eq_str, ne_int, ne_str, eq_bl, isN_non, isN_tup, isN_lst, isN_str, isN_int, isN_bl, len_str, len_lst, len_tup, len_scr, int_int, max_int, min_int, tru_bl, tru_non, tru_int, tru_str, tru_lst, ix_lst, ix_tup, ix_scr, ix_str, Option.map_some, Option.map_none, slc_str, slc_lst, Option.bind_some, Option.bind_none, List.getElem?_cons_zero, List.getElem?_cons_succ, List.set_cons_zero, List.set_cons_succ, List.map_cons, List.map_nil, if_true, if_false, ite_true, ite_false, Bool.false_eq_true, decide_true, decide_false, Bool.not_true, Bool.not_false, reduceIte, sl_eq, eq_self, Nat.zero_le, List.length_cons, List.length_nil, List.length_map, ite_self, Int.natAbs_natCast, isObj_ev, ev_fld, fldK_obj, getF_hit, ev_prop, ev_own, ok_bl, ok_obj, list_lst, iso_ev, ev_asgX, asgX_ret, asgX_exc, ev_callX, i_non_bool, i_non_int, i_non_str, i_non_list, i_non_tuple, i_bl_bool, i_bl_int, i_bl_str, i_bl_list, i_bl_tuple, i_int_bool, i_int_int, i_int_str, i_int_list, i_int_tuple, i_str_bool, i_str_int, i_str_str, i_str_list, i_str_tuple, i_lst_bool, i_lst_int, i_lst_str, i_lst_list, i_lst_tuple, i_tup_bool, i_tup_int, i_tup_str, i_tup_list, i_tup_tuple, ev_appB, Int.reduceAbs, Nat.reduceLT, Nat.reduceLeDiff, Int.reduceLT, Int.reduceLE, Int.reduceEq, Int.reduceNe, Int.reduceAdd, Int.reduceSub, Int.reduceMul, Int.reduceNeg, Int.reduceMod, Int.reduceDiv, Nat.reduceAdd, Nat.reduceSub, Nat.reduceMul, Nat.reduceEqDiff, Int.reduceToNat, Nat.reduceGT, Int.reduceGT, Int.reduceGE, Nat.reduceMod, Nat.reduceDiv, Nat.reduceBEq, Nat.reduceBNe, Int.reduceBEq, Int.reduceBNe, appK_last, appK_mid, ev_sb, sbK_at, ev_gcons, ev_gnil, hr, c1, c2, a0, c3]
        exact ⟨_, _, rfl, _, rfl, rfl⟩)
  unfold dueD allP
  rw [gh]
  cases q : ((parts l).map D.str).all (okP p0.length) with
  | true =>
    obtain ⟨env', s', e, x, rfl, rfl⟩ := k1 q
    rw [e]
    simp -implicitDefEqProofs (maxSteps := 1000000) only [ev_seq, seqK_nx, seqK_rt, seqK_ex, seqK_bk, seqK_ct, ev_skip, ev_brk, ev_cont, ev_asg, ev_gN, ev_if, ev_ret, ev_expr, ev_raise, ev_new, ev_par, parK_ev, ev_tst, tstK_bl, ev_tru, ev_andT, ev_orT, ev_notT, ev_andE, ev_orE, ev_notE, ev_ifE, ev_V, varK_ev, ev_C, ev_op, ev_opF, ev_nil, ev_cons, ev_data, ev_lst, ev_tup, ev_CB, ev_CBF, ev_call, outK_ev, ev_neg, negK_ev, ev_so, soK_ev, ev_no, ev_slc, ev_slcF, fz_non, fz_bl, fz_int, fz_str, fz_scr, fz_lst, fz_tup, fz_obj, fz_exn, fz_last, fz_mid, fz_lastI, fz_lastF, vw_non, vw_bl, vw_int, vw_str, vw_scr, vw_lst, vw_tup, vw_obj, vw_ty, vw_cls, vw_exn, vw_last, vw_mid, vw_lastI, vw_lastF, st_last, st_set, st_take, st_mid, st_mset, st_mtake, add_int, add_str, add_lst, addL_lst, sub_int, mul_r, mul_l, mul_str, mul_lst, mulL_lst, div_int, mod_int, pow_18, pow_60, lt_int, le_int, gt_int, ge_int, eq_int, eq_str, ne_int, ne_str, eq_bl, isN_non, isN_tup, isN_lst, isN_str, isN_int, isN_bl, len_str, len_lst, len_tup, len_scr, int_int, max_int, min_int, tru_bl, tru_non, tru_int, tru_str, tru_lst, ix_lst, ix_tup, ix_scr, ix_str, Option.map_some, Option.map_none, slc_str, slc_lst, Option.bind_some, Option.bind_none, List.getElem?_cons_zero, List.getElem?_cons_succ, List.set_cons_zero, List.set_cons_succ, List.map_cons, List.map_nil, if_true, if_false, ite_true, ite_false, Bool.false_eq_true, decide_true, decide_false, Bool.not_true, Bool.not_false, reduceIte, sl_eq, eq_self, Nat.zero_le, List.length_cons, List.length_nil, List.length_map, ite_self, Int.natAbs_natCast, isObj_ev, ev_fld, fldK_obj, getF_hit, ev_prop, ev_own, ok_bl, ok_obj, list_lst, iso_ev, ev_asgX, asgX_ret, asgX_exc, ev_callX, i_non_bool, i_non_int, i_non_str, i_non_list, i_non_tuple, i_bl_bool, i_bl_int, i_bl_str, i_bl_list, i_bl_tuple, i_int_bool, i_int_int, i_int_str, i_int_list, i_int_tuple, i_str_bool, i_str_int, i_str_str, i_str_list, i_str_tuple, i_lst_bool, i_lst_int, i_lst_str, i_lst_list, i_lst_tuple, i_tup_bool, i_tup_int, i_tup_str, i_tup_list, i_tup_tuple, ev_appB, Int.reduceAbs, Nat.reduceLT, Nat.reduceLeDiff, Int.reduceLT, Int.reduceLE, Int.reduceEq, Int.reduceNe, Int.reduceAdd, Int.reduceSub, Int.reduceMul, Int.reduceNeg, Int.reduceMod, Int.reduceDiv, Nat.reduceAdd, Nat.reduceSub, Nat.reduceMul, Nat.reduceEqDiff, Int.reduceToNat, Nat.reduceGT, Int.reduceGT, Int.reduceGE, Nat.reduceMod, Nat.reduceDiv, Nat.reduceBEq, Nat.reduceBNe, Int.reduceBEq, Int.reduceBNe, appK_last, appK_mid, ev_sb, sbK_at, ev_gcons, ev_gnil]
    exact ⟨_, rfl⟩
  | false =>
    obtain ⟨env', s', e, x, rfl, rfl⟩ := k2 q
    rw [e]
    simp -implicitDefEqProofs (maxSteps := 1000000) only [ev_seq, seqK_nx, seqK_rt, seqK_ex, seqK_bk, seqK_ct, ev_skip, ev_brk, ev_cont, ev_asg, ev_gN, ev_if, ev_ret, ev_expr, ev_raise, ev_new, ev_par, parK_ev, ev_tst, tstK_bl, ev_tru, ev_andT, ev_orT, ev_notT, ev_andE, ev_orE, ev_notE, ev_ifE, ev_V, varK_ev, ev_C, ev_op, ev_opF, ev_nil, ev_cons, ev_data, ev_lst, ev_tup, ev_CB, ev_CBF, ev_call, outK_ev, ev_neg, negK_ev, ev_so, soK_ev, ev_no, ev_slc, ev_slcF, fz_non, fz_bl, fz_int, fz_str, fz_scr, fz_lst, fz_tup, fz_obj, fz_exn, fz_last, fz_mid, fz_lastI, fz_lastF, vw_non, vw_bl, vw_int, vw_str, vw_scr, vw_lst, vw_tup, vw_obj, vw_ty, vw_cls, vw_exn, vw_last, vw_mid, vw_lastI, vw_lastF, st_last, st_set, st_take, st_mid, st_mset, st_mtake, add_int, add_str, add_lst, addL_lst, sub_int, mul_r, mul_l, mul_str, mul_lst, mulL_lst, div_int, mod_int, pow_18, pow_60, lt_int, le_int, gt_int, ge_int, eq_int, eq_str, ne_int, ne_str, eq_bl, isN_non, isN_tup, isN_lst, isN_str, isN_int, isN_bl, len_str, len_lst, len_tup, len_scr, int_int, max_int, min_int, tru_bl, tru_non, tru_int, tru_str, tru_lst, ix_lst, ix_tup, ix_scr, ix_str, Option.map_some, Option.map_none, slc_str, slc_lst, Option.bind_some, Option.bind_none, List.getElem?_cons_zero, List.getElem?_cons_succ, List.set_cons_zero, List.set_cons_succ, List.map_cons, List.map_nil, if_true, if_false, ite_true, ite_false, Bool.false_eq_true, decide_true, decide_false, Bool.not_true, Bool.not_false, reduceIte, sl_eq, eq_self, Nat.zero_le, List.length_cons, List.length_nil, List.length_map, ite_self, Int.natAbs_natCast, isObj_ev, ev_fld, fldK_obj, getF_hit, ev_prop, ev_own, ok_bl, ok_obj, list_lst, iso_ev, ev_asgX, asgX_ret, asgX_exc, ev_callX, i_non_bool, i_non_int, i_non_str, i_non_list, i_non_tuple, i_bl_bool, i_bl_int, i_bl_str, i_bl_list, i_bl_tuple, i_int_bool, i_int_int, i_int_str, i_int_list, i_int_tuple, i_str_bool, i_str_int, i_str_str, i_str_list, i_str_tuple, i_lst_bool, i_lst_int, i_lst_str, i_lst_list, i_lst_tuple, i_tup_bool, i_tup_int, i_tup_str, i_tup_list, i_tup_tuple, ev_appB, Int.reduceAbs, Nat.reduceLT, Nat.reduceLeDiff, Int.reduceLT, Int.reduceLE, Int.reduceEq, Int.reduceNe, Int.reduceAdd, Int.reduceSub, Int.reduceMul, Int.reduceNeg, Int.reduceMod, Int.reduceDiv, Nat.reduceAdd, Nat.reduceSub, Nat.reduceMul, Nat.reduceEqDiff, Int.reduceToNat, Nat.reduceGT, Int.reduceGT, Int.reduceGE, Nat.reduceMod, Nat.reduceDiv, Nat.reduceBEq, Nat.reduceBNe, Int.reduceBEq, Int.reduceBNe, appK_last, appK_mid, ev_sb, sbK_at, ev_gcons, ev_gnil]
    exact ⟨_, rfl⟩

/-! rules -/
theorem canLay_rows : ∀ {ps : List (List Nat)}, (∀ p ∈ ps, PyData.canLay0 (.str (S p)) = true) → ∃ ds, pyds (ps.map D.str) = some ds ∧ PyData.canLayAll0 ds = true ∧ PyData.depthAll ds = 0 ∧ PyData.eqvAll ds ds = true
  | [], _ => ⟨[], rfl, rfl, rfl, rfl⟩
  | p :: ps, h => by
    obtain ⟨ds, h1, h2, h3, h4⟩ := canLay_rows (ps := ps) fun q hq => h q (List.mem_cons_of_mem _ hq)
    refine ⟨.str (S p) :: ds, ?_, ?_, ?_, ?_⟩
    · rw [List.map_cons, pyds, h1]
      rfl
    · rw [PyData.canLayAll0, h p List.mem_cons_self, h2]
      rfl
    · rw [PyData.depthAll, h3]
      rfl
    · rw [PyData.eqvAll, h4, Bool.and_true]
      show (S p == S p) = true
      exact beq_self_eq_true _
theorem eq_same {ps : List (List Nat)} (h : ∀ p ∈ ps, PyData.canLay0 (.str (S p)) = true) : eqD (.lst (ps.map D.str)) (.lst (ps.map D.str)) = some (.bl true) := by
  obtain ⟨ds, h1, h2, h3, h4⟩ := canLay_rows h
  have e : pyd (.lst (ps.map D.str)) = some (.list ds) := by rw [pyd, h1]
  have sh : SeqAt.shaped (.list ds) = true := by
    unfold SeqAt.shaped
    rw [PyData.canLay0, h2, PyData.depth, h3]
    rfl
  have q : PyData.eqv (.list ds) (.list ds) = true := by rw [PyData.eqv]; exact h4
  unfold eqD eqDB
  have e0 : eqS (.lst (ps.map D.str)) (.lst (ps.map D.str)) = none := rfl
  rw [e0]
  simp only [eqP, e]
  rw [if_pos ⟨sh, sh⟩, q]
  rfl

end K84
end
section
namespace K84
open PySem Dx
open L2 (atI ixN)
def Fine (ps : List (List Nat)) : Prop := ps ≠ [] ∧ (ps.map List.length).sum + ps.length ≤ 1000001
theorem Fine.le {ps : List (List Nat)} (h : Fine ps) {p : List Nat} (hp : p ∈ ps) : p.length ≤ 1000000 := by
  have := mem_sum hp
  have h1 : 0 < ps.length := List.length_pos_iff.mpr h.1
  have := h.2
  omega
theorem fine_parts {l : List Nat} (h : l.length ≤ 1000000) : Fine (parts l) := ⟨parts_ne l, by rw [parts_sum]; omega⟩
def inI (ps : List (List Nat)) (c : D) (s : Sto) (env : DEnv) (s' : Sto) : Prop := ∃ x, env = [some c, some (.lst (ps.map D.str)), x] ∧ s = s'
/-- the check of the rows, as __init__ and read_rule make it -/
theorem chk_pass {d_is : DFn} {ps : List (List Nat)} (hf : Fine ps) {s : Sto} {c : D} (hrow : ∀ p : List Nat, p.length ≤ 16777216 → d_is [.str p] s = some (.ret (.bl (rowB p)), s)) {p0 : List Nat} (a0 : atI (ps.map D.str) 0 = some (.str p0)) (h0 : p0 ∈ ps) {C : Addr} {e : Den} {b : DenS}
    (hb : b = dIfS (dOrT (dNotT (dTru (dCall d_is (dCons (dV 2) dNil)))) (dTst (dOp neD (dCB lenG (dCons (dV 2) dNil)) (dCB lenG (dCons (dOp idxD (dV 1) (dC (.int 0))) dNil))))) (dRaise C e) dSkip) :
    ∀ d env s', d ∈ ps.map D.str → okP p0.length d = true → inI ps c s env s' → ∃ env1 s1, gN 2 d env s' = some (env1, s1) ∧ Goes (inI ps c s) (b env1 s1) := by
  subst hb
  rintro d env s' hd hp ⟨x, rfl, rfl⟩
  obtain ⟨p, hpm, rfl⟩ := List.mem_map.mp hd
  simp only [okP, Bool.and_eq_true, decide_eq_true_eq] at hp
  refine ⟨_, _, rfl, ?_⟩
  have h1 := hf.le hpm
  have h2 := hf.le h0
  have hr := hrow p (by omega)
  rw [hp.1] at hr
  have c1 : p.length ≤ 16777216 := by omega
  have c2 : p0.length ≤ 16777216 := by omega
  have c3 : (p.length : Int) = (p0.length : Int) := by rw [hp.2]
  simp -implicitDefEqProofs (maxSteps := 1000000) only [ev_seq, seqK_nx, seqK_rt, seqK_ex, seqK_bk, seqK_ct, ev_skip, ev_brk, ev_cont, ev_asg, ev_gN, ev_if, ev_ret, ev_expr, ev_raise, ev_new, ev_par, parK_ev, ev_tst, tstK_bl, ev_tru, ev_andT, ev_orT, ev_notT, ev_andE, ev_orE, ev_notE, ev_ifE, ev_V, varK_ev, ev_C, ev_op, ev_opF, ev_nil, ev_cons, ev_data, ev_lst, ev_tup, ev_CB, ev_CBF, ev_call, outK_ev, ev_neg, negK_ev, ev_so, soK_ev, ev_no, ev_slc, ev_slcF, fz_non, fz_bl, fz_int, fz_str, fz_scr, fz_lst, fz_tup, fz_obj, fz_exn, fz_last, fz_mid, fz_lastI, fz_lastF, vw_non, vw_bl, vw_int, vw_str, vw_scr, vw_lst, vw_tup, vw_obj, vw_ty, vw_cls, vw_exn, vw_last, vw_mid, vw_lastI, vw_lastF, st_last, st_set, st_take, st_mid, st_mset, st_mtake, add_int, add_str, add_lst, addL_lst, sub_int, mul_r, mul_l, mul_str, mul_lst, mulL_lst, div_int, mod_int, pow_18, pow_60, lt_int, le_int, gt_int, ge_int, eq_int, eq_str, ne_int, ne_str, eq_bl, isN_non, isN_tup, isN_lst, isN_str, isN_int, isN_bl, len_str, len_lst, len_tup, len_scr, int_int, max_int, min_int, tru_bl, tru_non, tru_int, tru_str, tru_lst, ix_lst, ix_tup, ix_scr, ix_str, Option.map_some, Option.map_none, slc_str, slc_lst, Option.bind_some, Option.bind_none, List.getElem?_cons_zero, List.getElem?_cons_succ, List.set_cons_zero, List.set_cons_succ, List.map_cons, List.map_nil, if_true, if_false, ite_true, ite_false, Bool.false_eq_true, decide_true, decide_false, Bool.not_true, Bool.not_false, reduceIte, sl_eq, eq_self, Nat.zero_le, List.length_cons, List.length_nil, List.length_map, ite_self, Int.natAbs_natCast, isObj_ev, ev_fld, fldK_obj, getF_hit, ev_prop, ev_own, ok_bl, ok_obj, list_lst, iso_ev, ev_asgX, asgX_ret, asgX_exc, ev_callX, i_non_bool, i_non_int, i_non_str, i_non_list, i_non_tuple, i_bl_bool, i_bl_int, i_bl_str, i_bl_list, i_bl_tuple, i_int_bool, i_int_int, i_int_str, i_int_list, i_int_tuple, i_str_bool, i_str_int, i_str_str, i_str_list, i_str_tuple, i_lst_bool, i_lst_int, i_lst_str, i_lst_list, i_lst_tuple, i_tup_bool, i_tup_int, i_tup_str, i_tup_list, i_tup_tuple, ev_appB, Int.reduceAbs, Nat.reduceLT, Nat.reduceLeDiff, Int.reduceLT, Int.reduceLE, Int.reduceEq, Int.reduceNe, Int.reduceAdd, Int.reduceSub, Int.reduceMul, Int.reduceNeg, Int.reduceMod, Int.reduceDiv, Nat.reduceAdd, Nat.reduceSub, Nat.reduceMul, Nat.reduceEqDiff, Int.reduceToNat, Nat.reduceGT, Int.reduceGT, Int.reduceGE, Nat.reduceMod, Nat.reduceDiv, Nat.reduceBEq, Nat.reduceBNe, Int.reduceBEq, Int.reduceBNe, appK_last, appK_mid, ev_sb, sbK_at, ev_gcons, ev_gnil, hr, c1, c2, a0, c3]
  exact ⟨_, _, .inl rfl, _, rfl, rfl⟩
theorem chk_stop {d_is : DFn} {ps : List (List Nat)} (hf : Fine ps) {s : Sto} {c : D} (hrow : ∀ p : List Nat, p.length ≤ 16777216 → d_is [.str p] s = some (.ret (.bl (rowB p)), s)) {p0 : List Nat} (a0 : atI (ps.map D.str) 0 = some (.str p0)) (h0 : p0 ∈ ps) {C : Addr} {e : Den} {b : DenS} {v : D}
    (hb : b = dIfS (dOrT (dNotT (dTru (dCall d_is (dCons (dV 2) dNil)))) (dTst (dOp neD (dCB lenG (dCons (dV 2) dNil)) (dCB lenG (dCons (dOp idxD (dV 1) (dC (.int 0))) dNil))))) (dRaise C e) dSkip) (he : ∀ x, e [some c, some (.lst (ps.map D.str)), some x] s = some (v, s)) :
    ∀ d env s', d ∈ ps.map D.str → okP p0.length d = false → inI ps c s env s' → ∃ env1 s1, gN 2 d env s' = some (env1, s1) ∧ Ends (.ex C v) (inI ps c s) (b env1 s1) := by
  subst hb
  rintro d env s' hd hp ⟨x, rfl, rfl⟩
  obtain ⟨p, hpm, rfl⟩ := List.mem_map.mp hd
  refine ⟨_, _, rfl, ?_⟩
  have h1 := hf.le hpm
  have h2 := hf.le h0
  have hr := hrow p (by omega)
  have c1 : p.length ≤ 16777216 := by omega
  have c2 : p0.length ≤ 16777216 := by omega
  cases q : rowB p with
  | false =>
    rw [q] at hr
    simp -implicitDefEqProofs (maxSteps := 1000000) only [ev_seq, seqK_nx, seqK_rt, seqK_ex, seqK_bk, seqK_ct, ev_skip, ev_brk, ev_cont, ev_asg, ev_gN, ev_if, ev_ret, ev_expr, ev_raise, ev_new, ev_par, parK_ev, ev_tst, tstK_bl, ev_tru, ev_andT, ev_orT, ev_notT, ev_andE, ev_orE, ev_notE, ev_ifE, ev_V, varK_ev, ev_C, ev_op, ev_opF, ev_nil, ev_cons, ev_data, ev_lst, ev_tup, ev_CB, ev_CBF, ev_call, outK_ev, ev_neg, negK_ev, ev_so, soK_ev, ev_no, ev_slc, ev_slcF, fz_non, fz_bl, fz_int, fz_str, fz_scr, fz_lst, fz_tup, fz_obj, fz_exn, fz_last, fz_mid, fz_lastI, fz_lastF, vw_non, vw_bl, vw_int, vw_str, vw_scr, vw_lst, vw_tup, vw_obj, vw_ty, vw_cls, vw_exn, vw_last, vw_mid, vw_lastI, vw_lastF, st_last, st_set, st_take, st_mid, st_mset, st_mtake, add_int, add_str, add_lst, addL_lst, sub_int, mul_r, mul_l, mul_str, mul_lst, mulL_lst, div_int, mod_int, pow_18, pow_60, lt_int, le_int, gt_int, ge_int, eq_int, eq_str, ne_int, ne_str, eq_bl, isN_non, isN_tup, isN_lst, isN_str, isN_int, isN_bl, len_str, len_lst, len_tup, len_scr, int_int, max_int, min_int, tru_bl, tru_non, tru_int, tru_str, tru_lst, ix_lst, ix_tup, ix_scr, ix_str, Option.map_some, Option.map_none, slc_str, slc_lst, Option.bind_some, Option.bind_none, List.getElem?_cons_zero, List.getElem?_cons_succ, List.set_cons_zero, List.set_cons_succ, List.map_cons, List.map_nil, if_true, if_false, ite_true, ite_false, Bool.false_eq_true, decide_true, decide_false, Bool.not_true, Bool.not_false, reduceIte, sl_eq, eq_self, Nat.zero_le, List.length_cons, List.length_nil, List.length_map, ite_self, Int.natAbs_natCast, isObj_ev, ev_fld, fldK_obj, getF_hit, ev_prop, ev_own, ok_bl, ok_obj, list_lst, iso_ev, ev_asgX, asgX_ret, asgX_exc, ev_callX, i_non_bool, i_non_int, i_non_str, i_non_list, i_non_tuple, i_bl_bool, i_bl_int, i_bl_str, i_bl_list, i_bl_tuple, i_int_bool, i_int_int, i_int_str, i_int_list, i_int_tuple, i_str_bool, i_str_int, i_str_str, i_str_list, i_str_tuple, i_lst_bool, i_lst_int, i_lst_str, i_lst_list, i_lst_tuple, i_tup_bool, i_tup_int, i_tup_str, i_tup_list, i_tup_tuple, ev_appB, Int.reduceAbs, Nat.reduceLT, Nat.reduceLeDiff, Int.reduceLT, Int.reduceLE, Int.reduceEq, Int.reduceNe, Int.reduceAdd, Int.reduceSub, Int.reduceMul, Int.reduceNeg, Int.reduceMod, Int.reduceDiv, Nat.reduceAdd, Nat.reduceSub, Nat.reduceMul, Nat.reduceEqDiff, Int.reduceToNat, Nat.reduceGT, Int.reduceGT, Int.reduceGE, Nat.reduceMod, Nat.reduceDiv, Nat.reduceBEq, Nat.reduceBNe, Int.reduceBEq, Int.reduceBNe, appK_last, appK_mid, ev_sb, sbK_at, ev_gcons, ev_gnil, hr, he]
    exact ⟨_, _, rfl, _, rfl, rfl⟩
  | true =>
    rw [q] at hr
    simp only [okP, q, Bool.true_and, decide_eq_false_iff_not] at hp
    have c3 : ¬ ((p.length : Int) = (p0.length : Int)) := by omega
    simp -implicitDefEqProofs (maxSteps := 1000000) only [ev_seq, seqK_nx, seqK_rt, seqK_ex, seqK_bk, seqK_ct, ev_skip, ev_brk, ev_cont, ev_asg, ev_gN, ev_if, ev_ret, ev_expr, ev_raise, ev_new, ev_par, parK_ev, ev_tst, tstK_bl, ev_tru, ev_andT, ev_orT, ev_notT, ev_andE, ev_orE, ev_notE, ev_ifE, ev_V, varK_ev, ev_C, ev_op, ev_opF, ev_nil, ev_cons, ev_data, ev_lst, ev_tup, ev_CB, ev_CBF, ev_call, outK_ev, ev_neg, negK_ev, ev_so, soK_ev, ev_no, ev_slc, ev_slcF, fz_non, fz_bl, fz_int, fz_str, fz_scr, fz_lst, fz_tup, fz_obj, fz_exn, fz_last, fz_mid, fz_lastI, fz_lastF, vw_non, vw_bl, vw_int, vw_str, vw_scr, vw_lst, vw_tup, vw_obj, vw_ty, vw_cls, vw_exn, vw_last, vw_mid, vw_lastI, vw_lastF, st_last, st_set, st_take, st_mid, st_mset, st_mtake, add_int, add_str, add_lst, addL_lst, sub_int, mul_r, mul_l, mul_str, mul_lst, mulL_lst, div_int, mod_int, pow_18, pow_60, lt_int, le_int, gt_int, ge_int, eq_int, eq_str, ne_int, ne_str, eq_bl, isN_non, isN_tup, isN_lst, isN_str, isN_int, isN_bl, len_str, len_lst, len_tup, len_scr, int_int, max_int, min_int, tru_bl, tru_non, tru_int, tru_str, tru_lst, ix_lst, ix_tup, ix_scr, ix_str, Option.map_some, Option.map_none, slc_str, slc_lst, Option.bind_some, Option.bind_none, List.getElem?_cons_zero, List.getElem?_cons_succ, List.set_cons_zero, List.set_cons_succ, List.map_cons, List.map_nil, if_true, if_false, ite_true, ite_false, Bool.false_eq_true, decide_true, decide_false, Bool.not_true, Bool.not_false, reduceIte, sl_eq, eq_self, Nat.zero_le, List.length_cons, List.length_nil, List.length_map, ite_self, Int.natAbs_natCast, isObj_ev, ev_fld, fldK_obj, getF_hit, ev_prop, ev_own, ok_bl, ok_obj, list_lst, iso_ev, ev_asgX, asgX_ret, asgX_exc, ev_callX, i_non_bool, i_non_int, i_non_str, i_non_list, i_non_tuple, i_bl_bool, i_bl_int, i_bl_str, i_bl_list, i_bl_tuple, i_int_bool, i_int_int, i_int_str, i_int_list, i_int_tuple, i_str_bool, i_str_int, i_str_str, i_str_list, i_str_tuple, i_lst_bool, i_lst_int, i_lst_str, i_lst_list, i_lst_tuple, i_tup_bool, i_tup_int, i_tup_str, i_tup_list, i_tup_tuple, ev_appB, Int.reduceAbs, Nat.reduceLT, Nat.reduceLeDiff, Int.reduceLT, Int.reduceLE, Int.reduceEq, Int.reduceNe, Int.reduceAdd, Int.reduceSub, Int.reduceMul, Int.reduceNeg, Int.reduceMod, Int.reduceDiv, Nat.reduceAdd, Nat.reduceSub, Nat.reduceMul, Nat.reduceEqDiff, Int.reduceToNat, Nat.reduceGT, Int.reduceGT, Int.reduceGE, Nat.reduceMod, Nat.reduceDiv, Nat.reduceBEq, Nat.reduceBNe, Int.reduceBEq, Int.reduceBNe, appK_last, appK_mid, ev_sb, sbK_at, ev_gcons, ev_gnil, hr, c1, c2, a0, c3, he]
    exact ⟨_, _, rfl, _, rfl, rfl⟩
def ruleD (T : Ads) (ps : List (List Nat)) : D := .obj T.C_Rule ["lines"] [.lst (ps.map D.str)]
theorem m_Rule_init (T : Ads) (ps : List (List Nat)) (s : Sto) (hf : Fine ps) (ha : allP ps = true) :
    d_Rule___init__ T [.cell s.length, .lst (ps.map D.str)] (s ++ [.ins T.C_Rule [] []]) = some (.ret .non, s ++ [.ins T.C_Rule ["lines"] [.lst (ps.map D.str)]]) := by
  obtain ⟨p0, g0, gh, gm⟩ := head_get hf.1
  have a0 : atI (ps.map D.str) 0 = some (.str p0) := at_nat (n := 0) (by rw [List.getElem?_map, g0]; rfl)
  have hlen : ¬ ((ps.length : Int) = 0) := by
    have := List.length_pos_iff.mpr hf.1
    omega
  refine ev_funM rfl ?_
  simp only [env0, List.map_cons, List.map_nil, List.length_cons, List.length_nil, List.replicate_succ, List.replicate_zero, List.cons_append, List.nil_append, Nat.reduceAdd, Nat.reduceSub]
  rw [ev_seq]
  refine ex_bind (y := ((.nx, [some (.cell s.length), some (.lst (ps.map D.str)), none], s ++ [.ins T.C_Rule [] []]) : Fl × DEnv × Sto)) (g := fun (e : DEnv) => ((.nx, e, s ++ [.ins T.C_Rule ["lines"] [.lst (ps.map D.str)]]) : Fl × DEnv × Sto)) ?fst ?_
  case fst => simp -implicitDefEqProofs (maxSteps := 1000000) only [ev_seq, seqK_nx, seqK_rt, seqK_ex, seqK_bk, seqK_ct, ev_skip, ev_brk, ev_cont, ev_asg, ev_gN, ev_if, ev_ret, ev_expr, ev_raise, ev_new, ev_par, parK_ev, ev_tst, tstK_bl, ev_tru, ev_andT, ev_orT, ev_notT, ev_andE, ev_orE, ev_notE, ev_ifE, ev_V, varK_ev, ev_C, ev_op, ev_opF, ev_nil, ev_cons, ev_data, ev_lst, ev_tup, ev_CB, ev_CBF, ev_call, outK_ev, ev_neg, negK_ev, ev_so, soK_ev, ev_no, ev_slc, ev_slcF, fz_non, fz_bl, fz_int, fz_str, fz_scr, fz_lst, fz_tup, fz_obj, fz_exn, fz_last, fz_mid, fz_lastI, fz_lastF, vw_non, vw_bl, vw_int, vw_str, vw_scr, vw_lst, vw_tup, vw_obj, vw_ty, vw_cls, vw_exn, vw_last, vw_mid, vw_lastI, vw_lastF, st_last, st_set, st_take, st_mid, st_mset, st_mtake, add_int, add_str, add_lst, addL_lst, sub_int, mul_r, mul_l, mul_str, mul_lst, mulL_lst, div_int, mod_int, pow_18, pow_60, lt_int, le_int, gt_int, ge_int, eq_int, eq_str, ne_int, ne_str, eq_bl, isN_non, isN_tup, isN_lst, isN_str, isN_int, isN_bl, len_str, len_lst, len_tup, len_scr, int_int, max_int, min_int, tru_bl, tru_non, tru_int, tru_str, tru_lst, ix_lst, ix_tup, ix_scr, ix_str, Option.map_some, Option.map_none, slc_str, slc_lst, Option.bind_some, Option.bind_none, List.getElem?_cons_zero, List.getElem?_cons_succ, List.set_cons_zero, List.set_cons_succ, List.map_cons, List.map_nil, if_true, if_false, ite_true, ite_false, Bool.false_eq_true, decide_true, decide_false, Bool.not_true, Bool.not_false, reduceIte, sl_eq, eq_self, Nat.zero_le, List.length_cons, List.length_nil, List.length_map, ite_self, Int.natAbs_natCast, isObj_ev, ev_fld, fldK_obj, getF_hit, ev_prop, ev_own, ok_bl, ok_obj, list_lst, iso_ev, ev_asgX, asgX_ret, asgX_exc, ev_callX, i_non_bool, i_non_int, i_non_str, i_non_list, i_non_tuple, i_bl_bool, i_bl_int, i_bl_str, i_bl_list, i_bl_tuple, i_int_bool, i_int_int, i_int_str, i_int_list, i_int_tuple, i_str_bool, i_str_int, i_str_str, i_str_list, i_str_tuple, i_lst_bool, i_lst_int, i_lst_str, i_lst_list, i_lst_tuple, i_tup_bool, i_tup_int, i_tup_str, i_tup_list, i_tup_tuple, ev_appB, Int.reduceAbs, Nat.reduceLT, Nat.reduceLeDiff, Int.reduceLT, Int.reduceLE, Int.reduceEq, Int.reduceNe, Int.reduceAdd, Int.reduceSub, Int.reduceMul, Int.reduceNeg, Int.reduceMod, Int.reduceDiv, Nat.reduceAdd, Nat.reduceSub, Nat.reduceMul, Nat.reduceEqDiff, Int.reduceToNat, Nat.reduceGT, Int.reduceGT, Int.reduceGE, Nat.reduceMod, Nat.reduceDiv, Nat.reduceBEq, Nat.reduceBNe, Int.reduceBEq, Int.reduceBNe, appK_last, appK_mid, ev_sb, sbK_at, ev_gcons, ev_gnil, hlen]
  simp only [seqK_nx]
  rw [ev_seq, ev_for, ev_any_lst (xs := ps.map D.str) (s1 := s ++ [.ins T.C_Rule [] []]) (by simp -implicitDefEqProofs (maxSteps := 1000000) only [ev_seq, seqK_nx, seqK_rt, seqK_ex, seqK_bk, seqK_ct, ev_skip, ev_brk, ev_cont, ev_asg, ev_gN, ev_if, ev_ret, ev_expr, ev_raise, ev_new, ev_par, parK_ev, ev_tst, tstK_bl, ev_tru, ev_andT, ev_orT, ev_notT, ev_andE, ev_orE, ev_notE, ev_ifE, ev_V, varK_ev, ev_C, ev_op, ev_opF, ev_nil, ev_cons, ev_data, ev_lst, ev_tup, ev_CB, ev_CBF, ev_call, outK_ev, ev_neg, negK_ev, ev_so, soK_ev, ev_no, ev_slc, ev_slcF, fz_non, fz_bl, fz_int, fz_str, fz_scr, fz_lst, fz_tup, fz_obj, fz_exn, fz_last, fz_mid, fz_lastI, fz_lastF, vw_non, vw_bl, vw_int, vw_str, vw_scr, vw_lst, vw_tup, vw_obj, vw_ty, vw_cls, vw_exn, vw_last, vw_mid, vw_lastI, vw_lastF, st_last, st_set, st_take, st_mid, st_mset, st_mtake, add_int, add_str, add_lst, addL_lst, sub_int, mul_r, mul_l, mul_str, mul_lst, mulL_lst, div_int, mod_int, pow_18, pow_60, lt_int, le_int, gt_int, ge_int, eq_int, eq_str, ne_int, ne_str, eq_bl, isN_non, isN_tup, isN_lst, isN_str, isN_int, isN_bl, len_str, len_lst, len_tup, len_scr, int_int, max_int, min_int, tru_bl, tru_non, tru_int, tru_str, tru_lst, ix_lst, ix_tup, ix_scr, ix_str, Option.map_some, Option.map_none, slc_str, slc_lst, Option.bind_some, Option.bind_none, List.getElem?_cons_zero, List.getElem?_cons_succ, List.set_cons_zero, List.set_cons_succ, List.map_cons, List.map_nil, if_true, if_false, ite_true, ite_false, Bool.false_eq_true, decide_true, decide_false, Bool.not_true, Bool.not_false, reduceIte, sl_eq, eq_self, Nat.zero_le, List.length_cons, List.length_nil, List.length_map, ite_self, Int.natAbs_natCast, isObj_ev, ev_fld, fldK_obj, getF_hit, ev_prop, ev_own, ok_bl, ok_obj, list_lst, iso_ev, ev_asgX, asgX_ret, asgX_exc, ev_callX, i_non_bool, i_non_int, i_non_str, i_non_list, i_non_tuple, i_bl_bool, i_bl_int, i_bl_str, i_bl_list, i_bl_tuple, i_int_bool, i_int_int, i_int_str, i_int_list, i_int_tuple, i_str_bool, i_str_int, i_str_str, i_str_list, i_str_tuple, i_lst_bool, i_lst_int, i_lst_str, i_lst_list, i_lst_tuple, i_tup_bool, i_tup_int, i_tup_str, i_tup_list, i_tup_tuple, ev_appB, Int.reduceAbs, Nat.reduceLT, Nat.reduceLeDiff, Int.reduceLT, Int.reduceLE, Int.reduceEq, Int.reduceNe, Int.reduceAdd, Int.reduceSub, Int.reduceMul, Int.reduceNeg, Int.reduceMod, Int.reduceDiv, Nat.reduceAdd, Nat.reduceSub, Nat.reduceMul, Nat.reduceEqDiff, Int.reduceToNat, Nat.reduceGT, Int.reduceGT, Int.reduceGE, Nat.reduceMod, Nat.reduceDiv, Nat.reduceBEq, Nat.reduceBNe, Int.reduceBEq, Int.reduceBNe, appK_last, appK_mid, ev_sb, sbK_at, ev_gcons, ev_gnil])]
  simp only [Option.bind_some]
  obtain ⟨k1, _⟩ := for_find (g := gN 2) (b := b1_Rule___init__ T) (gd := none) (okP p0.length) (.ex T.C_InvalidRow .non) (.inr ⟨_, _, rfl⟩) (inI ps (.cell s.length) (s ++ [.ins T.C_Rule [] []])) (fun _ _ => True) (items := ps.map D.str) (env := [some (.cell s.length), some (.lst (ps.map D.str)), none]) (s := s ++ [.ins T.C_Rule [] []]) ⟨none, rfl, rfl⟩ (fun _ _ _ => trivial)
    (chk_pass hf (fun p hp => m_is_row T p _ hp) a0 gm rfl) (fun d env s' hd hp _ => by
      exfalso
      unfold allP at ha
      rw [gh] at ha
      have := List.all_eq_true.mp ha d hd
      rw [hp] at this
      cases this)
  unfold allP at ha
  rw [gh] at ha
  obtain ⟨env', s', e, x, rfl, rfl⟩ := k1 ha
  rw [e]
  simp only [Option.bind_some, seqK_nx]
  rw [ev_fldS (y := .lst (ps.map D.str)) (s1 := s ++ [.ins T.C_Rule [] []]) (s2 := s ++ [.ins T.C_Rule [] []]) (j := s.length) (ns := []) (vs := []) (by simp -implicitDefEqProofs (maxSteps := 1000000) only [ev_seq, seqK_nx, seqK_rt, seqK_ex, seqK_bk, seqK_ct, ev_skip, ev_brk, ev_cont, ev_asg, ev_gN, ev_if, ev_ret, ev_expr, ev_raise, ev_new, ev_par, parK_ev, ev_tst, tstK_bl, ev_tru, ev_andT, ev_orT, ev_notT, ev_andE, ev_orE, ev_notE, ev_ifE, ev_V, varK_ev, ev_C, ev_op, ev_opF, ev_nil, ev_cons, ev_data, ev_lst, ev_tup, ev_CB, ev_CBF, ev_call, outK_ev, ev_neg, negK_ev, ev_so, soK_ev, ev_no, ev_slc, ev_slcF, fz_non, fz_bl, fz_int, fz_str, fz_scr, fz_lst, fz_tup, fz_obj, fz_exn, fz_last, fz_mid, fz_lastI, fz_lastF, vw_non, vw_bl, vw_int, vw_str, vw_scr, vw_lst, vw_tup, vw_obj, vw_ty, vw_cls, vw_exn, vw_last, vw_mid, vw_lastI, vw_lastF, st_last, st_set, st_take, st_mid, st_mset, st_mtake, add_int, add_str, add_lst, addL_lst, sub_int, mul_r, mul_l, mul_str, mul_lst, mulL_lst, div_int, mod_int, pow_18, pow_60, lt_int, le_int, gt_int, ge_int, eq_int, eq_str, ne_int, ne_str, eq_bl, isN_non, isN_tup, isN_lst, isN_str, isN_int, isN_bl, len_str, len_lst, len_tup, len_scr, int_int, max_int, min_int, tru_bl, tru_non, tru_int, tru_str, tru_lst, ix_lst, ix_tup, ix_scr, ix_str, Option.map_some, Option.map_none, slc_str, slc_lst, Option.bind_some, Option.bind_none, List.getElem?_cons_zero, List.getElem?_cons_succ, List.set_cons_zero, List.set_cons_succ, List.map_cons, List.map_nil, if_true, if_false, ite_true, ite_false, Bool.false_eq_true, decide_true, decide_false, Bool.not_true, Bool.not_false, reduceIte, sl_eq, eq_self, Nat.zero_le, List.length_cons, List.length_nil, List.length_map, ite_self, Int.natAbs_natCast, isObj_ev, ev_fld, fldK_obj, getF_hit, ev_prop, ev_own, ok_bl, ok_obj, list_lst, iso_ev, ev_asgX, asgX_ret, asgX_exc, ev_callX, i_non_bool, i_non_int, i_non_str, i_non_list, i_non_tuple, i_bl_bool, i_bl_int, i_bl_str, i_bl_list, i_bl_tuple, i_int_bool, i_int_int, i_int_str, i_int_list, i_int_tuple, i_str_bool, i_str_int, i_str_str, i_str_list, i_str_tuple, i_lst_bool, i_lst_int, i_lst_str, i_lst_list, i_lst_tuple, i_tup_bool, i_tup_int, i_tup_str, i_tup_list, i_tup_tuple, ev_appB, Int.reduceAbs, Nat.reduceLT, Nat.reduceLeDiff, Int.reduceLT, Int.reduceLE, Int.reduceEq, Int.reduceNe, Int.reduceAdd, Int.reduceSub, Int.reduceMul, Int.reduceNeg, Int.reduceMod, Int.reduceDiv, Nat.reduceAdd, Nat.reduceSub, Nat.reduceMul, Nat.reduceEqDiff, Int.reduceToNat, Nat.reduceGT, Int.reduceGT, Int.reduceGE, Nat.reduceMod, Nat.reduceDiv, Nat.reduceBEq, Nat.reduceBNe, Int.reduceBEq, Int.reduceBNe, appK_last, appK_mid, ev_sb, sbK_at, ev_gcons, ev_gnil]) (by simp -implicitDefEqProofs (maxSteps := 1000000) only [ev_seq, seqK_nx, seqK_rt, seqK_ex, seqK_bk, seqK_ct, ev_skip, ev_brk, ev_cont, ev_asg, ev_gN, ev_if, ev_ret, ev_expr, ev_raise, ev_new, ev_par, parK_ev, ev_tst, tstK_bl, ev_tru, ev_andT, ev_orT, ev_notT, ev_andE, ev_orE, ev_notE, ev_ifE, ev_V, varK_ev, ev_C, ev_op, ev_opF, ev_nil, ev_cons, ev_data, ev_lst, ev_tup, ev_CB, ev_CBF, ev_call, outK_ev, ev_neg, negK_ev, ev_so, soK_ev, ev_no, ev_slc, ev_slcF, fz_non, fz_bl, fz_int, fz_str, fz_scr, fz_lst, fz_tup, fz_obj, fz_exn, fz_last, fz_mid, fz_lastI, fz_lastF, vw_non, vw_bl, vw_int, vw_str, vw_scr, vw_lst, vw_tup, vw_obj, vw_ty, vw_cls, vw_exn, vw_last, vw_mid, vw_lastI, vw_lastF, st_last, st_set, st_take, st_mid, st_mset, st_mtake, add_int, add_str, add_lst, addL_lst, sub_int, mul_r, mul_l, mul_str, mul_lst, mulL_lst, div_int, mod_int, pow_18, pow_60, lt_int, le_int, gt_int, ge_int, eq_int, eq_str, ne_int, ne_str, eq_bl, isN_non, isN_tup, isN_lst, isN_str, isN_int, isN_bl, len_str, len_lst, len_tup, len_scr, int_int, max_int, min_int, tru_bl, tru_non, tru_int, tru_str, tru_lst, ix_lst, ix_tup, ix_scr, ix_str, Option.map_some, Option.map_none, slc_str, slc_lst, Option.bind_some, Option.bind_none, List.getElem?_cons_zero, List.getElem?_cons_succ, List.set_cons_zero, List.set_cons_succ, List.map_cons, List.map_nil, if_true, if_false, ite_true, ite_false, Bool.false_eq_true, decide_true, decide_false, Bool.not_true, Bool.not_false, reduceIte, sl_eq, eq_self, Nat.zero_le, List.length_cons, List.length_nil, List.length_map, ite_self, Int.natAbs_natCast, isObj_ev, ev_fld, fldK_obj, getF_hit, ev_prop, ev_own, ok_bl, ok_obj, list_lst, iso_ev, ev_asgX, asgX_ret, asgX_exc, ev_callX, i_non_bool, i_non_int, i_non_str, i_non_list, i_non_tuple, i_bl_bool, i_bl_int, i_bl_str, i_bl_list, i_bl_tuple, i_int_bool, i_int_int, i_int_str, i_int_list, i_int_tuple, i_str_bool, i_str_int, i_str_str, i_str_list, i_str_tuple, i_lst_bool, i_lst_int, i_lst_str, i_lst_list, i_lst_tuple, i_tup_bool, i_tup_int, i_tup_str, i_tup_list, i_tup_tuple, ev_appB, Int.reduceAbs, Nat.reduceLT, Nat.reduceLeDiff, Int.reduceLT, Int.reduceLE, Int.reduceEq, Int.reduceNe, Int.reduceAdd, Int.reduceSub, Int.reduceMul, Int.reduceNeg, Int.reduceMod, Int.reduceDiv, Nat.reduceAdd, Nat.reduceSub, Nat.reduceMul, Nat.reduceEqDiff, Int.reduceToNat, Nat.reduceGT, Int.reduceGT, Int.reduceGE, Nat.reduceMod, Nat.reduceDiv, Nat.reduceBEq, Nat.reduceBNe, Int.reduceBEq, Int.reduceBNe, appK_last, appK_mid, ev_sb, sbK_at, ev_gcons, ev_gnil]) st_last (by decide), st_set]
  exact ⟨_, rfl⟩
theorem make_rule (T : Ads) (ps : List (List Nat)) (s : Sto) (hf : Fine ps) (ha : allP ps = true) {ds : DenL} {env : DEnv} (e : ds env s = some ([.lst (ps.map D.str)], s)) : dMake T.C_Rule (d_Rule___init__ T) ds env s = some (ruleD T ps, s) :=
  ev_make e (m_Rule_init T ps s hf ha) (by simp only [bnds, bnd, bnds_strs, Bool.and_self])
theorem m_read_rule (T : Ads) (l : List Nat) (s : Sto) (hl : l.length ≤ 1000000) : d_read_rule T [.str l] s = some (if allP (parts l) = true then .ret (ruleD T (parts l)) else .exc T.C_Unreadable (.str l), s) := by
  have hf := fine_parts hl
  obtain ⟨p0, g0, gh, gm⟩ := head_get hf.1
  have a0 : atI ((parts l).map D.str) 0 = some (.str p0) := at_nat (n := 0) (by rw [List.getElem?_map, g0]; rfl)
  obtain ⟨k1, k2⟩ := for_find (g := gN 2) (b := b1_read_rule T) (gd := none) (okP p0.length) (.ex T.C_Unreadable (.str l)) (.inr ⟨_, _, rfl⟩) (inI (parts l) (.str l) s) (inI (parts l) (.str l) s) (items := (parts l).map D.str) (env := [some (.str l), some (.lst ((parts l).map D.str)), none]) (s := s) ⟨none, rfl, rfl⟩ (fun _ _ _ => trivial)
    (chk_pass hf (fun p hp => m_is_row T p _ hp) a0 gm rfl) (chk_stop hf (fun p hp => m_is_row T p _ hp) a0 gm rfl (fun x => by simp -implicitDefEqProofs (maxSteps := 1000000) only [ev_seq, seqK_nx, seqK_rt, seqK_ex, seqK_bk, seqK_ct, ev_skip, ev_brk, ev_cont, ev_asg, ev_gN, ev_if, ev_ret, ev_expr, ev_raise, ev_new, ev_par, parK_ev, ev_tst, tstK_bl, ev_tru, ev_andT, ev_orT, ev_notT, ev_andE, ev_orE, ev_notE, ev_ifE, ev_V, varK_ev, ev_C, ev_op, ev_opF, ev_nil, ev_cons, ev_data, ev_lst, ev_tup, ev_CB, ev_CBF, ev_call, outK_ev, ev_neg, negK_ev, ev_so, soK_ev, ev_no, ev_slc, ev_slcF, fz_non, fz_bl, fz_int, fz_str, fz_scr, fz_lst, fz_tup, fz_obj, fz_exn, fz_last, fz_mid, fz_lastI, fz_lastF, vw_non, vw_bl, vw_int, vw_str, vw_scr, vw_lst, vw_tup, vw_obj, vw_ty, vw_cls, vw_exn, vw_last, vw_mid, vw_lastI, vw_lastF, st_last, st_set, st_take, st_mid, st_mset, st_mtake, add_int, add_str, add_lst, addL_lst, sub_int, mul_r, mul_l, mul_str, mul_lst, mulL_lst, div_int, mod_int, pow_18, pow_60, lt_int, le_int, gt_int, ge_int, eq_int, eq_str, ne_int, ne_str, eq_bl, isN_non, isN_tup, isN_lst, isN_str, isN_int, isN_bl, len_str, len_lst, len_tup, len_scr, int_int, max_int, min_int, tru_bl, tru_non, tru_int, tru_str, tru_lst, ix_lst, ix_tup, ix_scr, ix_str, Option.map_some, Option.map_none, slc_str, slc_lst, Option.bind_some, Option.bind_none, List.getElem?_cons_zero, List.getElem?_cons_succ, List.set_cons_zero, List.set_cons_succ, List.map_cons, List.map_nil, if_true, if_false, ite_true, ite_false, Bool.false_eq_true, decide_true, decide_false, Bool.not_true, Bool.not_false, reduceIte, sl_eq, eq_self, Nat.zero_le, List.length_cons, List.length_nil, List.length_map, ite_self, Int.natAbs_natCast, isObj_ev, ev_fld, fldK_obj, getF_hit, ev_prop, ev_own, ok_bl, ok_obj, list_lst, iso_ev, ev_asgX, asgX_ret, asgX_exc, ev_callX, i_non_bool, i_non_int, i_non_str, i_non_list, i_non_tuple, i_bl_bool, i_bl_int, i_bl_str, i_bl_list, i_bl_tuple, i_int_bool, i_int_int, i_int_str, i_int_list, i_int_tuple, i_str_bool, i_str_int, i_str_str, i_str_list, i_str_tuple, i_lst_bool, i_lst_int, i_lst_str, i_lst_list, i_lst_tuple, i_tup_bool, i_tup_int, i_tup_str, i_tup_list, i_tup_tuple, ev_appB, Int.reduceAbs, Nat.reduceLT, Nat.reduceLeDiff, Int.reduceLT, Int.reduceLE, Int.reduceEq, Int.reduceNe, Int.reduceAdd, Int.reduceSub, Int.reduceMul, Int.reduceNeg, Int.reduceMod, Int.reduceDiv, Nat.reduceAdd, Nat.reduceSub, Nat.reduceMul, Nat.reduceEqDiff, Int.reduceToNat, Nat.reduceGT, Int.reduceGT, Int.reduceGE, Nat.reduceMod, Nat.reduceDiv, Nat.reduceBEq, Nat.reduceBNe, Int.reduceBEq, Int.reduceBNe, appK_last, appK_mid, ev_sb, sbK_at, ev_gcons, ev_gnil]))
  unfold allP
  rw [gh]
  cases q : ((parts l).map D.str).all (okP p0.length) with
  | true =>
    rw [if_pos rfl]
    have ha : allP (parts l) = true := by unfold allP; rw [gh]; exact q
    refine ev_funE (r := ruleD T (parts l)) rfl ?_ (take_self s) (setl_obj (by simp only [bnds, bnd, bnds_strs, Bool.and_self]))
    simp only [env0, List.map_cons, List.map_nil, List.length_cons, List.length_nil, List.replicate_succ, List.replicate_zero, List.cons_append, List.nil_append, Nat.reduceAdd, Nat.reduceSub]
    rw [ev_seq, ev_asg, ev_data, ev_M1F (x := l) (y := .str [47]) (s1 := s) (s2 := s) (by simp -implicitDefEqProofs (maxSteps := 1000000) only [ev_seq, seqK_nx, seqK_rt, seqK_ex, seqK_bk, seqK_ct, ev_skip, ev_brk, ev_cont, ev_asg, ev_gN, ev_if, ev_ret, ev_expr, ev_raise, ev_new, ev_par, parK_ev, ev_tst, tstK_bl, ev_tru, ev_andT, ev_orT, ev_notT, ev_andE, ev_orE, ev_notE, ev_ifE, ev_V, varK_ev, ev_C, ev_op, ev_opF, ev_nil, ev_cons, ev_data, ev_lst, ev_tup, ev_CB, ev_CBF, ev_call, outK_ev, ev_neg, negK_ev, ev_so, soK_ev, ev_no, ev_slc, ev_slcF, fz_non, fz_bl, fz_int, fz_str, fz_scr, fz_lst, fz_tup, fz_obj, fz_exn, fz_last, fz_mid, fz_lastI, fz_lastF, vw_non, vw_bl, vw_int, vw_str, vw_scr, vw_lst, vw_tup, vw_obj, vw_ty, vw_cls, vw_exn, vw_last, vw_mid, vw_lastI, vw_lastF, st_last, st_set, st_take, st_mid, st_mset, st_mtake, add_int, add_str, add_lst, addL_lst, sub_int, mul_r, mul_l, mul_str, mul_lst, mulL_lst, div_int, mod_int, pow_18, pow_60, lt_int, le_int, gt_int, ge_int, eq_int, eq_str, ne_int, ne_str, eq_bl, isN_non, isN_tup, isN_lst, isN_str, isN_int, isN_bl, len_str, len_lst, len_tup, len_scr, int_int, max_int, min_int, tru_bl, tru_non, tru_int, tru_str, tru_lst, ix_lst, ix_tup, ix_scr, ix_str, Option.map_some, Option.map_none, slc_str, slc_lst, Option.bind_some, Option.bind_none, List.getElem?_cons_zero, List.getElem?_cons_succ, List.set_cons_zero, List.set_cons_succ, List.map_cons, List.map_nil, if_true, if_false, ite_true, ite_false, Bool.false_eq_true, decide_true, decide_false, Bool.not_true, Bool.not_false, reduceIte, sl_eq, eq_self, Nat.zero_le, List.length_cons, List.length_nil, List.length_map, ite_self, Int.natAbs_natCast, isObj_ev, ev_fld, fldK_obj, getF_hit, ev_prop, ev_own, ok_bl, ok_obj, list_lst, iso_ev, ev_asgX, asgX_ret, asgX_exc, ev_callX, i_non_bool, i_non_int, i_non_str, i_non_list, i_non_tuple, i_bl_bool, i_bl_int, i_bl_str, i_bl_list, i_bl_tuple, i_int_bool, i_int_int, i_int_str, i_int_list, i_int_tuple, i_str_bool, i_str_int, i_str_str, i_str_list, i_str_tuple, i_lst_bool, i_lst_int, i_lst_str, i_lst_list, i_lst_tuple, i_tup_bool, i_tup_int, i_tup_str, i_tup_list, i_tup_tuple, ev_appB, Int.reduceAbs, Nat.reduceLT, Nat.reduceLeDiff, Int.reduceLT, Int.reduceLE, Int.reduceEq, Int.reduceNe, Int.reduceAdd, Int.reduceSub, Int.reduceMul, Int.reduceNeg, Int.reduceMod, Int.reduceDiv, Nat.reduceAdd, Nat.reduceSub, Nat.reduceMul, Nat.reduceEqDiff, Int.reduceToNat, Nat.reduceGT, Int.reduceGT, Int.reduceGE, Nat.reduceMod, Nat.reduceDiv, Nat.reduceBEq, Nat.reduceBNe, Int.reduceBEq, Int.reduceBNe, appK_last, appK_mid, ev_sb, sbK_at, ev_gcons, ev_gnil]) (by simp -implicitDefEqProofs (maxSteps := 1000000) only [ev_seq, seqK_nx, seqK_rt, seqK_ex, seqK_bk, seqK_ct, ev_skip, ev_brk, ev_cont, ev_asg, ev_gN, ev_if, ev_ret, ev_expr, ev_raise, ev_new, ev_par, parK_ev, ev_tst, tstK_bl, ev_tru, ev_andT, ev_orT, ev_notT, ev_andE, ev_orE, ev_notE, ev_ifE, ev_V, varK_ev, ev_C, ev_op, ev_opF, ev_nil, ev_cons, ev_data, ev_lst, ev_tup, ev_CB, ev_CBF, ev_call, outK_ev, ev_neg, negK_ev, ev_so, soK_ev, ev_no, ev_slc, ev_slcF, fz_non, fz_bl, fz_int, fz_str, fz_scr, fz_lst, fz_tup, fz_obj, fz_exn, fz_last, fz_mid, fz_lastI, fz_lastF, vw_non, vw_bl, vw_int, vw_str, vw_scr, vw_lst, vw_tup, vw_obj, vw_ty, vw_cls, vw_exn, vw_last, vw_mid, vw_lastI, vw_lastF, st_last, st_set, st_take, st_mid, st_mset, st_mtake, add_int, add_str, add_lst, addL_lst, sub_int, mul_r, mul_l, mul_str, mul_lst, mulL_lst, div_int, mod_int, pow_18, pow_60, lt_int, le_int, gt_int, ge_int, eq_int, eq_str, ne_int, ne_str, eq_bl, isN_non, isN_tup, isN_lst, isN_str, isN_int, isN_bl, len_str, len_lst, len_tup, len_scr, int_int, max_int, min_int, tru_bl, tru_non, tru_int, tru_str, tru_lst, ix_lst, ix_tup, ix_scr, ix_str, Option.map_some, Option.map_none, slc_str, slc_lst, Option.bind_some, Option.bind_none, List.getElem?_cons_zero, List.getElem?_cons_succ, List.set_cons_zero, List.set_cons_succ, List.map_cons, List.map_nil, if_true, if_false, ite_true, ite_false, Bool.false_eq_true, decide_true, decide_false, Bool.not_true, Bool.not_false, reduceIte, sl_eq, eq_self, Nat.zero_le, List.length_cons, List.length_nil, List.length_map, ite_self, Int.natAbs_natCast, isObj_ev, ev_fld, fldK_obj, getF_hit, ev_prop, ev_own, ok_bl, ok_obj, list_lst, iso_ev, ev_asgX, asgX_ret, asgX_exc, ev_callX, i_non_bool, i_non_int, i_non_str, i_non_list, i_non_tuple, i_bl_bool, i_bl_int, i_bl_str, i_bl_list, i_bl_tuple, i_int_bool, i_int_int, i_int_str, i_int_list, i_int_tuple, i_str_bool, i_str_int, i_str_str, i_str_list, i_str_tuple, i_lst_bool, i_lst_int, i_lst_str, i_lst_list, i_lst_tuple, i_tup_bool, i_tup_int, i_tup_str, i_tup_list, i_tup_tuple, ev_appB, Int.reduceAbs, Nat.reduceLT, Nat.reduceLeDiff, Int.reduceLT, Int.reduceLE, Int.reduceEq, Int.reduceNe, Int.reduceAdd, Int.reduceSub, Int.reduceMul, Int.reduceNeg, Int.reduceMod, Int.reduceDiv, Nat.reduceAdd, Nat.reduceSub, Nat.reduceMul, Nat.reduceEqDiff, Int.reduceToNat, Nat.reduceGT, Int.reduceGT, Int.reduceGE, Nat.reduceMod, Nat.reduceDiv, Nat.reduceBEq, Nat.reduceBNe, Int.reduceBEq, Int.reduceBNe, appK_last, appK_mid, ev_sb, sbK_at, ev_gcons, ev_gnil]), vw_str, split_47 hl]
    simp -implicitDefEqProofs (maxSteps := 1000000) only [ev_seq, seqK_nx, seqK_rt, seqK_ex, seqK_bk, seqK_ct, ev_skip, ev_brk, ev_cont, ev_asg, ev_gN, ev_if, ev_ret, ev_expr, ev_raise, ev_new, ev_par, parK_ev, ev_tst, tstK_bl, ev_tru, ev_andT, ev_orT, ev_notT, ev_andE, ev_orE, ev_notE, ev_ifE, ev_V, varK_ev, ev_C, ev_op, ev_opF, ev_nil, ev_cons, ev_data, ev_lst, ev_tup, ev_CB, ev_CBF, ev_call, outK_ev, ev_neg, negK_ev, ev_so, soK_ev, ev_no, ev_slc, ev_slcF, fz_non, fz_bl, fz_int, fz_str, fz_scr, fz_lst, fz_tup, fz_obj, fz_exn, fz_last, fz_mid, fz_lastI, fz_lastF, vw_non, vw_bl, vw_int, vw_str, vw_scr, vw_lst, vw_tup, vw_obj, vw_ty, vw_cls, vw_exn, vw_last, vw_mid, vw_lastI, vw_lastF, st_last, st_set, st_take, st_mid, st_mset, st_mtake, add_int, add_str, add_lst, addL_lst, sub_int, mul_r, mul_l, mul_str, mul_lst, mulL_lst, div_int, mod_int, pow_18, pow_60, lt_int, le_int, gt_int, ge_int, eq_int, eq_str, ne_int, ne_str, eq_bl, isN_non, isN_tup, isN_lst, isN_str, isN_int, isN_bl, len_str, len_lst, len_tup, len_scr, int_int, max_int, min_int, tru_bl, tru_non, tru_int, tru_str, tru_lst, ix_lst, ix_tup, ix_scr, ix_str, Option.map_some, Option.map_none, slc_str, slc_lst, Option.bind_some, Option.bind_none, List.getElem?_cons_zero, List.getElem?_cons_succ, List.set_cons_zero, List.set_cons_succ, List.map_cons, List.map_nil, if_true, if_false, ite_true, ite_false, Bool.false_eq_true, decide_true, decide_false, Bool.not_true, Bool.not_false, reduceIte, sl_eq, eq_self, Nat.zero_le, List.length_cons, List.length_nil, List.length_map, ite_self, Int.natAbs_natCast, isObj_ev, ev_fld, fldK_obj, getF_hit, ev_prop, ev_own, ok_bl, ok_obj, list_lst, iso_ev, ev_asgX, asgX_ret, asgX_exc, ev_callX, i_non_bool, i_non_int, i_non_str, i_non_list, i_non_tuple, i_bl_bool, i_bl_int, i_bl_str, i_bl_list, i_bl_tuple, i_int_bool, i_int_int, i_int_str, i_int_list, i_int_tuple, i_str_bool, i_str_int, i_str_str, i_str_list, i_str_tuple, i_lst_bool, i_lst_int, i_lst_str, i_lst_list, i_lst_tuple, i_tup_bool, i_tup_int, i_tup_str, i_tup_list, i_tup_tuple, ev_appB, Int.reduceAbs, Nat.reduceLT, Nat.reduceLeDiff, Int.reduceLT, Int.reduceLE, Int.reduceEq, Int.reduceNe, Int.reduceAdd, Int.reduceSub, Int.reduceMul, Int.reduceNeg, Int.reduceMod, Int.reduceDiv, Nat.reduceAdd, Nat.reduceSub, Nat.reduceMul, Nat.reduceEqDiff, Int.reduceToNat, Nat.reduceGT, Int.reduceGT, Int.reduceGE, Nat.reduceMod, Nat.reduceDiv, Nat.reduceBEq, Nat.reduceBNe, Int.reduceBEq, Int.reduceBNe, appK_last, appK_mid, ev_sb, sbK_at, ev_gcons, ev_gnil]
    rw [ev_for, ev_any_lst (xs := (parts l).map D.str) (s1 := s) (by simp -implicitDefEqProofs (maxSteps := 1000000) only [ev_seq, seqK_nx, seqK_rt, seqK_ex, seqK_bk, seqK_ct, ev_skip, ev_brk, ev_cont, ev_asg, ev_gN, ev_if, ev_ret, ev_expr, ev_raise, ev_new, ev_par, parK_ev, ev_tst, tstK_bl, ev_tru, ev_andT, ev_orT, ev_notT, ev_andE, ev_orE, ev_notE, ev_ifE, ev_V, varK_ev, ev_C, ev_op, ev_opF, ev_nil, ev_cons, ev_data, ev_lst, ev_tup, ev_CB, ev_CBF, ev_call, outK_ev, ev_neg, negK_ev, ev_so, soK_ev, ev_no, ev_slc, ev_slcF, fz_non, fz_bl, fz_int, fz_str, fz_scr, fz_lst, fz_tup, fz_obj, fz_exn, fz_last, fz_mid, fz_lastI, fz_lastF, vw_non, vw_bl, vw_int, vw_str, vw_scr, vw_lst, vw_tup, vw_obj, vw_ty, vw_cls, vw_exn, vw_last, vw_mid, vw_lastI, vw_lastF, st_last, st_set, st_take, st_mid, st_mset, st_mtake, add_int, add_str, add_lst, addL_lst, sub_int, mul_r, mul_l, mul_str, mul_lst, mulL_lst, div_int, mod_int, pow_18, pow_60, lt_int, le_int, gt_int, ge_int, eq_int, eq_str, ne_int, ne_str, eq_bl, isN_non, isN_tup, isN_lst, isN_str, isN_int, isN_bl, len_str, len_lst, len_tup, len_scr, int_int, max_int, min_int, tru_bl, tru_non, tru_int, tru_str, tru_lst, ix_lst, ix_tup, ix_scr, ix_str, Option.map_some, Option.map_none, slc_str, slc_lst, Option.bind_some, Option.bind_none, List.getElem?_cons_zero, List.getElem?_cons_succ, List.set_cons_zero, List.set_cons_succ, List.map_cons, List.map_nil, if_true, if_false, ite_true, ite_false, Bool.false_eq_true, decide_true, decide_false, Bool.not_true, Bool.not_false, reduceIte, sl_eq, eq_self, Nat.zero_le, List.length_cons, List.length_nil, List.length_map, ite_self, Int.natAbs_natCast, isObj_ev, ev_fld, fldK_obj, getF_hit, ev_prop, ev_own, ok_bl, ok_obj, list_lst, iso_ev, ev_asgX, asgX_ret, asgX_exc, ev_callX, i_non_bool, i_non_int, i_non_str, i_non_list, i_non_tuple, i_bl_bool, i_bl_int, i_bl_str, i_bl_list, i_bl_tuple, i_int_bool, i_int_int, i_int_str, i_int_list, i_int_tuple, i_str_bool, i_str_int, i_str_str, i_str_list, i_str_tuple, i_lst_bool, i_lst_int, i_lst_str, i_lst_list, i_lst_tuple, i_tup_bool, i_tup_int, i_tup_str, i_tup_list, i_tup_tuple, ev_appB, Int.reduceAbs, Nat.reduceLT, Nat.reduceLeDiff, Int.reduceLT, Int.reduceLE, Int.reduceEq, Int.reduceNe, Int.reduceAdd, Int.reduceSub, Int.reduceMul, Int.reduceNeg, Int.reduceMod, Int.reduceDiv, Nat.reduceAdd, Nat.reduceSub, Nat.reduceMul, Nat.reduceEqDiff, Int.reduceToNat, Nat.reduceGT, Int.reduceGT, Int.reduceGE, Nat.reduceMod, Nat.reduceDiv, Nat.reduceBEq, Nat.reduceBNe, Int.reduceBEq, Int.reduceBNe, appK_last, appK_mid, ev_sb, sbK_at, ev_gcons, ev_gnil])]
    simp only [Option.bind_some]
    obtain ⟨env', s', e, x, rfl, rfl⟩ := k1 q
    rw [e]
    simp only [Option.bind_some, seqK_nx]
    rw [ev_ret, make_rule T (parts l) s hf ha (by simp -implicitDefEqProofs (maxSteps := 1000000) only [ev_seq, seqK_nx, seqK_rt, seqK_ex, seqK_bk, seqK_ct, ev_skip, ev_brk, ev_cont, ev_asg, ev_gN, ev_if, ev_ret, ev_expr, ev_raise, ev_new, ev_par, parK_ev, ev_tst, tstK_bl, ev_tru, ev_andT, ev_orT, ev_notT, ev_andE, ev_orE, ev_notE, ev_ifE, ev_V, varK_ev, ev_C, ev_op, ev_opF, ev_nil, ev_cons, ev_data, ev_lst, ev_tup, ev_CB, ev_CBF, ev_call, outK_ev, ev_neg, negK_ev, ev_so, soK_ev, ev_no, ev_slc, ev_slcF, fz_non, fz_bl, fz_int, fz_str, fz_scr, fz_lst, fz_tup, fz_obj, fz_exn, fz_last, fz_mid, fz_lastI, fz_lastF, vw_non, vw_bl, vw_int, vw_str, vw_scr, vw_lst, vw_tup, vw_obj, vw_ty, vw_cls, vw_exn, vw_last, vw_mid, vw_lastI, vw_lastF, st_last, st_set, st_take, st_mid, st_mset, st_mtake, add_int, add_str, add_lst, addL_lst, sub_int, mul_r, mul_l, mul_str, mul_lst, mulL_lst, div_int, mod_int, pow_18, pow_60, lt_int, le_int, gt_int, ge_int, eq_int, eq_str, ne_int, ne_str, eq_bl, isN_non, isN_tup, isN_lst, isN_str, isN_int, isN_bl, len_str, len_lst, len_tup, len_scr, int_int, max_int, min_int, tru_bl, tru_non, tru_int, tru_str, tru_lst, ix_lst, ix_tup, ix_scr, ix_str, Option.map_some, Option.map_none, slc_str, slc_lst, Option.bind_some, Option.bind_none, List.getElem?_cons_zero, List.getElem?_cons_succ, List.set_cons_zero, List.set_cons_succ, List.map_cons, List.map_nil, if_true, if_false, ite_true, ite_false, Bool.false_eq_true, decide_true, decide_false, Bool.not_true, Bool.not_false, reduceIte, sl_eq, eq_self, Nat.zero_le, List.length_cons, List.length_nil, List.length_map, ite_self, Int.natAbs_natCast, isObj_ev, ev_fld, fldK_obj, getF_hit, ev_prop, ev_own, ok_bl, ok_obj, list_lst, iso_ev, ev_asgX, asgX_ret, asgX_exc, ev_callX, i_non_bool, i_non_int, i_non_str, i_non_list, i_non_tuple, i_bl_bool, i_bl_int, i_bl_str, i_bl_list, i_bl_tuple, i_int_bool, i_int_int, i_int_str, i_int_list, i_int_tuple, i_str_bool, i_str_int, i_str_str, i_str_list, i_str_tuple, i_lst_bool, i_lst_int, i_lst_str, i_lst_list, i_lst_tuple, i_tup_bool, i_tup_int, i_tup_str, i_tup_list, i_tup_tuple, ev_appB, Int.reduceAbs, Nat.reduceLT, Nat.reduceLeDiff, Int.reduceLT, Int.reduceLE, Int.reduceEq, Int.reduceNe, Int.reduceAdd, Int.reduceSub, Int.reduceMul, Int.reduceNeg, Int.reduceMod, Int.reduceDiv, Nat.reduceAdd, Nat.reduceSub, Nat.reduceMul, Nat.reduceEqDiff, Int.reduceToNat, Nat.reduceGT, Int.reduceGT, Int.reduceGE, Nat.reduceMod, Nat.reduceDiv, Nat.reduceBEq, Nat.reduceBNe, Int.reduceBEq, Int.reduceBNe, appK_last, appK_mid, ev_sb, sbK_at, ev_gcons, ev_gnil])]
    exact ⟨_, rfl⟩
  | false =>
    rw [if_neg Bool.false_ne_true]
    refine ev_funXE (r := .str l) rfl ?_ (take_self s) rfl
    simp only [env0, List.map_cons, List.map_nil, List.length_cons, List.length_nil, List.replicate_succ, List.replicate_zero, List.cons_append, List.nil_append, Nat.reduceAdd, Nat.reduceSub]
    rw [ev_seq, ev_asg, ev_data, ev_M1F (x := l) (y := .str [47]) (s1 := s) (s2 := s) (by simp -implicitDefEqProofs (maxSteps := 1000000) only [ev_seq, seqK_nx, seqK_rt, seqK_ex, seqK_bk, seqK_ct, ev_skip, ev_brk, ev_cont, ev_asg, ev_gN, ev_if, ev_ret, ev_expr, ev_raise, ev_new, ev_par, parK_ev, ev_tst, tstK_bl, ev_tru, ev_andT, ev_orT, ev_notT, ev_andE, ev_orE, ev_notE, ev_ifE, ev_V, varK_ev, ev_C, ev_op, ev_opF, ev_nil, ev_cons, ev_data, ev_lst, ev_tup, ev_CB, ev_CBF, ev_call, outK_ev, ev_neg, negK_ev, ev_so, soK_ev, ev_no, ev_slc, ev_slcF, fz_non, fz_bl, fz_int, fz_str, fz_scr, fz_lst, fz_tup, fz_obj, fz_exn, fz_last, fz_mid, fz_lastI, fz_lastF, vw_non, vw_bl, vw_int, vw_str, vw_scr, vw_lst, vw_tup, vw_obj, vw_ty, vw_cls, vw_exn, vw_last, vw_mid, vw_lastI, vw_lastF, st_last, st_set, st_take, st_mid, st_mset, st_mtake, add_int, add_str, add_lst, addL_lst, sub_int, mul_r, mul_l, mul_str, mul_lst, mulL_lst, div_int, mod_int, pow_18, pow_60, lt_int, le_int, gt_int, ge_int, eq_int, eq_str, ne_int, ne_str, eq_bl, isN_non, isN_tup, isN_lst, isN_str, isN_int, isN_bl, len_str, len_lst, len_tup, len_scr, int_int, max_int, min_int, tru_bl, tru_non, tru_int, tru_str, tru_lst, ix_lst, ix_tup, ix_scr, ix_str, Option.map_some, Option.map_none, slc_str, slc_lst, Option.bind_some, Option.bind_none, List.getElem?_cons_zero, List.getElem?_cons_succ, List.set_cons_zero, List.set_cons_succ, List.map_cons, List.map_nil, if_true, if_false, ite_true, ite_false, Bool.false_eq_true, decide_true, decide_false, Bool.not_true, Bool.not_false, reduceIte, sl_eq, eq_self, Nat.zero_le, List.length_cons, List.length_nil, List.length_map, ite_self, Int.natAbs_natCast, isObj_ev, ev_fld, fldK_obj, getF_hit, ev_prop, ev_own, ok_bl, ok_obj, list_lst, iso_ev, ev_asgX, asgX_ret, asgX_exc, ev_callX, i_non_bool, i_non_int, i_non_str, i_non_list, i_non_tuple, i_bl_bool, i_bl_int, i_bl_str, i_bl_list, i_bl_tuple, i_int_bool, i_int_int, i_int_str, i_int_list, i_int_tuple, i_str_bool, i_str_int, i_str_str, i_str_list, i_str_tuple, i_lst_bool, i_lst_int, i_lst_str, i_lst_list, i_lst_tuple, i_tup_bool, i_tup_int, i_tup_str, i_tup_list, i_tup_tuple, ev_appB, Int.reduceAbs, Nat.reduceLT, Nat.reduceLeDiff, Int.reduceLT, Int.reduceLE, Int.reduceEq, Int.reduceNe, Int.reduceAdd, Int.reduceSub, Int.reduceMul, Int.reduceNeg, Int.reduceMod, Int.reduceDiv, Nat.reduceAdd, Nat.reduceSub, Nat.reduceMul, Nat.reduceEqDiff, Int.reduceToNat, Nat.reduceGT, Int.reduceGT, Int.reduceGE, Nat.reduceMod, Nat.reduceDiv, Nat.reduceBEq, Nat.reduceBNe, Int.reduceBEq, Int.reduceBNe, appK_last, appK_mid, ev_sb, sbK_at, ev_gcons, ev_gnil]) (by simp -implicitDefEqProofs (maxSteps := 1000000) only [ev_seq, seqK_nx, seqK_rt, seqK_ex, seqK_bk, seqK_ct, ev_skip, ev_brk, ev_cont, ev_asg, ev_gN, ev_if, ev_ret, ev_expr, ev_raise, ev_new, ev_par, parK_ev, ev_tst, tstK_bl, ev_tru, ev_andT, ev_orT, ev_notT, ev_andE, ev_orE, ev_notE, ev_ifE, ev_V, varK_ev, ev_C, ev_op, ev_opF, ev_nil, ev_cons, ev_data, ev_lst, ev_tup, ev_CB, ev_CBF, ev_call, outK_ev, ev_neg, negK_ev, ev_so, soK_ev, ev_no, ev_slc, ev_slcF, fz_non, fz_bl, fz_int, fz_str, fz_scr, fz_lst, fz_tup, fz_obj, fz_exn, fz_last, fz_mid, fz_lastI, fz_lastF, vw_non, vw_bl, vw_int, vw_str, vw_scr, vw_lst, vw_tup, vw_obj, vw_ty, vw_cls, vw_exn, vw_last, vw_mid, vw_lastI, vw_lastF, st_last, st_set, st_take, st_mid, st_mset, st_mtake, add_int, add_str, add_lst, addL_lst, sub_int, mul_r, mul_l, mul_str, mul_lst, mulL_lst, div_int, mod_int, pow_18, pow_60, lt_int, le_int, gt_int, ge_int, eq_int, eq_str, ne_int, ne_str, eq_bl, isN_non, isN_tup, isN_lst, isN_str, isN_int, isN_bl, len_str, len_lst, len_tup, len_scr, int_int, max_int, min_int, tru_bl, tru_non, tru_int, tru_str, tru_lst, ix_lst, ix_tup, ix_scr, ix_str, Option.map_some, Option.map_none, slc_str, slc_lst, Option.bind_some, Option.bind_none, List.getElem?_cons_zero, List.getElem?_cons_succ, List.set_cons_zero, List.set_cons_succ, List.map_cons, List.map_nil, if_true, if_false, ite_true, ite_false, Bool.false_eq_true, decide_true, decide_false, Bool.not_true, Bool.not_false, reduceIte, sl_eq, eq_self, Nat.zero_le, List.length_cons, List.length_nil, List.length_map, ite_self, Int.natAbs_natCast, isObj_ev, ev_fld, fldK_obj, getF_hit, ev_prop, ev_own, ok_bl, ok_obj, list_lst, iso_ev, ev_asgX, asgX_ret, asgX_exc, ev_callX, i_non_bool, i_non_int, i_non_str, i_non_list, i_non_tuple, i_bl_bool, i_bl_int, i_bl_str, i_bl_list, i_bl_tuple, i_int_bool, i_int_int, i_int_str, i_int_list, i_int_tuple, i_str_bool, i_str_int, i_str_str, i_str_list, i_str_tuple, i_lst_bool, i_lst_int, i_lst_str, i_lst_list, i_lst_tuple, i_tup_bool, i_tup_int, i_tup_str, i_tup_list, i_tup_tuple, ev_appB, Int.reduceAbs, Nat.reduceLT, Nat.reduceLeDiff, Int.reduceLT, Int.reduceLE, Int.reduceEq, Int.reduceNe, Int.reduceAdd, Int.reduceSub, Int.reduceMul, Int.reduceNeg, Int.reduceMod, Int.reduceDiv, Nat.reduceAdd, Nat.reduceSub, Nat.reduceMul, Nat.reduceEqDiff, Int.reduceToNat, Nat.reduceGT, Int.reduceGT, Int.reduceGE, Nat.reduceMod, Nat.reduceDiv, Nat.reduceBEq, Nat.reduceBNe, Int.reduceBEq, Int.reduceBNe, appK_last, appK_mid, ev_sb, sbK_at, ev_gcons, ev_gnil]), vw_str, split_47 hl]
    simp -implicitDefEqProofs (maxSteps := 1000000) only [ev_seq, seqK_nx, seqK_rt, seqK_ex, seqK_bk, seqK_ct, ev_skip, ev_brk, ev_cont, ev_asg, ev_gN, ev_if, ev_ret, ev_expr, ev_raise, ev_new, ev_par, parK_ev, ev_tst, tstK_bl, ev_tru, ev_andT, ev_orT, ev_notT, ev_andE, ev_orE, ev_notE, ev_ifE, ev_V, varK_ev, ev_C, ev_op, ev_opF, ev_nil, ev_cons, ev_data, ev_lst, ev_tup, ev_CB, ev_CBF, ev_call, outK_ev, ev_neg, negK_ev, ev_so, soK_ev, ev_no, ev_slc, ev_slcF, fz_non, fz_bl, fz_int, fz_str, fz_scr, fz_lst, fz_tup, fz_obj, fz_exn, fz_last, fz_mid, fz_lastI, fz_lastF, vw_non, vw_bl, vw_int, vw_str, vw_scr, vw_lst, vw_tup, vw_obj, vw_ty, vw_cls, vw_exn, vw_last, vw_mid, vw_lastI, vw_lastF, st_last, st_set, st_take, st_mid, st_mset, st_mtake, add_int, add_str, add_lst, addL_lst, sub_int, mul_r, mul_l, mul_str, mul_lst, mulL_lst, div_int, mod_int, pow_18, pow_60, lt_int, le_int, gt_int, ge_int, eq_int, eq_str, ne_int, ne_str, eq_bl, isN_non, isN_tup, isN_lst, isN_str, isN_int, isN_bl, len_str, len_lst, len_tup, len_scr, int_int, max_int, min_int, tru_bl, tru_non, tru_int, tru_str, tru_lst, ix_lst, ix_tup, ix_scr, ix_str, Option.map_some, Option.map_none, slc_str, slc_lst, Option.bind_some, Option.bind_none, List.getElem?_cons_zero, List.getElem?_cons_succ, List.set_cons_zero, List.set_cons_succ, List.map_cons, List.map_nil, if_true, if_false, ite_true, ite_false, Bool.false_eq_true, decide_true, decide_false, Bool.not_true, Bool.not_false, reduceIte, sl_eq, eq_self, Nat.zero_le, List.length_cons, List.length_nil, List.length_map, ite_self, Int.natAbs_natCast, isObj_ev, ev_fld, fldK_obj, getF_hit, ev_prop, ev_own, ok_bl, ok_obj, list_lst, iso_ev, ev_asgX, asgX_ret, asgX_exc, ev_callX, i_non_bool, i_non_int, i_non_str, i_non_list, i_non_tuple, i_bl_bool, i_bl_int, i_bl_str, i_bl_list, i_bl_tuple, i_int_bool, i_int_int, i_int_str, i_int_list, i_int_tuple, i_str_bool, i_str_int, i_str_str, i_str_list, i_str_tuple, i_lst_bool, i_lst_int, i_lst_str, i_lst_list, i_lst_tuple, i_tup_bool, i_tup_int, i_tup_str, i_tup_list, i_tup_tuple, ev_appB, Int.reduceAbs, Nat.reduceLT, Nat.reduceLeDiff, Int.reduceLT, Int.reduceLE, Int.reduceEq, Int.reduceNe, Int.reduceAdd, Int.reduceSub, Int.reduceMul, Int.reduceNeg, Int.reduceMod, Int.reduceDiv, Nat.reduceAdd, Nat.reduceSub, Nat.reduceMul, Nat.reduceEqDiff, Int.reduceToNat, Nat.reduceGT, Int.reduceGT, Int.reduceGE, Nat.reduceMod, Nat.reduceDiv, Nat.reduceBEq, Nat.reduceBNe, Int.reduceBEq, Int.reduceBNe, appK_last, appK_mid, ev_sb, sbK_at, ev_gcons, ev_gnil]
    rw [ev_for, ev_any_lst (xs := (parts l).map D.str) (s1 := s) (by simp -implicitDefEqProofs (maxSteps := 1000000) only [ev_seq, seqK_nx, seqK_rt, seqK_ex, seqK_bk, seqK_ct, ev_skip, ev_brk, ev_cont, ev_asg, ev_gN, ev_if, ev_ret, ev_expr, ev_raise, ev_new, ev_par, parK_ev, ev_tst, tstK_bl, ev_tru, ev_andT, ev_orT, ev_notT, ev_andE, ev_orE, ev_notE, ev_ifE, ev_V, varK_ev, ev_C, ev_op, ev_opF, ev_nil, ev_cons, ev_data, ev_lst, ev_tup, ev_CB, ev_CBF, ev_call, outK_ev, ev_neg, negK_ev, ev_so, soK_ev, ev_no, ev_slc, ev_slcF, fz_non, fz_bl, fz_int, fz_str, fz_scr, fz_lst, fz_tup, fz_obj, fz_exn, fz_last, fz_mid, fz_lastI, fz_lastF, vw_non, vw_bl, vw_int, vw_str, vw_scr, vw_lst, vw_tup, vw_obj, vw_ty, vw_cls, vw_exn, vw_last, vw_mid, vw_lastI, vw_lastF, st_last, st_set, st_take, st_mid, st_mset, st_mtake, add_int, add_str, add_lst, addL_lst, sub_int, mul_r, mul_l, mul_str, mul_lst, mulL_lst, div_int, mod_int, pow_18, pow_60, lt_int, le_int, gt_int, ge_int, eq_int, eq_str, ne_int, ne_str, eq_bl, isN_non, isN_tup, isN_lst, isN_str, isN_int, isN_bl, len_str, len_lst, len_tup, len_scr, int_int, max_int, min_int, tru_bl, tru_non, tru_int, tru_str, tru_lst, ix_lst, ix_tup, ix_scr, ix_str, Option.map_some, Option.map_none, slc_str, slc_lst, Option.bind_some, Option.bind_none, List.getElem?_cons_zero, List.getElem?_cons_succ, List.set_cons_zero, List.set_cons_succ, List.map_cons, List.map_nil, if_true, if_false, ite_true, ite_false, Bool.false_eq_true, decide_true, decide_false, Bool.not_true, Bool.not_false, reduceIte, sl_eq, eq_self, Nat.zero_le, List.length_cons, List.length_nil, List.length_map, ite_self, Int.natAbs_natCast, isObj_ev, ev_fld, fldK_obj, getF_hit, ev_prop, ev_own, ok_bl, ok_obj, list_lst, iso_ev, ev_asgX, asgX_ret, asgX_exc, ev_callX, i_non_bool, i_non_int, i_non_str, i_non_list, i_non_tuple, i_bl_bool, i_bl_int, i_bl_str, i_bl_list, i_bl_tuple, i_int_bool, i_int_int, i_int_str, i_int_list, i_int_tuple, i_str_bool, i_str_int, i_str_str, i_str_list, i_str_tuple, i_lst_bool, i_lst_int, i_lst_str, i_lst_list, i_lst_tuple, i_tup_bool, i_tup_int, i_tup_str, i_tup_list, i_tup_tuple, ev_appB, Int.reduceAbs, Nat.reduceLT, Nat.reduceLeDiff, Int.reduceLT, Int.reduceLE, Int.reduceEq, Int.reduceNe, Int.reduceAdd, Int.reduceSub, Int.reduceMul, Int.reduceNeg, Int.reduceMod, Int.reduceDiv, Nat.reduceAdd, Nat.reduceSub, Nat.reduceMul, Nat.reduceEqDiff, Int.reduceToNat, Nat.reduceGT, Int.reduceGT, Int.reduceGE, Nat.reduceMod, Nat.reduceDiv, Nat.reduceBEq, Nat.reduceBNe, Int.reduceBEq, Int.reduceBNe, appK_last, appK_mid, ev_sb, sbK_at, ev_gcons, ev_gnil])]
    simp only [Option.bind_some]
    obtain ⟨env', s', e, x, rfl, rfl⟩ := k2 q
    rw [e]
    exact ⟨_, rfl⟩
theorem m_rows (T : Ads) (ps : List (List Nat)) (s : Sto) : d_Rule_rows T [ruleD T ps] s = some (.ret (.lst (ps.map D.str)), s) := by
  refine ev_funE (r := .lst (ps.map D.str)) rfl ?_ (take_self s) (setl_lst (bnds_strs _))
  unfold ruleD
  simp only [env0, List.map_cons, List.map_nil, List.length_cons, List.length_nil, List.replicate_succ, List.replicate_zero, List.cons_append, List.nil_append, Nat.reduceAdd, Nat.reduceSub]
  simp -implicitDefEqProofs (maxSteps := 1000000) only [ev_seq, seqK_nx, seqK_rt, seqK_ex, seqK_bk, seqK_ct, ev_skip, ev_brk, ev_cont, ev_asg, ev_gN, ev_if, ev_ret, ev_expr, ev_raise, ev_new, ev_par, parK_ev, ev_tst, tstK_bl, ev_tru, ev_andT, ev_orT, ev_notT, ev_andE, ev_orE, ev_notE, ev_ifE, ev_V, varK_ev, ev_C, ev_op, ev_opF, ev_nil, ev_cons, ev_data, ev_lst, ev_tup, ev_CB, ev_CBF, ev_call, outK_ev, ev_neg, negK_ev, ev_so, soK_ev, ev_no, ev_slc, ev_slcF, fz_non, fz_bl, fz_int, fz_str, fz_scr, fz_lst, fz_tup, fz_obj, fz_exn, fz_last, fz_mid, fz_lastI, fz_lastF, vw_non, vw_bl, vw_int, vw_str, vw_scr, vw_lst, vw_tup, vw_obj, vw_ty, vw_cls, vw_exn, vw_last, vw_mid, vw_lastI, vw_lastF, st_last, st_set, st_take, st_mid, st_mset, st_mtake, add_int, add_str, add_lst, addL_lst, sub_int, mul_r, mul_l, mul_str, mul_lst, mulL_lst, div_int, mod_int, pow_18, pow_60, lt_int, le_int, gt_int, ge_int, eq_int, eq_str, ne_int, ne_str, eq_bl, isN_non, isN_tup, isN_lst, isN_str, isN_int, isN_bl, len_str, len_lst, len_tup, len_scr, int_int, max_int, min_int, tru_bl, tru_non, tru_int, tru_str, tru_lst, ix_lst, ix_tup, ix_scr, ix_str, Option.map_some, Option.map_none, slc_str, slc_lst, Option.bind_some, Option.bind_none, List.getElem?_cons_zero, List.getElem?_cons_succ, List.set_cons_zero, List.set_cons_succ, List.map_cons, List.map_nil, if_true, if_false, ite_true, ite_false, Bool.false_eq_true, decide_true, decide_false, Bool.not_true, Bool.not_false, reduceIte, sl_eq, eq_self, Nat.zero_le, List.length_cons, List.length_nil, List.length_map, ite_self, Int.natAbs_natCast, isObj_ev, ev_fld, fldK_obj, getF_hit, ev_prop, ev_own, ok_bl, ok_obj, list_lst, iso_ev, ev_asgX, asgX_ret, asgX_exc, ev_callX, i_non_bool, i_non_int, i_non_str, i_non_list, i_non_tuple, i_bl_bool, i_bl_int, i_bl_str, i_bl_list, i_bl_tuple, i_int_bool, i_int_int, i_int_str, i_int_list, i_int_tuple, i_str_bool, i_str_int, i_str_str, i_str_list, i_str_tuple, i_lst_bool, i_lst_int, i_lst_str, i_lst_list, i_lst_tuple, i_tup_bool, i_tup_int, i_tup_str, i_tup_list, i_tup_tuple, ev_appB, Int.reduceAbs, Nat.reduceLT, Nat.reduceLeDiff, Int.reduceLT, Int.reduceLE, Int.reduceEq, Int.reduceNe, Int.reduceAdd, Int.reduceSub, Int.reduceMul, Int.reduceNeg, Int.reduceMod, Int.reduceDiv, Nat.reduceAdd, Nat.reduceSub, Nat.reduceMul, Nat.reduceEqDiff, Int.reduceToNat, Nat.reduceGT, Int.reduceGT, Int.reduceGE, Nat.reduceMod, Nat.reduceDiv, Nat.reduceBEq, Nat.reduceBNe, Int.reduceBEq, Int.reduceBNe, appK_last, appK_mid, ev_sb, sbK_at, ev_gcons, ev_gnil]
  exact ⟨_, rfl⟩
theorem m_show (T : Ads) (ps : List (List Nat)) (s : Sto) (hf : Fine ps) : d_show_rule T [ruleD T ps] s = some (.ret (.str (TL.joinL [47] ps)), s) := by
  have hr := m_rows T ps s
  refine ev_funE (r := .str (TL.joinL [47] ps)) rfl ?_ (take_self s) rfl
  unfold ruleD at hr ⊢
  generalize d_Rule_rows T = dr at hr
  simp only [env0, List.map_cons, List.map_nil, List.length_cons, List.length_nil, List.replicate_succ, List.replicate_zero, List.cons_append, List.nil_append, Nat.reduceAdd, Nat.reduceSub]
  rw [ev_ret, ev_M1 (x := [47]) (y := .lst (ps.map D.str)) (s1 := s) (s2 := s) (by simp -implicitDefEqProofs (maxSteps := 1000000) only [ev_seq, seqK_nx, seqK_rt, seqK_ex, seqK_bk, seqK_ct, ev_skip, ev_brk, ev_cont, ev_asg, ev_gN, ev_if, ev_ret, ev_expr, ev_raise, ev_new, ev_par, parK_ev, ev_tst, tstK_bl, ev_tru, ev_andT, ev_orT, ev_notT, ev_andE, ev_orE, ev_notE, ev_ifE, ev_V, varK_ev, ev_C, ev_op, ev_opF, ev_nil, ev_cons, ev_data, ev_lst, ev_tup, ev_CB, ev_CBF, ev_call, outK_ev, ev_neg, negK_ev, ev_so, soK_ev, ev_no, ev_slc, ev_slcF, fz_non, fz_bl, fz_int, fz_str, fz_scr, fz_lst, fz_tup, fz_obj, fz_exn, fz_last, fz_mid, fz_lastI, fz_lastF, vw_non, vw_bl, vw_int, vw_str, vw_scr, vw_lst, vw_tup, vw_obj, vw_ty, vw_cls, vw_exn, vw_last, vw_mid, vw_lastI, vw_lastF, st_last, st_set, st_take, st_mid, st_mset, st_mtake, add_int, add_str, add_lst, addL_lst, sub_int, mul_r, mul_l, mul_str, mul_lst, mulL_lst, div_int, mod_int, pow_18, pow_60, lt_int, le_int, gt_int, ge_int, eq_int, eq_str, ne_int, ne_str, eq_bl, isN_non, isN_tup, isN_lst, isN_str, isN_int, isN_bl, len_str, len_lst, len_tup, len_scr, int_int, max_int, min_int, tru_bl, tru_non, tru_int, tru_str, tru_lst, ix_lst, ix_tup, ix_scr, ix_str, Option.map_some, Option.map_none, slc_str, slc_lst, Option.bind_some, Option.bind_none, List.getElem?_cons_zero, List.getElem?_cons_succ, List.set_cons_zero, List.set_cons_succ, List.map_cons, List.map_nil, if_true, if_false, ite_true, ite_false, Bool.false_eq_true, decide_true, decide_false, Bool.not_true, Bool.not_false, reduceIte, sl_eq, eq_self, Nat.zero_le, List.length_cons, List.length_nil, List.length_map, ite_self, Int.natAbs_natCast, isObj_ev, ev_fld, fldK_obj, getF_hit, ev_prop, ev_own, ok_bl, ok_obj, list_lst, iso_ev, ev_asgX, asgX_ret, asgX_exc, ev_callX, i_non_bool, i_non_int, i_non_str, i_non_list, i_non_tuple, i_bl_bool, i_bl_int, i_bl_str, i_bl_list, i_bl_tuple, i_int_bool, i_int_int, i_int_str, i_int_list, i_int_tuple, i_str_bool, i_str_int, i_str_str, i_str_list, i_str_tuple, i_lst_bool, i_lst_int, i_lst_str, i_lst_list, i_lst_tuple, i_tup_bool, i_tup_int, i_tup_str, i_tup_list, i_tup_tuple, ev_appB, Int.reduceAbs, Nat.reduceLT, Nat.reduceLeDiff, Int.reduceLT, Int.reduceLE, Int.reduceEq, Int.reduceNe, Int.reduceAdd, Int.reduceSub, Int.reduceMul, Int.reduceNeg, Int.reduceMod, Int.reduceDiv, Nat.reduceAdd, Nat.reduceSub, Nat.reduceMul, Nat.reduceEqDiff, Int.reduceToNat, Nat.reduceGT, Int.reduceGT, Int.reduceGE, Nat.reduceMod, Nat.reduceDiv, Nat.reduceBEq, Nat.reduceBNe, Int.reduceBEq, Int.reduceBNe, appK_last, appK_mid, ev_sb, sbK_at, ev_gcons, ev_gnil]) (by simp -implicitDefEqProofs (maxSteps := 1000000) only [ev_seq, seqK_nx, seqK_rt, seqK_ex, seqK_bk, seqK_ct, ev_skip, ev_brk, ev_cont, ev_asg, ev_gN, ev_if, ev_ret, ev_expr, ev_raise, ev_new, ev_par, parK_ev, ev_tst, tstK_bl, ev_tru, ev_andT, ev_orT, ev_notT, ev_andE, ev_orE, ev_notE, ev_ifE, ev_V, varK_ev, ev_C, ev_op, ev_opF, ev_nil, ev_cons, ev_data, ev_lst, ev_tup, ev_CB, ev_CBF, ev_call, outK_ev, ev_neg, negK_ev, ev_so, soK_ev, ev_no, ev_slc, ev_slcF, fz_non, fz_bl, fz_int, fz_str, fz_scr, fz_lst, fz_tup, fz_obj, fz_exn, fz_last, fz_mid, fz_lastI, fz_lastF, vw_non, vw_bl, vw_int, vw_str, vw_scr, vw_lst, vw_tup, vw_obj, vw_ty, vw_cls, vw_exn, vw_last, vw_mid, vw_lastI, vw_lastF, st_last, st_set, st_take, st_mid, st_mset, st_mtake, add_int, add_str, add_lst, addL_lst, sub_int, mul_r, mul_l, mul_str, mul_lst, mulL_lst, div_int, mod_int, pow_18, pow_60, lt_int, le_int, gt_int, ge_int, eq_int, eq_str, ne_int, ne_str, eq_bl, isN_non, isN_tup, isN_lst, isN_str, isN_int, isN_bl, len_str, len_lst, len_tup, len_scr, int_int, max_int, min_int, tru_bl, tru_non, tru_int, tru_str, tru_lst, ix_lst, ix_tup, ix_scr, ix_str, Option.map_some, Option.map_none, slc_str, slc_lst, Option.bind_some, Option.bind_none, List.getElem?_cons_zero, List.getElem?_cons_succ, List.set_cons_zero, List.set_cons_succ, List.map_cons, List.map_nil, if_true, if_false, ite_true, ite_false, Bool.false_eq_true, decide_true, decide_false, Bool.not_true, Bool.not_false, reduceIte, sl_eq, eq_self, Nat.zero_le, List.length_cons, List.length_nil, List.length_map, ite_self, Int.natAbs_natCast, isObj_ev, ev_fld, fldK_obj, getF_hit, ev_prop, ev_own, ok_bl, ok_obj, list_lst, iso_ev, ev_asgX, asgX_ret, asgX_exc, ev_callX, i_non_bool, i_non_int, i_non_str, i_non_list, i_non_tuple, i_bl_bool, i_bl_int, i_bl_str, i_bl_list, i_bl_tuple, i_int_bool, i_int_int, i_int_str, i_int_list, i_int_tuple, i_str_bool, i_str_int, i_str_str, i_str_list, i_str_tuple, i_lst_bool, i_lst_int, i_lst_str, i_lst_list, i_lst_tuple, i_tup_bool, i_tup_int, i_tup_str, i_tup_list, i_tup_tuple, ev_appB, Int.reduceAbs, Nat.reduceLT, Nat.reduceLeDiff, Int.reduceLT, Int.reduceLE, Int.reduceEq, Int.reduceNe, Int.reduceAdd, Int.reduceSub, Int.reduceMul, Int.reduceNeg, Int.reduceMod, Int.reduceDiv, Nat.reduceAdd, Nat.reduceSub, Nat.reduceMul, Nat.reduceEqDiff, Int.reduceToNat, Nat.reduceGT, Int.reduceGT, Int.reduceGE, Nat.reduceMod, Nat.reduceDiv, Nat.reduceBEq, Nat.reduceBNe, Int.reduceBEq, Int.reduceBNe, appK_last, appK_mid, ev_sb, sbK_at, ev_gcons, ev_gnil, hr]), vw_lst, join_47 (by have := hf.2; omega)]
  exact ⟨_, rfl⟩
theorem allP_rows {ps : List (List Nat)} (h : allP ps = true) : ∀ p ∈ ps, RowC p := fun p hp => by
  unfold allP at h
  have := List.all_eq_true.mp h (.str p) (List.mem_map.mpr ⟨p, hp, rfl⟩)
  simp only [okP, Bool.and_eq_true] at this
  exact (rowB_iff p).mp this.1
theorem lay_row {p : List Nat} (h : RowC p) : PyData.canLay0 (.str (S p)) = true := by
  show PyData.strOk (S p) = true
  unfold PyData.strOk S
  rw [Array.all_eq_true_iff_forall_mem]
  intro c hc
  rcases h.ch c (by simpa using hc) with rfl | rfl <;> rfl
theorem m_eq (T : Ads) (ps : List (List Nat)) (s : Sto) (ha : allP ps = true) : d_Rule___eq__ T [ruleD T ps, ruleD T ps] s = some (.ret (.bl true), s) := by
  have e := eq_same fun p hp => lay_row (allP_rows ha p hp)
  refine ev_funE (r := .bl true) rfl ?_ (take_self s) rfl
  unfold ruleD
  simp only [env0, List.map_cons, List.map_nil, List.length_cons, List.length_nil, List.replicate_succ, List.replicate_zero, List.cons_append, List.nil_append, Nat.reduceAdd, Nat.reduceSub]
  simp -implicitDefEqProofs (maxSteps := 1000000) only [ev_seq, seqK_nx, seqK_rt, seqK_ex, seqK_bk, seqK_ct, ev_skip, ev_brk, ev_cont, ev_asg, ev_gN, ev_if, ev_ret, ev_expr, ev_raise, ev_new, ev_par, parK_ev, ev_tst, tstK_bl, ev_tru, ev_andT, ev_orT, ev_notT, ev_andE, ev_orE, ev_notE, ev_ifE, ev_V, varK_ev, ev_C, ev_op, ev_opF, ev_nil, ev_cons, ev_data, ev_lst, ev_tup, ev_CB, ev_CBF, ev_call, outK_ev, ev_neg, negK_ev, ev_so, soK_ev, ev_no, ev_slc, ev_slcF, fz_non, fz_bl, fz_int, fz_str, fz_scr, fz_lst, fz_tup, fz_obj, fz_exn, fz_last, fz_mid, fz_lastI, fz_lastF, vw_non, vw_bl, vw_int, vw_str, vw_scr, vw_lst, vw_tup, vw_obj, vw_ty, vw_cls, vw_exn, vw_last, vw_mid, vw_lastI, vw_lastF, st_last, st_set, st_take, st_mid, st_mset, st_mtake, add_int, add_str, add_lst, addL_lst, sub_int, mul_r, mul_l, mul_str, mul_lst, mulL_lst, div_int, mod_int, pow_18, pow_60, lt_int, le_int, gt_int, ge_int, eq_int, eq_str, ne_int, ne_str, eq_bl, isN_non, isN_tup, isN_lst, isN_str, isN_int, isN_bl, len_str, len_lst, len_tup, len_scr, int_int, max_int, min_int, tru_bl, tru_non, tru_int, tru_str, tru_lst, ix_lst, ix_tup, ix_scr, ix_str, Option.map_some, Option.map_none, slc_str, slc_lst, Option.bind_some, Option.bind_none, List.getElem?_cons_zero, List.getElem?_cons_succ, List.set_cons_zero, List.set_cons_succ, List.map_cons, List.map_nil, if_true, if_false, ite_true, ite_false, Bool.false_eq_true, decide_true, decide_false, Bool.not_true, Bool.not_false, reduceIte, sl_eq, eq_self, Nat.zero_le, List.length_cons, List.length_nil, List.length_map, ite_self, Int.natAbs_natCast, isObj_ev, ev_fld, fldK_obj, getF_hit, ev_prop, ev_own, ok_bl, ok_obj, list_lst, iso_ev, ev_asgX, asgX_ret, asgX_exc, ev_callX, i_non_bool, i_non_int, i_non_str, i_non_list, i_non_tuple, i_bl_bool, i_bl_int, i_bl_str, i_bl_list, i_bl_tuple, i_int_bool, i_int_int, i_int_str, i_int_list, i_int_tuple, i_str_bool, i_str_int, i_str_str, i_str_list, i_str_tuple, i_lst_bool, i_lst_int, i_lst_str, i_lst_list, i_lst_tuple, i_tup_bool, i_tup_int, i_tup_str, i_tup_list, i_tup_tuple, ev_appB, Int.reduceAbs, Nat.reduceLT, Nat.reduceLeDiff, Int.reduceLT, Int.reduceLE, Int.reduceEq, Int.reduceNe, Int.reduceAdd, Int.reduceSub, Int.reduceMul, Int.reduceNeg, Int.reduceMod, Int.reduceDiv, Nat.reduceAdd, Nat.reduceSub, Nat.reduceMul, Nat.reduceEqDiff, Int.reduceToNat, Nat.reduceGT, Int.reduceGT, Int.reduceGE, Nat.reduceMod, Nat.reduceDiv, Nat.reduceBEq, Nat.reduceBNe, Int.reduceBEq, Int.reduceBNe, appK_last, appK_mid, ev_sb, sbK_at, ev_gcons, ev_gnil, e]
  exact ⟨_, rfl⟩
def foundD (l : List Nat) : D := dueD l
theorem m__law_found (T : Ads) (l : List Nat) (s : Sto) (hl : l.length ≤ 1000000) : d__law_found T [.str l] s = some (.ret (foundD l), s) := by
  have hb : bnds s.length [.str [103, 111, 111, 100], .lst ((parts l).map D.str), .bl true] = true := by
    simp only [bnds, bnd, bnds_strs, Bool.and_self]
  have hread := m_read_rule T l s hl
  have hrows := m_rows T (parts l) s
  have hshow := m_show T (parts l) s (fine_parts hl)
  rw [parts_join] at hshow
  unfold foundD dueD
  unfold d__law_found
  cases q : allP (parts l) with
  | true =>
    rw [q, if_pos rfl] at hread
    rw [if_pos rfl]
    have heq := m_eq T (parts l) s q
    refine ev_funE (r := .tup [.str [103, 111, 111, 100], .lst ((parts l).map D.str), .bl true]) rfl ?_ (take_self s) (setl_tup hb)
    generalize d_read_rule T = d1 at hread
    generalize d_Rule_rows T = d2 at hrows
    generalize d_show_rule T = d3 at hshow
    generalize d_Rule___eq__ T = d4 at heq
    unfold ruleD at hread hrows hshow heq
    simp only [env0, List.map_cons, List.map_nil, List.length_cons, List.length_nil, List.replicate_succ, List.replicate_zero, List.cons_append, List.nil_append, Nat.reduceAdd, Nat.reduceSub]
    simp -implicitDefEqProofs (maxSteps := 1000000) only [ev_seq, seqK_nx, seqK_rt, seqK_ex, seqK_bk, seqK_ct, ev_skip, ev_brk, ev_cont, ev_asg, ev_gN, ev_if, ev_ret, ev_expr, ev_raise, ev_new, ev_par, parK_ev, ev_tst, tstK_bl, ev_tru, ev_andT, ev_orT, ev_notT, ev_andE, ev_orE, ev_notE, ev_ifE, ev_V, varK_ev, ev_C, ev_op, ev_opF, ev_nil, ev_cons, ev_data, ev_lst, ev_tup, ev_CB, ev_CBF, ev_call, outK_ev, ev_neg, negK_ev, ev_so, soK_ev, ev_no, ev_slc, ev_slcF, fz_non, fz_bl, fz_int, fz_str, fz_scr, fz_lst, fz_tup, fz_obj, fz_exn, fz_last, fz_mid, fz_lastI, fz_lastF, vw_non, vw_bl, vw_int, vw_str, vw_scr, vw_lst, vw_tup, vw_obj, vw_ty, vw_cls, vw_exn, vw_last, vw_mid, vw_lastI, vw_lastF, st_last, st_set, st_take, st_mid, st_mset, st_mtake, add_int, add_str, add_lst, addL_lst, sub_int, mul_r, mul_l, mul_str, mul_lst, mulL_lst, div_int, mod_int, pow_18, pow_60, lt_int, le_int, gt_int, ge_int, eq_int, eq_str, ne_int, ne_str, eq_bl, isN_non, isN_tup, isN_lst, isN_str, isN_int, isN_bl, len_str, len_lst, len_tup, len_scr, int_int, max_int, min_int, tru_bl, tru_non, tru_int, tru_str, tru_lst, ix_lst, ix_tup, ix_scr, ix_str, Option.map_some, Option.map_none, slc_str, slc_lst, Option.bind_some, Option.bind_none, List.getElem?_cons_zero, List.getElem?_cons_succ, List.set_cons_zero, List.set_cons_succ, List.map_cons, List.map_nil, if_true, if_false, ite_true, ite_false, Bool.false_eq_true, decide_true, decide_false, Bool.not_true, Bool.not_false, reduceIte, sl_eq, eq_self, Nat.zero_le, List.length_cons, List.length_nil, List.length_map, ite_self, Int.natAbs_natCast, isObj_ev, ev_fld, fldK_obj, getF_hit, ev_prop, ev_own, ok_bl, ok_obj, list_lst, iso_ev, ev_asgX, asgX_ret, asgX_exc, ev_callX, i_non_bool, i_non_int, i_non_str, i_non_list, i_non_tuple, i_bl_bool, i_bl_int, i_bl_str, i_bl_list, i_bl_tuple, i_int_bool, i_int_int, i_int_str, i_int_list, i_int_tuple, i_str_bool, i_str_int, i_str_str, i_str_list, i_str_tuple, i_lst_bool, i_lst_int, i_lst_str, i_lst_list, i_lst_tuple, i_tup_bool, i_tup_int, i_tup_str, i_tup_list, i_tup_tuple, ev_appB, Int.reduceAbs, Nat.reduceLT, Nat.reduceLeDiff, Int.reduceLT, Int.reduceLE, Int.reduceEq, Int.reduceNe, Int.reduceAdd, Int.reduceSub, Int.reduceMul, Int.reduceNeg, Int.reduceMod, Int.reduceDiv, Nat.reduceAdd, Nat.reduceSub, Nat.reduceMul, Nat.reduceEqDiff, Int.reduceToNat, Nat.reduceGT, Int.reduceGT, Int.reduceGE, Nat.reduceMod, Nat.reduceDiv, Nat.reduceBEq, Nat.reduceBNe, Int.reduceBEq, Int.reduceBNe, appK_last, appK_mid, ev_sb, sbK_at, ev_gcons, ev_gnil]
    rw [dTry_no (fl := .nx) (env1 := [some (.str l), some (.obj T.C_Rule ["lines"] [.lst ((parts l).map D.str)]), some .non, none]) (s1 := s) (by simp -implicitDefEqProofs (maxSteps := 1000000) only [ev_seq, seqK_nx, seqK_rt, seqK_ex, seqK_bk, seqK_ct, ev_skip, ev_brk, ev_cont, ev_asg, ev_gN, ev_if, ev_ret, ev_expr, ev_raise, ev_new, ev_par, parK_ev, ev_tst, tstK_bl, ev_tru, ev_andT, ev_orT, ev_notT, ev_andE, ev_orE, ev_notE, ev_ifE, ev_V, varK_ev, ev_C, ev_op, ev_opF, ev_nil, ev_cons, ev_data, ev_lst, ev_tup, ev_CB, ev_CBF, ev_call, outK_ev, ev_neg, negK_ev, ev_so, soK_ev, ev_no, ev_slc, ev_slcF, fz_non, fz_bl, fz_int, fz_str, fz_scr, fz_lst, fz_tup, fz_obj, fz_exn, fz_last, fz_mid, fz_lastI, fz_lastF, vw_non, vw_bl, vw_int, vw_str, vw_scr, vw_lst, vw_tup, vw_obj, vw_ty, vw_cls, vw_exn, vw_last, vw_mid, vw_lastI, vw_lastF, st_last, st_set, st_take, st_mid, st_mset, st_mtake, add_int, add_str, add_lst, addL_lst, sub_int, mul_r, mul_l, mul_str, mul_lst, mulL_lst, div_int, mod_int, pow_18, pow_60, lt_int, le_int, gt_int, ge_int, eq_int, eq_str, ne_int, ne_str, eq_bl, isN_non, isN_tup, isN_lst, isN_str, isN_int, isN_bl, len_str, len_lst, len_tup, len_scr, int_int, max_int, min_int, tru_bl, tru_non, tru_int, tru_str, tru_lst, ix_lst, ix_tup, ix_scr, ix_str, Option.map_some, Option.map_none, slc_str, slc_lst, Option.bind_some, Option.bind_none, List.getElem?_cons_zero, List.getElem?_cons_succ, List.set_cons_zero, List.set_cons_succ, List.map_cons, List.map_nil, if_true, if_false, ite_true, ite_false, Bool.false_eq_true, decide_true, decide_false, Bool.not_true, Bool.not_false, reduceIte, sl_eq, eq_self, Nat.zero_le, List.length_cons, List.length_nil, List.length_map, ite_self, Int.natAbs_natCast, isObj_ev, ev_fld, fldK_obj, getF_hit, ev_prop, ev_own, ok_bl, ok_obj, list_lst, iso_ev, ev_asgX, asgX_ret, asgX_exc, ev_callX, i_non_bool, i_non_int, i_non_str, i_non_list, i_non_tuple, i_bl_bool, i_bl_int, i_bl_str, i_bl_list, i_bl_tuple, i_int_bool, i_int_int, i_int_str, i_int_list, i_int_tuple, i_str_bool, i_str_int, i_str_str, i_str_list, i_str_tuple, i_lst_bool, i_lst_int, i_lst_str, i_lst_list, i_lst_tuple, i_tup_bool, i_tup_int, i_tup_str, i_tup_list, i_tup_tuple, ev_appB, Int.reduceAbs, Nat.reduceLT, Nat.reduceLeDiff, Int.reduceLT, Int.reduceLE, Int.reduceEq, Int.reduceNe, Int.reduceAdd, Int.reduceSub, Int.reduceMul, Int.reduceNeg, Int.reduceMod, Int.reduceDiv, Nat.reduceAdd, Nat.reduceSub, Nat.reduceMul, Nat.reduceEqDiff, Int.reduceToNat, Nat.reduceGT, Int.reduceGT, Int.reduceGE, Nat.reduceMod, Nat.reduceDiv, Nat.reduceBEq, Nat.reduceBNe, Int.reduceBEq, Int.reduceBNe, appK_last, appK_mid, ev_sb, sbK_at, ev_gcons, ev_gnil, hread]) (fun _ _ h => by cases h)]
    simp -implicitDefEqProofs (maxSteps := 1000000) only [ev_seq, seqK_nx, seqK_rt, seqK_ex, seqK_bk, seqK_ct, ev_skip, ev_brk, ev_cont, ev_asg, ev_gN, ev_if, ev_ret, ev_expr, ev_raise, ev_new, ev_par, parK_ev, ev_tst, tstK_bl, ev_tru, ev_andT, ev_orT, ev_notT, ev_andE, ev_orE, ev_notE, ev_ifE, ev_V, varK_ev, ev_C, ev_op, ev_opF, ev_nil, ev_cons, ev_data, ev_lst, ev_tup, ev_CB, ev_CBF, ev_call, outK_ev, ev_neg, negK_ev, ev_so, soK_ev, ev_no, ev_slc, ev_slcF, fz_non, fz_bl, fz_int, fz_str, fz_scr, fz_lst, fz_tup, fz_obj, fz_exn, fz_last, fz_mid, fz_lastI, fz_lastF, vw_non, vw_bl, vw_int, vw_str, vw_scr, vw_lst, vw_tup, vw_obj, vw_ty, vw_cls, vw_exn, vw_last, vw_mid, vw_lastI, vw_lastF, st_last, st_set, st_take, st_mid, st_mset, st_mtake, add_int, add_str, add_lst, addL_lst, sub_int, mul_r, mul_l, mul_str, mul_lst, mulL_lst, div_int, mod_int, pow_18, pow_60, lt_int, le_int, gt_int, ge_int, eq_int, eq_str, ne_int, ne_str, eq_bl, isN_non, isN_tup, isN_lst, isN_str, isN_int, isN_bl, len_str, len_lst, len_tup, len_scr, int_int, max_int, min_int, tru_bl, tru_non, tru_int, tru_str, tru_lst, ix_lst, ix_tup, ix_scr, ix_str, Option.map_some, Option.map_none, slc_str, slc_lst, Option.bind_some, Option.bind_none, List.getElem?_cons_zero, List.getElem?_cons_succ, List.set_cons_zero, List.set_cons_succ, List.map_cons, List.map_nil, if_true, if_false, ite_true, ite_false, Bool.false_eq_true, decide_true, decide_false, Bool.not_true, Bool.not_false, reduceIte, sl_eq, eq_self, Nat.zero_le, List.length_cons, List.length_nil, List.length_map, ite_self, Int.natAbs_natCast, isObj_ev, ev_fld, fldK_obj, getF_hit, ev_prop, ev_own, ok_bl, ok_obj, list_lst, iso_ev, ev_asgX, asgX_ret, asgX_exc, ev_callX, i_non_bool, i_non_int, i_non_str, i_non_list, i_non_tuple, i_bl_bool, i_bl_int, i_bl_str, i_bl_list, i_bl_tuple, i_int_bool, i_int_int, i_int_str, i_int_list, i_int_tuple, i_str_bool, i_str_int, i_str_str, i_str_list, i_str_tuple, i_lst_bool, i_lst_int, i_lst_str, i_lst_list, i_lst_tuple, i_tup_bool, i_tup_int, i_tup_str, i_tup_list, i_tup_tuple, ev_appB, Int.reduceAbs, Nat.reduceLT, Nat.reduceLeDiff, Int.reduceLT, Int.reduceLE, Int.reduceEq, Int.reduceNe, Int.reduceAdd, Int.reduceSub, Int.reduceMul, Int.reduceNeg, Int.reduceMod, Int.reduceDiv, Nat.reduceAdd, Nat.reduceSub, Nat.reduceMul, Nat.reduceEqDiff, Int.reduceToNat, Nat.reduceGT, Int.reduceGT, Int.reduceGE, Nat.reduceMod, Nat.reduceDiv, Nat.reduceBEq, Nat.reduceBNe, Int.reduceBEq, Int.reduceBNe, appK_last, appK_mid, ev_sb, sbK_at, ev_gcons, ev_gnil, hrows, hshow, heq, hread]
    exact ⟨_, rfl⟩
  | false =>
    rw [q, if_neg Bool.false_ne_true] at hread
    rw [if_neg Bool.false_ne_true]
    refine ev_funE (r := .tup [.str [98, 97, 100], .str l, .bl true]) rfl ?_ (take_self s) rfl
    generalize d_read_rule T = d1 at hread
    simp only [env0, List.map_cons, List.map_nil, List.length_cons, List.length_nil, List.replicate_succ, List.replicate_zero, List.cons_append, List.nil_append, Nat.reduceAdd, Nat.reduceSub]
    simp -implicitDefEqProofs (maxSteps := 1000000) only [ev_seq, seqK_nx, seqK_rt, seqK_ex, seqK_bk, seqK_ct, ev_skip, ev_brk, ev_cont, ev_asg, ev_gN, ev_if, ev_ret, ev_expr, ev_raise, ev_new, ev_par, parK_ev, ev_tst, tstK_bl, ev_tru, ev_andT, ev_orT, ev_notT, ev_andE, ev_orE, ev_notE, ev_ifE, ev_V, varK_ev, ev_C, ev_op, ev_opF, ev_nil, ev_cons, ev_data, ev_lst, ev_tup, ev_CB, ev_CBF, ev_call, outK_ev, ev_neg, negK_ev, ev_so, soK_ev, ev_no, ev_slc, ev_slcF, fz_non, fz_bl, fz_int, fz_str, fz_scr, fz_lst, fz_tup, fz_obj, fz_exn, fz_last, fz_mid, fz_lastI, fz_lastF, vw_non, vw_bl, vw_int, vw_str, vw_scr, vw_lst, vw_tup, vw_obj, vw_ty, vw_cls, vw_exn, vw_last, vw_mid, vw_lastI, vw_lastF, st_last, st_set, st_take, st_mid, st_mset, st_mtake, add_int, add_str, add_lst, addL_lst, sub_int, mul_r, mul_l, mul_str, mul_lst, mulL_lst, div_int, mod_int, pow_18, pow_60, lt_int, le_int, gt_int, ge_int, eq_int, eq_str, ne_int, ne_str, eq_bl, isN_non, isN_tup, isN_lst, isN_str, isN_int, isN_bl, len_str, len_lst, len_tup, len_scr, int_int, max_int, min_int, tru_bl, tru_non, tru_int, tru_str, tru_lst, ix_lst, ix_tup, ix_scr, ix_str, Option.map_some, Option.map_none, slc_str, slc_lst, Option.bind_some, Option.bind_none, List.getElem?_cons_zero, List.getElem?_cons_succ, List.set_cons_zero, List.set_cons_succ, List.map_cons, List.map_nil, if_true, if_false, ite_true, ite_false, Bool.false_eq_true, decide_true, decide_false, Bool.not_true, Bool.not_false, reduceIte, sl_eq, eq_self, Nat.zero_le, List.length_cons, List.length_nil, List.length_map, ite_self, Int.natAbs_natCast, isObj_ev, ev_fld, fldK_obj, getF_hit, ev_prop, ev_own, ok_bl, ok_obj, list_lst, iso_ev, ev_asgX, asgX_ret, asgX_exc, ev_callX, i_non_bool, i_non_int, i_non_str, i_non_list, i_non_tuple, i_bl_bool, i_bl_int, i_bl_str, i_bl_list, i_bl_tuple, i_int_bool, i_int_int, i_int_str, i_int_list, i_int_tuple, i_str_bool, i_str_int, i_str_str, i_str_list, i_str_tuple, i_lst_bool, i_lst_int, i_lst_str, i_lst_list, i_lst_tuple, i_tup_bool, i_tup_int, i_tup_str, i_tup_list, i_tup_tuple, ev_appB, Int.reduceAbs, Nat.reduceLT, Nat.reduceLeDiff, Int.reduceLT, Int.reduceLE, Int.reduceEq, Int.reduceNe, Int.reduceAdd, Int.reduceSub, Int.reduceMul, Int.reduceNeg, Int.reduceMod, Int.reduceDiv, Nat.reduceAdd, Nat.reduceSub, Nat.reduceMul, Nat.reduceEqDiff, Int.reduceToNat, Nat.reduceGT, Int.reduceGT, Int.reduceGE, Nat.reduceMod, Nat.reduceDiv, Nat.reduceBEq, Nat.reduceBNe, Int.reduceBEq, Int.reduceBNe, appK_last, appK_mid, ev_sb, sbK_at, ev_gcons, ev_gnil]
    rw [dTry_ex (env1 := [some (.str l), some .non, some .non, none]) (s1 := s) (p := .str l) (r := (.nx, [some (.str l), some .non, some (.tup [.str [98, 97, 100], .str l, .bl true]), none], s)) (by simp -implicitDefEqProofs (maxSteps := 1000000) only [ev_seq, seqK_nx, seqK_rt, seqK_ex, seqK_bk, seqK_ct, ev_skip, ev_brk, ev_cont, ev_asg, ev_gN, ev_if, ev_ret, ev_expr, ev_raise, ev_new, ev_par, parK_ev, ev_tst, tstK_bl, ev_tru, ev_andT, ev_orT, ev_notT, ev_andE, ev_orE, ev_notE, ev_ifE, ev_V, varK_ev, ev_C, ev_op, ev_opF, ev_nil, ev_cons, ev_data, ev_lst, ev_tup, ev_CB, ev_CBF, ev_call, outK_ev, ev_neg, negK_ev, ev_so, soK_ev, ev_no, ev_slc, ev_slcF, fz_non, fz_bl, fz_int, fz_str, fz_scr, fz_lst, fz_tup, fz_obj, fz_exn, fz_last, fz_mid, fz_lastI, fz_lastF, vw_non, vw_bl, vw_int, vw_str, vw_scr, vw_lst, vw_tup, vw_obj, vw_ty, vw_cls, vw_exn, vw_last, vw_mid, vw_lastI, vw_lastF, st_last, st_set, st_take, st_mid, st_mset, st_mtake, add_int, add_str, add_lst, addL_lst, sub_int, mul_r, mul_l, mul_str, mul_lst, mulL_lst, div_int, mod_int, pow_18, pow_60, lt_int, le_int, gt_int, ge_int, eq_int, eq_str, ne_int, ne_str, eq_bl, isN_non, isN_tup, isN_lst, isN_str, isN_int, isN_bl, len_str, len_lst, len_tup, len_scr, int_int, max_int, min_int, tru_bl, tru_non, tru_int, tru_str, tru_lst, ix_lst, ix_tup, ix_scr, ix_str, Option.map_some, Option.map_none, slc_str, slc_lst, Option.bind_some, Option.bind_none, List.getElem?_cons_zero, List.getElem?_cons_succ, List.set_cons_zero, List.set_cons_succ, List.map_cons, List.map_nil, if_true, if_false, ite_true, ite_false, Bool.false_eq_true, decide_true, decide_false, Bool.not_true, Bool.not_false, reduceIte, sl_eq, eq_self, Nat.zero_le, List.length_cons, List.length_nil, List.length_map, ite_self, Int.natAbs_natCast, isObj_ev, ev_fld, fldK_obj, getF_hit, ev_prop, ev_own, ok_bl, ok_obj, list_lst, iso_ev, ev_asgX, asgX_ret, asgX_exc, ev_callX, i_non_bool, i_non_int, i_non_str, i_non_list, i_non_tuple, i_bl_bool, i_bl_int, i_bl_str, i_bl_list, i_bl_tuple, i_int_bool, i_int_int, i_int_str, i_int_list, i_int_tuple, i_str_bool, i_str_int, i_str_str, i_str_list, i_str_tuple, i_lst_bool, i_lst_int, i_lst_str, i_lst_list, i_lst_tuple, i_tup_bool, i_tup_int, i_tup_str, i_tup_list, i_tup_tuple, ev_appB, Int.reduceAbs, Nat.reduceLT, Nat.reduceLeDiff, Int.reduceLT, Int.reduceLE, Int.reduceEq, Int.reduceNe, Int.reduceAdd, Int.reduceSub, Int.reduceMul, Int.reduceNeg, Int.reduceMod, Int.reduceDiv, Nat.reduceAdd, Nat.reduceSub, Nat.reduceMul, Nat.reduceEqDiff, Int.reduceToNat, Nat.reduceGT, Int.reduceGT, Int.reduceGE, Nat.reduceMod, Nat.reduceDiv, Nat.reduceBEq, Nat.reduceBNe, Int.reduceBEq, Int.reduceBNe, appK_last, appK_mid, ev_sb, sbK_at, ev_gcons, ev_gnil, hread]) (fun a dd => by
      simp -implicitDefEqProofs (maxSteps := 1000000) only [ev_seq, seqK_nx, seqK_rt, seqK_ex, seqK_bk, seqK_ct, ev_skip, ev_brk, ev_cont, ev_asg, ev_gN, ev_if, ev_ret, ev_expr, ev_raise, ev_new, ev_par, parK_ev, ev_tst, tstK_bl, ev_tru, ev_andT, ev_orT, ev_notT, ev_andE, ev_orE, ev_notE, ev_ifE, ev_V, varK_ev, ev_C, ev_op, ev_opF, ev_nil, ev_cons, ev_data, ev_lst, ev_tup, ev_CB, ev_CBF, ev_call, outK_ev, ev_neg, negK_ev, ev_so, soK_ev, ev_no, ev_slc, ev_slcF, fz_non, fz_bl, fz_int, fz_str, fz_scr, fz_lst, fz_tup, fz_obj, fz_exn, fz_last, fz_mid, fz_lastI, fz_lastF, vw_non, vw_bl, vw_int, vw_str, vw_scr, vw_lst, vw_tup, vw_obj, vw_ty, vw_cls, vw_exn, vw_last, vw_mid, vw_lastI, vw_lastF, st_last, st_set, st_take, st_mid, st_mset, st_mtake, add_int, add_str, add_lst, addL_lst, sub_int, mul_r, mul_l, mul_str, mul_lst, mulL_lst, div_int, mod_int, pow_18, pow_60, lt_int, le_int, gt_int, ge_int, eq_int, eq_str, ne_int, ne_str, eq_bl, isN_non, isN_tup, isN_lst, isN_str, isN_int, isN_bl, len_str, len_lst, len_tup, len_scr, int_int, max_int, min_int, tru_bl, tru_non, tru_int, tru_str, tru_lst, ix_lst, ix_tup, ix_scr, ix_str, Option.map_some, Option.map_none, slc_str, slc_lst, Option.bind_some, Option.bind_none, List.getElem?_cons_zero, List.getElem?_cons_succ, List.set_cons_zero, List.set_cons_succ, List.map_cons, List.map_nil, if_true, if_false, ite_true, ite_false, Bool.false_eq_true, decide_true, decide_false, Bool.not_true, Bool.not_false, reduceIte, sl_eq, eq_self, Nat.zero_le, List.length_cons, List.length_nil, List.length_map, ite_self, Int.natAbs_natCast, isObj_ev, ev_fld, fldK_obj, getF_hit, ev_prop, ev_own, ok_bl, ok_obj, list_lst, iso_ev, ev_asgX, asgX_ret, asgX_exc, ev_callX, i_non_bool, i_non_int, i_non_str, i_non_list, i_non_tuple, i_bl_bool, i_bl_int, i_bl_str, i_bl_list, i_bl_tuple, i_int_bool, i_int_int, i_int_str, i_int_list, i_int_tuple, i_str_bool, i_str_int, i_str_str, i_str_list, i_str_tuple, i_lst_bool, i_lst_int, i_lst_str, i_lst_list, i_lst_tuple, i_tup_bool, i_tup_int, i_tup_str, i_tup_list, i_tup_tuple, ev_appB, Int.reduceAbs, Nat.reduceLT, Nat.reduceLeDiff, Int.reduceLT, Int.reduceLE, Int.reduceEq, Int.reduceNe, Int.reduceAdd, Int.reduceSub, Int.reduceMul, Int.reduceNeg, Int.reduceMod, Int.reduceDiv, Nat.reduceAdd, Nat.reduceSub, Nat.reduceMul, Nat.reduceEqDiff, Int.reduceToNat, Nat.reduceGT, Int.reduceGT, Int.reduceGE, Nat.reduceMod, Nat.reduceDiv, Nat.reduceBEq, Nat.reduceBNe, Int.reduceBEq, Int.reduceBNe, appK_last, appK_mid, ev_sb, sbK_at, ev_gcons, ev_gnil, xf_ev (a := a) (dd := dd) (C := T.C_Unreadable) (p := .str l), ix_ev]
      exact rfl)]
    simp -implicitDefEqProofs (maxSteps := 1000000) only [ev_seq, seqK_nx, seqK_rt, seqK_ex, seqK_bk, seqK_ct, ev_skip, ev_brk, ev_cont, ev_asg, ev_gN, ev_if, ev_ret, ev_expr, ev_raise, ev_new, ev_par, parK_ev, ev_tst, tstK_bl, ev_tru, ev_andT, ev_orT, ev_notT, ev_andE, ev_orE, ev_notE, ev_ifE, ev_V, varK_ev, ev_C, ev_op, ev_opF, ev_nil, ev_cons, ev_data, ev_lst, ev_tup, ev_CB, ev_CBF, ev_call, outK_ev, ev_neg, negK_ev, ev_so, soK_ev, ev_no, ev_slc, ev_slcF, fz_non, fz_bl, fz_int, fz_str, fz_scr, fz_lst, fz_tup, fz_obj, fz_exn, fz_last, fz_mid, fz_lastI, fz_lastF, vw_non, vw_bl, vw_int, vw_str, vw_scr, vw_lst, vw_tup, vw_obj, vw_ty, vw_cls, vw_exn, vw_last, vw_mid, vw_lastI, vw_lastF, st_last, st_set, st_take, st_mid, st_mset, st_mtake, add_int, add_str, add_lst, addL_lst, sub_int, mul_r, mul_l, mul_str, mul_lst, mulL_lst, div_int, mod_int, pow_18, pow_60, lt_int, le_int, gt_int, ge_int, eq_int, eq_str, ne_int, ne_str, eq_bl, isN_non, isN_tup, isN_lst, isN_str, isN_int, isN_bl, len_str, len_lst, len_tup, len_scr, int_int, max_int, min_int, tru_bl, tru_non, tru_int, tru_str, tru_lst, ix_lst, ix_tup, ix_scr, ix_str, Option.map_some, Option.map_none, slc_str, slc_lst, Option.bind_some, Option.bind_none, List.getElem?_cons_zero, List.getElem?_cons_succ, List.set_cons_zero, List.set_cons_succ, List.map_cons, List.map_nil, if_true, if_false, ite_true, ite_false, Bool.false_eq_true, decide_true, decide_false, Bool.not_true, Bool.not_false, reduceIte, sl_eq, eq_self, Nat.zero_le, List.length_cons, List.length_nil, List.length_map, ite_self, Int.natAbs_natCast, isObj_ev, ev_fld, fldK_obj, getF_hit, ev_prop, ev_own, ok_bl, ok_obj, list_lst, iso_ev, ev_asgX, asgX_ret, asgX_exc, ev_callX, i_non_bool, i_non_int, i_non_str, i_non_list, i_non_tuple, i_bl_bool, i_bl_int, i_bl_str, i_bl_list, i_bl_tuple, i_int_bool, i_int_int, i_int_str, i_int_list, i_int_tuple, i_str_bool, i_str_int, i_str_str, i_str_list, i_str_tuple, i_lst_bool, i_lst_int, i_lst_str, i_lst_list, i_lst_tuple, i_tup_bool, i_tup_int, i_tup_str, i_tup_list, i_tup_tuple, ev_appB, Int.reduceAbs, Nat.reduceLT, Nat.reduceLeDiff, Int.reduceLT, Int.reduceLE, Int.reduceEq, Int.reduceNe, Int.reduceAdd, Int.reduceSub, Int.reduceMul, Int.reduceNeg, Int.reduceMod, Int.reduceDiv, Nat.reduceAdd, Nat.reduceSub, Nat.reduceMul, Nat.reduceEqDiff, Int.reduceToNat, Nat.reduceGT, Int.reduceGT, Int.reduceGE, Nat.reduceMod, Nat.reduceDiv, Nat.reduceBEq, Nat.reduceBNe, Int.reduceBEq, Int.reduceBNe, appK_last, appK_mid, ev_sb, sbK_at, ev_gcons, ev_gnil]
    exact ⟨_, rfl⟩

end K84
end
section
namespace K84
open PySem Dx
open L2 (atI ixN)
/-! the comparison of the law -/
inductive Pl : Nat → D → Prop
  | non {n} : Pl n .non
  | bl {n b} : Pl n (.bl b)
  | int {n i} : Pl n (.int i)
  | str {n x} : Pl n (.str x)
  | lst {n xs} : xs.length ≤ 1000000 → (∀ x ∈ xs, Pl n x) → Pl (n + 1) (.lst xs)
  | tup {n xs} : xs.length ≤ 1000000 → (∀ x ∈ xs, Pl n x) → Pl (n + 1) (.tup xs)
theorem bls_true {α : Type} : ∀ l : List α, blsD (l.map fun _ => D.bl true) = some (l.map fun _ => true)
  | [] => rfl
  | a :: l => by
    rw [List.map_cons, blsD, bls_true l]
    rfl
theorem all_true {α : Type} (l : List α) : allG [.lst (l.map fun _ => D.bl true)] = some (.bl true) := by
  show Option.map _ (blsD _) = _
  rw [bls_true]
  simp only [Option.map_some]
  congr 2
  rw [List.all_eq_true]
  intro b hb
  obtain ⟨_, _, rfl⟩ := List.mem_map.mp hb
  rfl
theorem bnds_true {α : Type} {n : Nat} : ∀ l : List α, bnds n (l.map fun _ => D.bl true) = true
  | [] => rfl
  | a :: l => by rw [List.map_cons, bnds, bnds_true l]; rfl
theorem same_comp {rc : DFn} {d : D} {xs : List D} {s : Sto} (hd : d = .lst xs ∨ d = .tup xs) (hl : xs.length ≤ 1000000) (hok : Ok s) (hx : ∀ x ∈ xs, ∀ s, Ok s → rc [x, x] s = some (.ret (.bl true), s)) :
    dComp (iR1 (dCB lenG (dCons (dV 1) dNil))) [2] (gN 2) dYes (dCall rc (dCons (dOp idxD (dV 0) (dV 2)) (dCons (dOp idxD (dV 1) (dV 2)) dNil))) [some d, some d, none] s = some ((rangeL 0 xs.length).map fun _ => .bl true, s) := by
  refine comp_map (gd := none) (fun _ => .bl true) (items := rangeL 0 xs.length) ?_ hok (by rw [sl_eq, range_len]; omega) (fun _ => trivial) (fun e acc he ha => ?_) (bnds_true _)
  · have := ev_R1 (da := dCB lenG (dCons (dV 1) dNil)) (env := [some d, some d, none]) (s := s) (s1 := s) (n := (xs.length : Int)) (by rcases hd with rfl | rfl <;> simp -implicitDefEqProofs (maxSteps := 1000000) only [ev_seq, seqK_nx, seqK_rt, seqK_ex, seqK_bk, seqK_ct, ev_skip, ev_brk, ev_cont, ev_asg, ev_gN, ev_if, ev_ret, ev_expr, ev_raise, ev_new, ev_par, parK_ev, ev_tst, tstK_bl, ev_tru, ev_andT, ev_orT, ev_notT, ev_andE, ev_orE, ev_notE, ev_ifE, ev_V, varK_ev, ev_C, ev_op, ev_opF, ev_nil, ev_cons, ev_data, ev_lst, ev_tup, ev_CB, ev_CBF, ev_call, outK_ev, ev_neg, negK_ev, ev_so, soK_ev, ev_no, ev_slc, ev_slcF, fz_non, fz_bl, fz_int, fz_str, fz_scr, fz_lst, fz_tup, fz_obj, fz_exn, fz_last, fz_mid, fz_lastI, fz_lastF, vw_non, vw_bl, vw_int, vw_str, vw_scr, vw_lst, vw_tup, vw_obj, vw_ty, vw_cls, vw_exn, vw_last, vw_mid, vw_lastI, vw_lastF, st_last, st_set, st_take, st_mid, st_mset, st_mtake, add_int, add_str, add_lst, addL_lst, sub_int, mul_r, mul_l, mul_str, mul_lst, mulL_lst, div_int, mod_int, pow_18, pow_60, lt_int, le_int, gt_int, ge_int, eq_int, eq_str, ne_int, ne_str, eq_bl, isN_non, isN_tup, isN_lst, isN_str, isN_int, isN_bl, len_str, len_lst, len_tup, len_scr, int_int, max_int, min_int, tru_bl, tru_non, tru_int, tru_str, tru_lst, ix_lst, ix_tup, ix_scr, ix_str, Option.map_some, Option.map_none, slc_str, slc_lst, Option.bind_some, Option.bind_none, List.getElem?_cons_zero, List.getElem?_cons_succ, List.set_cons_zero, List.set_cons_succ, List.map_cons, List.map_nil, if_true, if_false, ite_true, ite_false, Bool.false_eq_true, decide_true, decide_false, Bool.not_true, Bool.not_false, reduceIte, sl_eq, eq_self, Nat.zero_le, List.length_cons, List.length_nil, List.length_map, ite_self, Int.natAbs_natCast, isObj_ev, ev_fld, fldK_obj, getF_hit, ev_prop, ev_own, ok_bl, ok_obj, list_lst, iso_ev, ev_asgX, asgX_ret, asgX_exc, ev_callX, i_non_bool, i_non_int, i_non_str, i_non_list, i_non_tuple, i_bl_bool, i_bl_int, i_bl_str, i_bl_list, i_bl_tuple, i_int_bool, i_int_int, i_int_str, i_int_list, i_int_tuple, i_str_bool, i_str_int, i_str_str, i_str_list, i_str_tuple, i_lst_bool, i_lst_int, i_lst_str, i_lst_list, i_lst_tuple, i_tup_bool, i_tup_int, i_tup_str, i_tup_list, i_tup_tuple, ev_appB, Int.reduceAbs, Nat.reduceLT, Nat.reduceLeDiff, Int.reduceLT, Int.reduceLE, Int.reduceEq, Int.reduceNe, Int.reduceAdd, Int.reduceSub, Int.reduceMul, Int.reduceNeg, Int.reduceMod, Int.reduceDiv, Nat.reduceAdd, Nat.reduceSub, Nat.reduceMul, Nat.reduceEqDiff, Int.reduceToNat, Nat.reduceGT, Int.reduceGT, Int.reduceGE, Nat.reduceMod, Nat.reduceDiv, Nat.reduceBEq, Nat.reduceBNe, Int.reduceBEq, Int.reduceBNe, appK_last, appK_mid, ev_sb, sbK_at, ev_gcons, ev_gnil]) (by omega) (by omega)
    rw [this, Int.toNat_natCast]
  · obtain ⟨k, hk⟩ := List.getElem?_of_mem he
    obtain ⟨hk1, rfl⟩ := range_get hk
    rw [Int.zero_add]
    refine ⟨_, rfl, ?_⟩
    simp only [wipeE]
    have a0 : atI xs (k : Int) = some xs[k] := at_nat (List.getElem?_eq_getElem hk1)
    have hr := hx xs[k] (List.getElem_mem hk1) _ (hok.snoc ha)
    generalize xs[k] = x at a0 hr
    rcases hd with rfl | rfl <;> simp -implicitDefEqProofs (maxSteps := 1000000) only [ev_seq, seqK_nx, seqK_rt, seqK_ex, seqK_bk, seqK_ct, ev_skip, ev_brk, ev_cont, ev_asg, ev_gN, ev_if, ev_ret, ev_expr, ev_raise, ev_new, ev_par, parK_ev, ev_tst, tstK_bl, ev_tru, ev_andT, ev_orT, ev_notT, ev_andE, ev_orE, ev_notE, ev_ifE, ev_V, varK_ev, ev_C, ev_op, ev_opF, ev_nil, ev_cons, ev_data, ev_lst, ev_tup, ev_CB, ev_CBF, ev_call, outK_ev, ev_neg, negK_ev, ev_so, soK_ev, ev_no, ev_slc, ev_slcF, fz_non, fz_bl, fz_int, fz_str, fz_scr, fz_lst, fz_tup, fz_obj, fz_exn, fz_last, fz_mid, fz_lastI, fz_lastF, vw_non, vw_bl, vw_int, vw_str, vw_scr, vw_lst, vw_tup, vw_obj, vw_ty, vw_cls, vw_exn, vw_last, vw_mid, vw_lastI, vw_lastF, st_last, st_set, st_take, st_mid, st_mset, st_mtake, add_int, add_str, add_lst, addL_lst, sub_int, mul_r, mul_l, mul_str, mul_lst, mulL_lst, div_int, mod_int, pow_18, pow_60, lt_int, le_int, gt_int, ge_int, eq_int, eq_str, ne_int, ne_str, eq_bl, isN_non, isN_tup, isN_lst, isN_str, isN_int, isN_bl, len_str, len_lst, len_tup, len_scr, int_int, max_int, min_int, tru_bl, tru_non, tru_int, tru_str, tru_lst, ix_lst, ix_tup, ix_scr, ix_str, Option.map_some, Option.map_none, slc_str, slc_lst, Option.bind_some, Option.bind_none, List.getElem?_cons_zero, List.getElem?_cons_succ, List.set_cons_zero, List.set_cons_succ, List.map_cons, List.map_nil, if_true, if_false, ite_true, ite_false, Bool.false_eq_true, decide_true, decide_false, Bool.not_true, Bool.not_false, reduceIte, sl_eq, eq_self, Nat.zero_le, List.length_cons, List.length_nil, List.length_map, ite_self, Int.natAbs_natCast, isObj_ev, ev_fld, fldK_obj, getF_hit, ev_prop, ev_own, ok_bl, ok_obj, list_lst, iso_ev, ev_asgX, asgX_ret, asgX_exc, ev_callX, i_non_bool, i_non_int, i_non_str, i_non_list, i_non_tuple, i_bl_bool, i_bl_int, i_bl_str, i_bl_list, i_bl_tuple, i_int_bool, i_int_int, i_int_str, i_int_list, i_int_tuple, i_str_bool, i_str_int, i_str_str, i_str_list, i_str_tuple, i_lst_bool, i_lst_int, i_lst_str, i_lst_list, i_lst_tuple, i_tup_bool, i_tup_int, i_tup_str, i_tup_list, i_tup_tuple, ev_appB, Int.reduceAbs, Nat.reduceLT, Nat.reduceLeDiff, Int.reduceLT, Int.reduceLE, Int.reduceEq, Int.reduceNe, Int.reduceAdd, Int.reduceSub, Int.reduceMul, Int.reduceNeg, Int.reduceMod, Int.reduceDiv, Nat.reduceAdd, Nat.reduceSub, Nat.reduceMul, Nat.reduceEqDiff, Int.reduceToNat, Nat.reduceGT, Int.reduceGT, Int.reduceGE, Nat.reduceMod, Nat.reduceDiv, Nat.reduceBEq, Nat.reduceBNe, Int.reduceBEq, Int.reduceBNe, appK_last, appK_mid, ev_sb, sbK_at, ev_gcons, ev_gnil, a0, hr]
theorem m_same (T : Ads) : ∀ (n : Nat) (d : D), Pl n d → ∀ s, Ok s → d__law_same T (n + 1) [d, d] s = some (.ret (.bl true), s) := by
  intro n
  induction n with
  | zero =>
    intro d h s hok
    unfold d__law_same
    refine ev_funE (r := .bl true) rfl ?_ (take_self s) rfl
    simp only [env0, List.map_cons, List.map_nil, List.length_cons, List.length_nil, List.replicate_succ, List.replicate_zero, List.cons_append, List.nil_append, Nat.reduceAdd, Nat.reduceSub]
    cases h with
    | non => simp -implicitDefEqProofs (maxSteps := 1000000) only [ev_seq, seqK_nx, seqK_rt, seqK_ex, seqK_bk, seqK_ct, ev_skip, ev_brk, ev_cont, ev_asg, ev_gN, ev_if, ev_ret, ev_expr, ev_raise, ev_new, ev_par, parK_ev, ev_tst, tstK_bl, ev_tru, ev_andT, ev_orT, ev_notT, ev_andE, ev_orE, ev_notE, ev_ifE, ev_V, varK_ev, ev_C, ev_op, ev_opF, ev_nil, ev_cons, ev_data, ev_lst, ev_tup, ev_CB, ev_CBF, ev_call, outK_ev, ev_neg, negK_ev, ev_so, soK_ev, ev_no, ev_slc, ev_slcF, fz_non, fz_bl, fz_int, fz_str, fz_scr, fz_lst, fz_tup, fz_obj, fz_exn, fz_last, fz_mid, fz_lastI, fz_lastF, vw_non, vw_bl, vw_int, vw_str, vw_scr, vw_lst, vw_tup, vw_obj, vw_ty, vw_cls, vw_exn, vw_last, vw_mid, vw_lastI, vw_lastF, st_last, st_set, st_take, st_mid, st_mset, st_mtake, add_int, add_str, add_lst, addL_lst, sub_int, mul_r, mul_l, mul_str, mul_lst, mulL_lst, div_int, mod_int, pow_18, pow_60, lt_int, le_int, gt_int, ge_int, eq_int, eq_str, ne_int, ne_str, eq_bl, isN_non, isN_tup, isN_lst, isN_str, isN_int, isN_bl, len_str, len_lst, len_tup, len_scr, int_int, max_int, min_int, tru_bl, tru_non, tru_int, tru_str, tru_lst, ix_lst, ix_tup, ix_scr, ix_str, Option.map_some, Option.map_none, slc_str, slc_lst, Option.bind_some, Option.bind_none, List.getElem?_cons_zero, List.getElem?_cons_succ, List.set_cons_zero, List.set_cons_succ, List.map_cons, List.map_nil, if_true, if_false, ite_true, ite_false, Bool.false_eq_true, decide_true, decide_false, Bool.not_true, Bool.not_false, reduceIte, sl_eq, eq_self, Nat.zero_le, List.length_cons, List.length_nil, List.length_map, ite_self, Int.natAbs_natCast, isObj_ev, ev_fld, fldK_obj, getF_hit, ev_prop, ev_own, ok_bl, ok_obj, list_lst, iso_ev, ev_asgX, asgX_ret, asgX_exc, ev_callX, i_non_bool, i_non_int, i_non_str, i_non_list, i_non_tuple, i_bl_bool, i_bl_int, i_bl_str, i_bl_list, i_bl_tuple, i_int_bool, i_int_int, i_int_str, i_int_list, i_int_tuple, i_str_bool, i_str_int, i_str_str, i_str_list, i_str_tuple, i_lst_bool, i_lst_int, i_lst_str, i_lst_list, i_lst_tuple, i_tup_bool, i_tup_int, i_tup_str, i_tup_list, i_tup_tuple, ev_appB, Int.reduceAbs, Nat.reduceLT, Nat.reduceLeDiff, Int.reduceLT, Int.reduceLE, Int.reduceEq, Int.reduceNe, Int.reduceAdd, Int.reduceSub, Int.reduceMul, Int.reduceNeg, Int.reduceMod, Int.reduceDiv, Nat.reduceAdd, Nat.reduceSub, Nat.reduceMul, Nat.reduceEqDiff, Int.reduceToNat, Nat.reduceGT, Int.reduceGT, Int.reduceGE, Nat.reduceMod, Nat.reduceDiv, Nat.reduceBEq, Nat.reduceBNe, Int.reduceBEq, Int.reduceBNe, appK_last, appK_mid, ev_sb, sbK_at, ev_gcons, ev_gnil]; exact ⟨_, rfl⟩
    | bl => simp -implicitDefEqProofs (maxSteps := 1000000) only [ev_seq, seqK_nx, seqK_rt, seqK_ex, seqK_bk, seqK_ct, ev_skip, ev_brk, ev_cont, ev_asg, ev_gN, ev_if, ev_ret, ev_expr, ev_raise, ev_new, ev_par, parK_ev, ev_tst, tstK_bl, ev_tru, ev_andT, ev_orT, ev_notT, ev_andE, ev_orE, ev_notE, ev_ifE, ev_V, varK_ev, ev_C, ev_op, ev_opF, ev_nil, ev_cons, ev_data, ev_lst, ev_tup, ev_CB, ev_CBF, ev_call, outK_ev, ev_neg, negK_ev, ev_so, soK_ev, ev_no, ev_slc, ev_slcF, fz_non, fz_bl, fz_int, fz_str, fz_scr, fz_lst, fz_tup, fz_obj, fz_exn, fz_last, fz_mid, fz_lastI, fz_lastF, vw_non, vw_bl, vw_int, vw_str, vw_scr, vw_lst, vw_tup, vw_obj, vw_ty, vw_cls, vw_exn, vw_last, vw_mid, vw_lastI, vw_lastF, st_last, st_set, st_take, st_mid, st_mset, st_mtake, add_int, add_str, add_lst, addL_lst, sub_int, mul_r, mul_l, mul_str, mul_lst, mulL_lst, div_int, mod_int, pow_18, pow_60, lt_int, le_int, gt_int, ge_int, eq_int, eq_str, ne_int, ne_str, eq_bl, isN_non, isN_tup, isN_lst, isN_str, isN_int, isN_bl, len_str, len_lst, len_tup, len_scr, int_int, max_int, min_int, tru_bl, tru_non, tru_int, tru_str, tru_lst, ix_lst, ix_tup, ix_scr, ix_str, Option.map_some, Option.map_none, slc_str, slc_lst, Option.bind_some, Option.bind_none, List.getElem?_cons_zero, List.getElem?_cons_succ, List.set_cons_zero, List.set_cons_succ, List.map_cons, List.map_nil, if_true, if_false, ite_true, ite_false, Bool.false_eq_true, decide_true, decide_false, Bool.not_true, Bool.not_false, reduceIte, sl_eq, eq_self, Nat.zero_le, List.length_cons, List.length_nil, List.length_map, ite_self, Int.natAbs_natCast, isObj_ev, ev_fld, fldK_obj, getF_hit, ev_prop, ev_own, ok_bl, ok_obj, list_lst, iso_ev, ev_asgX, asgX_ret, asgX_exc, ev_callX, i_non_bool, i_non_int, i_non_str, i_non_list, i_non_tuple, i_bl_bool, i_bl_int, i_bl_str, i_bl_list, i_bl_tuple, i_int_bool, i_int_int, i_int_str, i_int_list, i_int_tuple, i_str_bool, i_str_int, i_str_str, i_str_list, i_str_tuple, i_lst_bool, i_lst_int, i_lst_str, i_lst_list, i_lst_tuple, i_tup_bool, i_tup_int, i_tup_str, i_tup_list, i_tup_tuple, ev_appB, Int.reduceAbs, Nat.reduceLT, Nat.reduceLeDiff, Int.reduceLT, Int.reduceLE, Int.reduceEq, Int.reduceNe, Int.reduceAdd, Int.reduceSub, Int.reduceMul, Int.reduceNeg, Int.reduceMod, Int.reduceDiv, Nat.reduceAdd, Nat.reduceSub, Nat.reduceMul, Nat.reduceEqDiff, Int.reduceToNat, Nat.reduceGT, Int.reduceGT, Int.reduceGE, Nat.reduceMod, Nat.reduceDiv, Nat.reduceBEq, Nat.reduceBNe, Int.reduceBEq, Int.reduceBNe, appK_last, appK_mid, ev_sb, sbK_at, ev_gcons, ev_gnil]; exact ⟨_, rfl⟩
    | int => simp -implicitDefEqProofs (maxSteps := 1000000) only [ev_seq, seqK_nx, seqK_rt, seqK_ex, seqK_bk, seqK_ct, ev_skip, ev_brk, ev_cont, ev_asg, ev_gN, ev_if, ev_ret, ev_expr, ev_raise, ev_new, ev_par, parK_ev, ev_tst, tstK_bl, ev_tru, ev_andT, ev_orT, ev_notT, ev_andE, ev_orE, ev_notE, ev_ifE, ev_V, varK_ev, ev_C, ev_op, ev_opF, ev_nil, ev_cons, ev_data, ev_lst, ev_tup, ev_CB, ev_CBF, ev_call, outK_ev, ev_neg, negK_ev, ev_so, soK_ev, ev_no, ev_slc, ev_slcF, fz_non, fz_bl, fz_int, fz_str, fz_scr, fz_lst, fz_tup, fz_obj, fz_exn, fz_last, fz_mid, fz_lastI, fz_lastF, vw_non, vw_bl, vw_int, vw_str, vw_scr, vw_lst, vw_tup, vw_obj, vw_ty, vw_cls, vw_exn, vw_last, vw_mid, vw_lastI, vw_lastF, st_last, st_set, st_take, st_mid, st_mset, st_mtake, add_int, add_str, add_lst, addL_lst, sub_int, mul_r, mul_l, mul_str, mul_lst, mulL_lst, div_int, mod_int, pow_18, pow_60, lt_int, le_int, gt_int, ge_int, eq_int, eq_str, ne_int, ne_str, eq_bl, isN_non, isN_tup, isN_lst, isN_str, isN_int, isN_bl, len_str, len_lst, len_tup, len_scr, int_int, max_int, min_int, tru_bl, tru_non, tru_int, tru_str, tru_lst, ix_lst, ix_tup, ix_scr, ix_str, Option.map_some, Option.map_none, slc_str, slc_lst, Option.bind_some, Option.bind_none, List.getElem?_cons_zero, List.getElem?_cons_succ, List.set_cons_zero, List.set_cons_succ, List.map_cons, List.map_nil, if_true, if_false, ite_true, ite_false, Bool.false_eq_true, decide_true, decide_false, Bool.not_true, Bool.not_false, reduceIte, sl_eq, eq_self, Nat.zero_le, List.length_cons, List.length_nil, List.length_map, ite_self, Int.natAbs_natCast, isObj_ev, ev_fld, fldK_obj, getF_hit, ev_prop, ev_own, ok_bl, ok_obj, list_lst, iso_ev, ev_asgX, asgX_ret, asgX_exc, ev_callX, i_non_bool, i_non_int, i_non_str, i_non_list, i_non_tuple, i_bl_bool, i_bl_int, i_bl_str, i_bl_list, i_bl_tuple, i_int_bool, i_int_int, i_int_str, i_int_list, i_int_tuple, i_str_bool, i_str_int, i_str_str, i_str_list, i_str_tuple, i_lst_bool, i_lst_int, i_lst_str, i_lst_list, i_lst_tuple, i_tup_bool, i_tup_int, i_tup_str, i_tup_list, i_tup_tuple, ev_appB, Int.reduceAbs, Nat.reduceLT, Nat.reduceLeDiff, Int.reduceLT, Int.reduceLE, Int.reduceEq, Int.reduceNe, Int.reduceAdd, Int.reduceSub, Int.reduceMul, Int.reduceNeg, Int.reduceMod, Int.reduceDiv, Nat.reduceAdd, Nat.reduceSub, Nat.reduceMul, Nat.reduceEqDiff, Int.reduceToNat, Nat.reduceGT, Int.reduceGT, Int.reduceGE, Nat.reduceMod, Nat.reduceDiv, Nat.reduceBEq, Nat.reduceBNe, Int.reduceBEq, Int.reduceBNe, appK_last, appK_mid, ev_sb, sbK_at, ev_gcons, ev_gnil]; exact ⟨_, rfl⟩
    | str => simp -implicitDefEqProofs (maxSteps := 1000000) only [ev_seq, seqK_nx, seqK_rt, seqK_ex, seqK_bk, seqK_ct, ev_skip, ev_brk, ev_cont, ev_asg, ev_gN, ev_if, ev_ret, ev_expr, ev_raise, ev_new, ev_par, parK_ev, ev_tst, tstK_bl, ev_tru, ev_andT, ev_orT, ev_notT, ev_andE, ev_orE, ev_notE, ev_ifE, ev_V, varK_ev, ev_C, ev_op, ev_opF, ev_nil, ev_cons, ev_data, ev_lst, ev_tup, ev_CB, ev_CBF, ev_call, outK_ev, ev_neg, negK_ev, ev_so, soK_ev, ev_no, ev_slc, ev_slcF, fz_non, fz_bl, fz_int, fz_str, fz_scr, fz_lst, fz_tup, fz_obj, fz_exn, fz_last, fz_mid, fz_lastI, fz_lastF, vw_non, vw_bl, vw_int, vw_str, vw_scr, vw_lst, vw_tup, vw_obj, vw_ty, vw_cls, vw_exn, vw_last, vw_mid, vw_lastI, vw_lastF, st_last, st_set, st_take, st_mid, st_mset, st_mtake, add_int, add_str, add_lst, addL_lst, sub_int, mul_r, mul_l, mul_str, mul_lst, mulL_lst, div_int, mod_int, pow_18, pow_60, lt_int, le_int, gt_int, ge_int, eq_int, eq_str, ne_int, ne_str, eq_bl, isN_non, isN_tup, isN_lst, isN_str, isN_int, isN_bl, len_str, len_lst, len_tup, len_scr, int_int, max_int, min_int, tru_bl, tru_non, tru_int, tru_str, tru_lst, ix_lst, ix_tup, ix_scr, ix_str, Option.map_some, Option.map_none, slc_str, slc_lst, Option.bind_some, Option.bind_none, List.getElem?_cons_zero, List.getElem?_cons_succ, List.set_cons_zero, List.set_cons_succ, List.map_cons, List.map_nil, if_true, if_false, ite_true, ite_false, Bool.false_eq_true, decide_true, decide_false, Bool.not_true, Bool.not_false, reduceIte, sl_eq, eq_self, Nat.zero_le, List.length_cons, List.length_nil, List.length_map, ite_self, Int.natAbs_natCast, isObj_ev, ev_fld, fldK_obj, getF_hit, ev_prop, ev_own, ok_bl, ok_obj, list_lst, iso_ev, ev_asgX, asgX_ret, asgX_exc, ev_callX, i_non_bool, i_non_int, i_non_str, i_non_list, i_non_tuple, i_bl_bool, i_bl_int, i_bl_str, i_bl_list, i_bl_tuple, i_int_bool, i_int_int, i_int_str, i_int_list, i_int_tuple, i_str_bool, i_str_int, i_str_str, i_str_list, i_str_tuple, i_lst_bool, i_lst_int, i_lst_str, i_lst_list, i_lst_tuple, i_tup_bool, i_tup_int, i_tup_str, i_tup_list, i_tup_tuple, ev_appB, Int.reduceAbs, Nat.reduceLT, Nat.reduceLeDiff, Int.reduceLT, Int.reduceLE, Int.reduceEq, Int.reduceNe, Int.reduceAdd, Int.reduceSub, Int.reduceMul, Int.reduceNeg, Int.reduceMod, Int.reduceDiv, Nat.reduceAdd, Nat.reduceSub, Nat.reduceMul, Nat.reduceEqDiff, Int.reduceToNat, Nat.reduceGT, Int.reduceGT, Int.reduceGE, Nat.reduceMod, Nat.reduceDiv, Nat.reduceBEq, Nat.reduceBNe, Int.reduceBEq, Int.reduceBNe, appK_last, appK_mid, ev_sb, sbK_at, ev_gcons, ev_gnil]; exact ⟨_, rfl⟩
  | succ n ih =>
    intro d h s hok
    unfold d__law_same
    refine ev_funE (r := .bl true) rfl ?_ (take_self s) rfl
    simp only [env0, List.map_cons, List.map_nil, List.length_cons, List.length_nil, List.replicate_succ, List.replicate_zero, List.cons_append, List.nil_append, Nat.reduceAdd, Nat.reduceSub]
    cases h with
    | non => simp -implicitDefEqProofs (maxSteps := 1000000) only [ev_seq, seqK_nx, seqK_rt, seqK_ex, seqK_bk, seqK_ct, ev_skip, ev_brk, ev_cont, ev_asg, ev_gN, ev_if, ev_ret, ev_expr, ev_raise, ev_new, ev_par, parK_ev, ev_tst, tstK_bl, ev_tru, ev_andT, ev_orT, ev_notT, ev_andE, ev_orE, ev_notE, ev_ifE, ev_V, varK_ev, ev_C, ev_op, ev_opF, ev_nil, ev_cons, ev_data, ev_lst, ev_tup, ev_CB, ev_CBF, ev_call, outK_ev, ev_neg, negK_ev, ev_so, soK_ev, ev_no, ev_slc, ev_slcF, fz_non, fz_bl, fz_int, fz_str, fz_scr, fz_lst, fz_tup, fz_obj, fz_exn, fz_last, fz_mid, fz_lastI, fz_lastF, vw_non, vw_bl, vw_int, vw_str, vw_scr, vw_lst, vw_tup, vw_obj, vw_ty, vw_cls, vw_exn, vw_last, vw_mid, vw_lastI, vw_lastF, st_last, st_set, st_take, st_mid, st_mset, st_mtake, add_int, add_str, add_lst, addL_lst, sub_int, mul_r, mul_l, mul_str, mul_lst, mulL_lst, div_int, mod_int, pow_18, pow_60, lt_int, le_int, gt_int, ge_int, eq_int, eq_str, ne_int, ne_str, eq_bl, isN_non, isN_tup, isN_lst, isN_str, isN_int, isN_bl, len_str, len_lst, len_tup, len_scr, int_int, max_int, min_int, tru_bl, tru_non, tru_int, tru_str, tru_lst, ix_lst, ix_tup, ix_scr, ix_str, Option.map_some, Option.map_none, slc_str, slc_lst, Option.bind_some, Option.bind_none, List.getElem?_cons_zero, List.getElem?_cons_succ, List.set_cons_zero, List.set_cons_succ, List.map_cons, List.map_nil, if_true, if_false, ite_true, ite_false, Bool.false_eq_true, decide_true, decide_false, Bool.not_true, Bool.not_false, reduceIte, sl_eq, eq_self, Nat.zero_le, List.length_cons, List.length_nil, List.length_map, ite_self, Int.natAbs_natCast, isObj_ev, ev_fld, fldK_obj, getF_hit, ev_prop, ev_own, ok_bl, ok_obj, list_lst, iso_ev, ev_asgX, asgX_ret, asgX_exc, ev_callX, i_non_bool, i_non_int, i_non_str, i_non_list, i_non_tuple, i_bl_bool, i_bl_int, i_bl_str, i_bl_list, i_bl_tuple, i_int_bool, i_int_int, i_int_str, i_int_list, i_int_tuple, i_str_bool, i_str_int, i_str_str, i_str_list, i_str_tuple, i_lst_bool, i_lst_int, i_lst_str, i_lst_list, i_lst_tuple, i_tup_bool, i_tup_int, i_tup_str, i_tup_list, i_tup_tuple, ev_appB, Int.reduceAbs, Nat.reduceLT, Nat.reduceLeDiff, Int.reduceLT, Int.reduceLE, Int.reduceEq, Int.reduceNe, Int.reduceAdd, Int.reduceSub, Int.reduceMul, Int.reduceNeg, Int.reduceMod, Int.reduceDiv, Nat.reduceAdd, Nat.reduceSub, Nat.reduceMul, Nat.reduceEqDiff, Int.reduceToNat, Nat.reduceGT, Int.reduceGT, Int.reduceGE, Nat.reduceMod, Nat.reduceDiv, Nat.reduceBEq, Nat.reduceBNe, Int.reduceBEq, Int.reduceBNe, appK_last, appK_mid, ev_sb, sbK_at, ev_gcons, ev_gnil]; exact ⟨_, rfl⟩
    | bl => simp -implicitDefEqProofs (maxSteps := 1000000) only [ev_seq, seqK_nx, seqK_rt, seqK_ex, seqK_bk, seqK_ct, ev_skip, ev_brk, ev_cont, ev_asg, ev_gN, ev_if, ev_ret, ev_expr, ev_raise, ev_new, ev_par, parK_ev, ev_tst, tstK_bl, ev_tru, ev_andT, ev_orT, ev_notT, ev_andE, ev_orE, ev_notE, ev_ifE, ev_V, varK_ev, ev_C, ev_op, ev_opF, ev_nil, ev_cons, ev_data, ev_lst, ev_tup, ev_CB, ev_CBF, ev_call, outK_ev, ev_neg, negK_ev, ev_so, soK_ev, ev_no, ev_slc, ev_slcF, fz_non, fz_bl, fz_int, fz_str, fz_scr, fz_lst, fz_tup, fz_obj, fz_exn, fz_last, fz_mid, fz_lastI, fz_lastF, vw_non, vw_bl, vw_int, vw_str, vw_scr, vw_lst, vw_tup, vw_obj, vw_ty, vw_cls, vw_exn, vw_last, vw_mid, vw_lastI, vw_lastF, st_last, st_set, st_take, st_mid, st_mset, st_mtake, add_int, add_str, add_lst, addL_lst, sub_int, mul_r, mul_l, mul_str, mul_lst, mulL_lst, div_int, mod_int, pow_18, pow_60, lt_int, le_int, gt_int, ge_int, eq_int, eq_str, ne_int, ne_str, eq_bl, isN_non, isN_tup, isN_lst, isN_str, isN_int, isN_bl, len_str, len_lst, len_tup, len_scr, int_int, max_int, min_int, tru_bl, tru_non, tru_int, tru_str, tru_lst, ix_lst, ix_tup, ix_scr, ix_str, Option.map_some, Option.map_none, slc_str, slc_lst, Option.bind_some, Option.bind_none, List.getElem?_cons_zero, List.getElem?_cons_succ, List.set_cons_zero, List.set_cons_succ, List.map_cons, List.map_nil, if_true, if_false, ite_true, ite_false, Bool.false_eq_true, decide_true, decide_false, Bool.not_true, Bool.not_false, reduceIte, sl_eq, eq_self, Nat.zero_le, List.length_cons, List.length_nil, List.length_map, ite_self, Int.natAbs_natCast, isObj_ev, ev_fld, fldK_obj, getF_hit, ev_prop, ev_own, ok_bl, ok_obj, list_lst, iso_ev, ev_asgX, asgX_ret, asgX_exc, ev_callX, i_non_bool, i_non_int, i_non_str, i_non_list, i_non_tuple, i_bl_bool, i_bl_int, i_bl_str, i_bl_list, i_bl_tuple, i_int_bool, i_int_int, i_int_str, i_int_list, i_int_tuple, i_str_bool, i_str_int, i_str_str, i_str_list, i_str_tuple, i_lst_bool, i_lst_int, i_lst_str, i_lst_list, i_lst_tuple, i_tup_bool, i_tup_int, i_tup_str, i_tup_list, i_tup_tuple, ev_appB, Int.reduceAbs, Nat.reduceLT, Nat.reduceLeDiff, Int.reduceLT, Int.reduceLE, Int.reduceEq, Int.reduceNe, Int.reduceAdd, Int.reduceSub, Int.reduceMul, Int.reduceNeg, Int.reduceMod, Int.reduceDiv, Nat.reduceAdd, Nat.reduceSub, Nat.reduceMul, Nat.reduceEqDiff, Int.reduceToNat, Nat.reduceGT, Int.reduceGT, Int.reduceGE, Nat.reduceMod, Nat.reduceDiv, Nat.reduceBEq, Nat.reduceBNe, Int.reduceBEq, Int.reduceBNe, appK_last, appK_mid, ev_sb, sbK_at, ev_gcons, ev_gnil]; exact ⟨_, rfl⟩
    | int => simp -implicitDefEqProofs (maxSteps := 1000000) only [ev_seq, seqK_nx, seqK_rt, seqK_ex, seqK_bk, seqK_ct, ev_skip, ev_brk, ev_cont, ev_asg, ev_gN, ev_if, ev_ret, ev_expr, ev_raise, ev_new, ev_par, parK_ev, ev_tst, tstK_bl, ev_tru, ev_andT, ev_orT, ev_notT, ev_andE, ev_orE, ev_notE, ev_ifE, ev_V, varK_ev, ev_C, ev_op, ev_opF, ev_nil, ev_cons, ev_data, ev_lst, ev_tup, ev_CB, ev_CBF, ev_call, outK_ev, ev_neg, negK_ev, ev_so, soK_ev, ev_no, ev_slc, ev_slcF, fz_non, fz_bl, fz_int, fz_str, fz_scr, fz_lst, fz_tup, fz_obj, fz_exn, fz_last, fz_mid, fz_lastI, fz_lastF, vw_non, vw_bl, vw_int, vw_str, vw_scr, vw_lst, vw_tup, vw_obj, vw_ty, vw_cls, vw_exn, vw_last, vw_mid, vw_lastI, vw_lastF, st_last, st_set, st_take, st_mid, st_mset, st_mtake, add_int, add_str, add_lst, addL_lst, sub_int, mul_r, mul_l, mul_str, mul_lst, mulL_lst, div_int, mod_int, pow_18, pow_60, lt_int, le_int, gt_int, ge_int, eq_int, eq_str, ne_int, ne_str, eq_bl, isN_non, isN_tup, isN_lst, isN_str, isN_int, isN_bl, len_str, len_lst, len_tup, len_scr, int_int, max_int, min_int, tru_bl, tru_non, tru_int, tru_str, tru_lst, ix_lst, ix_tup, ix_scr, ix_str, Option.map_some, Option.map_none, slc_str, slc_lst, Option.bind_some, Option.bind_none, List.getElem?_cons_zero, List.getElem?_cons_succ, List.set_cons_zero, List.set_cons_succ, List.map_cons, List.map_nil, if_true, if_false, ite_true, ite_false, Bool.false_eq_true, decide_true, decide_false, Bool.not_true, Bool.not_false, reduceIte, sl_eq, eq_self, Nat.zero_le, List.length_cons, List.length_nil, List.length_map, ite_self, Int.natAbs_natCast, isObj_ev, ev_fld, fldK_obj, getF_hit, ev_prop, ev_own, ok_bl, ok_obj, list_lst, iso_ev, ev_asgX, asgX_ret, asgX_exc, ev_callX, i_non_bool, i_non_int, i_non_str, i_non_list, i_non_tuple, i_bl_bool, i_bl_int, i_bl_str, i_bl_list, i_bl_tuple, i_int_bool, i_int_int, i_int_str, i_int_list, i_int_tuple, i_str_bool, i_str_int, i_str_str, i_str_list, i_str_tuple, i_lst_bool, i_lst_int, i_lst_str, i_lst_list, i_lst_tuple, i_tup_bool, i_tup_int, i_tup_str, i_tup_list, i_tup_tuple, ev_appB, Int.reduceAbs, Nat.reduceLT, Nat.reduceLeDiff, Int.reduceLT, Int.reduceLE, Int.reduceEq, Int.reduceNe, Int.reduceAdd, Int.reduceSub, Int.reduceMul, Int.reduceNeg, Int.reduceMod, Int.reduceDiv, Nat.reduceAdd, Nat.reduceSub, Nat.reduceMul, Nat.reduceEqDiff, Int.reduceToNat, Nat.reduceGT, Int.reduceGT, Int.reduceGE, Nat.reduceMod, Nat.reduceDiv, Nat.reduceBEq, Nat.reduceBNe, Int.reduceBEq, Int.reduceBNe, appK_last, appK_mid, ev_sb, sbK_at, ev_gcons, ev_gnil]; exact ⟨_, rfl⟩
    | str => simp -implicitDefEqProofs (maxSteps := 1000000) only [ev_seq, seqK_nx, seqK_rt, seqK_ex, seqK_bk, seqK_ct, ev_skip, ev_brk, ev_cont, ev_asg, ev_gN, ev_if, ev_ret, ev_expr, ev_raise, ev_new, ev_par, parK_ev, ev_tst, tstK_bl, ev_tru, ev_andT, ev_orT, ev_notT, ev_andE, ev_orE, ev_notE, ev_ifE, ev_V, varK_ev, ev_C, ev_op, ev_opF, ev_nil, ev_cons, ev_data, ev_lst, ev_tup, ev_CB, ev_CBF, ev_call, outK_ev, ev_neg, negK_ev, ev_so, soK_ev, ev_no, ev_slc, ev_slcF, fz_non, fz_bl, fz_int, fz_str, fz_scr, fz_lst, fz_tup, fz_obj, fz_exn, fz_last, fz_mid, fz_lastI, fz_lastF, vw_non, vw_bl, vw_int, vw_str, vw_scr, vw_lst, vw_tup, vw_obj, vw_ty, vw_cls, vw_exn, vw_last, vw_mid, vw_lastI, vw_lastF, st_last, st_set, st_take, st_mid, st_mset, st_mtake, add_int, add_str, add_lst, addL_lst, sub_int, mul_r, mul_l, mul_str, mul_lst, mulL_lst, div_int, mod_int, pow_18, pow_60, lt_int, le_int, gt_int, ge_int, eq_int, eq_str, ne_int, ne_str, eq_bl, isN_non, isN_tup, isN_lst, isN_str, isN_int, isN_bl, len_str, len_lst, len_tup, len_scr, int_int, max_int, min_int, tru_bl, tru_non, tru_int, tru_str, tru_lst, ix_lst, ix_tup, ix_scr, ix_str, Option.map_some, Option.map_none, slc_str, slc_lst, Option.bind_some, Option.bind_none, List.getElem?_cons_zero, List.getElem?_cons_succ, List.set_cons_zero, List.set_cons_succ, List.map_cons, List.map_nil, if_true, if_false, ite_true, ite_false, Bool.false_eq_true, decide_true, decide_false, Bool.not_true, Bool.not_false, reduceIte, sl_eq, eq_self, Nat.zero_le, List.length_cons, List.length_nil, List.length_map, ite_self, Int.natAbs_natCast, isObj_ev, ev_fld, fldK_obj, getF_hit, ev_prop, ev_own, ok_bl, ok_obj, list_lst, iso_ev, ev_asgX, asgX_ret, asgX_exc, ev_callX, i_non_bool, i_non_int, i_non_str, i_non_list, i_non_tuple, i_bl_bool, i_bl_int, i_bl_str, i_bl_list, i_bl_tuple, i_int_bool, i_int_int, i_int_str, i_int_list, i_int_tuple, i_str_bool, i_str_int, i_str_str, i_str_list, i_str_tuple, i_lst_bool, i_lst_int, i_lst_str, i_lst_list, i_lst_tuple, i_tup_bool, i_tup_int, i_tup_str, i_tup_list, i_tup_tuple, ev_appB, Int.reduceAbs, Nat.reduceLT, Nat.reduceLeDiff, Int.reduceLT, Int.reduceLE, Int.reduceEq, Int.reduceNe, Int.reduceAdd, Int.reduceSub, Int.reduceMul, Int.reduceNeg, Int.reduceMod, Int.reduceDiv, Nat.reduceAdd, Nat.reduceSub, Nat.reduceMul, Nat.reduceEqDiff, Int.reduceToNat, Nat.reduceGT, Int.reduceGT, Int.reduceGE, Nat.reduceMod, Nat.reduceDiv, Nat.reduceBEq, Nat.reduceBNe, Int.reduceBEq, Int.reduceBNe, appK_last, appK_mid, ev_sb, sbK_at, ev_gcons, ev_gnil]; exact ⟨_, rfl⟩
    | lst hl hx =>
      rename_i xs
      have hc := same_comp (rc := d__law_same T (n + 1)) (.inl rfl) hl hok fun x hx' s hok => ih x (hx x hx') s hok
      generalize d__law_same T (n + 1) = rc at hc
      simp -implicitDefEqProofs (maxSteps := 1000000) only [ev_seq, seqK_nx, seqK_rt, seqK_ex, seqK_bk, seqK_ct, ev_skip, ev_brk, ev_cont, ev_asg, ev_gN, ev_if, ev_ret, ev_expr, ev_raise, ev_new, ev_par, parK_ev, ev_tst, tstK_bl, ev_tru, ev_andT, ev_orT, ev_notT, ev_andE, ev_orE, ev_notE, ev_ifE, ev_V, varK_ev, ev_C, ev_op, ev_opF, ev_nil, ev_cons, ev_data, ev_lst, ev_tup, ev_CB, ev_CBF, ev_call, outK_ev, ev_neg, negK_ev, ev_so, soK_ev, ev_no, ev_slc, ev_slcF, fz_non, fz_bl, fz_int, fz_str, fz_scr, fz_lst, fz_tup, fz_obj, fz_exn, fz_last, fz_mid, fz_lastI, fz_lastF, vw_non, vw_bl, vw_int, vw_str, vw_scr, vw_lst, vw_tup, vw_obj, vw_ty, vw_cls, vw_exn, vw_last, vw_mid, vw_lastI, vw_lastF, st_last, st_set, st_take, st_mid, st_mset, st_mtake, add_int, add_str, add_lst, addL_lst, sub_int, mul_r, mul_l, mul_str, mul_lst, mulL_lst, div_int, mod_int, pow_18, pow_60, lt_int, le_int, gt_int, ge_int, eq_int, eq_str, ne_int, ne_str, eq_bl, isN_non, isN_tup, isN_lst, isN_str, isN_int, isN_bl, len_str, len_lst, len_tup, len_scr, int_int, max_int, min_int, tru_bl, tru_non, tru_int, tru_str, tru_lst, ix_lst, ix_tup, ix_scr, ix_str, Option.map_some, Option.map_none, slc_str, slc_lst, Option.bind_some, Option.bind_none, List.getElem?_cons_zero, List.getElem?_cons_succ, List.set_cons_zero, List.set_cons_succ, List.map_cons, List.map_nil, if_true, if_false, ite_true, ite_false, Bool.false_eq_true, decide_true, decide_false, Bool.not_true, Bool.not_false, reduceIte, sl_eq, eq_self, Nat.zero_le, List.length_cons, List.length_nil, List.length_map, ite_self, Int.natAbs_natCast, isObj_ev, ev_fld, fldK_obj, getF_hit, ev_prop, ev_own, ok_bl, ok_obj, list_lst, iso_ev, ev_asgX, asgX_ret, asgX_exc, ev_callX, i_non_bool, i_non_int, i_non_str, i_non_list, i_non_tuple, i_bl_bool, i_bl_int, i_bl_str, i_bl_list, i_bl_tuple, i_int_bool, i_int_int, i_int_str, i_int_list, i_int_tuple, i_str_bool, i_str_int, i_str_str, i_str_list, i_str_tuple, i_lst_bool, i_lst_int, i_lst_str, i_lst_list, i_lst_tuple, i_tup_bool, i_tup_int, i_tup_str, i_tup_list, i_tup_tuple, ev_appB, Int.reduceAbs, Nat.reduceLT, Nat.reduceLeDiff, Int.reduceLT, Int.reduceLE, Int.reduceEq, Int.reduceNe, Int.reduceAdd, Int.reduceSub, Int.reduceMul, Int.reduceNeg, Int.reduceMod, Int.reduceDiv, Nat.reduceAdd, Nat.reduceSub, Nat.reduceMul, Nat.reduceEqDiff, Int.reduceToNat, Nat.reduceGT, Int.reduceGT, Int.reduceGE, Nat.reduceMod, Nat.reduceDiv, Nat.reduceBEq, Nat.reduceBNe, Int.reduceBEq, Int.reduceBNe, appK_last, appK_mid, ev_sb, sbK_at, ev_gcons, ev_gnil, hc, all_true]
      exact ⟨_, rfl⟩
    | tup hl hx =>
      rename_i xs
      have hc := same_comp (rc := d__law_same T (n + 1)) (.inr rfl) hl hok fun x hx' s hok => ih x (hx x hx') s hok
      generalize d__law_same T (n + 1) = rc at hc
      simp -implicitDefEqProofs (maxSteps := 1000000) only [ev_seq, seqK_nx, seqK_rt, seqK_ex, seqK_bk, seqK_ct, ev_skip, ev_brk, ev_cont, ev_asg, ev_gN, ev_if, ev_ret, ev_expr, ev_raise, ev_new, ev_par, parK_ev, ev_tst, tstK_bl, ev_tru, ev_andT, ev_orT, ev_notT, ev_andE, ev_orE, ev_notE, ev_ifE, ev_V, varK_ev, ev_C, ev_op, ev_opF, ev_nil, ev_cons, ev_data, ev_lst, ev_tup, ev_CB, ev_CBF, ev_call, outK_ev, ev_neg, negK_ev, ev_so, soK_ev, ev_no, ev_slc, ev_slcF, fz_non, fz_bl, fz_int, fz_str, fz_scr, fz_lst, fz_tup, fz_obj, fz_exn, fz_last, fz_mid, fz_lastI, fz_lastF, vw_non, vw_bl, vw_int, vw_str, vw_scr, vw_lst, vw_tup, vw_obj, vw_ty, vw_cls, vw_exn, vw_last, vw_mid, vw_lastI, vw_lastF, st_last, st_set, st_take, st_mid, st_mset, st_mtake, add_int, add_str, add_lst, addL_lst, sub_int, mul_r, mul_l, mul_str, mul_lst, mulL_lst, div_int, mod_int, pow_18, pow_60, lt_int, le_int, gt_int, ge_int, eq_int, eq_str, ne_int, ne_str, eq_bl, isN_non, isN_tup, isN_lst, isN_str, isN_int, isN_bl, len_str, len_lst, len_tup, len_scr, int_int, max_int, min_int, tru_bl, tru_non, tru_int, tru_str, tru_lst, ix_lst, ix_tup, ix_scr, ix_str, Option.map_some, Option.map_none, slc_str, slc_lst, Option.bind_some, Option.bind_none, List.getElem?_cons_zero, List.getElem?_cons_succ, List.set_cons_zero, List.set_cons_succ, List.map_cons, List.map_nil, if_true, if_false, ite_true, ite_false, Bool.false_eq_true, decide_true, decide_false, Bool.not_true, Bool.not_false, reduceIte, sl_eq, eq_self, Nat.zero_le, List.length_cons, List.length_nil, List.length_map, ite_self, Int.natAbs_natCast, isObj_ev, ev_fld, fldK_obj, getF_hit, ev_prop, ev_own, ok_bl, ok_obj, list_lst, iso_ev, ev_asgX, asgX_ret, asgX_exc, ev_callX, i_non_bool, i_non_int, i_non_str, i_non_list, i_non_tuple, i_bl_bool, i_bl_int, i_bl_str, i_bl_list, i_bl_tuple, i_int_bool, i_int_int, i_int_str, i_int_list, i_int_tuple, i_str_bool, i_str_int, i_str_str, i_str_list, i_str_tuple, i_lst_bool, i_lst_int, i_lst_str, i_lst_list, i_lst_tuple, i_tup_bool, i_tup_int, i_tup_str, i_tup_list, i_tup_tuple, ev_appB, Int.reduceAbs, Nat.reduceLT, Nat.reduceLeDiff, Int.reduceLT, Int.reduceLE, Int.reduceEq, Int.reduceNe, Int.reduceAdd, Int.reduceSub, Int.reduceMul, Int.reduceNeg, Int.reduceMod, Int.reduceDiv, Nat.reduceAdd, Nat.reduceSub, Nat.reduceMul, Nat.reduceEqDiff, Int.reduceToNat, Nat.reduceGT, Int.reduceGT, Int.reduceGE, Nat.reduceMod, Nat.reduceDiv, Nat.reduceBEq, Nat.reduceBNe, Int.reduceBEq, Int.reduceBNe, appK_last, appK_mid, ev_sb, sbK_at, ev_gcons, ev_gnil, hc, all_true]
      exact ⟨_, rfl⟩
theorem pl_strs (n : Nat) (ps : List (List Nat)) (h : ps.length ≤ 1000000) : Pl (n + 1) (.lst (ps.map D.str)) := .lst (by rw [List.length_map]; exact h) fun x hx => by
  obtain ⟨p, _, rfl⟩ := List.mem_map.mp hx
  exact .str
theorem pl_good (ps : List (List Nat)) (h : ps.length ≤ 1000000) : Pl 3 (.tup [.str [103, 111, 111, 100], .lst (ps.map D.str), .bl true]) := .tup (by simp) fun x hx => by
  simp only [List.mem_cons, List.not_mem_nil, or_false] at hx
  rcases hx with rfl | rfl | rfl
  · exact .str
  · exact pl_strs 1 ps h
  · exact .bl
theorem pl_due (l : List Nat) (hl : l.length ≤ 999999) : Pl 3 (dueD l) := by
  have := parts_sum l
  have hp := List.length_pos_iff.mpr (parts_ne l)
  unfold dueD
  split
  · refine pl_good _ ?_
    have h2 : ∀ p ∈ parts l, 0 ≤ p.length := fun _ _ => Nat.zero_le _
    omega
  · refine .tup (by simp) fun x hx => ?_
    simp only [List.mem_cons, List.not_mem_nil, or_false] at hx
    rcases hx with rfl | rfl | rfl
    · exact .str
    · exact .str
    · exact .bl

/-! the law -/
theorem sum_le : ∀ {ps : List (List Nat)} {n : Nat}, (∀ p ∈ ps, p.length = n) → (ps.map List.length).sum = ps.length * n
  | [], n, _ => by simp
  | p :: ps, n, h => by
    rw [List.map_cons, List.sum_cons, sum_le fun q hq => h q (List.mem_cons_of_mem _ hq), h p List.mem_cons_self, List.length_cons, Nat.add_mul]
    omega
theorem join_len : ∀ ps : List (List Nat), (TL.joinL [47] ps).length ≤ (ps.map List.length).sum + ps.length
  | [] => by simp [TL.joinL]
  | p :: ps => by
    cases ps with
    | nil => simp [TL.joinL]
    | cons q r =>
      rw [join_cons (by simp)]
      have := join_len (q :: r)
      simp only [List.length_append, List.length_cons, List.map_cons, List.sum_cons] at this ⊢
      omega
theorem LinesC.facts {w h : Nat} {ls : List (List Nat)} (hL : LinesC w h ls) (hw : w ≤ 60) (hh : h ≤ 36) : parts (TL.joinL [47] ls) = ls ∧ allP ls = true ∧ (TL.joinL [47] ls).length ≤ 3000 ∧ (ls.map List.length).sum + ls.length * 1 ≤ 16777216 ∧ ls.length ≤ 36 := by
  obtain ⟨h1, h2, n, h3, h4, h5⟩ := hL
  have hne : ls ≠ [] := fun e => by subst e; simp at h1
  have hs := sum_le fun p hp => (h5 p hp).1
  have hm : ls.length * n ≤ 36 * 60 := Nat.mul_le_mul (by omega) (by omega)
  have hj := join_len ls
  refine ⟨TL.spl_join hne fun p hp hc => ?_, ?_, by omega, by omega, by omega⟩
  · rcases (h5 p hp).2.ch _ hc with h | h <;> cases h
  · unfold allP
    obtain ⟨p0, _, gh, gm⟩ := head_get hne
    rw [gh, List.all_eq_true]
    intro d hd
    obtain ⟨p, hp, rfl⟩ := List.mem_map.mp hd
    simp only [okP, Bool.and_eq_true, decide_eq_true_eq]
    exact ⟨(rowB_iff p).mpr (h5 p hp).2, by rw [(h5 p hp).1, (h5 p0 gm).1]⟩
theorem lines_c (T : Ads) (ns : List Int) : ∃ ls, LinesC 60 36 ls ∧ ∃ x, dIfS (dTst (dOp eqD (dOp idxD (dCall (d__law_draws T) (dCons (dV 0) (dCons (dC (.int 1)) (dCons (dData (dLst (dCons (dC (.int 3)) dNil))) dNil)))) (dC (.int 0))) (dC (.int 1)))) (dAsg (dCall (d__law_large T) (dCons (dV 0) (dCons (dC (.int 0)) dNil))) (gN 1)) dSkip
      [some (.scr ns), some x, none, none, none] [] = some (.nx, [some (.scr ns), some (.lst (ls.map D.str)), none, none, none], []) ∧ d__law_lines T [.scr ns, .int 0, .int 6, .int 6] [] = some (.ret x, []) := by
  obtain ⟨l0, e0, h0⟩ := m__law_lines T ns 0 6 6 [] (by decide) (by decide) (by decide) (by decide)
  have e0 : d__law_lines T [.scr ns, .int 0, .int 6, .int 6] [] = some (.ret (.lst (l0.map D.str)), []) := e0
  have hpos : ∀ l ∈ ([3] : List Int), 0 < l ∧ l < 18446744073709551616 := by decide
  have hdraw : d__law_draws T [.scr ns, .int 1, .lst [.int 3]] [] = _ := m__law_draws T ns 1 [3] [] hpos (by decide)
  obtain ⟨d0, g0, p0, q0⟩ := draws_get ns 1 (lims := [3]) (fun l h => (hpos l h).1) (i := 0) rfl
  generalize drawsF ns 1 [3] = dr at hdraw g0
  have hat0 : atI (dr.map D.int) 0 = some (.int d0) := at_nat (n := 0) (by rw [List.getElem?_map, g0]; rfl)
  have h0' : LinesC 60 36 l0 := by
    obtain ⟨a, b, n, c, d, e⟩ := h0.c
    exact ⟨a, by omega, n, c, by omega, e⟩
  obtain ⟨l1, e1, h1⟩ := m__law_large T ns [] (fun c hc => by cases hc)
  rw [e0]
  generalize d__law_draws T = dd at hdraw
  generalize d__law_large T = dl at e1
  by_cases hd : d0 = 1
  · exact ⟨l1, h1, .lst (l0.map D.str), by simp -implicitDefEqProofs (maxSteps := 1000000) only [ev_seq, seqK_nx, seqK_rt, seqK_ex, seqK_bk, seqK_ct, ev_skip, ev_brk, ev_cont, ev_asg, ev_gN, ev_if, ev_ret, ev_expr, ev_raise, ev_new, ev_par, parK_ev, ev_tst, tstK_bl, ev_tru, ev_andT, ev_orT, ev_notT, ev_andE, ev_orE, ev_notE, ev_ifE, ev_V, varK_ev, ev_C, ev_op, ev_opF, ev_nil, ev_cons, ev_data, ev_lst, ev_tup, ev_CB, ev_CBF, ev_call, outK_ev, ev_neg, negK_ev, ev_so, soK_ev, ev_no, ev_slc, ev_slcF, fz_non, fz_bl, fz_int, fz_str, fz_scr, fz_lst, fz_tup, fz_obj, fz_exn, fz_last, fz_mid, fz_lastI, fz_lastF, vw_non, vw_bl, vw_int, vw_str, vw_scr, vw_lst, vw_tup, vw_obj, vw_ty, vw_cls, vw_exn, vw_last, vw_mid, vw_lastI, vw_lastF, st_last, st_set, st_take, st_mid, st_mset, st_mtake, add_int, add_str, add_lst, addL_lst, sub_int, mul_r, mul_l, mul_str, mul_lst, mulL_lst, div_int, mod_int, pow_18, pow_60, lt_int, le_int, gt_int, ge_int, eq_int, eq_str, ne_int, ne_str, eq_bl, isN_non, isN_tup, isN_lst, isN_str, isN_int, isN_bl, len_str, len_lst, len_tup, len_scr, int_int, max_int, min_int, tru_bl, tru_non, tru_int, tru_str, tru_lst, ix_lst, ix_tup, ix_scr, ix_str, Option.map_some, Option.map_none, slc_str, slc_lst, Option.bind_some, Option.bind_none, List.getElem?_cons_zero, List.getElem?_cons_succ, List.set_cons_zero, List.set_cons_succ, List.map_cons, List.map_nil, if_true, if_false, ite_true, ite_false, Bool.false_eq_true, decide_true, decide_false, Bool.not_true, Bool.not_false, reduceIte, sl_eq, eq_self, Nat.zero_le, List.length_cons, List.length_nil, List.length_map, ite_self, Int.natAbs_natCast, isObj_ev, ev_fld, fldK_obj, getF_hit, ev_prop, ev_own, ok_bl, ok_obj, list_lst, iso_ev, ev_asgX, asgX_ret, asgX_exc, ev_callX, i_non_bool, i_non_int, i_non_str, i_non_list, i_non_tuple, i_bl_bool, i_bl_int, i_bl_str, i_bl_list, i_bl_tuple, i_int_bool, i_int_int, i_int_str, i_int_list, i_int_tuple, i_str_bool, i_str_int, i_str_str, i_str_list, i_str_tuple, i_lst_bool, i_lst_int, i_lst_str, i_lst_list, i_lst_tuple, i_tup_bool, i_tup_int, i_tup_str, i_tup_list, i_tup_tuple, ev_appB, Int.reduceAbs, Nat.reduceLT, Nat.reduceLeDiff, Int.reduceLT, Int.reduceLE, Int.reduceEq, Int.reduceNe, Int.reduceAdd, Int.reduceSub, Int.reduceMul, Int.reduceNeg, Int.reduceMod, Int.reduceDiv, Nat.reduceAdd, Nat.reduceSub, Nat.reduceMul, Nat.reduceEqDiff, Int.reduceToNat, Nat.reduceGT, Int.reduceGT, Int.reduceGE, Nat.reduceMod, Nat.reduceDiv, Nat.reduceBEq, Nat.reduceBNe, Int.reduceBEq, Int.reduceBNe, appK_last, appK_mid, ev_sb, sbK_at, ev_gcons, ev_gnil, hdraw, hat0, hd, e1], rfl⟩
  · exact ⟨l0, h0', .lst (l0.map D.str), by simp -implicitDefEqProofs (maxSteps := 1000000) only [ev_seq, seqK_nx, seqK_rt, seqK_ex, seqK_bk, seqK_ct, ev_skip, ev_brk, ev_cont, ev_asg, ev_gN, ev_if, ev_ret, ev_expr, ev_raise, ev_new, ev_par, parK_ev, ev_tst, tstK_bl, ev_tru, ev_andT, ev_orT, ev_notT, ev_andE, ev_orE, ev_notE, ev_ifE, ev_V, varK_ev, ev_C, ev_op, ev_opF, ev_nil, ev_cons, ev_data, ev_lst, ev_tup, ev_CB, ev_CBF, ev_call, outK_ev, ev_neg, negK_ev, ev_so, soK_ev, ev_no, ev_slc, ev_slcF, fz_non, fz_bl, fz_int, fz_str, fz_scr, fz_lst, fz_tup, fz_obj, fz_exn, fz_last, fz_mid, fz_lastI, fz_lastF, vw_non, vw_bl, vw_int, vw_str, vw_scr, vw_lst, vw_tup, vw_obj, vw_ty, vw_cls, vw_exn, vw_last, vw_mid, vw_lastI, vw_lastF, st_last, st_set, st_take, st_mid, st_mset, st_mtake, add_int, add_str, add_lst, addL_lst, sub_int, mul_r, mul_l, mul_str, mul_lst, mulL_lst, div_int, mod_int, pow_18, pow_60, lt_int, le_int, gt_int, ge_int, eq_int, eq_str, ne_int, ne_str, eq_bl, isN_non, isN_tup, isN_lst, isN_str, isN_int, isN_bl, len_str, len_lst, len_tup, len_scr, int_int, max_int, min_int, tru_bl, tru_non, tru_int, tru_str, tru_lst, ix_lst, ix_tup, ix_scr, ix_str, Option.map_some, Option.map_none, slc_str, slc_lst, Option.bind_some, Option.bind_none, List.getElem?_cons_zero, List.getElem?_cons_succ, List.set_cons_zero, List.set_cons_succ, List.map_cons, List.map_nil, if_true, if_false, ite_true, ite_false, Bool.false_eq_true, decide_true, decide_false, Bool.not_true, Bool.not_false, reduceIte, sl_eq, eq_self, Nat.zero_le, List.length_cons, List.length_nil, List.length_map, ite_self, Int.natAbs_natCast, isObj_ev, ev_fld, fldK_obj, getF_hit, ev_prop, ev_own, ok_bl, ok_obj, list_lst, iso_ev, ev_asgX, asgX_ret, asgX_exc, ev_callX, i_non_bool, i_non_int, i_non_str, i_non_list, i_non_tuple, i_bl_bool, i_bl_int, i_bl_str, i_bl_list, i_bl_tuple, i_int_bool, i_int_int, i_int_str, i_int_list, i_int_tuple, i_str_bool, i_str_int, i_str_str, i_str_list, i_str_tuple, i_lst_bool, i_lst_int, i_lst_str, i_lst_list, i_lst_tuple, i_tup_bool, i_tup_int, i_tup_str, i_tup_list, i_tup_tuple, ev_appB, Int.reduceAbs, Nat.reduceLT, Nat.reduceLeDiff, Int.reduceLT, Int.reduceLE, Int.reduceEq, Int.reduceNe, Int.reduceAdd, Int.reduceSub, Int.reduceMul, Int.reduceNeg, Int.reduceMod, Int.reduceDiv, Nat.reduceAdd, Nat.reduceSub, Nat.reduceMul, Nat.reduceEqDiff, Int.reduceToNat, Nat.reduceGT, Int.reduceGT, Int.reduceGE, Nat.reduceMod, Nat.reduceDiv, Nat.reduceBEq, Nat.reduceBNe, Int.reduceBEq, Int.reduceBNe, appK_last, appK_mid, ev_sb, sbK_at, ev_gcons, ev_gnil, hdraw, hat0, hd], rfl⟩
def laI (ns : List Int) (ls : List (List Nat)) (env : DEnv) (s' : Sto) : Prop := ∃ x y, env = [some (.scr ns), some (.lst (ls.map D.str)), some (.str (TL.joinL [47] ls)), x, y] ∧ [] = s'
theorem law_true (T : Ads) (ns : List Int) (_ : ns.length ≤ 63) : d_law T [.scr ns] [] = some (.ret (.bl true), []) := by
  obtain ⟨ls, hL, x, e1, e0⟩ := lines_c T ns
  obtain ⟨f1, f2, f3, f4, f5⟩ := hL.facts (Nat.le_refl _) (Nat.le_refl _)
  have hgood : dueD (TL.joinL [47] ls) = .tup [.str [103, 111, 111, 100], .lst (ls.map D.str), .bl true] := by
    unfold dueD
    rw [f1, if_pos f2]
  refine ev_funE (r := .bl true) rfl ?_ (take_self []) rfl
  simp only [env0, List.map_cons, List.map_nil, List.length_cons, List.length_nil, List.replicate_succ, List.replicate_zero, List.cons_append, List.nil_append, Nat.reduceAdd, Nat.reduceSub]
  rw [ev_seq]
  have first : dAsg (dCall (d__law_lines T) (dCons (dV 0) (dCons (dC (.int 0)) (dCons (dC (.int 6)) (dCons (dC (.int 6)) dNil))))) (gN 1) [some (.scr ns), none, none, none, none] [] = some (.nx, [some (.scr ns), some x, none, none, none], []) := by
    generalize d__law_lines T = dl at e0
    simp -implicitDefEqProofs (maxSteps := 1000000) only [ev_seq, seqK_nx, seqK_rt, seqK_ex, seqK_bk, seqK_ct, ev_skip, ev_brk, ev_cont, ev_asg, ev_gN, ev_if, ev_ret, ev_expr, ev_raise, ev_new, ev_par, parK_ev, ev_tst, tstK_bl, ev_tru, ev_andT, ev_orT, ev_notT, ev_andE, ev_orE, ev_notE, ev_ifE, ev_V, varK_ev, ev_C, ev_op, ev_opF, ev_nil, ev_cons, ev_data, ev_lst, ev_tup, ev_CB, ev_CBF, ev_call, outK_ev, ev_neg, negK_ev, ev_so, soK_ev, ev_no, ev_slc, ev_slcF, fz_non, fz_bl, fz_int, fz_str, fz_scr, fz_lst, fz_tup, fz_obj, fz_exn, fz_last, fz_mid, fz_lastI, fz_lastF, vw_non, vw_bl, vw_int, vw_str, vw_scr, vw_lst, vw_tup, vw_obj, vw_ty, vw_cls, vw_exn, vw_last, vw_mid, vw_lastI, vw_lastF, st_last, st_set, st_take, st_mid, st_mset, st_mtake, add_int, add_str, add_lst, addL_lst, sub_int, mul_r, mul_l, mul_str, mul_lst, mulL_lst, div_int, mod_int, pow_18, pow_60, lt_int, le_int, gt_int, ge_int, eq_int, eq_str, ne_int, ne_str, eq_bl, isN_non, isN_tup, isN_lst, isN_str, isN_int, isN_bl, len_str, len_lst, len_tup, len_scr, int_int, max_int, min_int, tru_bl, tru_non, tru_int, tru_str, tru_lst, ix_lst, ix_tup, ix_scr, ix_str, Option.map_some, Option.map_none, slc_str, slc_lst, Option.bind_some, Option.bind_none, List.getElem?_cons_zero, List.getElem?_cons_succ, List.set_cons_zero, List.set_cons_succ, List.map_cons, List.map_nil, if_true, if_false, ite_true, ite_false, Bool.false_eq_true, decide_true, decide_false, Bool.not_true, Bool.not_false, reduceIte, sl_eq, eq_self, Nat.zero_le, List.length_cons, List.length_nil, List.length_map, ite_self, Int.natAbs_natCast, isObj_ev, ev_fld, fldK_obj, getF_hit, ev_prop, ev_own, ok_bl, ok_obj, list_lst, iso_ev, ev_asgX, asgX_ret, asgX_exc, ev_callX, i_non_bool, i_non_int, i_non_str, i_non_list, i_non_tuple, i_bl_bool, i_bl_int, i_bl_str, i_bl_list, i_bl_tuple, i_int_bool, i_int_int, i_int_str, i_int_list, i_int_tuple, i_str_bool, i_str_int, i_str_str, i_str_list, i_str_tuple, i_lst_bool, i_lst_int, i_lst_str, i_lst_list, i_lst_tuple, i_tup_bool, i_tup_int, i_tup_str, i_tup_list, i_tup_tuple, ev_appB, Int.reduceAbs, Nat.reduceLT, Nat.reduceLeDiff, Int.reduceLT, Int.reduceLE, Int.reduceEq, Int.reduceNe, Int.reduceAdd, Int.reduceSub, Int.reduceMul, Int.reduceNeg, Int.reduceMod, Int.reduceDiv, Nat.reduceAdd, Nat.reduceSub, Nat.reduceMul, Nat.reduceEqDiff, Int.reduceToNat, Nat.reduceGT, Int.reduceGT, Int.reduceGE, Nat.reduceMod, Nat.reduceDiv, Nat.reduceBEq, Nat.reduceBNe, Int.reduceBEq, Int.reduceBNe, appK_last, appK_mid, ev_sb, sbK_at, ev_gcons, ev_gnil, e0]
  rw [first]
  simp only [Option.bind_some, seqK_nx]
  rw [ev_seq, e1]
  simp only [Option.bind_some, seqK_nx]
  rw [ev_seq, ev_asg, ev_M1 (x := [47]) (y := .lst (ls.map D.str)) (s1 := []) (s2 := []) (by simp -implicitDefEqProofs (maxSteps := 1000000) only [ev_seq, seqK_nx, seqK_rt, seqK_ex, seqK_bk, seqK_ct, ev_skip, ev_brk, ev_cont, ev_asg, ev_gN, ev_if, ev_ret, ev_expr, ev_raise, ev_new, ev_par, parK_ev, ev_tst, tstK_bl, ev_tru, ev_andT, ev_orT, ev_notT, ev_andE, ev_orE, ev_notE, ev_ifE, ev_V, varK_ev, ev_C, ev_op, ev_opF, ev_nil, ev_cons, ev_data, ev_lst, ev_tup, ev_CB, ev_CBF, ev_call, outK_ev, ev_neg, negK_ev, ev_so, soK_ev, ev_no, ev_slc, ev_slcF, fz_non, fz_bl, fz_int, fz_str, fz_scr, fz_lst, fz_tup, fz_obj, fz_exn, fz_last, fz_mid, fz_lastI, fz_lastF, vw_non, vw_bl, vw_int, vw_str, vw_scr, vw_lst, vw_tup, vw_obj, vw_ty, vw_cls, vw_exn, vw_last, vw_mid, vw_lastI, vw_lastF, st_last, st_set, st_take, st_mid, st_mset, st_mtake, add_int, add_str, add_lst, addL_lst, sub_int, mul_r, mul_l, mul_str, mul_lst, mulL_lst, div_int, mod_int, pow_18, pow_60, lt_int, le_int, gt_int, ge_int, eq_int, eq_str, ne_int, ne_str, eq_bl, isN_non, isN_tup, isN_lst, isN_str, isN_int, isN_bl, len_str, len_lst, len_tup, len_scr, int_int, max_int, min_int, tru_bl, tru_non, tru_int, tru_str, tru_lst, ix_lst, ix_tup, ix_scr, ix_str, Option.map_some, Option.map_none, slc_str, slc_lst, Option.bind_some, Option.bind_none, List.getElem?_cons_zero, List.getElem?_cons_succ, List.set_cons_zero, List.set_cons_succ, List.map_cons, List.map_nil, if_true, if_false, ite_true, ite_false, Bool.false_eq_true, decide_true, decide_false, Bool.not_true, Bool.not_false, reduceIte, sl_eq, eq_self, Nat.zero_le, List.length_cons, List.length_nil, List.length_map, ite_self, Int.natAbs_natCast, isObj_ev, ev_fld, fldK_obj, getF_hit, ev_prop, ev_own, ok_bl, ok_obj, list_lst, iso_ev, ev_asgX, asgX_ret, asgX_exc, ev_callX, i_non_bool, i_non_int, i_non_str, i_non_list, i_non_tuple, i_bl_bool, i_bl_int, i_bl_str, i_bl_list, i_bl_tuple, i_int_bool, i_int_int, i_int_str, i_int_list, i_int_tuple, i_str_bool, i_str_int, i_str_str, i_str_list, i_str_tuple, i_lst_bool, i_lst_int, i_lst_str, i_lst_list, i_lst_tuple, i_tup_bool, i_tup_int, i_tup_str, i_tup_list, i_tup_tuple, ev_appB, Int.reduceAbs, Nat.reduceLT, Nat.reduceLeDiff, Int.reduceLT, Int.reduceLE, Int.reduceEq, Int.reduceNe, Int.reduceAdd, Int.reduceSub, Int.reduceMul, Int.reduceNeg, Int.reduceMod, Int.reduceDiv, Nat.reduceAdd, Nat.reduceSub, Nat.reduceMul, Nat.reduceEqDiff, Int.reduceToNat, Nat.reduceGT, Int.reduceGT, Int.reduceGE, Nat.reduceMod, Nat.reduceDiv, Nat.reduceBEq, Nat.reduceBNe, Int.reduceBEq, Int.reduceBNe, appK_last, appK_mid, ev_sb, sbK_at, ev_gcons, ev_gnil]) (by simp -implicitDefEqProofs (maxSteps := 1000000) only [ev_seq, seqK_nx, seqK_rt, seqK_ex, seqK_bk, seqK_ct, ev_skip, ev_brk, ev_cont, ev_asg, ev_gN, ev_if, ev_ret, ev_expr, ev_raise, ev_new, ev_par, parK_ev, ev_tst, tstK_bl, ev_tru, ev_andT, ev_orT, ev_notT, ev_andE, ev_orE, ev_notE, ev_ifE, ev_V, varK_ev, ev_C, ev_op, ev_opF, ev_nil, ev_cons, ev_data, ev_lst, ev_tup, ev_CB, ev_CBF, ev_call, outK_ev, ev_neg, negK_ev, ev_so, soK_ev, ev_no, ev_slc, ev_slcF, fz_non, fz_bl, fz_int, fz_str, fz_scr, fz_lst, fz_tup, fz_obj, fz_exn, fz_last, fz_mid, fz_lastI, fz_lastF, vw_non, vw_bl, vw_int, vw_str, vw_scr, vw_lst, vw_tup, vw_obj, vw_ty, vw_cls, vw_exn, vw_last, vw_mid, vw_lastI, vw_lastF, st_last, st_set, st_take, st_mid, st_mset, st_mtake, add_int, add_str, add_lst, addL_lst, sub_int, mul_r, mul_l, mul_str, mul_lst, mulL_lst, div_int, mod_int, pow_18, pow_60, lt_int, le_int, gt_int, ge_int, eq_int, eq_str, ne_int, ne_str, eq_bl, isN_non, isN_tup, isN_lst, isN_str, isN_int, isN_bl, len_str, len_lst, len_tup, len_scr, int_int, max_int, min_int, tru_bl, tru_non, tru_int, tru_str, tru_lst, ix_lst, ix_tup, ix_scr, ix_str, Option.map_some, Option.map_none, slc_str, slc_lst, Option.bind_some, Option.bind_none, List.getElem?_cons_zero, List.getElem?_cons_succ, List.set_cons_zero, List.set_cons_succ, List.map_cons, List.map_nil, if_true, if_false, ite_true, ite_false, Bool.false_eq_true, decide_true, decide_false, Bool.not_true, Bool.not_false, reduceIte, sl_eq, eq_self, Nat.zero_le, List.length_cons, List.length_nil, List.length_map, ite_self, Int.natAbs_natCast, isObj_ev, ev_fld, fldK_obj, getF_hit, ev_prop, ev_own, ok_bl, ok_obj, list_lst, iso_ev, ev_asgX, asgX_ret, asgX_exc, ev_callX, i_non_bool, i_non_int, i_non_str, i_non_list, i_non_tuple, i_bl_bool, i_bl_int, i_bl_str, i_bl_list, i_bl_tuple, i_int_bool, i_int_int, i_int_str, i_int_list, i_int_tuple, i_str_bool, i_str_int, i_str_str, i_str_list, i_str_tuple, i_lst_bool, i_lst_int, i_lst_str, i_lst_list, i_lst_tuple, i_tup_bool, i_tup_int, i_tup_str, i_tup_list, i_tup_tuple, ev_appB, Int.reduceAbs, Nat.reduceLT, Nat.reduceLeDiff, Int.reduceLT, Int.reduceLE, Int.reduceEq, Int.reduceNe, Int.reduceAdd, Int.reduceSub, Int.reduceMul, Int.reduceNeg, Int.reduceMod, Int.reduceDiv, Nat.reduceAdd, Nat.reduceSub, Nat.reduceMul, Nat.reduceEqDiff, Int.reduceToNat, Nat.reduceGT, Int.reduceGT, Int.reduceGE, Nat.reduceMod, Nat.reduceDiv, Nat.reduceBEq, Nat.reduceBNe, Int.reduceBEq, Int.reduceBNe, appK_last, appK_mid, ev_sb, sbK_at, ev_gcons, ev_gnil]), vw_lst, join_47 f4]
  simp -implicitDefEqProofs (maxSteps := 1000000) only [ev_seq, seqK_nx, seqK_rt, seqK_ex, seqK_bk, seqK_ct, ev_skip, ev_brk, ev_cont, ev_asg, ev_gN, ev_if, ev_ret, ev_expr, ev_raise, ev_new, ev_par, parK_ev, ev_tst, tstK_bl, ev_tru, ev_andT, ev_orT, ev_notT, ev_andE, ev_orE, ev_notE, ev_ifE, ev_V, varK_ev, ev_C, ev_op, ev_opF, ev_nil, ev_cons, ev_data, ev_lst, ev_tup, ev_CB, ev_CBF, ev_call, outK_ev, ev_neg, negK_ev, ev_so, soK_ev, ev_no, ev_slc, ev_slcF, fz_non, fz_bl, fz_int, fz_str, fz_scr, fz_lst, fz_tup, fz_obj, fz_exn, fz_last, fz_mid, fz_lastI, fz_lastF, vw_non, vw_bl, vw_int, vw_str, vw_scr, vw_lst, vw_tup, vw_obj, vw_ty, vw_cls, vw_exn, vw_last, vw_mid, vw_lastI, vw_lastF, st_last, st_set, st_take, st_mid, st_mset, st_mtake, add_int, add_str, add_lst, addL_lst, sub_int, mul_r, mul_l, mul_str, mul_lst, mulL_lst, div_int, mod_int, pow_18, pow_60, lt_int, le_int, gt_int, ge_int, eq_int, eq_str, ne_int, ne_str, eq_bl, isN_non, isN_tup, isN_lst, isN_str, isN_int, isN_bl, len_str, len_lst, len_tup, len_scr, int_int, max_int, min_int, tru_bl, tru_non, tru_int, tru_str, tru_lst, ix_lst, ix_tup, ix_scr, ix_str, Option.map_some, Option.map_none, slc_str, slc_lst, Option.bind_some, Option.bind_none, List.getElem?_cons_zero, List.getElem?_cons_succ, List.set_cons_zero, List.set_cons_succ, List.map_cons, List.map_nil, if_true, if_false, ite_true, ite_false, Bool.false_eq_true, decide_true, decide_false, Bool.not_true, Bool.not_false, reduceIte, sl_eq, eq_self, Nat.zero_le, List.length_cons, List.length_nil, List.length_map, ite_self, Int.natAbs_natCast, isObj_ev, ev_fld, fldK_obj, getF_hit, ev_prop, ev_own, ok_bl, ok_obj, list_lst, iso_ev, ev_asgX, asgX_ret, asgX_exc, ev_callX, i_non_bool, i_non_int, i_non_str, i_non_list, i_non_tuple, i_bl_bool, i_bl_int, i_bl_str, i_bl_list, i_bl_tuple, i_int_bool, i_int_int, i_int_str, i_int_list, i_int_tuple, i_str_bool, i_str_int, i_str_str, i_str_list, i_str_tuple, i_lst_bool, i_lst_int, i_lst_str, i_lst_list, i_lst_tuple, i_tup_bool, i_tup_int, i_tup_str, i_tup_list, i_tup_tuple, ev_appB, Int.reduceAbs, Nat.reduceLT, Nat.reduceLeDiff, Int.reduceLT, Int.reduceLE, Int.reduceEq, Int.reduceNe, Int.reduceAdd, Int.reduceSub, Int.reduceMul, Int.reduceNeg, Int.reduceMod, Int.reduceDiv, Nat.reduceAdd, Nat.reduceSub, Nat.reduceMul, Nat.reduceEqDiff, Int.reduceToNat, Nat.reduceGT, Int.reduceGT, Int.reduceGE, Nat.reduceMod, Nat.reduceDiv, Nat.reduceBEq, Nat.reduceBNe, Int.reduceBEq, Int.reduceBNe, appK_last, appK_mid, ev_sb, sbK_at, ev_gcons, ev_gnil]
  have hmin : ∃ m : Nat, (if (if (12 : Int) < (ns.length : Int) then 12 else (ns.length : Int)) > 3 then (if (12 : Int) < (ns.length : Int) then 12 else (ns.length : Int)) else 3) = (m : Int) ∧ m ≤ 12 := by
    by_cases h1 : (12 : Int) < (ns.length : Int)
    · rw [if_pos h1, if_pos (by decide)]
      exact ⟨12, rfl, Nat.le_refl _⟩
    · rw [if_neg h1]
      by_cases h2 : (ns.length : Int) > 3
      · rw [if_pos h2]
        exact ⟨ns.length, rfl, by omega⟩
      · rw [if_neg h2]
        exact ⟨3, rfl, by omega⟩
  obtain ⟨m, hm, hm2⟩ := hmin
  have hsrc : iR2 (dC (.int 2)) (dCB max2G (dCons (dC (.int 3)) (dCons (dCB min2G (dCons (dCB lenG (dCons (dV 0) dNil)) (dCons (dC (.int 12)) dNil))) dNil))) [some (.scr ns), some (.lst (ls.map D.str)), some (.str (TL.joinL [47] ls)), none, none] [] = some (rangeL 2 ((m : Int) - 2).toNat, none, []) := by
    refine ev_R2 (s1 := []) (by simp -implicitDefEqProofs (maxSteps := 1000000) only [ev_seq, seqK_nx, seqK_rt, seqK_ex, seqK_bk, seqK_ct, ev_skip, ev_brk, ev_cont, ev_asg, ev_gN, ev_if, ev_ret, ev_expr, ev_raise, ev_new, ev_par, parK_ev, ev_tst, tstK_bl, ev_tru, ev_andT, ev_orT, ev_notT, ev_andE, ev_orE, ev_notE, ev_ifE, ev_V, varK_ev, ev_C, ev_op, ev_opF, ev_nil, ev_cons, ev_data, ev_lst, ev_tup, ev_CB, ev_CBF, ev_call, outK_ev, ev_neg, negK_ev, ev_so, soK_ev, ev_no, ev_slc, ev_slcF, fz_non, fz_bl, fz_int, fz_str, fz_scr, fz_lst, fz_tup, fz_obj, fz_exn, fz_last, fz_mid, fz_lastI, fz_lastF, vw_non, vw_bl, vw_int, vw_str, vw_scr, vw_lst, vw_tup, vw_obj, vw_ty, vw_cls, vw_exn, vw_last, vw_mid, vw_lastI, vw_lastF, st_last, st_set, st_take, st_mid, st_mset, st_mtake, add_int, add_str, add_lst, addL_lst, sub_int, mul_r, mul_l, mul_str, mul_lst, mulL_lst, div_int, mod_int, pow_18, pow_60, lt_int, le_int, gt_int, ge_int, eq_int, eq_str, ne_int, ne_str, eq_bl, isN_non, isN_tup, isN_lst, isN_str, isN_int, isN_bl, len_str, len_lst, len_tup, len_scr, int_int, max_int, min_int, tru_bl, tru_non, tru_int, tru_str, tru_lst, ix_lst, ix_tup, ix_scr, ix_str, Option.map_some, Option.map_none, slc_str, slc_lst, Option.bind_some, Option.bind_none, List.getElem?_cons_zero, List.getElem?_cons_succ, List.set_cons_zero, List.set_cons_succ, List.map_cons, List.map_nil, if_true, if_false, ite_true, ite_false, Bool.false_eq_true, decide_true, decide_false, Bool.not_true, Bool.not_false, reduceIte, sl_eq, eq_self, Nat.zero_le, List.length_cons, List.length_nil, List.length_map, ite_self, Int.natAbs_natCast, isObj_ev, ev_fld, fldK_obj, getF_hit, ev_prop, ev_own, ok_bl, ok_obj, list_lst, iso_ev, ev_asgX, asgX_ret, asgX_exc, ev_callX, i_non_bool, i_non_int, i_non_str, i_non_list, i_non_tuple, i_bl_bool, i_bl_int, i_bl_str, i_bl_list, i_bl_tuple, i_int_bool, i_int_int, i_int_str, i_int_list, i_int_tuple, i_str_bool, i_str_int, i_str_str, i_str_list, i_str_tuple, i_lst_bool, i_lst_int, i_lst_str, i_lst_list, i_lst_tuple, i_tup_bool, i_tup_int, i_tup_str, i_tup_list, i_tup_tuple, ev_appB, Int.reduceAbs, Nat.reduceLT, Nat.reduceLeDiff, Int.reduceLT, Int.reduceLE, Int.reduceEq, Int.reduceNe, Int.reduceAdd, Int.reduceSub, Int.reduceMul, Int.reduceNeg, Int.reduceMod, Int.reduceDiv, Nat.reduceAdd, Nat.reduceSub, Nat.reduceMul, Nat.reduceEqDiff, Int.reduceToNat, Nat.reduceGT, Int.reduceGT, Int.reduceGE, Nat.reduceMod, Nat.reduceDiv, Nat.reduceBEq, Nat.reduceBNe, Int.reduceBEq, Int.reduceBNe, appK_last, appK_mid, ev_sb, sbK_at, ev_gcons, ev_gnil]) ?_ (by omega) (by omega) (by omega) (by omega)
    simp -implicitDefEqProofs (maxSteps := 1000000) only [ev_seq, seqK_nx, seqK_rt, seqK_ex, seqK_bk, seqK_ct, ev_skip, ev_brk, ev_cont, ev_asg, ev_gN, ev_if, ev_ret, ev_expr, ev_raise, ev_new, ev_par, parK_ev, ev_tst, tstK_bl, ev_tru, ev_andT, ev_orT, ev_notT, ev_andE, ev_orE, ev_notE, ev_ifE, ev_V, varK_ev, ev_C, ev_op, ev_opF, ev_nil, ev_cons, ev_data, ev_lst, ev_tup, ev_CB, ev_CBF, ev_call, outK_ev, ev_neg, negK_ev, ev_so, soK_ev, ev_no, ev_slc, ev_slcF, fz_non, fz_bl, fz_int, fz_str, fz_scr, fz_lst, fz_tup, fz_obj, fz_exn, fz_last, fz_mid, fz_lastI, fz_lastF, vw_non, vw_bl, vw_int, vw_str, vw_scr, vw_lst, vw_tup, vw_obj, vw_ty, vw_cls, vw_exn, vw_last, vw_mid, vw_lastI, vw_lastF, st_last, st_set, st_take, st_mid, st_mset, st_mtake, add_int, add_str, add_lst, addL_lst, sub_int, mul_r, mul_l, mul_str, mul_lst, mulL_lst, div_int, mod_int, pow_18, pow_60, lt_int, le_int, gt_int, ge_int, eq_int, eq_str, ne_int, ne_str, eq_bl, isN_non, isN_tup, isN_lst, isN_str, isN_int, isN_bl, len_str, len_lst, len_tup, len_scr, int_int, max_int, min_int, tru_bl, tru_non, tru_int, tru_str, tru_lst, ix_lst, ix_tup, ix_scr, ix_str, Option.map_some, Option.map_none, slc_str, slc_lst, Option.bind_some, Option.bind_none, List.getElem?_cons_zero, List.getElem?_cons_succ, List.set_cons_zero, List.set_cons_succ, List.map_cons, List.map_nil, if_true, if_false, ite_true, ite_false, Bool.false_eq_true, decide_true, decide_false, Bool.not_true, Bool.not_false, reduceIte, sl_eq, eq_self, Nat.zero_le, List.length_cons, List.length_nil, List.length_map, ite_self, Int.natAbs_natCast, isObj_ev, ev_fld, fldK_obj, getF_hit, ev_prop, ev_own, ok_bl, ok_obj, list_lst, iso_ev, ev_asgX, asgX_ret, asgX_exc, ev_callX, i_non_bool, i_non_int, i_non_str, i_non_list, i_non_tuple, i_bl_bool, i_bl_int, i_bl_str, i_bl_list, i_bl_tuple, i_int_bool, i_int_int, i_int_str, i_int_list, i_int_tuple, i_str_bool, i_str_int, i_str_str, i_str_list, i_str_tuple, i_lst_bool, i_lst_int, i_lst_str, i_lst_list, i_lst_tuple, i_tup_bool, i_tup_int, i_tup_str, i_tup_list, i_tup_tuple, ev_appB, Int.reduceAbs, Nat.reduceLT, Nat.reduceLeDiff, Int.reduceLT, Int.reduceLE, Int.reduceEq, Int.reduceNe, Int.reduceAdd, Int.reduceSub, Int.reduceMul, Int.reduceNeg, Int.reduceMod, Int.reduceDiv, Nat.reduceAdd, Nat.reduceSub, Nat.reduceMul, Nat.reduceEqDiff, Int.reduceToNat, Nat.reduceGT, Int.reduceGT, Int.reduceGE, Nat.reduceMod, Nat.reduceDiv, Nat.reduceBEq, Nat.reduceBNe, Int.reduceBEq, Int.reduceBNe, appK_last, appK_mid, ev_sb, sbK_at, ev_gcons, ev_gnil]
    rw [hm]
  rw [ev_for, hsrc]
  simp only [Option.bind_some]
  obtain ⟨env', s', e, x', y', rfl, rfl⟩ := for_all (g := gN 3) (b := b1_law T) (gd := none) (fun _ => laI ns ls) (items := rangeL 2 ((m : Int) - 2).toNat) 0 (env := [some (.scr ns), some (.lst (ls.map D.str)), some (.str (TL.joinL [47] ls)), none, none]) (s := []) ⟨none, none, rfl, rfl⟩ (fun _ _ _ _ => trivial) (by
    rintro i d env s' hi ⟨x', y', rfl, rfl⟩
    obtain ⟨hlt, rfl⟩ := range_get hi
    have hcast : (2 : Int) + (i : Int) = ((2 + i : Nat) : Int) := rfl
    rw [hcast]
    refine ⟨_, _, rfl, ?_⟩
    obtain ⟨l', c1, c2⟩ := m__law_changed T (TL.joinL [47] ls) ns (2 + i) [] (by omega)
    have hok : Ok [] := fun c hc => by cases hc
    have g1 := m__law_found T l' [] (by omega)
    have g2 := m__law_due T l' [] (by omega)
    have g3 := m_same T 3 _ (pl_due l' (by omega)) [] hok
    have k1 := m__law_found T (TL.joinL [47] ls) [] (by omega)
    have k3 := m_same T 3 _ (pl_good ls (by omega)) [] hok
    unfold foundD at g1 k1
    rw [hgood] at k1
    unfold b1_law
    generalize d__law_changed T = dc at c1
    generalize d__law_found T = df at g1 k1
    generalize d__law_due T = du at g2
    generalize d__law_same T 4 = dm at g3 k3
    generalize dueD l' = v at g1 g2 g3
    simp -implicitDefEqProofs (maxSteps := 1000000) only [ev_seq, seqK_nx, seqK_rt, seqK_ex, seqK_bk, seqK_ct, ev_skip, ev_brk, ev_cont, ev_asg, ev_gN, ev_if, ev_ret, ev_expr, ev_raise, ev_new, ev_par, parK_ev, ev_tst, tstK_bl, ev_tru, ev_andT, ev_orT, ev_notT, ev_andE, ev_orE, ev_notE, ev_ifE, ev_V, varK_ev, ev_C, ev_op, ev_opF, ev_nil, ev_cons, ev_data, ev_lst, ev_tup, ev_CB, ev_CBF, ev_call, outK_ev, ev_neg, negK_ev, ev_so, soK_ev, ev_no, ev_slc, ev_slcF, fz_non, fz_bl, fz_int, fz_str, fz_scr, fz_lst, fz_tup, fz_obj, fz_exn, fz_last, fz_mid, fz_lastI, fz_lastF, vw_non, vw_bl, vw_int, vw_str, vw_scr, vw_lst, vw_tup, vw_obj, vw_ty, vw_cls, vw_exn, vw_last, vw_mid, vw_lastI, vw_lastF, st_last, st_set, st_take, st_mid, st_mset, st_mtake, add_int, add_str, add_lst, addL_lst, sub_int, mul_r, mul_l, mul_str, mul_lst, mulL_lst, div_int, mod_int, pow_18, pow_60, lt_int, le_int, gt_int, ge_int, eq_int, eq_str, ne_int, ne_str, eq_bl, isN_non, isN_tup, isN_lst, isN_str, isN_int, isN_bl, len_str, len_lst, len_tup, len_scr, int_int, max_int, min_int, tru_bl, tru_non, tru_int, tru_str, tru_lst, ix_lst, ix_tup, ix_scr, ix_str, Option.map_some, Option.map_none, slc_str, slc_lst, Option.bind_some, Option.bind_none, List.getElem?_cons_zero, List.getElem?_cons_succ, List.set_cons_zero, List.set_cons_succ, List.map_cons, List.map_nil, if_true, if_false, ite_true, ite_false, Bool.false_eq_true, decide_true, decide_false, Bool.not_true, Bool.not_false, reduceIte, sl_eq, eq_self, Nat.zero_le, List.length_cons, List.length_nil, List.length_map, ite_self, Int.natAbs_natCast, isObj_ev, ev_fld, fldK_obj, getF_hit, ev_prop, ev_own, ok_bl, ok_obj, list_lst, iso_ev, ev_asgX, asgX_ret, asgX_exc, ev_callX, i_non_bool, i_non_int, i_non_str, i_non_list, i_non_tuple, i_bl_bool, i_bl_int, i_bl_str, i_bl_list, i_bl_tuple, i_int_bool, i_int_int, i_int_str, i_int_list, i_int_tuple, i_str_bool, i_str_int, i_str_str, i_str_list, i_str_tuple, i_lst_bool, i_lst_int, i_lst_str, i_lst_list, i_lst_tuple, i_tup_bool, i_tup_int, i_tup_str, i_tup_list, i_tup_tuple, ev_appB, Int.reduceAbs, Nat.reduceLT, Nat.reduceLeDiff, Int.reduceLT, Int.reduceLE, Int.reduceEq, Int.reduceNe, Int.reduceAdd, Int.reduceSub, Int.reduceMul, Int.reduceNeg, Int.reduceMod, Int.reduceDiv, Nat.reduceAdd, Nat.reduceSub, Nat.reduceMul, Nat.reduceEqDiff, Int.reduceToNat, Nat.reduceGT, Int.reduceGT, Int.reduceGE, Nat.reduceMod, Nat.reduceDiv, Nat.reduceBEq, Nat.reduceBNe, Int.reduceBEq, Int.reduceBNe, appK_last, appK_mid, ev_sb, sbK_at, ev_gcons, ev_gnil, c1, g1, g2, g3, k1, k3]
    exact ⟨_, _, .inl rfl, _, _, rfl, rfl⟩)
  rw [e]
  simp -implicitDefEqProofs (maxSteps := 1000000) only [ev_seq, seqK_nx, seqK_rt, seqK_ex, seqK_bk, seqK_ct, ev_skip, ev_brk, ev_cont, ev_asg, ev_gN, ev_if, ev_ret, ev_expr, ev_raise, ev_new, ev_par, parK_ev, ev_tst, tstK_bl, ev_tru, ev_andT, ev_orT, ev_notT, ev_andE, ev_orE, ev_notE, ev_ifE, ev_V, varK_ev, ev_C, ev_op, ev_opF, ev_nil, ev_cons, ev_data, ev_lst, ev_tup, ev_CB, ev_CBF, ev_call, outK_ev, ev_neg, negK_ev, ev_so, soK_ev, ev_no, ev_slc, ev_slcF, fz_non, fz_bl, fz_int, fz_str, fz_scr, fz_lst, fz_tup, fz_obj, fz_exn, fz_last, fz_mid, fz_lastI, fz_lastF, vw_non, vw_bl, vw_int, vw_str, vw_scr, vw_lst, vw_tup, vw_obj, vw_ty, vw_cls, vw_exn, vw_last, vw_mid, vw_lastI, vw_lastF, st_last, st_set, st_take, st_mid, st_mset, st_mtake, add_int, add_str, add_lst, addL_lst, sub_int, mul_r, mul_l, mul_str, mul_lst, mulL_lst, div_int, mod_int, pow_18, pow_60, lt_int, le_int, gt_int, ge_int, eq_int, eq_str, ne_int, ne_str, eq_bl, isN_non, isN_tup, isN_lst, isN_str, isN_int, isN_bl, len_str, len_lst, len_tup, len_scr, int_int, max_int, min_int, tru_bl, tru_non, tru_int, tru_str, tru_lst, ix_lst, ix_tup, ix_scr, ix_str, Option.map_some, Option.map_none, slc_str, slc_lst, Option.bind_some, Option.bind_none, List.getElem?_cons_zero, List.getElem?_cons_succ, List.set_cons_zero, List.set_cons_succ, List.map_cons, List.map_nil, if_true, if_false, ite_true, ite_false, Bool.false_eq_true, decide_true, decide_false, Bool.not_true, Bool.not_false, reduceIte, sl_eq, eq_self, Nat.zero_le, List.length_cons, List.length_nil, List.length_map, ite_self, Int.natAbs_natCast, isObj_ev, ev_fld, fldK_obj, getF_hit, ev_prop, ev_own, ok_bl, ok_obj, list_lst, iso_ev, ev_asgX, asgX_ret, asgX_exc, ev_callX, i_non_bool, i_non_int, i_non_str, i_non_list, i_non_tuple, i_bl_bool, i_bl_int, i_bl_str, i_bl_list, i_bl_tuple, i_int_bool, i_int_int, i_int_str, i_int_list, i_int_tuple, i_str_bool, i_str_int, i_str_str, i_str_list, i_str_tuple, i_lst_bool, i_lst_int, i_lst_str, i_lst_list, i_lst_tuple, i_tup_bool, i_tup_int, i_tup_str, i_tup_list, i_tup_tuple, ev_appB, Int.reduceAbs, Nat.reduceLT, Nat.reduceLeDiff, Int.reduceLT, Int.reduceLE, Int.reduceEq, Int.reduceNe, Int.reduceAdd, Int.reduceSub, Int.reduceMul, Int.reduceNeg, Int.reduceMod, Int.reduceDiv, Nat.reduceAdd, Nat.reduceSub, Nat.reduceMul, Nat.reduceEqDiff, Int.reduceToNat, Nat.reduceGT, Int.reduceGT, Int.reduceGE, Nat.reduceMod, Nat.reduceDiv, Nat.reduceBEq, Nat.reduceBNe, Int.reduceBEq, Int.reduceBNe, appK_last, appK_mid, ev_sb, sbK_at, ev_gcons, ev_gnil]
  exact ⟨_, rfl⟩

end K84
end
open PySem PySem.W PyProof.Rows
set_option maxRecDepth 100000 in
set_option maxHeartbeats 0 in
theorem PySem.Challenge.cw_rungrepeats_k84_whole_every_text_of_rule_holds : PySem.Challenge.rw_rungrepeats_k84_whole_every_text_of_rule.Holds := by
  w_on; o_law; k_head; (case hw => w_witness2)
  k_fill
  refine L2.walk_of (l := PySem.Challenge.rw_rungrepeats_k84_whole_every_text_of_rule) (n := 63) (k := 7) (x := "script") (CX := fun w => L2.CX PySem.Challenge.rw_rungrepeats_k84_whole_every_text_of_rule.prog w) (sp := fun w => Dx.spLaw _) rfl (by decide) rfl ⟨rfl, by decide, by decide⟩ (fun w h Y => PySem.W.kIn_of Y) ?F (fun _ _ a ns hl _ hS => ⟨a, ns, rfl, hS, hl, fun _ => rfl⟩) (fun _ _ _ _ _ z => Dx.cx_no z)
  case F =>
    intro w mg fa h KX G hmg
    suffices hT : ∃ T : K84.Ads, K84.Txt _ mg T ∧ T.f_law = fa ∧ ∀ (s : Shared) (v : Value), BindsTo s T.d_law ⟨[v], []⟩ [("script", v)] by
      obtain ⟨T, hX, e, hb⟩ := hT
      subst e
      exact ⟨T.d_law, hb, fun base _ _ => Dx.law_fn (K84.ok_law T hX) (K84.law_true T)⟩
    refine' K84.all_mk KX G hmg ?g_InvalidRow ?g_InvalidSize ?g_Rule ?pg_Rule ?hd_Rule ?po_Rule ?sa_Rule ?g_RungError ?g_Unreadable ?na_Rule_lines ?pa_Rule_rows ?pb_Rule_rows ?pc_Rule_rows ?pd_Rule_rows ?n_all ?n_bool ?n_int ?n_isinstance ?n_len ?n_list ?n_max ?n_min ?n_range ?n_str ?n_tuple ?oc_n ?oc_t ?ia_Rule ?im_Rule ?eb_InvalidRow ?et_InvalidRow ?nv_InvalidRow ?xl_InvalidRow ?xb_InvalidRow ?xs_InvalidRow ?xk_InvalidRow ?eb_InvalidSize ?et_InvalidSize ?nv_InvalidSize ?xl_InvalidSize ?xb_InvalidSize ?xs_InvalidSize ?xk_InvalidSize ?eb_Unreadable ?et_Unreadable ?nv_Unreadable ?xl_Unreadable ?xb_Unreadable ?xs_Unreadable ?xk_Unreadable ?ei_Unreadable ?es_Unreadable ?xg_Unreadable ?xh_Unreadable ?xd_Unreadable ?ic_Unreadable ?ih_Unreadable ?ko1_RungError ?ko2_RungError ?ko3_Unreadable_RungError ?a_RungError___init__ ?l_RungError___init__ ?c_RungError___init__ ?k_RungError___init__ ?a__law_cell ?l__law_cell ?c__law_cell ?k__law_cell ?a__law_draws ?l__law_draws ?c__law_draws ?k__law_draws ?a__law_lines ?l__law_lines ?c__law_lines ?k__law_lines ?a__law_large ?l__law_large ?c__law_large ?k__law_large ?a__law_sign ?l__law_sign ?c__law_sign ?k__law_sign ?a__law_changed ?l__law_changed ?c__law_changed ?k__law_changed ?a__law_is_row ?l__law_is_row ?c__law_is_row ?k__law_is_row ?a__law_due ?l__law_due ?c__law_due ?k__law_due ?a_is_row ?l_is_row ?c_is_row ?k_is_row ?a_Rule___init__ ?l_Rule___init__ ?c_Rule___init__ ?k_Rule___init__ ?a_read_rule ?l_read_rule ?c_read_rule ?k_read_rule ?l_Rule_rows ?c_Rule_rows ?k_Rule_rows ?a_show_rule ?l_show_rule ?c_show_rule ?k_show_rule ?a_Rule___eq__ ?l_Rule___eq__ ?c_Rule___eq__ ?k_Rule___eq__ ?a__law_found ?l__law_found ?c__law_found ?k__law_found ?a__law_same ?l__law_same ?c__law_same ?k__law_same ?a_law ?l_law ?c_law ?k_law ?fi_Rule___eq__ ?fn_Rule___eq__ ?mm_Rule ?mi_Rule ?mf_Rule ?mk_Rule ?xi_InvalidRow ?xt_InvalidRow ?xi_InvalidSize ?xt_InvalidSize ?xi_Unreadable ?xt_Unreadable
    (case g_InvalidRow => k_is)
    (case g_InvalidSize => k_is)
    (case g_Rule => k_is)
    (case pg_Rule => k_is)
    (case hd_Rule => k_is)
    (case po_Rule => k_is)
    (case sa_Rule => k_is)
    (case g_RungError => k_is)
    (case g_Unreadable => k_is)
    (case na_Rule_lines => k_is)
    (case pa_Rule_rows => k_is)
    (case pb_Rule_rows => k_is)
    (case pc_Rule_rows => k_is)
    (case pd_Rule_rows => k_is)
    (case n_all => k_is)
    (case n_bool => k_is)
    (case n_int => k_is)
    (case n_isinstance => k_is)
    (case n_len => k_is)
    (case n_list => k_is)
    (case n_max => k_is)
    (case n_min => k_is)
    (case n_range => k_is)
    (case n_str => k_is)
    (case n_tuple => k_is)
    (case oc_n => k_is)
    (case oc_t => k_is)
    (case ia_Rule => k_is)
    (case im_Rule => k_is)
    (case eb_InvalidRow => k_is)
    (case et_InvalidRow => k_is)
    (case nv_InvalidRow => k_is)
    (case xl_InvalidRow => k_is)
    (case xb_InvalidRow => decide +kernel)
    (case xs_InvalidRow => k_is)
    (case xk_InvalidRow => k_is)
    (case eb_InvalidSize => k_is)
    (case et_InvalidSize => k_is)
    (case nv_InvalidSize => k_is)
    (case xl_InvalidSize => k_is)
    (case xb_InvalidSize => decide +kernel)
    (case xs_InvalidSize => k_is)
    (case xk_InvalidSize => k_is)
    (case eb_Unreadable => k_is)
    (case et_Unreadable => k_is)
    (case nv_Unreadable => k_is)
    (case xl_Unreadable => k_is)
    (case xb_Unreadable => decide +kernel)
    (case xs_Unreadable => k_is)
    (case xk_Unreadable => k_is)
    (case ei_Unreadable => k_is)
    (case es_Unreadable => k_is)
    (case xg_Unreadable => k_is)
    (case xh_Unreadable => k_is)
    (case xd_Unreadable => k_is)
    (case ic_Unreadable => k_is)
    (case ih_Unreadable => k_is)
    (case ko1_RungError => k_is)
    (case ko2_RungError => k_is)
    (case ko3_Unreadable_RungError => k_is)
    (case a_RungError___init__ => k_is)
    (case l_RungError___init__ => k_is)
    (case c_RungError___init__ => k_is)
    (case k_RungError___init__ => k_is)
    (case a__law_cell => k_is)
    (case l__law_cell => k_is)
    (case c__law_cell => k_is)
    (case k__law_cell => k_is)
    (case a__law_draws => k_is)
    (case l__law_draws => k_is)
    (case c__law_draws => k_is)
    (case k__law_draws => k_is)
    (case a__law_lines => k_is)
    (case l__law_lines => k_is)
    (case c__law_lines => k_is)
    (case k__law_lines => k_is)
    (case a__law_large => k_is)
    (case l__law_large => k_is)
    (case c__law_large => k_is)
    (case k__law_large => k_is)
    (case a__law_sign => k_is)
    (case l__law_sign => k_is)
    (case c__law_sign => k_is)
    (case k__law_sign => k_is)
    (case a__law_changed => k_is)
    (case l__law_changed => k_is)
    (case c__law_changed => k_is)
    (case k__law_changed => k_is)
    (case a__law_is_row => k_is)
    (case l__law_is_row => k_is)
    (case c__law_is_row => k_is)
    (case k__law_is_row => k_is)
    (case a__law_due => k_is)
    (case l__law_due => k_is)
    (case c__law_due => k_is)
    (case k__law_due => k_is)
    (case a_is_row => k_is)
    (case l_is_row => k_is)
    (case c_is_row => k_is)
    (case k_is_row => k_is)
    (case a_Rule___init__ => k_is)
    (case l_Rule___init__ => k_is)
    (case c_Rule___init__ => k_is)
    (case k_Rule___init__ => k_is)
    (case a_read_rule => k_is)
    (case l_read_rule => k_is)
    (case c_read_rule => k_is)
    (case k_read_rule => k_is)
    (case l_Rule_rows => k_is)
    (case c_Rule_rows => k_is)
    (case k_Rule_rows => k_is)
    (case a_show_rule => k_is)
    (case l_show_rule => k_is)
    (case c_show_rule => k_is)
    (case k_show_rule => k_is)
    (case a_Rule___eq__ => k_is)
    (case l_Rule___eq__ => k_is)
    (case c_Rule___eq__ => k_is)
    (case k_Rule___eq__ => k_is)
    (case a__law_found => k_is)
    (case l__law_found => k_is)
    (case c__law_found => k_is)
    (case k__law_found => k_is)
    (case a__law_same => k_is)
    (case l__law_same => k_is)
    (case c__law_same => k_is)
    (case k__law_same => k_is)
    (case a_law => k_is)
    (case l_law => k_is)
    (case c_law => k_is)
    (case k_law => k_is)
    (case fi_Rule___eq__ => k_is)
    (case fn_Rule___eq__ => k_is)
    (case mm_Rule => k_is)
    (case mi_Rule => k_is)
    (case mf_Rule => k_is)
    (case mk_Rule => k_is)
    (case xi_InvalidRow => k_is)
    (case xt_InvalidRow => k_is)
    (case xi_InvalidSize => k_is)
    (case xt_InvalidSize => k_is)
    (case xi_Unreadable => k_is)
    (case xt_Unreadable => k_is)
