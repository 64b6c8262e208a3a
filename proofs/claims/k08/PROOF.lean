import PyProof.Rows.All
import Wide.All
import OpenK.AllK
import Wide.FinOn
import HandS.ForMost
import HandS.ForExc
import HandS.Wide
import HandS.Slots
import HandS.SlotsOwn
import HandS.Star
import HandS.CallSlots
import HandS.TryMany
import HandS.ExcField
import HandS.ExcIs
import HandS.Flow
import HandS.IsInst
import HandS.Conv
import HandS.Iter
import HandS.More
import HandS.Zip
import HandS.Style
import HandS.ExcOwn
import PyProof.Rows.SetFrom
import PyProof.SetRoads
import HandS.Dict
import HandS.Exc
import HandS.ExcInit
import KE.GoesMore
import HandS.Strs
import HandS.SetFor
import HandS.SortInts
import HandS.MakeKwOnly
import HandS.Defaults
import PyProof.TupleOfSeq
import HandS.Deep
import HandS.TupSets
import HandS.TupLe
import HandS.TupAny
import HandS.SortOrd
import HandS.Sort
import HandS.List
import HandS.Call
import KE.LtData
import PyProof.P3Eq
import PySem.Challenge.RW_hallnumbers_k08_whole_mends
set_option Elab.async false
set_option linter.all false
set_option maxRecDepth 100000
set_option maxHeartbeats 4000000
namespace DL
open PySem L2
open PySem.Spec PyProof.Rows

inductive D where
  | non | bl (b : Bool) | int (i : Int) | str (x : Str)
  | tup (ds : List D) | lst (ds : List D) | rul (ds : List D) | scr (ns : List Int) | dct (kvs : List (Str × Str)) | dki (kvs : List (Int × Int)) | dsi (kvs : List (Str × Int))
inductive Dv where
  | p (d : D) | hnd (n : Nat)
inductive Cell where
  | lst (ds : List D) | rcd (ds : List Dv) | ins (c : Nat) (fs : List (Str × Dv)) | dead | raw (j : Nat) | slt (j : Nat) (ds : List D)
abbrev Sto := List Cell
/-- the cell's second address -/
def Cell.second : Cell → Option Nat
  | .raw j => some j
  | .slt j _ => some j
  | _ => none
structure Ex where
  cls : Nat
  args : List D
inductive Out (α : Type) where
  | ok (a : α) (S : Sto) | exc (x : Ex) (S : Sto) | bad
def Out.bind {α β : Type} (o : Out α) (k : α → Sto → Out β) : Out β := match o with
  | .ok a S => k a S
  | .exc x S => .exc x S
  | .bad => .bad
/-- what is fixed: the written part, the class of rules, the classes of errors and their fields -/
structure Gx where
  K : PySem.W.Frag
  rc : Addr
  xc : Nat → Addr
  xf : Nat → List Str
  uc : Addr

mutual
def Rep (G : Gx) (B : Hp) : D → V → Prop
  | .non, v => v = .non
  | .bl b, v => v = .bl b
  | .int i, v => v = .int i
  | .str x, v => v = .str x
  | .tup ds, v => ∃ a xs, v = .ref a ∧ SqT G.K B a xs ∧ Reps G B ds xs
  | .lst ds, v => ∃ a xs, v = .ref a ∧ B a = some (.lst xs) ∧ Reps G B ds xs
  | .rul ds, v => ∃ a dx t xs, v = .ref a ∧ B a = some (SlX.SlO a G.rc dx [some (.ref t)]) ∧ B dx = some (.xd []) ∧ SqT G.K B t xs ∧ Reps G B ds xs
  | .scr ns, v => ∃ a, v = .ref a ∧ SqL G.K B a (ns.map V.int)
  | .dct kvs, v => ∃ a, v = .ref a ∧ B a = some (.dK (kvs.map fun p => (Sum.inr p.1, V.str p.2)))
  | .dki kvs, v => ∃ a, v = .ref a ∧ B a = some (.dK (kvs.map fun p => (Sum.inl p.1, V.int p.2)))
  | .dsi kvs, v => ∃ a, v = .ref a ∧ B a = some (.dK (kvs.map fun p => (Sum.inr p.1, V.int p.2)))
def Reps (G : Gx) (B : Hp) : List D → List V → Prop
  | [], xs => xs = []
  | d :: ds, xs => ∃ x r, xs = x :: r ∧ Rep G B d x ∧ Reps G B ds r
end
def RepV (G : Gx) (B : Hp) (φ : List Addr) : Dv → V → Prop
  | .p d, v => Rep G B d v
  | .hnd n, v => ∃ a, φ[n]? = some a ∧ v = .ref a
def RepVs (G : Gx) (B : Hp) (φ : List Addr) : List Dv → List V → Prop
  | [], xs => xs = []
  | d :: ds, xs => ∃ x r, xs = x :: r ∧ RepV G B φ d x ∧ RepVs G B φ ds r

theorem sqT_mono {K : PySem.W.Frag} {B B' : Hp} {a : Addr} {xs : List V} (e : Same B B') (h : SqT K B a xs) : SqT K B' a xs := by
  rcases h with (h | ⟨o, h⟩) | h
  · exact .inl (.inl (e _ _ h))
  · exact .inl (.inr ⟨o, e _ _ h⟩)
  · exact .inr h
section
variable {G : Gx} {B B' : Hp} {φ φ' : List Addr}
mutual
theorem Rep.mono (e : Same B B') : ∀ (d : D) {v : V}, Rep G B d v → Rep G B' d v
  | .non, _, h => by unfold Rep at h ⊢; exact h
  | .bl _, _, h => by unfold Rep at h ⊢; exact h
  | .int _, _, h => by unfold Rep at h ⊢; exact h
  | .str _, _, h => by unfold Rep at h ⊢; exact h
  | .tup ds, _, h => by
    unfold Rep at h ⊢
    obtain ⟨a, xs, e1, h1, h2⟩ := h
    exact ⟨a, xs, e1, sqT_mono e h1, Reps.mono e ds h2⟩
  | .lst ds, _, h => by
    unfold Rep at h ⊢
    obtain ⟨a, xs, e1, h1, h2⟩ := h
    exact ⟨a, xs, e1, e _ _ h1, Reps.mono e ds h2⟩
  | .rul ds, _, h => by
    unfold Rep at h ⊢
    obtain ⟨a, dx, t, xs, e1, h1, h2, h3, h4⟩ := h
    exact ⟨a, dx, t, xs, e1, e _ _ h1, e _ _ h2, sqT_mono e h3, Reps.mono e ds h4⟩
  | .scr ns, _, h => by
    unfold Rep at h ⊢
    obtain ⟨a, e1, h1⟩ := h
    exact ⟨a, e1, e.seq h1⟩
  | .dct kvs, _, h => by
    unfold Rep at h ⊢
    obtain ⟨a, e1, h1⟩ := h
    exact ⟨a, e1, e _ _ h1⟩
  | .dki kvs, _, h => by
    unfold Rep at h ⊢
    obtain ⟨a, e1, h1⟩ := h
    exact ⟨a, e1, e _ _ h1⟩
  | .dsi kvs, _, h => by
    unfold Rep at h ⊢
    obtain ⟨a, e1, h1⟩ := h
    exact ⟨a, e1, e _ _ h1⟩
theorem Reps.mono (e : Same B B') : ∀ (ds : List D) {vs : List V}, Reps G B ds vs → Reps G B' ds vs
  | [], _, h => by unfold Reps at h ⊢; exact h
  | d :: ds, _, h => by
    unfold Reps at h ⊢
    obtain ⟨x, r, e1, h1, h2⟩ := h
    exact ⟨x, r, e1, Rep.mono e d h1, Reps.mono e ds h2⟩
end
theorem RepV.mono (e : Same B B') (p : φ <+: φ') : ∀ (d : Dv) {v : V}, RepV G B φ d v → RepV G B' φ' d v
  | .p d, _, h => Rep.mono e d h
  | .hnd n, _, ⟨a, h, q⟩ => ⟨a, by
      obtain ⟨t, rfl⟩ := p
      rw [List.getElem?_append_left (List.getElem?_eq_some_iff.mp h).1]
      exact h, q⟩
theorem RepVs.mono (e : Same B B') (p : φ <+: φ') : ∀ (ds : List Dv) {vs : List V}, RepVs G B φ ds vs → RepVs G B' φ' ds vs
  | [], _, h => h
  | d :: ds, _, ⟨x, r, e1, h1, h2⟩ => ⟨x, r, e1, RepV.mono e p d h1, RepVs.mono e p ds h2⟩
theorem Reps.length : ∀ {ds : List D} {vs : List V}, Reps G B ds vs → ds.length = vs.length
  | [], _, h => by unfold Reps at h; rw [h]; rfl
  | d :: ds, _, h => by
    unfold Reps at h
    obtain ⟨x, r, rfl, _, h2⟩ := h
    rw [List.length_cons, List.length_cons, Reps.length h2]
theorem RepVs.length : ∀ {ds : List Dv} {vs : List V}, RepVs G B φ ds vs → ds.length = vs.length
  | [], _, h => by rw [show _ = [] from h]; rfl
  | d :: ds, _, ⟨x, r, e1, _, h2⟩ => by rw [e1, List.length_cons, List.length_cons, RepVs.length h2]
theorem Reps.get : ∀ {ds : List D} {vs : List V} {i : Nat} {d : D}, Reps G B ds vs → ds[i]? = some d → ∃ v, vs[i]? = some v ∧ Rep G B d v
  | [], _, _, _, _, e => by simp at e
  | d :: ds, _, 0, _, h, e => by
    unfold Reps at h
    obtain ⟨x, r, rfl, h1, _⟩ := h
    simp at e; subst e; exact ⟨x, rfl, h1⟩
  | d :: ds, _, i + 1, _, h, e => by
    unfold Reps at h
    obtain ⟨x, r, rfl, _, h2⟩ := h
    obtain ⟨v, e1, e2⟩ := Reps.get (i := i) h2 (by simpa using e)
    exact ⟨v, by simpa using e1, e2⟩
theorem RepVs.get : ∀ {ds : List Dv} {vs : List V} {i : Nat} {d : Dv}, RepVs G B φ ds vs → ds[i]? = some d → ∃ v, vs[i]? = some v ∧ RepV G B φ d v
  | [], _, _, _, _, e => by simp at e
  | d :: ds, _, 0, _, ⟨x, r, e1, h1, _⟩, e => by subst e1; simp at e; subst e; exact ⟨x, rfl, h1⟩
  | d :: ds, _, i + 1, _, ⟨x, r, e1, _, h2⟩, e => by
    subst e1
    obtain ⟨v, q1, q2⟩ := RepVs.get (i := i) h2 (by simpa using e)
    exact ⟨v, by simpa using q1, q2⟩
theorem Reps.append : ∀ {ds es : List D} {vs us : List V}, Reps G B ds vs → Reps G B es us → Reps G B (ds ++ es) (vs ++ us)
  | [], _, _, _, h, q => by unfold Reps at h; subst h; exact q
  | d :: ds, es, _, us, h, q => by
    unfold Reps at h
    obtain ⟨x, r, rfl, h1, h2⟩ := h
    rw [List.cons_append, List.cons_append]
    unfold Reps
    exact ⟨x, _, rfl, h1, h2.append q⟩
theorem Reps.nil : Reps G B [] [] := by unfold Reps; rfl
theorem Reps.cons {d : D} {ds : List D} {v : V} {vs : List V} (h : Rep G B d v) (q : Reps G B ds vs) : Reps G B (d :: ds) (v :: vs) := by
  unfold Reps; exact ⟨v, vs, rfl, h, q⟩
theorem Reps.take : ∀ {ds : List D} {vs : List V} (n : Nat), Reps G B ds vs → Reps G B (ds.take n) (vs.take n)
  | ds, vs, 0, _ => by rw [List.take_zero, List.take_zero]; exact Reps.nil
  | [], _, n + 1, h => by unfold Reps at h; subst h; exact Reps.nil
  | d :: ds, _, n + 1, h => by
    unfold Reps at h
    obtain ⟨x, r, rfl, h1, h2⟩ := h
    exact Reps.cons h1 (h2.take n)
theorem Reps.drop : ∀ {ds : List D} {vs : List V} (n : Nat), Reps G B ds vs → Reps G B (ds.drop n) (vs.drop n)
  | ds, vs, 0, h => h
  | [], _, n + 1, h => by unfold Reps at h; subst h; exact Reps.nil
  | d :: ds, _, n + 1, h => by
    unfold Reps at h
    obtain ⟨x, r, rfl, h1, h2⟩ := h
    exact h2.drop n
theorem Reps.set : ∀ {ds : List D} {vs : List V} (i : Nat) {d : D} {v : V}, Reps G B ds vs → Rep G B d v → Reps G B (ds.set i d) (vs.set i v)
  | [], _, _, _, _, h, _ => by unfold Reps at h; subst h; exact Reps.nil
  | d :: ds, _, 0, _, _, h, q => by
    unfold Reps at h
    obtain ⟨x, r, rfl, h1, h2⟩ := h
    exact Reps.cons q h2
  | d :: ds, _, i + 1, _, _, h, q => by
    unfold Reps at h
    obtain ⟨x, r, rfl, h1, h2⟩ := h
    exact Reps.cons h1 (h2.set i q)
theorem Reps.reverse : ∀ {ds : List D} {vs : List V}, Reps G B ds vs → Reps G B ds.reverse vs.reverse
  | [], _, h => by unfold Reps at h; subst h; exact Reps.nil
  | d :: ds, _, h => by
    unfold Reps at h
    obtain ⟨x, r, rfl, h1, h2⟩ := h
    rw [List.reverse_cons, List.reverse_cons]
    exact h2.reverse.append (Reps.cons h1 Reps.nil)
theorem Reps.rep {ds : List D} {vs : List V} (h : Reps G B ds vs) : ∀ n : Nat, Reps G B (List.replicate n ds).flatten (List.replicate n vs).flatten
  | 0 => Reps.nil
  | n + 1 => by
    rw [List.replicate_succ, List.replicate_succ, List.flatten_cons, List.flatten_cons]
    exact h.append (h.rep n)
theorem Reps.ints : ∀ ns : List Int, Reps G B (ns.map D.int) (ns.map V.int)
  | [] => Reps.nil
  | n :: ns => Reps.cons (by unfold Rep; rfl) (Reps.ints ns)
theorem RepVs.set : ∀ {ds : List Dv} {vs : List V} (i : Nat) {d : Dv} {v : V}, RepVs G B φ ds vs → RepV G B φ d v → RepVs G B φ (ds.set i d) (vs.set i v)
  | [], _, _, _, _, h, _ => by rw [show _ = [] from h]; exact (rfl : _ = _)
  | d :: ds, _, 0, _, _, ⟨x, r, e1, h1, h2⟩, q => by subst e1; exact ⟨_, _, rfl, q, h2⟩
  | d :: ds, _, i + 1, _, _, ⟨x, r, e1, h1, h2⟩, q => by subst e1; exact ⟨_, _, rfl, h1, h2.set i q⟩
theorem RepVs.append : ∀ {ds es : List Dv} {vs us : List V}, RepVs G B φ ds vs → RepVs G B φ es us → RepVs G B φ (ds ++ es) (vs ++ us)
  | [], _, _, _, h, q => by rw [show _ = [] from h]; exact q
  | d :: ds, es, _, us, ⟨x, r, e1, h1, h2⟩, q => by subst e1; exact ⟨x, _, rfl, h1, h2.append q⟩
end

/-! ### the world -/
def CellR (G : Gx) (H B : Hp) (φ : List Addr) (a : Addr) : Cell → Prop
  | .lst ds => B a = none ∧ ∃ xs, H a = some (.lst xs) ∧ Reps G B ds xs
  | .rcd ds => B a = none ∧ ∃ xs, H a = some (.lst xs) ∧ RepVs G B φ ds xs
  | .ins _ fs => B a = none ∧ ∃ dx vs, H a = some (.ins G.uc dx vs) ∧ vs.map (·.1) = fs.map (·.1) ∧ RepVs G B φ (fs.map (·.2)) (vs.map (·.2))
  | .dead => ∃ o, H a = some o
  | .raw j => B a = none ∧ ∃ dx, φ[j]? = some dx ∧ B dx = none ∧ dx ≠ a ∧ H a = some (.ins G.rc dx []) ∧ ∃ o, H dx = some o
  | .slt j ds => B a = none ∧ ∃ dx t xs, φ[j]? = some dx ∧ B dx = none ∧ dx ≠ a ∧ H a = some (SlX.SlO a G.rc dx [some (.ref t)]) ∧ H dx = some (.xd []) ∧ SqT G.K B t xs ∧ Reps G B ds xs
theorem CellR.there {G : Gx} {H B : Hp} {φ : List Addr} {a : Addr} : ∀ {c : Cell}, CellR G H B φ a c → ∃ o, H a = some o
  | .lst _, ⟨_, _, h, _⟩ => ⟨_, h⟩
  | .rcd _, ⟨_, _, h, _⟩ => ⟨_, h⟩
  | .ins _ _, ⟨_, _, _, h, _⟩ => ⟨_, h⟩
  | .dead, h => h
  | .raw _, ⟨_, _, _, _, _, h, _⟩ => ⟨_, h⟩
  | .slt _ _, ⟨_, _, _, _, _, _, _, h, _⟩ => ⟨_, h⟩
/-- what a cell leans on: its address, its second one, data -/
theorem CellR.stay {G : Gx} {H B H' B' : Hp} {φ φ' : List Addr} {a : Addr} {c : Cell} (r : CellR G H B φ a c) (sb : Same B B') (pr : φ <+: φ') (ha : H' a = H a) (hb : c ≠ .dead → B a = none → B' a = none)
    (hd : ∀ (j : Nat) (dx : Addr), φ[j]? = some dx → dx ≠ a → (∃ o, H dx = some o) → B dx = none → H' dx = H dx ∧ B' dx = none) : CellR G H' B' φ' a c := by
  have pg : ∀ {j : Nat} {dx : Addr}, φ[j]? = some dx → φ'[j]? = some dx := fun {j dx} h => by
    obtain ⟨t, rfl⟩ := pr
    rw [List.getElem?_append_left (List.getElem?_eq_some_iff.mp h).1]
    exact h
  cases c with
  | lst ds =>
    obtain ⟨q1, xs, q2, q3⟩ := r
    exact ⟨hb (fun z => nomatch z) q1, xs, ha.trans q2, Reps.mono sb _ q3⟩
  | rcd ds =>
    obtain ⟨q1, xs, q2, q3⟩ := r
    exact ⟨hb (fun z => nomatch z) q1, xs, ha.trans q2, RepVs.mono sb pr _ q3⟩
  | ins C fs =>
    obtain ⟨q1, dx, vs, q2, q3, q4⟩ := r
    exact ⟨hb (fun z => nomatch z) q1, dx, vs, ha.trans q2, q3, RepVs.mono sb pr _ q4⟩
  | dead =>
    obtain ⟨u, q⟩ := r
    exact ⟨u, ha.trans q⟩
  | raw j =>
    obtain ⟨q1, dx, q2, q3, q4, q5, u, q6⟩ := r
    obtain ⟨e1, e2⟩ := hd j dx q2 q4 ⟨u, q6⟩ q3
    exact ⟨hb (fun z => nomatch z) q1, dx, pg q2, e2, q4, ha.trans q5, u, e1.trans q6⟩
  | slt j ds =>
    obtain ⟨q1, dx, t, xs, q2, q3, q4, q5, q6, q7, q8⟩ := r
    obtain ⟨e1, e2⟩ := hd j dx q2 q4 ⟨_, q6⟩ q3
    exact ⟨hb (fun z => nomatch z) q1, dx, t, xs, pg q2, e2, q4, ha.trans q5, e1.trans q6, sqT_mono sb q7, Reps.mono sb _ q8⟩
theorem CellR.stay2 {G : Gx} {H B H' B' : Hp} {φ φ' : List Addr} {a : Addr} {c : Cell} {j : Nat} (r : CellR G H B φ a c) (e : c.second = some j) (sb : Same B B') (pr : φ <+: φ') (ha : H' a = H a) (hb : c ≠ .dead → B a = none → B' a = none)
    (hd : ∀ dx, φ[j]? = some dx → dx ≠ a → (∃ o, H dx = some o) → B dx = none → H' dx = H dx ∧ B' dx = none) : CellR G H' B' φ' a c := by
  have pg : ∀ {j : Nat} {dx : Addr}, φ[j]? = some dx → φ'[j]? = some dx := fun {j dx} h => by
    obtain ⟨t, rfl⟩ := pr
    rw [List.getElem?_append_left (List.getElem?_eq_some_iff.mp h).1]
    exact h
  cases c with
  | lst ds => cases e
  | rcd ds => cases e
  | ins C fs => cases e
  | dead => cases e
  | raw j' =>
    cases e
    obtain ⟨q1, dx, q2, q3, q4, q5, u, q6⟩ := r
    obtain ⟨e1, e2⟩ := hd dx q2 q4 ⟨u, q6⟩ q3
    exact ⟨hb (fun z => nomatch z) q1, dx, pg q2, e2, q4, ha.trans q5, u, e1.trans q6⟩
  | slt j' ds =>
    cases e
    obtain ⟨q1, dx, t, xs, q2, q3, q4, q5, q6, q7, q8⟩ := r
    obtain ⟨e1, e2⟩ := hd dx q2 q4 ⟨_, q6⟩ q3
    exact ⟨hb (fun z => nomatch z) q1, dx, t, xs, pg q2, e2, q4, ha.trans q5, e1.trans q6, sqT_mono sb q7, Reps.mono sb _ q8⟩
theorem CellR.stay0 {G : Gx} {H B H' B' : Hp} {φ φ' : List Addr} {a : Addr} {c : Cell} (r : CellR G H B φ a c) (e : c.second = none) (sb : Same B B') (pr : φ <+: φ') (ha : H' a = H a) (hb : c ≠ .dead → B a = none → B' a = none) : CellR G H' B' φ' a c := by
  cases c with
  | lst ds =>
    obtain ⟨q1, xs, q2, q3⟩ := r
    exact ⟨hb (fun z => nomatch z) q1, xs, ha.trans q2, Reps.mono sb _ q3⟩
  | rcd ds =>
    obtain ⟨q1, xs, q2, q3⟩ := r
    exact ⟨hb (fun z => nomatch z) q1, xs, ha.trans q2, RepVs.mono sb pr _ q3⟩
  | ins C fs =>
    obtain ⟨q1, dx, vs, q2, q3, q4⟩ := r
    exact ⟨hb (fun z => nomatch z) q1, dx, vs, ha.trans q2, q3, RepVs.mono sb pr _ q4⟩
  | dead =>
    obtain ⟨u, q⟩ := r
    exact ⟨u, ha.trans q⟩
  | raw j => cases e
  | slt j ds => cases e
structure Wd (G : Gx) (H B : Hp) (φ : List Addr) (S : Sto) : Prop where
  sub : Same B H
  nd : φ.Nodup
  len : φ.length = S.length
  cell : ∀ (i : Nat) (a : Addr) (c : Cell), φ[i]? = some a → S[i]? = some c → CellR G H B φ a c
  sec : ∀ (i j : Nat) (c : Cell), S[i]? = some c → c.second = some j → S[j]? = some .dead
/-- from one world to a later one: what is no one's business here stays -/
structure Xt (H B : Hp) (φ : List Addr) (H' B' : Hp) (φ' : List Addr) : Prop where
  b : Same B B'
  p : φ <+: φ'
  out : ∀ a o, H a = some o → B a = none → a ∉ φ → H' a = some o ∧ B' a = none ∧ a ∉ φ'
theorem Xt.refl {H B : Hp} {φ : List Addr} : Xt H B φ H B φ := ⟨Same.refl _, List.prefix_refl _, fun _ _ h1 h2 h3 => ⟨h1, h2, h3⟩⟩
theorem Xt.trans {H B H1 B1 H2 B2 : Hp} {φ φ1 φ2 : List Addr} (x : Xt H B φ H1 B1 φ1) (y : Xt H1 B1 φ1 H2 B2 φ2) : Xt H B φ H2 B2 φ2 :=
  ⟨x.b.trans y.b, x.p.trans y.p, fun a o h1 h2 h3 => let ⟨q1, q2, q3⟩ := x.out a o h1 h2 h3; y.out a o q1 q2 q3⟩
section
variable {G : Gx} {H B : Hp} {φ : List Addr} {S : Sto} {p : Addr} {o : HO}
theorem Wd.there (w : Wd G H B φ S) {a : Addr} (h : a ∈ φ) : ∃ o, H a = some o := by
  obtain ⟨i, hi, e⟩ := List.mem_iff_getElem.mp h
  have hs : i < S.length := by rw [← w.len]; exact hi
  exact (w.cell i a S[i] (by rw [List.getElem?_eq_getElem hi, e]) (List.getElem?_eq_getElem hs)).there
theorem Wd.fresh (w : Wd G H B φ S) (h : H p = none) : p ∉ φ := fun q => by
  obtain ⟨o, e⟩ := w.there q
  rw [h] at e; cases e
theorem same_upd' (h : H p = none) : Same H (upd H p o) := fun b x e => by
  rw [upd_ne (ne_of_none e h)]; exact e
theorem Wd.bfree (w : Wd G H B φ S) (h : H p = none) : B p = none := w.sub.free h
theorem Wd.two (w : Wd G H B φ S) {i j n : Nat} {c d : Cell} {dx a : Addr} (h1 : S[i]? = some c) (h2 : c.second = some j) (h3 : φ[j]? = some dx) (h4 : φ[n]? = some a) (h5 : S[n]? = some d) (h6 : d ≠ .dead) : dx ≠ a := fun z => by
  have e := w.sec i j c h1 h2
  subst z
  have hj : j < φ.length := (List.getElem?_eq_some_iff.mp h3).1
  have : j = n := (List.getElem?_inj hj w.nd).mp (h3.trans h4.symm)
  subst this
  rw [e] at h5
  exact h6 (Option.some.inj h5).symm
theorem Wd.alloc (w : Wd G H B φ S) (h : H p = none) : Wd G (upd H p o) (upd B p o) φ S := by
  have hb := w.bfree h
  have hp := w.fresh h
  refine ⟨fun b x e => ?_, w.nd, w.len, fun i a c h1 h2 => ?_, w.sec⟩
  · by_cases q : b = p
    · subst q; rw [upd_same] at e ⊢; exact e
    · rw [upd_ne q] at e ⊢; exact w.sub _ _ e
  · have na : a ≠ p := fun z => hp (by subst z; exact List.mem_of_getElem? h1)
    refine CellR.stay (w.cell i a c h1 h2) (same_upd' hb) (List.prefix_refl _) (upd_ne na) (fun _ q => by rw [upd_ne na]; exact q) fun j dx _ _ ⟨u, q1⟩ q2 => ?_
    have nd : dx ≠ p := ne_of_none q1 h
    exact ⟨upd_ne nd, by rw [upd_ne nd]; exact q2⟩
theorem Xt.alloc (w : Wd G H B φ S) (h : H p = none) : Xt H B φ (upd H p o) (upd B p o) φ := by
  refine ⟨same_upd' (w.bfree h), List.prefix_refl _, fun a u h1 h2 h3 => ?_⟩
  have na : a ≠ p := ne_of_none h1 h
  exact ⟨by rw [upd_ne na]; exact h1, by rw [upd_ne na]; exact h2, h3⟩
/-- something private, that no one here knows of, is laid -/
theorem Wd.hide (w : Wd G H B φ S) (h : H p = none) : Wd G (upd H p o) B φ S := by
  have hp := w.fresh h
  refine ⟨fun b x e => ?_, w.nd, w.len, fun i a c h1 h2 => ?_, w.sec⟩
  · rw [upd_ne (ne_of_none (w.sub _ _ e) h)]; exact w.sub _ _ e
  · have na : a ≠ p := fun z => hp (by subst z; exact List.mem_of_getElem? h1)
    refine CellR.stay (w.cell i a c h1 h2) (Same.refl _) (List.prefix_refl _) (upd_ne na) (fun _ q => q) fun j dx _ _ ⟨u, q1⟩ q2 => ?_
    exact ⟨upd_ne (ne_of_none q1 h), q2⟩
theorem Xt.hide (w : Wd G H B φ S) (h : H p = none) : Xt H B φ (upd H p o) B φ := by
  refine ⟨Same.refl _, List.prefix_refl _, fun a u h1 h2 h3 => ?_⟩
  exact ⟨by rw [upd_ne (ne_of_none h1 h)]; exact h1, h2, h3⟩
/-- the private thing becomes a cell -/
theorem Wd.cellOf {c : Cell} (w : Wd G H B φ S) (h : H p = some o) (hb : B p = none) (hp : p ∉ φ) (hc : CellR G H B (φ ++ [p]) p c) (hs : c.second = none) : Wd G H B (φ ++ [p]) (S ++ [c]) := by
  have old : ∀ {i : Nat} {c' : Cell}, (S ++ [c])[i]? = some c' → S[i]? = some c' ∨ c' = c := fun {i c'} h2 => by
    by_cases hi : i < S.length
    · rw [List.getElem?_append_left hi] at h2; exact .inl h2
    · rw [List.getElem?_append_right (Nat.le_of_not_lt hi)] at h2
      exact .inr (by
        have := List.mem_of_getElem? h2
        simpa using this)
  refine ⟨w.sub, ?_, ?_, fun i a c' h1 h2 => ?_, fun i j c' h1 h2 => ?_⟩
  · rw [List.nodup_append]
    refine ⟨w.nd, by simp, fun x hx y hy => ?_⟩
    have : y = p := by simpa using hy
    subst this
    exact fun z => hp (z ▸ hx)
  · rw [List.length_append, List.length_append, w.len]; rfl
  · by_cases hi : i < φ.length
    · rw [List.getElem?_append_left hi] at h1
      rw [List.getElem?_append_left (by rw [← w.len]; exact hi)] at h2
      exact CellR.stay (w.cell i a c' h1 h2) (Same.refl _) (List.prefix_append _ _) rfl (fun _ q => q) fun _ _ _ _ _ q2 => ⟨rfl, q2⟩
    · have hl : i < (φ ++ [p]).length := (List.getElem?_eq_some_iff.mp h1).1
      rw [List.length_append] at hl
      have e : i = φ.length := by simp at hl; omega
      subst e
      rw [List.getElem?_append_right (Nat.le_refl _), Nat.sub_self] at h1
      rw [w.len, List.getElem?_append_right (Nat.le_refl _), Nat.sub_self] at h2
      simp at h1 h2
      subst h1 h2
      exact hc
  · rcases old h1 with h1 | h1
    · have q := w.sec i j c' h1 h2
      rw [List.getElem?_append_left (List.getElem?_eq_some_iff.mp q).1]
      exact q
    · subst h1; rw [hs] at h2; cases h2
/-- a cell is written -/
theorem Wd.set {n : Nat} {a : Addr} {c0 c' : Cell} (w : Wd G H B φ S) (hn : φ[n]? = some a) (hs : S[n]? = some c0) (h0 : c0 ≠ .dead) (hb : B a = none) (hc : CellR G (upd H a o) B φ a c') (h2c : c'.second = none) : Wd G (upd H a o) B φ (S.set n c') := by
  have hl : n < φ.length := (List.getElem?_eq_some_iff.mp hn).1
  have old : ∀ {i : Nat} {c : Cell}, (S.set n c')[i]? = some c → (i = n ∧ c = c') ∨ (i ≠ n ∧ S[i]? = some c) := fun {i c} h => by
    by_cases hi : i = n
    · subst hi
      rw [List.getElem?_set_self (by rw [← w.len]; exact hl)] at h
      exact .inl ⟨rfl, (Option.some.inj h).symm⟩
    · rw [List.getElem?_set_ne (Ne.symm hi)] at h
      exact .inr ⟨hi, h⟩
  refine ⟨fun b x e => ?_, w.nd, by rw [List.length_set]; exact w.len, fun i b c h1 h2 => ?_, fun i j c h1 h2 => ?_⟩
  · have nb : b ≠ a := fun z => by subst z; rw [hb] at e; cases e
    rw [upd_ne nb]; exact w.sub _ _ e
  · rcases old h2 with ⟨rfl, rfl⟩ | ⟨hi, h2⟩
    · rw [hn] at h1; cases h1; exact hc
    · have na : b ≠ a := fun z => by
        subst z
        have hi' : i < φ.length := (List.getElem?_eq_some_iff.mp h1).1
        exact hi ((List.getElem?_inj hi' w.nd).mp (h1.trans hn.symm))
      have r := w.cell i b c h1 h2
      cases e : c.second with
      | none =>
        refine CellR.stay0 r e (Same.refl _) (List.prefix_refl _) (upd_ne na) fun _ q => q
      | some j =>
        refine CellR.stay2 r e (Same.refl _) (List.prefix_refl _) (upd_ne na) (fun _ q => q) fun dx q1 _ _ q2 => ⟨upd_ne (w.two h2 e q1 hn hs h0), q2⟩
  · rcases old h1 with ⟨rfl, rfl⟩ | ⟨hi, h1⟩
    · rw [h2c] at h2; cases h2
    · have q := w.sec i j c h1 h2
      have nj : j ≠ n := fun z => by subst z; rw [q] at hs; exact h0 (Option.some.inj hs).symm
      rw [List.getElem?_set_ne (Ne.symm nj)]
      exact q
theorem Xt.set {n : Nat} {a : Addr} (hn : φ[n]? = some a) : Xt H B φ (upd H a o) B φ := by
  refine ⟨Same.refl _, List.prefix_refl _, fun b u h1 h2 h3 => ?_⟩
  have nb : b ≠ a := fun z => h3 (by subst z; exact List.mem_of_getElem? hn)
  exact ⟨by rw [upd_ne nb]; exact h1, h2, h3⟩
/-- a list's cell is given up: the list is data from now on -/
theorem Wd.thaw {n : Nat} {a : Addr} {ds : List D} (w : Wd G H B φ S) (hn : φ[n]? = some a) (hs : S[n]? = some (.lst ds)) :
    ∃ xs, H a = some (.lst xs) ∧ B a = none ∧ Reps G B ds xs ∧ Wd G H (upd B a (.lst xs)) φ (S.set n .dead) ∧ Xt H B φ H (upd B a (.lst xs)) φ := by
  obtain ⟨hb, xs, hx, hr⟩ : CellR G H B φ a (.lst ds) := w.cell n a _ hn hs
  have hl : n < φ.length := (List.getElem?_eq_some_iff.mp hn).1
  have sb : Same B (upd B a (.lst xs)) := same_upd' hb
  have old : ∀ {i : Nat} {c : Cell}, (S.set n .dead)[i]? = some c → (i = n ∧ c = .dead) ∨ (i ≠ n ∧ S[i]? = some c) := fun {i c} h => by
    by_cases hi : i = n
    · subst hi
      rw [List.getElem?_set_self (by rw [← w.len]; exact hl)] at h
      exact .inl ⟨rfl, (Option.some.inj h).symm⟩
    · rw [List.getElem?_set_ne (Ne.symm hi)] at h
      exact .inr ⟨hi, h⟩
  refine ⟨xs, hx, hb, hr, ⟨fun b x e => ?_, w.nd, by rw [List.length_set]; exact w.len, fun i b c h1 h2 => ?_, fun i j c h1 h2 => ?_⟩, ⟨sb, List.prefix_refl _, fun b u h1 h2 h3 => ?_⟩⟩
  · by_cases q : b = a
    · subst q; rw [upd_same] at e; rw [← e]; exact hx
    · rw [upd_ne q] at e; exact w.sub _ _ e
  · rcases old h2 with ⟨rfl, rfl⟩ | ⟨hi, h2⟩
    · rw [hn] at h1; cases h1; exact ⟨_, hx⟩
    · have na : b ≠ a := fun z => by
        subst z
        have hi' : i < φ.length := (List.getElem?_eq_some_iff.mp h1).1
        exact hi ((List.getElem?_inj hi' w.nd).mp (h1.trans hn.symm))
      have r := w.cell i b c h1 h2
      cases e : c.second with
      | none => exact CellR.stay0 r e sb (List.prefix_refl _) rfl fun _ q => by rw [upd_ne na]; exact q
      | some j => exact CellR.stay2 r e sb (List.prefix_refl _) rfl (fun _ q => by rw [upd_ne na]; exact q) fun dx q1 _ _ q2 => ⟨rfl, by rw [upd_ne (w.two h2 e q1 hn hs (fun z => nomatch z))]; exact q2⟩
  · rcases old h1 with ⟨rfl, rfl⟩ | ⟨hi, h1⟩
    · cases h2
    · have q := w.sec i j c h1 h2
      have nj : j ≠ n := fun z => by subst z; rw [q] at hs; cases hs
      rw [List.getElem?_set_ne (Ne.symm nj)]
      exact q
  · have nb : b ≠ a := fun z => h3 (by subst z; exact List.mem_of_getElem? hn)
    exact ⟨h1, by rw [upd_ne nb]; exact h2, h3⟩
end

/-! ### environments -/
abbrev Nv := List (Option Dv)
structure EnvR (G : Gx) (B : Hp) (φ : List Addr) (σ : L2.St) (ρ : Nv) : Prop where
  len : ρ.length = σ.length
  at_ : ∀ (i : Nat) (d : Dv), ρ[i]? = some (some d) → ∃ v, σ[i]? = some (some v) ∧ RepV G B φ d v
section
variable {G : Gx} {B B' : Hp} {φ φ' : List Addr} {σ : L2.St} {ρ : Nv}
theorem EnvR.mono (e : EnvR G B φ σ ρ) (s : Same B B') (p : φ <+: φ') : EnvR G B' φ' σ ρ :=
  ⟨e.len, fun i d h => let ⟨v, h1, h2⟩ := e.at_ i d h; ⟨v, h1, RepV.mono s p d h2⟩⟩
theorem EnvR.set (e : EnvR G B φ σ ρ) (i : Nat) {d : Dv} {v : V} (r : RepV G B φ d v) : EnvR G B φ (σ.set i (some v)) (ρ.set i (some d)) := by
  refine ⟨by rw [List.length_set, List.length_set]; exact e.len, fun j d' h => ?_⟩
  by_cases hj : j = i
  · subst hj
    have hl : j < ρ.length := by
      have := (List.getElem?_eq_some_iff.mp h).1
      rwa [List.length_set] at this
    rw [List.getElem?_set_self hl] at h
    cases h
    exact ⟨v, List.getElem?_set_self (by rw [← e.len]; exact hl), r⟩
  · rw [List.getElem?_set_ne (Ne.symm hj)] at h ⊢
    exact e.at_ j d' h
theorem EnvR.drop1 (e : EnvR G B φ σ ρ) (i : Nat) (o : Option V) : EnvR G B φ (σ.set i o) (ρ.set i none) := by
  refine ⟨by rw [List.length_set, List.length_set]; exact e.len, fun j d' h => ?_⟩
  by_cases hj : j = i
  · subst hj
    have hl : j < ρ.length := by
      have := (List.getElem?_eq_some_iff.mp h).1
      rwa [List.length_set] at this
    rw [List.getElem?_set_self hl] at h
    cases h
  · rw [List.getElem?_set_ne (Ne.symm hj)] at h ⊢
    exact e.at_ j d' h
def wipeN (ρ : Nv) : List Nat → Nv
  | [] => ρ
  | v :: vs => (wipeN ρ vs).set v none
theorem EnvR.wipe (e : EnvR G B φ σ ρ) : ∀ vs : List Nat, EnvR G B φ (wipe σ vs) (wipeN ρ vs)
  | [] => e
  | v :: vs => (e.wipe vs).drop1 v none
end

/-! ### what is wanted behind a run -/
def XRep (G : Gx) (B : Hp) (x : Ex) (c : Value) (dd : Option Addr) : Prop :=
  c = .ref (G.xc x.cls) ∧ match x.args with
    | [] => dd = none
    | ds => ∃ d vs, dd = some d ∧ B d = some (.xd ((G.xf x.cls).zip vs)) ∧ Reps G B ds vs ∧ ds.length = (G.xf x.cls).length
theorem XRep.mono {G : Gx} {B B' : Hp} {x : Ex} {c : Value} {dd : Option Addr} (e : Same B B') (h : XRep G B x c dd) : XRep G B' x c dd := by
  obtain ⟨h1, h2⟩ := h
  refine ⟨h1, ?_⟩
  cases q : x.args with
  | nil => rw [q] at h2; exact h2
  | cons a r =>
    rw [q] at h2
    obtain ⟨d, vs, e1, e2, e3, e4⟩ := h2
    exact ⟨d, vs, e1, e _ _ e2, Reps.mono e _ e3, e4⟩
def WP {α : Type} (G : Gx) (W : WX) (σ : L2.St) (H B : Hp) (φ : List Addr) (o : Out α) (post : α → Hp → Hp → List Addr → Sto → Prop) : Prop :=
  match o with
  | .ok a S => ∀ H' B' φ', Xt H B φ H' B' φ' → Wd G H' B' φ' S → post a H' B' φ' S
  | .exc x S => ∀ H' B' φ' c dd, Xt H B φ H' B' φ' → Wd G H' B' φ' S → XRep G B' x c dd → W c dd σ H'
  | .bad => False
section
variable {α β : Type} {G : Gx} {W : WX} {σ : L2.St} {H B H1 B1 : Hp} {φ φ1 : List Addr}
theorem WP.mono {o : Out α} {post post' : α → Hp → Hp → List Addr → Sto → Prop} (h : WP G W σ H B φ o post)
    (k : ∀ a H' B' φ' S, Xt H B φ H' B' φ' → Wd G H' B' φ' S → post a H' B' φ' S → post' a H' B' φ' S) : WP G W σ H B φ o post' := by
  cases o with
  | ok a S => exact fun H' B' φ' x w => k _ _ _ _ _ x w (h H' B' φ' x w)
  | exc x S => exact h
  | bad => exact h
theorem WP.rebase {o : Out α} {post : α → Hp → Hp → List Addr → Sto → Prop} (x : Xt H B φ H1 B1 φ1) (h : WP G W σ H B φ o post) : WP G W σ H1 B1 φ1 o post := by
  cases o with
  | ok a S => exact fun H' B' φ' y w => h H' B' φ' (x.trans y) w
  | exc e S => exact fun H' B' φ' c dd y w r => h H' B' φ' c dd (x.trans y) w r
  | bad => exact h
/-- the first part of a run -/
theorem WP.fst {o : Out α} {k : α → Sto → Out β} {post : β → Hp → Hp → List Addr → Sto → Prop} (h : WP G W σ H B φ (o.bind k) post) :
    WP G W σ H B φ o fun a H' B' φ' S' => WP G W σ H' B' φ' (k a S') post := by
  cases o with
  | ok a S => exact fun H' B' φ' x w => WP.rebase x h
  | exc x S => exact h
  | bad => exact h
end

/-! ### readings -/
abbrev Ef := Nv → Sto → Out Dv
def tD (G : Gx) (W : WX) (f : Ef) : TE := fun σ H Q => ∃ ρ B φ S, Wd G H B φ S ∧ EnvR G B φ σ ρ ∧
  WP G W σ H B φ (f ρ S) fun d H' B' φ' S' => ∀ v, RepV G B' φ' d v → Q v H'
theorem wkE {X : Cx} {e : Expr} {t t' : TE} (h : PE X e t) (k : ∀ σ H Q, t' σ H Q → t σ H Q) : PE X e t' :=
  ⟨fun pins s σ H Q I q => h.run pins s σ H Q I (k σ H Q q)⟩
section
variable {G : Gx} {W : WX} {f g : Ef} {σ : L2.St} {H : Hp} {Q : VK}
/-- how a reading is opened -/
theorem tD.run {ρ : Nv} {B : Hp} {φ : List Addr} {S : Sto} {post : Dv → Hp → Hp → List Addr → Sto → Prop} (w : Wd G H B φ S) (e : EnvR G B φ σ ρ) (h : WP G W σ H B φ (f ρ S) post)
    (k : ∀ d v H' B' φ' S', Xt H B φ H' B' φ' → Wd G H' B' φ' S' → EnvR G B' φ' σ ρ → RepV G B' φ' d v → post d H' B' φ' S' → Q v H') : tD G W f σ H Q :=
  ⟨ρ, B, φ, S, w, e, h.mono fun d H' B' φ' S' x w' q v r => k d v H' B' φ' S' x w' (e.mono x.b x.p) r q⟩
end
end DL

namespace DL
open PySem L2
open PySem.Spec PyProof.Rows
/-! ### small things about Rep -/
section
variable {G : Gx} {B : Hp} {φ : List Addr} {v : V}
theorem rep_int {i : Int} : RepV G B φ (.p (.int i)) v ↔ v = .int i := by unfold RepV; unfold Rep; exact Iff.rfl
theorem rep_bl {b : Bool} : RepV G B φ (.p (.bl b)) v ↔ v = .bl b := by unfold RepV; unfold Rep; exact Iff.rfl
theorem rep_str {x : Str} : RepV G B φ (.p (.str x)) v ↔ v = .str x := by unfold RepV; unfold Rep; exact Iff.rfl
theorem rep_non : RepV G B φ (.p .non) v ↔ v = .non := by unfold RepV; unfold Rep; exact Iff.rfl
theorem rep_tup {ds : List D} : RepV G B φ (.p (.tup ds)) v ↔ ∃ a xs, v = .ref a ∧ SqT G.K B a xs ∧ Reps G B ds xs := by unfold RepV; unfold Rep; exact Iff.rfl
theorem rep_lst {ds : List D} : RepV G B φ (.p (.lst ds)) v ↔ ∃ a xs, v = .ref a ∧ B a = some (.lst xs) ∧ Reps G B ds xs := by unfold RepV; unfold Rep; exact Iff.rfl
theorem rep_rul {ds : List D} : RepV G B φ (.p (.rul ds)) v ↔ ∃ a dx t xs, v = .ref a ∧ B a = some (SlX.SlO a G.rc dx [some (.ref t)]) ∧ B dx = some (.xd []) ∧ SqT G.K B t xs ∧ Reps G B ds xs := by unfold RepV; unfold Rep; exact Iff.rfl
theorem rep_scr {ns : List Int} : RepV G B φ (.p (.scr ns)) v ↔ ∃ a, v = .ref a ∧ SqL G.K B a (ns.map V.int) := by unfold RepV; unfold Rep; exact Iff.rfl
end
abbrev Op1 := Dv → Sto → Out Dv
abbrev Op2 := Dv → Dv → Sto → Out Dv
abbrev OpN := List Dv → Sto → Out Dv
/-- what an operator's rule asks, met by the function -/
def Ok1 (G : Gx) (W : WX) (r : V → Hp → VK → Prop) (op : Op1) : Prop := ∀ H B φ S σ x v Q, Wd G H B φ S → RepV G B φ x v →
  WP G W σ H B φ (op x S) (fun d H' B' φ' _ => ∀ z, RepV G B' φ' d z → Q z H') → r v H Q
def Ok2 (G : Gx) (W : WX) (r : R2) (op : Op2) : Prop := ∀ H B φ S σ x y v u Q, Wd G H B φ S → RepV G B φ x v → RepV G B φ y u →
  WP G W σ H B φ (op x y S) (fun d H' B' φ' _ => ∀ z, RepV G B' φ' d z → Q z H') → r v u H Q
def OkN (G : Gx) (W : WX) (r : List V → Hp → VK → Prop) (op : OpN) : Prop := ∀ H B φ S σ xs vs Q, Wd G H B φ S → RepVs G B φ xs vs →
  WP G W σ H B φ (op xs S) (fun d H' B' φ' _ => ∀ z, RepV G B' φ' d z → Q z H') → r vs H Q
/-! ### the functions of syntax -/
def dName (i : Nat) : Ef := fun ρ S => match ρ[i]? with
  | some (some d) => .ok d S
  | _ => .bad
def dC (d : D) : Ef := fun _ S => .ok (.p d) S
def dUn (op : Op1) (f : Ef) : Ef := fun ρ S => (f ρ S).bind op
def dBin (op : Op2) (f g : Ef) : Ef := fun ρ S => (f ρ S).bind fun x S1 => (g ρ S1).bind fun y S2 => op x y S2
abbrev Tf := Nv → Sto → Out Bool
def dIf (c : Tf) (f g : Ef) : Ef := fun ρ S => (c ρ S).bind fun b S1 => if b = true then f ρ S1 else g ρ S1
abbrev Af := Nv → Sto → Out (List Dv)
def aNil : Af := fun _ S => .ok [] S
def aCons (f : Ef) (r : Af) : Af := fun ρ S => (f ρ S).bind fun x S1 => (r ρ S1).bind fun xs S2 => .ok (x :: xs) S2
def dCall (op : OpN) (a : Af) : Ef := fun ρ S => (a ρ S).bind op
/-- tests -/
def tT (G : Gx) (W : WX) (f : Tf) : TT := fun σ H Q => ∃ ρ B φ S, Wd G H B φ S ∧ EnvR G B φ σ ρ ∧
  WP G W σ H B φ (f ρ S) fun b H' _ _ _ => Q b H'
def tA (G : Gx) (W : WX) (f : Af) : TA := fun σ H Q => ∃ ρ B φ S, Wd G H B φ S ∧ EnvR G B φ σ ρ ∧
  WP G W σ H B φ (f ρ S) fun xs H' B' φ' _ => ∀ vs, RepVs G B' φ' xs vs → Q vs H'
def cVal (f : Ef) : Tf := fun ρ S => (f ρ S).bind fun d S1 => match d with
  | .p (.bl b) => .ok b S1
  | _ => .bad
def cNot (c : Tf) : Tf := fun ρ S => (c ρ S).bind fun b S1 => .ok (!b) S1
def cAnd (c d : Tf) : Tf := fun ρ S => (c ρ S).bind fun b S1 => if b = true then d ρ S1 else .ok false S1
def cOr (c d : Tf) : Tf := fun ρ S => (c ρ S).bind fun b S1 => if b = true then .ok true S1 else d ρ S1
/-- and, or of bools as values -/
def dAnd (f g : Ef) : Ef := fun ρ S => (f ρ S).bind fun d S1 => match d with
  | .p (.bl b) => if b = true then g ρ S1 else .ok (.p (.bl false)) S1
  | _ => .bad
def dOr (f g : Ef) : Ef := fun ρ S => (f ρ S).bind fun d S1 => match d with
  | .p (.bl b) => if b = true then .ok (.p (.bl true)) S1 else g ρ S1
  | _ => .bad
def dNot (f : Ef) : Ef := fun ρ S => (f ρ S).bind fun d S1 => match d with
  | .p (.bl b) => .ok (.p (.bl (!b))) S1
  | _ => .bad
section
variable {X : Cx} {G : Gx} {W : WX} {f g : Ef} {c d : Tf} {a b e : Expr} {pos : Pos}
theorem wkT {t t' : TT} (h : PT X e t) (k : ∀ σ H Q, t' σ H Q → t σ H Q) : PT X e t' :=
  ⟨fun pins s σ H Q I q => h.run pins s σ H Q I (k σ H Q q)⟩
theorem wkW {t t' : TT} (h : PW X e t) (k : ∀ σ H Q, t' σ H Q → t σ H Q) : PW X e t' :=
  ⟨fun wh pins s σ H Q I q => h.run wh pins s σ H Q I (k σ H Q q)⟩
theorem wkA {es : List Expr} {t t' : TA} (h : PA X es t) (k : ∀ σ H Q, t' σ H Q → t σ H Q) : PA X es t' :=
  ⟨fun pos pins s σ H Q I q => h.run pos pins s σ H Q I (k σ H Q q)⟩
theorem de_name (i : Nat) {x : Str} (hN : X.N[i]? = some x := by rfl) (hv : Vis X.env.scope x := by first | exact Or.inl rfl | exact Or.inr (Or.inl rfl) | exact Or.inr (Or.inr rfl)) (hd : (x == ("__debug__" : Str)) = false := by decide)
    (hcd : (x == ("__classdict__" : Str)) = false := by decide) : PE X (.Name x pos) (tD G W (dName i)) := by
  refine wkE (pe_var hN hv hd hcd) fun σ H Q ⟨ρ, B, φ, S, w, en, h⟩ => ?_
  unfold dName at h
  split at h
  · rename_i dv q
    obtain ⟨v, h1, h2⟩ := en.at_ i dv q
    exact ⟨v, h1, h H B φ Xt.refl w v h2⟩
  · exact h.elim
theorem de_const {dd : D} {v : V} (h : PE X e (tC v)) (k : ∀ B, Rep G B dd v) (u : ∀ B z, Rep G B dd z → z = v) : PE X e (tD G W (dC dd)) :=
  wkE h fun σ H Q ⟨ρ, B, φ, S, w, en, h⟩ => h H B φ Xt.refl w v (k B)
theorem de_int {i : Int} {j} : PE X (.Constant (.int i) j pos) (tD G W (dC (.int i))) := de_const pe_int (fun B => by rw [Rep]) fun B z h => by rw [Rep] at h; exact h
theorem de_bl {i : Bool} {j} : PE X (.Constant (.bool i) j pos) (tD G W (dC (.bl i))) := de_const pe_bl (fun B => by rw [Rep]) fun B z h => by rw [Rep] at h; exact h
theorem de_str {x : Str} {j} : PE X (.Constant (.str x) j pos) (tD G W (dC (.str x))) := de_const pe_str (fun B => by rw [Rep]) fun B z h => by rw [Rep] at h; exact h
theorem de_non {j} : PE X (.Constant .none j pos) (tD G W (dC .non)) := de_const pe_non (fun B => by rw [Rep]) fun B z h => by rw [Rep] at h; exact h
/-- how a reading of two is opened -/
theorem two_t {r : R2} {op : Op2} (h : Ok2 G W r op) (σ : L2.St) (H : Hp) (Q : VK) (q : tD G W (dBin op f g) σ H Q) : tOp r (tD G W f) (tD G W g) σ H Q := by
  obtain ⟨ρ, B, φ, S, w, en, q⟩ := q
  refine tD.run w en (WP.fst q) fun x v H1 B1 φ1 S1 x1 w1 en1 r1 q1 => ?_
  refine tD.run w1 en1 (WP.fst q1) fun y u H2 B2 φ2 S2 x2 w2 en2 r2 q2 => ?_
  exact h H2 B2 φ2 S2 σ x y v u Q w2 (RepV.mono x2.b x2.p x r1) r2 q2
theorem de_bin {o : Operator} {r : R2} {op : Op2} (ho : OpR X (binaryOp o) r) (h : Ok2 G W r op) (ha : PE X a (tD G W f)) (hb : PE X b (tD G W g)) : PE X (.BinOp a o b pos) (tD G W (dBin op f g)) :=
  wkE (pe_op ho ha hb) (two_t h)
theorem de_cmp {o : CmpOp} {r : R2} {op : Op2} (ho : OpR X (compareOp o) r) (h : Ok2 G W r op) (ha : PE X a (tD G W f)) (hb : PE X b (tD G W g)) (hm : behindInMarks o b = false) : PE X (.Compare a [o] [b] pos) (tD G W (dBin op f g)) :=
  wkE (pe_cmpR ho ha hb hm) (two_t h)
theorem de_ix {r : R2} {op : Op2} (hr : IxR X r) (h : Ok2 G W r op) (ha : PE X a (tD G W f)) (hb : PE X b (tD G W g)) (hs : PlainIx b) : PE X (.Subscript a b pos) (tD G W (dBin op f g)) :=
  wkE (pe_ix hr ha hb hs) (two_t h)
theorem de_un {o : UnaryOp} {r : V → Hp → VK → Prop} {op : Op1} (ho : UnR X (unaryOp o) r) (h : Ok1 G W r op) (ha : PE X a (tD G W f)) : PE X (.UnaryOp o a pos) (tD G W (dUn op f)) := by
  refine wkE (pe_un ho ha) fun σ H Q ⟨ρ, B, φ, S, w, en, q⟩ => ?_
  refine tD.run w en (WP.fst q) fun x v H1 B1 φ1 S1 x1 w1 en1 r1 q1 => ?_
  exact h H1 B1 φ1 S1 σ x v Q w1 r1 q1
/-- a chain a < b < c -/
def dChain (op op' : Op2) (f g k : Ef) : Ef := fun ρ S => (f ρ S).bind fun x S1 => (g ρ S1).bind fun y S2 => (op x y S2).bind fun z S3 => match z with
  | .p (.bl t) => if t = true then (k ρ S3).bind fun u S4 => op' y u S4 else .ok (.p (.bl false)) S3
  | _ => .bad
/-! tests -/
theorem dt_val (h : PE X e (tD G W f)) (he : ∀ whole, isTrue e X.env whole = (do let v ← whole; standAt e.pos; holding [v] (truthy v)) := by intro _; rfl) : PT X e (tT G W (cVal f)) := by
  refine wkT (pt_val h he) fun σ H Q ⟨ρ, B, φ, S, w, en, q⟩ => ?_
  refine tD.run w en (WP.fst q) fun x v H1 B1 φ1 S1 x1 w1 en1 r1 q1 => ?_
  split at q1
  · rw [rep_bl] at r1
    exact ⟨_, r1, q1 H1 B1 φ1 Xt.refl w1⟩
  · exact q1.elim
theorem dt_cmp {o : CmpOp} {r : R2} {op : Op2} (ho : OpR X (compareOp o) r) (h : Ok2 G W r op) (ha : PE X a (tD G W f)) (hb : PE X b (tD G W g)) (hm : behindInMarks o b = false) : PT X (.Compare a [o] [b] pos) (tT G W (cVal (dBin op f g))) := by
  refine wkT (pt_cmpR ho ha hb hm) fun σ H Q ⟨ρ, B, φ, S, w, en, q⟩ => ?_
  refine two_t h σ H _ ⟨ρ, B, φ, S, w, en, ?_⟩
  refine (WP.fst q).mono fun x H1 B1 φ1 S1 x1 w1 q1 v r1 => ?_
  split at q1
  · rw [rep_bl] at r1
    exact ⟨_, r1, q1 H1 B1 φ1 Xt.refl w1⟩
  · exact q1.elim
theorem tT.run {σ : L2.St} {H : Hp} {Q : Bool → Hp → Prop} {ρ : Nv} {B : Hp} {φ : List Addr} {S : Sto} {post : Bool → Hp → Hp → List Addr → Sto → Prop} (w : Wd G H B φ S) (en : EnvR G B φ σ ρ) (h : WP G W σ H B φ (c ρ S) post)
    (k : ∀ t H' B' φ' S', Xt H B φ H' B' φ' → Wd G H' B' φ' S' → EnvR G B' φ' σ ρ → post t H' B' φ' S' → Q t H') : tT G W c σ H Q :=
  ⟨ρ, B, φ, S, w, en, h.mono fun t H' B' φ' S' x w' q => k t H' B' φ' S' x w' (en.mono x.b x.p) q⟩
theorem dt_not (ha : PT X a (tT G W c)) : PT X (.UnaryOp .Not a pos) (tT G W (cNot c)) := by
  refine wkT (pt_not ha) fun σ H Q ⟨ρ, B, φ, S, w, en, q⟩ => ?_
  exact tT.run w en (WP.fst q) fun t H1 B1 φ1 S1 x1 w1 en1 q1 => q1 H1 B1 φ1 Xt.refl w1
theorem dw_and1 (ha : PT X a (tT G W c)) : PW X (.BoolOp .And [a] pos) (tT G W c) := pw_and1 ha
theorem dw_or1 (ha : PT X a (tT G W c)) : PW X (.BoolOp .Or [a] pos) (tT G W c) := pw_or1 ha
theorem dw_and {rest : List Expr} (ha : PT X a (tT G W c)) (hb : PW X (.BoolOp .And (b :: rest) pos) (tT G W d)) : PW X (.BoolOp .And (a :: b :: rest) pos) (tT G W (cAnd c d)) := by
  refine wkW (pw_and ha hb) fun σ H Q ⟨ρ, B, φ, S, w, en, q⟩ => ?_
  refine tT.run w en (WP.fst q) fun t H1 B1 φ1 S1 x1 w1 en1 q1 => ?_
  cases t with
  | true => rw [if_pos rfl] at q1 ⊢; exact ⟨ρ, B1, φ1, S1, w1, en1, q1⟩
  | false => rw [if_neg Bool.false_ne_true] at q1 ⊢; exact q1 H1 B1 φ1 Xt.refl w1
theorem dw_or {rest : List Expr} (ha : PT X a (tT G W c)) (hb : PW X (.BoolOp .Or (b :: rest) pos) (tT G W d)) : PW X (.BoolOp .Or (a :: b :: rest) pos) (tT G W (cOr c d)) := by
  refine wkW (pw_or ha hb) fun σ H Q ⟨ρ, B, φ, S, w, en, q⟩ => ?_
  refine tT.run w en (WP.fst q) fun t H1 B1 φ1 S1 x1 w1 en1 q1 => ?_
  cases t with
  | true => rw [if_pos rfl] at q1 ⊢; exact q1 H1 B1 φ1 Xt.refl w1
  | false => rw [if_neg Bool.false_ne_true] at q1 ⊢; exact ⟨ρ, B1, φ1, S1, w1, en1, q1⟩
theorem de_if {cc : Expr} (hc : PT X cc (tT G W c)) (ha : PE X a (tD G W f)) (hb : PE X b (tD G W g)) : PE X (.IfExp cc a b pos) (tD G W (dIf c f g)) := by
  refine wkE (pe_ifExp hc ha hb) fun σ H Q ⟨ρ, B, φ, S, w, en, q⟩ => ?_
  refine tT.run w en (WP.fst q) fun t H1 B1 φ1 S1 x1 w1 en1 q1 => ?_
  cases t with
  | true => rw [if_pos rfl] at q1 ⊢; exact ⟨ρ, B1, φ1, S1, w1, en1, q1⟩
  | false => rw [if_neg Bool.false_ne_true] at q1 ⊢; exact ⟨ρ, B1, φ1, S1, w1, en1, q1⟩
theorem de_one {op} (h : PE X a (tD G W f)) : PE X (.BoolOp op [a] pos) (tD G W f) := pe_one h
theorem de_and {rest : List Expr} (ha : PE X a (tD G W f)) (hb : PE X (.BoolOp .And (b :: rest) pos) (tD G W g)) : PE X (.BoolOp .And (a :: b :: rest) pos) (tD G W (dAnd f g)) := by
  refine wkE (pe_and ha hb) fun σ H Q ⟨ρ, B, φ, S, w, en, q⟩ => ?_
  refine tD.run w en (WP.fst q) fun x v H1 B1 φ1 S1 x1 w1 en1 r1 q1 => ?_
  split at q1
  · rename_i t
    rw [rep_bl] at r1
    refine ⟨t, r1, ?_⟩
    cases t with
    | true => rw [if_pos rfl] at q1 ⊢; exact ⟨ρ, B1, φ1, S1, w1, en1, q1⟩
    | false => rw [if_neg Bool.false_ne_true] at q1 ⊢; exact q1 H1 B1 φ1 Xt.refl w1 _ (rep_bl.mpr rfl)
  · exact q1.elim
theorem de_or {rest : List Expr} (ha : PE X a (tD G W f)) (hb : PE X (.BoolOp .Or (b :: rest) pos) (tD G W g)) : PE X (.BoolOp .Or (a :: b :: rest) pos) (tD G W (dOr f g)) := by
  refine wkE (pe_or ha hb) fun σ H Q ⟨ρ, B, φ, S, w, en, q⟩ => ?_
  refine tD.run w en (WP.fst q) fun x v H1 B1 φ1 S1 x1 w1 en1 r1 q1 => ?_
  split at q1
  · rename_i t
    rw [rep_bl] at r1
    refine ⟨t, r1, ?_⟩
    cases t with
    | true => rw [if_pos rfl] at q1 ⊢; exact q1 H1 B1 φ1 Xt.refl w1 _ (rep_bl.mpr rfl)
    | false => rw [if_neg Bool.false_ne_true] at q1 ⊢; exact ⟨ρ, B1, φ1, S1, w1, en1, q1⟩
  · exact q1.elim
theorem de_not (ha : PE X a (tD G W f)) : PE X (.UnaryOp .Not a pos) (tD G W (dNot f)) := by
  refine wkE (pe_not ha) fun σ H Q ⟨ρ, B, φ, S, w, en, q⟩ => ?_
  refine tD.run w en (WP.fst q) fun x v H1 B1 φ1 S1 x1 w1 en1 r1 q1 => ?_
  split at q1
  · rename_i t
    rw [rep_bl] at r1
    exact ⟨t, r1, q1 H1 B1 φ1 Xt.refl w1 _ (rep_bl.mpr rfl)⟩
  · exact q1.elim
theorem de_chain {o o' : CmpOp} {r r' : R2} {op op' : Op2} {kk : Ef} {c3 : Expr} (hq : PE X (.Compare a [o, o'] [b, c3] pos) (tChain r r' (tD G W f) (tD G W g) (tD G W kk))) (h : Ok2 G W r op) (h' : Ok2 G W r' op') :
    PE X (.Compare a [o, o'] [b, c3] pos) (tD G W (dChain op op' f g kk)) := by
  refine wkE hq fun σ H Q ⟨ρ, B, φ, S, w, en, q⟩ => ?_
  refine tD.run w en (WP.fst q) fun x v H1 B1 φ1 S1 x1 w1 en1 r1 q1 => ?_
  refine tD.run w1 en1 (WP.fst q1) fun y u H2 B2 φ2 S2 x2 w2 en2 r2 q2 => ?_
  refine h H2 B2 φ2 S2 σ x y v u _ w2 (RepV.mono x2.b x2.p x r1) r2 ((WP.fst q2).mono fun z H3 B3 φ3 S3 x3 w3 q3 v3 r3 => ?_)
  split at q3
  · rename_i t
    rw [rep_bl] at r3
    refine ⟨t, r3, ?_⟩
    cases t with
    | true =>
      rw [if_pos rfl] at q3
      refine tD.run w3 (en2.mono x3.b x3.p) (WP.fst q3) fun u4 v4 H4 B4 φ4 S4 x4 w4 en4 r4 q4 => ?_
      exact h' H4 B4 φ4 S4 σ y u4 u v4 Q w4 (RepV.mono x4.b x4.p y (RepV.mono x3.b x3.p y r2)) r4 q4
    | false =>
      rw [if_neg Bool.false_ne_true] at q3
      exact q3 H3 B3 φ3 Xt.refl w3 _ (rep_bl.mpr rfl)
  · exact q3.elim
/-! arguments -/
variable {af : Af} {es : List Expr}
theorem da_nil : PA X [] (tA G W aNil) := wkA pa_nil fun σ H Q ⟨ρ, B, φ, S, w, en, q⟩ => q H B φ Xt.refl w [] rfl
theorem tA.run {σ : L2.St} {H : Hp} {Q : List V → Hp → Prop} {ρ : Nv} {B : Hp} {φ : List Addr} {S : Sto} {post : List Dv → Hp → Hp → List Addr → Sto → Prop} (w : Wd G H B φ S) (en : EnvR G B φ σ ρ) (h : WP G W σ H B φ (af ρ S) post)
    (k : ∀ ds vs H' B' φ' S', Xt H B φ H' B' φ' → Wd G H' B' φ' S' → EnvR G B' φ' σ ρ → RepVs G B' φ' ds vs → post ds H' B' φ' S' → Q vs H') : tA G W af σ H Q :=
  ⟨ρ, B, φ, S, w, en, h.mono fun ds H' B' φ' S' x w' q vs r => k ds vs H' B' φ' S' x w' (en.mono x.b x.p) r q⟩
theorem da_cons (ha : PE X e (tD G W f)) (hr : PA X es (tA G W af)) (hs : starEach (e :: es) X.env = (false, eval e X.env) :: starEach es X.env := by rfl) : PA X (e :: es) (tA G W (aCons f af)) := by
  refine wkA (pa_cons ha hr hs) fun σ H Q ⟨ρ, B, φ, S, w, en, q⟩ => ?_
  refine tD.run w en (WP.fst q) fun x v H1 B1 φ1 S1 x1 w1 en1 r1 q1 => ?_
  refine tA.run w1 en1 (WP.fst q1) fun ds vs H2 B2 φ2 S2 x2 w2 en2 r2 q2 => ?_
  exact q2 H2 B2 φ2 Xt.refl w2 _ ⟨v, vs, rfl, RepV.mono x2.b x2.p x r1, r2⟩
/-! displays -/
def allP : List Dv → Option (List D)
  | [] => some []
  | .p d :: r => (allP r).map (d :: ·)
  | .hnd _ :: _ => none
theorem allP_rep {B : Hp} {φ : List Addr} : ∀ {ds : List Dv} {vs : List V} {es : List D}, allP ds = some es → RepVs G B φ ds vs → Reps G B es vs
  | [], _, _, h, r => by
    simp [allP] at h; subst h; rw [show _ = [] from r]; exact Reps.nil
  | .p d :: r, _, _, h, ⟨x, t, e1, h1, h2⟩ => by
    simp only [allP, Option.map_eq_some_iff] at h
    obtain ⟨es, q1, rfl⟩ := h
    subst e1
    exact Reps.cons h1 (allP_rep q1 h2)
  | .hnd _ :: _, _, _, h, _ => by simp [allP] at h
def big : Nat := 16777216
def dTup (a : Af) : Ef := fun ρ S => (a ρ S).bind fun xs S1 => match allP xs with
  | some ds => if ds.length ≤ big then .ok (.p (.tup ds)) S1 else .bad
  | none => .bad
def dLst (a : Af) : Ef := fun ρ S => (a ρ S).bind fun xs S1 => match allP xs with
  | some ds => if ds.length ≤ big then .ok (.p (.lst ds)) S1 else .bad
  | none => .bad
theorem big_eq : big = sizeLine := by rw [sizeLine_eq]; rfl
theorem de_tup {x1} (h : PA X es (tA G W af)) : PE X (.Tuple es x1 pos) (tD G W (dTup af)) := by
  refine wkE (pe_tup h) fun σ H Q ⟨ρ, B, φ, S, w, en, q⟩ => ?_
  refine tA.run w en (WP.fst q) fun xs vs H1 B1 φ1 S1 x1 w1 en1 r1 q1 => ?_
  split at q1
  · rename_i ds hd
    have r2 := allP_rep hd r1
    split at q1
    · rename_i hl
      refine ⟨by rw [← r2.length, ← big_eq]; exact hl, fun p hp => q1 _ _ _ (Xt.alloc w1 hp) (w1.alloc hp) _ ?_⟩
      exact rep_tup.mpr ⟨p, vs, rfl, SqT.of upd_same, Reps.mono (same_upd' (w1.bfree hp)) _ r2⟩
    · exact q1.elim
  · exact q1.elim
theorem de_lst (h : PA X es (tA G W af)) : PE X (.List es pos) (tD G W (dLst af)) := by
  refine wkE (pe_lst h) fun σ H Q ⟨ρ, B, φ, S, w, en, q⟩ => ?_
  refine tA.run w en (WP.fst q) fun xs vs H1 B1 φ1 S1 x1 w1 en1 r1 q1 => ?_
  split at q1
  · rename_i ds hd
    have r2 := allP_rep hd r1
    split at q1
    · rename_i hl
      refine ⟨by rw [← r2.length, ← big_eq]; exact hl, fun p hp => q1 _ _ _ (Xt.alloc w1 hp) (w1.alloc hp) _ ?_⟩
      exact rep_lst.mpr ⟨p, vs, rfl, upd_same, Reps.mono (same_upd' (w1.bfree hp)) _ r2⟩
    · exact q1.elim
  · exact q1.elim
/-- a list that will be changed: a cell -/
def dLstC (a : Af) : Ef := fun ρ S => (a ρ S).bind fun xs S1 => match allP xs with
  | some ds => if ds.length ≤ big then .ok (.hnd S1.length) (S1 ++ [.lst ds]) else .bad
  | none => .bad
def dLstR (a : Af) : Ef := fun ρ S => (a ρ S).bind fun xs S1 => if xs.length ≤ big then .ok (.hnd S1.length) (S1 ++ [.rcd xs]) else .bad
theorem cell_new {H B : Hp} {φ : List Addr} {S : Sto} {p : Addr} {o : HO} {c : Cell} (w : Wd G H B φ S) (hp : H p = none) (hc : CellR G (upd H p o) B (φ ++ [p]) p c) (hs : c.second = none := by rfl) :
    Wd G (upd H p o) B (φ ++ [p]) (S ++ [c]) ∧ Xt H B φ (upd H p o) B (φ ++ [p]) ∧ RepV G B (φ ++ [p]) (.hnd S.length) (.ref p) := by
  have hf := w.fresh hp
  refine ⟨(w.hide hp).cellOf upd_same (w.bfree hp) hf hc hs, ⟨Same.refl _, List.prefix_append _ _, fun a u h1 h2 h3 => ?_⟩, ⟨p, ?_, rfl⟩⟩
  · have na : a ≠ p := ne_of_none h1 hp
    exact ⟨by rw [upd_ne na]; exact h1, h2, fun z => (List.mem_append.mp z).elim h3 fun z => na (by simpa using z)⟩
  · rw [← w.len, List.getElem?_append_right (Nat.le_refl _), Nat.sub_self]; rfl
theorem de_lstC (h : PA X es (tA G W af)) : PE X (.List es pos) (tD G W (dLstC af)) := by
  refine wkE (pe_lst h) fun σ H Q ⟨ρ, B, φ, S, w, en, q⟩ => ?_
  refine tA.run w en (WP.fst q) fun xs vs H1 B1 φ1 S1 x1 w1 en1 r1 q1 => ?_
  split at q1
  · rename_i ds hd
    have r2 := allP_rep hd r1
    split at q1
    · rename_i hl
      refine ⟨by rw [← r2.length, ← big_eq]; exact hl, fun p hp => ?_⟩
      obtain ⟨w2, x2, rr⟩ := cell_new (c := .lst ds) (o := .lst vs) w1 hp ⟨w1.bfree hp, vs, upd_same, r2⟩
      exact q1 _ _ _ x2 w2 _ rr
    · exact q1.elim
  · exact q1.elim
theorem de_lstR (h : PA X es (tA G W af)) : PE X (.List es pos) (tD G W (dLstR af)) := by
  refine wkE (pe_lst h) fun σ H Q ⟨ρ, B, φ, S, w, en, q⟩ => ?_
  refine tA.run w en (WP.fst q) fun xs vs H1 B1 φ1 S1 x1 w1 en1 r1 q1 => ?_
  split at q1
  · rename_i hl
    refine ⟨by rw [← r1.length, ← big_eq]; exact hl, fun p hp => ?_⟩
    obtain ⟨w2, x2, rr⟩ := cell_new (c := .rcd xs) (o := .lst vs) w1 hp ⟨w1.bfree hp, vs, upd_same, RepVs.mono (Same.refl _) (List.prefix_append _ _) _ r1⟩
    exact q1 _ _ _ x2 w2 _ rr
  · exact q1.elim
end
end DL

namespace DL
open PySem L2
open PySem.Spec PyProof.Rows
/-! ### operators on data -/
def vw (S : Sto) : Dv → Option (List D)
  | .p (.lst ds) => some ds
  | .hnd n => match S[n]? with
    | some (.lst ds) => some ds
    | _ => none
  | _ => none
section
variable {X : Cx} {G : Gx} {W : WX}
variable {H B : Hp} {φ : List Addr} {S : Sto} {x : Dv} {v : V}
theorem vw_at {ds : List D} (w : Wd G H B φ S) (r : RepV G B φ x v) (h : vw S x = some ds) : ∃ a xs, v = .ref a ∧ H a = some (.lst xs) ∧ Reps G B ds xs := by
  unfold vw at h
  split at h
  · cases h
    obtain ⟨a, xs, e, h1, h2⟩ := rep_lst.mp r
    exact ⟨a, xs, e, w.sub _ _ h1, h2⟩
  · rename_i n
    split at h
    · rename_i ds' hs
      cases h
      obtain ⟨a, h1, h2⟩ := r
      obtain ⟨_, xs, h3, h4⟩ := w.cell n a _ h1 hs
      exact ⟨a, xs, h2, h3, h4⟩
    · cases h
  · cases h
def oAdd : Op2 := fun x y S => match x, y with
  | .p (.int i), .p (.int j) => .ok (.p (.int (i + j))) S
  | .p (.str x), .p (.str y) => if x.length + y.length ≤ big then .ok (.p (.str (x ++ y))) S else .bad
  | .p (.tup a), .p (.tup b) => if a.isEmpty = false ∧ b.isEmpty = false ∧ a.length + b.length ≤ big then .ok (.p (.tup (a ++ b))) S else .bad
  | x, y => match vw S x, vw S y with
    | some a, some b => if a.length + b.length ≤ big then .ok (.p (.lst (a ++ b))) S else .bad
    | _, _ => .bad
abbrev rStr : R2 := fun x y H Q => ∃ i j, x = .str i ∧ y = .str j ∧ i.length + j.length ≤ sizeLine ∧ Q (.str (i ++ j)) H
abbrev rAddD (K : PySem.W.Frag) : R2 := fun x y H Q => rI0 (fun i j => .int (i + j)) x y H Q ∨ rStr x y H Q ∨ rCat x y H Q ∨ rCatT K x y H Q
theorem oAdd_op : OpR X (binaryOp .Add) (rAddD X.K) := op_add.or (op_add_str.or (op_cat.or op_catT))
theorem oAdd_ok : Ok2 G W (rAddD G.K) oAdd := by
  intro H B φ S σ x y v u Q w r1 r2 h
  unfold oAdd at h
  split at h
  · rw [rep_int] at r1 r2
    exact .inl ⟨_, _, r1, r2, h H B φ Xt.refl w _ (rep_int.mpr rfl)⟩
  · rw [rep_str] at r1 r2
    split at h
    · rename_i hl
      exact .inr (.inl ⟨_, _, r1, r2, by rw [← big_eq]; exact hl, h H B φ Xt.refl w _ (rep_str.mpr rfl)⟩)
    · exact h.elim
  · split at h
    · rename_i a b hl
      obtain ⟨p, xs, rfl, s1, q1⟩ := rep_tup.mp r1
      obtain ⟨p', ys, rfl, s2, q2⟩ := rep_tup.mp r2
      have ne : ∀ {l : List D} {z : List V}, Reps G B l z → l.isEmpty = false → z ≠ [] := fun {l z} q e z0 => by
        have := q.length
        rw [z0] at this
        cases l with
        | nil => simp at e
        | cons _ _ => simp at this
      refine .inr (.inr (.inr ⟨p, p', xs, ys, rfl, rfl, sqT_mono w.sub s1, sqT_mono w.sub s2, ne q1 hl.1, by rw [← big_eq, ← q1.length, ← q2.length]; exact hl.2.2, fun z => absurd z (ne q2 hl.2.1), fun _ t ht => ?_⟩))
      exact h _ _ _ (Xt.alloc w ht) (w.alloc ht) _ (rep_tup.mpr ⟨t, _, rfl, SqT.of upd_same, Reps.mono (same_upd' (w.bfree ht)) _ (q1.append q2)⟩)
    · exact h.elim
  · split at h
    · rename_i a b e1 e2
      split at h
      · rename_i hl
        obtain ⟨p, xs, rfl, s1, q1⟩ := vw_at w r1 e1
        obtain ⟨p', ys, rfl, s2, q2⟩ := vw_at w r2 e2
        refine .inr (.inr (.inl ⟨p, p', xs, ys, rfl, rfl, s1, s2, by rw [← big_eq, ← q1.length, ← q2.length]; exact hl, fun t ht => ?_⟩))
        exact h _ _ _ (Xt.alloc w ht) (w.alloc ht) _ (rep_lst.mpr ⟨t, _, rfl, upd_same, Reps.mono (same_upd' (w.bfree ht)) _ (q1.append q2)⟩)
      · exact h.elim
    · exact h.elim
/-- an operator of two ints -/
def oInt (C : Int → Int → Bool) (g : Int → Int → D) : Op2 := fun x y S => match x, y with
  | .p (.int i), .p (.int j) => if C i j = true then .ok (.p (g i j)) S else .bad
  | _, _ => .bad
theorem oInt_ok {C : Int → Int → Bool} {g : Int → Int → D} {C' : Int → Int → Prop} {g' : Int → Int → V} (hC : ∀ i j, C i j = true → C' i j) (hg : ∀ B i j, Rep G B (g i j) (g' i j)) : Ok2 G W (rI C' g') (oInt C g) := by
  intro H B φ S σ x y v u Q w r1 r2 h
  unfold oInt at h
  split at h
  · rw [rep_int] at r1 r2
    split at h
    · rename_i hc
      exact ⟨_, _, r1, r2, hC _ _ hc, h H B φ Xt.refl w _ (hg B _ _)⟩
    · exact h.elim
  · exact h.elim
theorem oInt0_ok {g : Int → Int → D} {g' : Int → Int → V} (hg : ∀ B i j, Rep G B (g i j) (g' i j)) : Ok2 G W (rI0 g') (oInt (fun _ _ => true) g) := by
  intro H B φ S σ x y v u Q w r1 r2 h
  unfold oInt at h
  split at h
  · rw [rep_int] at r1 r2
    rw [if_pos rfl] at h
    exact ⟨_, _, r1, r2, h H B φ Xt.refl w _ (hg B _ _)⟩
  · exact h.elim
theorem rpi {B : Hp} (i : Int) : Rep G B (.int i) (.int i) := by unfold Rep; rfl
theorem rpb {B : Hp} (b : Bool) : Rep G B (.bl b) (.bl b) := by unfold Rep; rfl
abbrev oSub : Op2 := oInt (fun _ _ => true) fun i j => .int (i - j)
abbrev oLt : Op2 := oInt (fun _ _ => true) fun i j => .bl (decide (i < j))
abbrev oLe : Op2 := oInt (fun _ _ => true) fun i j => .bl (decide (i ≤ j))
abbrev oGt : Op2 := oInt (fun _ _ => true) fun i j => .bl (decide (j < i))
abbrev oGe : Op2 := oInt (fun _ _ => true) fun i j => .bl (decide (j ≤ i))
theorem oSub_ok : Ok2 G W (rI0 fun i j => .int (i - j)) oSub := oInt0_ok fun _ _ _ => rpi _
theorem oLt_ok : Ok2 G W (rI0 fun i j => .bl (decide (i < j))) oLt := oInt0_ok fun _ _ _ => rpb _
theorem oLe_ok : Ok2 G W (rI0 fun i j => .bl (decide (i ≤ j))) oLe := oInt0_ok fun _ _ _ => rpb _
theorem oGt_ok : Ok2 G W (rI0 fun i j => .bl (decide (j < i))) oGt := oInt0_ok fun _ _ _ => rpb _
theorem oGe_ok : Ok2 G W (rI0 fun i j => .bl (decide (j ≤ i))) oGe := oInt0_ok fun _ _ _ => rpb _
def wid : Nat := 2 ^ 250
/-- // by a positive number -/
abbrev oDiv : Op2 := oInt (fun i j => decide (0 < j) && decide (j.natAbs < wid)) fun i j => .int (i / j)
abbrev oMod : Op2 := oInt (fun i j => decide (0 < j)) fun i j => .int (i % j)
abbrev oPow : Op2 := oInt (fun i j => decide (0 ≤ j) && decide (j ≤ 1000000) && decide (i.natAbs < 18446744073709551616)) fun i j => .int (i ^ j.toNat)
theorem oDiv_ok : Ok2 G W (rI CDivW fun i j => .int (i / j)) oDiv := oInt_ok (fun i j h => by
  rw [Bool.and_eq_true, decide_eq_true_eq, decide_eq_true_eq] at h
  exact wide_div (b := 250) h.1 h.2 (by decide) (by decide)) fun _ _ _ => rpi _
theorem oMod_ok : Ok2 G W (rI (fun _ j => 0 < j) fun i j => .int (i % j)) oMod := oInt_ok (fun i j h => of_decide_eq_true h) fun _ _ _ => rpi _
theorem oPow_ok : Ok2 G W (rI CPow fun i j => .int (i ^ j.toNat)) oPow := oInt_ok (fun i j h => by
  rw [Bool.and_eq_true, Bool.and_eq_true, decide_eq_true_eq, decide_eq_true_eq, decide_eq_true_eq] at h
  exact ⟨h.1.1, h.1.2, h.2⟩) fun _ _ _ => rpi _
def mulOk (i j : Int) : Bool := decide (i.natAbs < 18446744073709551616) || decide (j.natAbs < 18446744073709551616) || (decide (i.natAbs < wid) && decide (j.natAbs < wid))
def oMul : Op2 := fun x y S => match x, y with
  | .p (.int i), .p (.int j) => if mulOk i j = true then .ok (.p (.int (i * j))) S else .bad
  | x, .p (.int k) => match vw S x with
    | some ds => if -9223372036854775808 ≤ k ∧ k < 9223372036854775808 ∧ ds.length * k.toNat ≤ big then .ok (.p (.lst (List.replicate k.toNat ds).flatten)) S else .bad
    | none => .bad
  | _, _ => .bad
/-- .. a list that will be changed -/
def oMulC : Op2 := fun x y S => match x, y with
  | x, .p (.int k) => match vw S x with
    | some ds => if -9223372036854775808 ≤ k ∧ k < 9223372036854775808 ∧ ds.length * k.toNat ≤ big then .ok (.hnd S.length) (S ++ [.lst (List.replicate k.toNat ds).flatten]) else .bad
    | none => .bad
  | _, _ => .bad
abbrev rMulD : R2 := fun x y H Q => rI CMul (fun i j => .int (i * j)) x y H Q ∨ rI CMulW (fun i j => .int (i * j)) x y H Q ∨ rRep x y H Q
theorem oMul_op : OpR X (binaryOp .Mult) rMulD := op_mul.or (op_mulW.or op_rep)
theorem abs64 {i : Int} (h : i.natAbs < 18446744073709551616) : -(2 ^ 64) < i ∧ i < 2 ^ 64 := by omega
theorem oMul_ok : Ok2 G W rMulD oMul := by
  intro H B φ S σ x y v u Q w r1 r2 h
  unfold oMul at h
  split at h
  · rw [rep_int] at r1 r2
    split at h
    · rename_i i j hc
      have q := h H B φ Xt.refl w _ (rep_int.mpr rfl)
      unfold mulOk at hc
      rw [Bool.or_eq_true, Bool.or_eq_true, Bool.and_eq_true, decide_eq_true_eq, decide_eq_true_eq, decide_eq_true_eq, decide_eq_true_eq] at hc
      rcases hc with (hc | hc) | ⟨h1, h2⟩
      · exact .inl ⟨_, _, r1, r2, .inl (abs64 hc), q⟩
      · exact .inl ⟨_, _, r1, r2, .inr (abs64 hc), q⟩
      · exact .inr (.inl ⟨_, _, r1, r2, wide_mul (a := 250) (b := 250) h1 h2 (by decide) (by decide) (by decide), q⟩)
    · exact h.elim
  · split at h
    · rename_i k _ ds hd
      split at h
      · rename_i hl
        obtain ⟨p, xs, rfl, s1, q1⟩ := vw_at w r1 hd
        rw [rep_int] at r2
        refine .inr (.inr ⟨p, _, xs, rfl, r2, s1, hl.1, hl.2.1, by rw [← big_eq, ← q1.length]; exact hl.2.2, fun t ht => ?_⟩)
        exact h _ _ _ (Xt.alloc w ht) (w.alloc ht) _ (rep_lst.mpr ⟨t, _, rfl, upd_same, Reps.mono (same_upd' (w.bfree ht)) _ (q1.rep _)⟩)
      · exact h.elim
    · exact h.elim
  · exact h.elim
theorem oMulC_ok : Ok2 G W rMulD oMulC := by
  intro H B φ S σ x y v u Q w r1 r2 h
  unfold oMulC at h
  split at h
  · split at h
    · rename_i _ k _ ds hd
      split at h
      · rename_i hl
        obtain ⟨p, xs, rfl, s1, q1⟩ := vw_at w r1 hd
        rw [rep_int] at r2
        refine .inr (.inr ⟨p, _, xs, rfl, r2, s1, hl.1, hl.2.1, by rw [← big_eq, ← q1.length]; exact hl.2.2, fun t ht => ?_⟩)
        obtain ⟨w2, x2, rr⟩ := cell_new (c := .lst (List.replicate k.toNat ds).flatten) (o := .lst (List.replicate k.toNat xs).flatten) w ht ⟨w.bfree ht, _, upd_same, q1.rep _⟩
        exact h _ _ _ x2 w2 _ rr
      · exact h.elim
    · exact h.elim
  · exact h.elim
def uNeg : Op1 := fun x S => match x with
  | .p (.int i) => .ok (.p (.int (-i))) S
  | _ => .bad
theorem uNeg_ok : Ok1 G W (rU fun i => .int (-i)) uNeg := by
  intro H B φ S σ x v Q w r1 h
  unfold uNeg at h
  split at h
  · rw [rep_int] at r1
    exact ⟨_, r1, h H B φ Xt.refl w _ (rep_int.mpr rfl)⟩
  · exact h.elim
/-! == -/
mutual
def toPy : D → Option PyData
  | .non => some .none
  | .bl b => some (.bool b)
  | .int i => some (.int i)
  | .str x => some (.str x)
  | .tup ds => match toPys ds with
    | some es => some (.tuple es)
    | none => none
  | .lst ds => match toPys ds with
    | some es => some (.list es)
    | none => none
  | .rul _ => none
  | .scr _ => none
  | .dct _ => none
  | .dki _ => none
  | .dsi _ => none
def toPys : List D → Option (List PyData)
  | [] => some []
  | d :: ds => match toPy d, toPys ds with
    | some e, some es => some (e :: es)
    | _, _ => none
end
mutual
theorem toPy_dp {G : Gx} {H B : Hp} (w : Same B H) : ∀ (d : D) {v : V} {e : PyData}, Rep G B d v → toPy d = some e → Dp G.K H v e
  | .non, _, _, r, h => by simp [toPy] at h; subst h; unfold Rep at r; subst r; exact .non
  | .bl b, _, _, r, h => by simp [toPy] at h; subst h; unfold Rep at r; subst r; exact .bl b
  | .int b, _, _, r, h => by simp [toPy] at h; subst h; unfold Rep at r; subst r; exact .int b
  | .str b, _, _, r, h => by simp [toPy] at h; subst h; unfold Rep at r; subst r; exact .str b
  | .tup ds, _, _, r, h => by
    unfold toPy at h
    split at h
    · rename_i es he
      cases h
      unfold Rep at r
      obtain ⟨a, xs, rfl, h1, h2⟩ := r
      exact .tup (sqT_mono w h1) (toPys_dp w ds h2 he)
    · cases h
  | .lst ds, _, _, r, h => by
    unfold toPy at h
    split at h
    · rename_i es he
      cases h
      unfold Rep at r
      obtain ⟨a, xs, rfl, h1, h2⟩ := r
      exact .lst (SqL.of (w _ _ h1)) (toPys_dp w ds h2 he)
    · cases h
  | .rul _, _, _, _, h => by simp [toPy] at h
  | .scr _, _, _, _, h => by simp [toPy] at h
  | .dct _, _, _, _, h => by simp [toPy] at h
  | .dki _, _, _, _, h => by simp [toPy] at h
  | .dsi _, _, _, _, h => by simp [toPy] at h
theorem toPys_dp {G : Gx} {H B : Hp} (w : Same B H) : ∀ (ds : List D) {vs : List V} {es : List PyData}, Reps G B ds vs → toPys ds = some es → DpAll G.K H vs es
  | [], _, _, r, h => by simp [toPys] at h; subst h; unfold Reps at r; subst r; exact .nil
  | d :: ds, _, _, r, h => by
    unfold toPys at h
    split at h
    · rename_i e es he hes
      cases h
      unfold Reps at r
      obtain ⟨x, t, rfl, h1, h2⟩ := r
      exact .cons (toPy_dp w d h1 he) (toPys_dp w ds h2 hes)
    · cases h
end
def vPy (S : Sto) (x : Dv) : Option PyData := match x with
  | .p d => toPy d
  | .hnd n => match S[n]? with
    | some (.lst ds) => toPy (.lst ds)
    | _ => none
theorem vPy_dp {e : PyData} (w : Wd G H B φ S) (r : RepV G B φ x v) (h : vPy S x = some e) : Dp G.K H v e := by
  unfold vPy at h
  split at h
  · exact toPy_dp w.sub _ r h
  · rename_i n
    split at h
    · rename_i ds hs
      obtain ⟨a, h1, rfl⟩ := r
      obtain ⟨_, xs, h3, h4⟩ := w.cell n a _ h1 hs
      unfold toPy at h
      split at h
      · rename_i es he
        cases h
        exact .lst (SqL.of h3) (toPys_dp w.sub ds h4 he)
      · cases h
    · cases h
def oEq : Op2 := fun x y S => match vPy S x, vPy S y with
  | some a, some b => if SeqAt.shaped a = true ∧ SeqAt.shaped b = true then .ok (.p (.bl (PyData.eqv a b))) S else .bad
  | _, _ => .bad
def oNe : Op2 := fun x y S => match vPy S x, vPy S y with
  | some a, some b => if SeqAt.shaped a = true ∧ SeqAt.shaped b = true then .ok (.p (.bl (!PyData.eqv a b))) S else .bad
  | _, _ => .bad
theorem oEq_ok : Ok2 G W (rEqD G.K) oEq := by
  intro H B φ S σ x y v u Q w r1 r2 h
  unfold oEq at h
  split at h
  · rename_i a b ha hb
    split at h
    · rename_i hs
      exact ⟨a, b, vPy_dp w r1 ha, vPy_dp w r2 hb, hs.1, hs.2, h H B φ Xt.refl w _ (rep_bl.mpr rfl)⟩
    · exact h.elim
  · exact h.elim
theorem oNe_ok : Ok2 G W (rNeD G.K) oNe := by
  intro H B φ S σ x y v u Q w r1 r2 h
  unfold oNe at h
  split at h
  · rename_i a b ha hb
    split at h
    · rename_i hs
      exact ⟨a, b, vPy_dp w r1 ha, vPy_dp w r2 hb, hs.1, hs.2, h H B φ Xt.refl w _ (rep_bl.mpr rfl)⟩
    · exact h.elim
  · exact h.elim
/-! in, not in: flat items -/
def flD : D → Option V
  | .non => some .non
  | .bl b => some (.bl b)
  | .int i => some (.int i)
  | .str x => some (.str x)
  | _ => none
def flDs : List D → Option (List V)
  | [] => some []
  | d :: ds => match flD d, flDs ds with
    | some v, some vs => some (v :: vs)
    | _, _ => none
theorem flD_at {d : D} {v u : V} (r : Rep G B d v) (h : flD d = some u) : v = u ∧ flatV u = true := by
  cases d <;> simp [flD] at h <;> subst h <;> unfold Rep at r <;> exact ⟨r, rfl⟩
theorem flDs_at : ∀ {ds : List D} {vs us : List V}, Reps G B ds vs → flDs ds = some us → vs = us ∧ us.all flatV = true
  | [], _, _, r, h => by simp [flDs] at h; subst h; unfold Reps at r; subst r; exact ⟨rfl, rfl⟩
  | d :: ds, _, _, r, h => by
    unfold flDs at h
    split at h
    · rename_i a as ha has
      cases h
      unfold Reps at r
      obtain ⟨x, t, rfl, h1, h2⟩ := r
      obtain ⟨e1, f1⟩ := flD_at h1 ha
      obtain ⟨e2, f2⟩ := flDs_at h2 has
      subst e1 e2
      exact ⟨rfl, by rw [List.all_cons, f1, f2]; rfl⟩
    · cases h
def sqOf (S : Sto) : Dv → Option (List D)
  | .p (.tup ds) => some ds
  | x => vw S x
theorem sq_at {ds : List D} (w : Wd G H B φ S) (r : RepV G B φ x v) (h : sqOf S x = some ds) : ∃ a xs, v = .ref a ∧ (SqL G.K H a xs ∨ SqT G.K H a xs) ∧ Reps G B ds xs := by
  unfold sqOf at h
  split at h
  · cases h
    obtain ⟨a, xs, e, h1, h2⟩ := rep_tup.mp r
    exact ⟨a, xs, e, .inr (sqT_mono w.sub h1), h2⟩
  · obtain ⟨a, xs, e, h1, h2⟩ := vw_at w r h
    exact ⟨a, xs, e, .inl (SqL.of h1), h2⟩
def pOf : Dv → Option D
  | .p d => some d
  | .hnd _ => none
def oInS (neg : Bool) : Op2 := fun x y S => match x, sqOf S y with
  | .p d, some ds => match flD d, flDs ds with
    | some v, some vs => .ok (.p (.bl (if neg = true then !inV v vs else inV v vs))) S
    | _, _ => .bad
  | _, _ => .bad
theorem oInS_ok (neg : Bool) : Ok2 G W (rIn G.K neg) (oInS neg) := by
  intro H B φ S σ x y v u Q w r1 r2 h
  unfold oInS at h
  split at h
  · rename_i d ds hs
    split at h
    · rename_i a as ha has
      obtain ⟨p, xs, rfl, s1, q1⟩ := sq_at w r2 hs
      obtain ⟨e1, f1⟩ := flD_at r1 ha
      obtain ⟨e2, f2⟩ := flDs_at q1 has
      subst e1 e2
      exact ⟨p, _, rfl, s1, f1, f2, h H B φ Xt.refl w _ (rep_bl.mpr rfl)⟩
    · exact h.elim
  · exact h.elim
/-! is None -/
def isN : Dv → Bool
  | .p .non => true
  | _ => false
def oIsN : Op2 := fun x y S => match y with
  | .p .non => .ok (.p (.bl (isN x))) S
  | _ => .bad
def oNotN : Op2 := fun x y S => match y with
  | .p .non => .ok (.p (.bl (!isN x))) S
  | _ => .bad
theorem isN_at (r : RepV G B φ x v) : decide (v = .non) = isN x := by
  cases x with
  | hnd n => obtain ⟨a, _, rfl⟩ := r; rfl
  | p d =>
    cases d with
    | non => rw [rep_non] at r; subst r; rfl
    | bl b => rw [rep_bl] at r; subst r; rfl
    | int b => rw [rep_int] at r; subst r; rfl
    | str b => rw [rep_str] at r; subst r; rfl
    | tup ds => obtain ⟨a, xs, rfl, _⟩ := rep_tup.mp r; rfl
    | lst ds => obtain ⟨a, xs, rfl, _⟩ := rep_lst.mp r; rfl
    | rul ds => obtain ⟨a, xs, _, _, rfl, _⟩ := rep_rul.mp r; rfl
    | scr ds => obtain ⟨a, rfl, _⟩ := rep_scr.mp r; rfl
    | dct ds =>
      have r : Rep G B (.dct ds) v := r
      unfold Rep at r
      obtain ⟨a, rfl, _⟩ := r; rfl
    | dki ds =>
      have r : Rep G B (.dki ds) v := r
      unfold Rep at r
      obtain ⟨a, rfl, _⟩ := r; rfl
    | dsi ds =>
      have r : Rep G B (.dsi ds) v := r
      unfold Rep at r
      obtain ⟨a, rfl, _⟩ := r; rfl
theorem oIsN_ok : Ok2 G W (fun x y H Q => y = .non ∧ Q (.bl (decide (x = .non))) H) oIsN := by
  intro H B φ S σ x y v u Q w r1 r2 h
  unfold oIsN at h
  split at h
  · rw [rep_non] at r2
    exact ⟨r2, by rw [isN_at r1]; exact h H B φ Xt.refl w _ (rep_bl.mpr rfl)⟩
  · exact h.elim
theorem oNotN_ok : Ok2 G W (fun x y H Q => y = .non ∧ Q (.bl (!decide (x = .non))) H) oNotN := by
  intro H B φ S σ x y v u Q w r1 r2 h
  unfold oNotN at h
  split at h
  · rw [rep_non] at r2
    exact ⟨r2, by rw [isN_at r1]; exact h H B φ Xt.refl w _ (rep_bl.mpr rfl)⟩
  · exact h.elim
/-! items -/
theorem atI_rep {ds : List D} {vs : List V} {i : Int} {d : D} (r : Reps G B ds vs) (h : atI ds i = some d) : ∃ v, atI vs i = some v ∧ Rep G B d v := by
  unfold atI at h ⊢
  rw [← r.length]
  cases q : ixN ds.length i with
  | none => rw [q] at h; cases h
  | some j => rw [q] at h; exact r.get h
theorem atI_repV {ds : List Dv} {vs : List V} {i : Int} {d : Dv} (r : RepVs G B φ ds vs) (h : atI ds i = some d) : ∃ v, atI vs i = some v ∧ RepV G B φ d v := by
  unfold atI at h ⊢
  rw [← r.length]
  cases q : ixN ds.length i with
  | none => rw [q] at h; cases h
  | some j => rw [q] at h; exact r.get h
def oIx : Op2 := fun x y S => match y with
  | .p (.int i) => match sqOf S x with
    | some ds => match atI ds i with
      | some d => .ok (.p d) S
      | none => .bad
    | none => match x with
      | .hnd n => match S[n]? with
        | some (.rcd ds) => match atI ds i with
          | some d => .ok d S
          | none => .bad
        | _ => .bad
      | _ => .bad
  | _ => .bad
theorem oIx_op : IxR X (fun x y H Q => rIxL X.K x y H Q ∨ rIxT X.K x y H Q) := ix_list.or ix_tup
theorem oIx_ok : Ok2 G W (fun x y H Q => rIxL G.K x y H Q ∨ rIxT G.K x y H Q) oIx := by
  intro H B φ S σ x y v u Q w r1 r2 h
  unfold oIx at h
  split at h
  · rename_i i
    rw [rep_int] at r2
    subst r2
    split at h
    · rename_i ds hs
      split at h
      · rename_i d hd
        obtain ⟨p, xs, rfl, s1, q1⟩ := sq_at w r1 hs
        obtain ⟨z, hz, rz⟩ := atI_rep q1 hd
        rcases s1 with s1 | s1
        · exact .inl ⟨p, xs, i, z, rfl, rfl, s1, hz, h H B φ Xt.refl w _ rz⟩
        · exact .inr ⟨p, xs, i, z, rfl, rfl, s1, hz, h H B φ Xt.refl w _ rz⟩
      · exact h.elim
    · split at h
      · rename_i n
        split at h
        · rename_i ds hs
          split at h
          · rename_i d hd
            obtain ⟨a, h1, rfl⟩ := r1
            obtain ⟨_, xs, h3, h4⟩ := w.cell _ a _ h1 hs
            obtain ⟨z, hz, rz⟩ := atI_repV h4 hd
            exact .inl ⟨a, xs, i, z, rfl, rfl, SqL.of h3, hz, h H B φ Xt.refl w _ rz⟩
          · exact h.elim
        · exact h.elim
      · exact h.elim
  · exact h.elim
end
end DL

namespace DL
open PySem L2
open PySem.Spec PyProof.Rows
/-! ### statements -/
inductive Fl where
  | nx (ρ : Nv) | rt (d : Dv) | bk (ρ : Nv) | ct (ρ : Nv)
inductive OS where
  | ok (fl : Fl) (S : Sto) | exc (x : Ex) (ρ : Nv) (S : Sto) | bad
abbrev Sf := Nv → Sto → OS
def Out.toS {α : Type} (o : Out α) (ρ : Nv) (k : α → Sto → OS) : OS := match o with
  | .ok a S => k a S
  | .exc x S => .exc x ρ S
  | .bad => .bad
def FlR (G : Gx) (D : Ends) (H B : Hp) (φ : List Addr) : Fl → Prop
  | .nx ρ => ∀ σ, EnvR G B φ σ ρ → D.nx σ H
  | .rt d => ∀ v, RepV G B φ d v → D.rt v H
  | .bk ρ => ∀ σ, EnvR G B φ σ ρ → D.bk σ H
  | .ct ρ => ∀ σ, EnvR G B φ σ ρ → D.ct σ H
def WPS (G : Gx) (W : WX) (D : Ends) (H B : Hp) (φ : List Addr) (o : OS) : Prop := match o with
  | .ok fl S => ∀ H' B' φ', Xt H B φ H' B' φ' → Wd G H' B' φ' S → FlR G D H' B' φ' fl
  | .exc x ρ S => ∀ H' B' φ' c dd σ, Xt H B φ H' B' φ' → Wd G H' B' φ' S → XRep G B' x c dd → EnvR G B' φ' σ ρ → W c dd σ H'
  | .bad => False
def tS (G : Gx) (W : WX) (f : Sf) : TS := fun D σ H => ∃ ρ B φ S, Wd G H B φ S ∧ EnvR G B φ σ ρ ∧ WPS G W D H B φ (f ρ S)
section
variable {X : Cx} {G : Gx} {W : WX} {Z : Ends} {H B H1 B1 : Hp} {φ φ1 : List Addr} {S : Sto} {σ : L2.St} {ρ : Nv}
theorem WPS.rebase {o : OS} (x : Xt H B φ H1 B1 φ1) (h : WPS G W Z H B φ o) : WPS G W Z H1 B1 φ1 o := by
  cases o with
  | ok fl S => exact fun H' B' φ' y w => h H' B' φ' (x.trans y) w
  | exc e ρ S => exact fun H' B' φ' c dd σ y w r => h H' B' φ' c dd σ (x.trans y) w r
  | bad => exact h
theorem WPS.fst {α : Type} {o : Out α} {k : α → Sto → OS} (en : EnvR G B φ σ ρ) (h : WPS G W Z H B φ (o.toS ρ k)) :
    WP G W σ H B φ o fun a H' B' φ' S' => WPS G W Z H' B' φ' (k a S') := by
  cases o with
  | ok a S => exact fun H' B' φ' x w => WPS.rebase x h
  | exc x S => exact fun H' B' φ' c dd y w r => h H' B' φ' c dd σ y w r (en.mono y.b y.p)
  | bad => exact h
theorem WPS.here {fl : Fl} (w : Wd G H B φ S) (h : WPS G W Z H B φ (.ok fl S)) : FlR G Z H B φ fl := h H B φ Xt.refl w
theorem wkS {st : Stmt} {t t' : TS} (h : PS X st t) (k : ∀ D σ H, t' D σ H → t D σ H) : PS X st t' :=
  ⟨fun pins s σ H D I q => h.run pins s σ H D I (k D σ H q)⟩
theorem wkSs {st : List Stmt} {t t' : TS} (h : PSs X st t) (k : ∀ D σ H, t' D σ H → t D σ H) : PSs X st t' :=
  ⟨fun pins s σ H D I q => h.run pins s σ H D I (k D σ H q)⟩
theorem wkG {e : Expr} {t t' : TG} (h : PG X e t) (k : ∀ v σ H Q, t' v σ H Q → t v σ H Q) : PG X e t' :=
  ⟨fun pins s σ H v u Q I r q => h.run pins s σ H v u Q I r (k v σ H Q q)⟩
theorem wkGs {e : List Expr} {t t' : TGs} (h : PGs X e t) (k : ∀ v σ H Q, t' v σ H Q → t v σ H Q) : PGs X e t' :=
  ⟨fun pins s σ H v u Q I r q => h.run pins s σ H v u Q I r (k v σ H Q q)⟩
theorem wkI {tg e : Expr} {t t' : TI} (h : PI X tg e t) (k : ∀ σ H R, t' σ H R → t σ H R) : PI X tg e t' :=
  ⟨fun pins s σ H R I q => h.run pins s σ H R I (k σ H R q)⟩
def sNil : Sf := fun ρ S => .ok (.nx ρ) S
def sSeq (f g : Sf) : Sf := fun ρ S => match f ρ S with
  | .ok (.nx ρ') S' => g ρ' S'
  | .ok (.rt d) S' => .ok (.rt d) S'
  | .ok (.bk d) S' => .ok (.bk d) S'
  | .ok (.ct d) S' => .ok (.ct d) S'
  | .exc x ρ' S' => .exc x ρ' S'
  | .bad => .bad
def sExpr (f : Ef) : Sf := fun ρ S => (f ρ S).toS ρ fun _ S' => .ok (.nx ρ) S'
def sRet (f : Ef) : Sf := fun ρ S => (f ρ S).toS ρ fun d S' => .ok (.rt d) S'
def sRetN : Sf := fun _ S => .ok (.rt (.p .non)) S
def sIf (c : Tf) (f g : Sf) : Sf := fun ρ S => (c ρ S).toS ρ fun b S' => if b = true then f ρ S' else g ρ S'
variable {f g : Sf} {st : Stmt} {rest : List Stmt} {e : Expr} {ef : Ef} {c : Tf} {pos : Pos}
theorem ds_nil : PSs X [] (tS G W sNil) := wkSs pss_nil fun D σ H ⟨ρ, B, φ, S, w, en, h⟩ => h.here w σ en
theorem ds_cons (h1 : PS X st (tS G W f)) (h2 : PSs X rest (tS G W g)) : PSs X (st :: rest) (tS G W (sSeq f g)) := by
  refine wkSs (pss_cons h1 h2) fun D σ H ⟨ρ, B, φ, S, w, en, h⟩ => ⟨ρ, B, φ, S, w, en, ?_⟩
  unfold sSeq at h
  cases q : f ρ S with
  | bad => rw [q] at h; exact h
  | exc x ρ' S' => rw [q] at h; exact h
  | ok fl S' =>
    rw [q] at h
    cases fl with
    | nx ρ' => exact fun H' B' φ' x w' σ' en' => ⟨ρ', B', φ', S', w', en', WPS.rebase x h⟩
    | rt d => exact h
    | bk d => exact h
    | ct d => exact h
theorem ds_one (h1 : PS X st (tS G W f)) : PSs X [st] (tS G W f) := pss_one h1
theorem dp_pass : PS X (.Pass pos) (tS G W sNil) := wkS ps_pass fun D σ H ⟨ρ, B, φ, S, w, en, h⟩ => h.here w σ en
theorem dp_expr (he : PE X e (tD G W ef)) (hs : swapsWith e none pos.line X.env = pure false := by rfl) : PS X (.Expr e pos) (tS G W (sExpr ef)) :=
  wkS (ps_expr he hs) fun D σ H ⟨ρ, B, φ, S, w, en, h⟩ => tD.run w en (WPS.fst en h) fun d v H1 B1 φ1 S1 x1 w1 en1 r1 q1 => WPS.here w1 q1 σ en1
theorem dp_ret (he : PE X e (tD G W ef)) : PS X (.Return (some e) pos) (tS G W (sRet ef)) :=
  wkS (ps_ret he) fun D σ H ⟨ρ, B, φ, S, w, en, h⟩ => tD.run w en (WPS.fst en h) fun d v H1 B1 φ1 S1 x1 w1 en1 r1 q1 => WPS.here w1 q1 v r1
theorem dp_retN : PS X (.Return none pos) (tS G W sRetN) := wkS ps_retN fun D σ H ⟨ρ, B, φ, S, w, en, h⟩ => h.here w _ (rep_non.mpr rfl)
theorem dp_if {cc : Expr} {a b : List Stmt} (hc : PT X cc (tT G W c)) (ha : PSs X a (tS G W f)) (hb : PSs X b (tS G W g)) : PS X (.If cc a b pos) (tS G W (sIf c f g)) := by
  refine wkS (ps_if hc ha hb) fun D σ H ⟨ρ, B, φ, S, w, en, h⟩ => tT.run w en (WPS.fst en h) fun t H1 B1 φ1 S1 x1 w1 en1 q1 => ?_
  cases t with
  | true => rw [if_pos rfl] at q1 ⊢; exact ⟨ρ, B1, φ1, S1, w1, en1, q1⟩
  | false => rw [if_neg Bool.false_ne_true] at q1 ⊢; exact ⟨ρ, B1, φ1, S1, w1, en1, q1⟩
/-! targets -/
abbrev Tgt := Dv → Nv → Option Nv
abbrev Tgts := List D → Nv → Option Nv
def kept (ts : List Nat) (σ σ' : L2.St) : Prop := ∀ vs : List Nat, (∀ i ∈ ts, i ∈ vs) → wipe σ' vs = wipe σ vs
def tG (G : Gx) (ts : List Nat) (t : Tgt) : TG := fun v σ H Q => ∃ ρ B φ S d, Wd G H B φ S ∧ EnvR G B φ σ ρ ∧ RepV G B φ d v ∧ match t d ρ with
  | some ρ' => ∀ σ', EnvR G B φ σ' ρ' → kept ts σ σ' → Q σ' H
  | none => False
def tGs (G : Gx) (ts : List Nat) (t : Tgts) : TGs := fun vs σ H Q => ∃ ρ B φ S ds, Wd G H B φ S ∧ EnvR G B φ σ ρ ∧ Reps G B ds vs ∧ match t ds ρ with
  | some ρ' => ∀ σ', EnvR G B φ σ' ρ' → kept ts σ σ' → Q σ' H
  | none => False
def gN (i : Nat) : Tgt := fun d ρ => some (ρ.set i (some d))
def gsNil : Tgts := fun ds ρ => match ds with
  | [] => some ρ
  | _ :: _ => none
def gsCons (t : Tgt) (r : Tgts) : Tgts := fun ds ρ => match ds with
  | [] => none
  | d :: ds => match t (.p d) ρ with
    | some ρ1 => r ds ρ1
    | none => none
def gT (n : Nat) (t : Tgts) : Tgt := fun d ρ => match d with
  | .p (.tup ds) => if ds.length = n then t ds ρ else none
  | _ => none
theorem wipe_set {i : Nat} {o : Option V} : ∀ {vs : List Nat}, i ∈ vs → wipe (σ.set i o) vs = wipe σ vs
  | v :: vs, h => by
    unfold wipe
    by_cases e : i ∈ vs
    · rw [wipe_set e]
    · have : i = v := (List.mem_cons.mp h).resolve_right e
      subst this
      have aux : ∀ ws : List Nat, (wipe (σ.set i o) ws).set i none = (wipe σ ws).set i none := by
        intro ws
        induction ws with
        | nil => unfold wipe; rw [List.set_set]
        | cons z zs ih =>
          unfold wipe
          by_cases ez : z = i
          · subst ez; rw [ih]
          · rw [List.set_comm _ _ ez, ih, List.set_comm _ _ ez]
      exact aux vs
theorem kept.refl {ts : List Nat} : kept ts σ σ := fun _ _ => rfl
theorem dg_name {i : Nat} {x : Str} (hN : X.N.Nodup) (hi : X.N[i]? = some x) (hx : Loc X.env.scope x) (hf : X.fn x = true ∨ X.env.scope.names.lookup x = some .local := by first | exact .inl rfl | exact .inr rfl | assumption) :
    PG X (.Name x pos) (tG G [i] (gN i)) :=
  wkG (pg_name hN hi hx hf) fun v σ H Q ⟨ρ, B, φ, S, d, w, en, r, h⟩ => h _ (en.set i r) fun vs hv => wipe_set (hv i (by simp))
theorem dgs_nil : PGs X [] (tGs G [] gsNil) := by
  refine wkGs pgs_nil fun vs σ H Q ⟨ρ, B, φ, S, ds, w, en, r, h⟩ => ?_
  unfold gsNil at h
  cases ds with
  | nil => exact ⟨by unfold Reps at r; exact r, h σ en kept.refl⟩
  | cons _ _ => exact h.elim
theorem dgs_cons {es : List Expr} {ts us : List Nat} {t : Tgt} {r : Tgts} (h1 : PG X e (tG G ts t)) (h2 : PGs X es (tGs G us r)) (hs : (assignEach (e :: es) X.env).map (·.2) = assign e X.env :: (assignEach es X.env).map (·.2) := by rfl) :
    PGs X (e :: es) (tGs G (ts ++ us) (gsCons t r)) := by
  refine wkGs (pgs_cons h1 h2 hs) fun vs σ H Q ⟨ρ, B, φ, S, ds, w, en, rr, h⟩ => ?_
  cases ds with
  | nil => exact (show False from h).elim
  | cons d ds =>
    unfold Reps at rr
    obtain ⟨x, t', rfl, q1, q2⟩ := rr
    refine ⟨x, t', rfl, ρ, B, φ, S, .p d, w, en, q1, ?_⟩
    rw [show gsCons t r (d :: ds) ρ = (match t (.p d) ρ with | some ρ1 => r ds ρ1 | none => none) from rfl] at h
    cases q : t (.p d) ρ with
    | none => rw [q] at h; exact h.elim
    | some ρ1 =>
      rw [q] at h
      have h : (match r ds ρ1 with | some ρ' => ∀ σ', EnvR G B φ σ' ρ' → kept (ts ++ us) σ σ' → Q σ' H | none => False) := h
      refine fun σ' en' k' => ⟨ρ1, B, φ, S, ds, w, en', q2, ?_⟩
      cases q' : r ds ρ1 with
      | none => rw [q'] at h; exact h.elim
      | some ρ2 =>
        rw [q'] at h
        exact fun σ'' en'' k'' => h σ'' en'' fun ws hw => (k'' ws fun i hi => hw i (List.mem_append_right _ hi)).trans (k' ws fun i hi => hw i (List.mem_append_left _ hi))
theorem dg_tup {es : List Expr} {k n : Nat} {ts : List Nat} {t : Tgts} (hK : X.K = G.K) (hc : X.calm = true) (h : PGs X es (tGs G ts t)) (hn : (assignEach es X.env).length = n := by rfl) (hst : (assignEach es X.env).findIdx? (·.1) = none := by rfl) :
    PG X (.Tuple es k pos) (tG G ts (gT n t)) := by
  refine wkG (pg_tup hc h hn hst) fun v σ H Q ⟨ρ, B, φ, S, d, w, en, r, h⟩ => ?_
  unfold gT at h
  split at h
  · rename_i ρ' he
    split at he
    · split at he
      · rename_i ds hl
        obtain ⟨a, xs, rfl, s1, q1⟩ := rep_tup.mp r
        exact ⟨a, xs, rfl, hK ▸ sqT_mono w.sub s1, by rw [← q1.length]; exact hl, ρ, B, φ, S, ds, w, en, q1, by rw [he]; exact h⟩
      · cases he
    · cases he
  · exact h.elim
def sAsg (ef : Ef) (t : Tgt) : Sf := fun ρ S => (ef ρ S).toS ρ fun d S' => match t d ρ with
  | some ρ' => .ok (.nx ρ') S'
  | none => .bad
theorem dp_asg {tg : Expr} {ts : List Nat} {t : Tgt} (he : PE X e (tD G W ef)) (hg : PG X tg (tG G ts t)) (hs : swapsWithSole [tg] e pos.line X.env = pure false := by rfl) (hw : swappedStores [tg] e X.env = pure none := by rfl)
    (h1 : (assignEach [tg] X.env).map (·.2) = [assign tg X.env] := by rfl) : PS X (.Assign [tg] e pos) (tS G W (sAsg ef t)) := by
  refine wkS (ps_asg he hg hs hw h1) fun D σ H ⟨ρ, B, φ, S, w, en, h⟩ => tD.run w en (WPS.fst en h) fun d v H1 B1 φ1 S1 x1 w1 en1 r1 q1 => ?_
  refine ⟨ρ, B1, φ1, S1, d, w1, en1, r1, ?_⟩
  cases q : t d ρ with
  | none => rw [q] at q1; exact q1
  | some ρ' => rw [q] at q1; exact fun σ' en' _ => WPS.here w1 q1 σ' en'
/-- name = value -/
def sSet (i : Nat) (ef : Ef) : Sf := fun ρ S => (ef ρ S).toS ρ fun d S' => .ok (.nx (ρ.set i (some d))) S'
theorem dp_set {i : Nat} {x : Str} {pos' : Pos} (hN : X.N.Nodup) (hi : X.N[i]? = some x) (hx : Loc X.env.scope x) (he : PE X e (tD G W ef)) (hs : swapsWith e (some (.Name x pos')) pos.line X.env = pure false := by rfl)
    (hf : X.fn x = true ∨ X.env.scope.names.lookup x = some .local := by first | exact .inl rfl | exact .inr rfl | assumption) : PS X (.Assign [.Name x pos'] e pos) (tS G W (sSet i ef)) := by
  refine wkS (ps_set hN hi hx he hs hf) fun D σ H ⟨ρ, B, φ, S, w, en, h⟩ => tD.run w en (WPS.fst en h) fun d v H1 B1 φ1 S1 x1 w1 en1 r1 q1 => ?_
  exact WPS.here w1 q1 _ (en1.set i r1)
/-- a, b = x, y -/
def sPar (i j : Nat) (af : Af) : Sf := fun ρ S => (af ρ S).toS ρ fun ds S' => match ds with
  | [d, e] => .ok (.nx ((ρ.set i (some d)).set j (some e))) S'
  | _ => .bad
theorem dp_par {i j : Nat} {x y : Str} {a b : Expr} {af : Af} {px py pt : Pos} {kt k2 pt2} (hc : X.calm = true) (hN : X.N.Nodup) (hi : X.N[i]? = some x) (hj : X.N[j]? = some y) (hij : i ≠ j)
    (hx : X.env.scope.names.lookup x = some .local) (hy : X.env.scope.names.lookup y = some .local) (ha : PA X [a, b] (tA G W af))
    (hw : swappedStores [.Tuple [.Name x px, .Name y py] kt pt] (.Tuple [a, b] k2 pt2) X.env = pure (some [x, y]))
    (hs : swapsWithSole [.Tuple [.Name x px, .Name y py] kt pt] (.Tuple [a, b] k2 pt2) pos.line X.env = pure false := by rfl) :
    PS X (.Assign [.Tuple [.Name x px, .Name y py] kt pt] (.Tuple [a, b] k2 pt2) pos) (tS G W (sPar i j af)) := by
  refine wkS (ps_par hc hN hi hj hij hx hy ha hw hs) fun D σ H ⟨ρ, B, φ, S, w, en, h⟩ => tA.run w en (WPS.fst en h) fun ds vs H1 B1 φ1 S1 x1 w1 en1 r1 q1 => ?_
  match ds, r1, q1 with
  | [], _, q1 => exact q1.elim
  | [_], _, q1 => exact q1.elim
  | [d, e], ⟨v, t, e1, rv, u, t2, e2, ru, e3⟩, q1 =>
    subst e1
    subst e2
    rw [show t2 = [] from e3]
    exact ⟨v, u, rfl, WPS.here w1 q1 _ ((en1.set i rv).set j ru)⟩
  | _ :: _ :: _ :: _, _, q1 => exact q1.elim
/-! what is walked -/
def Yl (G : Gx) (J : It) (ds : List D) (B1 : Hp) : Prop := ∀ i H B φ S, Wd G H B φ S → Same B1 B →
  (i < ds.length → J.go i H ∧ ∀ x H', J.yld i H x H' → ∃ d B', ds[i]? = some d ∧ Xt H B φ H' B' φ ∧ Wd G H' B' φ S ∧ Rep G B' d x) ∧ (i = ds.length → J.stop i H)
abbrev If := Nv → Sto → Out (List D)
def tI (G : Gx) (W : WX) (f : If) : TI := fun σ H R => ∃ ρ B φ S, Wd G H B φ S ∧ EnvR G B φ σ ρ ∧ WP G W σ H B φ (f ρ S) fun ds H' B' _ _ => ∀ J, Yl G J ds B' → R J H'
theorem yl_list {a : Addr} {xs : List V} {ds : List D} (h : SqL G.K B a xs) (r : Reps G B ds xs) : Yl G (Itl G.K a) ds B := by
  intro i H B1 φ S w sb
  have hq : SqL G.K H a xs := w.sub.seq (sb.seq h)
  have hl := r.length
  refine ⟨fun hi => ?_, fun hi => ⟨xs, hq, by omega⟩⟩
  obtain ⟨v, hv, rv⟩ := r.get (List.getElem?_eq_getElem hi)
  refine ⟨⟨xs, v, hq, hv⟩, fun x H' ⟨e, y⟩ => ?_⟩
  subst e
  have ex : x = v := Option.some.inj ((y xs hq).symm.trans hv)
  subst ex
  exact ⟨_, B1, List.getElem?_eq_getElem hi, Xt.refl, w, Rep.mono sb _ rv⟩
theorem yl_tup {a : Addr} {xs : List V} {ds : List D} (h : SqT G.K B a xs) (r : Reps G B ds xs) : Yl G (Itt G.K a) ds B := by
  intro i H B1 φ S w sb
  have hq : SqT G.K H a xs := sqT_mono w.sub (sqT_mono sb h)
  have hl := r.length
  refine ⟨fun hi => ?_, fun hi => ⟨xs, hq, by omega⟩⟩
  obtain ⟨v, hv, rv⟩ := r.get (List.getElem?_eq_getElem hi)
  refine ⟨⟨xs, v, hq, hv⟩, fun x H' ⟨e, y⟩ => ?_⟩
  subst e
  have ex : x = v := Option.some.inj ((y xs hq).symm.trans hv)
  subst ex
  exact ⟨_, B1, List.getElem?_eq_getElem hi, Xt.refl, w, Rep.mono sb _ rv⟩
def rngD (lo : Int) (n : Nat) : List D := (List.range n).map fun i => .int (lo + (i : Nat))
theorem yl_rng (lo : Int) (n : Nat) : Yl G (Itr lo n) (rngD lo n) B := by
  intro i H B1 φ S w sb
  have hl : (rngD lo n).length = n := by unfold rngD; rw [List.length_map, List.length_range]
  rw [hl]
  refine ⟨fun hi => ⟨hi, fun x H' ⟨e, y⟩ => ?_⟩, fun hi => by subst hi; exact Nat.le_refl _⟩
  subst e y
  refine ⟨.int (lo + (i : Nat)), B1, ?_, Xt.refl, w, rpi _⟩
  unfold rngD
  rw [List.getElem?_map, List.getElem?_range hi]; rfl
theorem PI.or' {tg e : Expr} {t t' : TI} (h : PI X tg e t) (h' : PI X tg e t') : PI X tg e (fun σ H R => t σ H R ∨ t' σ H R) :=
  ⟨fun pins s σ H R I q => q.elim (h.run pins s σ H R I) (h'.run pins s σ H R I)⟩
def iSeq (f : Ef) : If := fun ρ S => (f ρ S).bind fun d S1 => match d with
  | .p (.lst ds) => .ok ds S1
  | .p (.tup ds) => .ok ds S1
  | .p (.scr ns) => .ok (ns.map D.int) S1
  | _ => .bad
theorem di_seq {tg : Expr} (hK : X.K = G.K) (he : PE X e (tD G W ef)) : PI X tg e (tI G W (iSeq ef)) := by
  refine wkI (PI.or' (pi_list he) (pi_tup he)) fun σ H R ⟨ρ, B, φ, S, w, en, h⟩ => ?_
  have h2 := WP.fst h
  have core : ∀ {t : V → Hp → Prop}, WP G W σ H B φ (ef ρ S) (fun a H' B' φ' S' => ∀ v, RepV G B' φ' a v → t v H') → tD G W ef σ H t := fun {t} q => ⟨ρ, B, φ, S, w, en, q⟩
  rw [hK]
  have left : (WP G W σ H B φ (ef ρ S) fun a H' B' φ' S' => ∀ v, RepV G B' φ' a v → ∃ p, v = .ref p ∧ (∃ xs, SqL G.K H' p xs) ∧ R (Itl G.K p) H') → iList G.K (tD G W ef) σ H R ∨ iTup G.K (tD G W ef) σ H R := fun q => .inl (core q)
  have right : (WP G W σ H B φ (ef ρ S) fun a H' B' φ' S' => ∀ v, RepV G B' φ' a v → ∃ p, v = .ref p ∧ (∃ xs, SqT G.K H' p xs) ∧ R (Itt G.K p) H') → iList G.K (tD G W ef) σ H R ∨ iTup G.K (tD G W ef) σ H R := fun q => .inr (core q)
  cases q : ef ρ S with
  | bad => rw [q] at h2; exact h2.elim
  | exc x S1 => exact left (by rw [q] at h2 ⊢; exact h2)
  | ok d S1 =>
    rw [q] at h2 left right
    cases d with
    | hnd n => exact left fun H' B' φ' x w' v r => (h2 H' B' φ' x w').elim
    | p d =>
      cases d with
      | lst ds =>
        refine left fun H' B' φ' x w' v r => ?_
        obtain ⟨a, xs, rfl, s1, q1⟩ := rep_lst.mp r
        have sq : SqL G.K B' a xs := SqL.of s1
        exact ⟨a, rfl, ⟨xs, w'.sub.seq sq⟩, h2 H' B' φ' x w' H' B' φ' Xt.refl w' _ (yl_list sq q1)⟩
      | tup ds =>
        refine right fun H' B' φ' x w' v r => ?_
        obtain ⟨a, xs, rfl, s1, q1⟩ := rep_tup.mp r
        exact ⟨a, rfl, ⟨xs, sqT_mono w'.sub s1⟩, h2 H' B' φ' x w' H' B' φ' Xt.refl w' _ (yl_tup s1 q1)⟩
      | scr ns =>
        refine left fun H' B' φ' x w' v r => ?_
        obtain ⟨a, rfl, s1⟩ := rep_scr.mp r
        exact ⟨a, rfl, ⟨_, w'.sub.seq s1⟩, h2 H' B' φ' x w' H' B' φ' Xt.refl w' _ (yl_list s1 (Reps.ints ns))⟩
      | non => exact left fun H' B' φ' x w' v r => (h2 H' B' φ' x w').elim
      | bl _ => exact left fun H' B' φ' x w' v r => (h2 H' B' φ' x w').elim
      | dct _ => exact left fun H' B' φ' x w' v r => (h2 H' B' φ' x w').elim
      | dki _ => exact left fun H' B' φ' x w' v r => (h2 H' B' φ' x w').elim
      | dsi _ => exact left fun H' B' φ' x w' v r => (h2 H' B' φ' x w').elim
      | int _ => exact left fun H' B' φ' x w' v r => (h2 H' B' φ' x w').elim
      | str _ => exact left fun H' B' φ' x w' v r => (h2 H' B' φ' x w').elim
      | rul _ => exact left fun H' B' φ' x w' v r => (h2 H' B' φ' x w').elim
end
end DL

namespace DL
open PySem L2
open PySem.Spec PyProof.Rows
section
variable {X : Cx} {G : Gx} {W : WX} {Z : Ends} {H B H1 B1 : Hp} {φ φ1 : List Addr} {S : Sto} {σ : L2.St} {ρ : Nv} {e : Expr} {ef eg : Ef} {pos : Pos} {af : Af}
/-! range -/
def rngOk (i j : Int) : Bool := decide (-4611686018427387904 ≤ i) && decide (i < 4611686018427387904) && decide (-4611686018427387904 ≤ j) && decide (j < 4611686018427387904)
theorem rngOk_at {i j : Int} (h : rngOk i j = true) : -(2 ^ 62) ≤ i ∧ i < 2 ^ 62 ∧ -(2 ^ 62) ≤ j ∧ j < 2 ^ 62 := by
  unfold rngOk at h
  simp only [Bool.and_eq_true, decide_eq_true_eq] at h
  omega
def iRng1 (f : Ef) : If := fun ρ S => (f ρ S).bind fun d S1 => match d with
  | .p (.int j) => if rngOk 0 j = true then .ok (rngD 0 j.toNat) S1 else .bad
  | _ => .bad
def iRng2 (f g : Ef) : If := fun ρ S => (f ρ S).bind fun d S1 => (g ρ S1).bind fun d' S2 => match d, d' with
  | .p (.int i), .p (.int j) => if rngOk i j = true then .ok (rngD i (j - i).toNat) S2 else .bad
  | _, _ => .bad
theorem aOne {ds : List Dv} {f : Ef} (hf : aCons f aNil = af) : True := trivial
theorem di_rng1 {tg a : Expr} {p : Pos} (hg : Gl X "range") (hm : X.mg "range" = none) (ha : PE X a (tD G W ef)) (hs : starEach [a] X.env = [(false, eval a X.env)] := by rfl) :
    PI X tg (.Call (.Name "range" p) [a] [] pos) (tI G W (iRng1 ef)) := by
  refine wkI (pi_range1 hg hm (pa_cons ha pa_nil hs) hs) fun σ H R ⟨ρ, B, φ, S, w, en, h⟩ => tD.run w en (WP.fst h) fun d v H1 B1 φ1 S1 x1 w1 en1 r1 q1 => ?_
  split at q1
  · split at q1
    · rename_i j hk
      obtain ⟨_, _, h3, h4⟩ := rngOk_at hk
      exact ⟨j, by rw [rep_int.mp r1], h3, h4, q1 H1 B1 φ1 Xt.refl w1 _ (yl_rng 0 _)⟩
    · exact q1.elim
  · exact q1.elim
theorem di_rng2 {tg a b : Expr} {p : Pos} (hg : Gl X "range") (hm : X.mg "range" = none) (ha : PE X a (tD G W ef)) (hb : PE X b (tD G W eg)) (hs : starEach [a, b] X.env = [(false, eval a X.env), (false, eval b X.env)] := by rfl)
    (hs2 : starEach [b] X.env = [(false, eval b X.env)] := by rfl) : PI X tg (.Call (.Name "range" p) [a, b] [] pos) (tI G W (iRng2 ef eg)) := by
  refine wkI (pi_range2 hg hm (pa_cons ha (pa_cons hb pa_nil hs2) (by rw [hs, hs2])) hs hs2) fun σ H R ⟨ρ, B, φ, S, w, en, h⟩ => tD.run w en (WP.fst h) fun d v H1 B1 φ1 S1 x1 w1 en1 r1 q1 => ?_
  refine tD.run w1 en1 (WP.fst q1) fun d2 v2 H2 B2 φ2 S2 x2 w2 en2 r2 q2 => ?_
  split at q2
  · split at q2
    · rename_i i j hk
      obtain ⟨h1, h2, h3, h4⟩ := rngOk_at hk
      exact ⟨i, j, by rw [rep_int.mp r1, rep_int.mp r2], ⟨h1, h2, h3, h4⟩, q2 H2 B2 φ2 Xt.refl w2 _ (yl_rng i _)⟩
    · exact q2.elim
  · exact q2.elim
/-! for -/
def forL (t : Tgt) (body : Sf) : List D → Nv → Sto → OS
  | [], ρ, S => .ok (.nx ρ) S
  | d :: ds, ρ, S => match t (.p d) ρ with
    | none => .bad
    | some ρ1 => match body ρ1 S with
      | .ok (.nx ρ') S' => forL t body ds ρ' S'
      | .ok (.ct ρ') S' => forL t body ds ρ' S'
      | .ok (.bk ρ') S' => .ok (.nx ρ') S'
      | .ok (.rt d) S' => .ok (.rt d) S'
      | .exc x ρ' S' => .exc x ρ' S'
      | .bad => .bad
def sFor (it : If) (t : Tgt) (body : Sf) : Sf := fun ρ S => (it ρ S).toS ρ fun ds S' => forL t body ds ρ S'
theorem dp_for {tg iter : Expr} {body : List Stmt} {it : If} {ts : List Nat} {t : Tgt} {bf : Sf} (hp : PassesOwn (model X.prog X.w) X.A X.env X.xe) (hc : X.calm = true) (hi : PI X tg iter (tI G W it)) (hg : PG X tg (tG G ts t)) (hb : PSs X body (tS G W bf))
    (hs : ∀ x, foldedSetIterable iter X.env x = pure x := by intro _; rfl) : PS X (.For tg iter body [] pos) (tS G W (sFor it t bf)) := by
  refine wkS (ps_for hp hc hi hg hb hs) fun Z σ H ⟨ρ, B, φ, S, w, en, h⟩ => ?_
  refine ⟨ρ, B, φ, S, w, en, (WPS.fst en h).mono fun ds H1 B1 φ1 S1 x1 w1 q1 J yl => ?_⟩
  have en1 := en.mono x1.b x1.p
  refine ⟨fun i m σ H => ∃ ρ B φ S, Wd G H B φ S ∧ EnvR G B φ σ ρ ∧ Same B1 B ∧ i ≤ ds.length ∧ m = ds.length - i ∧ WPS G W Z H B φ (forL t bf (ds.drop i) ρ S),
    ⟨_, ρ, B1, φ1, S1, w1, en1, Same.refl _, Nat.zero_le _, rfl, q1⟩, ?_⟩
  rintro i m σ H ⟨ρ, B, φ, S, w, en, sb, hi, rfl, q⟩
  obtain ⟨y1, y2⟩ := yl i H B φ S w sb
  by_cases hlt : i < ds.length
  · obtain ⟨go, y1⟩ := y1 hlt
    refine .inr ⟨go, fun σ' H' => ∃ ρ B φ S, Wd G H' B φ S ∧ EnvR G B φ σ' ρ ∧ Same B1 B ∧ WPS G W Z H' B φ (forL t bf (ds.drop (i + 1)) ρ S), ?_, ?_⟩
    · rintro σ' H' ⟨ρ', B', φ', S', w', en', sb', q'⟩
      exact ⟨ds.length - (i + 1), by omega, ρ', B', φ', S', w', en', sb', hlt, rfl, q'⟩
    · intro x H' hy
      obtain ⟨d, B', hd, xx, w', r⟩ := y1 x H' hy
      rw [List.drop_eq_getElem_cons hlt] at q
      have ed : ds[i] = d := by rw [List.getElem?_eq_getElem hlt] at hd; exact Option.some.inj hd
      rw [ed] at q
      unfold forL at q
      refine ⟨ρ, B', φ, S, .p d, w', en.mono xx.b xx.p, r, ?_⟩
      cases e1 : t (.p d) ρ with
      | none => rw [e1] at q; exact q.elim
      | some ρ1 =>
        rw [e1] at q
        refine fun σ2 en2 _ => ⟨ρ1, B', φ, S, w', en2, ?_⟩
        have q := WPS.rebase xx q
        dsimp only at q
        cases e2 : bf ρ1 S with
        | bad => rw [e2] at q; exact q.elim
        | exc x ρ' S' => rw [e2] at q; exact q
        | ok fl S' =>
          rw [e2] at q
          cases fl with
          | nx ρ' => exact fun H3 B3 φ3 x3 w3 σ3 en3 => ⟨ρ', B3, φ3, S', w3, en3, sb.trans (xx.b.trans x3.b), WPS.rebase x3 q⟩
          | ct ρ' => exact fun H3 B3 φ3 x3 w3 σ3 en3 => ⟨ρ', B3, φ3, S', w3, en3, sb.trans (xx.b.trans x3.b), WPS.rebase x3 q⟩
          | bk ρ' => exact q
          | rt d => exact q
  · have e : i = ds.length := by omega
    subst e
    rw [List.drop_length] at q
    exact .inl ⟨y2 rfl, WPS.here w q σ en⟩
/-! while, at most n turns -/
def whileL (c : Tf) (body : Sf) : Nat → Nv → Sto → OS
  | 0, _, _ => .bad
  | n + 1, ρ, S => (c ρ S).toS ρ fun b S1 => if b = true then (match body ρ S1 with
      | .ok (.nx ρ') S' => whileL c body n ρ' S'
      | .ok (.ct ρ') S' => whileL c body n ρ' S'
      | .ok (.bk ρ') S' => .ok (.nx ρ') S'
      | .ok (.rt d) S' => .ok (.rt d) S'
      | .exc x ρ' S' => .exc x ρ' S'
      | .bad => .bad) else .ok (.nx ρ) S1
def sWhile (n : Nat) (c : Tf) (body : Sf) : Sf := whileL c body n
theorem dp_while {cc : Expr} {body : List Stmt} {c : Tf} {bf : Sf} (n : Nat) (hp : PassesOwn (model X.prog X.w) X.A X.env X.xe) (hc : PT X cc (tT G W c)) (hb : PSs X body (tS G W bf)) : PS X (.While cc body [] pos) (tS G W (sWhile n c bf)) := by
  refine wkS (ps_while hp hc hb) fun Z σ H ⟨ρ, B, φ, S, w, en, h⟩ => ?_
  refine ⟨fun m σ H => ∃ ρ B φ S, Wd G H B φ S ∧ EnvR G B φ σ ρ ∧ WPS G W Z H B φ (whileL c bf m ρ S), ⟨n, ρ, B, φ, S, w, en, h⟩, ?_⟩
  rintro m σ H ⟨ρ, B, φ, S, w, en, q⟩
  cases m with
  | zero => exact q.elim
  | succ m =>
    unfold whileL at q
    refine tT.run w en (WPS.fst en q) fun b H1 B1 φ1 S1 x1 w1 en1 q1 => ?_
    cases b with
    | false => rw [if_neg Bool.false_ne_true] at q1 ⊢; exact WPS.here w1 q1 σ en1
    | true =>
      rw [if_pos rfl] at q1 ⊢
      refine ⟨fun σ' H' => ∃ ρ B φ S, Wd G H' B φ S ∧ EnvR G B φ σ' ρ ∧ WPS G W Z H' B φ (whileL c bf m ρ S), fun σ' H' k => ⟨m, Nat.lt_succ_self _, k⟩, ρ, B1, φ1, S1, w1, en1, ?_⟩
      cases e2 : bf ρ S1 with
      | bad => rw [e2] at q1; exact q1.elim
      | exc x ρ' S' => rw [e2] at q1; exact q1
      | ok fl S' =>
        rw [e2] at q1
        cases fl with
        | nx ρ' => exact fun H3 B3 φ3 x3 w3 σ3 en3 => ⟨ρ', B3, φ3, S', w3, en3, WPS.rebase x3 q1⟩
        | ct ρ' => exact fun H3 B3 φ3 x3 w3 σ3 en3 => ⟨ρ', B3, φ3, S', w3, en3, WPS.rebase x3 q1⟩
        | bk ρ' => exact q1
        | rt d => exact q1
/-! comprehensions -/
def Out.nox {α : Type} (o : Out α) : Out α := match o with
  | .ok a S => .ok a S
  | .exc _ _ => .bad
  | .bad => .bad
abbrev noW : WX := fun _ _ _ _ => False
theorem WP.nox {α : Type} {W' : WX} {o : Out α} {post : α → Hp → Hp → List Addr → Sto → Prop} (h : WP G W σ H B φ o.nox post) : WP G W' σ H B φ o post := by
  cases o with
  | ok a S => exact h
  | exc x S => exact h.elim
  | bad => exact h.elim
def cYes : Tf := fun _ S => .ok true S
def compL (t : Tgt) (ifs : Tf) (el : Ef) (ρ : Nv) : List D → Sto → Out (List D)
  | [], S => .ok [] S
  | d :: ds, S => match t (.p d) ρ with
    | none => .bad
    | some ρ1 => (ifs ρ1 S).nox.bind fun b S1 => if b = true then (el ρ1 S1).nox.bind (fun x S2 => match x with
        | .p d' => (compL t ifs el ρ ds S2).bind fun r S3 => Out.ok (d' :: r) S3
        | .hnd _ => .bad) else compL t ifs el ρ ds S1
def dComp (vs : List Nat) (it : If) (t : Tgt) (ifs : Tf) (el : Ef) : Ef := fun ρ S => (it ρ S).bind fun ds S1 => if ds.length ≤ big then (compL t ifs el (wipeN ρ vs) ds S1).bind (fun r S2 => .ok (.p (.lst r)) S2) else .bad
theorem dts_nil : PTs X [] (tT G W cYes) := ⟨fun pins s σ H Q I ⟨ρ, B, φ, S, w, en, h⟩ => pts_nil.run pins s σ H Q I (h H B φ Xt.refl w)⟩
theorem dts_one {c : Expr} {cf : Tf} (h : PT X c (tT G W cf)) : PTs X [c] (tT G W cf) := pts_one h
theorem Out.bind_assoc {α β γ : Type} (o : Out α) (k : α → Sto → Out β) (l : β → Sto → Out γ) : (o.bind k).bind l = o.bind fun a S => (k a S).bind l := by
  cases o <;> rfl
theorem wipe_wipe {vs : List Nat} : ∀ ws : List Nat, (∀ i ∈ ws, i ∈ vs) → wipe (wipe σ ws) vs = wipe σ vs
  | [], _ => rfl
  | w :: ws, h => by
    show wipe ((wipe σ ws).set w none) vs = _
    rw [wipe_set (h w List.mem_cons_self), wipe_wipe ws fun i hi => h i (List.mem_cons_of_mem _ hi)]
/-- a private thing is written -/
theorem Wd.priv {p : Addr} {o : HO} (w : Wd G H B φ S) (hb : B p = none) (hp : p ∉ φ) : Wd G (upd H p o) B φ S := by
  refine ⟨fun b x e => ?_, w.nd, w.len, fun i a c h1 h2 => ?_, w.sec⟩
  · have nb : b ≠ p := fun z => by subst z; rw [hb] at e; cases e
    rw [upd_ne nb]; exact w.sub _ _ e
  · have na : a ≠ p := fun z => hp (by subst z; exact List.mem_of_getElem? h1)
    refine CellR.stay (w.cell i a c h1 h2) (Same.refl _) (List.prefix_refl _) (upd_ne na) (fun _ q => q) fun j dx q0 _ _ q2 => ⟨upd_ne fun z => hp (by subst z; exact List.mem_of_getElem? q0), q2⟩
/-- a private list becomes data -/
theorem Wd.adopt {p : Addr} {av : List V} (w : Wd G H B φ S) (hh : H p = some (.lst av)) (hb : B p = none) (hp : p ∉ φ) : Wd G H (upd B p (.lst av)) φ S := by
  have sb : Same B (upd B p (.lst av)) := same_upd' hb
  refine ⟨fun b x e => ?_, w.nd, w.len, fun i a c h1 h2 => ?_, w.sec⟩
  · by_cases q : b = p
    · subst q; rw [upd_same] at e; rw [← e]; exact hh
    · rw [upd_ne q] at e; exact w.sub _ _ e
  · have na : a ≠ p := fun z => hp (by subst z; exact List.mem_of_getElem? h1)
    refine CellR.stay (w.cell i a c h1 h2) sb (List.prefix_refl _) rfl (fun _ q => by rw [upd_ne na]; exact q) fun j dx q0 _ _ q2 => ⟨rfl, by rw [upd_ne fun z => hp (by subst z; exact List.mem_of_getElem? q0)]; exact q2⟩
theorem comp_le {own : List (Str × Nat)} {it : If} {ts : List Nat} {t : Tgt} {cf : Tf} {el : Ef} (hts : ∀ i ∈ ts, i ∈ own.map (·.2)) :
    ∀ σ H Q, tD G W (dComp (own.map (·.2)) it t cf el) σ H Q → tLc (tI G W it) (tG G ts t) (tT G noW cf) (tD G noW el) (own.map (·.2)) σ H Q := by
  rintro σ H Q ⟨ρ, B, φ, S, w, en, h⟩
  refine ⟨ρ, B, φ, S, w, en, (WP.fst h).mono fun ds H1 B1 φ1 S1 x1 w1 q1 J yl => ?_⟩
  split at q1
  · rename_i hbig
    intro D hD
    have en1 := (en.mono x1.b x1.p).wipe (own.map (·.2))
    generalize hvs : own.map (·.2) = vs at *
    have nD1 : D ∉ φ1 := w1.fresh hD
    refine ⟨fun i m H => ∃ B φ S acc av, Wd G H B φ S ∧ Xt H1 B1 φ1 H B φ ∧ B D = none ∧ D ∉ φ ∧ H D = some (.lst av) ∧ Reps G B acc av ∧ acc.length ≤ i ∧ i ≤ ds.length ∧ m = ds.length - i ∧
        WP G W σ H1 B1 φ1 ((compL t cf el (wipeN ρ vs) (ds.drop i) S).bind fun r S2 => Out.ok (Dv.p (DL.D.lst (acc ++ r))) S2) (fun d H' B' φ' _ => ∀ v, RepV G B' φ' d v → Q v H'),
      ⟨_, B1, φ1, S1, [], [], w1.hide hD, Xt.hide w1 hD, w1.bfree hD, nD1, upd_same, Reps.nil, Nat.le_refl _, Nat.zero_le _, rfl, q1⟩, ?_⟩
    rintro i m H ⟨B, φ, S, acc, av, w, x, hb, hf, hh, rr, hai, hi, rfl, q⟩
    obtain ⟨y1, y2⟩ := yl i H B φ S w x.b
    by_cases hlt : i < ds.length
    · obtain ⟨go, y1⟩ := y1 hlt
      refine .inr ⟨go, fun H' => ∃ B φ S acc av, Wd G H' B φ S ∧ Xt H1 B1 φ1 H' B φ ∧ B D = none ∧ D ∉ φ ∧ H' D = some (.lst av) ∧ Reps G B acc av ∧ acc.length ≤ i + 1 ∧
        WP G W σ H1 B1 φ1 ((compL t cf el (wipeN ρ vs) (ds.drop (i + 1)) S).bind fun r S2 => Out.ok (Dv.p (DL.D.lst (acc ++ r))) S2) (fun d H' B' φ' _ => ∀ v, RepV G B' φ' d v → Q v H'), ?_, ?_⟩
      · rintro H' ⟨B', φ', S', acc', av', w', x', hb', hf', hh', rr', hai', q'⟩
        exact ⟨ds.length - (i + 1), by omega, B', φ', S', acc', av', w', x', hb', hf', hh', rr', hai', hlt, rfl, q'⟩
      · intro y H' hy
        obtain ⟨d, B', hd, xx, w', r⟩ := y1 y H' hy
        rw [List.drop_eq_getElem_cons hlt] at q
        have ed : ds[i] = d := by rw [List.getElem?_eq_getElem hlt] at hd; exact Option.some.inj hd
        rw [ed] at q
        unfold compL at q
        have x' := x.trans xx
        obtain ⟨hh', hb', hf'⟩ := xx.out D _ hh hb hf
        refine ⟨wipeN ρ vs, B', φ, S, .p d, w', en1.mono x'.b x'.p, r, ?_⟩
        cases e1 : t (.p d) (wipeN ρ vs) with
        | none => rw [e1] at q; exact q.elim
        | some ρ1 =>
          rw [e1] at q
          dsimp only at q
          refine fun σ2 en2 k2 => ⟨(k2 vs hts).trans (wipe_wipe vs fun _ z => z), ρ1, B', φ, S, w', en2, ?_⟩
          cases e2 : cf ρ1 S with
          | bad => rw [e2] at q; exact q.elim
          | exc e' S' => rw [e2] at q; exact q.elim
          | ok b S2 =>
            rw [e2] at q
            have q : WP G W σ H1 B1 φ1 ((if b = true then (el ρ1 S2).nox.bind (fun x S2 => match x with
              | .p d' => (compL t cf el (wipeN ρ vs) (ds.drop (i + 1)) S2).bind fun r S3 => Out.ok (d' :: r) S3
              | .hnd _ => .bad) else compL t cf el (wipeN ρ vs) (ds.drop (i + 1)) S2).bind fun r S2 => Out.ok (Dv.p (DL.D.lst (acc ++ r))) S2) (fun d H' B' φ' _ => ∀ v, RepV G B' φ' d v → Q v H') := q
            intro H3 B3 φ3 x3 w3
            obtain ⟨hh3, hb3, hf3⟩ := x3.out D _ hh' hb' hf'
            have x03 := x'.trans x3
            cases b with
            | false =>
              rw [if_neg Bool.false_ne_true] at q ⊢
              exact ⟨B3, φ3, S2, acc, av, w3, x03, hb3, hf3, hh3, Reps.mono (xx.b.trans x3.b) _ rr, Nat.le_succ_of_le hai, q⟩
            | true =>
              rw [if_pos rfl] at q ⊢
              refine ⟨ρ1, B3, φ3, S2, w3, en2.mono x3.b x3.p, ?_⟩
              cases e3 : el ρ1 S2 with
              | bad => rw [e3] at q; exact q.elim
              | exc e' S' => rw [e3] at q; exact q.elim
              | ok dv S4 =>
                rw [e3] at q
                cases dv with
                | hnd n => exact q.elim
                | p d' =>
                  have q : WP G W σ H1 B1 φ1 (((compL t cf el (wipeN ρ vs) (ds.drop (i + 1)) S4).bind fun r S3 => Out.ok (d' :: r) S3).bind fun r S2 => Out.ok (Dv.p (DL.D.lst (acc ++ r))) S2) (fun d H' B' φ' _ => ∀ v, RepV G B' φ' d v → Q v H') := q
                  rw [Out.bind_assoc] at q
                  intro H4 B4 φ4 x4 w4 v4 r4
                  obtain ⟨hh4, hb4, hf4⟩ := x4.out D _ hh3 hb3 hf3
                  have x04 := x03.trans x4
                  have rr4 : Reps G B4 acc av := Reps.mono (xx.b.trans (x3.b.trans x4.b)) _ rr
                  refine ⟨av, hh4, ?_, B4, φ4, S4, acc ++ [d'], av ++ [v4], w4.priv hb4 hf4, ⟨x04.b, x04.p, fun a u h1 h2 h3 => ?_⟩, hb4, hf4, upd_same, rr4.append (Reps.cons r4 Reps.nil), by rw [List.length_append]; show acc.length + 1 ≤ _; omega, ?_⟩
                  · rw [← rr4.length, ← big_eq]; omega
                  · have na : a ≠ D := ne_of_none h1 hD
                    rw [upd_ne na]
                    exact x04.out a u h1 h2 h3
                  · have e5 : (fun (r : List DL.D) (S2 : Sto) => (Out.ok (d' :: r) S2).bind fun r S2 => Out.ok (Dv.p (.lst (acc ++ r))) S2) = fun r S2 => Out.ok (Dv.p (.lst ((acc ++ [d']) ++ r))) S2 := by
                      funext r S2
                      show Out.ok (Dv.p (.lst (acc ++ (d' :: r)))) S2 = _
                      rw [List.append_assoc]; rfl
                    rw [← e5]
                    exact q
    · have e : i = ds.length := by omega
      subst e
      rw [List.drop_length] at q
      refine .inl ⟨y2 rfl, ?_⟩
      have q : WP G W σ H1 B1 φ1 (.ok (.p (.lst (acc ++ []))) S) (fun d H' B' φ' _ => ∀ v, RepV G B' φ' d v → Q v H') := q
      rw [List.append_nil] at q
      have sb : Same B (upd B D (.lst av)) := same_upd' hb
      refine q H (upd B D (.lst av)) φ ⟨x.b.trans sb, x.p, fun a u h1 h2 h3 => ?_⟩ (w.adopt hh hb hf) _ (rep_lst.mpr ⟨D, av, rfl, upd_same, Reps.mono sb _ rr⟩)
      have na : a ≠ D := ne_of_none h1 hD
      rw [upd_ne na]
      exact x.out a u h1 h2 h3
  · exact q1.elim
theorem de_comp {elt tg iter : Expr} {ifs : List Expr} {scope : Scope} {own : List (Str × Nat)} {it : If} {ts : List Nat} {t : Tgt} {cf : Tf} {el : Ef} (hc : X.calm = true) (hN : X.N.Nodup) (hi : PI X tg iter (tI G W it)) (ok : BlkOk X.N X.env.scope scope own)
    (hts : ∀ i ∈ ts, i ∈ own.map (·.2))
    (hg : ∀ (s : Shared) (H : Hp) (C : Addr) (cl : List (Str × Addr)) (fp : List Addr), PG (X.blk s H scope (compEnvC scope cl C X.env) fp) tg (tG G ts t))
    (ht : ∀ (s : Shared) (H : Hp) (C : Addr) (cl : List (Str × Addr)) (fp : List Addr), PTs (X.blk s H scope (compEnvC scope cl C X.env) fp) ifs (tT G noW cf))
    (he : ∀ (s : Shared) (H : Hp) (C : Addr) (cl : List (Str × Addr)) (fp : List Addr), PE (X.blk s H scope (compEnvC scope cl C X.env) fp) elt (tD G noW el))
    (hs : ∀ x, foldedSetIterable iter X.env x = pure x := by intro _; rfl) :
    PE X (.ListComp elt [⟨tg, iter, ifs, 0⟩] scope pos) (tD G W (dComp (own.map (·.2)) it t cf el)) :=
  wkE (pe_lc hc hN hi ok hg ht he hs) (comp_le hts)
theorem dp_setLc {i : Nat} {y : Str} {py spos : Pos} {elt tg iter : Expr} {ifs : List Expr} {scope : Scope} {own : List (Str × Nat)} {it : If} {ts : List Nat} {t : Tgt} {cf : Tf} {el : Ef} (hc : X.calm = true) (hN : X.N.Nodup) (hy : X.N[i]? = some y) (hyl : X.env.scope.names.lookup y = some .local) (hk : X.env.scope.kind = .function) (hl : (py.line == pos.line) = true) (hna : (scope.names.any fun (n, k) => n == y && (k == .local || k == .cell)) = false) (hi : PI X tg iter (tI G W it)) (ok : BlkOk X.N X.env.scope scope own)
    (hts : ∀ i ∈ ts, i ∈ own.map (·.2))
    (hg : ∀ (s : Shared) (H : Hp) (C : Addr) (cl : List (Str × Addr)) (fp : List Addr), PG (X.blk s H scope (compEnvC scope cl C X.env) fp) tg (tG G ts t))
    (ht : ∀ (s : Shared) (H : Hp) (C : Addr) (cl : List (Str × Addr)) (fp : List Addr), PTs (X.blk s H scope (compEnvC scope cl C X.env) fp) ifs (tT G noW cf))
    (he : ∀ (s : Shared) (H : Hp) (C : Addr) (cl : List (Str × Addr)) (fp : List Addr), PE (X.blk s H scope (compEnvC scope cl C X.env) fp) elt (tD G noW el))
    (hs : ∀ x, foldedSetIterable iter X.env x = pure x := by intro _; rfl) :
    PS X (.Assign [.Name y py] (.ListComp elt [⟨tg, iter, ifs, 0⟩] scope pos) spos) (tS G W (sSet i (dComp (own.map (·.2)) it t cf el))) := by
  refine wkS (ps_setLc hc hN hy hyl (sw_true hk hyl hl hna) hi ok hg ht he hs) fun D σ H ⟨ρ, B, φ, S, w, en, h⟩ => ?_
  refine comp_le hts σ H _ ⟨ρ, B, φ, S, w, en, (WPS.fst en h).mono fun a H1 B1 φ1 S1 x1 w1 q1 v r1 => ?_⟩
  exact WPS.here w1 q1 _ ((en.mono x1.b x1.p).set i r1)
end
end DL

namespace DL
open PySem L2
open PySem.Spec PyProof.Rows
/-! ### defs of data alone -/
inductive PO where
  | ok (d : D) | exc (x : Ex) | bad
def spP (G : Gx) (n : Nat) (m : List D → PO) : Sp := fun vs H Q E => ∃ B ds, Same B H ∧ Reps G B ds vs ∧ ds.length = n ∧ match m ds with
  | .ok d => ∀ H' B' v, Xt H B [] H' B' [] → Same B' H' → Rep G B' d v → Q v H'
  | .exc x => ∀ H' B' c dd, Xt H B [] H' B' [] → Same B' H' → XRep G B' x c dd → E c dd H'
  | .bad => False
def init (n : Nat) (ds : List Dv) : Nv := ds.map some ++ List.replicate n none
def runP (n : Nat) (body : Sf) (ds : List D) : PO := match body (init n (ds.map Dv.p)) [] with
  | .ok (.rt (.p d)) _ => .ok d
  | .ok (.rt (.hnd i)) S => match S[i]? with
    | some (.lst es) => .ok (.lst es)
    | _ => .bad
  | .ok (.nx _) _ => .ok .non
  | .ok _ _ => .bad
  | .exc x _ _ => .exc x
  | .bad => .bad
/-- defs that change cells -/
def spE (G : Gx) (n : Nat) (m : List Dv → Sto → Out Dv) : Sp := fun vs H Q E => ∃ B φ S ds, Wd G H B φ S ∧ RepVs G B φ ds vs ∧ ds.length = n ∧
  WP G (fun c dd _ H' => E c dd H') [] H B φ (m ds S) fun d H' B' φ' _ => ∀ v, RepV G B' φ' d v → Q v H'
def runE (n : Nat) (body : Sf) (ds : List Dv) (S : Sto) : Out Dv := match body (init n ds) S with
  | .ok (.rt d) S' => .ok d S'
  | .ok (.nx _) S' => .ok (.p .non) S'
  | .ok _ _ => .bad
  | .exc x _ S' => .exc x S'
  | .bad => .bad
section
variable {G : Gx} {H B H' B' : Hp} {φ φ' : List Addr} {S S' : Sto}
theorem Wd.none (s : Same B H) : Wd G H B [] [] := ⟨s, List.nodup_nil, rfl, fun i a c h => by simp at h, fun i j c h => by simp at h⟩
theorem Xt.bare (x : Xt H B [] H' B' φ') : Xt H B [] H' B' [] := ⟨x.b, List.prefix_refl _, fun a o h1 h2 h3 => let ⟨q1, q2, _⟩ := x.out a o h1 h2 h3; ⟨q1, q2, h3⟩⟩
/-- behind a call of a def of data -/
theorem Wd.call (w : Wd G H B φ S) (x : Xt H B [] H' B' []) (s : Same B' H') : Wd G H' B' φ S ∧ Xt H B φ H' B' φ := by
  have out : ∀ a o, H a = some o → B a = .none → H' a = some o ∧ B' a = .none := fun a o h1 h2 => let ⟨q1, q2, _⟩ := x.out a o h1 h2 (by simp); ⟨q1, q2⟩
  refine ⟨⟨s, w.nd, w.len, fun i a c h1 h2 => ?_, w.sec⟩, ⟨x.b, List.prefix_refl _, fun a o h1 h2 h3 => let ⟨q1, q2⟩ := out a o h1 h2; ⟨q1, q2, h3⟩⟩⟩
  have r := w.cell i a c h1 h2
  obtain ⟨o, ho⟩ := r.there
  cases e : B a with
  | none => exact CellR.stay r x.b (List.prefix_refl _) ((out a o ho e).1.trans ho.symm) (fun _ _ => (out a o ho e).2) fun j dx q1 q2 ⟨u, q3⟩ q4 => ⟨(out dx u q3 q4).1.trans q3.symm, (out dx u q3 q4).2⟩
  | some u =>
    have e2 : H a = some u := w.sub _ _ e
    have e3 : H' a = some u := s _ _ (x.b _ _ e)
    exact CellR.stay r x.b (List.prefix_refl _) (e3.trans e2.symm) (fun _ q => by rw [e] at q; cases q) fun j dx q1 q2 ⟨u, q3⟩ q4 => ⟨(out dx u q3 q4).1.trans q3.symm, (out dx u q3 q4).2⟩
theorem reps_vs : ∀ {ds : List D} {vs : List V}, Reps G B ds vs → RepVs G B φ (ds.map Dv.p) vs
  | [], _, h => by unfold Reps at h; exact h
  | d :: ds, _, h => by
    unfold Reps at h
    obtain ⟨x, r, e, h1, h2⟩ := h
    exact ⟨x, r, e, h1, reps_vs h2⟩
theorem envR_init {N : List Str} {ds : List Dv} {vs : List V} (r : RepVs G B φ ds vs) (hl : N.length = ds.length + n) : EnvR G B φ (L2.start N vs) (init n ds) := by
  have e := r.length
  unfold L2.start init
  refine ⟨by simp; omega, fun i d h => ?_⟩
  by_cases hi : i < ds.length
  · rw [List.getElem?_append_left (by simpa using hi), List.getElem?_map] at h
    cases q : ds[i]? with
    | none => rw [q] at h; cases h
    | some d' =>
      rw [q] at h
      have : d' = d := by simpa using h
      subst this
      obtain ⟨v, h1, h2⟩ := r.get q
      exact ⟨v, by rw [List.getElem?_append_left (by simpa [← e] using hi), List.getElem?_map, h1]; rfl, h2⟩
  · rw [List.getElem?_append_right (by simpa using hi), List.getElem?_replicate] at h
    split at h <;> cases h
end
section
variable {P : Program} {w : World} {K : PySem.W.Frag} {mg : Str → Option Value} {base : Heap} {G : Gx}
/-- the context of a def's body, and what it knows -/
abbrev cxF (P : Program) (w : World) (K : PySem.W.Frag) (mg : Str → Option Value) (base : Heap) (N : List Str) (qual : Str) (scope : Scope) (f : Addr) (cd : Value) (A : Around) (outer : List Env) (s : Shared) (H : Hp) (E : XK) : Cx :=
  cxOf (L2.CX P w) P w K mg base N qual scope f cd A outer s H E
abbrev wF (E : XK) : WX := fun cls d _ H => E cls d H
theorem takesF {N : List Str} {qual : Str} {scope : Scope} {f : Addr} {cd : Value} {A : Around} {outer : List Env} {s : Shared} {H : Hp} {E : XK} : Takes (cxF P w K mg base N qual scope f cd A outer s H E) (wF E) := takes_of rfl rfl rfl rfl
theorem passesF {N : List Str} {qual : Str} {scope : Scope} {f : Addr} {cd : Value} {A : Around} {outer : List Env} {s : Shared} {H : Hp} {E : XK} :
    PassesOwn (model P w) (cxF P w K mg base N qual scope f cd A outer s H E).A (cxF P w K mg base N qual scope f cd A outer s H E).env (cxF P w K mg base N qual scope f cd A outer s H E).xe :=
  passes_of (X := cxF P w K mg base N qual scope f cd A outer s H E) rfl
theorem ok_P {x qual : Str} {st : Stmt} {f : Addr} {fd : FuncData} {N ps : List Str} {k n : Nat} {body : Sf} (F : Fun K x qual st f fd) (Sc : FnScope N ps (defScope st)) (hN : N.length = ps.length + n)
    (der : ∀ (cd : Value) (A : Around) (outer : List Env) (s : Shared) (H : Hp) (E : XK), Room k (cxF P w K mg base N qual (defScope st) f cd A outer s H E).A →
      PSs (cxF P w K mg base N qual (defScope st) f cd A outer s H E) (defBody st) (tS G (wF E) body)) : FnOk P w K mg base (L2.CX P w) (k + 1) f fd ps (spP G ps.length (runP n body)) := by
  refine F.okX Sc (fun vs H Q E h => ?_) (fun cd A outer s H vs Q E hr h => ?_)
  · obtain ⟨B, ds, _, r, hl, _⟩ := h
    rw [← r.length, hl]
  · obtain ⟨B, ds, sb, r, hl, h⟩ := h
    refine ⟨_, der cd A outer s H E hr, init n (ds.map Dv.p), B, [], [], Wd.none sb, envR_init (reps_vs r) (by rw [List.length_map, hl, hN]), ?_⟩
    unfold runP at h
    cases q : body (init n (ds.map Dv.p)) [] with
    | bad => rw [q] at h; exact h.elim
    | exc e ρ S => rw [q] at h; exact fun H' B' φ' c dd σ xx w' r' _ => h H' B' c dd xx.bare w'.sub r'
    | ok fl S =>
      rw [q] at h
      cases fl with
      | nx ρ => exact fun H' B' φ' xx w' σ _ => h H' B' _ xx.bare w'.sub (by unfold Rep; rfl)
      | bk ρ => exact h.elim
      | ct ρ => exact h.elim
      | rt d =>
        cases d with
        | p d => exact fun H' B' φ' xx w' v r' => h H' B' v xx.bare w'.sub r'
        | hnd i =>
          dsimp only at h
          cases qi : S[i]? with
          | none => rw [qi] at h; exact h.elim
          | some c =>
            rw [qi] at h
            cases c with
            | lst es =>
              intro H' B' φ' xx w' v r'
              obtain ⟨a, ha, rfl⟩ := r'
              obtain ⟨xs, h1, h2, h3, w2, x2⟩ := w'.thaw ha qi
              exact h H' _ _ (xx.trans x2).bare w2.sub (rep_lst (φ := []).mpr ⟨a, xs, rfl, upd_same, Reps.mono x2.b _ h3⟩)
            | rcd _ => exact h.elim
            | ins _ _ => exact h.elim
            | dead => exact h.elim
            | raw _ => exact h.elim
            | slt _ _ => exact h.elim
theorem ok_E {x qual : Str} {st : Stmt} {f : Addr} {fd : FuncData} {N ps : List Str} {k n : Nat} {body : Sf} (F : Fun K x qual st f fd) (Sc : FnScope N ps (defScope st)) (hN : N.length = ps.length + n)
    (der : ∀ (cd : Value) (A : Around) (outer : List Env) (s : Shared) (H : Hp) (E : XK), Room k (cxF P w K mg base N qual (defScope st) f cd A outer s H E).A →
      PSs (cxF P w K mg base N qual (defScope st) f cd A outer s H E) (defBody st) (tS G (wF E) body)) : FnOk P w K mg base (L2.CX P w) (k + 1) f fd ps (spE G ps.length (runE n body)) := by
  refine F.okX Sc (fun vs H Q E h => ?_) (fun cd A outer s H vs Q E hr h => ?_)
  · obtain ⟨B, φ, S, ds, _, r, hl, _⟩ := h
    rw [← r.length, hl]
  · obtain ⟨B, φ, S, ds, w0, r, hl, h⟩ := h
    refine ⟨_, der cd A outer s H E hr, init n ds, B, φ, S, w0, envR_init r (by rw [hl, hN]), ?_⟩
    unfold runE at h
    cases q : body (init n ds) S with
    | bad => rw [q] at h; exact h.elim
    | exc e ρ S => rw [q] at h; exact fun H' B' φ' c dd σ xx w' r' _ => h H' B' φ' c dd xx w' r'
    | ok fl S =>
      rw [q] at h
      cases fl with
      | nx ρ => exact fun H' B' φ' xx w' σ _ => h H' B' φ' xx w' _ (rep_non.mpr rfl)
      | bk ρ => exact h.elim
      | ct ρ => exact h.elim
      | rt d => exact fun H' B' φ' xx w' v r' => h H' B' φ' xx w' v r'
end
/-! calls -/
def dCallP (m : List D → PO) (a : Af) : Ef := fun ρ S => (a ρ S).bind fun xs S1 => match allP xs with
  | some ds => match m ds with
    | .ok d => .ok (.p d) S1
    | .exc x => .exc x S1
    | .bad => .bad
  | none => .bad
def dCallE (m : List Dv → Sto → Out Dv) (a : Af) : Ef := fun ρ S => (a ρ S).bind fun xs S1 => m xs S1
section
variable {X : Cx} {G : Gx} {W : WX} {k n : Nat} {f : Addr} {fd : FuncData} {ps : List Str} {x : Str} {p pos : Pos} {e : Expr} {es : List Expr} {af : Af} {H B : Hp} {φ : List Addr} {S : Sto} {σ : L2.St} {Q : VK}
/-- the callee's promise at the arguments -/
theorem spP_of {m : List D → PO} {xs : List Dv} {vs : List V} {ds : List D} (hn : ds.length = n) (w : Wd G H B φ S) (r : RepVs G B φ xs vs) (ha : allP xs = some ds)
    (h : WP G W σ H B φ (match m ds with
      | .ok d => .ok (.p d) S
      | .exc x => .exc x S
      | .bad => .bad : Out Dv) fun d H' B' φ' _ => ∀ v, RepV G B' φ' d v → Q v H') : spP G n m vs H Q (WE W σ) := by
  refine ⟨B, ds, w.sub, allP_rep ha r, hn, ?_⟩
  cases q : m ds with
  | bad => rw [q] at h; exact h
  | ok d =>
    rw [q] at h
    intro H' B' v xx s r'
    obtain ⟨w', x'⟩ := w.call xx s
    exact h H' B' φ x' w' v r'
  | exc x =>
    rw [q] at h
    intro H' B' c dd xx s r'
    obtain ⟨w', x'⟩ := w.call xx s
    exact h H' B' φ c dd x' w' r'
theorem de_callP {m : List D → PO} (tk : Takes X W) (F : FnOk X.prog X.w X.K X.mg X.base (L2.CX X.prog X.w) k f fd ps (spP G n m)) (hr : Room k X.A) (hg : Gl X x) (hm : X.mg x = some (.ref f)) (hk : PySem.W.keepIn X.K (.ref f) = true) (hb : Binds X.K fd ps [])
    (hn : ∀ ρ S xs S', af ρ S = .ok xs S' → xs.length = n)
    (ha : PA X (e :: es) (tA G W af)) (hdb : (x == ("__debug__" : Str)) = false := by decide) (he : starEach (e :: es) X.env = (false, eval e X.env) :: starEach es X.env := by rfl) (hpl : (backTo pos (starEach es X.env)).any (·.1) = false := by rfl) :
    PE X (.Call (.Name x p) (e :: es) [] pos) (tD G W (dCallP m af)) := by
  refine wkE (pe_callS F hr hg hm hk hb (fun σ => passAt tk σ) ha hdb he hpl) fun σ H Q ⟨ρ, B, φ, S, w, en, q⟩ => ?_
  have hlen : ∀ xs S', af ρ S = .ok xs S' → xs.length = n := hn ρ S
  cases qa : af ρ S with
  | bad => unfold dCallP at q; rw [qa] at q; exact q.elim
  | exc x0 S0 => unfold dCallP at q; rw [qa] at q; exact ⟨ρ, B, φ, S, w, en, by rw [qa]; exact q⟩
  | ok xs0 S0 =>
    have l0 := hlen xs0 S0 qa
    refine ⟨ρ, B, φ, S, w, en, ?_⟩
    unfold dCallP at q
    rw [qa] at q ⊢
    intro H1 B1 φ1 x1 w1 vs r1
    have q1 := WP.rebase x1 q
    have q1 : WP G W σ H1 B1 φ1 (match allP xs0 with
      | some ds => match m ds with
        | .ok d => .ok (.p d) S0
        | .exc x => .exc x S0
        | .bad => .bad
      | none => .bad : Out Dv) (fun d H' B' φ' _ => ∀ v, RepV G B' φ' d v → Q v H') := q1
    cases qp : allP xs0 with
    | none => rw [qp] at q1; exact q1.elim
    | some ds =>
      rw [qp] at q1
      have l1 : ds.length = n := by rw [(allP_rep qp r1).length, ← r1.length, l0]
      exact spP_of l1 w1 r1 qp q1
theorem de_callE {m : List Dv → Sto → Out Dv} (tk : Takes X W) (F : FnOk X.prog X.w X.K X.mg X.base (L2.CX X.prog X.w) k f fd ps (spE G n m)) (hr : Room k X.A) (hg : Gl X x) (hm : X.mg x = some (.ref f)) (hk : PySem.W.keepIn X.K (.ref f) = true) (hb : Binds X.K fd ps [])
    (hn : ∀ ρ S xs S', af ρ S = .ok xs S' → xs.length = n)
    (ha : PA X (e :: es) (tA G W af)) (hdb : (x == ("__debug__" : Str)) = false := by decide) (he : starEach (e :: es) X.env = (false, eval e X.env) :: starEach es X.env := by rfl) (hpl : (backTo pos (starEach es X.env)).any (·.1) = false := by rfl) :
    PE X (.Call (.Name x p) (e :: es) [] pos) (tD G W (dCallE m af)) := by
  refine wkE (pe_callS F hr hg hm hk hb (fun σ => passAt tk σ) ha hdb he hpl) fun σ H Q ⟨ρ, B, φ, S, w, en, q⟩ => ?_
  cases qa : af ρ S with
  | bad => unfold dCallE at q; rw [qa] at q; exact q.elim
  | exc x0 S0 => unfold dCallE at q; rw [qa] at q; exact ⟨ρ, B, φ, S, w, en, by rw [qa]; exact q⟩
  | ok xs0 S0 =>
    have l0 := hn ρ S xs0 S0 qa
    refine ⟨ρ, B, φ, S, w, en, ?_⟩
    unfold dCallE at q
    rw [qa] at q ⊢
    intro H1 B1 φ1 x1 w1 vs r1
    have q1 : WP G W σ H1 B1 φ1 (m xs0 S0) (fun d H' B' φ' _ => ∀ v, RepV G B' φ' d v → Q v H') := WP.rebase x1 q
    refine ⟨B1, φ1, S0, xs0, w1, r1, l0, ?_⟩
    cases qm : m xs0 S0 with
    | bad => rw [qm] at q1; exact q1
    | ok d S' => rw [qm] at q1; exact q1
    | exc x S' => rw [qm] at q1; exact q1
/-- argument lists have their length -/
theorem aNil_len {ρ : Nv} {S S' : Sto} {xs : List Dv} (h : aNil ρ S = .ok xs S') : xs.length = 0 := by
  unfold aNil at h; cases h; rfl
theorem aCons_len {ff : Ef} {m : Nat} (h : ∀ ρ S xs S', af ρ S = .ok xs S' → xs.length = m) (ρ : Nv) (S : Sto) (xs : List Dv) (S' : Sto) (q : aCons ff af ρ S = .ok xs S') : xs.length = m + 1 := by
  unfold aCons at q
  cases q1 : ff ρ S with
  | bad => rw [q1] at q; cases q
  | exc _ _ => rw [q1] at q; cases q
  | ok d S1 =>
    rw [q1] at q
    have q : ((af ρ S1).bind fun xs S2 => Out.ok (d :: xs) S2) = .ok xs S' := q
    cases q2 : af ρ S1 with
    | bad => rw [q2] at q; cases q
    | exc _ _ => rw [q2] at q; cases q
    | ok ys S2 =>
      rw [q2] at q
      have q : Out.ok (d :: ys) S2 = .ok xs S' := q
      cases q
      rw [List.length_cons, h _ _ _ _ q2]
/-! built-ins -/
theorem de_callB {id : String} {r : List V → Hp → VK → Prop} {op : OpN} (hc : CallR X (.builtin id) r) (ok : OkN G W r op) (hg : Gl X x) (hm : X.mg x = none) (hv : bootBuiltins x = some (.builtin id)) (ha : PA X (e :: es) (tA G W af)) (hn : x ≠ "__name__" := by decide) (hdb : (x == ("__debug__" : Str)) = false := by decide)
    (he : starEach (e :: es) X.env = (false, eval e X.env) :: starEach es X.env := by rfl) (hpl : (backTo pos (starEach es X.env)).any (·.1) = false := by rfl) : PE X (.Call (.Name x p) (e :: es) [] pos) (tD G W (dCall op af)) :=
  wkE (pe_callB hc hg hm hv ha hn hdb he hpl) fun σ H Q ⟨ρ, B, φ, S, w, en, q⟩ => tA.run w en (WP.fst q) fun ds vs H1 B1 φ1 S1 x1 w1 en1 r1 q1 => ok H1 B1 φ1 S1 σ ds vs Q w1 r1 q1
theorem de_callTy {T : String} {r : List V → Hp → VK → Prop} {op : OpN} (hc : CallR X (.type T) r) (ok : OkN G W r op) (hg : Gl X x) (hm : X.mg x = none) (hv : bootBuiltins x = some (.type T)) (ha : PA X (e :: es) (tA G W af)) (hn : x ≠ "__name__" := by decide) (hdb : (x == ("__debug__" : Str)) = false := by decide)
    (he : starEach (e :: es) X.env = (false, eval e X.env) :: starEach es X.env := by rfl) (hpl : (backTo pos (starEach es X.env)).any (·.1) = false := by rfl) : PE X (.Call (.Name x p) (e :: es) [] pos) (tD G W (dCall op af)) :=
  wkE (pe_callTy hc hg hm hv ha hn hdb he hpl) fun σ H Q ⟨ρ, B, φ, S, w, en, q⟩ => tA.run w en (WP.fst q) fun ds vs H1 B1 φ1 S1 x1 w1 en1 r1 q1 => ok H1 B1 φ1 S1 σ ds vs Q w1 r1 q1
theorem rvs1 {d : Dv} {vs : List V} (r : RepVs G B φ [d] vs) : ∃ v, vs = [v] ∧ RepV G B φ d v := by
  obtain ⟨v, t, rfl, h, e⟩ := r
  rw [show t = [] from e]; exact ⟨v, rfl, h⟩
theorem rvs2 {d d' : Dv} {vs : List V} (r : RepVs G B φ [d, d'] vs) : ∃ v u, vs = [v, u] ∧ RepV G B φ d v ∧ RepV G B φ d' u := by
  obtain ⟨v, t, rfl, h, u, t2, rfl, h2, e⟩ := r
  rw [show t2 = [] from e]; exact ⟨v, u, rfl, h, h2⟩
/-- int(n) -/
def nInt : OpN := fun xs S => match xs with
  | [.p (.int i)] => .ok (.p (.int i)) S
  | [.p (.bl b)] => .ok (.p (.int (if b then 1 else 0))) S
  | _ => .bad
theorem nInt_ok : OkN G W (fun xs H Q => (∃ i, xs = [.int i] ∧ Q (.int i) H) ∨ ∃ k, xs = [.bl k] ∧ Q (.int (if k then 1 else 0)) H) nInt := by
  intro H B φ S σ xs vs Q w r h
  unfold nInt at h
  split at h
  · obtain ⟨v, rfl, rv⟩ := rvs1 r
    exact .inl ⟨_, by rw [rep_int.mp rv], h H B φ Xt.refl w _ (rep_int.mpr rfl)⟩
  · obtain ⟨v, rfl, rv⟩ := rvs1 r
    exact .inr ⟨_, by rw [rep_bl.mp rv], h H B φ Xt.refl w _ (rep_int.mpr rfl)⟩
  · exact h.elim
/-- len -/
def nLen : OpN := fun xs S => match xs with
  | [.p (.scr ns)] => .ok (.p (.int ns.length)) S
  | [x] => match sqOf S x with
    | some ds => .ok (.p (.int ds.length)) S
    | none => .bad
  | _ => .bad
theorem nLen_ok : OkN G W (fun xs H Q => ∃ p ys, xs = [.ref p] ∧ (SqL G.K H p ys ∨ SqT G.K H p ys) ∧ Q (.int ys.length) H) nLen := by
  intro H B φ S σ xs vs Q w r h
  unfold nLen at h
  split at h
  · obtain ⟨v, rfl, rv⟩ := rvs1 r
    obtain ⟨a, rfl, s1⟩ := rep_scr.mp rv
    exact ⟨a, _, rfl, .inl (w.sub.seq s1), by rw [List.length_map]; exact h H B φ Xt.refl w _ (rep_int.mpr rfl)⟩
  · split at h
    · rename_i ds hs
      obtain ⟨v, rfl, rv⟩ := rvs1 r
      obtain ⟨a, ys, rfl, s1, q1⟩ := sq_at w rv hs
      exact ⟨a, ys, rfl, s1, by rw [← q1.length]; exact h H B φ Xt.refl w _ (rep_int.mpr rfl)⟩
    · exact h.elim
  · exact h.elim
/-- max, min of two -/
def nMax2 : OpN := fun xs S => match xs with
  | [.p (.int i), .p (.int j)] => .ok (.p (.int (if j > i then j else i))) S
  | _ => .bad
def nMin2 : OpN := fun xs S => match xs with
  | [.p (.int i), .p (.int j)] => .ok (.p (.int (if j < i then j else i))) S
  | _ => .bad
theorem nMax2_ok : OkN G W (fun xs H Q => ∃ i j, xs = [.int i, .int j] ∧ Q (.int (if j > i then j else i)) H) nMax2 := by
  intro H B φ S σ xs vs Q w r h
  unfold nMax2 at h
  split at h
  · obtain ⟨v, u, rfl, rv, ru⟩ := rvs2 r
    exact ⟨_, _, by rw [rep_int.mp rv, rep_int.mp ru], h H B φ Xt.refl w _ (rep_int.mpr rfl)⟩
  · exact h.elim
theorem nMin2_ok : OkN G W (fun xs H Q => ∃ i j, xs = [.int i, .int j] ∧ Q (.int (if j < i then j else i)) H) nMin2 := by
  intro H B φ S σ xs vs Q w r h
  unfold nMin2 at h
  split at h
  · obtain ⟨v, u, rfl, rv, ru⟩ := rvs2 r
    exact ⟨_, _, by rw [rep_int.mp rv, rep_int.mp ru], h H B φ Xt.refl w _ (rep_int.mpr rfl)⟩
  · exact h.elim
/-- list(x): data, or a cell -/
def lsOf (S : Sto) : Dv → Option (List D)
  | .p (.scr ns) => some (ns.map D.int)
  | x => sqOf S x
theorem ls_at {x : Dv} {v : V} {ds : List D} (w : Wd G H B φ S) (r : RepV G B φ x v) (h : lsOf S x = some ds) : ∃ a xs, v = .ref a ∧ (SqL G.K H a xs ∨ SqT G.K H a xs) ∧ Reps G B ds xs := by
  unfold lsOf at h
  split at h
  · rename_i ns
    cases h
    obtain ⟨a, rfl, s1⟩ := rep_scr.mp r
    exact ⟨a, _, rfl, .inl (w.sub.seq s1), Reps.ints ns⟩
  · exact sq_at w r h
def nList : OpN := fun xs S => match xs with
  | [x] => match lsOf S x with
    | some ds => .ok (.p (.lst ds)) S
    | none => .bad
  | _ => .bad
def nListC : OpN := fun xs S => match xs with
  | [x] => match lsOf S x with
    | some ds => .ok (.hnd S.length) (S ++ [.lst ds])
    | none => .bad
  | _ => .bad
theorem nList_ok : OkN G W (fun xs H Q => ∃ p ys, xs = [.ref p] ∧ (SqL G.K H p ys ∨ SqT G.K H p ys) ∧ ∀ l, H l = none → Q (.ref l) (upd H l (.lst ys))) nList := by
  intro H B φ S σ xs vs Q w r h
  unfold nList at h
  split at h
  · split at h
    · rename_i ds hs
      obtain ⟨v, rfl, rv⟩ := rvs1 r
      obtain ⟨a, ys, rfl, s1, q1⟩ := ls_at w rv hs
      exact ⟨a, ys, rfl, s1, fun l hl => h _ _ _ (Xt.alloc w hl) (w.alloc hl) _ (rep_lst.mpr ⟨l, _, rfl, upd_same, Reps.mono (same_upd' (w.bfree hl)) _ q1⟩)⟩
    · exact h.elim
  · exact h.elim
theorem nListC_ok : OkN G W (fun xs H Q => ∃ p ys, xs = [.ref p] ∧ (SqL G.K H p ys ∨ SqT G.K H p ys) ∧ ∀ l, H l = none → Q (.ref l) (upd H l (.lst ys))) nListC := by
  intro H B φ S σ xs vs Q w r h
  unfold nListC at h
  split at h
  · split at h
    · rename_i ds hs
      obtain ⟨v, rfl, rv⟩ := rvs1 r
      obtain ⟨a, ys, rfl, s1, q1⟩ := ls_at w rv hs
      refine ⟨a, ys, rfl, s1, fun l hl => ?_⟩
      obtain ⟨w2, x2, rr⟩ := cell_new (c := .lst ds) (o := .lst ys) w hl ⟨w.bfree hl, ys, upd_same, q1⟩
      exact h _ _ _ x2 w2 _ rr
    · exact h.elim
  · exact h.elim
/-! all -/
def blsOf : List D → Option (List Bool)
  | [] => some []
  | .bl b :: r => (blsOf r).map (b :: ·)
  | _ :: _ => none
theorem bls_at : ∀ {ds : List D} {bs : List Bool} {vs : List V}, blsOf ds = some bs → Reps G B ds vs → vs = bs.map V.bl
  | [], bs, _, h, r => by simp [blsOf] at h; subst h; unfold Reps at r; rw [r]; rfl
  | .bl b :: ds, bs, _, h, r => by
    simp only [blsOf, Option.map_eq_some_iff] at h
    obtain ⟨t, h1, rfl⟩ := h
    unfold Reps at r
    obtain ⟨x, u, rfl, r1, r2⟩ := r
    unfold Rep at r1
    rw [r1, bls_at h1 r2]; rfl
  | .non :: _, _, _, h, _ => by simp [blsOf] at h
  | .int _ :: _, _, _, h, _ => by simp [blsOf] at h
  | .str _ :: _, _, _, h, _ => by simp [blsOf] at h
  | .tup _ :: _, _, _, h, _ => by simp [blsOf] at h
  | .lst _ :: _, _, _, h, _ => by simp [blsOf] at h
  | .rul _ :: _, _, _, h, _ => by simp [blsOf] at h
  | .scr _ :: _, _, _, h, _ => by simp [blsOf] at h
def nAll : OpN := fun xs S => match xs with
  | [x] => match vw S x with
    | some ds => match blsOf ds with
      | some bs => .ok (.p (.bl (bs.all id))) S
      | none => .bad
    | none => .bad
  | _ => .bad
theorem nAll_ok : OkN G W (rAll G.K) nAll := by
  intro H B φ S σ xs vs Q w r h
  unfold nAll at h
  split at h
  · split at h
    · rename_i ds hs
      split at h
      · rename_i bs hb
        obtain ⟨v, rfl, rv⟩ := rvs1 r
        obtain ⟨a, ys, rfl, s1, q1⟩ := vw_at w rv hs
        exact ⟨a, bs, rfl, by rw [← bls_at hb q1]; exact SqL.of s1, h H B φ Xt.refl w _ (rep_bl.mpr rfl)⟩
      · exact h.elim
    · exact h.elim
  · exact h.elim
/-! max, min of a list of ints -/
def intsOf : List D → Option (List Int)
  | [] => some []
  | .int b :: r => (intsOf r).map (b :: ·)
  | _ :: _ => none
theorem ints_at' : ∀ {ds : List D} {bs : List Int} {vs : List V}, intsOf ds = some bs → Reps G B ds vs → vs = bs.map V.int
  | [], bs, _, h, r => by simp [intsOf] at h; subst h; unfold Reps at r; rw [r]; rfl
  | .int b :: ds, bs, _, h, r => by
    simp only [intsOf, Option.map_eq_some_iff] at h
    obtain ⟨t, h1, rfl⟩ := h
    unfold Reps at r
    obtain ⟨x, u, rfl, r1, r2⟩ := r
    unfold Rep at r1
    rw [r1, ints_at' h1 r2]; rfl
  | .non :: _, _, _, h, _ => by simp [intsOf] at h
  | .bl _ :: _, _, _, h, _ => by simp [intsOf] at h
  | .str _ :: _, _, _, h, _ => by simp [intsOf] at h
  | .tup _ :: _, _, _, h, _ => by simp [intsOf] at h
  | .lst _ :: _, _, _, h, _ => by simp [intsOf] at h
  | .rul _ :: _, _, _, h, _ => by simp [intsOf] at h
  | .scr _ :: _, _, _, h, _ => by simp [intsOf] at h
def maxI : Int → List Int → Int
  | m, [] => m
  | m, x :: r => maxI (if m < x then x else m) r
def minI : Int → List Int → Int
  | m, [] => m
  | m, x :: r => minI (if x < m then x else m) r
theorem maxI_mem : ∀ (r : List Int) (m : Int), (maxI m r = m ∨ maxI m r ∈ r) ∧ m ≤ maxI m r ∧ ∀ y ∈ r, y ≤ maxI m r
  | [], m => ⟨.inl rfl, Int.le_refl _, fun _ h => nomatch h⟩
  | x :: r, m => by
    obtain ⟨h1, h2, h3⟩ := maxI_mem r (if m < x then x else m)
    unfold maxI
    by_cases e : m < x
    · rw [if_pos e] at h1 h2 h3 ⊢
      refine ⟨.inr (h1.elim (fun z => by rw [z]; exact List.mem_cons_self) fun z => List.mem_cons_of_mem _ z), by omega, fun y hy => (List.mem_cons.mp hy).elim (fun z => by rw [z]; exact h2) (h3 y)⟩
    · rw [if_neg e] at h1 h2 h3 ⊢
      refine ⟨h1.imp id fun z => List.mem_cons_of_mem _ z, h2, fun y hy => (List.mem_cons.mp hy).elim (fun z => by rw [z]; omega) (h3 y)⟩
theorem minI_mem : ∀ (r : List Int) (m : Int), (minI m r = m ∨ minI m r ∈ r) ∧ minI m r ≤ m ∧ ∀ y ∈ r, minI m r ≤ y
  | [], m => ⟨.inl rfl, Int.le_refl _, fun _ h => nomatch h⟩
  | x :: r, m => by
    obtain ⟨h1, h2, h3⟩ := minI_mem r (if x < m then x else m)
    unfold minI
    by_cases e : x < m
    · rw [if_pos e] at h1 h2 h3 ⊢
      refine ⟨.inr (h1.elim (fun z => by rw [z]; exact List.mem_cons_self) fun z => List.mem_cons_of_mem _ z), by omega, fun y hy => (List.mem_cons.mp hy).elim (fun z => by rw [z]; exact h2) (h3 y)⟩
    · rw [if_neg e] at h1 h2 h3 ⊢
      refine ⟨h1.imp id fun z => List.mem_cons_of_mem _ z, h2, fun y hy => (List.mem_cons.mp hy).elim (fun z => by rw [z]; omega) (h3 y)⟩
def nMaxL : OpN := fun xs S => match xs with
  | [x] => match vw S x with
    | some ds => match intsOf ds with
      | some (m :: r) => .ok (.p (.int (maxI m r))) S
      | _ => .bad
    | none => .bad
  | _ => .bad
def nMinL : OpN := fun xs S => match xs with
  | [x] => match vw S x with
    | some ds => match intsOf ds with
      | some (m :: r) => .ok (.p (.int (minI m r))) S
      | _ => .bad
    | none => .bad
  | _ => .bad
theorem nMaxL_ok : OkN G W (rMax G.K) nMaxL := by
  intro H B φ S σ xs vs Q w r h
  unfold nMaxL at h
  split at h
  · split at h
    · rename_i ds hs
      split at h
      · rename_i m t hb
        obtain ⟨v, rfl, rv⟩ := rvs1 r
        obtain ⟨a, ys, rfl, s1, q1⟩ := vw_at w rv hs
        refine ⟨a, m :: t, rfl, by rw [← ints_at' hb q1]; exact SqL.of s1, Nat.succ_pos _, fun z hz hm => ?_⟩
        obtain ⟨h1, h2, h3⟩ := maxI_mem t m
        have e : z = maxI m t := by
          have a1 : maxI m t ≤ z := hm _ (h1.elim (fun q => by rw [q]; exact List.mem_cons_self) fun q => List.mem_cons_of_mem _ q)
          have a2 : z ≤ maxI m t := (List.mem_cons.mp hz).elim (fun q => by rw [q]; exact h2) (h3 z)
          omega
        rw [e]
        exact h H B φ Xt.refl w _ (rep_int.mpr rfl)
      · exact h.elim
    · exact h.elim
  · exact h.elim
theorem nMinL_ok : OkN G W (rMin G.K) nMinL := by
  intro H B φ S σ xs vs Q w r h
  unfold nMinL at h
  split at h
  · split at h
    · rename_i ds hs
      split at h
      · rename_i m t hb
        obtain ⟨v, rfl, rv⟩ := rvs1 r
        obtain ⟨a, ys, rfl, s1, q1⟩ := vw_at w rv hs
        refine ⟨a, m :: t, rfl, by rw [← ints_at' hb q1]; exact SqL.of s1, Nat.succ_pos _, fun z hz hm => ?_⟩
        obtain ⟨h1, h2, h3⟩ := minI_mem t m
        have e : z = minI m t := by
          have a1 : z ≤ minI m t := hm _ (h1.elim (fun q => by rw [q]; exact List.mem_cons_self) fun q => List.mem_cons_of_mem _ q)
          have a2 : minI m t ≤ z := (List.mem_cons.mp hz).elim (fun q => by rw [q]; exact h2) (h3 z)
          omega
        rw [e]
        exact h H B φ Xt.refl w _ (rep_int.mpr rfl)
      · exact h.elim
    · exact h.elim
  · exact h.elim
end
end DL

namespace DL
open PySem L2
open PySem.Spec PyProof.Rows
section
variable {X : Cx} {G : Gx} {W : WX} {k n : Nat} {f : Addr} {fd : FuncData} {ps : List Str} {x : Str} {p pos : Pos} {e : Expr} {es : List Expr} {af : Af} {ef eg eh : Ef} {H B H' B' : Hp} {φ φ' : List Addr} {S : Sto} {σ : L2.St} {Q : VK}
/-! ### C(..) of the class of rules -/
def dMake (m : List Dv → Sto → Out Dv) (a : Af) : Ef := fun ρ S => (a ρ S).bind fun xs S1 => match allP xs with
  | some ds => match m (.hnd 0 :: ds.map Dv.p) [.raw 1, .dead] with
    | .ok (.p .non) [.slt 1 es, .dead] => .ok (.p (.rul es)) S1
    | _ => .bad
  | none => .bad
theorem made_wd {x dx : Addr} (s : Same B H) (h1 : H x = none) (h2 : H dx = none) (hn : dx ≠ x) : Wd G (upd (upd H dx (.own x)) x (.ins G.rc dx [])) B [x, dx] [.raw 1, .dead] := by
  have b1 := s.free h1
  have b2 := s.free h2
  have e1 : upd (upd H dx (.own x)) x (.ins G.rc dx []) dx = some (.own x) := by rw [upd_ne hn, upd_same]
  refine ⟨fun b o q => ?_, ?_, rfl, fun i a c q1 q2 => ?_, fun i j c q1 q2 => ?_⟩
  · have n1 : b ≠ x := fun z => by subst z; rw [b1] at q; cases q
    have n2 : b ≠ dx := fun z => by subst z; rw [b2] at q; cases q
    rw [upd_ne n1, upd_ne n2]; exact s _ _ q
  · rw [List.nodup_cons]
    exact ⟨by simpa using Ne.symm hn, by simp⟩
  · match i, q1, q2 with
    | 0, q1, q2 =>
      cases q1
      cases q2
      exact ⟨b1, dx, rfl, b2, hn, upd_same, _, e1⟩
    | 1, q1, q2 =>
      cases q1
      cases q2
      exact ⟨_, e1⟩
    | i + 2, q1, _ => simp at q1
  · match i, q1 with
    | 0, q1 =>
      cases q1
      cases q2
      rfl
    | 1, q1 =>
      cases q1
      cases q2
    | i + 2, q1 => simp at q1
theorem de_make {fI : Addr} {m : List Dv → Sto → Out Dv} (M : Mk X.K G.rc fI) (F : FnOk X.prog X.w X.K X.mg X.base (L2.CX X.prog X.w) k fI fd ps (spE G (n + 1) m)) (hr : Room (k + 1) X.A) (hg : Gl X x) (hm : X.mg x = some (.ref G.rc)) (hb : Binds X.K fd ps [])
    (hn : ∀ ρ S xs S', af ρ S = .ok xs S' → xs.length = n)
    (ha : PA X (e :: es) (tA G W af)) (hdb : (x == ("__debug__" : Str)) = false := by decide) (he : starEach (e :: es) X.env = (false, eval e X.env) :: starEach es X.env := by rfl) (hpl : (backTo pos (starEach es X.env)).any (·.1) = false := by rfl) :
    PE X (.Call (.Name x p) (e :: es) [] pos) (tD G W (dMake m af)) := by
  refine wkE (pe_make M F hr hg hm hb .nil passL ha hdb he hpl) fun σ H Q ⟨ρ, B, φ, S, w, en, q⟩ => ?_
  cases qa : af ρ S with
  | bad => unfold dMake at q; rw [qa] at q; exact q.elim
  | exc x0 S0 => unfold dMake at q; rw [qa] at q; exact ⟨ρ, B, φ, S, w, en, by rw [qa]; exact q⟩
  | ok xs0 S0 =>
    have l0 := hn ρ S xs0 S0 qa
    refine ⟨ρ, B, φ, S, w, en, ?_⟩
    unfold dMake at q
    rw [qa] at q ⊢
    intro H1 B1 φ1 x1 w1 vs r1
    have q1 := WP.rebase x1 q
    have q1 : WP G W σ H1 B1 φ1 (match allP xs0 with
      | some ds => match m (.hnd 0 :: ds.map Dv.p) [.raw 1, .dead] with
        | .ok (.p .non) [.slt 1 es, .dead] => .ok (.p (.rul es)) S0
        | _ => .bad
      | none => .bad : Out Dv) (fun d H' B' φ' _ => ∀ v, RepV G B' φ' d v → Q v H') := q1
    cases qp : allP xs0 with
    | none => rw [qp] at q1; exact q1.elim
    | some ds =>
      rw [qp] at q1
      dsimp only at q1
      have rr := allP_rep qp r1
      have l1 : ds.length = n := by rw [rr.length, ← r1.length, l0]
      intro xx dx hx hdx hne
      rw [List.append_nil]
      refine ⟨B1, [xx, dx], [.raw 1, .dead], .hnd 0 :: ds.map Dv.p, made_wd w1.sub hx hdx hne, ⟨_, _, rfl, ⟨xx, rfl, rfl⟩, reps_vs rr⟩, by rw [List.length_cons, List.length_map, l1], ?_⟩
      cases qm : m (.hnd 0 :: ds.map Dv.p) [.raw 1, .dead] with
      | bad => rw [qm] at q1; exact q1.elim
      | exc e' S' => rw [qm] at q1; exact q1.elim
      | ok d S' =>
        rw [qm] at q1
        split at q1
        · rename_i es0 heq
          cases heq
          intro H2 B2 φ2 x2 w2 v rv
          refine ⟨rep_non.mp rv, ?_⟩
          have hφ : φ2 = [xx, dx] := by
            obtain ⟨t, e1⟩ := x2.p
            have := w2.len
            rw [← e1] at this ⊢
            simp at this
            subst this
            rfl
          subst hφ
          obtain ⟨b1, dx', t, ys, e1, b2, _, h1, h2, s1, rs⟩ : CellR G H2 B2 [xx, dx] xx (.slt 1 es0) := w2.cell 0 xx _ rfl rfl
          cases e1
          have sb : Same B2 (upd (upd B2 dx (.xd [])) xx (SlX.SlO xx G.rc dx [some (.ref t)])) := fun b o q => by
            have n1 : b ≠ xx := fun z => by subst z; rw [b1] at q; cases q
            have n2 : b ≠ dx := fun z => by subst z; rw [b2] at q; cases q
            rw [upd_ne n1, upd_ne n2]; exact q
          have e2 : upd (upd B2 dx (.xd [])) xx (SlX.SlO xx G.rc dx [some (.ref t)]) dx = some (.xd []) := by rw [upd_ne hne, upd_same]
          have s2 : Same (upd (upd B2 dx (.xd [])) xx (SlX.SlO xx G.rc dx [some (.ref t)])) H2 := fun b o q => by
            by_cases n1 : b = xx
            · subst n1; rw [upd_same] at q; rw [← q]; exact h1
            · by_cases n2 : b = dx
              · subst n2; rw [e2] at q; rw [← q]; exact h2
              · rw [upd_ne n1, upd_ne n2] at q; exact w2.sub _ _ q
          have xc : Xt H1 B1 [] H2 (upd (upd B2 dx (.xd [])) xx (SlX.SlO xx G.rc dx [some (.ref t)])) [] := by
            refine ⟨x2.b.trans sb, List.prefix_refl _, fun a o a1 a2 _ => ?_⟩
            have n1 : a ≠ xx := ne_of_none a1 hx
            have n2 : a ≠ dx := ne_of_none a1 hdx
            obtain ⟨a3, a4, _⟩ := x2.out a o (by rw [upd_ne n1, upd_ne n2]; exact a1) a2 (by simp [n1, n2])
            exact ⟨a3, by rw [upd_ne n1, upd_ne n2]; exact a4, by simp⟩
          obtain ⟨w3, x3⟩ := w1.call xc s2
          exact q1 H2 _ φ1 x3 w3 _ (rep_rul.mpr ⟨xx, dx, t, ys, rfl, upd_same, e2, sqT_mono sb s1, Reps.mono sb _ rs⟩)
        · exact q1.elim
/-- rule.parts -/
def dParts (f : Ef) : Ef := fun ρ S => (f ρ S).bind fun d S1 => match d with
  | .p (.rul ds) => .ok (.p (.tup ds)) S1
  | _ => .bad
theorem de_parts {a : Str} {q : Addr} (c : SlX.SCls X.K G.rc) (s : SlX.Slot1 X.K G.rc a q 0) (hK : X.K = G.K) (he : PE X e (tD G W ef)) (hb : attributeBase e a X.env (eval e X.env) = eval e X.env := by rfl) : PE X (.Attribute e a pos) (tD G W (dParts ef)) := by
  refine wkE (SlX.pe_sl he hb) fun σ H Q ⟨ρ, B, φ, S, w, en, h⟩ => tD.run w en (WP.fst h) fun d v H1 B1 φ1 S1 x1 w1 en1 r1 q1 => ?_
  split at q1
  · rename_i ds
    obtain ⟨p, dx, t, xs, rfl, h1, h2, h3, h4⟩ := rep_rul.mp r1
    exact ⟨p, G.rc, dx, q, [some (.ref t)], 0, .ref t, rfl, .inr ⟨w1.sub _ _ h1, w1.sub _ _ h2⟩, c, s, rfl, q1 H1 B1 φ1 Xt.refl w1 _ (rep_tup.mpr ⟨t, xs, rfl, h3, h4⟩)⟩
  · exact q1.elim
/-- self.parts = e, in __init__ -/
def sParts (i : Nat) (f : Ef) : Sf := fun ρ S => (f ρ S).toS ρ fun d S1 => match d, ρ[i]?, S1 with
  | .p (.tup ds), some (some (.hnd 0)), [.raw 1, .dead] => .ok (.nx ρ) [.slt 1 ds, .dead]
  | _, _, _ => .bad
theorem dp_parts {i : Nat} {y : Str} {a : Str} {q : Addr} {pos' py : Pos} (c : SlX.SCls X.K G.rc) (s : SlX.Slot1 X.K G.rc a q 0) (hN : X.N[i]? = some y) (hv : Vis X.env.scope y) (he : PE X e (tD G W ef))
    (hs : swapsWith e (some (.Attribute (.Name y py) a pos')) pos.line X.env = pure false := by rfl) (hd : (y == ("__debug__" : Str)) = false := by decide) (hcd : (y == ("__classdict__" : Str)) = false := by decide) :
    PS X (.Assign [.Attribute (.Name y py) a pos'] e pos) (tS G W (sParts i ef)) := by
  refine wkS (SlX.ps_sl (pe_var hN hv hd hcd) he hs) fun D σ H ⟨ρ, B, φ, S, w, en, h⟩ => tD.run w en (WPS.fst en h) fun d v H1 B1 φ1 S1 x1 w1 en1 r1 q1 => ?_
  split at q1
  · rename_i ds hi
    obtain ⟨v0, hσ, a0, hφ, rfl⟩ := en1.at_ i _ hi
    obtain ⟨b1, dx, e1, b2, hne, h1, o, h2⟩ : CellR G H1 B1 φ1 a0 (.raw 1) := w1.cell 0 a0 _ hφ rfl
    obtain ⟨t, xs, rfl, s1, rs⟩ := rep_tup.mp r1
    have hl : φ1.length = 2 := w1.len
    have e1 : φ1[1]? = some dx := e1
    have hφ : φ1[0]? = some a0 := hφ
    have eφ : φ1 = [a0, dx] := by
      match φ1, hl, hφ, e1 with
      | [u1, u2], _, hφ, e1 => cases hφ; cases e1; rfl
    subst eφ
    refine ⟨.ref a0, hσ, a0, G.rc, dx, q, [], 0, rfl, .inl ⟨h1, rfl⟩, c, s, ?_⟩
    have eH : SlX.slH H1 a0 G.rc dx (SlX.putS 0 (V.ref t) []) = upd (upd H1 dx (.xd [])) a0 (SlX.SlO a0 G.rc dx [some (.ref t)]) := rfl
    rw [eH]
    have e2 : upd (upd H1 dx (.xd [])) a0 (SlX.SlO a0 G.rc dx [some (.ref t)]) dx = some (.xd []) := by rw [upd_ne hne, upd_same]
    refine q1 _ B1 [a0, dx] ⟨Same.refl _, List.prefix_refl _, fun b u z1 z2 z3 => ?_⟩ ⟨fun b u z => ?_, w1.nd, rfl, fun i' a' c' z1 z2 => ?_, fun i' j' c' z1 z2 => ?_⟩ σ en1
    · have n1 : b ≠ a0 := fun z => z3 (by simp [z])
      have n2 : b ≠ dx := fun z => z3 (by simp [z])
      exact ⟨by rw [upd_ne n1, upd_ne n2]; exact z1, z2, z3⟩
    · have n1 : b ≠ a0 := fun y => by subst y; rw [b1] at z; cases z
      have n2 : b ≠ dx := fun y => by subst y; rw [b2] at z; cases z
      rw [upd_ne n1, upd_ne n2]; exact w1.sub _ _ z
    · match i', z1, z2 with
      | 0, z1, z2 =>
        cases z1
        cases z2
        exact ⟨b1, dx, t, xs, rfl, b2, hne, upd_same, e2, s1, rs⟩
      | 1, z1, z2 =>
        cases z1
        cases z2
        exact ⟨_, e2⟩
      | i' + 2, z1, _ => simp at z1
    · match i', z1 with
      | 0, z1 =>
        cases z1
        cases z2
        rfl
      | 1, z1 =>
        cases z1
        cases z2
      | i' + 2, z1 => simp at z1
  · exact q1.elim
/-! ### a tuple of the written part, a dict of it -/
theorem de_globT {a : Addr} {ds : List D} {xs : List V} (hg : Gl X x) (hm : X.mg x = some (.ref a)) (hq : SqT G.K (fun _ => none) a xs) (hr : ∀ B, Reps G B ds xs) (hd : (x == ("__debug__" : Str)) = false := by decide) : PE X (.Name x pos) (tD G W (dC (.tup ds))) :=
  wkE (pe_glob hg hm (v := .ref a) rfl hd) fun σ H Q ⟨ρ, B, φ, S, w, en, h⟩ => h H B φ Xt.refl w _ (rep_tup.mpr ⟨a, xs, rfl, sqT_mono (fun _ _ z => by cases z) hq, hr B⟩)
theorem de_globI {i : Int} {t : Tok} (hg : Gl X x) (hm : X.mg x = some (.int i t)) (hd : (x == ("__debug__" : Str)) = false := by decide) : PE X (.Name x pos) (tD G W (dC (.int i))) :=
  wkE (pe_glob hg hm (v := .int i) ⟨_, rfl⟩ hd) fun σ H Q ⟨ρ, B, φ, S, w, en, h⟩ => h H B φ Xt.refl w _ (rep_int.mpr rfl)
/-- T[e], T a written dict of texts to tuples -/
def dTab (tab : List (Str × List D)) (f : Ef) : Ef := fun ρ S => (f ρ S).bind fun d S1 => match d with
  | .p (.str z) => match tab.lookup z with
    | some ds => .ok (.p (.tup ds)) S1
    | none => .bad
  | _ => .bad
theorem de_tab {a : Addr} {tab : List (Str × List D)} (hK : X.K = G.K) (hg : Gl X x) (hm : X.mg x = some (.ref a)) (ht : ∀ z ds, tab.lookup z = some ds → ∃ b xs, KDct X.K X.w a z (.ref b) ∧ SqT G.K (fun _ => none) b xs ∧ ∀ B, Reps G B ds xs)
    (he : PE X e (tD G W ef)) (hs : PlainIx e) (hd : (x == ("__debug__" : Str)) = false := by decide) : PE X (.Subscript (.Name x p) e pos) (tD G W (dTab tab ef)) := by
  refine wkE (pe_ix ix_kdict (pe_glob hg hm (v := .ref a) rfl hd) he hs) fun σ H Q ⟨ρ, B, φ, S, w, en, h⟩ => ?_
  show tD G W ef σ H _
  refine tD.run w en (WP.fst h) fun d v H1 B1 φ1 S1 x1 w1 en1 r1 q1 => ?_
  split at q1
  · rename_i z
    split at q1
    · rename_i ds hl
      obtain ⟨b, xs, k1, k2, k3⟩ := ht z ds hl
      exact ⟨a, z, .ref b, rfl, rep_str.mp r1, k1, q1 H1 B1 φ1 Xt.refl w1 _ (rep_tup.mpr ⟨b, xs, rfl, sqT_mono (fun _ _ z => by cases z) k2, k3 B1⟩)⟩
    · exact q1.elim
  · exact q1.elim
end
end DL

namespace DL
open PySem L2
open PySem.Spec PyProof.Rows
section
variable {X : Cx} {G : Gx} {W : WX} {k n : Nat} {f : Addr} {fd : FuncData} {ps : List Str} {x : Str} {p pos : Pos} {e : Expr} {es : List Expr} {af : Af} {ef eg eh : Ef} {H B H' B' : Hp} {φ φ' : List Addr} {S : Sto} {σ : L2.St} {Q : VK}
/-! ### isinstance with built-in classes -/
def tyOf (S : Sto) : Dv → Option String
  | .p .non => some "NoneType"
  | .p (.bl _) => some "bool"
  | .p (.int _) => some "int"
  | .p (.str _) => some "str"
  | .p (.tup _) => some "tuple"
  | .p (.lst _) => some "list"
  | .p (.dki _) => some "dict"
  | .hnd n => match S[n]? with
    | some (.lst _) => some "list"
    | _ => none
  | _ => none
theorem tyOf_at {d : Dv} {v : V} {t : String} (w : Wd G H B φ S) (r : RepV G B φ d v) (h : tyOf S d = some t) : TyX G.K H v (.type t) := by
  unfold tyOf at h
  split at h
  · cases h; rw [rep_non.mp r]; exact .base .non
  · cases h; rw [rep_bl.mp r]; exact .base (.bl _)
  · cases h; rw [rep_int.mp r]; exact .base (.int _)
  · cases h; rw [rep_str.mp r]; exact .base (.str _)
  · cases h
    obtain ⟨a, xs, rfl, h1, _⟩ := rep_tup.mp r
    rcases h1 with (h1 | ⟨o, h1⟩) | ⟨o, its, n, h1, h2, _⟩
    · exact .base (.tup (w.sub _ _ h1))
    · exact .fTuple (w.sub _ _ h1)
    · exact .kTuple h1 h2
  · cases h
    obtain ⟨a, xs, rfl, h1, _⟩ := rep_lst.mp r
    exact .base (.lst (w.sub _ _ h1))
  · cases h
    have r : Rep G B (.dki _) v := r
    unfold Rep at r
    obtain ⟨a, rfl, h1⟩ := r
    exact .base (.dK (w.sub _ _ h1))
  · split at h
    · rename_i ds hs
      cases h
      obtain ⟨a, h1, rfl⟩ := r
      obtain ⟨_, xs, h3, _⟩ := w.cell _ a _ h1 hs
      exact .base (.lst h3)
    · cases h
  · cases h
def dIs (T : String) (f : Ef) : Ef := fun ρ S => (f ρ S).bind fun d S1 => match tyOf S1 d with
  | some t => match kitB t T with
    | some b => .ok (.p (.bl b)) S1
    | none => .bad
  | none => .bad
theorem de_is {T : Str} {Ts : String} {pT : Pos} (hK : X.K = G.K) (he : PE X e (tD G W ef)) (hg : Gl X "isinstance") (hm : X.mg "isinstance" = none) (hgT : Gl X T) (hmT : X.mg T = none) (hvT : bootBuiltins T = some (.type Ts)) (hnT : T ≠ "__name__") (hdT : (T == ("__debug__" : Str)) = false)
    (h1 : starEach [e, .Name T pT] X.env = (false, eval e X.env) :: starEach [.Name T pT] X.env := by rfl) (h2 : starEach [.Name T pT] X.env = (false, eval (.Name T pT) X.env) :: starEach [] X.env := by rfl) (hpl : (backTo pos (starEach [.Name T pT] X.env)).any (·.1) = false := by rfl) :
    PE X (.Call (.Name "isinstance" p) [e, .Name T pT] [] pos) (tD G W (dIs Ts ef)) := by
  refine wkE (pe_callB call_isi hg hm boot_isinstance (pa_cons he (pa_cons (pe_bltn hgT hmT hvT (v := .ty Ts) rfl hnT hdT) pa_nil h2) h1) (by decide) (by decide) h1 hpl) fun σ H Q ⟨ρ, B, φ, S, w, en, h⟩ => tD.run w en (WP.fst h) fun d v H1 B1 φ1 S1 x1 w1 en1 r1 q1 => ?_
  split at q1
  · rename_i t ht
    split at q1
    · rename_i b hb
      exact ⟨v, .ty Ts, .type t, .type Ts, b, rfl, .ty Ts, hK ▸ tyOf_at w1 r1 ht, kit_ty hb, q1 H1 B1 φ1 Xt.refl w1 _ (rep_bl.mpr rfl)⟩
    · exact q1.elim
  · exact q1.elim
end
end DL

namespace DL
open PySem L2
open PySem.Spec PyProof.Rows
section
variable {X : Cx} {G : Gx} {W : WX} {k n : Nat} {f : Addr} {fd : FuncData} {ps : List Str} {x : Str} {p pos : Pos} {e : Expr} {es : List Expr} {af : Af} {ef eg eh : Ef} {H B H' B' : Hp} {φ φ' : List Addr} {S : Sto} {σ : L2.St} {Q : VK}
/-! ### o[i] = e, o.append(e), slices -/
def sSetI (fo fi fe : Ef) : Sf := fun ρ S => (fe ρ S).toS ρ fun d S1 => (fo ρ S1).toS ρ fun o S2 => (fi ρ S2).toS ρ fun i S3 => match o, i with
  | .hnd n, .p (.int k) => match S3[n]? with
    | some (.lst ds) => match ixN ds.length k, d with
      | some j, .p d' => .ok (.nx ρ) (S3.set n (.lst (ds.set j d')))
      | _, _ => .bad
    | some (.rcd ds) => match ixN ds.length k with
      | some j => .ok (.nx ρ) (S3.set n (.rcd (ds.set j d)))
      | none => .bad
    | _ => .bad
  | _, _ => .bad
theorem dp_setI {o i : Expr} {pt : Pos} (he : PE X e (tD G W eh)) (ho : PE X o (tD G W ef)) (hi : PE X i (tD G W eg))
    (ha : ∀ v, assign (.Subscript o i pt) X.env v = (do
      let ov ← holding [v] (eval o X.env)
      let iv ← holding [v, ov] (eval i X.env)
      standAt pt
      holding [v, ov, iv] (setItem ov iv v)
      release [v, ov, iv] []) := by intro _; rfl)
    (hs : swapsWithSole [.Subscript o i pt] e pos.line X.env = pure false := by rfl) (hw : swappedStores [.Subscript o i pt] e X.env = pure none := by rfl)
    (h1 : (assignEach [.Subscript o i pt] X.env).map (·.2) = [assign (.Subscript o i pt) X.env] := by rfl) : PS X (.Assign [.Subscript o i pt] e pos) (tS G W (sSetI ef eg eh)) := by
  refine wkS (ps_asg he (pg_sub ho hi set_list ha) hs hw h1) fun D σ H ⟨ρ, B, φ, S, w, en, h⟩ => tD.run w en (WPS.fst en h) fun d v H1 B1 φ1 S1 x1 w1 en1 r1 q1 => ?_
  refine tD.run w1 en1 (WPS.fst en1 q1) fun o v2 H2 B2 φ2 S2 x2 w2 en2 r2 q2 => ?_
  refine tD.run w2 en2 (WPS.fst en2 q2) fun i v3 H3 B3 φ3 S3 x3 w3 en3 r3 q3 => ?_
  have r1' := RepV.mono (x2.b.trans x3.b) (x2.p.trans x3.p) _ r1
  have r2' := RepV.mono x3.b x3.p _ r2
  split at q3
  · rename_i n kk
    obtain ⟨a, hφ, rfl⟩ := r2'
    have e3 := rep_int.mp r3
    subst e3
    split at q3
    · rename_i ds hs
      split at q3
      · rename_i j d' hj
        obtain ⟨hb, xs, hx, rr⟩ : CellR G H3 B3 φ3 a (.lst ds) := w3.cell n a _ hφ hs
        refine ⟨a, xs, kk, j, rfl, rfl, hx, by rw [← rr.length]; exact hj, ?_⟩
        have r1'' : Rep G B3 d' v := r1'
        exact q3 _ B3 φ3 (Xt.set hφ) (w3.set hφ hs (fun z => nomatch z) hb ⟨hb, _, upd_same, rr.set j r1''⟩ rfl) σ en3
      · exact q3.elim
    · rename_i ds hs
      split at q3
      · rename_i j hj
        obtain ⟨hb, xs, hx, rr⟩ : CellR G H3 B3 φ3 a (.rcd ds) := w3.cell n a _ hφ hs
        refine ⟨a, xs, kk, j, rfl, rfl, hx, by rw [← rr.length]; exact hj, ?_⟩
        exact q3 _ B3 φ3 (Xt.set hφ) (w3.set hφ hs (fun z => nomatch z) hb ⟨hb, _, upd_same, rr.set j r1'⟩ rfl) σ en3
      · exact q3.elim
    · exact q3.elim
  · exact q3.elim
def dApp (fo fe : Ef) : Ef := fun ρ S => (fo ρ S).bind fun o S1 => match o with
  | .hnd n => match S1[n]? with
    | some (.lst _) => (fe ρ S1).bind fun d S2 => match d, S2[n]? with
      | .p d', some (.lst ds) => if ds.length < big then .ok (.p .non) (S2.set n (.lst (ds ++ [d']))) else .bad
      | _, _ => .bad
    | _ => .bad
  | _ => .bad
theorem de_app {o : Expr} {apos : Pos} (ho : PE X o (tD G W ef)) (he : PE X e (tD G W eg))
    (hbase : attributeBase o "append" X.env (eval o X.env) = eval o X.env := by rfl)
    (hfew : ((backTo pos (starEach [e] X.env)).all (fun x => !x.1) && (backToKw pos (keywordEach [] X.env)).all (fun x => x.1.isSome) && decide ([e].length + ([] : List Keyword).length + (if ([] : List Keyword).isEmpty then 0 else 1) < 30)) = true := by rfl)
    (hline : (apos.endLine == pos.line) = true := by rfl) (hs : starEach [e] X.env = (false, eval e X.env) :: starEach [] X.env := by rfl) (hpl : (backTo pos (starEach [] X.env)).any (·.1) = false := by rfl) :
    PE X (.Call (.Attribute o "append" apos) [e] [] pos) (tD G W (dApp ef eg)) := by
  refine wkE (pe_bm PySem.F.plainAttrs_list PySem.F.slot_list_append PySem.F.type_list_append mt_append ho (pa_cons he pa_nil hs) hbase hfew hline hs hpl) fun σ H Q ⟨ρ, B, φ, S, w, en, h⟩ => tD.run w en (WP.fst h) fun o v H1 B1 φ1 S1 x1 w1 en1 r1 q1 => ?_
  split at q1
  · rename_i n
    split at q1
    · rename_i ds0 hs0
      have r1 : ∃ a, φ1[n]? = some a ∧ v = .ref a := r1
      obtain ⟨a, hφ, rfl⟩ := r1
      have c0 : CellR G H1 B1 φ1 a (.lst ds0) := w1.cell n a _ hφ hs0
      obtain ⟨_, xs0, hx0, _⟩ := c0
      refine ⟨.inl ⟨rfl, xs0, SqL.of hx0⟩, ?_⟩
      show tD G W eg σ H1 _
      refine tD.run w1 en1 (WP.fst q1) fun d v2 H2 B2 φ2 S2 x2 w2 en2 r2 q2 => ?_
      split at q2
      · rename_i d' ds hs
        split at q2
        · rename_i hl
          have hφ2 : φ2[n]? = some a := by
            obtain ⟨t, rfl⟩ := x2.p
            rw [List.getElem?_append_left (List.getElem?_eq_some_iff.mp hφ).1]; exact hφ
          have c2 : CellR G H2 B2 φ2 a (.lst ds) := w2.cell n a _ hφ2 hs
          obtain ⟨hb, xs, hx, rr⟩ := c2
          refine ⟨a, xs, v2, rfl, rfl, hx, by rw [← rr.length, ← big_eq]; exact hl, ?_⟩
          have r2 : Rep G B2 d' v2 := r2
          exact q2 _ B2 φ2 (Xt.set hφ2) (w2.set hφ2 hs (fun z => nomatch z) hb ⟨hb, _, upd_same, rr.append (Reps.cons r2 Reps.nil)⟩ rfl) _ (rep_non.mpr rfl)
        · exact q2.elim
      · exact q2.elim
    · exact q1.elim
  · exact q1.elim
/-! slices -/
def cutD (ds : List D) (lo hi : Option Int) : List D := (ds.drop (HT.sIx ds.length 0 lo)).take (HT.sIx ds.length ds.length hi - HT.sIx ds.length 0 lo)
theorem cut_rep {ds : List D} {vs : List V} {lo hi : Option Int} (r : Reps G B ds vs) : Reps G B (cutD ds lo hi) (cutV vs lo hi) := by
  unfold cutD cutV
  rw [← r.length]
  exact (r.drop _).take _
abbrev Pf := Nv → Sto → Out (Option Int)
def pNo : Pf := fun _ S => .ok none S
def pAt (f : Ef) : Pf := fun ρ S => (f ρ S).bind fun d S1 => match d with
  | .p (.int i) => .ok (some i) S1
  | _ => .bad
def tP (G : Gx) (W : WX) (f : Pf) : TO := fun σ H Q => ∃ ρ B φ S, Wd G H B φ S ∧ EnvR G B φ σ ρ ∧ WP G W σ H B φ (f ρ S) fun o H' _ _ _ => Q o H'
theorem wkO {e : Option Expr} {t t' : TO} (h : L2.PO X e t) (k : ∀ σ H Q, t' σ H Q → t σ H Q) : L2.PO X e t' := ⟨fun pins s σ H Q I q => h.run pins s σ H Q I (k σ H Q q)⟩
theorem do_no : L2.PO X none (tP G W pNo) := wkO po_none fun σ H Q ⟨ρ, B, φ, S, w, en, h⟩ => h H B φ Xt.refl w
theorem do_at (he : PE X e (tD G W ef)) : L2.PO X (some e) (tP G W (pAt ef)) := by
  refine wkO (po_some he) fun σ H Q ⟨ρ, B, φ, S, w, en, h⟩ => tD.run w en (WP.fst h) fun d v H1 B1 φ1 S1 x1 w1 en1 r1 q1 => ?_
  split at q1
  · exact ⟨_, rep_int.mp r1, q1 H1 B1 φ1 Xt.refl w1⟩
  · exact q1.elim
def dSl (f : Ef) (l h : Pf) : Ef := fun ρ S => (f ρ S).bind fun d S1 => (l ρ S1).bind fun lo S2 => (h ρ S2).bind fun hi S3 => match d with
  | .p (.tup ds) => if HT.sIx ds.length 0 lo = 0 ∧ HT.sIx ds.length ds.length hi = ds.length then .bad else .ok (.p (.tup (cutD ds lo hi))) S3
  | x => match vw S3 x with
    | some ds => .ok (.p (.lst (cutD ds lo hi))) S3
    | none => .bad
theorem de_slice {lo hi : Option Expr} {lf hf : Pf} {p2 : Pos} (hK : X.K = G.K) (he : PE X e (tD G W ef)) (hl : L2.PO X lo (tP G W lf)) (hh : L2.PO X hi (tP G W hf)) : PE X (.Subscript e (.Slice lo hi none p2) pos) (tD G W (dSl ef lf hf)) := by
  refine wkE (pe_slice (sl_list.or sl_tup) he hl hh) fun σ H Q ⟨ρ, B, φ, S, w, en, h⟩ => tD.run w en (WP.fst h) fun d v H1 B1 φ1 S1 x1 w1 en1 r1 q1 => ?_
  refine ⟨ρ, B1, φ1, S1, w1, en1, (WP.fst q1).mono fun lo H2 B2 φ2 S2 x2 w2 q2 => ?_⟩
  refine ⟨ρ, B2, φ2, S2, w2, en1.mono x2.b x2.p, (WP.fst q2).mono fun hi H3 B3 φ3 S3 x3 w3 q3 => ?_⟩
  have r3 := RepV.mono (x2.b.trans x3.b) (x2.p.trans x3.p) _ r1
  split at q3
  · split at q3
    · exact q3.elim
    · rename_i ds hw
      obtain ⟨a, xs, rfl, s1, rr⟩ := rep_tup.mp r3
      refine .inr ⟨a, xs, rfl, hK ▸ sqT_mono w3.sub s1, by rw [← rr.length]; exact hw, fun p hp => ?_⟩
      exact q3 _ _ _ (Xt.alloc w3 hp) (w3.alloc hp) _ (rep_tup.mpr ⟨p, _, rfl, SqT.of upd_same, Reps.mono (same_upd' (w3.bfree hp)) _ (cut_rep rr)⟩)
  · split at q3
    · rename_i ds hs
      obtain ⟨a, xs, rfl, s1, rr⟩ := vw_at w3 r3 hs
      refine .inl ⟨a, xs, rfl, SqL.of s1, fun p hp => ?_⟩
      exact q3 _ _ _ (Xt.alloc w3 hp) (w3.alloc hp) _ (rep_lst.mpr ⟨p, _, rfl, upd_same, Reps.mono (same_upd' (w3.bfree hp)) _ (cut_rep rr)⟩)
    · exact q3.elim
end
end DL

namespace DL
open PySem L2
open PySem.Spec PyProof.Rows
def sBad : Sf := fun _ _ => .bad
section
variable {X : Cx} {G : Gx} {W : WX} {e e2 : Expr} {ef eg : Ef} {pos p : Pos} {B : Hp} {st : Stmt} {sts : List Stmt}
/-- code that is never come to -/
theorem dp_never : PS X st (tS G W sBad) := wkS ps_never fun D σ H ⟨ρ, B, φ, S, w, en, h⟩ => h
theorem ds_never : PSs X sts (tS G W sBad) := wkSs pss_never fun D σ H ⟨ρ, B, φ, S, w, en, h⟩ => h
/-! zip, enumerate -/
def zipD : List D → List D → List D
  | x :: xs, y :: ys => .tup [x, y] :: zipD xs ys
  | _, _ => []
theorem zipD_get : ∀ (xs ys : List D) (i : Nat), (zipD xs ys)[i]? = match xs[i]?, ys[i]? with
    | some x, some y => some (.tup [x, y])
    | _, _ => none
  | [], ys, i => by unfold zipD; simp
  | x :: xs, [], i => by unfold zipD; cases (x :: xs)[i]? <;> simp
  | x :: xs, y :: ys, 0 => by unfold zipD; simp
  | x :: xs, y :: ys, i + 1 => by
    unfold zipD
    simp only [List.getElem?_cons_succ]
    exact zipD_get xs ys i
theorem zipD_len : ∀ (xs ys : List D), (zipD xs ys).length = min xs.length ys.length
  | [], ys => by unfold zipD; simp
  | x :: xs, [] => by unfold zipD; simp
  | x :: xs, y :: ys => by
    unfold zipD
    rw [List.length_cons, zipD_len xs ys, List.length_cons, List.length_cons]
    omega
/-- a new pair at each turn -/
theorem pair_new {H B : Hp} {φ : List Addr} {S : Sto} {T : Addr} {x y : V} {d d' : D} (w : Wd G H B φ S) (hT : H T = none) (r : Rep G B d x) (r' : Rep G B d' y) :
    Xt H B φ (upd H T (.tup [x, y])) (upd B T (.tup [x, y])) φ ∧ Wd G (upd H T (.tup [x, y])) (upd B T (.tup [x, y])) φ S ∧ Rep G (upd B T (.tup [x, y])) (.tup [d, d']) (.ref T) :=
  ⟨Xt.alloc w hT, w.alloc hT, (rep_tup (φ := [])).mpr ⟨T, _, rfl, SqT.of upd_same, Reps.mono (same_upd' (w.bfree hT)) _ (Reps.cons r (Reps.cons r' Reps.nil))⟩⟩
theorem yl_zipT {a b : Addr} {xs ys : List V} {ds es : List D} (h : SqT G.K B a xs) (r : Reps G B ds xs) (h' : SqT G.K B b ys) (r' : Reps G B es ys) : Yl G (RZ.ItzT G.K a b) (zipD ds es) B := by
  intro i H B1 φ S w sb
  have hq : SqT G.K H a xs := sqT_mono w.sub (sqT_mono sb h)
  have hq' : SqT G.K H b ys := sqT_mono w.sub (sqT_mono sb h')
  have l1 := r.length
  have l2 := r'.length
  rw [zipD_len]
  refine ⟨fun hi => ?_, fun hi => ⟨xs, ys, hq, hq', by omega⟩⟩
  have i1 : i < ds.length := by omega
  have i2 : i < es.length := by omega
  obtain ⟨v, hv, rv⟩ := r.get (List.getElem?_eq_getElem i1)
  obtain ⟨u, hu, ru⟩ := r'.get (List.getElem?_eq_getElem i2)
  refine ⟨⟨xs, ys, v, u, hq, hq', hv, hu⟩, fun z H' ⟨T, x, y, e1, hT, e2, q1, q2⟩ => ?_⟩
  subst e1 e2
  have ex : x = v := Option.some.inj ((q1 xs hq).symm.trans hv)
  have ey : y = u := Option.some.inj ((q2 ys hq').symm.trans hu)
  subst ex ey
  obtain ⟨x3, w3, r3⟩ := pair_new w hT (Rep.mono sb _ rv) (Rep.mono sb _ ru)
  exact ⟨_, _, by rw [zipD_get, List.getElem?_eq_getElem i1, List.getElem?_eq_getElem i2], x3, w3, r3⟩
def iZip (f g : Ef) : If := fun ρ S => (f ρ S).bind fun x S1 => (g ρ S1).bind fun y S2 => match x, y with
  | .p (.tup ds), .p (.tup es) => .ok (zipD ds es) S2
  | _, _ => .bad
theorem di_zip {elts : List Expr} {kk : Nat} {tpos : Pos} (hK : X.K = G.K) (hg : Gl X "zip") (hm : X.mg "zip" = none) (ha : PE X e (tD G W ef)) (hb : PE X e2 (tD G W eg))
    (hs : starEach [e, e2] X.env = (false, eval e X.env) :: starEach [e2] X.env := by rfl) (hs2 : starEach [e2] X.env = (false, eval e2 X.env) :: starEach [] X.env := by rfl) (hpl : (backTo pos (starEach [e2] X.env)).any (·.1) = false := by rfl) :
    PI X (.Tuple elts kk tpos) (.Call (.Name "zip" p) [e, e2] [] pos) (tI G W (iZip ef eg)) := by
  refine wkI (RZ.pi_zipA hg hm (pa_cons ha (pa_cons hb pa_nil hs2) hs) hs hpl) fun σ H R ⟨ρ, B, φ, S, w, en, h⟩ => tD.run w en (WP.fst h) fun d v H1 B1 φ1 S1 x1 w1 en1 r1 q1 => ?_
  refine tD.run w1 en1 (WP.fst q1) fun d2 v2 H2 B2 φ2 S2 x2 w2 en2 r2 q2 => ?_
  have r1 := RepV.mono x2.b x2.p _ r1
  split at q2
  · obtain ⟨a, xs, rfl, s1, q3⟩ := rep_tup.mp r1
    obtain ⟨b, ys, rfl, s2, q4⟩ := rep_tup.mp r2
    rw [hK]
    exact ⟨a, b, xs, ys, rfl, .inr ⟨sqT_mono w2.sub s1, sqT_mono w2.sub s2, q2 H2 B2 φ2 Xt.refl w2 _ (yl_zipT s1 q3 s2 q4)⟩⟩
  · exact q2.elim
def enumD : Nat → List D → List D
  | _, [] => []
  | n, d :: ds => .tup [.int (n : Nat), d] :: enumD (n + 1) ds
theorem enumD_len : ∀ (n : Nat) (ds : List D), (enumD n ds).length = ds.length
  | _, [] => rfl
  | n, d :: ds => by unfold enumD; rw [List.length_cons, List.length_cons, enumD_len]
theorem enumD_get : ∀ (n : Nat) (ds : List D) (i : Nat) (d : D), ds[i]? = some d → (enumD n ds)[i]? = some (.tup [.int ((n + i : Nat) : Int), d])
  | _, [], _, _, h => by simp at h
  | n, d :: ds, 0, _, h => by simp at h; subst h; unfold enumD; rfl
  | n, d :: ds, i + 1, _, h => by
    unfold enumD
    rw [List.getElem?_cons_succ, enumD_get (n + 1) ds i _ (by simpa using h), show n + 1 + i = n + (i + 1) by omega]
theorem yl_enum {a : Addr} {xs : List V} {ds : List D} (h : SqL G.K B a xs) (r : Reps G B ds xs) : Yl G (Ite G.K a) (enumD 0 ds) B := by
  intro i H B1 φ S w sb
  have hq : SqL G.K H a xs := w.sub.seq (sb.seq h)
  have l1 := r.length
  rw [enumD_len]
  refine ⟨fun hi => ?_, fun hi => ⟨xs, hq, by omega⟩⟩
  obtain ⟨v, hv, rv⟩ := r.get (List.getElem?_eq_getElem hi)
  refine ⟨⟨xs, v, hq, hv⟩, fun z H' ⟨T, x, e1, hT, e2, q1⟩ => ?_⟩
  subst e1 e2
  have ex : x = v := Option.some.inj ((q1 xs hq).symm.trans hv)
  subst ex
  obtain ⟨x3, w3, r3⟩ := pair_new w hT (rpi (i : Nat)) (Rep.mono sb _ rv)
  exact ⟨_, _, by rw [enumD_get 0 ds i _ (List.getElem?_eq_getElem hi), Nat.zero_add], x3, w3, r3⟩
def iEnumL (f : Ef) : If := fun ρ S => (f ρ S).bind fun x S1 => match x with
  | .p (.lst ds) => .ok (enumD 0 ds) S1
  | _ => .bad
theorem di_enum {elts : List Expr} {kk : Nat} {tpos : Pos} (hK : X.K = G.K) (hg : Gl X "enumerate") (hm : X.mg "enumerate" = none) (ha : PE X e (tD G W ef))
    (hs : starEach [e] X.env = [(false, eval e X.env)] := by rfl) : PI X (.Tuple elts kk tpos) (.Call (.Name "enumerate" p) [e] [] pos) (tI G W (iEnumL ef)) := by
  refine wkI (pi_enum hg hm (pa_cons ha pa_nil hs) hs) fun σ H R ⟨ρ, B, φ, S, w, en, h⟩ => tD.run w en (WP.fst h) fun d v H1 B1 φ1 S1 x1 w1 en1 r1 q1 => ?_
  split at q1
  · obtain ⟨a, xs, rfl, s1, q3⟩ := rep_lst.mp r1
    have s2 : SqL G.K B1 a xs := SqL.of s1
    rw [hK]
    exact ⟨a, xs, rfl, w1.sub.seq s2, q1 H1 B1 φ1 Xt.refl w1 _ (yl_enum s2 q3)⟩
  · exact q1.elim
end
/-! ### the law's end -/
theorem law_end {G : Gx} {K : PySem.W.Frag} {m : List Dv → Sto → Out Dv} (hK : G.K = K) (hm : ∀ ns : List Int, ns.length ≤ 63 → ∃ S, m [.p (.scr ns)] [] = .ok (.p (.bl true)) S)
    {H : Hp} {a : Addr} {ns : List Int} (hl : ns.length ≤ 63) (hs : SqL K H a (ns.map V.int)) : spE G 1 m [.ref a] H (fun v _ => v = .bl true) fun _ _ _ => False := by
  obtain ⟨S, e⟩ := hm ns hl
  refine ⟨H, [], [], [.p (.scr ns)], Wd.none (Same.refl _), ⟨_, _, rfl, rep_scr.mpr ⟨a, rfl, hK ▸ hs⟩, rfl⟩, rfl, ?_⟩
  rw [e]
  exact fun H' B' φ' _ _ v r => rep_bl.mp r
end DL

namespace DL
open PySem L2
open PySem.Spec PyProof.Rows
section
variable {X : Cx} {G : Gx} {W : WX} {e e2 : Expr} {ef eg eh : Ef} {pos p p2 : Pos} {H B : Hp} {φ : List Addr} {S : Sto} {σ : L2.St} {ρ : Nv} {sts : List Stmt} {g : Sf}
/-! a cell's list is given up -/
def sFz (i : Nat) (g : Sf) : Sf := fun ρ S => match ρ[i]? with
  | some (some (.hnd n)) => match S[n]? with
    | some (.lst ds) => g (ρ.set i (some (.p (.lst ds)))) (S.set n .dead)
    | _ => g ρ S
  | _ => g ρ S
theorem ds_fz {i : Nat} (h : PSs X sts (tS G W g)) : PSs X sts (tS G W (sFz i g)) := by
  refine wkSs h fun D σ H ⟨ρ, B, φ, S, w, en, q⟩ => ?_
  unfold sFz at q
  split at q
  · rename_i n hi
    split at q
    · rename_i ds hs
      obtain ⟨v, hσ, a, hφ, rfl⟩ := en.at_ i _ hi
      obtain ⟨xs, h1, h2, h3, w2, x2⟩ := w.thaw hφ hs
      refine ⟨_, _, φ, _, w2, ⟨by rw [List.length_set]; exact en.len, fun j d hj => ?_⟩, WPS.rebase x2 q⟩
      by_cases hij : j = i
      · subst hij
        rw [List.getElem?_set_self (by
          have := (List.getElem?_eq_some_iff.mp hi).1
          exact this)] at hj
        cases hj
        exact ⟨.ref a, hσ, rep_lst.mpr ⟨a, xs, rfl, upd_same, Reps.mono x2.b _ h3⟩⟩
      · rw [List.getElem?_set_ne (Ne.symm hij)] at hj
        obtain ⟨u, u1, u2⟩ := en.at_ j d hj
        exact ⟨u, u1, RepV.mono x2.b x2.p d u2⟩
    · exact ⟨ρ, B, φ, S, w, en, q⟩
  · exact ⟨ρ, B, φ, S, w, en, q⟩
/-! list(range(..)), tuple(x), a chain as a test -/
def lrngOk (i j : Int) : Bool := rngOk i j && decide ((j - i).toNat ≤ 16777216)
theorem lrngOk_at {i j : Int} (h : lrngOk i j = true) : RgOk i j := by
  unfold lrngOk at h
  rw [Bool.and_eq_true, decide_eq_true_eq] at h
  obtain ⟨h1, h2, h3, h4⟩ := rngOk_at h.1
  exact ⟨h1, h2, h3, h4, h.2⟩
theorem reps_rng (i j : Int) : Reps G B (rngD i (j - i).toNat) (rgV i j) := by
  unfold rngD rgV
  have : ∀ l : List Nat, Reps G B (l.map fun k => D.int (i + (k : Nat))) (l.map fun k => V.int (i + (k : Nat))) := by
    intro l
    induction l with
    | nil => exact Reps.nil
    | cons a r ih => exact Reps.cons (rpi _) ih
  exact this _
def dLRng1 (f : Ef) : Ef := fun ρ S => (f ρ S).bind fun d S1 => match d with
  | .p (.int j) => if lrngOk 0 j = true then .ok (.p (.lst (rngD 0 j.toNat))) S1 else .bad
  | _ => .bad
def dLRng2 (f g : Ef) : Ef := fun ρ S => (f ρ S).bind fun d S1 => (g ρ S1).bind fun d2 S2 => match d, d2 with
  | .p (.int i), .p (.int j) => if lrngOk i j = true then .ok (.p (.lst (rngD i (j - i).toNat))) S2 else .bad
  | _, _ => .bad
theorem de_lrng1 {pl : Pos} (hc : X.calm = true) (hgl : Gl X "list") (hml : X.mg "list" = none) (hg : Gl X "range") (hm : X.mg "range" = none) (ha : PE X e (tD G W ef))
    (na : starEach [e] X.env = (false, eval e X.env) :: starEach [] X.env := by rfl) (na2 : starEach [Expr.Call (.Name "range" p) [e] [] p2] X.env = (false, eval (.Call (.Name "range" p) [e] [] p2) X.env) :: starEach [] X.env := by rfl) :
    PE X (.Call (.Name "list" pl) [.Call (.Name "range" p) [e] [] p2] [] pos) (tD G W (dLRng1 ef)) := by
  refine wkE (pe_listRg hc hgl hml (prg_1 hg hm ha na) na2) fun σ H Q ⟨ρ, B, φ, S, w, en, h⟩ => tD.run w en (WP.fst h) fun d v H1 B1 φ1 S1 x1 w1 en1 r1 q1 => ?_
  split at q1
  · rename_i j
    split at q1
    · rename_i hl
      refine ⟨j, rep_int.mp r1, lrngOk_at hl, fun q hq => ?_⟩
      have e0 : rngD 0 j.toNat = rngD 0 (j - 0).toNat := by rw [Int.sub_zero]
      exact q1 _ _ _ (Xt.alloc w1 hq) (w1.alloc hq) _ (rep_lst.mpr ⟨q, _, rfl, upd_same, by rw [e0]; exact reps_rng 0 j⟩)
    · exact q1.elim
  · exact q1.elim
theorem de_lrng2 {pl : Pos} (hc : X.calm = true) (hgl : Gl X "list") (hml : X.mg "list" = none) (hg : Gl X "range") (hm : X.mg "range" = none) (ha : PE X e (tD G W ef)) (hb : PE X e2 (tD G W eg))
    (na : starEach [e, e2] X.env = (false, eval e X.env) :: starEach [e2] X.env := by rfl) (nb : starEach [e2] X.env = (false, eval e2 X.env) :: starEach [] X.env := by rfl) (na2 : starEach [Expr.Call (.Name "range" p) [e, e2] [] p2] X.env = (false, eval (.Call (.Name "range" p) [e, e2] [] p2) X.env) :: starEach [] X.env := by rfl) (hpl : (backTo p2 (starEach [e2] X.env)).any (·.1) = false := by rfl) :
    PE X (.Call (.Name "list" pl) [.Call (.Name "range" p) [e, e2] [] p2] [] pos) (tD G W (dLRng2 ef eg)) := by
  refine wkE (pe_listRg hc hgl hml (prg_2 hg hm ha hb na nb (hp := hpl)) na2) fun σ H Q ⟨ρ, B, φ, S, w, en, h⟩ => tD.run w en (WP.fst h) fun d v H1 B1 φ1 S1 x1 w1 en1 r1 q1 => ?_
  refine tD.run w1 en1 (WP.fst q1) fun d2 v2 H2 B2 φ2 S2 x2 w2 en2 r2 q2 => ?_
  split at q2
  · rename_i i j
    split at q2
    · rename_i hl
      refine ⟨i, j, rep_int.mp r1, rep_int.mp r2, lrngOk_at hl, fun q hq => ?_⟩
      exact q2 _ _ _ (Xt.alloc w2 hq) (w2.alloc hq) _ (rep_lst.mpr ⟨q, _, rfl, upd_same, reps_rng i j⟩)
    · exact q2.elim
  · exact q2.elim
def nTuple : OpN := fun xs S => match xs with
  | [.p (.tup ds)] => .ok (.p (.tup ds)) S
  | [x] => match vw S x with
    | some ds => .ok (.p (.tup ds)) S
    | none => .bad
  | _ => .bad
theorem nTuple_ok : OkN G W (fun xs H Q => ∃ p ys, xs = [.ref p] ∧ ((SqL G.K H p ys ∧ ∀ l, H l = none → Q (.ref l) (upd H l (.tup ys))) ∨ (SqT G.K H p ys ∧ Q (.ref p) H))) nTuple := by
  intro H B φ S σ xs vs Q w r h
  unfold nTuple at h
  split at h
  · obtain ⟨v, rfl, rv⟩ := rvs1 r
    obtain ⟨a, ys, rfl, s1, q1⟩ := rep_tup.mp rv
    exact ⟨a, ys, rfl, .inr ⟨sqT_mono w.sub s1, h H B φ Xt.refl w _ rv⟩⟩
  · split at h
    · rename_i ds hs
      obtain ⟨v, rfl, rv⟩ := rvs1 r
      obtain ⟨a, ys, rfl, s1, q1⟩ := vw_at w rv hs
      exact ⟨a, ys, rfl, .inl ⟨SqL.of s1, fun l hl => h _ _ _ (Xt.alloc w hl) (w.alloc hl) _ (rep_tup.mpr ⟨l, _, rfl, SqT.of upd_same, Reps.mono (same_upd' (w.bfree hl)) _ q1⟩)⟩⟩
    · exact h.elim
  · exact h.elim
theorem dt_chain {a b c3 : Expr} {o o' : CmpOp} {r r' : R2} {op op' : Op2} (hq : PT X (.Compare a [o, o'] [b, c3] pos) (tTest (tChain r r' (tD G W ef) (tD G W eg) (tD G W eh)))) (h : Ok2 G W r op) (h' : Ok2 G W r' op') :
    PT X (.Compare a [o, o'] [b, c3] pos) (tT G W (cVal (dChain op op' ef eg eh))) := by
  refine wkT hq fun σ H Q ⟨ρ, B, φ, S, w, en, q⟩ => ?_
  have q := WP.fst q
  have fin : ∀ {H' B' φ' S'} (d : Dv) (v : V), Wd G H' B' φ' S' → RepV G B' φ' d v → WP G W σ H' B' φ' (match d with
    | .p (.bl b) => .ok b S'
    | _ => .bad : Out Bool) (fun b H' _ _ _ => Q b H') → ∃ k, v = .bl k ∧ Q k H' := by
    intro H' B' φ' S' d v w' r q
    split at q
    · exact ⟨_, rep_bl.mp r, q H' B' φ' Xt.refl w'⟩
    · exact q.elim
  show tChain r r' (tD G W ef) (tD G W eg) (tD G W eh) σ H fun x H' => ∃ k, x = .bl k ∧ Q k H'
  refine tD.run w en (WP.fst q) fun x v H1 B1 φ1 S1 x1 w1 en1 r1 q1 => ?_
  refine tD.run w1 en1 (WP.fst q1) fun y u H2 B2 φ2 S2 x2 w2 en2 r2 q2 => ?_
  refine h H2 B2 φ2 S2 σ x y v u _ w2 (RepV.mono x2.b x2.p x r1) r2 ((WP.fst q2).mono fun z H3 B3 φ3 S3 x3 w3 q3 v3 r3 => ?_)
  split at q3
  · rename_i t
    rw [rep_bl] at r3
    refine ⟨t, r3, ?_⟩
    cases t with
    | true =>
      rw [if_pos rfl] at q3
      rw [if_pos rfl]
      refine tD.run w3 (en2.mono x3.b x3.p) (WP.fst q3) fun u4 v4 H4 B4 φ4 S4 x4 w4 en4 r4 q4 => ?_
      refine h' H4 B4 φ4 S4 σ y u4 u v4 _ w4 (RepV.mono x4.b x4.p y (RepV.mono x3.b x3.p y r2)) r4 (q4.mono fun d H5 B5 φ5 S5 x5 w5 q5 v5 r5 => fin d v5 w5 r5 q5)
    | false =>
      rw [if_neg Bool.false_ne_true] at q3
      rw [if_neg Bool.false_ne_true]
      exact fin _ _ w3 (rep_bl.mpr rfl) (q3 H3 B3 φ3 Xt.refl w3)
  · exact q3.elim
/-! xs[::-1] -/
def dRev (f : Ef) : Ef := fun ρ S => (f ρ S).bind fun d S1 => match vw S1 d with
  | some ds => .ok (.p (.lst ds.reverse)) S1
  | none => .bad
theorem de_rev {k : Nat} {p1 p3 : Pos} (he : PE X e (tD G W ef)) : PE X (.Subscript e (.Slice none none (some (.UnaryOp .USub (.Constant (.int 1) k p1) p2)) p3) pos) (tD G W (dRev ef)) := by
  refine wkE (pe_revL he) fun σ H Q ⟨ρ, B, φ, S, w, en, h⟩ => tD.run w en (WP.fst h) fun d v H1 B1 φ1 S1 x1 w1 en1 r1 q1 => ?_
  split at q1
  · rename_i ds hs
    obtain ⟨a, xs, rfl, s1, rr⟩ := vw_at w1 r1 hs
    exact ⟨a, xs, rfl, SqL.of s1, fun l hl => q1 _ _ _ (Xt.alloc w1 hl) (w1.alloc hl) _ (rep_lst.mpr ⟨l, _, rfl, upd_same, Reps.mono (same_upd' (w1.bfree hl)) _ rr.reverse⟩)⟩
  · exact q1.elim
end
/-! ### ends -/
theorem tabL {α : Type} : ∀ {l : List (Str × α)} {z : Str} {d : α}, l.lookup z = some d → (z, d) ∈ l
  | (k, v) :: r, z, d, h => by
    rw [List.lookup_cons] at h
    cases hb : z == k with
    | true =>
      rw [hb] at h
      have := eq_of_beq hb
      subst this
      cases h
      exact List.mem_cons_self
    | false =>
      rw [hb] at h
      exact List.mem_cons_of_mem _ (tabL h)
def spS (K : PySem.W.Frag) : Sp := fun vs H Q E => ∃ (a : Addr) (ns : List Int), vs = [.ref a] ∧ ns.length ≤ 63 ∧ SqL K H a (ns.map V.int) ∧ Q = (fun v _ => v = .bl true) ∧ E = fun _ _ _ => False
theorem spS_to {G : Gx} {K : PySem.W.Frag} {m : List Dv → Sto → Out Dv} (hK : G.K = K) (hm : ∀ ns : List Int, ns.length ≤ 63 → ∃ S, m [.p (.scr ns)] [] = .ok (.p (.bl true)) S) {vs : List V} {H : Hp} {Q : VK} {E : XK} (h : spS K vs H Q E) : spE G 1 m vs H Q E := by
  obtain ⟨a, ns, rfl, hl, hs, rfl, rfl⟩ := h
  exact law_end hK hm hl hs
theorem cx_none {P : Program} {w : World} {H : Hp} {s : Shared} {e : Value} {s' : Shared} (h : L2.CX P w [] H s (fun _ _ _ => False) e s') : False := by
  obtain ⟨_, _, _, _, _, _, _, _, _, _, _, _, z⟩ := h
  exact z.elim
end DL

namespace DL
open PySem L2
open PySem.Spec PyProof.Rows
section
variable {X : Cx} {G : Gx} {W : WX} {e e2 : Expr} {ef eg eh : Ef} {p p2 pos : Pos} {H B : Hp} {φ : List Addr} {S : Sto} {σ : L2.St} {ρ : Nv} {sts : List Stmt} {f g : Sf}
/-! ### raise -/
theorem pmk_bare {x : Str} {C : Addr} {bmB : List Value} {bn newId initId : String} (F : ExcBaseFacts bn newId initId bmB) (q : PySem.W.excIn X.K C bmB newId = true) (gC : X.mg x = some (.ref C)) (kC : PySem.W.keepIn X.K (.ref C) = true) (r : Raises X (.ref C)) (hg : Gl X x)
    (hdb : (x == ("__debug__" : Str)) = false := by decide) : PMk X (.Call (.Name x p) [] [] pos) (fun _ H Q => Q (.ref C) none H) := by
  intro pins s σ H Q I h
  refine wpAny_Call_Name_kw (ld_glob I hg gC ?_ hdb)
  refine PySem.W.callWith_K0 I.kIn kC ?_
  show wpAny _ _ (call (.ref C) []) _ _ _
  obtain ⟨bm, N, nm, qn, bs, hdct, sn, sub, ab, col, dd, k0, k1, k2, k3, k5, mN, hC, hN, hni, T⟩ := exc_obj I.kIn q
  exact wpAny_call_exc_subT F T hC hN hni (fun h' e hm => mk_of I hm r h (I.hok.gone hm.new)) (by show 0 ≤ sizeLine; omega)
def sRaise (n : Nat) : Sf := fun ρ S => .exc ⟨n, []⟩ ρ S
/-- what the written part says of an own class of errors that has no __init__ -/
structure XCls (K : PySem.W.Frag) (mg : Str → Option Value) (x : Str) (C : Addr) : Prop where
  q : PySem.W.excIn K C [.type "ValueError", .type "Exception", .type "BaseException", .type "object"] "ValueError.__new__" = true
  g : mg x = some (.ref C)
  k : PySem.W.keepIn K (.ref C) = true
  b : PySem.W.subIn K (.ref C) (.type "BaseException") = some true
  t : PySem.W.typeIn K (.ref C) = some (.type "type")
theorem dp_raise0 {x : Str} {n : Nat} {q : Pos} (tk : Takes X W) (hc : X.calm = true) (T : XCls X.K X.mg x (G.xc n)) (hg : Gl X x) (hdb : (x == ("__debug__" : Str)) = false := by decide) : PS X (.Raise (some (.Call (.Name x p) [] [] pos)) none q) (tS G W (sRaise n)) := by
  refine wkS (ps_raise hc tk (pmk_bare PySem.F.excBase_ValueError T.q T.g T.k (raises_own T.b T.t) hg hdb)) fun D σ H ⟨ρ, B, φ, S, w, en, h⟩ => ?_
  exact h H B φ _ _ σ Xt.refl w ⟨rfl, rfl⟩ en
/-! ### try, with clauses that have no name -/
/-- the clauses: which errors each takes, and its suite -/
def sHs : List ((Nat → Option Bool) × Sf) → Ex → Sf
  | [], x => fun ρ S => .exc x ρ S
  | (mt, g) :: r, x => fun ρ S => match mt x.cls with
    | some true => g ρ S
    | some false => sHs r x ρ S
    | none => .bad
def sTry (f : Sf) (l : List ((Nat → Option Bool) × Sf)) : Sf := fun ρ S => match f ρ S with
  | .exc x ρ' S' => sHs l x ρ' S'
  | .ok fl S' => .ok fl S'
  | .bad => .bad
/-- one class, of n that the program has -/
def mtOne (n j : Nat) : Nat → Option Bool := fun m => if m < n then some (m == j) else none
inductive HdsD (X : Cx) (G : Gx) : List ExceptHandler → List ((Nat → Option Bool) × Sf) → Prop
  | nil : HdsD X G [] []
  | cons {x : Str} {c : Value} {b₀ : Stmt} {suite : List Stmt} {np pos' : Pos} {hds : List ExceptHandler} {l : List ((Nat → Option Bool) × Sf)} {mt : Nat → Option Bool} {g : Sf} (hc : Names X x c) (hm : ∀ m b, mt m = some b → PySem.W.exmOne X.K (.ref (G.xc m)) c = some b)
      (hs : ∀ (a : Addr) (pn : List (Addr × Obj)), PSs (X.suite a pn) (b₀ :: suite) (tS G (fun _ _ _ _ => False) g)) (r : HdsD X G hds l) :
      HdsD X G (.ExceptHandler (some (.Name x np)) none (b₀ :: suite) pos' :: hds) ((mt, g) :: l)
theorem WPS.nox {Z : Ends} {o : OS} {W' : WX} (h : WPS G W Z H B φ o) (k : ∀ x ρ S, o ≠ .exc x ρ S) : WPS G W' Z H B φ o := by
  cases o with
  | ok fl S => exact h
  | exc x ρ S => exact absurd rfl (k x ρ S)
  | bad => exact h
theorem hds_ok {hds : List ExceptHandler} {l : List ((Nat → Option Bool) × Sf)} (h : HdsD X G hds l) : ∃ l', HdsOk X hds l' ∧ ∀ (D : Ends) (x : Ex) (c : Value) (dd : Option Addr) (σ : L2.St) (H : Hp), (∃ ρ B φ S, Wd G H B φ S ∧ EnvR G B φ σ ρ ∧ XRep G B x c dd ∧ WPS G W D H B φ (sHs l x ρ S) ∧
    ∀ x' ρ' S', sHs l x ρ S = .exc x' ρ' S' → x' = x ∧ ρ' = ρ ∧ S' = S ∧ ∀ m ∈ l, m.1 x.cls = some false) → wMany X.K W D l' c dd σ H := by
  induction h with
  | nil =>
    refine ⟨[], .nil, fun D x c dd σ H ⟨ρ, B, φ, S, w, en, xr, q, _⟩ => ?_⟩
    exact q H B φ c dd σ Xt.refl w xr en
  | @cons x c b₀ suite np pos' hds l mt g hc hm hs r ih =>
    obtain ⟨l', k1, k2⟩ := ih
    refine ⟨(c, fun _ _ _ => tS G (fun _ _ _ _ => False) g) :: l', .cons hc (fun a oe cls d pn _ _ => hs a _) k1, fun D x c' dd σ H ⟨ρ, B, φ, S, w, en, xr, q, nx⟩ => ?_⟩
    unfold sHs at q nx
    cases hb : mt x.cls with
    | none => rw [hb] at q; exact q.elim
    | some b =>
      rw [hb] at q nx
      refine ⟨b, ?_, fun e a _ => ?_, fun e => ?_⟩
      · rw [xr.1]; exact hm _ _ hb
      · subst e
        dsimp only at q nx
        refine ⟨ρ, B, φ, S, w, en, WPS.nox q fun x' ρ' S' e => ?_⟩
        have := (nx x' ρ' S' e).2.2.2 (mt, g) List.mem_cons_self
        have this : mt x.cls = some false := this
        rw [hb] at this; cases this
      · subst e
        dsimp only at q nx
        refine k2 D x c' dd σ H ⟨ρ, B, φ, S, w, en, xr, q, fun x' ρ' S' e => ?_⟩
        obtain ⟨z1, z2, z3, z4⟩ := nx x' ρ' S' e
        exact ⟨z1, z2, z3, fun m hm' => z4 m (List.mem_cons_of_mem _ hm')⟩
/-- a suite that lets nothing out -/
def Mild (g : Sf) : Prop := ∀ ρ S x ρ' S', g ρ S ≠ .exc x ρ' S'
theorem hs_mild {x : Ex} {ρ : Nv} {S : Sto} : ∀ {l : List ((Nat → Option Bool) × Sf)}, (∀ m ∈ l, Mild m.2) → ∀ x' ρ' S', sHs l x ρ S = .exc x' ρ' S' → x' = x ∧ ρ' = ρ ∧ S' = S ∧ ∀ m ∈ l, m.1 x.cls = some false
  | [], _, x', ρ', S', e => by
    unfold sHs at e
    cases e
    exact ⟨rfl, rfl, rfl, fun m hm => by cases hm⟩
  | (mt, g) :: l, hl, x', ρ', S', e => by
    unfold sHs at e
    cases hb : mt x.cls with
    | none => rw [hb] at e; cases e
    | some b =>
      rw [hb] at e
      cases b with
      | true => exact absurd e (hl (mt, g) List.mem_cons_self ρ S x' ρ' S')
      | false =>
        obtain ⟨z1, z2, z3, z4⟩ := hs_mild (l := l) (fun m hm => hl m (List.mem_cons_of_mem _ hm)) x' ρ' S' e
        exact ⟨z1, z2, z3, fun m hm => by
          rcases List.mem_cons.mp hm with rfl | hm
          · exact hb
          · exact z4 m hm⟩
theorem dp_try {body : List Stmt} {h₀ : ExceptHandler} {hds : List ExceptHandler} {l : List ((Nat → Option Bool) × Sf)} (hs : X.stack = X.env :: X.outer) (hf : X.env.frame = some X.env.locals) (tk : Takes X W)
    (hb : ∀ (W' : WX) (pn : List (Addr × Obj)) (xe : Value → Shared → Prop), Takes (X.tr pn xe) W' → PassesOwn (model X.prog X.w) X.A X.env xe → PSs (X.tr pn xe) body (tS G W' f))
    (hh : HdsD X G (h₀ :: hds) l) (ml : ∀ m ∈ l, Mild m.2) : PS X (.Try body (h₀ :: hds) [] [] pos) (tS G W (sTry f l)) := by
  obtain ⟨l', k1, k2⟩ := hds_ok (W := W) hh
  refine wkS (ps_try_many hs hf tk (tb := fun W' => tS G W' f) hb k1) fun D σ H ⟨ρ, B, φ, S, w, en, q⟩ => ⟨ρ, B, φ, S, w, en, ?_⟩
  unfold sTry at q
  cases e : f ρ S with
  | bad => rw [e] at q; exact q
  | ok fl S' => rw [e] at q; exact q
  | exc x ρ' S' =>
    rw [e] at q
    dsimp only at q
    exact fun H' B' φ' c dd σ' x1 w1 xr en1 => k2 D x c dd σ' H' ⟨ρ', B', φ', S', w1, en1, xr, WPS.rebase x1 q, hs_mild ml⟩
theorem exm_own {K : PySem.W.Frag} {C m : Addr} {b : Bool} (h1 : PySem.W.subIn K (.ref C) (.type "BaseException") = some true) (h2 : PySem.W.isClsIn K C = true) (h3 : PySem.W.typeIn K (.ref C) = some (.type "type")) (h4 : PySem.W.subIn K (.ref m) (.ref C) = some b) : PySem.W.exmOne K (.ref m) (.ref C) = some b := by
  unfold PySem.W.exmOne
  rw [h1]
  rw [if_pos (show (some true == some true) = true from rfl)]
  unfold PySem.W.kitCls
  have e : ((PySem.W.clsIn K C).isSome && PySem.W.typeIn K (.ref C) == some (.type "type")) = true := by
    rw [h3, Bool.and_eq_true]
    exact ⟨h2, beq_self_eq_true _⟩
  dsimp only
  rw [if_pos e, h4]
theorem mt_of {K : PySem.W.Frag} {n j : Nat} {xc : Nat → Addr} (h : ∀ m, m < n → PySem.W.exmOne K (.ref (xc m)) (.ref (xc j)) = some (m == j)) : ∀ m b, mtOne n j m = some b → PySem.W.exmOne K (.ref (xc m)) (.ref (xc j)) = some b := fun m b e => by
  unfold mtOne at e
  split at e
  · rename_i hm
    rw [h m hm, e]
  · cases e
theorem mild_set {i : Nat} {d : D} : Mild (sSet i (dC d)) := fun ρ S x ρ' S' h => by cases h
theorem mild_inc {i j : Nat} {d : D} : Mild (sSet i (dBin oAdd (dName j) (dC d))) := fun ρ S x ρ' S' h => by
  unfold sSet dBin dName at h
  cases e : ρ[j]? with
  | none => rw [e] at h; cases h
  | some o =>
    rw [e] at h
    cases o with
    | none => cases h
    | some v =>
      dsimp only [Out.bind, dC] at h
      cases e2 : oAdd v (.p d) S with
      | ok a S2 => rw [e2] at h; cases h
      | bad => rw [e2] at h; cases h
      | exc x2 S2 =>
        exfalso
        revert e2
        unfold oAdd
        repeat' split
        all_goals exact fun z => by cases z
end
end DL

namespace DL
open PySem L2
open PySem.Spec PyProof.Rows
section
variable {X : Cx} {G : Gx} {W : WX} {e e2 : Expr} {ef eg eh : Ef} {p p2 pos q1 q2 tpos : Pos} {H B : Hp} {φ : List Addr} {S : Sto} {σ : L2.St} {ρ : Nv}
/-! ### isinstance(x, (list, tuple)) -/
def ltB (t : String) : Option Bool := match kitB t "list", kitB t "tuple" with
  | some a, some b => some (a || b)
  | _, _ => none
theorem ltB_at {K : PySem.W.Frag} {t : String} {b : Bool} (h : ltB t = some b) : PySem.W.kitAny K (.type t) [.type "list", .type "tuple"] = some b := by
  unfold ltB at h
  split at h
  · rename_i x y hx hy
    cases h
    refine kitAny_cons (kit_ty hx) (fun e => ?_) (fun e => by rw [e]; rfl)
    rw [e, Bool.false_or]
    exact kitAny_cons (kit_ty hy) (fun e => by rw [e]; exact kitAny_nil) (fun e => e)
  · cases h
def dIsLT (f : Ef) : Ef := fun ρ S => (f ρ S).bind fun d S1 => match tyOf S1 d with
  | some t => match ltB t with
    | some b => .ok (.p (.bl b)) S1
    | none => .bad
  | none => .bad
theorem de_isLT {x1 : Nat} (hK : X.K = G.K) (he : PE X e (tD G W ef)) (hg : Gl X "isinstance") (hm : X.mg "isinstance" = none) (gl : Gl X "list") (ml : X.mg "list" = none) (gt : Gl X "tuple") (mt : X.mg "tuple" = none)
    (h1 : starEach [e, .Tuple [.Name "list" q1, .Name "tuple" q2] x1 tpos] X.env = (false, eval e X.env) :: starEach [.Tuple [.Name "list" q1, .Name "tuple" q2] x1 tpos] X.env := by rfl)
    (h2 : starEach [.Tuple [.Name "list" q1, .Name "tuple" q2] x1 tpos] X.env = (false, eval (.Tuple [.Name "list" q1, .Name "tuple" q2] x1 tpos) X.env) :: starEach [] X.env := by rfl)
    (h3 : starEach [.Name "list" q1, .Name "tuple" q2] X.env = (false, eval (.Name "list" q1) X.env) :: starEach [.Name "tuple" q2] X.env := by rfl) (h4 : starEach [.Name "tuple" q2] X.env = (false, eval (.Name "tuple" q2) X.env) :: starEach [] X.env := by rfl)
    (hpl : (backTo pos (starEach [.Tuple [.Name "list" q1, .Name "tuple" q2] x1 tpos] X.env)).any (·.1) = false := by rfl) :
    PE X (.Call (.Name "isinstance" p) [e, .Tuple [.Name "list" q1, .Name "tuple" q2] x1 tpos] [] pos) (tD G W (dIsLT ef)) := by
  refine wkE (pe_callB call_isiT hg hm boot_isinstance (pa_cons he (pa_cons (pe_tup (pa_cons (pe_bltn gl ml PyProof.Rows.boot_list (v := .ty "list") rfl) (pa_cons (pe_bltn gt mt PyProof.Rows.boot_tuple (v := .ty "tuple") rfl) pa_nil h4) h3)) pa_nil h2) h1) (by decide) (by decide) h1 hpl) fun σ H Q ⟨ρ, B, φ, S, w, en, h⟩ => tD.run w en (WP.fst h) fun d v H1 B1 φ1 S1 x1 w1 en1 r1 q => ?_
  split at q
  · rename_i t ht
    split at q
    · rename_i b hb
      refine ⟨by show 2 ≤ sizeLine; rw [sizeLine_eq]; omega, fun a ha => ?_⟩
      have w2 := w1.alloc (o := .tup [.ty "list", .ty "tuple"]) ha
      have x2 := Xt.alloc (o := .tup [.ty "list", .ty "tuple"]) w1 ha
      exact ⟨v, a, [.ty "list", .ty "tuple"], .type t, [.type "list", .type "tuple"], b, rfl, upd_same, .cons (.ty "list") (.cons (.ty "tuple") .nil), hK ▸ tyOf_at w2 (RepV.mono x2.b x2.p _ r1) ht, ltB_at hb, q _ _ _ x2 w2 _ (rep_bl.mpr rfl)⟩
    · exact q.elim
  · exact q.elim
/-! ### len(set(xs)), numbers -/
def dd (ns : List Int) : List Int := ns.foldl PyProof.Rows.step_dedup []
theorem dd_met (ns : List Int) : PyProof.Rows.firstMet (fun i => ns.getD i 0) ns.length = dd ns := by
  unfold PyProof.Rows.firstMet dd
  congr 1
  refine List.ext_getElem (by rw [List.length_map, List.length_range]) fun i h1 h2 => ?_
  rw [List.getElem_map, List.getElem_range]
  show ns.getD i 0 = _
  rw [List.getD_eq_getElem?_getD, List.getElem?_eq_getElem h2]; rfl
def nLenSet : OpN := fun xs S => match xs with
  | [x] => match vw S x with
    | some ds => match intsOf ds with
      | some ns => if ns.length ≤ 4000 then .ok (.p (.int (dd ns).length)) S else .bad
      | none => .bad
    | none => .bad
  | _ => .bad
theorem len_set_of {P pp : Pos} {ta : TE} (lG : Gl X "len") (lM : X.mg "len" = none) (sG : Gl X "set") (sM : X.mg "set" = none) (he : PE X e ta) (cm : X.calm = true) (st : starEach [e] X.env = (false, eval e X.env) :: starEach [] X.env := by rfl) :
    PE X (.Call (.Name "len" p) [.Call (.Name "set" p2) [e] [] P] [] pp) (fun σ H Q => ta σ H fun x H1 => ∃ (l : Addr) (ns : List Int), x = .ref l ∧ SqL X.K H1 l (ns.map V.int) ∧ ns.length ≤ 4000 ∧ Q (.int ((dd ns).length : Nat)) H1) := by
  constructor
  intro pins s σ H Q I h
  refine Call_ (ld_blt I lG lM boot_len (PyProof.Rows.callWith_builtin1 (PyProof.Rows.args_cons ?_ rfl) rfl rfl))
  refine Call_ (ld_blt I sG sM boot_set (PyProof.Rows.callWith_type1 (PyProof.Rows.args_cons (thn (he.run pins s σ H _ I h) fun v s1 ⟨x, H1, I1, r1, k⟩ => PyProof.Rows.args_nil ?_) st) st rfl))
  obtain ⟨l, ns, rfl, sq, len, k⟩ := k
  cases r1
  obtain ⟨its, r, pl, hz⟩ := I1.list sq
  have eL : its.toArray.size = ns.length := (List.size_toArray ..).trans (r.length.symm.trans (List.length_map ..))
  refine call_set_list (ns := ns) (I1.ok.hd cm) pl.isList (RZ.intsAre_vals (by simpa using r)) (by unfold scanBound; omega) fun hp t made kept => PyProof.Rows.args_nil ?_
  rw [eL, dd_met] at made
  obtain ⟨o, es, ep, tb, ho, hex, hd, _, _, _, hf, hn⟩ := made
  have bnd : (dd ns).length ≤ ns.length := by rw [← dd_met]; exact PyProof.Rows.firstMet_length_le _ _
  have J : Inv X pins σ H1 { s1 with heap := hp, toks := t } := I1.kept fun b o e => kept b o (Heap.lt_size e) e
  exact call_len_set ho hex hd hf (by omega) ⟨.int (dd ns).length, H1, J.tok _, ⟨_, by rw [hn]⟩, k⟩
theorem de_lenSet {P pp : Pos} (hK : X.K = G.K) (cm : X.calm = true) (lG : Gl X "len") (lM : X.mg "len" = none) (sG : Gl X "set") (sM : X.mg "set" = none) (he : PE X e (tD G W ef)) (st : starEach [e] X.env = (false, eval e X.env) :: starEach [] X.env := by rfl) :
    PE X (.Call (.Name "len" p) [.Call (.Name "set" p2) [e] [] P] [] pp) (tD G W (dCall nLenSet (aCons ef aNil))) := by
  refine wkE (len_set_of lG lM sG sM he cm st) fun σ H Q ⟨ρ, B, φ, S, w, en, h⟩ => ?_
  have h : WP G W σ H B φ ((ef ρ S).bind fun x S1 => nLenSet [x] S1) fun d H' B' φ' S' => ∀ v, RepV G B' φ' d v → Q v H' := by
    have e : dCall nLenSet (aCons ef aNil) ρ S = (ef ρ S).bind fun x S1 => nLenSet [x] S1 := by
      unfold dCall aCons aNil
      cases ef ρ S <;> rfl
    rw [e] at h; exact h
  refine tD.run w en (WP.fst h) fun d v H1 B1 φ1 S1 x1 w1 en1 r1 k => ?_
  unfold nLenSet at k
  dsimp only at k
  split at k
  · rename_i ds hv
    split at k
    · rename_i ns hn
      split at k
      · rename_i hl
        obtain ⟨a, xs, rfl, s1, r2⟩ := vw_at w1 r1 hv
        refine ⟨a, ns, rfl, ?_, hl, k H1 B1 φ1 Xt.refl w1 _ (rep_int.mpr rfl)⟩
        rw [hK, ← ints_at' hn r2]
        exact SqL.of s1
      · exact k.elim
    · exact k.elim
  · exact k.elim
end
end DL

namespace DL
open PySem L2
open PySem.Spec PyProof.Rows
section
variable {X : Cx} {G : Gx} {W : WX} {e e2 : Expr} {ef eg eh : Ef} {p p2 pos q1 q2 tpos : Pos} {H B : Hp} {φ : List Addr} {S : Sto} {σ : L2.St} {ρ : Nv}
/-! ### xs.index(y), y among flat items -/
def idV (y : V) : List V → Option Nat
  | [] => none
  | z :: r => if eqV z y = true then some 0 else (idV y r).map (· + 1)
theorem idV_at {y : V} : ∀ {vs : List V} {j : Nat}, idV y vs = some j → (∃ z, vs[j]? = some z ∧ eqV z y = true) ∧ ∀ m z', m < j → vs[m]? = some z' → eqV z' y = false
  | [], _, h => by cases h
  | z :: r, j, h => by
    unfold idV at h
    split at h
    · rename_i hz
      cases h
      exact ⟨⟨z, rfl, hz⟩, fun m z' hm _ => absurd hm (Nat.not_lt_zero _)⟩
    · rename_i hz
      cases q : idV y r with
      | none => rw [q] at h; cases h
      | some i =>
        rw [q] at h
        cases h
        obtain ⟨⟨z2, a1, a2⟩, a3⟩ := idV_at q
        refine ⟨⟨z2, by simpa using a1, a2⟩, fun m z' hm hz' => ?_⟩
        cases m with
        | zero =>
          simp at hz'
          subst hz'
          cases b : eqV z y with
          | true => exact absurd b hz
          | false => rfl
        | succ m =>
          have hm : m + 1 < i + 1 := hm
          exact a3 m z' (by omega) (by simpa using hz')
def dIndex (fo fe : Ef) : Ef := fun ρ S => (fo ρ S).bind fun o S1 => match vw S1 o with
  | some ds0 => (fe ρ S1).bind fun d S2 => match d, vw S2 o with
    | .p d', some ds => match flD d', flDs ds with
      | some v, some vs => match idV v vs with
        | some j => .ok (.p (.int (j : Nat))) S2
        | none => .bad
      | _, _ => .bad
    | _, _ => .bad
  | none => .bad
theorem de_index {o : Expr} {apos : Pos} (hK : X.K = G.K) (ho : PE X o (tD G W ef)) (he : PE X e (tD G W eg))
    (hbase : attributeBase o "index" X.env (eval o X.env) = eval o X.env := by rfl)
    (hfew : ((backTo pos (starEach [e] X.env)).all (fun x => !x.1) && (backToKw pos (keywordEach [] X.env)).all (fun x => x.1.isSome) && decide ([e].length + ([] : List Keyword).length + (if ([] : List Keyword).isEmpty then 0 else 1) < 30)) = true := by rfl)
    (hline : (apos.endLine == pos.line) = true := by rfl) (hs : starEach [e] X.env = (false, eval e X.env) :: starEach [] X.env := by rfl) (hpl : (backTo pos (starEach [] X.env)).any (·.1) = false := by rfl) :
    PE X (.Call (.Attribute o "index" apos) [e] [] pos) (tD G W (dIndex ef eg)) := by
  refine wkE (pe_bm PySem.F.plainAttrs_list PySem.F.slot_list_index PySem.F.type_list_index mt_index ho (pa_cons he pa_nil hs) hbase hfew hline hs hpl) fun σ H Q ⟨ρ, B, φ, S, w, en, h⟩ => tD.run w en (WP.fst h) fun o v H1 B1 φ1 S1 x1 w1 en1 r1 k1 => ?_
  split at k1
  · rename_i ds0 hs0
    obtain ⟨a, xs0, rfl, hx0, _⟩ := vw_at w1 r1 hs0
    refine ⟨.inl ⟨rfl, xs0, SqL.of hx0⟩, ?_⟩
    show tD G W eg σ H1 _
    refine tD.run w1 en1 (WP.fst k1) fun d v2 H2 B2 φ2 S2 x2 w2 en2 r2 k2 => ?_
    split at k2
    · rename_i d' ds hs
      split at k2
      · rename_i y ys hy hys
        split at k2
        · rename_i j hj
          have r1' := RepV.mono x2.b x2.p _ r1
          obtain ⟨a', xs, ea, hx, rr⟩ := vw_at w2 r1' hs
          cases ea
          obtain ⟨rfl, f1⟩ := flD_at r2 hy
          obtain ⟨rfl, f2⟩ := flDs_at rr hys
          obtain ⟨⟨z, z1, z2⟩, z3⟩ := idV_at hj
          exact ⟨a, xs, v2, j, z, rfl, rfl, SqL.of hx, f1, f2, z1, z2, z3, k2 H2 B2 φ2 Xt.refl w2 _ (rep_int.mpr rfl)⟩
        · exact k2.elim
      · exact k2.elim
    · exact k2.elim
  · exact k1.elim
end
end DL

namespace DL
open PySem L2
open PySem.Spec PyProof.Rows
section
variable {X : Cx} {G : Gx} {W : WX} {e e2 o : Expr} {ef eg eh : Ef} {p p2 pos q1 q2 tpos : Pos} {H B : Hp} {φ : List Addr} {S : Sto} {σ : L2.St} {ρ : Nv}
/-! ### a written dict of texts; d.get(x, y) -/
theorem de_dct2 {k1 k2 v1 v2 : Str} {j1 j2 j3 j4 : Nat} {p1 p2 p3 p4 : Pos} (hk : k1 ≠ k2) (hl : [some (Expr.Constant (.str k1) j1 p1), some (.Constant (.str k2) j2 p2)].length = [Expr.Constant (.str v1) j3 p3, .Constant (.str v2) j4 p4].length := by rfl) :
    PE X (.Dict [some (.Constant (.str k1) j1 p1), some (.Constant (.str k2) j2 p2)] [.Constant (.str v1) j3 p3, .Constant (.str v2) j4 p4] pos) (tD G W (dC (.dct [(k1, v1), (k2, v2)]))) := by
  refine wkE (pe_disp (pps_cons pe_str pe_str (pps_cons pe_str pe_str pps_nil)) (by rfl) hl (fun z => by cases z) (by show 2 ≤ 15; omega)) fun σ H Q ⟨ρ, B, φ, S, w, en, h⟩ => ?_
  intro a ha
  refine ⟨upd_same, [(Sum.inr k1, V.str v1), (Sum.inr k2, V.str v2)], rfl, by show 2 ≤ 15; omega, ?_⟩
  have em : mergeK [] [((Sum.inr k1 : Key), V.str v1), (Sum.inr k2, V.str v2)] = [(Sum.inr k1, V.str v1), (Sum.inr k2, V.str v2)] := by
    unfold mergeK
    rw [List.foldl_cons, List.foldl_cons, List.foldl_nil]
    have e1 : putK [] (Sum.inr k1 : Key) (V.str v1) = [(Sum.inr k1, V.str v1)] := rfl
    rw [e1]
    unfold putK
    rw [if_neg (by simp [hk])]; rfl
  rw [em]
  have hu : upd (upd H a (.dK [])) a (.dK [(Sum.inr k1, V.str v1), (Sum.inr k2, V.str v2)]) = upd H a (.dK [(Sum.inr k1, V.str v1), (Sum.inr k2, V.str v2)]) := by
    funext b
    unfold upd
    split <;> rfl
  rw [hu]
  have h : ∀ H' B' φ', Xt H B φ H' B' φ' → Wd G H' B' φ' S → ∀ v, RepV G B' φ' (.p (.dct [(k1, v1), (k2, v2)])) v → Q v H' := h
  refine h _ _ _ (Xt.alloc w ha) (w.alloc ha) _ ?_
  show Rep G _ (.dct _) _
  unfold Rep
  exact ⟨a, rfl, upd_same⟩
def kvGet (kvs : List (Str × Str)) (x : Str) : Option Str := (kvs.find? fun p => decide (p.1 = x)).map (·.2)
theorem kvGet_at {x : Str} : ∀ kvs : List (Str × Str), valV (kvs.map fun p => ((Sum.inr p.1 : Key), V.str p.2)) (Sum.inr x) = (kvGet kvs x).map V.str
  | [] => rfl
  | p :: r => by
    have ih := kvGet_at (x := x) r
    unfold valV kvGet at *
    rw [List.map_cons, List.find?_cons, List.find?_cons]
    by_cases h : p.1 = x
    · have h1 : decide ((Sum.inr p.1 : Key) = Sum.inr x) = true := by simp [h]
      rw [h1, decide_eq_true h]; rfl
    · have h1 : decide ((Sum.inr p.1 : Key) = Sum.inr x) = false := by simp [h]
      rw [h1, decide_eq_false h]
      exact ih
def dGet2 (fo fe fx : Ef) : Ef := fun ρ S => (fo ρ S).bind fun d S1 => match d with
  | .p (.dct kvs) => (fe ρ S1).bind fun y S2 => match y with
    | .p (.str x) => (fx ρ S2).bind fun z S3 => match kvGet kvs x with
      | some u => .ok (.p (.str u)) S3
      | none => .ok z S3
    | _ => .bad
  | _ => .bad
theorem de_get2 {apos : Pos} {f : Expr} (hu : X.A.units + 1 < cLine) (ho : PE X o (tD G W ef)) (he : PE X e (tD G W eg)) (hf : PE X f (tD G W eh)) (m : M2 X o "get" apos e f pos) : PE X (.Call (.Attribute o "get" apos) [e, f] [] pos) (tD G W (dGet2 ef eg eh)) := by
  refine wkE (pe_dget2 hu ho he hf m) fun σ H Q ⟨ρ, B, φ, S, w, en, h⟩ => tD.run w en (WP.fst h) fun d v H1 B1 φ1 S1 x1 w1 en1 r1 k1 => ?_
  split at k1
  · rename_i kvs
    have r1' : Rep G B1 (.dct kvs) v := r1
    unfold Rep at r1'
    obtain ⟨a, rfl, ha⟩ := r1'
    refine ⟨a, rfl, .inl ⟨_, .inl (w1.sub _ _ ha)⟩, ?_⟩
    refine tD.run w1 en1 (WP.fst k1) fun y v2 H2 B2 φ2 S2 x2 w2 en2 r2 k2 => ?_
    split at k2
    · rename_i x
      have ev := rep_str.mp r2
      subst ev
      refine tD.run w2 en2 (WP.fst k2) fun z v3 H3 B3 φ3 S3 x3 w3 en3 r3 k3 => ?_
      have ha3 := w3.sub _ _ (x3.b _ _ (x2.b _ _ ha))
      refine ⟨_, DGet.k (k := Sum.inr x) ha3, ?_⟩
      rw [kvGet_at]
      split at k3
      · rename_i u hq
        rw [hq]
        exact k3 H3 B3 φ3 Xt.refl w3 _ (rep_str.mpr rfl)
      · rename_i hq
        rw [hq]
        exact k3 H3 B3 φ3 Xt.refl w3 _ r3
    · exact k2.elim
  · exact k1.elim
end
end DL

set_option maxHeartbeats 4000000
namespace DL
open PySem L2
open PySem.Spec PyProof.Rows
/-! ### several clauses, some of which name the error -/
abbrev Clause := Value × Option Nat × (Addr → Value → Option Addr → TS)
def without (i : Nat) (Z : Ends) : Ends := ⟨fun t h => Z.nx (t.set i none) h, fun v h => Z.rt v h, fun t h => Z.bk (t.set i none) h, fun t h => Z.ct (t.set i none) h⟩
/-- what the clauses ask, one behind the other -/
def askC (K : PySem.W.Frag) (Out : WX) (Z : Ends) : List Clause → WX
  | [], cls, d, t, h => Out cls d t h
  | (c, none, ts) :: r, cls, d, t, h => ∃ b, PySem.W.exmOne K cls c = some b ∧ (b = true → ∀ a, h a = none → ts a cls d Z t h) ∧ (b = false → askC K Out Z r cls d t h)
  | (c, some i, ts) :: r, cls, d, t, h => ∃ b, PySem.W.exmOne K cls c = some b ∧ (b = true → ∀ a, h a = none → ts a cls d (without i Z) (t.set i (some (.ref a))) h) ∧ (b = false → askC K Out Z r cls d t h)
inductive ClOk (X : Cx) : List ExceptHandler → List Clause → Prop
  | nil : ClOk X [] []
  | bare {x : Str} {c : Value} {ts : Addr → Value → Option Addr → TS} {b : Stmt} {su : List Stmt} {q q' : Pos} {hs : List ExceptHandler} {l : List Clause} (hc : Names X x c)
      (k : ∀ (a : Addr) (ob : Obj) (cls : Value) (d : Option Addr) (pn : List (Addr × Obj)), Zc cls d ob → (∃ vs, ob.data = .fields vs) → PSs (X.suite a ((a, ob) :: pn)) (b :: su) (ts a cls d)) (r : ClOk X hs l) :
      ClOk X (.ExceptHandler (some (.Name x q)) none (b :: su) q' :: hs) ((c, none, ts) :: l)
  | named {x n : Str} {i : Nat} {c : Value} {ts : Addr → Value → Option Addr → TS} {b : Stmt} {su : List Stmt} {q q' : Pos} {hs : List ExceptHandler} {l : List Clause} (hc : Names X x c) (hN : X.N.Nodup) (hi : X.N[i]? = some n) (hk : X.env.kindOf n = some .local)
      (k : ∀ (a : Addr) (ob : Obj) (cls : Value) (d : Option Addr) (pn : List (Addr × Obj)), Zc cls d ob → (∃ vs, ob.data = .fields vs) → PSs (X.suite a ((a, ob) :: pn)) (b :: su) (ts a cls d)) (r : ClOk X hs l) :
      ClOk X (.ExceptHandler (some (.Name x q)) (some n) (b :: su) q' :: hs) ((c, some i, ts) :: l)
section
variable {X : Cx} {body : List Stmt} {e0 : ExceptHandler} {es : List ExceptHandler} {l : List Clause} {pos : Pos} {tb : WX → TS} {Out : WX}
theorem try_rule (hst : X.stack = X.env :: X.outer) (hfr0 : X.env.frame = some X.env.locals) (tk : Takes X Out)
    (hb : ∀ (W : WX) (pn : List (Addr × Obj)) (xe : Value → Shared → Prop), Takes (X.tr pn xe) W → PassesOwn (model X.prog X.w) X.A X.env xe → PSs (X.tr pn xe) body (tb W))
    (hh : ClOk X (e0 :: es) l) : PS X (.Try body (e0 :: es) [] [] pos) (fun Z t h => tb (askC X.K Out Z l) Z t h) := by
  refine ⟨fun pins s t h Z I hy => ?_⟩
  have okI := I.ok
  have hfrm : X.A.frames = some (X.env :: X.outer) := by rw [okI.frames, hst]
  have start := (hb (askC X.K Out Z l) (X.pn ++ pins) (fun er s1 => wpAny (model X.prog X.w) X.A (noteFrame er X.env) (fun _ s2 => wpAny (model X.prog X.w) X.A (setFlight er none) (fun _ s3 =>
    wpAny (model X.prog X.w) X.A (handleBy er X.env (e0 :: es)) (SP X pins Z) X.xe s3) X.xe s2) X.xe s1) ?caught PassesOwn.looking).run [] s t h Z (I.toTry _) hy
  case caught =>
    intro u s' xx
    obtain ⟨a, B, sI, pins', t', h', cls, d, rfl, J', nb, up, sky, na, os, ag, w⟩ := xx
    have J : Inv X pins t' h' sI := J'.ofTry okI
    have sky2 : Sky B (X.env :: X.outer) a (Zc cls d) X.env.locals s'.heap := by rw [← hst]; exact sky
    show wpAny (model X.prog X.w) X.A (noteFrame (.ref a) X.env) _ _ _
    refine Sky.land Zc.steady hfrm hfr0 sky2 fun hp3 fl up3 => ?_
    have J3 : Inv X pins t' h' { s' with heap := hp3 } := J.landed nb fl.1 (up.trans up3) os ag
    obtain ⟨ob3, vs3, g3, z3, d3⟩ := fl.there
    have notIn : a ∉ frs (X.env :: X.outer) := fun hm => by
      obtain ⟨_, o', e', hnf⟩ := fl.2.2.1.mem hm
      rw [g3] at e'; cases e'
      exact hnf _ d3
    have nL : a ≠ X.env.locals := fun z => notIn (List.mem_filterMap.mpr ⟨X.env, List.mem_cons_self, by rw [hfr0, z]⟩)
    have nF : a ∉ X.fs := fun hm => by
      obtain ⟨en, he, q⟩ := List.mem_filterMap.mp hm
      exact notIn (List.mem_filterMap.mpr ⟨en, List.mem_cons_of_mem _ he, q⟩)
    have S3 := J3.suite g3 d3 na nL nF
    have LT : PySem.W.Looks (model X.prog X.w) hp3 (typeOf (.ref a)) cls := fun A Q E s k q => wpAny_typeOf_ref (k _ _ g3) (by rw [z3.1]; exact q)
    have asks : ∀ {x : Str} {c : Value} {q : Pos}, Names X x c → ∀ {Q : Value → Shared → Prop} {E : Value → Shared → Prop}, Q c { s' with heap := hp3 } → wpAny (model X.prog X.w) (X.A.mark (some (.ref a))) (eval (.Name x q) X.env) Q E { s' with heap := hp3 } := fun {x c q} hc {Q E} y => by
      obtain ⟨hg, hdb, hm | ⟨hm, hv, hnn⟩⟩ := hc
      · exact ld_glob (X := X.suite a ((a, ob3) :: (X.pn ++ pins))) S3 hg hm y hdb
      · exact ld_blt (X := X.suite a ((a, ob3) :: (X.pn ++ pins))) S3 hg hm hv y hnn hdb
    have away : askC X.K Out Z [] cls d t' h' → wpAny (model X.prog X.w) X.A (handleBy (.ref a) X.env []) (SP X pins Z) X.xe { s' with heap := hp3 } := fun w => by
      refine wpAny_handleBy_nil ?_
      obtain ⟨k1, k2, k3, ob, vs, T, oT, ts', g4, z4, d4, h1, hr⟩ := id fl
      unfold PySem.passOn
      refine wpAny_bind (wpAny_field g4 d4 h1 ?_)
      rw [if_neg (by simp : ¬ ((Value.ref T == Value.none) = true))]
      have last : wpAny (model X.prog X.w) X.A (setFlight (.ref a) X.env.frame) (fun _ s4 => wpAny (model X.prog X.w) X.A (throw (.ref a) : Sem Flow) (SP X pins Z) X.xe s4) X.xe { s' with heap := hp3 } := by
        rw [hfr0]
        refine HandSPX.setFlight_upZ fl fun hp4 k4 up4 => wpAny_throw (tk _ _ ?_)
        exact ⟨a, B, sI, pins, t', h', cls, d, rfl, J, nb, (up.trans up3).trans up4, .inr (.inr (by rw [hst]; exact k4)), na, os, ag, w⟩
      first
        | exact wpAny_bind (wpAny_pure (wpAny_bind last))
        | exact wpAny_bind last
    have go : ∀ {hs' : List ExceptHandler} {l' : List Clause}, ClOk X hs' l' → askC X.K Out Z l' cls d t' h' →
        wpAny (model X.prog X.w) X.A (handleBy (.ref a) X.env hs') (SP X pins Z) X.xe { s' with heap := hp3 } := by
      intro hs' l' hk
      induction hk with
      | nil => exact away
      | @bare x c ts b su q q' hs2 l2 hc k r ih =>
        intro w
        obtain ⟨bb, hb1, yes, no⟩ := w
        have LM := PySem.W.exm_one (M := model X.prog X.w) (J3.kIn) LT hb1
        refine wpAny_handleBy_cons (codeAny_handlers_test ?_) (by intro z; cases z)
        refine asks hc (LM.here ?_)
        cases bb with
        | false =>
          show wpAny _ X.A (handleBy (.ref a) X.env hs2) _ _ _
          exact ih (no rfl)
        | true =>
          refine codeAny_handlers_suite ?_
          refine HandSPX.lands_againZ fl fun hp4 fl4 up4 => ?_
          have J4 : Inv X pins t' h' { s' with heap := hp4 } := J.landed nb fl4.1 ((up.trans up3).trans up4) os ag
          obtain ⟨ob4, vs4, g4, z4, d4⟩ := fl4.there
          refine wpAny_mono ((k a ob4 cls d (X.pn ++ pins) z4 ⟨_, d4⟩).run [] _ _ h' _ (J4.suite g4 d4 na nL nF) (yes rfl a na)) (fun f s6 hsp => ?_) (fun _ _ z => z.elim)
          cases f with
          | next => exact let ⟨t6, h6, S6, q6⟩ := hsp; ⟨_, _, S6.unsuite okI, q6⟩
          | brk => exact let ⟨t6, h6, S6, q6⟩ := hsp; ⟨_, _, S6.unsuite okI, q6⟩
          | cont => exact let ⟨t6, h6, S6, q6⟩ := hsp; ⟨_, _, S6.unsuite okI, q6⟩
          | ret u => exact let ⟨v6, t6, h6, S6, r6, q6⟩ := hsp; ⟨_, _, _, S6.unsuite okI, r6, q6⟩
      | @named x n i c ts b su q q' hs2 l2 hc hN hi hkn k r ih =>
        intro w
        obtain ⟨bb, hb1, yes, no⟩ := w
        have LM := PySem.W.exm_one (M := model X.prog X.w) (J3.kIn) LT hb1
        have hloc : Loc X.env.scope n := .inl hkn
        refine wpAny_handleBy_cons (codeAny_handlers_test ?_) (by intro z; cases z)
        refine asks hc (LM.here ?_)
        cases bb with
        | false =>
          show wpAny _ X.A (handleBy (.ref a) X.env hs2) _ _ _
          exact ih (no rfl)
        | true =>
          refine codeAny_handlers_suite_as ?_
          refine HandSPX.lands_againZ fl fun hp4 fl4 up4 => ?_
          have J4 : Inv X pins t' h' { s' with heap := hp4 } := J.landed nb fl4.1 ((up.trans up3).trans up4) os ag
          obtain ⟨ob4, vs4, g4, z4, d4⟩ := fl4.there
          refine store_ok (X := X.suite a ((a, ob4) :: (X.pn ++ pins))) (v := .ref a) (J4.suite g4 d4 na nL nF) hN hi hloc rfl (fun s5 S5 => ?_) (.inr hkn)
          have fin : ∀ {t6 : L2.St} {h6 : Hp} {s6 : Shared} {Q : Shared → Prop}, Inv (X.suite a ((a, ob4) :: (X.pn ++ pins))) [] t6 h6 s6 → (∀ s7, Inv X pins (t6.set i none) h6 s7 → Q s7) →
              wpAny (model X.prog X.w) X.A (do bindName X.env n .none; unbindBehindTheSuite X.env n q') (fun _ s7 => Q s7) X.xe s6 := fun {t6 h6 s6 Q} S6 hq => gone_ok (S6.unsuite okI) hN hi hkn hq
          refine wpAny_mono ((k a ob4 cls d (X.pn ++ pins) z4 ⟨_, d4⟩).run [] s5 _ h' _ S5 (yes rfl a na)) (fun f s6 hsp => ?_) (fun _ _ z => z.elim)
          cases f with
          | next => exact let ⟨t6, h6, S6, q6⟩ := hsp; fin S6 fun s7 J7 => ⟨_, _, J7, q6⟩
          | brk => exact let ⟨t6, h6, S6, q6⟩ := hsp; fin S6 fun s7 J7 => ⟨_, _, J7, q6⟩
          | cont => exact let ⟨t6, h6, S6, q6⟩ := hsp; fin S6 fun s7 J7 => ⟨_, _, J7, q6⟩
          | ret u => exact let ⟨v6, t6, h6, S6, r6, q6⟩ := hsp; fin S6 fun s7 J7 => ⟨_, _, _, J7, r6, q6⟩
    exact go hh w
  refine wpAny_Try_except (wpAny_mono start (fun f s1 hsp => ?_) fun er s1 he => he)
  cases f with
  | next => exact let ⟨t', h', J', q⟩ := hsp; wpAny_execs_nil ⟨t', h', J'.ofTry okI, q⟩
  | brk => exact let ⟨t', h', J', q⟩ := hsp; ⟨t', h', J'.ofTry okI, q⟩
  | cont => exact let ⟨t', h', J', q⟩ := hsp; ⟨t', h', J'.ofTry okI, q⟩
  | ret u => exact let ⟨v, t', h', J', r, q⟩ := hsp; ⟨v, t', h', J'.ofTry okI, r, q⟩
end
/-! ### the clauses over data -/
inductive Hc where
  | bare (mt : Nat → Option Bool) (g : Sf)
  | named (mt : Nat → Option Bool) (i : Nat) (g : Ex → Sf)
def OS.away (i : Nat) : OS → OS
  | .ok (.nx ρ) S => .ok (.nx (ρ.set i none)) S
  | .ok (.bk ρ) S => .ok (.bk (ρ.set i none)) S
  | .ok (.ct ρ) S => .ok (.ct (ρ.set i none)) S
  | .ok (.rt d) S => .ok (.rt d) S
  | _ => .bad
def OS.still : OS → OS
  | .ok fl S => .ok fl S
  | _ => .bad
def sHc : List Hc → Ex → Sf
  | [], x => fun ρ S => .exc x ρ S
  | .bare mt g :: r, x => fun ρ S => match mt x.cls with
    | some true => (g ρ S).still
    | some false => sHc r x ρ S
    | none => .bad
  | .named mt i g :: r, x => fun ρ S => match mt x.cls with
    | some true => if i < ρ.length then (g x (ρ.set i none) S).away i else .bad
    | some false => sHc r x ρ S
    | none => .bad
def sTryC (f : Sf) (l : List Hc) : Sf := fun ρ S => match f ρ S with
  | .exc x ρ' S' => sHc l x ρ' S'
  | .ok fl S' => .ok fl S'
  | .bad => .bad
/-- a suite's reading where slot i holds the error at a -/
def tX (G : Gx) (i : Nat) (a : Addr) (cls : Value) (dd : Option Addr) (g : Ex → Sf) : TS := fun D σ H => ∃ x ρ B φ S, Wd G H B φ S ∧ EnvR G B φ σ ρ ∧ σ[i]? = some (some (.ref a)) ∧ XRep G B x cls dd ∧ WPS G noW D H B φ (g x ρ S)
def xD (G : Gx) (i : Nat) (a : Addr) (cls : Value) (dd : Option Addr) (f : Ex → Ef) : TE := fun σ H Q => ∃ x ρ B φ S, Wd G H B φ S ∧ EnvR G B φ σ ρ ∧ σ[i]? = some (some (.ref a)) ∧ XRep G B x cls dd ∧
  WP G noW σ H B φ (f x ρ S) fun d H' B' φ' _ => ∀ v, RepV G B' φ' d v → Q v H'
def xT (G : Gx) (i : Nat) (a : Addr) (cls : Value) (dd : Option Addr) (f : Ex → Tf) : TT := fun σ H Q => ∃ x ρ B φ S, Wd G H B φ S ∧ EnvR G B φ σ ρ ∧ σ[i]? = some (some (.ref a)) ∧ XRep G B x cls dd ∧
  WP G noW σ H B φ (f x ρ S) fun b H' _ _ _ => Q b H'
inductive HcD (X : Cx) (G : Gx) : List ExceptHandler → List Hc → Prop
  | nil : HcD X G [] []
  | bare {x : Str} {c : Value} {b : Stmt} {su : List Stmt} {q q' : Pos} {hs : List ExceptHandler} {l : List Hc} {mt : Nat → Option Bool} {g : Sf} (hc : Names X x c) (hm : ∀ m b, mt m = some b → PySem.W.exmOne X.K (.ref (G.xc m)) c = some b)
      (k : ∀ (a : Addr) (pn : List (Addr × Obj)), PSs (X.suite a pn) (b :: su) (tS G noW g)) (r : HcD X G hs l) :
      HcD X G (.ExceptHandler (some (.Name x q)) none (b :: su) q' :: hs) (.bare mt g :: l)
  | named {x n : Str} {i : Nat} {c : Value} {b : Stmt} {su : List Stmt} {q q' : Pos} {hs : List ExceptHandler} {l : List Hc} {mt : Nat → Option Bool} {g : Ex → Sf} (hc : Names X x c) (hN : X.N.Nodup) (hi : X.N[i]? = some n) (hk : X.env.kindOf n = some .local)
      (hm : ∀ m b, mt m = some b → PySem.W.exmOne X.K (.ref (G.xc m)) c = some b)
      (k : ∀ (a : Addr) (ob : Obj) (cls : Value) (d : Option Addr) (pn : List (Addr × Obj)), Zc cls d ob → (∃ vs, ob.data = .fields vs) → PSs (X.suite a ((a, ob) :: pn)) (b :: su) (tX G i a cls d g)) (r : HcD X G hs l) :
      HcD X G (.ExceptHandler (some (.Name x q)) (some n) (b :: su) q' :: hs) (.named mt i g :: l)
section
variable {X : Cx} {G : Gx} {W : WX} {H B : Hp} {φ : List Addr} {S : Sto} {σ : L2.St} {ρ : Nv}
theorem still_wps {Z : Ends} {o : OS} (h : WPS G W Z H B φ o.still) : WPS G noW Z H B φ o := by
  cases o with
  | ok fl S => exact h
  | exc x ρ S => exact h.elim
  | bad => exact h
theorem away_wps {Z : Ends} {o : OS} {i : Nat} (h : WPS G W Z H B φ (o.away i)) : WPS G noW (without i Z) H B φ o := by
  cases o with
  | ok fl S =>
    cases fl with
    | nx ρ => exact fun H' B' φ' x w σ en => h H' B' φ' x w _ (en.drop1 i none)
    | bk ρ => exact fun H' B' φ' x w σ en => h H' B' φ' x w _ (en.drop1 i none)
    | ct ρ => exact fun H' B' φ' x w σ en => h H' B' φ' x w _ (en.drop1 i none)
    | rt d => exact h
  | exc x ρ S => exact h.elim
  | bad => exact h
theorem hc_ok {hds : List ExceptHandler} {l : List Hc} (h : HcD X G hds l) : ∃ l', ClOk X hds l' ∧ ∀ (D : Ends) (x : Ex) (c : Value) (dd : Option Addr) (σ : L2.St) (H : Hp), (∃ ρ B φ S, Wd G H B φ S ∧ EnvR G B φ σ ρ ∧ XRep G B x c dd ∧ WPS G W D H B φ (sHc l x ρ S)) → askC X.K W D l' c dd σ H := by
  induction h with
  | nil => exact ⟨[], .nil, fun D x c dd σ H ⟨ρ, B, φ, S, w, en, xr, q⟩ => q H B φ c dd σ Xt.refl w xr en⟩
  | @bare x c b su q q' hs l mt g hc hm k r ih =>
    obtain ⟨l', k1, k2⟩ := ih
    refine ⟨(c, none, fun _ _ _ => tS G noW g) :: l', .bare hc (fun a ob cls d pn _ _ => k a _) k1, fun D x c' dd σ H ⟨ρ, B, φ, S, w, en, xr, q⟩ => ?_⟩
    unfold sHc at q
    cases hb : mt x.cls with
    | none => rw [hb] at q; exact q.elim
    | some t =>
      rw [hb] at q
      refine ⟨t, by rw [xr.1]; exact hm _ _ hb, fun e a _ => ?_, fun e => ?_⟩
      · subst e
        exact ⟨ρ, B, φ, S, w, en, still_wps q⟩
      · subst e
        exact k2 D x c' dd σ H ⟨ρ, B, φ, S, w, en, xr, q⟩
  | @named x n i c b su q q' hs l mt g hc hN hi hk hm k r ih =>
    obtain ⟨l', k1, k2⟩ := ih
    refine ⟨(c, some i, fun a cls d => tX G i a cls d g) :: l', .named hc hN hi hk k k1, fun D x c' dd σ H ⟨ρ, B, φ, S, w, en, xr, q⟩ => ?_⟩
    unfold sHc at q
    cases hb : mt x.cls with
    | none => rw [hb] at q; exact q.elim
    | some t =>
      rw [hb] at q
      refine ⟨t, by rw [xr.1]; exact hm _ _ hb, fun e a _ => ?_, fun e => ?_⟩
      · subst e
        dsimp only at q
        split at q
        · rename_i hl
          exact ⟨x, ρ.set i none, B, φ, S, w, en.drop1 i _, List.getElem?_set_self (by rw [← en.len]; exact hl), xr, away_wps q⟩
        · exact q.elim
      · subst e
        exact k2 D x c' dd σ H ⟨ρ, B, φ, S, w, en, xr, q⟩
theorem dp_tryC {f : Sf} {body : List Stmt} {h0 : ExceptHandler} {hds : List ExceptHandler} {l : List Hc} {pos : Pos} (hs : X.stack = X.env :: X.outer) (hf : X.env.frame = some X.env.locals) (tk : Takes X W)
    (hb : ∀ (W' : WX) (pn : List (Addr × Obj)) (xe : Value → Shared → Prop), Takes (X.tr pn xe) W' → PassesOwn (model X.prog X.w) X.A X.env xe → PSs (X.tr pn xe) body (tS G W' f))
    (hh : HcD X G (h0 :: hds) l) : PS X (.Try body (h0 :: hds) [] [] pos) (tS G W (sTryC f l)) := by
  obtain ⟨l', k1, k2⟩ := hc_ok (W := W) hh
  refine wkS (try_rule hs hf tk (tb := fun W' => tS G W' f) hb k1) fun D σ H ⟨ρ, B, φ, S, w, en, q⟩ => ⟨ρ, B, φ, S, w, en, ?_⟩
  unfold sTryC at q
  cases e : f ρ S with
  | bad => rw [e] at q; exact q
  | ok fl S' => rw [e] at q; exact q
  | exc x ρ' S' =>
    rw [e] at q
    dsimp only at q
    exact fun H' B' φ' c dd σ' x1 w1 xr en1 => k2 D x c dd σ' H' ⟨ρ', B', φ', S', w1, en1, xr, WPS.rebase x1 q⟩
end
/-! ### what a suite does with its error -/
section
variable {X : Cx} {G : Gx} {a : Addr} {ob : Obj} {cls : Value} {dd : Option Addr} {pn : List (Addr × Obj)} {i : Nat} {e e2 : Expr} {f g : Ex → Ef} {c : Ex → Tf} {pos p p2 : Pos} {n : Str}
theorem dpx_set {j : Nat} {y : Str} (hN : X.N.Nodup) (hj : X.N[j]? = some y) (hy : Loc X.env.scope y) (he : PE (X.suite a ((a, ob) :: pn)) e (xD G i a cls dd f)) (hs : swapsWith e (some (.Name y p)) pos.line X.env = pure false := by rfl)
    (hf : X.fn y = true ∨ X.env.scope.names.lookup y = some .local := by first | exact .inl rfl | exact .inr rfl | assumption) : PS (X.suite a ((a, ob) :: pn)) (.Assign [.Name y p] e pos) (tX G i a cls dd fun x => sSet j (f x)) :=
  wkS (ps_set (X := X.suite a ((a, ob) :: pn)) hN hj hy he hs hf) fun D σ H ⟨x, ρ, B, φ, S, w, en, hx, xr, h⟩ => ⟨x, ρ, B, φ, S, w, en, hx, xr, (WPS.fst en h).mono fun d H1 B1 φ1 S1 x1 w1 q1 v r1 => WPS.here w1 q1 _ ((en.mono x1.b x1.p).set j r1)⟩
theorem dpx_one {st : Stmt} {s : Ex → Sf} (h : PS X st (tX G i a cls dd s)) : PSs X [st] (tX G i a cls dd s) := pss_one h
theorem xe_str {z : Str} {j} : PE X (.Constant (.str z) j pos) (xD G i a cls dd fun _ => dC (.str z)) := wkE pe_str fun σ H Q ⟨x, ρ, B, φ, S, w, en, hx, xr, h⟩ => h H B φ Xt.refl w _ (rep_str.mpr rfl)
theorem xe_if {cc : Expr} (hc : PT X cc (xT G i a cls dd c)) (h1 : PE X e (xD G i a cls dd f)) (h2 : PE X e2 (xD G i a cls dd g)) : PE X (.IfExp cc e e2 pos) (xD G i a cls dd fun x => dIf (c x) (f x) (g x)) := by
  refine wkE (pe_ifExp hc h1 h2) fun σ H Q ⟨x, ρ, B, φ, S, w, en, hx, xr, h⟩ => ⟨x, ρ, B, φ, S, w, en, hx, xr, (WP.fst h).mono fun t H1 B1 φ1 S1 x1 w1 q1 => ?_⟩
  cases t with
  | true => exact ⟨x, ρ, B1, φ1, S1, w1, en.mono x1.b x1.p, hx, xr.mono x1.b, q1⟩
  | false => exact ⟨x, ρ, B1, φ1, S1, w1, en.mono x1.b x1.p, hx, xr.mono x1.b, q1⟩
/-- e.f: the k-th field of class j -/
def xFld (j k : Nat) : Ex → Ef := fun x ρ S => if x.cls = j then match x.args[k]? with
  | some d => .ok (.p d) S
  | none => .bad else .bad
theorem zip_at {f : Str} : ∀ {ns : List Str} {vs : List V} {k : Nat} {v : V}, ns.Nodup → ns[k]? = some f → vs[k]? = some v → (ns.zip vs).lookup f = some v
  | [], _, k, _, _, h, _ => by simp at h
  | m :: ns, [], k, v, _, _, h => by simp at h
  | m :: ns, u :: vs, 0, v, nd, h, h2 => by
    simp at h h2
    subst h h2
    simp [List.lookup]
  | m :: ns, u :: vs, k + 1, v, nd, h, h2 => by
    have h' : ns[k]? = some f := by simpa using h
    have ne : (f == m) = false := beq_eq_false_iff_ne.mpr fun z => (List.nodup_cons.mp nd).1 (z ▸ List.mem_of_getElem? h')
    rw [List.zip_cons_cons]
    unfold List.lookup
    rw [ne]
    exact zip_at (List.nodup_cons.mp nd).2 h' (by simpa using h2)
theorem xe_fld {f : Str} {j k : Nat} (T : XfC X.K (G.xc j)) (hno : PySem.W.findIn X.K (.ref (G.xc j)) f = some none) (nd : (G.xf j).Nodup) (hk : (G.xf j)[k]? = some f) (hz : Zc cls dd ob) (hf : ∃ vs, ob.data = .fields vs) (hN : X.N[i]? = some n)
    (hv : Vis X.env.scope n := by first | exact Or.inl rfl | exact Or.inr (Or.inl rfl) | exact Or.inr (Or.inr rfl)) (hd : (n == ("__debug__" : Str)) = false := by decide) (hcd : (n == ("__classdict__" : Str)) = false := by decide)
    (hb : attributeBase (.Name n p) f X.env (eval (.Name n p) X.env) = eval (.Name n p) X.env := by rfl) :
    PE (X.suite a ((a, ob) :: pn)) (.Attribute (.Name n p) f pos) (xD G i a cls dd (xFld j k)) := by
  refine ⟨fun pins s σ H Q I ⟨x, ρ, B, φ, S, w, en, hx, xr, h⟩ => ?_⟩
  unfold xFld at h
  split at h
  · rename_i hj
    subst hj
    split at h
    · rename_i d ha
      obtain ⟨e1, e2⟩ := xr
      cases hl : x.args with
      | nil => rw [hl] at ha; simp at ha
      | cons d0 dr =>
        rw [hl] at e2
        obtain ⟨da, vs, rfl, hd1, r, hlen⟩ := e2
        rw [hl] at ha
        obtain ⟨v, hv1, rv⟩ := r.get ha
        have base := pe_xf (X := X) (a := a) (C := G.xc x.cls) (oe := ob) (pn := pn) (pos := pos) T hno hz hf (pe_var (X := X.suite a ((a, ob) :: pn)) (pos := p) hN hv hd hcd) hb
        refine base.run pins s σ H Q I ?_
        exact ⟨_, hx, rfl, e1, da, _, v, rfl, w.sub _ _ hd1, zip_at nd hk hv1, h H B φ Xt.refl w v rv⟩
    · exact h.elim
  · exact h.elim
end
/-! isinstance(e, C) -/
section
variable {prog : Program} {w : World} {A : Around} {E : Value → Shared → Prop} {s : Shared} {K : PySem.W.Frag} {x D : Addr} {ox : Obj} {od : Option Obj}
theorem exc_class {Q : Option Value → Shared → Prop} (T : ExcC K D) (Y : K.In s.heap) (I : PySem.W.InstAt s.heap x ox D od) (h : Q (some (.ref D)) { s with toks := s.toks + 1 }) :
    wpAny (model prog w) A (getAttr? (.ref x) "__class__") Q E s := by
  have hf : PySem.W.findObj K D od "__class__" = some (.bind (.builtin "getset_descriptor.__get__") (.builtin "object.__class__")) := by
    obtain ⟨cd, hc, _⟩ := PySem.W.any_some T.hd
    unfold PySem.W.findObj
    rw [hc, Option.bind_some, T.ha, Option.bind_some]
    simp [T.hn, T.ht]
  obtain ⟨hp, g, d, t, os⟩ := s
  have L0 := I.type (M := model prog w)
  have L1 := PySem.W.looks_findIn (M := model prog w) Y T.hg
  have L2 := PySem.W.looks_findIn (M := model prog w) Y T.hk
  have L3 := PySem.W.looks_find (M := model prog w) Y I hf
  have sub : PySem.W.Looks (model prog w) hp (isInstance (.ref x) (.type "BaseException")) true := L0.andThen (PySem.W.looks_subIn Y T.hs)
  have z0 : (false && onTheHeap (Value.builtin "BaseException.__getattribute__")) = false := rfl
  have z2 : (Value.builtin "BaseException.__getattribute__" == Value.builtin "object.__getattribute__") = false := by decide +kernel
  have z1 : (onTheHeap (Value.ref D) && Value.builtin "BaseException.__getattribute__" == Value.builtin "object.__getattribute__") = false := by rw [z2]; rfl
  unfold getAttr? getAttrBy? getAttrBy
  refine wpAny_bind (wpAny_mkText (wpAny_bind (wpAny_attempt (wpAny_holding (wpAny_bind (L0.at (wpAny_bind (L1.at ?_))))))))
  show wpAny _ _ (if (onTheHeap (Value.ref D) && Value.builtin "BaseException.__getattribute__" == Value.builtin "object.__getattribute__") = true then _ else _) _ _ _
  rw [z1, if_neg Bool.false_ne_true]
  unfold getAttrByItsOwn hookBefore
  refine wpAny_bind ?_
  rw [if_pos (by rfl : onTheHeap (Value.ref D) = true)]
  refine L2.at (wpAny_bind (wpAny_attempt (wpAny_holding ?_)))
  unfold callGetattribute
  rw [z0, if_neg Bool.false_ne_true]
  unfold boundAndCalled
  rw [PySem.F.excAttr_ValueError.ga.bind (.ref x)]
  refine wpAny_bind (wpAny_pure ?_)
  show wpAny _ _ (call (.builtin "BaseException.__getattribute__") [.ref x, .str "__class__" t]) _ _ _
  refine wpAny_call (codeAny_call_builtin PySem.F.excAttr_ValueError.ga.plain PySem.F.entry_bexc_ga ?_)
  refine @PySem.W.check_slot (model prog w) _ _ ⟨hp, g, d, t + 1, os⟩ "BaseException.__getattribute__" "BaseException" "__getattribute__" (.ref x) [.str "__class__" t] [] _ (by decide +kernel) (by decide +kernel) sub (PySem.F.args_bexc_ga (.ref x) (.str "__class__" t)) ?_
  unfold Builtin.«object.__getattribute__»
  refine wpAny_bind (wpAny_of_eq (a := ((Value.ref x : Value), [Value.str "__class__" t])) (by first | rfl | (simp only [slotArgs]; rfl)) (wpAny_bind (wpAny_pure (wpAny_bind (L0.at (wpAny_bind (L3.at ?_)))))))
  show wpAny _ _ (holding [Value.builtin "object.__class__"] (call (.builtin "getset_descriptor.__get__") [.builtin "object.__class__", .ref x, .ref D]) >>= ret) _ _ _
  refine wpAny_bind (wpAny_holding (wpAny_call (PySem.W.class_get (s := ⟨hp, g, d, t + 1, os⟩) (ox := ox) (od := od) Y I T.hm (wpAny_pure ?_))))
  show wpAny _ _ (handedOut (.ref D)) _ _ _
  rw [PySem.W.handedOut_of (v := .ref D) rfl]
  first
    | exact wpAny_pure (wpAny_pure h)
    | exact wpAny_pure h
    | exact wpAny_pure (wpAny_bind (wpAny_pure (wpAny_pure h)))
theorem exc_kit (T : ExcC K D) : PySem.W.KitX K (.ref x) (.ref D) (fun h => PySem.W.InstAt h x ox D od) := by
  obtain ⟨cdD, hcD, _⟩ := PySem.W.any_some T.hd
  unfold PySem.W.clsIn at hcD
  split at hcD
  · rename_i c' d' cd' sl' ho
    refine ⟨fun _ _ _ I => I.type, fun _ _ Y _ A' Q' E' s' k q => ?_, fun h tp dd its n sl Y htp => Bool.eq_false_iff.mpr fun q => ?_, fun Y I k => exc_class T Y I k⟩
    · unfold isType loadHead
      exact wpAny_bind (wpAny_loadPart (k _ _ (Y _ _ ho)) (wpAny_pure q))
    · have e : D = tp := Value.ref.inj (beq_iff_eq.mp q)
      subst e
      have z := (Y _ _ ho).symm.trans htp
      cases z
  · cases hcD
end
section
variable {X : Cx} {G : Gx} {a : Addr} {ob : Obj} {cls : Value} {dd : Option Addr} {pn : List (Addr × Obj)} {i : Nat} {e e2 : Expr} {f g : Ex → Ef} {c : Ex → Tf} {pos p p2 p3 : Pos} {n m : Str}
/-- isinstance(e, C) by the error's class -/
def xIs (f : Nat → Option Bool) : Ex → Tf := fun x _ S => match f x.cls with
  | some b => .ok b S
  | none => .bad
theorem xt_is {C : Addr} {f : Nat → Option Bool} (hF : ∀ j b, f j = some b → ExcC X.K (G.xc j) ∧ PySem.W.kitOne X.K (.ref (G.xc j)) (.ref C) = some b) (hz : Zc cls dd ob) (hf : ∃ vs, ob.data = .fields vs) (hN : X.N[i]? = some n)
    (hg : Gl X "isinstance") (hm : X.mg "isinstance" = none) (hgC : Gl X m) (hmC : X.mg m = some (.ref C))
    (hv : Vis X.env.scope n := by first | exact Or.inl rfl | exact Or.inr (Or.inl rfl) | exact Or.inr (Or.inr rfl)) (hd : (n == ("__debug__" : Str)) = false := by decide) (hcd : (n == ("__classdict__" : Str)) = false := by decide) (hdC : (m == ("__debug__" : Str)) = false := by decide)
    (s1 : starEach [.Name n p, .Name m p2] X.env = [(false, eval (.Name n p) X.env), (false, eval (.Name m p2) X.env)] := by rfl) (he : ∀ whole, isTrue (.Call (.Name "isinstance" p3) [.Name n p, .Name m p2] [] pos) X.env whole = (do let v ← whole; standAt (Expr.Call (.Name "isinstance" p3) [.Name n p, .Name m p2] [] pos).pos; holding [v] (truthy v)) := by intro _; rfl) :
    PT (X.suite a ((a, ob) :: pn)) (.Call (.Name "isinstance" p3) [.Name n p, .Name m p2] [] pos) (xT G i a cls dd (xIs f)) := by
  refine ⟨fun pins s σ H Q I ⟨x, ρ, B, φ, S, w, en, hx, xr, h⟩ => ?_⟩
  unfold xIs at h
  cases hb : f x.cls with
  | none => rw [hb] at h; exact h.elim
  | some b =>
    rw [hb] at h
    obtain ⟨T, kit⟩ := hF _ _ hb
    obtain ⟨e1, e2⟩ := xr
    subst e1
    have hcall : CallR (X.suite a ((a, ob) :: pn)) (.builtin "isinstance") (fun xs H Q => xs = [.ref a, .ref C] ∧ (dd = none ∨ ∃ d fs, dd = some d ∧ H d = some (.xd fs)) ∧ Q (.bl b) H) := by
      intro pins s σ H xs us Q I r ⟨hxs, hdd, q⟩
      subst hxs
      cases r with
      | cons rx rr =>
        cases rr with
        | cons rt rr =>
          cases rr
          cases rx
          cases rt
          obtain ⟨hget, _⟩ := I.pin (a, ob) (List.mem_append.mpr (.inl List.mem_cons_self))
          obtain ⟨vs, hvs⟩ := hf
          have J : ∃ od, PySem.W.InstAt s.heap a ob (G.xc x.cls) od := by
            obtain ⟨oc, oda, odt, osl⟩ := ob
            obtain ⟨z1, z2⟩ := hz
            dsimp only at z1 z2 hvs
            subst z1 z2 hvs
            rcases hdd with rfl | ⟨d, fs, rfl, hd⟩
            · exact ⟨none, hget, rfl, rfl, trivial⟩
            · obtain ⟨mA, hns, hr⟩ : ObjOk X.prog X.w H s.heap d (.xd fs) := I.hok d _ hd
              obtain ⟨od, ho, hl⟩ := lookIn_ns hns
              exact ⟨some od, hget, rfl, rfl, ho⟩
          obtain ⟨od, J⟩ := J
          exact PySem.W.kia_one (exc_kit T) I.kIn J kit (fun z => nomatch z) fun tk => ⟨.bl b, H, I.kept (t' := tk) fun _ _ z => z, rfl, q⟩
    have base := pt_val (X := X.suite a ((a, ob) :: pn)) (pe_callB (pos := pos) (p := p3) hcall hg hm PyProof.Rows.boot_isinstance (pa_cons (pe_var (pos := p) hN hv hd hcd) (pa_cons (pe_glob (pos := p2) hgC hmC (v := .ref C) rfl hdC) pa_nil (by rfl)) s1)) he
    refine base.run pins s σ H Q I ?_
    refine ⟨_, hx, rfl, ?_, ⟨b, rfl, h H B φ Xt.refl w⟩⟩
    cases hl : x.args with
    | nil => rw [hl] at e2; exact .inl e2
    | cons d0 dr =>
      rw [hl] at e2
      obtain ⟨da, vs, q1, hd1, r, hlen⟩ := e2
      exact .inr ⟨da, _, q1, w.sub _ _ hd1⟩
end
def isOf (n : Nat) (b : Bool) : Nat → Option Bool := fun m => if m < n then some b else none
theorem is_of {n : Nat} {b : Bool} {P : Nat → Bool → Prop} (h : ∀ m, m < n → P m b) : ∀ m c, isOf n b m = some c → P m c := fun m c e => by
  unfold isOf at e
  split at e
  · rename_i hm
    cases e
    exact h m hm
  · cases e
theorem kit_own {K : PySem.W.Frag} {C : Addr} {t : Value} (h1 : PySem.W.isClsIn K C = true) (h2 : PySem.W.typeIn K (.ref C) = some (.type "type")) (h3 : PySem.W.subIn K t (.ref C) = some true) : PySem.W.kitOne K t (.ref C) = some true := by
  unfold PySem.W.kitOne
  split
  · rfl
  · unfold PySem.W.kitCls
    have e : ((PySem.W.clsIn K C).isSome && PySem.W.typeIn K (.ref C) == some (.type "type")) = true := by
      rw [h2, Bool.and_eq_true]
      exact ⟨h1, beq_self_eq_true _⟩
    dsimp only
    rw [if_pos e, h3]
end DL

set_option maxHeartbeats 4000000
namespace DL
open PySem L2
open PySem.Spec PyProof.Rows
/-! ### errors with fields -/
/-- an error's __init__: the given names are stored, one behind the other -/
def spX (K : PySem.W.Frag) (fs : List Str) : Sp := fun vs H Q _ => ∃ a C ws, vs = .ref a :: ws ∧ OexC K C ∧ ws.length = fs.length ∧ (∀ f ∈ fs, PySem.W.findIn K (.ref C) f = some none) ∧ H a = some (exo a C none) ∧
  ∀ d, H d = none → d ≠ a → Q .non (upd (upd H d (exd d (fs.zip ws).reverse)) a (exo a C (some d)))
section
variable {P : Program} {w : World} {K : PySem.W.Frag} {mg : Str → Option Value} {base : Heap}
theorem ok_x1 {x qual : Str} {st : Stmt} {f : Addr} {fd : FuncData} {s1 n1 : Str} (F : Fun K x qual st f fd) (Sc : FnScope [s1, n1] [s1, n1] (defScope st))
    (der : ∀ (cd : Value) (A : Around) (outer : List Env) (s : Shared) (H : Hp) (E : XK), PSs (cxF P w K mg base [s1, n1] qual (defScope st) f cd A outer s H E) (defBody st) (tOst K n1 (fun σ H Q => ∃ v, σ[0]? = some (some v) ∧ Q v H) (fun σ H Q => ∃ v, σ[1]? = some (some v) ∧ Q v H))) :
    FnOk P w K mg base (L2.CX P w) 1 f fd [s1, n1] (spX K [n1]) := by
  refine F.okX Sc (fun vs H Q E h => ?_) (fun cd A outer s H vs Q E hr h => ?_)
  · obtain ⟨a, C, ws, rfl, _, hl, _⟩ := h
    rw [List.length_cons, hl]; rfl
  · obtain ⟨a, C, ws, rfl, T, hl, hn, ha, q⟩ := h
    match ws, hl, q with
    | [y], _, q =>
      refine ⟨_, der cd A outer s H E, y, rfl, .ref a, rfl, a, C, rfl, T, hn n1 (by simp), .inl ⟨ha, fun d h1 h2 => q d h1 h2⟩⟩
theorem ok_x2 {x qual : Str} {st : Stmt} {f : Addr} {fd : FuncData} {s1 n1 n2 : Str} (F : Fun K x qual st f fd) (Sc : FnScope [s1, n1, n2] [s1, n1, n2] (defScope st))
    (der : ∀ (cd : Value) (A : Around) (outer : List Env) (s : Shared) (H : Hp) (E : XK), PSs (cxF P w K mg base [s1, n1, n2] qual (defScope st) f cd A outer s H E) (defBody st)
      (fun D σ H => tOst K n1 (fun σ H Q => ∃ v, σ[0]? = some (some v) ∧ Q v H) (fun σ H Q => ∃ v, σ[1]? = some (some v) ∧ Q v H) { D with nx := fun σ H => tOst K n2 (fun σ H Q => ∃ v, σ[0]? = some (some v) ∧ Q v H) (fun σ H Q => ∃ v, σ[2]? = some (some v) ∧ Q v H) D σ H } σ H)) :
    FnOk P w K mg base (L2.CX P w) 1 f fd [s1, n1, n2] (spX K [n1, n2]) := by
  refine F.okX Sc (fun vs H Q E h => ?_) (fun cd A outer s H vs Q E hr h => ?_)
  · obtain ⟨a, C, ws, rfl, _, hl, _⟩ := h
    rw [List.length_cons, hl]; rfl
  · obtain ⟨a, C, ws, rfl, T, hl, hn, ha, q⟩ := h
    match ws, hl, q with
    | [y, z], _, q =>
      refine ⟨_, der cd A outer s H E, y, rfl, .ref a, rfl, a, C, rfl, T, hn n1 (by simp), .inl ⟨ha, fun d h1 h2 => ?_⟩⟩
      refine ⟨z, rfl, .ref a, rfl, a, C, rfl, T, hn n2 (by simp), .inr ⟨d, [(n1, y)], upd_same, by rw [upd_ne h2, upd_same], by show 1 ≤ 900; omega, ?_⟩⟩
      have e : upd (upd (upd H d (exd d [(n1, y)])) a (exo a C (some d))) d (exd d [(n2, z), (n1, y)]) = upd (upd H d (exd d [(n2, z), (n1, y)])) a (exo a C (some d)) := by
        funext b
        by_cases hb : b = d
        · subst hb
          rw [upd_same, upd_ne h2, upd_same]
        · rw [upd_ne hb]
          by_cases hb2 : b = a
          · subst hb2; rw [upd_same, upd_same]
          · rw [upd_ne hb2, upd_ne hb2, upd_ne hb, upd_ne hb]
      rw [e]
      exact q d h1 h2
end
/-- raise C(..) -/
def sRaiseA (j n : Nat) (af : Af) : Sf := fun ρ S => (af ρ S).toS ρ fun xs S' => match allP xs with
  | some ds => if ds.length = n then .exc ⟨j, ds.reverse⟩ ρ S' else .bad
  | none => .bad
theorem zip_rev {α β : Type} : ∀ {l : List α} {m : List β}, l.length = m.length → (l.zip m).reverse = l.reverse.zip m.reverse
  | [], [], _ => rfl
  | x :: l, y :: m, h => by
    have h' : l.length = m.length := by simpa using h
    rw [List.zip_cons_cons, List.reverse_cons, List.reverse_cons, List.reverse_cons, zip_rev h', List.zip_append (by rw [List.length_reverse, List.length_reverse, h'])]
    rfl
section
variable {X : Cx} {G : Gx} {W : WX} {k n j : Nat} {f fI : Addr} {fd : FuncData} {ps fs : List Str} {x : Str} {p q pos : Pos} {e : Expr} {es : List Expr} {af : Af}
theorem dp_raiseA (T : OexC X.K (G.xc j)) (iC : PySem.W.findIn X.K (.ref (G.xc j)) "__init__" = some (some (.ref fI))) (tI : PySem.W.typeIn X.K (.ref fI) = some (.type "function")) (F : FnOk X.prog X.w X.K X.mg X.base (L2.CX X.prog X.w) k fI fd ps (spX X.K fs)) (hr : Room (k + 1) X.A)
    (hb : Binds X.K fd ps []) (hno : ∀ f ∈ fs, PySem.W.findIn X.K (.ref (G.xc j)) f = some none) (hx : G.xf j = fs.reverse) (hn : fs.length = n) (h0 : 0 < n) (h1 : n ≤ 1000) (hK : X.K = G.K) (tk : Takes X W) (hc : X.calm = true) (hg : Gl X x) (hm : X.mg x = some (.ref (G.xc j))) (ha : PA X (e :: es) (tA G W af))
    (hdb : (x == ("__debug__" : Str)) = false := by decide) (he : starEach (e :: es) X.env = (false, eval e X.env) :: starEach es X.env := by rfl) (hpl : (backTo pos (starEach es X.env)).any (·.1) = false := by rfl) :
    PS X (.Raise (some (.Call (.Name x p) (e :: es) [] pos)) none q) (tS G W (sRaiseA j n af)) := by
  refine wkS (ps_raise hc tk (pmk_oex T iC tI F hr hb (ds := []) (dvs := []) .nil passL hg hm ha hdb he hpl)) fun D σ H ⟨ρ, B, φ, S, w, en, h⟩ => ?_
  refine tA.run w en (WPS.fst en h) fun ds vs H1 B1 φ1 S1 x1 w1 en1 r1 q1 => ?_
  split at q1
  · rename_i es0 hd
    split at q1
    · rename_i hl
      have rr := allP_rep hd r1
      have lv : vs.length = n := by rw [← rr.length]; exact hl
      refine ⟨by omega, fun a na => ?_⟩
      refine ⟨a, G.xc j, vs, by rw [List.append_nil], T, by rw [lv, hn], hno, upd_same, fun d nd hda => ⟨rfl, d, (fs.zip vs).reverse, upd_same, by rw [upd_ne hda, upd_same], by rw [upd_ne hda] at nd; exact nd, ?_⟩⟩
      have nd1 : H1 d = none := by rw [upd_ne hda] at nd; exact nd
      have e1 : upd (del (upd (upd (upd H1 a (exo a (G.xc j) none)) d (exd d (fs.zip vs).reverse)) a (exo a (G.xc j) (some d))) a) d (.xd (fs.zip vs).reverse) = upd H1 d (.xd (fs.zip vs).reverse) := by
        funext b
        by_cases hb1 : b = d
        · subst hb1; rw [upd_same, upd_same]
        · rw [upd_ne hb1, upd_ne hb1]
          by_cases hb2 : b = a
          · subst hb2; rw [del_same, na]
          · rw [del_ne hb2, upd_ne hb2, upd_ne hb1, upd_ne hb2]
      rw [e1]
      refine q1 _ _ φ1 _ (some d) σ (Xt.alloc w1 nd1) (w1.alloc nd1) ⟨rfl, ?_⟩ (en1.mono (Xt.alloc w1 nd1).b (List.prefix_refl _))
      have rv : Reps G (upd B1 d (.xd (fs.zip vs).reverse)) es0.reverse vs.reverse := Reps.mono (same_upd' (w1.bfree nd1)) _ rr.reverse
      have hne : es0.reverse ≠ [] := fun z => by
        have : es0.reverse.length = 0 := by rw [z]; rfl
        rw [List.length_reverse] at this
        omega
      cases hq : es0.reverse with
      | nil => exact absurd hq hne
      | cons d0 dr =>
        rw [hq] at rv
        refine ⟨d, vs.reverse, rfl, ?_, rv, ?_⟩
        · rw [upd_same, hx, zip_rev (by rw [hn, lv])]
        · rw [← hq, List.length_reverse, hl, hx, List.length_reverse, hn]
    · exact q1.elim
  · exact q1.elim
/-! ### a class of rules whose __init__ may raise -/
def tMakeR (C : Addr) (sp : Sp) (E : L2.St → XK) (t : TA) : TE := fun σ H Q => t σ H fun vs H1 => ∀ x dx, H1 x = none → H1 dx = none → dx ≠ x → sp (.ref x :: vs) (upd (upd H1 dx (.own x)) x (.ins C dx [])) (fun v H2 => v = .non ∧ Q (.ref x) H2) (E σ)
theorem make_run {C : Addr} {sp : Sp} {E : XK} {pins : List (Addr × Obj)} {σ : L2.St} {H1 : Hp} {s1 : Shared} {Q : VK} {us : List Value} {vs : List V} (M : Mk X.K C f) (F : FnOk X.prog X.w X.K X.mg X.base (L2.CX X.prog X.w) k f fd ps sp) (hr : Room (k + 1) X.A) (hb : Binds X.K fd ps [])
    (hx : PassesAt (L2.CX X.prog X.w) X σ E) (I1 : Inv X pins σ H1 s1) (r : Vals vs us) (q : ∀ x dx, H1 x = none → H1 dx = none → dx ≠ x → sp (.ref x :: vs) (upd (upd H1 dx (.own x)) x (.ins C dx [])) (fun v H2 => v = .non ∧ Q (.ref x) H2) E) :
    wpAny (model X.prog X.w) X.A (call (.ref C) us) (EP X pins σ Q) X.xe s1 := by
  have hq := q (s1.heap.objs.size + 1) s1.heap.objs.size (I1.hok.fresh (Nat.le_succ _)) (I1.hok.fresh (Nat.le_refl _)) (Nat.ne_of_lt (Nat.lt_succ_self _))
  have I2 := Inv.made (C := C) I1
  have r2 : Vals (V.ref (s1.heap.objs.size + 1) :: vs) (Value.ref (s1.heap.objs.size + 1) :: us) := .cons rfl r
  have hl : (Value.ref (s1.heap.objs.size + 1) :: us).length = ps.length := by
    rw [← r2.length]
    exact F.len _ _ _ _ hq
  have bb := hb ((⟨(s1.heap.push _).push _, _, _, _, _⟩ : Shared)) (Value.ref (s1.heap.objs.size + 1) :: us) I2.kIn (by rw [List.append_nil]; exact hl)
  rw [List.append_nil] at bb
  refine wpAny_call (make_map (f := f) I1.kIn M.makes M.init (beq_iff_eq.mp M.fn) (codeAny_mono (F.run _ X.stack _ _ ⟨Value.ref (s1.heap.objs.size + 1) :: us, []⟩ (Value.ref (s1.heap.objs.size + 1) :: us) _ _ E (hr.make C us []) (I2.env0.make C us []) bb r2 hq) fun rr s' hq' => ?_))
  cases rr with
  | error er => exact hx pins _ _ er s' I2 hq'
  | ok fl =>
    cases fl with
    | next => exact hq'.elim
    | brk => exact hq'.elim
    | cont => exact hq'.elim
    | ret u =>
      obtain ⟨v, H', I3, rv, ev, q3⟩ := I2.after hq'
      subst ev
      exact ⟨rv, ⟨V.ref (s1.heap.objs.size + 1), H', I3, rfl, q3⟩⟩
theorem pe_makeR {C : Addr} {sp : Sp} {E : L2.St → XK} {t : TA} (M : Mk X.K C f) (F : FnOk X.prog X.w X.K X.mg X.base (L2.CX X.prog X.w) k f fd ps sp) (hr : Room (k + 1) X.A) (hg : Gl X x) (hm : X.mg x = some (.ref C)) (hb : Binds X.K fd ps []) (hx : ∀ σ, PassesAt (L2.CX X.prog X.w) X σ (E σ))
    (ha : PA X (e :: es) t) (hdb : (x == ("__debug__" : Str)) = false := by decide) (he : starEach (e :: es) X.env = (false, eval e X.env) :: starEach es X.env := by rfl) (hpl : (backTo pos (starEach es X.env)).any (·.1) = false := by rfl) :
    PE X (.Call (.Name x p) (e :: es) [] pos) (tMakeR C sp E t) := by
  refine ⟨fun pins s σ H Q I h => wpAny_Call_Name_kw (ld_glob I hg hm ?_ hdb)⟩
  refine PySem.W.callWith_K (h₀ := X.base) I.ok.mod.kin M.kp (thn (ha.run pos pins s σ H _ I h) fun us s1 ⟨vs, H1, I1, r, q⟩ => ⟨I1.kIn, ?_⟩) he hpl
  exact make_run M F hr hb (hx σ) I1 r q
def makeOf (m : List Dv → Sto → Out Dv) (ds : List D) (S1 : Sto) : Out Dv := match m (.hnd 0 :: ds.map Dv.p) [.raw 1, .dead] with
  | .ok (.p .non) [.slt 1 es, .dead] => .ok (.p (.rul es)) S1
  | .exc x _ => .exc x S1
  | _ => .bad
theorem make_core {m : List Dv → Sto → Out Dv} {H1 B1 : Hp} {φ1 : List Addr} {S0 : Sto} {ds : List D} {vs : List V} {σ : L2.St} {Q : VK} (w1 : Wd G H1 B1 φ1 S0) (rr : Reps G B1 ds vs) (l1 : ds.length = n)
    (q1 : WP G W σ H1 B1 φ1 (makeOf m ds S0) (fun d H' B' φ' _ => ∀ v, RepV G B' φ' d v → Q v H')) (xx dx : Addr) (hx : H1 xx = none) (hdx : H1 dx = none) (hne : dx ≠ xx) :
    spE G (n + 1) m (.ref xx :: vs) (upd (upd H1 dx (.own xx)) xx (.ins G.rc dx [])) (fun v H2 => v = .non ∧ Q (.ref xx) H2) (WE W σ) := by
  refine ⟨B1, [xx, dx], [.raw 1, .dead], .hnd 0 :: ds.map Dv.p, made_wd w1.sub hx hdx hne, ⟨_, _, rfl, ⟨xx, rfl, rfl⟩, reps_vs rr⟩, by rw [List.length_cons, List.length_map, l1], ?_⟩
  have far : ∀ {H2 B2 : Hp} {φ2 : List Addr}, Xt (upd (upd H1 dx (.own xx)) xx (.ins G.rc dx [])) B1 [xx, dx] H2 B2 φ2 → ∀ a o, H1 a = some o → B1 a = none → H2 a = some o ∧ B2 a = none := fun {H2 B2 φ2} x2 a o a1 a2 => by
    have n1 : a ≠ xx := ne_of_none a1 hx
    have n2 : a ≠ dx := ne_of_none a1 hdx
    obtain ⟨a3, a4, _⟩ := x2.out a o (by rw [upd_ne n1, upd_ne n2]; exact a1) a2 (by simp [n1, n2])
    exact ⟨a3, a4⟩
  unfold makeOf at q1
  cases qm : m (.hnd 0 :: ds.map Dv.p) [.raw 1, .dead] with
  | bad => rw [qm] at q1; exact q1.elim
  | exc e' S' =>
    rw [qm] at q1
    dsimp only at q1
    intro H2 B2 φ2 c dd x2 w2 xr
    have xc : Xt H1 B1 [] H2 B2 [] := ⟨x2.b, List.prefix_refl _, fun a o a1 a2 _ => ⟨(far x2 a o a1 a2).1, (far x2 a o a1 a2).2, by simp⟩⟩
    obtain ⟨w3, x3⟩ := w1.call xc w2.sub
    exact q1 H2 B2 φ1 c dd x3 w3 xr
  | ok d S' =>
    rw [qm] at q1
    split at q1
    · rename_i es0 heq
      cases heq
      intro H2 B2 φ2 x2 w2 v rv
      refine ⟨rep_non.mp rv, ?_⟩
      have hφ : φ2 = [xx, dx] := by
        obtain ⟨t, e1⟩ := x2.p
        have := w2.len
        rw [← e1] at this ⊢
        simp at this
        subst this
        rfl
      subst hφ
      obtain ⟨b1, dx', t, ys, e1, b2, _, h1, h2, s1, rs⟩ : CellR G H2 B2 [xx, dx] xx (.slt 1 es0) := w2.cell 0 xx _ rfl rfl
      cases e1
      have sb : Same B2 (upd (upd B2 dx (.xd [])) xx (SlX.SlO xx G.rc dx [some (.ref t)])) := fun b o q => by
        have n1 : b ≠ xx := fun z => by subst z; rw [b1] at q; cases q
        have n2 : b ≠ dx := fun z => by subst z; rw [b2] at q; cases q
        rw [upd_ne n1, upd_ne n2]; exact q
      have e2 : upd (upd B2 dx (.xd [])) xx (SlX.SlO xx G.rc dx [some (.ref t)]) dx = some (.xd []) := by rw [upd_ne hne, upd_same]
      have s2 : Same (upd (upd B2 dx (.xd [])) xx (SlX.SlO xx G.rc dx [some (.ref t)])) H2 := fun b o q => by
        by_cases n1 : b = xx
        · subst n1; rw [upd_same] at q; rw [← q]; exact h1
        · by_cases n2 : b = dx
          · subst n2; rw [e2] at q; rw [← q]; exact h2
          · rw [upd_ne n1, upd_ne n2] at q; exact w2.sub _ _ q
      have xc : Xt H1 B1 [] H2 (upd (upd B2 dx (.xd [])) xx (SlX.SlO xx G.rc dx [some (.ref t)])) [] := by
        refine ⟨x2.b.trans sb, List.prefix_refl _, fun a o a1 a2 _ => ?_⟩
        obtain ⟨a3, a4⟩ := far x2 a o a1 a2
        exact ⟨a3, by rw [upd_ne (ne_of_none a1 hx), upd_ne (ne_of_none a1 hdx)]; exact a4, by simp⟩
      obtain ⟨w3, x3⟩ := w1.call xc s2
      exact q1 H2 _ φ1 x3 w3 _ (rep_rul.mpr ⟨xx, dx, t, ys, rfl, upd_same, e2, sqT_mono sb s1, Reps.mono sb _ rs⟩)
    · rename_i z
      exact nomatch z
    · exact q1.elim
def dMakeX (m : List Dv → Sto → Out Dv) (a : Af) : Ef := fun ρ S => (a ρ S).bind fun xs S1 => match allP xs with
  | some ds => makeOf m ds S1
  | none => .bad
theorem de_makeX {fI : Addr} {m : List Dv → Sto → Out Dv} (tk : Takes X W) (M : Mk X.K G.rc fI) (F : FnOk X.prog X.w X.K X.mg X.base (L2.CX X.prog X.w) k fI fd ps (spE G (n + 1) m)) (hr : Room (k + 1) X.A) (hg : Gl X x) (hm : X.mg x = some (.ref G.rc)) (hb : Binds X.K fd ps [])
    (hn : ∀ ρ S xs S', af ρ S = .ok xs S' → xs.length = n)
    (ha : PA X (e :: es) (tA G W af)) (hdb : (x == ("__debug__" : Str)) = false := by decide) (he : starEach (e :: es) X.env = (false, eval e X.env) :: starEach es X.env := by rfl) (hpl : (backTo pos (starEach es X.env)).any (·.1) = false := by rfl) :
    PE X (.Call (.Name x p) (e :: es) [] pos) (tD G W (dMakeX m af)) := by
  refine wkE (pe_makeR M F hr hg hm hb (passAt tk) ha hdb he hpl) fun σ H Q ⟨ρ, B, φ, S, w, en, q⟩ => ?_
  have q' := WP.fst q
  cases qa : af ρ S with
  | bad => rw [qa] at q'; exact q'.elim
  | exc x0 S0 => exact ⟨ρ, B, φ, S, w, en, by rw [qa] at q' ⊢; exact q'⟩
  | ok xs0 S0 =>
    have l0 := hn ρ S xs0 S0 qa
    refine ⟨ρ, B, φ, S, w, en, ?_⟩
    rw [qa] at q' ⊢
    intro H1 B1 φ1 x1 w1 vs r1
    have q1 := q' H1 B1 φ1 x1 w1
    dsimp only at q1
    cases qp : allP xs0 with
    | none => rw [qp] at q1; exact q1.elim
    | some ds =>
      rw [qp] at q1
      have rr := allP_rep qp r1
      exact make_core w1 rr (by rw [rr.length, ← r1.length, l0]) q1
/-- C(*e) -/
def dMakeS (n : Nat) (m : List Dv → Sto → Out Dv) (f : Ef) : Ef := fun ρ S => (f ρ S).bind fun d S1 => match sqOf S1 d with
  | some ds => if ds.length = n then makeOf m ds S1 else .bad
  | none => .bad
theorem de_makeS {fI : Addr} {m : List Dv → Sto → Out Dv} {sp_ : Pos} {ef : Ef} (hK : X.K = G.K) (tk : Takes X W) (M : Mk X.K G.rc fI) (F : FnOk X.prog X.w X.K X.mg X.base (L2.CX X.prog X.w) k fI fd ps (spE G (n + 1) m)) (hr : Room (k + 1) X.A) (hg : Gl X x) (hm : X.mg x = some (.ref G.rc)) (hb : Binds X.K fd ps [])
    (he : PE X e (tD G W ef)) (hdb : (x == ("__debug__" : Str)) = false := by decide) (hst : starEach [.Starred e sp_] X.env = [(true, eval e X.env)] := by rfl) :
    PE X (.Call (.Name x p) [.Starred e sp_] [] pos) (tD G W (dMakeS n m ef)) := by
  refine ⟨fun pins s σ H Q I h => wpAny_Call_Name_kw (ld_glob I hg hm ?_ hdb)⟩
  obtain ⟨ρ, B, φ, S, w, en, h⟩ := h
  have start : tD G W ef σ H (fun y H1 => ∃ a xs, y = .ref a ∧ (SqL G.K H1 a xs ∨ SqT G.K H1 a xs) ∧ ∀ xx dx, H1 xx = none → H1 dx = none → dx ≠ xx → spE G (n + 1) m (.ref xx :: xs) (upd (upd H1 dx (.own xx)) xx (.ins G.rc dx [])) (fun v H2 => v = .non ∧ Q (.ref xx) H2) (WE W σ)) := by
    refine tD.run w en (WP.fst h) fun d v H1 B1 φ1 S1 x1 w1 en1 r1 q1 => ?_
    split at q1
    · rename_i ds hs
      split at q1
      · rename_i hl
        obtain ⟨a, xs, rfl, s1, rr⟩ := sq_at w1 r1 hs
        exact ⟨a, xs, rfl, s1, fun xx dx h1 h2 h3 => make_core w1 rr hl q1 xx dx h1 h2 h3⟩
      · exact q1.elim
    · exact q1.elim
  refine PySem.W.callWith_S (h₀ := X.base) I.ok.mod.kin M.kp (thn (he.run pins s σ H _ I start) fun v s1 ⟨y, H1, I1, ry, a, xs, ey, hxs, q⟩ => ?_) hst
  subst ey
  obtain rfl : v = Value.ref a := ry
  rw [← hK] at hxs
  refine StX.star_any I1 (hxs.elim .inr .inl) fun us s2 I2 rv => ⟨I2.kIn, ?_⟩
  exact make_run M F hr hb (passAt tk σ) I2 rv q
end
end DL

set_option maxHeartbeats 4000000
namespace DL
open PySem L2
open PySem.Spec PyProof.Rows
section
variable {X : Cx} {G : Gx} {W : WX} {k n j : Nat} {f g : Addr} {fd : FuncData} {ps : List Str} {x : Str} {p q pos : Pos} {e e2 : Expr} {es : List Expr} {af : Af} {ef eg : Ef} {H B : Hp} {φ : List Addr} {S : Sto} {σ : L2.St} {Q : VK}
theorem rul_slt {ds : List D} {v : V} (w : Wd G H B φ S) (r : RepV G B φ (.p (.rul ds)) v) : ∃ a dx t, v = .ref a ∧ SlX.Slt H a G.rc dx [some (.ref t)] := by
  obtain ⟨a, dx, t, xs, rfl, h1, h2, _, _⟩ := rep_rul.mp r
  exact ⟨a, dx, t, rfl, .inr ⟨w.sub _ _ h1, w.sub _ _ h2⟩⟩
theorem cx_no {H : Hp} {s : Shared} {e : Value} {s' : Shared} {l : List Env} (h : L2.CX X.prog X.w l H s E0 e s') : False := by
  obtain ⟨_, _, _, _, _, _, _, _, _, _, _, _, z⟩ := h
  exact z.elim
/-- a promise that lets nothing out, at arguments as they stand -/
theorem raw_P {m : List D → PO} (F : FnOk X.prog X.w X.K X.mg X.base (L2.CX X.prog X.w) k f fd ps (spP G n m)) (hb : Binds X.K fd ps []) : FnR X.prog X.w X.K X.mg X.base (L2.CX X.prog X.w) k f (spP G n m) := by
  have h := F.raw hb (dvs := []) .nil
  exact h.imp fun vs H Q E z => by rw [List.append_nil]; exact z
theorem raw_E {m : List Dv → Sto → Out Dv} (F : FnOk X.prog X.w X.K X.mg X.base (L2.CX X.prog X.w) k f fd ps (spE G n m)) (hb : Binds X.K fd ps []) : FnR X.prog X.w X.K X.mg X.base (L2.CX X.prog X.w) k f (spE G n m) := by
  have h := F.raw hb (dvs := []) .nil
  exact h.imp fun vs H Q E z => by rw [List.append_nil]; exact z
def PO.out (o : PO) (S : Sto) : Out Dv := match o with
  | .ok d => .ok (.p d) S
  | _ => .bad
theorem spP_ok {m : List D → PO} {ds : List D} {vs : List V} {E : XK} (hn : ds.length = n) (w : Wd G H B φ S) (r : Reps G B ds vs) (h : WP G W σ H B φ ((m ds).out S) fun d H' B' φ' _ => ∀ v, RepV G B' φ' d v → Q v H') : spP G n m vs H Q E := by
  refine ⟨B, ds, w.sub, r, hn, ?_⟩
  unfold PO.out at h
  cases q : m ds with
  | bad => rw [q] at h; exact h
  | exc x => rw [q] at h; exact h.elim
  | ok d =>
    rw [q] at h
    intro H' B' v xx s r'
    obtain ⟨w', x'⟩ := w.call xx s
    exact h H' B' φ x' w' v r'
/-! ### properties -/
structure PropR (K : PySem.W.Frag) (C : Addr) (a : Str) (p g : Addr) : Prop where
  at_ : PySem.W.findIn K (.ref C) a = some (some (.ref p))
  get : PySem.W.specialIn K (.ref p) "__get__" = some (some (.builtin "property.__get__"))
  tk : PySem.W.takesIn K (.ref p) = some true
  rc : ∃ rest, PySem.W.recIn K p "property" = some (.ref g :: rest)
def dProp (m : List D → PO) (f : Ef) : Ef := fun ρ S => (f ρ S).bind fun d S1 => match d with
  | .p (.rul ds) => (m [.rul ds]).out S1
  | _ => .bad
theorem de_prop {a : Str} {pa : Addr} {m : List D → PO} (c : SlX.SCls X.K G.rc) (T : PropR X.K G.rc a pa g) (F : FnOk X.prog X.w X.K X.mg X.base (L2.CX X.prog X.w) k g fd ps (spP G 1 m)) (hb : Binds X.K fd ps []) (hr : Room (k + 1) X.A) (he : PE X e (tD G W ef))
    (hba : attributeBase e a X.env (eval e X.env) = eval e X.env := by rfl) : PE X (.Attribute e a pos) (tD G W (dProp m ef)) := by
  refine wkE (SlX.pe_propSl he c T.at_ T.get T.tk T.rc (raw_P F hb) hr (E := E0) (fun _ _ _ _ => cx_no) hba) fun σ H Q ⟨ρ, B, φ, S, w, en, h⟩ => tD.run w en (WP.fst h) fun d v H1 B1 φ1 S1 x1 w1 en1 r1 q1 => ?_
  split at q1
  · rename_i ds
    obtain ⟨a, dx, t, rfl, hs⟩ := rul_slt w1 r1
    have rr : Rep G B1 (.rul ds) (.ref a) := r1
    exact ⟨a, dx, _, rfl, hs, spP_ok rfl w1 (Reps.cons rr Reps.nil) q1⟩
  · exact q1.elim
/-! ### methods that may raise -/
def tMethR (C : Addr) (sp : Sp) (E : L2.St → XK) (ta : TE) (t : TA) : TE := fun σ H Q => ta σ H fun x H1 => ∃ a dx vs, x = .ref a ∧ SlX.Slt H1 a C dx vs ∧ t σ H1 fun ws H2 => sp (x :: ws) H2 Q (E σ)
theorem pe_methR {CX : CXT} {C : Addr} {o : Expr} {m : Str} {sp : Sp} {E : L2.St → XK} {pl : Sem Bool} {ta : TE} {t : TA} {apos : Pos} (he : PE X o ta) (c : SlX.SCls X.K C) (hm : Meth X.K C m g) (F : FnR X.prog X.w X.K X.mg X.base CX k g sp) (hr : Room k X.A) (hx : ∀ σ, PassesAt CX X σ (E σ)) (ha : PA X (e :: es) t)
    (hst : starEach (e :: es) X.env = (false, eval e X.env) :: starEach es X.env := by rfl) (hpl : (backTo pos (starEach es X.env)).any (·.1) = false := by rfl)
    (ht : eval (.Call (.Attribute o m apos) (e :: es) [] pos) X.env = (do
      let ov ← eval o X.env
      standAt apos.atName
      let (f, first) ← holding [ov] (getMethod ov m pl)
      callWith pos f first (backTo pos (starEach (e :: es) X.env)) (backToKw pos (keywordEach [] X.env))) := by rfl) :
    PE X (.Call (.Attribute o m apos) (e :: es) [] pos) (tMethR C sp E ta t) := by
  refine ⟨fun pins s σ H Q I h => PySem.W.methodCall_KW (pl := pl) (thn (he.run pins s σ H _ I h) fun u s1 ⟨x, H1, I1, rx, a, dx, vs, ex, hsl, q⟩ => ?_) ht⟩
  subst ex
  obtain rfl : u = Value.ref a := rx
  refine SlX.getmethsl_ok I1 hsl c hm (PySem.W.callWith_K (first := [.ref a]) (h₀ := X.base) I.ok.mod.kin hm.kp (thn (ha.run pos pins s1 σ H1 _ I1 q) fun us s2 ⟨ws, H2, I2, r, q2⟩ => ⟨I2.kIn, ?_⟩) hst hpl)
  refine wpAny_call (codeAny_mono (F X.A X.stack s2 H2 (.ref a :: us) (.ref a :: ws) Q (E σ) hr I2.env0 (.cons rfl r) q2) fun rr s' hq => ?_)
  cases rr with
  | error er => exact hx σ pins H2 s2 er s' I2 hq
  | ok fl =>
    cases fl with
    | ret u => exact I2.after hq
    | next => exact hq.elim
    | brk => exact hq.elim
    | cont => exact hq.elim
def dMethR (m : List D → PO) (f : Ef) (a : Af) : Ef := fun ρ S => (f ρ S).bind fun d S1 => match d with
  | .p (.rul ds) => (a ρ S1).bind fun xs S2 => match allP xs with
    | some es => match m (.rul ds :: es) with
      | .ok d => .ok (.p d) S2
      | .exc x => .exc x S2
      | .bad => .bad
    | none => .bad
  | _ => .bad
theorem de_methR {o : Expr} {mn : Str} {m : List D → PO} {pl : Sem Bool} {apos : Pos} (c : SlX.SCls X.K G.rc) (tk : Takes X W) (hm : Meth X.K G.rc mn g) (F : FnOk X.prog X.w X.K X.mg X.base (L2.CX X.prog X.w) k g fd ps (spP G (n + 1) m)) (hb : Binds X.K fd ps []) (hr : Room k X.A)
    (hn : ∀ ρ S xs S', af ρ S = .ok xs S' → xs.length = n) (he : PE X o (tD G W ef)) (ha : PA X (e :: es) (tA G W af))
    (hst : starEach (e :: es) X.env = (false, eval e X.env) :: starEach es X.env := by rfl) (hpl : (backTo pos (starEach es X.env)).any (·.1) = false := by rfl)
    (ht : eval (.Call (.Attribute o mn apos) (e :: es) [] pos) X.env = (do
      let ov ← eval o X.env
      standAt apos.atName
      let (f, first) ← holding [ov] (getMethod ov mn pl)
      callWith pos f first (backTo pos (starEach (e :: es) X.env)) (backToKw pos (keywordEach [] X.env))) := by rfl) :
    PE X (.Call (.Attribute o mn apos) (e :: es) [] pos) (tD G W (dMethR m ef af)) := by
  refine wkE (pe_methR he c hm (raw_P F hb) hr (passAt tk) ha hst hpl ht) fun σ H Q ⟨ρ, B, φ, S, w, en, h⟩ => tD.run w en (WP.fst h) fun d v H1 B1 φ1 S1 x1 w1 en1 r1 q1 => ?_
  split at q1
  · rename_i ds
    obtain ⟨a, dx, t, rfl, hs⟩ := rul_slt w1 r1
    refine ⟨a, dx, _, rfl, hs, ?_⟩
    have rr : Rep G B1 (.rul ds) (.ref a) := r1
    cases qa : af ρ S1 with
    | bad => rw [qa] at q1; exact q1.elim
    | exc x0 S0 => exact ⟨ρ, B1, φ1, S1, w1, en1, by rw [qa] at q1 ⊢; exact q1⟩
    | ok xs0 S2 =>
      have l0 := hn ρ S1 xs0 S2 qa
      refine ⟨ρ, B1, φ1, S1, w1, en1, ?_⟩
      rw [qa] at q1 ⊢
      intro H2 B2 φ2 x2 w2 ws r2
      have q2 := WP.rebase x2 q1
      have q2 : WP G W σ H2 B2 φ2 (match allP xs0 with
        | some es => match m (.rul ds :: es) with
          | .ok d => .ok (.p d) S2
          | .exc x => .exc x S2
          | .bad => .bad
        | none => .bad : Out Dv) (fun d H' B' φ' _ => ∀ v, RepV G B' φ' d v → Q v H') := q2
      cases qp : allP xs0 with
      | none => rw [qp] at q2; exact q2.elim
      | some es0 =>
        rw [qp] at q2
        have rs := allP_rep qp r2
        have ll : es0.length = n := by rw [rs.length, ← r2.length, l0]
        have r3 : RepVs G B2 φ2 ((D.rul ds :: es0).map Dv.p) (.ref a :: ws) := reps_vs (Reps.cons (Rep.mono x2.b _ rr) rs)
        have aP : ∀ l : List D, allP (l.map Dv.p) = some l := fun l => by
          induction l with
          | nil => rfl
          | cons d l ih => rw [List.map_cons]; unfold allP; rw [ih]; rfl
        exact spP_of (by rw [List.length_cons, ll]) w2 r3 (aP _) q2
  · exact q1.elim
/-! ### isinstance(e, C), C the class of rules -/
def dIsR (ts : List String) (f : Ef) : Ef := fun ρ S => (f ρ S).bind fun d S1 => match d with
  | .p (.rul _) => .ok (.p (.bl true)) S1
  | d => match tyOf S1 d with
    | some t => if t ∈ ts then .ok (.p (.bl false)) S1 else .bad
    | none => .bad
theorem de_isR {ts : List String} {T : Str} {pT : Pos} (hK : X.K = G.K) (he : PE X e (tD G W ef)) (hg : Gl X "isinstance") (hm : X.mg "isinstance" = none) (hgT : Gl X T) (hmT : X.mg T = some (.ref G.rc)) (c : SlX.SCls X.K G.rc) (si : SlX.SIsi X.K G.rc) (hts : ∀ t ∈ ts, PySem.W.kitOne X.K (.type t) (.ref G.rc) = some false)
    (hdT : (T == ("__debug__" : Str)) = false := by decide)
    (h1 : starEach [e, .Name T pT] X.env = (false, eval e X.env) :: starEach [.Name T pT] X.env := by rfl) (h2 : starEach [.Name T pT] X.env = (false, eval (.Name T pT) X.env) :: starEach [] X.env := by rfl) (hpl : (backTo pos (starEach [.Name T pT] X.env)).any (·.1) = false := by rfl) :
    PE X (.Call (.Name "isinstance" p) [e, .Name T pT] [] pos) (tD G W (dIsR ts ef)) := by
  have both : CallR X (.builtin "isinstance") (fun xs H Q => rIsi X.K xs H Q ∨ SlX.rIsiSl X.K (.ref G.rc) xs H Q) := fun pins s σ H xs us Q I r h => h.elim (call_isi pins s σ H xs us Q I r) (SlX.call_isiSl (.ref G.rc) pins s σ H xs us Q I r)
  refine wkE (pe_callB both hg hm boot_isinstance (pa_cons he (pa_cons (pe_glob hgT hmT (v := .ref G.rc) rfl hdT) pa_nil h2) h1) (by decide) (by decide) h1 hpl) fun σ H Q ⟨ρ, B, φ, S, w, en, h⟩ => tD.run w en (WP.fst h) fun d v H1 B1 φ1 S1 x1 w1 en1 r1 q1 => ?_
  split at q1
  · obtain ⟨a, dx, t, rfl, hs⟩ := rul_slt w1 r1
    refine .inr ⟨a, G.rc, dx, _, .ref G.rc, true, rfl, rfl, fun w hw => hw, hs, c, si, ?_, q1 H1 B1 φ1 Xt.refl w1 _ (rep_bl.mpr rfl)⟩
    unfold PySem.W.kitOne
    rw [if_pos (beq_self_eq_true _)]
  · split at q1
    · rename_i t ht
      split at q1
      · rename_i hm
        exact .inl ⟨v, .ref G.rc, .type t, .ref G.rc, false, rfl, .own G.rc, hK ▸ tyOf_at w1 r1 ht, hts t hm, q1 H1 B1 φ1 Xt.refl w1 _ (rep_bl.mpr rfl)⟩
      · exact q1.elim
    · exact q1.elim
/-! ### == of rules -/
def noX (o : Out Dv) : Out Dv := match o with
  | .ok d S => .ok d S
  | _ => .bad
def oEqR (ts : List String) (m : List Dv → Sto → Out Dv) : Op2 := fun x y S => match x with
  | .p (.rul ds) => match y with
    | .p (.rul es) => noX (m [.p (.rul ds), .p (.rul es)] S)
    | y => match tyOf S y with
      | some t => if t ∈ ts then noX (m [.p (.rul ds), y] S) else .bad
      | none => .bad
  | _ => .bad
def rEqR (K : PySem.W.Frag) (C : Addr) (sp : Sp) : R2 := fun x y H Q => ∃ a dx vs, x = .ref a ∧ SlX.Slt H a C dx vs ∧ ((∃ b C' dy ws, y = .ref b ∧ SlX.Slt H b C' dy ws ∧ PySem.W.notFirst K C (.ref C') = true) ∨ ∃ tb, TyX K H y tb ∧ PySem.W.notFirst K C tb = true) ∧ sp [x, y] H Q E0
theorem op_eqR {C : Addr} {sp : Sp} {CX : CXT} (hs : PySem.W.findIn X.K (.ref C) "__eq__" = some (some (.ref g))) (hf : PySem.W.isFn X.K (.ref g) = true) (F : FnR X.prog X.w X.K X.mg X.base CX n g sp) (hr : Room n X.A) (hx : Passes CX X E0) : OpR X (compareOp .Eq) (rEqR X.K C sp) := by
  intro pins s σ H x y v u Q I rx ry h
  obtain ⟨a, dx, vs, rfl, ha, hy, q⟩ := h
  cases (show v = Value.ref a from rx)
  obtain ⟨sl, od, _, J, _⟩ := SlX.slt_inst I ha
  obtain ⟨m, hF⟩ := I.fr
  have go : ∀ {tb : Value}, PySem.W.Looks (model X.prog X.w) s.heap (typeOf u) tb → PySem.W.notFirst X.K C tb = true → wpAny (model X.prog X.w) X.A (compareOp .Eq (.ref a) u) (EP X pins σ Q) X.xe s := fun {tb} L hn => by
    show wpAny _ _ (richCompare .Eq (.ref a) u) _ _ _
    refine PySem.W.cmp_K (op := .Eq) (tb := tb) hr.units0 hF I.ok.mod.kin J L hn hs hf ?_
    refine wpAny_mono (wpAny_call (run_fnR (us := [.ref a, u]) (vs := [.ref a, y]) F hr hx I (.cons rfl (.cons ry .nil)) q)) (fun w s' z => ?_) fun _ _ x => x
    obtain ⟨z', H', I', rz, qz⟩ := z
    exact SlX.cmpback rz ⟨z', H', I', rz, qz⟩
  rcases hy with ⟨b, C', dy, ws, rfl, hb, hn⟩ | ⟨tb, ty, hn⟩
  · cases (show u = Value.ref b from ry)
    obtain ⟨sl', od', _, J', _⟩ := SlX.slt_inst I hb
    exact go J'.type hn
  · obtain ⟨P, Z, hp, _⟩ := kit_of I ry ty
    exact go (Z.ty _ _ I.kIn hp) hn
theorem spE_ok {m : List Dv → Sto → Out Dv} {ds : List Dv} {vs : List V} {E : XK} (hn : ds.length = n) (w : Wd G H B φ S) (r : RepVs G B φ ds vs) (h : WP G W σ H B φ (noX (m ds S)) fun d H' B' φ' _ => ∀ v, RepV G B' φ' d v → Q v H') : spE G n m vs H Q E := by
  refine ⟨B, φ, S, ds, w, r, hn, ?_⟩
  unfold noX at h
  cases q : m ds S with
  | bad => rw [q] at h; exact h
  | exc x S' => rw [q] at h; exact h.elim
  | ok d S' => rw [q] at h; exact fun H' B' φ' xx w' v r' => h H' B' φ' xx w' v r'
theorem oEqR_ok {ts : List String} {m : List Dv → Sto → Out Dv} (hts : ∀ t ∈ ts, PySem.W.notFirst G.K G.rc (.type t) = true) : Ok2 G W (rEqR G.K G.rc (spE G 2 m)) (oEqR ts m) := by
  intro H B φ S σ x y v u Q w r1 r2 h
  unfold oEqR at h
  split at h
  · rename_i ds
    obtain ⟨a, dx, t, rfl, hs⟩ := rul_slt w r1
    refine ⟨a, dx, _, rfl, hs, ?_⟩
    split at h
    · rename_i es
      obtain ⟨b, dy, t2, rfl, hs2⟩ := rul_slt w r2
      refine ⟨.inl ⟨b, G.rc, dy, _, rfl, hs2, ?_⟩, spE_ok rfl w (show RepVs G B φ [.p (.rul ds), .p (.rul es)] [.ref a, .ref b] from ⟨_, _, rfl, r1, _, _, rfl, r2, rfl⟩) h⟩
      unfold PySem.W.notFirst
      rw [beq_self_eq_true]; rfl
    · split at h
      · rename_i t ht
        split at h
        · rename_i hm
          exact ⟨.inr ⟨.type t, tyOf_at w r2 ht, hts t hm⟩, spE_ok rfl w (show RepVs G B φ [.p (.rul ds), _] [.ref a, u] from ⟨_, _, rfl, r1, _, _, rfl, r2, rfl⟩) h⟩
        · exact h.elim
      · exact h.elim
  · exact h.elim
/-! isinstance(e, T) of a built-in T where e may be a rule -/
def dIsX (T : String) (b : Bool) (f : Ef) : Ef := fun ρ S => (f ρ S).bind fun d S1 => match d with
  | .p (.rul _) => .ok (.p (.bl b)) S1
  | d => match tyOf S1 d with
    | some t => match kitB t T with
      | some b => .ok (.p (.bl b)) S1
      | none => .bad
    | none => .bad
theorem de_isX {T : Str} {Ts : String} {b : Bool} {pT : Pos} (hK : X.K = G.K) (he : PE X e (tD G W ef)) (hg : Gl X "isinstance") (hm : X.mg "isinstance" = none) (hgT : Gl X T) (hmT : X.mg T = none) (hvT : bootBuiltins T = some (.type Ts)) (c : SlX.SCls X.K G.rc) (si : SlX.SIsi X.K G.rc)
    (hb : PySem.W.kitOne X.K (.ref G.rc) (.type Ts) = some b) (hnT : T ≠ "__name__") (hdT : (T == ("__debug__" : Str)) = false)
    (h1 : starEach [e, .Name T pT] X.env = (false, eval e X.env) :: starEach [.Name T pT] X.env := by rfl) (h2 : starEach [.Name T pT] X.env = (false, eval (.Name T pT) X.env) :: starEach [] X.env := by rfl) (hpl : (backTo pos (starEach [.Name T pT] X.env)).any (·.1) = false := by rfl) :
    PE X (.Call (.Name "isinstance" p) [e, .Name T pT] [] pos) (tD G W (dIsX Ts b ef)) := by
  have both : CallR X (.builtin "isinstance") (fun xs H Q => rIsi X.K xs H Q ∨ SlX.rIsiSl X.K (.type Ts) xs H Q) := fun pins s σ H xs us Q I r h => h.elim (call_isi pins s σ H xs us Q I r) (SlX.call_isiSl (.type Ts) pins s σ H xs us Q I r)
  refine wkE (pe_callB both hg hm boot_isinstance (pa_cons he (pa_cons (pe_bltn hgT hmT hvT (v := .ty Ts) rfl hnT hdT) pa_nil h2) h1) (by decide) (by decide) h1 hpl) fun σ H Q ⟨ρ, B, φ, S, w, en, h⟩ => tD.run w en (WP.fst h) fun d v H1 B1 φ1 S1 x1 w1 en1 r1 q1 => ?_
  split at q1
  · obtain ⟨a, dx, t, rfl, hs⟩ := rul_slt w1 r1
    exact .inr ⟨a, G.rc, dx, _, .ty Ts, b, rfl, rfl, fun w hw => hw, hs, c, si, hb, q1 H1 B1 φ1 Xt.refl w1 _ (rep_bl.mpr rfl)⟩
  · split at q1
    · rename_i t ht
      split at q1
      · rename_i b' hb'
        exact .inl ⟨v, .ty Ts, .type t, .type Ts, b', rfl, .ty Ts, hK ▸ tyOf_at w1 r1 ht, kit_ty hb', q1 H1 B1 φ1 Xt.refl w1 _ (rep_bl.mpr rfl)⟩
      · exact q1.elim
    · exact q1.elim
end
structure XCl0 (K : PySem.W.Frag) (mg : Str → Option Value) (x : Str) (C : Addr) : Prop where
  g : mg x = some (.ref C)
  k : PySem.W.keepIn K (.ref C) = true
  b : PySem.W.subIn K (.ref C) (.type "BaseException") = some true
  t : PySem.W.typeIn K (.ref C) = some (.type "type")
theorem notFirst_of {K : PySem.W.Frag} {C : Addr} {t : Value} (h : PySem.W.subIn K t (.ref C) = some false) : PySem.W.notFirst K C t = true := by
  unfold PySem.W.notFirst
  rw [h, beq_self_eq_true, Bool.or_true]
theorem kit_no {K : PySem.W.Frag} {C : Addr} {t : Value} (h1 : PySem.W.isClsIn K C = true) (h2 : PySem.W.typeIn K (.ref C) = some (.type "type")) (hn : (t == .ref C) = false) (h3 : PySem.W.subIn K t (.ref C) = some false) : PySem.W.kitOne K t (.ref C) = some false := by
  unfold PySem.W.kitOne
  rw [hn, if_neg Bool.false_ne_true]
  unfold PySem.W.kitCls
  have e : ((PySem.W.clsIn K C).isSome && PySem.W.typeIn K (.ref C) == some (.type "type")) = true := by
    rw [h2, Bool.and_eq_true]
    exact ⟨h1, beq_self_eq_true _⟩
  dsimp only
  rw [if_pos e, h3]
theorem kit_noT {K : PySem.W.Frag} {t : Value} {T : String} (h1 : PySem.W.kitMeta T = true) (hn : (t == .type T) = false) (h3 : PySem.W.subIn K t (.type T) = some false) : PySem.W.kitOne K t (.type T) = some false := by
  unfold PySem.W.kitOne
  rw [hn, if_neg Bool.false_ne_true]
  unfold PySem.W.kitCls
  dsimp only
  rw [if_pos h1, h3]
end DL

set_option maxHeartbeats 4000000
namespace PySem
open Sem (wp)
open AutoSeq1 (wpAny_loadPart')
theorem dl_enum_tuple (t : Addr) (its : Array Value) (n : Nat) (dc : Option Addr) (sl : Array (Option Value)) :
    Meets (Builtin.«enumerate.__new__» ⟨[.type "enumerate", .ref t], []⟩) (fun _ R s => s.heap.get? t = some { cls := .type "tuple", dict := dc, data := .seq its n, slots := sl } ∧
      R (.ok (.ret (.ref (s.heap.push { cls := .type "tuple_iterator", data := .fields #[.ref t, .int 0 0] }).objs.size)))
        { s with heap := (s.heap.push { cls := .type "tuple_iterator", data := .fields #[.ref t, .int 0 0] }).push { cls := .type "enumerate", data := .fields #[.none, .bool false, .ref s.heap.objs.size, rawInt 0, .none, .none] } }) :=
  .of_wp fun prog w A R s h => by
    obtain ⟨hp, g, d, tk, os⟩ := s
    obtain ⟨hl, h⟩ := h
    have hsub := sub_enumerate
    have hT : Heap.IsTuple (Shared.heap ⟨hp, g, d, tk, os⟩) t its := ⟨_, hl, rfl, n, rfl⟩
    wp_walk using wpAny_loadPart' hl
    refine wpAny_stack_any fun st => wpAny_pure ?_
    split
    · rename_i c _ _ _ _ _
      cases (c == Value.type "enumerate")
      · wp_walk using wpAny_loadPart' hl, wpAny_pyIter_tuple hT
        exact ⟨_, rfl, h⟩
      · wp_walk using wpAny_loadPart' hl, wpAny_pyIter_tuple hT
        exact ⟨_, rfl, h⟩
    · wp_walk using wpAny_loadPart' hl, wpAny_pyIter_tuple hT
      exact ⟨_, rfl, h⟩
theorem dl_call_enumT {prog : Program} {w : World} {A : Around} {E : Value → Shared → Prop} {s : Shared} {t : Addr} {its : Array Value} {Q : Value → Shared → Prop} (hT : s.heap.IsTuple t its)
    (h : ∀ h', IsEnum h' (s.heap.objs.size + 1) s.heap.objs.size 0 .none → h'.IsTupleIter s.heap.objs.size t 0 → h'.objs.size = s.heap.objs.size + 2 → (∀ b o, s.heap.get? b = some o → h'.get? b = some o) → Q (.ref (s.heap.objs.size + 1)) { s with heap := h' }) :
    wpAny (model prog w) A (call (.type "enumerate") [.ref t]) Q E s := by
  obtain ⟨⟨c, dct, dt, sl⟩, hl, hc, n, hd⟩ := hT
  replace hc : c = .type "tuple" := hc
  replace hd : dt = .seq its n := hd
  subst hc hd
  refine callType_new F.called_enumerate (by decide) (F.typeCall_enumerate_1 _) (F.newCall_enumerate_1 _) (fun obj => F.args_object_init_2 obj _) F.entry_enumerate_new (dl_enum_tuple t its n dct sl) ⟨hl, ?_⟩
  have hz : (s.heap.push { cls := .type "tuple_iterator", data := .fields #[.ref t, .int 0 0] }).objs.size = s.heap.objs.size + 1 := Heap.size_push ..
  show _ ∧ _
  rw [hz]
  have he : IsEnum ((s.heap.push { cls := .type "tuple_iterator", data := .fields #[.ref t, .int 0 0] }).push { cls := .type "enumerate", data := .fields #[.none, .bool false, .ref s.heap.objs.size, rawInt 0, .none, .none] }) (s.heap.objs.size + 1) s.heap.objs.size 0 .none := by
    have z := Heap.get?_push_size (s.heap.push { cls := .type "tuple_iterator", data := .fields #[.ref t, .int 0 0] }) (o := { cls := .type "enumerate", data := .fields #[.none, .bool false, .ref s.heap.objs.size, rawInt 0, .none, .none] }) rfl
    rw [hz] at z; exact z
  exact ⟨⟨_, he, rfl⟩, h _ he ⟨_, Heap.get?_push_of_some _ (Heap.get?_push_size _ rfl), rfl, rfl⟩ (by rw [Heap.size_push, hz]) fun b o x => Heap.get?_push_of_some _ (Heap.get?_push_of_some _ x)⟩
end PySem
namespace DL
open PySem L2
open PySem.Spec PyProof.Rows
/-! ### enumerate over a tuple -/
def IteT (K : PySem.W.Frag) (a : Addr) : It :=
  ⟨fun i H => ∃ (xs : List V) (x : V), SqT K H a xs ∧ xs[i]? = some x, fun i H v H' => ∃ T x, v = .ref T ∧ H T = none ∧ H' = upd H T (.tup [.int (i : Nat), x]) ∧ ∀ xs, SqT K H a xs → xs[i]? = some x, fun i H => ∃ xs : List V, SqT K H a xs ∧ xs.length = i⟩
theorem turn_enumT {P : Program} {w : World} {K : PySem.W.Frag} {elts : List Expr} {kk : Nat} {tpos : Pos} (a e it : Addr) :
    Turn P w K (.Tuple elts kk tpos) (IteT K a) [e, it] e (fun i h => (∃ old, IsEnum h e it ((i : Nat) : Int) old) ∧ h.IsTupleIter it a i ∧ e ≠ it) where
  mem := by simp
  obj := fun i h st b hb => by
    obtain ⟨⟨old, he⟩, ⟨o, ho, hc, hd⟩, _⟩ := st
    rcases (by simpa using hb : b = e ∨ b = it) with z | z
    · rw [z]; exact ⟨_, he, fun v q => nomatch q⟩
    · rw [z]; exact ⟨o, ho, fun v q => by rw [hd] at q; cases q⟩
  keep := fun i h h' st k => let ⟨⟨old, he⟩, hi, hne⟩ := st; ⟨⟨old, k e (by simp) _ he⟩, hi.at fun o q => k it (by simp) o q, hne⟩
  item := by
    intro X hP hw hK hc i pins s σ H E I hf st hg
    subst hP hw hK
    obtain ⟨⟨old, he⟩, hit, hne⟩ := st
    obtain ⟨xs, x, hq, hx⟩ := hg
    obtain ⟨its, rv, p, hz⟩ := I.tuple hq
    have p : s.heap.IsTuple a its.toArray := p
    obtain ⟨u, hu, ru⟩ := rv.get hx
    have hel : e < s.heap.objs.size := Heap.lt_size he
    have hil : it < s.heap.objs.size := by obtain ⟨_, q, _⟩ := hit; exact Heap.lt_size q
    have nai : a ≠ it := fun z => by
      obtain ⟨o1, g1, c1, _⟩ := hit
      obtain ⟨o2, g2, c2, _⟩ := p
      rw [z, g1] at g2
      cases g2
      rw [c1] at c2
      exact absurd c2 (by simp)
    have nea : e ≠ a := fun z => by
      obtain ⟨o2, g2, c2, _⟩ := p
      have he' : s.heap.get? e = some _ := he
      rw [z, g2] at he'
      have z2 := Option.some.inj he'
      rw [z2] at c2
      exact absurd c2 (by simp)
    have hlt : i < its.toArray.size := by
      have := (List.getElem?_eq_some_iff.mp hu).1
      simpa using this
    refine wpAny_pyNext_enum_itemD (PySem.Draws.tuple (A := X.A.in1) (by first | exact I.ok.hd hc | (show X.A.handled = none; exact I.ok.hd hc)) it a nai its.toArray) he ⟨hit, p⟩ hlt hne (by simp [hne, nea]) fun y h' tk hy ho hst hT hsz hk => ?_
    have ey : y = u := by
      have hu' : its.toArray[i]? = some u := by simpa using hu
      have : its.toArray[i]? = some y := hy
      rw [hu'] at this
      exact (Option.some.inj this).symm
    subst ey
    refine ⟨_, rfl, wpAny_letOwnedTupleGo_enum (s := { s with heap := h', toks := tk + 1 }) ho fun h'' he' sb => ?_⟩
    have hT2 : h''.get? s.heap.objs.size = some { cls := .type "tuple", data := .seq #[.int i tk, y] } := (sb.2 _ (Nat.ne_of_gt hel)).trans hT
    have new : ObjOk X.prog X.w (upd H s.heap.objs.size (.tup [.int (i : Nat), x])) h'' s.heap.objs.size (.tup [.int (i : Nat), x]) :=
      ⟨by show 2 ≤ sizeLine; decide, [.int i tk, y], .cons ⟨_, rfl⟩ (.cons ru .nil), ⟨_, hT2, rfl, _, rfl⟩⟩
    have I1 : Inv X pins σ (upd H s.heap.objs.size (.tup [.int (i : Nat), x])) { s with heap := h'', toks := tk + 1 } :=
      I.turnedNew (ch := [e, it]) (fun b ob hb q => (sb.2 b (fun z => hb (by simp [z]))).trans (hk b ob (fun z => hb (by simp [z])) (fun z => hb (by simp [z])) q)) hf (Nat.le_refl _) new
    refine ⟨.ref s.heap.objs.size, _, I1, rfl, ⟨_, x, rfl, I.hok.fresh (Nat.le_refl _), rfl, fun ys hy => by rw [I.tuple_inj hy hq]; exact hx⟩, ⟨⟨y, ?_⟩, hst.1.at fun o q => (sb.2 it (Ne.symm hne)).trans q, hne⟩, fun b hb => ?_⟩
    · rw [show ((i + 1 : Nat) : Int) = (i : Int) + 1 by omega]; exact he'
    · have hb' : b < s.heap.objs.size := by
        rcases (by simpa using hb : b = e ∨ b = it) with z | z
        · rw [z]; exact hel
        · rw [z]; exact hil
      rw [upd_ne (Nat.ne_of_lt hb')]
      exact (hf b hb).1
  done := by
    intro X hP hw hK hc i pins s σ H E I hf st hg
    subst hP hw hK
    obtain ⟨⟨old, he⟩, hit, hne⟩ := st
    obtain ⟨xs, hq, hx⟩ := hg
    obtain ⟨its, rv, p, hz⟩ := I.tuple hq
    have p : s.heap.IsTuple a its.toArray := p
    obtain ⟨f0, f1, f2, f3, f4, f5⟩ := hf it (by simp)
    have nai : a ≠ it := fun z => by
      obtain ⟨o1, g1, c1, _⟩ := hit
      obtain ⟨o2, g2, c2, _⟩ := p
      rw [z, g1] at g2
      cases g2
      rw [c1] at c2
      exact absurd c2 (by simp)
    have hl := rv.length
    have hh : X.A.in1.handled = none := by first | exact I.ok.hd hc | (show X.A.handled = none; exact I.ok.hd hc)
    have ei : i = its.toArray.size := by simp; omega
    exact wpAny_pyNext_enum_endD (PySem.Draws.tuple hh it a nai its.toArray) he ⟨by rw [← ei]; exact hit, p⟩ fun h' eb => ⟨rfl, I.turned (t' := s.toks) (fun b o hb q => eb b o hb q) f0 f1 f3 f4 f5⟩
  self := fun A i s Q E st h => let ⟨⟨_, he⟩, _⟩ := st; wpAny_pyIter_enum he h
def iEnT (K : PySem.W.Frag) (ta : TA) : TI := fun σ H R => ta σ H fun vs H1 => ∃ a xs, vs = [.ref a] ∧ SqT K H1 a xs ∧ R (IteT K a) H1
theorem pi_enumT {X : Cx} {e : Expr} {ta : TA} {p pos tpos : Pos} {elts : List Expr} {kk : Nat} (hg : Gl X "enumerate") (hm : X.mg "enumerate" = none) (ha : PA X [e] ta) (hs : starEach [e] X.env = [(false, eval e X.env)] := by rfl) :
    PI X (.Tuple elts kk tpos) (.Call (.Name "enumerate" p) [e] [] pos) (iEnT X.K ta) := by
  refine ⟨fun pins s σ H R I h => Call_ (ld_blt I hg hm boot_enumerate (PyProof.Rows.callWith_type1 (thn (ha.run pos pins s σ H _ I h) fun us s1 ⟨vs, H1, I1, r1, a, xs, ex, hq, q⟩ => ?_) hs rfl))⟩
  subst ex
  cases r1 with
  | cons r rr =>
    cases rr
    cases r
    obtain ⟨its, rv, p', hz⟩ := I1.tuple hq
    have p' : s1.heap.IsTuple a its.toArray := p'
    refine dl_call_enumT p' fun h' he hit hsz hk => wpAny_pyIter_enum he ?_
    have I2 : Inv X pins σ H1 { s1 with heap := h' } := I1.kept (t' := s1.toks) hk
    refine ⟨s1.heap.objs.size + 1, [s1.heap.objs.size + 1, s1.heap.objs.size], _, _, H1, rfl, I2, turn_enumT a (s1.heap.objs.size + 1) s1.heap.objs.size, ⟨⟨.none, he⟩, hit, Nat.succ_ne_self _⟩, fun b hb => ?_, q⟩
    have hle : s1.heap.objs.size ≤ b := by
      rcases (by simpa using hb : b = s1.heap.objs.size + 1 ∨ b = s1.heap.objs.size) with z | z
      · rw [z]; exact Nat.le_add_right _ _
      · rw [z]; exact Nat.le_refl _
    exact I1.fpOk hle (I1.hok.fresh hle)
section
variable {X : Cx} {G : Gx} {W : WX} {e e2 : Expr} {es : List Expr} {ef eg : Ef} {af : Af} {pos p : Pos} {B : Hp}
theorem yl_enumT {a : Addr} {xs : List V} {ds : List D} (h : SqT G.K B a xs) (r : Reps G B ds xs) : Yl G (IteT G.K a) (enumD 0 ds) B := by
  intro i H B1 φ S w sb
  have hq : SqT G.K H a xs := sqT_mono w.sub (sqT_mono sb h)
  have hl := r.length
  rw [enumD_len]
  refine ⟨fun hi => ?_, fun hi => ⟨xs, hq, by omega⟩⟩
  obtain ⟨v, hv, rv⟩ := r.get (List.getElem?_eq_getElem hi)
  refine ⟨⟨xs, v, hq, hv⟩, fun x H' ⟨T, y, e1, hT, e2, hy⟩ => ?_⟩
  subst e1 e2
  have ey : y = v := Option.some.inj ((hy xs hq).symm.trans hv)
  subst ey
  have hd := enumD_get 0 ds i _ (List.getElem?_eq_getElem hi)
  rw [Nat.zero_add] at hd
  refine ⟨_, upd B1 T (.tup [.int (i : Nat), y]), hd, Xt.alloc w hT, w.alloc hT, ?_⟩
  have sb2 : Same B1 (upd B1 T (.tup [.int (i : Nat), y])) := same_upd' (w.bfree hT)
  unfold Rep
  exact ⟨T, _, rfl, SqT.of upd_same, Reps.cons (rpi _) (Reps.cons (Rep.mono sb2 _ (Rep.mono sb _ rv)) Reps.nil)⟩
/-- enumerate(e), e a list or a tuple -/
def iEnumX (f : Ef) : If := fun ρ S => (f ρ S).bind fun x S1 => match x with
  | .p (.lst ds) => .ok (enumD 0 ds) S1
  | .p (.tup ds) => .ok (enumD 0 ds) S1
  | _ => .bad
theorem di_enumX {elts : List Expr} {kk : Nat} {tpos : Pos} (hK : X.K = G.K) (hg : Gl X "enumerate") (hm : X.mg "enumerate" = none) (he : PE X e (tD G W ef)) (hs : starEach [e] X.env = [(false, eval e X.env)] := by rfl) :
    PI X (.Tuple elts kk tpos) (.Call (.Name "enumerate" p) [e] [] pos) (tI G W (iEnumX ef)) := by
  have s1 : starEach (e :: []) X.env = (false, eval e X.env) :: starEach [] X.env := hs
  have ha := da_cons (X := X) (af := aNil) he da_nil s1
  refine wkI (PI.or' (pi_enum hg hm ha hs) (pi_enumT hg hm ha hs)) fun σ H R ⟨ρ, B, φ, S, w, en, h⟩ => ?_
  have h2 := WP.fst h
  rw [hK]
  have step : ∀ {T : List V → Hp → Prop}, WP G W σ H B φ (ef ρ S) (fun a H' B' φ' S' => ∀ v, RepV G B' φ' a v → T [v] H') → tA G W (aCons ef aNil) σ H T := fun {T} q => by
    refine ⟨ρ, B, φ, S, w, en, ?_⟩
    unfold aCons aNil
    cases e1 : ef ρ S with
    | bad => rw [e1] at q; exact q.elim
    | exc x S1 => rw [e1] at q; exact q
    | ok d S1 =>
      rw [e1] at q
      intro H' B' φ' x w' vs ⟨v, t, ev, r, et⟩
      subst ev
      rw [show t = [] from et]
      exact q H' B' φ' x w' v r
  cases q : ef ρ S with
  | bad => rw [q] at h2; exact h2.elim
  | exc x S1 => exact .inl (step (by rw [q] at h2 ⊢; exact h2))
  | ok d S1 =>
    rw [q] at h2
    have no : (∀ H' B' φ', Xt H B φ H' B' φ' → Wd G H' B' φ' S1 → False) → iEnum G.K (tA G W (aCons ef aNil)) σ H R ∨ iEnT G.K (tA G W (aCons ef aNil)) σ H R := fun k => .inl (step (by rw [q]; exact fun H' B' φ' x w' v r => (k H' B' φ' x w').elim))
    cases d with
    | hnd n => exact no fun H' B' φ' x w' => (h2 H' B' φ' x w').elim
    | p d =>
      cases d with
      | lst ds =>
        refine .inl (step (by
          rw [q]
          intro H' B' φ' x w' v r
          obtain ⟨a, xs, rfl, s1, q1⟩ := rep_lst.mp r
          have sq : SqL G.K B' a xs := SqL.of s1
          exact ⟨a, xs, rfl, w'.sub.seq sq, h2 H' B' φ' x w' H' B' φ' Xt.refl w' _ (yl_enum sq q1)⟩))
      | tup ds =>
        refine .inr (step (by
          rw [q]
          intro H' B' φ' x w' v r
          obtain ⟨a, xs, rfl, s1, q1⟩ := rep_tup.mp r
          exact ⟨a, xs, rfl, sqT_mono w'.sub s1, h2 H' B' φ' x w' H' B' φ' Xt.refl w' _ (yl_enumT s1 q1)⟩))
      | _ => exact no fun H' B' φ' x w' => (h2 H' B' φ' x w').elim
/-! ### *e in displays -/
def aStar (f : Ef) (r : Af) : Af := fun ρ S => (f ρ S).bind fun d S1 => match sqOf S1 d with
  | some ds => (r ρ S1).bind fun xs S2 => .ok (ds.map Dv.p ++ xs) S2
  | none => .bad
theorem repsV_append {φ : List Addr} : ∀ {ds : List D} {es : List Dv} {vs us : List V}, Reps G B ds vs → RepVs G B φ es us → RepVs G B φ (ds.map Dv.p ++ es) (vs ++ us)
  | [], _, _, _, h, q => by unfold Reps at h; subst h; exact q
  | d :: ds, es, _, us, h, q => by
    unfold Reps at h
    obtain ⟨x, r, rfl, h1, h2⟩ := h
    exact ⟨x, _, rfl, h1, repsV_append h2 q⟩
theorem da_star (hK : X.K = G.K) (he : PE X e (tD G W ef)) (hr : PA X es (tA G W af)) (hs : starEach (.Starred e p :: es) X.env = (true, eval e X.env) :: starEach es X.env := by rfl) : PA X (.Starred e p :: es) (tA G W (aStar ef af)) := by
  refine wkA (StX.pa_star he hr hs) fun σ H Q ⟨ρ, B, φ, S, w, en, q⟩ => ?_
  refine tD.run w en (WP.fst q) fun d v H1 B1 φ1 S1 x1 w1 en1 r1 q1 => ?_
  split at q1
  · rename_i ds hd
    obtain ⟨a, xs, rfl, s1, rr⟩ := sq_at w1 r1 hd
    rw [← hK] at s1
    refine ⟨a, xs, rfl, s1.elim .inr .inl, ?_⟩
    refine tA.run w1 en1 (WP.fst q1) fun ds2 vs H2 B2 φ2 S2 x2 w2 en2 r2 q2 => ?_
    exact q2 H2 B2 φ2 Xt.refl w2 _ (repsV_append (Reps.mono x2.b _ rr) r2)
  · exact q1.elim
end
end DL

set_option maxHeartbeats 4000000
namespace DL
open PySem L2
open PySem.Spec PyProof.Rows
/-! ### [e for x in xs for y in ys] -/
def comp2L (t : Tgt) (it1 : If) (vs1 : List Nat) (t1 : Tgt) (el : Ef) (ρ : Nv) : Nat → List D → Sto → Out (List D)
  | _, [], S => .ok [] S
  | n, d :: ds, S => match t (.p d) ρ with
    | some ρ1 => (it1 ρ1 S).nox.bind fun ds1 S1 => if n + ds1.length ≤ big then (compL t1 cYes el (wipeN ρ1 vs1) ds1 S1).bind fun r S2 => (comp2L t it1 vs1 t1 el ρ (n + ds1.length) ds S2).bind fun r2 S3 => .ok (r ++ r2) S3 else .bad
    | none => .bad
def dComp2 (vs : List Nat) (it : If) (t : Tgt) (it1 : If) (vs1 : List Nat) (t1 : Tgt) (el : Ef) : Ef := fun ρ S => (it ρ S).bind fun ds S1 => (comp2L t it1 vs1 t1 el (wipeN ρ vs) 0 ds S1).bind fun r S2 => .ok (.p (.lst r)) S2
section
variable {X : Cx} {G : Gx} {W : WX}
theorem bind_id {α : Type} (o : Out (List α)) : (o.bind fun r S => .ok ([] ++ r) S) = o := by cases o <;> rfl
theorem comp2_le {own : List (Str × Nat)} {it it1 : If} {ts ts1 vs1 : List Nat} {t t1 : Tgt} {el : Ef} (hts : ∀ i ∈ ts, i ∈ own.map (·.2)) (hts1 : ∀ i ∈ ts1, i ∈ vs1) :
    ∀ σ H Q, tD G W (dComp2 (own.map (·.2)) it t it1 vs1 t1 el) σ H Q → tLc2 (tI G W it) (tG G ts t) (tT G noW cYes) (tI G noW it1) (tG G ts1 t1) (tT G noW cYes) (tD G noW el) (own.map (·.2)) vs1 σ H Q := by
  rintro σ H Q ⟨ρ, B, φ, S, w, en, h⟩
  refine ⟨ρ, B, φ, S, w, en, (WP.fst h).mono fun ds H1 B1 φ1 S1 x1 w1 q1 J yl => ?_⟩
  intro D hD
  have en1 := (en.mono x1.b x1.p).wipe (own.map (·.2))
  generalize hvs : own.map (·.2) = vs at *
  have nD1 : D ∉ φ1 := w1.fresh hD
  let K : List DL.D → Out (List DL.D) → Prop := fun acc o => WP G W σ H1 B1 φ1 (o.bind fun r S2 => Out.ok (Dv.p (DL.D.lst (acc ++ r))) S2) (fun d H' B' φ' _ => ∀ v, RepV G B' φ' d v → Q v H')
  have away : ∀ {a : Addr} {u o : HO} {H B : Hp} {φ : List Addr}, Xt H1 B1 φ1 H B φ → H1 a = some u → B1 a = none → a ∉ φ1 → upd H D o a = some u ∧ B a = none ∧ a ∉ φ := fun {a u o H B φ} x h1 h2 h3 => by
    have na : a ≠ D := ne_of_none h1 hD
    rw [upd_ne na]
    exact x.out a u h1 h2 h3
  refine ⟨fun i m H => ∃ B φ S acc av n, Wd G H B φ S ∧ Xt H1 B1 φ1 H B φ ∧ B D = none ∧ D ∉ φ ∧ H D = some (.lst av) ∧ Reps G B acc av ∧ acc.length ≤ n ∧ i ≤ ds.length ∧ m = ds.length - i ∧ K acc (comp2L t it1 vs1 t1 el (wipeN ρ vs) n (ds.drop i) S),
    ⟨_, B1, φ1, S1, [], [], 0, w1.hide hD, Xt.hide w1 hD, w1.bfree hD, nD1, upd_same, Reps.nil, Nat.le_refl _, Nat.zero_le _, rfl, q1⟩, ?_⟩
  rintro i m H ⟨B, φ, S, acc, av, n, w, x, hb, hf, hh, rr, hai, hi, rfl, q⟩
  obtain ⟨y1, y2⟩ := yl i H B φ S w x.b
  by_cases hlt : i < ds.length
  · obtain ⟨go, y1⟩ := y1 hlt
    refine .inr ⟨go, fun H' => ∃ B φ S acc av n, Wd G H' B φ S ∧ Xt H1 B1 φ1 H' B φ ∧ B D = none ∧ D ∉ φ ∧ H' D = some (.lst av) ∧ Reps G B acc av ∧ acc.length ≤ n ∧ K acc (comp2L t it1 vs1 t1 el (wipeN ρ vs) n (ds.drop (i + 1)) S), ?_, ?_⟩
    · rintro H' ⟨B', φ', S', acc', av', n', w', x', hb', hf', hh', rr', hai', q'⟩
      exact ⟨ds.length - (i + 1), by omega, B', φ', S', acc', av', n', w', x', hb', hf', hh', rr', hai', hlt, rfl, q'⟩
    · intro y H' hy
      obtain ⟨d, B', hd, xx, w', r⟩ := y1 y H' hy
      rw [List.drop_eq_getElem_cons hlt] at q
      have ed : ds[i] = d := by rw [List.getElem?_eq_getElem hlt] at hd; exact Option.some.inj hd
      rw [ed] at q
      unfold comp2L at q
      have x' := x.trans xx
      obtain ⟨hh', hb', hf'⟩ := xx.out D _ hh hb hf
      refine ⟨wipeN ρ vs, B', φ, S, .p d, w', en1.mono x'.b x'.p, r, ?_⟩
      cases e1 : t (.p d) (wipeN ρ vs) with
      | none => rw [e1] at q; exact q.elim
      | some ρ1 =>
        rw [e1] at q
        dsimp only at q
        refine fun σ2 en2 k2 => ⟨(k2 vs hts).trans (wipe_wipe vs fun _ z => z), ρ1, B', φ, S, w', en2, ?_⟩
        intro H3 B3 φ3 x3 w3
        obtain ⟨hh3, hb3, hf3⟩ := x3.out D _ hh' hb' hf'
        have x03 := x'.trans x3
        rw [if_pos rfl]
        refine ⟨ρ1, B3, φ3, S, w3, en2.mono x3.b x3.p, ?_⟩
        cases e2 : it1 ρ1 S with
        | bad => rw [e2] at q; exact q.elim
        | exc e' S' => rw [e2] at q; exact q.elim
        | ok ds1 S2 =>
          rw [e2] at q
          have q : K acc (if n + ds1.length ≤ big then (compL t1 cYes el (wipeN ρ1 vs1) ds1 S2).bind fun r S2 => (comp2L t it1 vs1 t1 el (wipeN ρ vs) (n + ds1.length) (ds.drop (i + 1)) S2).bind fun r2 S3 => .ok (r ++ r2) S3 else .bad) := q
          split at q
          · rename_i hbig
            intro H4 B4 φ4 x4 w4 J1 yl1
            obtain ⟨hh4, hb4, hf4⟩ := x4.out D _ hh3 hb3 hf3
            have x04 := x03.trans x4
            have sB : Same B B4 := xx.b.trans (x3.b.trans x4.b)
            have en4 := ((en2.mono x3.b x3.p).mono x4.b x4.p).wipe vs1
            refine ⟨fun j k H => ∃ B φ S acc av, Wd G H B φ S ∧ Xt H1 B1 φ1 H B φ ∧ Same B4 B ∧ φ4 <+: φ ∧ B D = none ∧ D ∉ φ ∧ H D = some (.lst av) ∧ Reps G B acc av ∧ acc.length ≤ n + j ∧ j ≤ ds1.length ∧ k = ds1.length - j ∧
                K acc ((compL t1 cYes el (wipeN ρ1 vs1) (ds1.drop j) S).bind fun r S2 => (comp2L t it1 vs1 t1 el (wipeN ρ vs) (n + ds1.length) (ds.drop (i + 1)) S2).bind fun r2 S3 => .ok (r ++ r2) S3),
              ⟨_, B4, φ4, S2, acc, av, w4, x04, Same.refl _, List.prefix_refl _, hb4, hf4, hh4, Reps.mono sB _ rr, hai, Nat.zero_le _, rfl, q⟩, ?_⟩
            rintro j k H5 ⟨B5, φ5, S5, acc5, av5, w5, x5, sB5, pf5, hb5, hf5, hh5, rr5, ha5, hj, rfl, q5⟩
            obtain ⟨z1, z2⟩ := yl1 j H5 B5 φ5 S5 w5 sB5
            by_cases hlt1 : j < ds1.length
            · obtain ⟨go1, z1⟩ := z1 hlt1
              refine .inr ⟨go1, fun H' => ∃ B φ S acc av, Wd G H' B φ S ∧ Xt H1 B1 φ1 H' B φ ∧ Same B4 B ∧ φ4 <+: φ ∧ B D = none ∧ D ∉ φ ∧ H' D = some (.lst av) ∧ Reps G B acc av ∧ acc.length ≤ n + (j + 1) ∧
                K acc ((compL t1 cYes el (wipeN ρ1 vs1) (ds1.drop (j + 1)) S).bind fun r S2 => (comp2L t it1 vs1 t1 el (wipeN ρ vs) (n + ds1.length) (ds.drop (i + 1)) S2).bind fun r2 S3 => .ok (r ++ r2) S3), ?_, ?_⟩
              · rintro H' ⟨B', φ', S', acc', av', w', x', sB', pf', hb', hf', hh', rr', hai', q'⟩
                exact ⟨ds1.length - (j + 1), by omega, B', φ', S', acc', av', w', x', sB', pf', hb', hf', hh', rr', hai', hlt1, rfl, q'⟩
              · intro y1 H6 hy1
                obtain ⟨d1, B6, hd1, xx6, w6, r6⟩ := z1 y1 H6 hy1
                rw [List.drop_eq_getElem_cons hlt1] at q5
                have ed1 : ds1[j] = d1 := by rw [List.getElem?_eq_getElem hlt1] at hd1; exact Option.some.inj hd1
                rw [ed1] at q5
                unfold compL at q5
                have x6 := x5.trans xx6
                obtain ⟨hh6, hb6, hf6⟩ := xx6.out D _ hh5 hb5 hf5
                refine ⟨wipeN ρ1 vs1, B6, φ5, S5, .p d1, w6, (en4.mono sB5 pf5).mono xx6.b xx6.p, r6, ?_⟩
                cases e6 : t1 (.p d1) (wipeN ρ1 vs1) with
                | none => rw [e6] at q5; exact q5.elim
                | some ρ6 =>
                  rw [e6] at q5
                  dsimp only at q5
                  refine fun σ3 en3 k3 => ⟨(k3 vs1 hts1).trans (wipe_wipe vs1 fun _ z => z), ρ6, B6, φ5, S5, w6, en3, ?_⟩
                  intro H7 B7 φ7 x7 w7
                  obtain ⟨hh7, hb7, hf7⟩ := x7.out D _ hh6 hb6 hf6
                  have x07 := x6.trans x7
                  rw [if_pos rfl]
                  refine ⟨ρ6, B7, φ7, S5, w7, en3.mono x7.b x7.p, ?_⟩
                  have q5 : K acc5 (((el ρ6 S5).nox.bind (fun x S2 => match x with
                      | .p d' => (compL t1 cYes el (wipeN ρ1 vs1) (ds1.drop (j + 1)) S2).bind fun r S3 => Out.ok (d' :: r) S3
                      | .hnd _ => .bad)).bind fun r S2 => (comp2L t it1 vs1 t1 el (wipeN ρ vs) (n + ds1.length) (ds.drop (i + 1)) S2).bind fun r2 S3 => .ok (r ++ r2) S3) := q5
                  cases e7 : el ρ6 S5 with
                  | bad => rw [e7] at q5; exact q5.elim
                  | exc e' S' => rw [e7] at q5; exact q5.elim
                  | ok dv S8 =>
                    rw [e7] at q5
                    cases dv with
                    | hnd n => exact q5.elim
                    | p d' =>
                      have q5 : K acc5 (((compL t1 cYes el (wipeN ρ1 vs1) (ds1.drop (j + 1)) S8).bind fun r S3 => Out.ok (d' :: r) S3).bind fun r S2 => (comp2L t it1 vs1 t1 el (wipeN ρ vs) (n + ds1.length) (ds.drop (i + 1)) S2).bind fun r2 S3 => .ok (r ++ r2) S3) := q5
                      intro H8 B8 φ8 x8 w8 v8 r8
                      obtain ⟨hh8, hb8, hf8⟩ := x8.out D _ hh7 hb7 hf7
                      have x08 := x07.trans x8
                      have sB8 : Same B5 B8 := xx6.b.trans (x7.b.trans x8.b)
                      have rr8 : Reps G B8 acc5 av5 := Reps.mono sB8 _ rr5
                      refine ⟨av5, hh8, ?_, B8, φ8, S8, acc5 ++ [d'], av5 ++ [v8], w8.priv hb8 hf8, ⟨x08.b, x08.p, fun a u h1 h2 h3 => away x08 h1 h2 h3⟩, sB5.trans sB8, pf5.trans (xx6.p.trans (x7.p.trans x8.p)), hb8, hf8, upd_same, rr8.append (Reps.cons r8 Reps.nil), by rw [List.length_append]; show acc5.length + 1 ≤ _; omega, ?_⟩
                      · rw [← rr8.length, ← big_eq]; omega
                      · show WP G W σ H1 B1 φ1 _ _
                        have q5 : WP G W σ H1 B1 φ1 ((((compL t1 cYes el (wipeN ρ1 vs1) (ds1.drop (j + 1)) S8).bind fun r S3 => Out.ok (d' :: r) S3).bind fun r S2 => (comp2L t it1 vs1 t1 el (wipeN ρ vs) (n + ds1.length) (ds.drop (i + 1)) S2).bind fun r2 S3 => .ok (r ++ r2) S3).bind fun r S2 => Out.ok (Dv.p (DL.D.lst (acc5 ++ r))) S2) (fun d H' B' φ' _ => ∀ v, RepV G B' φ' d v → Q v H') := q5
                        rw [Out.bind_assoc, Out.bind_assoc] at q5
                        rw [Out.bind_assoc]
                        have e9 : (fun (r : List DL.D) (S : Sto) => (Out.ok (d' :: r) S).bind fun a S => ((comp2L t it1 vs1 t1 el (wipeN ρ vs) (n + ds1.length) (ds.drop (i + 1)) S).bind fun r2 S3 => .ok (a ++ r2) S3).bind fun r S2 => Out.ok (Dv.p (DL.D.lst (acc5 ++ r))) S2)
                            = fun r S => ((comp2L t it1 vs1 t1 el (wipeN ρ vs) (n + ds1.length) (ds.drop (i + 1)) S).bind fun r2 S3 => .ok (r ++ r2) S3).bind fun r S2 => Out.ok (Dv.p (DL.D.lst (acc5 ++ [d'] ++ r))) S2 := by
                          funext r S
                          show ((comp2L t it1 vs1 t1 el (wipeN ρ vs) (n + ds1.length) (ds.drop (i + 1)) S).bind fun r2 S3 => .ok ((d' :: r) ++ r2) S3).bind _ = _
                          rw [Out.bind_assoc, Out.bind_assoc]
                          congr 1
                          funext r2 S3
                          show Out.ok (Dv.p (DL.D.lst (acc5 ++ (d' :: r ++ r2)))) S3 = Out.ok (Dv.p (DL.D.lst (acc5 ++ [d'] ++ (r ++ r2)))) S3
                          rw [List.append_assoc acc5]; rfl
                        rw [← e9]
                        exact q5
            · have ej : j = ds1.length := by omega
              subst ej
              rw [List.drop_length] at q5
              refine .inl ⟨z2 rfl, B5, φ5, S5, acc5, av5, n + ds1.length, w5, x5, hb5, hf5, hh5, rr5, ha5, ?_⟩
              have q5 : K acc5 ((comp2L t it1 vs1 t1 el (wipeN ρ vs) (n + ds1.length) (ds.drop (i + 1)) S5).bind fun r2 S3 => .ok ([] ++ r2) S3) := q5
              rw [bind_id] at q5
              exact q5
          · exact q.elim
  · have e : i = ds.length := by omega
    subst e
    rw [List.drop_length] at q
    refine .inl ⟨y2 rfl, ?_⟩
    have q : WP G W σ H1 B1 φ1 (.ok (.p (.lst (acc ++ []))) S) (fun d H' B' φ' _ => ∀ v, RepV G B' φ' d v → Q v H') := q
    rw [List.append_nil] at q
    have sb : Same B (upd B D (.lst av)) := same_upd' hb
    refine q H (upd B D (.lst av)) φ ⟨x.b.trans sb, x.p, fun a u h1 h2 h3 => ?_⟩ (w.adopt hh hb hf) _ (rep_lst.mpr ⟨D, av, rfl, upd_same, Reps.mono sb _ rr⟩)
    have na : a ≠ D := ne_of_none h1 hD
    rw [upd_ne na]
    exact x.out a u h1 h2 h3
theorem de_comp2 {elt tg iter tg1 iter1 : Expr} {scope : Scope} {own : List (Str × Nat)} {it it1 : If} {ts ts1 vs1 : List Nat} {t t1 : Tgt} {el : Ef} {pos : Pos} (hc : X.calm = true) (hN : X.N.Nodup) (hi : PI X tg iter (tI G W it)) (ok : BlkOk X.N X.env.scope scope own)
    (hts : ∀ i ∈ ts, i ∈ own.map (·.2)) (hts1 : ∀ i ∈ ts1, i ∈ vs1) (hv : ∀ i ∈ vs1, i ∈ own.map (·.2))
    (hg : ∀ (s : Shared) (H : Hp) (C : Addr) (cl : List (Str × Addr)) (fp : List Addr), PG (X.blk s H scope (compEnvC scope cl C X.env) fp) tg (tG G ts t))
    (hi1 : ∀ (s : Shared) (H : Hp) (C : Addr) (cl : List (Str × Addr)) (fp : List Addr), PI (X.blk s H scope (compEnvC scope cl C X.env) fp) tg1 iter1 (tI G noW it1))
    (hg1 : ∀ (s : Shared) (H : Hp) (C : Addr) (cl : List (Str × Addr)) (fp : List Addr), PG (X.blk s H scope (compEnvC scope cl C X.env) fp) tg1 (tG G ts1 t1))
    (he : ∀ (s : Shared) (H : Hp) (C : Addr) (cl : List (Str × Addr)) (fp : List Addr), PE (X.blk s H scope (compEnvC scope cl C X.env) fp) elt (tD G noW el))
    (hs : ∀ x, foldedSetIterable iter X.env x = pure x := by intro _; rfl) (hs1 : ∀ env x, foldedSetIterable iter1 env x = pure x := by intro _ _; rfl) :
    PE X (.ListComp elt [⟨tg, iter, [], 0⟩, ⟨tg1, iter1, [], 0⟩] scope pos) (tD G W (dComp2 (own.map (·.2)) it t it1 vs1 t1 el)) :=
  wkE (pe_lc2 (tt := tT G noW cYes) (tt1 := tT G noW cYes) hc hN hi ok hv hg (fun _ _ _ _ _ => dts_nil) hi1 hg1 (fun _ _ _ _ _ => dts_nil) he hs hs1) (comp2_le hts hts1)
theorem dp_setLc2 {i : Nat} {y : Str} {py spos pos : Pos} {elt tg iter tg1 iter1 : Expr} {scope : Scope} {own : List (Str × Nat)} {it it1 : If} {ts ts1 vs1 : List Nat} {t t1 : Tgt} {el : Ef} (hc : X.calm = true) (hN : X.N.Nodup) (hy : X.N[i]? = some y) (hyl : X.env.scope.names.lookup y = some .local) (hk : X.env.scope.kind = .function) (hl : (py.line == pos.line) = true) (hna : (scope.names.any fun (n, k) => n == y && (k == .local || k == .cell)) = false)
    (hi : PI X tg iter (tI G W it)) (ok : BlkOk X.N X.env.scope scope own)
    (hts : ∀ i ∈ ts, i ∈ own.map (·.2)) (hts1 : ∀ i ∈ ts1, i ∈ vs1) (hv : ∀ i ∈ vs1, i ∈ own.map (·.2))
    (hg : ∀ (s : Shared) (H : Hp) (C : Addr) (cl : List (Str × Addr)) (fp : List Addr), PG (X.blk s H scope (compEnvC scope cl C X.env) fp) tg (tG G ts t))
    (hi1 : ∀ (s : Shared) (H : Hp) (C : Addr) (cl : List (Str × Addr)) (fp : List Addr), PI (X.blk s H scope (compEnvC scope cl C X.env) fp) tg1 iter1 (tI G noW it1))
    (hg1 : ∀ (s : Shared) (H : Hp) (C : Addr) (cl : List (Str × Addr)) (fp : List Addr), PG (X.blk s H scope (compEnvC scope cl C X.env) fp) tg1 (tG G ts1 t1))
    (he : ∀ (s : Shared) (H : Hp) (C : Addr) (cl : List (Str × Addr)) (fp : List Addr), PE (X.blk s H scope (compEnvC scope cl C X.env) fp) elt (tD G noW el))
    (hs : ∀ x, foldedSetIterable iter X.env x = pure x := by intro _; rfl) (hs1 : ∀ env x, foldedSetIterable iter1 env x = pure x := by intro _ _; rfl) :
    PS X (.Assign [.Name y py] (.ListComp elt [⟨tg, iter, [], 0⟩, ⟨tg1, iter1, [], 0⟩] scope pos) spos) (tS G W (sSet i (dComp2 (own.map (·.2)) it t it1 vs1 t1 el))) := by
  refine wkS (ps_setLc2 (tt := tT G noW cYes) (tt1 := tT G noW cYes) hc hN hy hyl (sw_true hk hyl hl hna) hi ok hv hg (fun _ _ _ _ _ => dts_nil) hi1 hg1 (fun _ _ _ _ _ => dts_nil) he hs hs1) fun D σ H ⟨ρ, B, φ, S, w, en, h⟩ => ?_
  refine comp2_le hts hts1 σ H _ ⟨ρ, B, φ, S, w, en, (WPS.fst en h).mono fun a H1 B1 φ1 S1 x1 w1 q1 v r1 => ?_⟩
  exact WPS.here w1 q1 _ ((en.mono x1.b x1.p).set i r1)
/-! f() -/
def dCall0 (m : List D → PO) : Ef := fun _ S => (m []).out S
theorem de_call0 {k : Nat} {f : Addr} {fd : FuncData} {ps : List Str} {x : Str} {p pos : Pos} {m : List D → PO} (F : FnOk X.prog X.w X.K X.mg X.base (L2.CX X.prog X.w) k f fd ps (spP G 0 m)) (hr : Room k X.A) (hg : Gl X x) (hm : X.mg x = some (.ref f)) (hk : PySem.W.keepIn X.K (.ref f) = true) (hb : Binds X.K fd ps [])
    (hdb : (x == ("__debug__" : Str)) = false := by decide) : PE X (.Call (.Name x p) [] [] pos) (tD G W (dCall0 m)) :=
  wkE (pe_call0 F hr hg hm hk hb (dvs := []) .nil passL hdb) fun σ H Q ⟨ρ, B, φ, S, w, en, q⟩ => spP_ok (ds := []) rfl w Reps.nil q
end
end DL

set_option maxHeartbeats 4000000
namespace DL
open PySem L2
open PySem.Spec PyProof.Rows
/-! ### numbers in order -/
def insI (x : Int) : List Int → List Int
  | [] => [x]
  | y :: r => if x ≤ y then x :: y :: r else y :: insI x r
def srtI : List Int → List Int
  | [] => []
  | x :: r => insI x (srtI r)
theorem insI_perm (x : Int) : ∀ l : List Int, (insI x l).Perm (x :: l)
  | [] => .refl _
  | y :: r => by
    unfold insI
    split
    · exact .refl _
    · exact ((insI_perm x r).cons y).trans (.swap x y r)
theorem srtI_perm : ∀ l : List Int, (srtI l).Perm l
  | [] => .refl _
  | x :: r => by
    unfold srtI
    exact (insI_perm x _).trans ((srtI_perm r).cons x)
theorem insI_srt (x : Int) : ∀ {l : List Int}, l.Pairwise (· ≤ ·) → (insI x l).Pairwise (· ≤ ·)
  | [], _ => by unfold insI; exact List.pairwise_singleton _ _
  | y :: r, h => by
    obtain ⟨h1, h2⟩ := List.pairwise_cons.mp h
    unfold insI
    split
    · rename_i hx
      refine List.pairwise_cons.mpr ⟨fun z hz => ?_, h⟩
      rcases List.mem_cons.mp hz with e | e
      · rw [e]; exact hx
      · exact Int.le_trans hx (h1 z e)
    · rename_i hx
      refine List.pairwise_cons.mpr ⟨fun z hz => ?_, insI_srt x h2⟩
      rcases List.mem_cons.mp ((insI_perm x r).mem_iff.mp hz) with e | e
      · rw [e]; omega
      · exact h1 z e
theorem srtI_srt : ∀ l : List Int, (srtI l).Pairwise (· ≤ ·)
  | [] => .nil
  | x :: r => by unfold srtI; exact insI_srt x (srtI_srt r)
theorem srt_one : ∀ {a b : List Int}, a.Perm b → a.Pairwise (· ≤ ·) → b.Pairwise (· ≤ ·) → a = b
  | [], b, p, _, _ => (List.Perm.nil_eq p)
  | x :: r, b, p, ha, hb => by
    cases b with
    | nil => cases List.Perm.eq_nil p
    | cons y t =>
      obtain ⟨a1, a2⟩ := List.pairwise_cons.mp ha
      obtain ⟨b1, b2⟩ := List.pairwise_cons.mp hb
      have e : x = y := by
        have h1 : x ≤ y := by
          rcases List.mem_cons.mp (p.mem_iff.mpr (List.mem_cons_self (a := y) (l := t))) with e | e
          · rw [e]; exact Int.le_refl _
          · exact a1 y e
        have h2 : y ≤ x := by
          rcases List.mem_cons.mp (p.mem_iff.mp (List.mem_cons_self (a := x) (l := r))) with e | e
          · rw [e]; exact Int.le_refl _
          · exact b1 x e
        omega
      subst e
      rw [srt_one (List.Perm.cons_inv p) a2 b2]
section
variable {X : Cx} {G : Gx} {W : WX} {e : Expr} {ef : Ef} {p p2 pos P pp : Pos} {H B : Hp} {φ : List Addr} {S : Sto} {σ : L2.St} {ρ : Nv}
def nSortI : OpN := fun xs S => match xs with
  | [x] => match vw S x with
    | some ds => match intsOf ds with
      | some ns => .ok (.p (.lst ((srtI ns).map D.int))) S
      | none => .bad
    | none => .bad
  | _ => .bad
theorem nSortI_ok : OkN G W (rSortedI G.K) nSortI := by
  intro H B φ S σ xs vs Q w r h
  unfold nSortI at h
  split at h
  · split at h
    · rename_i ds hs
      split at h
      · rename_i ns hb
        obtain ⟨v, rfl, rv⟩ := rvs1 r
        obtain ⟨a, ys, rfl, s1, q1⟩ := vw_at w rv hs
        refine ⟨a, ns, rfl, by rw [← ints_at' hb q1]; exact SqL.of s1, fun ns' l hp hw hl => ?_⟩
        rw [srt_one (hp.trans (srtI_perm ns).symm) hw (srtI_srt ns)]
        exact h _ _ _ (Xt.alloc w hl) (w.alloc hl) _ (rep_lst.mpr ⟨l, _, rfl, upd_same, Reps.ints _⟩)
      · exact h.elim
    · exact h.elim
  · exact h.elim
end
/-! ### sorted(set(xs)), numbers -/
/-- a new set without elements -/
abbrev fso (w : World) : Obj := { cls := .type "set", dict := none, data := .set #[] 0 (.fresh 0 0 (!w.params.followText "set-order")) }
section
variable {P : Program} {w : World} {A : Around} {E : Value → Shared → Prop} {s : Shared}
set_option maxHeartbeats 3200000 in
theorem call_set_lstI {l : Addr} {items : Array Value} (ns : List Int) {Q : Value → Shared → Prop} (hh : A.handled = none) (hl : s.heap.IsList l items) (hit : IntsAre items.toList ns) (hb : ns.length + 1 < scanBound)
    (h : ∀ (h' : Heap) (tk c : Nat), SetR w h' s.heap.objs.size (fun j => decide (j ∈ ns)) c → c ≤ ns.length → (∀ b o, s.heap.get? b = some o → h'.get? b = some o) → Q (.ref s.heap.objs.size) { s with heap := h', toks := tk }) :
    wpAny (model P w) A (call (.type "set") [.ref l]) Q E s := by
  have hisz : items.size = ns.length := by
    have q := IntsAre.length hit
    rw [Array.length_toList] at q
    exact q
  obtain ⟨c, tl, hmro⟩ := F.called_set.mro
  have hmade := F.called_set.made
  have hsub := F.called_set.sub
  refine wpAny_call (codeAny_of_tree ?_)
  show wpAny _ _ (callAny (.type "set") _) _ _ _
  refine wpAny_pure ⟨Code.quiet_builtin _ (by decide +kernel), codeAny_builtin F.entry_type_call ?_⟩
  rw [Around.under_plain (weight_type_call_type "set" [.ref l] []) rfl]
  have h1 := F.called_set.notType
  have h2 := F.called_set.canCreate
  have hct := F.typeCall_set_1 (.ref l)
  repeat (any_goals (first | assumption | wp_step))
  refine codeAny_mono (code_set_led1 (.ref l) (E := E) (Q₁ := fun obj s₁ => obj = .ref s.heap.objs.size ∧ s₁ = { s with heap := s.heap.push (fso w) }) ⟨rfl, rfl⟩) fun r s₁ hr => ?_
  cases r with
  | error e => exact hr
  | ok fl =>
    cases fl with
    | ret obj =>
      obtain ⟨rfl, rfl⟩ := hr
      have hS : (s.heap.push (fso w)).get? s.heap.objs.size = some (fso w) := Heap.get?_push_size _ rfl
      have hT : Shared.TypeIs { s with heap := s.heap.push (fso w) } (.ref s.heap.objs.size) "set" := ⟨_, hS, rfl⟩
      have hli := F.called_set.init.lookup
      have hbi := F.called_set.init.bind (.ref s.heap.objs.size)
      repeat (any_goals (first | assumption | wp_step))
      refine codeAny_mono (codeAny_call_builtin (R := wants (fun r s₂ => r = .none ∧ ∃ h' tk c, s₂ = { s with heap := h', toks := tk } ∧ SetR w h' s.heap.objs.size (fun j => decide (j ∈ ns)) c ∧ c ≤ ns.length ∧
          (∀ b o, s.heap.get? b = some o → h'.get? b = some o)) E) F.called_set.init.plain F.entry_set_init (check_set_init_1 hT ?_)) fun r₂ s₂ hr₂ => ?_
      · obtain ⟨ol, hol, hcl, nl, hdl⟩ := hl
        obtain ⟨ocls, odict, odata, oslots⟩ := ol
        simp only at hcl hdl
        subst hcl; subst hdl
        have hol' : (s.heap.push (fso w)).get? l = some { cls := .type "list", dict := odict, data := .seq items nl, slots := oslots } := Heap.get?_push_of_some _ hol
        have hsls := F.sub_list_set
        have hslf := F.sub_list_frozenset
        have hne : (Value.type "list" == Value.type "dict") = false := by decide
        have hl1 : (s.heap.push (fso w)).IsList l items := ⟨_, hol', rfl, nl, rfl⟩
        unfold Builtin.«set.__init__» noKeywords Builtin.Frozenset.updateFrom
        generalize hPI : pyIter = PI
        wp_walk
        subst hPI
        refine wpAny_pyIter_list hl1 ?_
        refine wpAny_bind (wpAny_runValue ?_)
        have hlS : l < s.heap.objs.size := Heap.lt_size hol
        have hh3 : A.in1.in1.in1.handled = none := by simp [hh]
        have hneI : l ≠ (s.heap.push (fso w)).objs.size := by
          rw [Heap.size_push]; exact Nat.ne_of_lt (Nat.lt_succ_of_lt hlS)
        have hSf : s.heap.objs.size ∉ [(s.heap.push (fso w)).objs.size, l] := by
          rw [Heap.size_push]; simp only [List.mem_cons, List.mem_singleton, List.not_mem_nil, or_false, not_or]
          exact ⟨Nat.ne_of_lt (Nat.lt_succ_self _), Nat.ne_of_gt hlS⟩
        have hval : ∀ (i : Nat) (v : Value), items[i]? = some v → ∃ k t, ns[i]? = some k ∧ v = .int k t := fun i v hv => by
          have hi : i < ns.length := by rw [← hisz]; exact (Array.getElem?_eq_some_iff.mp hv).1
          obtain ⟨t, e⟩ := PyProof.Rows.IntsAre.int_at hit i v (by rw [Array.getElem?_toList]; exact hv)
          refine ⟨ns[i], t, List.getElem?_eq_getElem hi, ?_⟩
          rw [e, List.getD_eq_getElem?_getD, List.getElem?_eq_getElem hi] <;> rfl
        refine set_update_ints ((Walks.list hh3 _ l hneI items).toS) s.heap.objs.size
          hSf ns hisz hb hval (items.size - 0) 0 _ (by omega) (Nat.zero_le _)
          ⟨⟨_, Heap.get?_push_size _ rfl, rfl, rfl⟩, (hl1.push _)⟩ ?hS0 ?hR
        case hS0 =>
          have hget : ((s.heap.push (fso w)).push { cls := .type "list_iterator", data := .fields #[.ref l, .int 0 0] }).get? s.heap.objs.size = some (fso w) := Heap.get?_push_of_some _ hS
          exact ⟨0, Nat.le_refl 0, setR_new_at hget⟩
        case hR =>
          intro s' c' hm hc' hS'
          obtain ⟨h', g2, d', tk', os'⟩ := s'
          have eg : g2 = s.gens := hm.gens
          have ed : d' = s.drawn := hm.drawn
          have eo : os' = s.os := hm.os
          subst eg; subst ed; subst eo
          show wpAny _ _ _ _ _ _
          refine wpAny_pure ?_
          show wpAny _ _ (ret Value.none) _ _ _
          rw [hisz] at hc'
          refine wpAny_pure ⟨rfl, h', tk', c', rfl, hS', hc', fun b o e => ?_⟩
          have hb0 : b < s.heap.objs.size := Heap.lt_size e
          have hb1 : b ≠ s.heap.objs.size := Nat.ne_of_lt hb0
          have hb2 : b ≠ (s.heap.push (fso w)).objs.size := by
            rw [Heap.size_push]; exact Nat.ne_of_lt (Nat.lt_succ_of_lt hb0)
          exact hm.heap b o (by simp only [List.mem_cons, List.mem_singleton, List.not_mem_nil, or_false, not_or]; exact ⟨hb1, hb2⟩) (Heap.get?_push_of_some _ (Heap.get?_push_of_some _ e))
      · cases r₂ with
        | error e => exact hr₂
        | ok fl₂ =>
          cases fl₂ with
          | ret r =>
            obtain ⟨rfl, h', tk, c', rfl, hS', hc', hk'⟩ := hr₂
            repeat (any_goals (first | assumption | wp_step))
            exact h _ _ _ hS' hc' hk'
          | _ => exact hr₂.elim
    | _ => exact hr.elim
end
section
variable {X : Cx} {G : Gx} {W : WX} {e : Expr} {ef : Ef} {p p2 pos P pp : Pos} {H B : Hp} {φ : List Addr} {S : Sto} {σ : L2.St} {ρ : Nv} {ta : TE}
/-- numbers in order, each once -/
def srtS (ns : List Int) : List Int := srtI (dd ns)
theorem dd_memF : ∀ (ns acc : List Int) (k : Int), k ∈ ns.foldl PyProof.Rows.step_dedup acc ↔ k ∈ acc ∨ k ∈ ns
  | [], acc, k => by simp
  | n :: r, acc, k => by
    rw [List.foldl_cons, dd_memF r]
    unfold PyProof.Rows.step_dedup
    split
    · rename_i h
      obtain ⟨y, hy, ey⟩ := List.any_eq_true.mp h
      have ey : y = n := eq_of_beq ey
      subst ey
      constructor
      · rintro (h | h)
        · exact .inl h
        · exact .inr (List.mem_cons_of_mem _ h)
      · rintro (h | h)
        · exact .inl h
        · rcases List.mem_cons.mp h with e | e
          · exact .inl (e ▸ hy)
          · exact .inr e
    · rw [List.mem_append, List.mem_singleton, List.mem_cons, or_assoc]
theorem dd_mem {ns : List Int} {k : Int} : k ∈ dd ns ↔ k ∈ ns := by unfold dd; rw [dd_memF]; simp
theorem dd_ndF : ∀ (ns acc : List Int), acc.Nodup → (ns.foldl PyProof.Rows.step_dedup acc).Nodup
  | [], acc, h => h
  | n :: r, acc, h => by
    rw [List.foldl_cons]
    refine dd_ndF r _ ?_
    unfold PyProof.Rows.step_dedup
    split
    · exact h
    · rename_i q
      refine List.nodup_append.mpr ⟨h, List.nodup_cons.mpr ⟨List.not_mem_nil, List.nodup_nil⟩, fun a ha b hb e => q ?_⟩
      rw [List.mem_singleton] at hb
      subst hb
      subst e
      exact List.any_eq_true.mpr ⟨a, ha, beq_self_eq_true a⟩
theorem dd_nd (ns : List Int) : (dd ns).Nodup := dd_ndF ns [] List.nodup_nil
theorem srtS_mem {ns : List Int} {k : Int} : k ∈ srtS ns ↔ k ∈ ns := (srtI_perm _).mem_iff.trans dd_mem
theorem srtS_len {ns : List Int} : (srtS ns).length = (dd ns).length := (srtI_perm _).length_eq
theorem srtS_lt (ns : List Int) : (srtS ns).Pairwise (· < ·) := by
  have h1 := srtI_srt (dd ns)
  have h2 : (srtI (dd ns)).Nodup := ((srtI_perm _).nodup_iff).mpr (dd_nd ns)
  exact (List.pairwise_and_iff.mpr ⟨h1, h2⟩).imp fun ⟨a, b⟩ => by omega
theorem srtS_one {ns out : List Int} (hp : out.Pairwise (· < ·)) (hm : ∀ k, k ∈ out ↔ k ∈ ns) : out = srtS ns := by
  refine srt_one ?_ (hp.imp fun h => Int.le_of_lt h) ((srtS_lt ns).imp fun h => Int.le_of_lt h)
  refine (List.perm_ext_iff_of_nodup (hp.imp fun h => by omega) ((srtS_lt ns).imp fun h => by omega)).mpr fun k => (hm k).trans srtS_mem.symm
theorem sort_set_of (cm : X.calm = true) (lG : Gl X "sorted") (lM : X.mg "sorted" = none) (sG : Gl X "set") (sM : X.mg "set" = none) (he : PE X e ta) (st : starEach [e] X.env = (false, eval e X.env) :: starEach [] X.env := by rfl) :
    PE X (.Call (.Name "sorted" p) [.Call (.Name "set" p2) [e] [] P] [] pp) (fun σ H Q => ta σ H fun x H1 => ∃ (l : Addr) (ns : List Int), x = .ref l ∧ SqL X.K H1 l (ns.map V.int) ∧ ns.length < 64 ∧ ∀ a o q, H1 a = none → upd H1 a o q = none → Q (.ref q) (upd (upd H1 a o) q (.lst ((srtS ns).map V.int)))) := by
  constructor
  intro pins s σ H Q I h
  refine Call_ (ld_blt I lG lM boot_sorted (PyProof.Rows.callWith_builtin1 (PyProof.Rows.args_cons ?_ rfl) rfl rfl))
  refine Call_ (ld_blt I sG sM boot_set (PyProof.Rows.callWith_type1 (PyProof.Rows.args_cons (thn (he.run pins s σ H _ I h) fun v s1 ⟨x, H1, I1, r1, k⟩ => PyProof.Rows.args_nil ?_) st) st rfl))
  obtain ⟨l, ns, rfl, sq, len, k⟩ := k
  cases r1
  obtain ⟨its, r, pl, hz⟩ := I1.list sq
  refine call_set_lstI ns (I1.ok.hd cm) pl.isList (RZ.intsAre_vals (by simpa using r)) (by unfold scanBound; omega) fun hp t c made hc kept => PyProof.Rows.args_nil ?_
  have hn : H1 s1.heap.objs.size = none := I1.hok.fresh (Nat.le_refl _)
  have I2 : Inv X pins σ (upd H1 s1.heap.objs.size (SetO X.w s1.heap.objs.size (fun j => decide (j ∈ ns)) c)) { s1 with heap := hp, toks := t } :=
    I1.laid (t' := t) (a := s1.heap.objs.size) (fun b u e => kept b u e) (Nat.le_refl _) (setO_new made)
  refine cr_sortedSet cm pins _ σ _ [.ref s1.heap.objs.size] _ Q I2 (.cons rfl .nil) ⟨_, _, _, rfl, upd_same, by omega, fun out q h1 h2 h3 h4 => ?_⟩
  have eo : out = srtS ns := srtS_one h1 fun j => (h2 j).trans decide_eq_true_iff
  rw [eo]
  exact k _ _ _ hn h4
def nSortS : OpN := fun xs S => match xs with
  | [x] => match vw S x with
    | some ds => match intsOf ds with
      | some ns => if ns.length < 64 then .ok (.p (.lst ((srtS ns).map D.int))) S else .bad
      | none => .bad
    | none => .bad
  | _ => .bad
theorem de_sortSet (hK : X.K = G.K) (cm : X.calm = true) (lG : Gl X "sorted") (lM : X.mg "sorted" = none) (sG : Gl X "set") (sM : X.mg "set" = none) (he : PE X e (tD G W ef)) (st : starEach [e] X.env = (false, eval e X.env) :: starEach [] X.env := by rfl) :
    PE X (.Call (.Name "sorted" p) [.Call (.Name "set" p2) [e] [] P] [] pp) (tD G W (dCall nSortS (aCons ef aNil))) := by
  refine wkE (sort_set_of cm lG lM sG sM he st) fun σ H Q ⟨ρ, B, φ, S, w, en, h⟩ => ?_
  have h : WP G W σ H B φ ((ef ρ S).bind fun x S1 => nSortS [x] S1) fun d H' B' φ' S' => ∀ v, RepV G B' φ' d v → Q v H' := by
    have e : dCall nSortS (aCons ef aNil) ρ S = (ef ρ S).bind fun x S1 => nSortS [x] S1 := by
      unfold dCall aCons aNil
      cases ef ρ S <;> rfl
    rw [e] at h; exact h
  refine tD.run w en (WP.fst h) fun d v H1 B1 φ1 S1 x1 w1 en1 r1 k => ?_
  unfold nSortS at k
  dsimp only at k
  split at k
  · rename_i ds hv
    split at k
    · rename_i ns hn
      split at k
      · rename_i hl
        obtain ⟨a, xs, rfl, s1, r2⟩ := vw_at w1 r1 hv
        refine ⟨a, ns, rfl, ?_, hl, fun b o q hb hq => ?_⟩
        · rw [hK, ← ints_at' hn r2]
          exact SqL.of s1
        · have w2 := w1.alloc (o := o) hb
          have x2 := Xt.alloc (o := o) w1 hb
          exact k _ _ _ (x2.trans (Xt.alloc w2 hq)) (w2.alloc hq) _ (rep_lst.mpr ⟨q, _, rfl, upd_same, Reps.ints _⟩)
      · exact k.elim
    · exact k.elim
  · exact k.elim
/-! ### a written dict of two numbers -/
theorem de_dki1 {k v : Int} {j1 j2 : Nat} {p1 p2 : Pos} (hl : [some (Expr.Constant (.int k) j1 p1)].length = [Expr.Constant (.int v) j2 p2].length := by rfl) :
    PE X (.Dict [some (.Constant (.int k) j1 p1)] [.Constant (.int v) j2 p2] pos) (tD G W (dC (.dki [(k, v)]))) := by
  refine wkE (pe_disp (pps_cons pe_int pe_int pps_nil) (by rfl) hl (fun z => by cases z) (by show 1 ≤ 15; omega)) fun σ H Q ⟨ρ, B, φ, S, w, en, h⟩ => ?_
  intro a ha
  refine ⟨upd_same, [(Sum.inl k, V.int v)], rfl, by show 1 ≤ 15; omega, ?_⟩
  have em : mergeK [] [((Sum.inl k : Key), V.int v)] = [(Sum.inl k, V.int v)] := rfl
  rw [em]
  have hu : upd (upd H a (.dK [])) a (.dK [(Sum.inl k, V.int v)]) = upd H a (.dK [(Sum.inl k, V.int v)]) := by
    funext b
    unfold upd
    split <;> rfl
  rw [hu]
  have h : ∀ H' B' φ', Xt H B φ H' B' φ' → Wd G H' B' φ' S → ∀ v', RepV G B' φ' (.p (.dki [(k, v)])) v' → Q v' H' := h
  refine h _ _ _ (Xt.alloc w ha) (w.alloc ha) _ ?_
  show Rep G _ (.dki _) _
  unfold Rep
  exact ⟨a, rfl, upd_same⟩
end
end DL

set_option maxHeartbeats 4000000
namespace DL
open PySem L2
open PySem.Spec PyProof.Rows
/-! ### sorted(t), t a tuple of texts -/
theorem cr_sortT {X : Cx} : CallR X (.builtin "sorted") (fun vs H Q => ∃ (a : Addr) (xs : List Str), vs = [.ref a] ∧ SqT X.K H a (xs.map V.str) ∧ xs.length < 64 ∧ ∀ (ys : List Str) (p : Addr), ys.Perm xs → sortedS ys = true → H p = none → Q (.ref p) (upd H p (.lst (ys.map V.str)))) := by
  intro pins s σ H vs us Q I r h
  obtain ⟨a, xs, rfl, hs, h64, q⟩ := h
  obtain ⟨its, rv, p, hz⟩ := I.tuple hs
  rw [Vals.ref1 r]
  have hlen0 := rv.length
  rw [List.length_map] at hlen0
  have hS := rv.strs
  have p : s.heap.IsTuple a its.toArray := p
  obtain ⟨o, ho, hc, n, hd⟩ := p
  refine PySem.Calls.call_function_entry PyProof.Rows.kind_sorted PyProof.Rows.plain_sorted PyProof.Rows.entry_sorted (PyProof.Rows.args_sorted1 _) ?_
  unfold Builtin.«sorted»
  refine wpAny_bind (m := checkCount "sorted" 1 1 _) (wpAny_pure (wpAny_bind (wpAny_collect_seq a (.inr rfl) ho hc hd (fun h' hk => ?_) (by rw [List.size_toArray, sizeLine_eq]; omega))))
  have et : its.toArray.toList = its := by simp
  rw [et]
  have I1 : Inv X pins σ H { s with heap := h' } := I.kept (t' := s.toks) hk
  refine wpAny_bind (wpAny_newList ?_)
  have hoL : (h'.push (seqObj "list" its.toArray 0)).get? h'.objs.size = some (seqObj "list" its.toArray 0) := Heap.get?_push_size _ rfl
  have hn : H h'.objs.size = none := I1.hok.fresh (Nat.le_refl _)
  have hl0 : (xs.map V.str).length ≤ sizeLine := by rw [List.length_map]; exact small64 h64
  have I2 : Inv X pins σ (upd H h'.objs.size (.lst (xs.map V.str))) { s with heap := h'.push (seqObj "list" its.toArray 0) } :=
    I1.laid (t' := s.toks) (a := h'.objs.size) (fun _ _ e => Heap.get?_push_of_some _ e) (Nat.le_refl _) ⟨hl0, its, 0, rv, hoL⟩
  show wpAny _ _ _ _ _ { s with heap := h'.push (seqObj "list" its.toArray 0) }
  refine wpAny_bind (wpAny_holding (wpAny_call_entry PyProof.Rows.slot_list_sort ⟨_, hoL, rfl⟩ PyProof.Rows.entry_list_sort
    (PyProof.Rows.list_sort_treeK PyProof.Rows.strKind_oneLt hoL hS.keysOf (fun v₁ v₂ rest e => PyProof.Rows.keyKind_strs (by rw [← e]; exact hS)) (by rw [← hlen0]; exact h64) fun st' a1 a2 => ⟨_, rfl, ?_⟩) (PyProof.Rows.args_list_sort _)))
  refine wpAny_pure ⟨_, rfl, ?_⟩
  obtain ⟨ys, h1, h2, h3⟩ := PyProof.Rows.sorted_out_str hS a1 a2
  obtain ⟨ep, he'⟩ := PyProof.Rows.sortedHeap_at (vs := its) (out := (arrOf st').map (·.2)) hoL
  have hlen : (ys.map V.str).length ≤ sizeLine := by rw [List.length_map, h2.length_eq]; exact small64 h64
  have e2 : upd (upd H h'.objs.size (.lst (xs.map V.str))) h'.objs.size (.lst (ys.map V.str)) = upd H h'.objs.size (.lst (ys.map V.str)) := by
    funext b
    by_cases hb : b = h'.objs.size
    · subst hb; rw [upd_same, upd_same]
    · rw [upd_ne hb, upd_ne hb, upd_ne hb]
  refine ⟨.ref h'.objs.size, upd H h'.objs.size (.lst (ys.map V.str)), ?_, rfl, q ys _ h2 h3 hn⟩
  rw [← e2]
  exact I2.write (e := h'.objs.size) (t' := s.toks) (by rw [upd_same]; trivial) (.inl rfl) (fun b u hb hu => by rw [PyProof.Rows.sortedHeap_old hb (Heap.lt_size hu)]; exact hu) ⟨_, he'⟩ ⟨hlen, ((arrOf st').map (·.2)).toList, ep, vals_of_strs h1, he'⟩
/-! ### the names of points, sorted -/
def strsOf : List D → Option (List Str)
  | [] => some []
  | .str x :: r => (strsOf r).map (x :: ·)
  | _ :: _ => none
theorem strs_at {G : Gx} {B : Hp} : ∀ {ds : List D} {ys : List Str} {vs : List V}, strsOf ds = some ys → Reps G B ds vs → vs = ys.map V.str
  | [], ys, vs, h, r => by
    cases h
    unfold Reps at r; exact r
  | d :: ds, ys, vs, h, r => by
    unfold Reps at r
    obtain ⟨x, t, rfl, r1, r2⟩ := r
    cases d with
    | str z =>
      unfold strsOf at h
      cases e : strsOf ds with
      | none => rw [e] at h; cases h
      | some zs =>
        rw [e] at h
        cases h
        unfold Rep at r1
        rw [r1, strs_at e r2]; rfl
    | _ => cases h
def ptsU : List Str := ["start", "rows", "ways", "out", "kind"]
def ptsS : List Str := ["kind", "out", "rows", "start", "ways"]
theorem pts_cases : (ptsU.all fun a => ptsU.all fun b => ptsU.all fun c => ptsU.all fun d => ptsU.all fun e => !(sortedS [a, b, c, d, e]) || !(decide [a, b, c, d, e].Nodup) || ([a, b, c, d, e] == ptsS)) = true := by decide +kernel
theorem pts_nd : ptsU.Nodup := by decide
theorem pts_one {ys : List Str} (p : ys.Perm ptsU) (h : sortedS ys = true) : ys = ptsS := by
  have hl : ys.length = 5 := p.length_eq
  have hn : ys.Nodup := p.nodup_iff.mpr pts_nd
  match ys, hl with
  | [a, b, c, d, e], _ =>
    have m : ∀ z ∈ [a, b, c, d, e], z ∈ ptsU := fun z hz => p.mem_iff.mp hz
    have q := pts_cases
    have q := List.all_eq_true.mp q a (m a (by simp))
    have q := List.all_eq_true.mp q b (m b (by simp))
    have q := List.all_eq_true.mp q c (m c (by simp))
    have q := List.all_eq_true.mp q d (m d (by simp))
    have q := List.all_eq_true.mp q e (m e (by simp))
    rw [h, decide_eq_true hn] at q
    exact eq_of_beq (by simpa using q)
section
variable {X : Cx} {G : Gx} {W : WX} {e o : Expr} {es : List Expr} {ef eg : Ef} {af kf : Af} {p p2 pos P pp : Pos} {H B : Hp} {φ : List Addr} {S : Sto} {σ : L2.St} {ρ : Nv} {ta : TE} {k n : Nat} {f : Addr} {fd : FuncData} {ps : List Str} {x : Str}
/-- sorted(POINTS) -/
def nSortP : OpN := fun xs S => match xs with
  | [.p (.tup ds)] => if strsOf ds = some ptsU then .ok (.p (.lst (ptsS.map D.str))) S else .bad
  | _ => .bad
theorem Reps.strs {G : Gx} {B : Hp} : ∀ ys : List Str, Reps G B (ys.map D.str) (ys.map V.str)
  | [] => Reps.nil
  | y :: ys => Reps.cons (by unfold Rep; rfl) (Reps.strs ys)
theorem nSortP_ok : OkN G W (fun vs H Q => ∃ (a : Addr) (xs : List Str), vs = [.ref a] ∧ SqT G.K H a (xs.map V.str) ∧ xs.length < 64 ∧ ∀ (ys : List Str) (p : Addr), ys.Perm xs → sortedS ys = true → H p = none → Q (.ref p) (upd H p (.lst (ys.map V.str)))) nSortP := by
  intro H B φ S σ xs vs Q w r h
  unfold nSortP at h
  split at h
  · split at h
    · rename_i ds hd
      obtain ⟨v, rfl, rv⟩ := rvs1 r
      obtain ⟨a, ys, rfl, s1, q1⟩ := rep_tup.mp rv
      refine ⟨a, ptsU, rfl, by rw [← strs_at hd q1]; exact sqT_mono w.sub s1, by decide, fun zs l hp hw hl => ?_⟩
      rw [pts_one hp hw]
      exact h _ _ _ (Xt.alloc w hl) (w.alloc hl) _ (rep_lst.mpr ⟨l, _, rfl, upd_same, Reps.strs _⟩)
    · exact h.elim
  · exact h.elim
/-! ### t.index(x), t a tuple of texts -/
def idS (z : Str) : List Str → Option Nat
  | [] => none
  | y :: r => if y = z then some 0 else (idS z r).map (· + 1)
theorem idS_at {z : Str} : ∀ {ys : List Str} {j : Nat}, idS z ys = some j → ys[j]? = some z ∧ ∀ m, m < j → ys[m]? ≠ some z
  | [], j, h => by cases h
  | y :: r, j, h => by
    unfold idS at h
    split at h
    · rename_i e
      cases h
      exact ⟨by rw [e]; rfl, fun m hm => by omega⟩
    · rename_i e
      cases q : idS z r with
      | none => rw [q] at h; cases h
      | some i =>
        rw [q] at h
        cases h
        obtain ⟨h1, h2⟩ := idS_at q
        refine ⟨h1, fun m hm => ?_⟩
        cases m with
        | zero => exact fun w => e (by simpa using w)
        | succ m =>
        have hm : m + 1 < i + 1 := hm
        exact h2 m (by omega)
def dIndexC (ys : List Str) (fe : Ef) : Ef := fun ρ S => (fe ρ S).bind fun d S1 => match d with
  | .p (.str z) => match idS z ys with
    | some j => .ok (.p (.int (j : Nat))) S1
    | none => .bad
  | _ => .bad
theorem de_indexC {c : Str} {cp apos : Pos} {a : Addr} {ys : List Str} (hK : X.K = G.K) (hg : Gl X c) (hm : X.mg c = some (.ref a)) (hT : ∃ ob, G.K.lookup a = some ob ∧ ob.cls = .type "tuple" ∧ ob.dict = none) (hq : SqT G.K (fun _ => none) a (ys.map V.str)) (he : PE X e (tD G W eg)) (hd : (c == ("__debug__" : Str)) = false := by decide)
    (hbase : attributeBase (.Name c cp) "index" X.env (eval (.Name c cp) X.env) = eval (.Name c cp) X.env := by rfl)
    (hfew : ((backTo pos (starEach [e] X.env)).all (fun x => !x.1) && (backToKw pos (keywordEach [] X.env)).all (fun x => x.1.isSome) && decide ([e].length + ([] : List Keyword).length + (if ([] : List Keyword).isEmpty then 0 else 1) < 30)) = true := by rfl)
    (hline : (apos.endLine == pos.line) = true := by rfl) (hs : starEach [e] X.env = (false, eval e X.env) :: starEach [] X.env := by rfl) (hpl : (backTo pos (starEach [] X.env)).any (·.1) = false := by rfl) :
    PE X (.Call (.Attribute (.Name c cp) "index" apos) [e] [] pos) (tD G W (dIndexC ys eg)) := by
  refine wkE (pe_bm PySem.F.plainAttrs_tuple PySem.F.slot_tuple_index PySem.F.type_tuple_index L2.mt_tup_index (pe_glob hg hm (v := .ref a) rfl hd) (pa_cons he pa_nil hs) hbase hfew hline hs hpl) fun σ H Q ⟨ρ, B, φ, S, w, en, h⟩ => ?_
  refine ⟨.inr (.inl ⟨rfl, hK ▸ hT⟩), ?_⟩
  show tD G W eg σ H _
  refine tD.run w en (WP.fst h) fun d v2 H2 B2 φ2 S2 x2 w2 en2 r2 k2 => ?_
  split at k2
  · rename_i z
    split at k2
    · rename_i j hj
      obtain ⟨h1, h2⟩ := idS_at hj
      refine ⟨a, ys, z, j, rfl, by rw [rep_str.mp r2], ?_, h1, h2, k2 H2 B2 φ2 Xt.refl w2 _ (rep_int.mpr rfl)⟩
      rw [hK]
      exact sqT_mono (fun _ _ z => by cases z) hq
    · exact k2.elim
  · exact k2.elim
/-! ### xs.extend(ys), ys a new list -/
def dExt (fo fe : Ef) : Ef := fun ρ S => (fo ρ S).bind fun o S1 => match o with
  | .hnd n => match S1[n]? with
    | some (.lst _) => (fe ρ S1).bind fun d S2 => match d, S2[n]? with
      | .p (.lst es), some (.lst ds) => if ds.length + es.length < big then .ok (.p .non) (S2.set n (.lst (ds ++ es))) else .bad
      | _, _ => .bad
    | _ => .bad
  | _ => .bad
theorem de_ext {apos : Pos} (ho : PE X o (tD G W ef)) (he : PE X e (tD G W eg))
    (hbase : attributeBase o "extend" X.env (eval o X.env) = eval o X.env := by rfl)
    (hfew : ((backTo pos (starEach [e] X.env)).all (fun x => !x.1) && (backToKw pos (keywordEach [] X.env)).all (fun x => x.1.isSome) && decide ([e].length + ([] : List Keyword).length + (if ([] : List Keyword).isEmpty then 0 else 1) < 30)) = true := by rfl)
    (hline : (apos.endLine == pos.line) = true := by rfl) (hs : starEach [e] X.env = (false, eval e X.env) :: starEach [] X.env := by rfl) (hpl : (backTo pos (starEach [] X.env)).any (·.1) = false := by rfl) :
    PE X (.Call (.Attribute o "extend" apos) [e] [] pos) (tD G W (dExt ef eg)) := by
  refine wkE (pe_bm PySem.F.plainAttrs_list PySem.F.slot_list_extend PySem.F.type_list_extend mt_extend ho (pa_cons he pa_nil hs) hbase hfew hline hs hpl) fun σ H Q ⟨ρ, B, φ, S, w, en, h⟩ => tD.run w en (WP.fst h) fun o v H1 B1 φ1 S1 x1 w1 en1 r1 q1 => ?_
  split at q1
  · rename_i n
    split at q1
    · rename_i ds0 hs0
      have r1 : ∃ a, φ1[n]? = some a ∧ v = .ref a := r1
      obtain ⟨a, hφ, rfl⟩ := r1
      have c0 : CellR G H1 B1 φ1 a (.lst ds0) := w1.cell n a _ hφ hs0
      obtain ⟨_, xs0, hx0, _⟩ := c0
      refine ⟨.inl ⟨rfl, xs0, SqL.of hx0⟩, ?_⟩
      show tD G W eg σ H1 _
      refine tD.run w1 en1 (WP.fst q1) fun d v2 H2 B2 φ2 S2 x2 w2 en2 r2 q2 => ?_
      split at q2
      · rename_i es ds hs
        split at q2
        · rename_i hl
          have hφ2 : φ2[n]? = some a := by
            obtain ⟨t, rfl⟩ := x2.p
            rw [List.getElem?_append_left (List.getElem?_eq_some_iff.mp hφ).1]; exact hφ
          have c2 : CellR G H2 B2 φ2 a (.lst ds) := w2.cell n a _ hφ2 hs
          obtain ⟨hb, xs, hx, rr⟩ := c2
          obtain ⟨b, zs, rfl, hz, rz⟩ := rep_lst.mp r2
          refine ⟨a, b, xs, zs, rfl, rfl, hx, w2.sub _ _ hz, by rw [← rr.length, ← rz.length]; have := big_eq; omega, ?_⟩
          exact q2 _ B2 φ2 (Xt.set hφ2) (w2.set hφ2 hs (fun z => nomatch z) hb ⟨hb, _, upd_same, rr.append rz⟩ rfl) _ (rep_non.mpr rfl)
        · exact q2.elim
      · exact q2.elim
    · exact q1.elim
  · exact q1.elim
/-! ### a keyword-only argument with a default: f(a, b) and f(a, b, limit = c) -/
theorem funD_of {K : PySem.W.Frag} {qual nm : Str} {st : Stmt} {oc doc pm cd ct : Value} {od an : Option Addr} {osl : Array (Option Value)} {Dk : Addr} {v : Int} {tk : Tok} (l : K.lookup f = some ⟨oc, od, .func (PySem.W.fnOf x qual (defArgs st) (defBody st) (defScope st) .none (.ref Dk) doc pm an cd ct), osl⟩)
    (c : PySem.W.codeIn K cd qual = true) (k : PySem.W.keepIn K (.ref f) = true) (hn : PySem.W.nsIn K Dk nm = some (some (.int v tk))) :
    FunD K x qual (defArgs st) (defBody st) (defScope st) [] [(nm, V.int v)] f (PySem.W.fnOf x qual (defArgs st) (defBody st) (defScope st) .none (.ref Dk) doc pm an cd ct) :=
  ⟨⟨oc, od, .none, .ref Dk, doc, pm, an, cd, ct, osl, rfl, l, c, .inl ⟨rfl, rfl⟩, .inr ⟨Dk, rfl, fun q hq => by rw [List.mem_singleton.mp hq]; exact ⟨_, hn, _, rfl⟩⟩⟩, k⟩
def aEnd (af : Af) (dds : List D) : Af := fun ρ S => (af ρ S).bind fun xs S1 => .ok (xs ++ dds.map Dv.p) S1
theorem RepVs.app {φ : List Addr} : ∀ {xs ys : List Dv} {vs us : List V}, RepVs G B φ xs vs → RepVs G B φ ys us → RepVs G B φ (xs ++ ys) (vs ++ us)
  | [], ys, vs, us, r, r2 => by
    cases (show vs = [] from r)
    exact r2
  | d :: xs, ys, vs, us, r, r2 => by
    obtain ⟨v, t, rfl, h, k⟩ := r
    exact ⟨v, t ++ us, rfl, h, RepVs.app k r2⟩
theorem de_callD {m : List D → PO} {dds : List D} {dvs : List V} {j : Nat} (tk : Takes X W) (F : FnOk X.prog X.w X.K X.mg X.base (L2.CX X.prog X.w) k f fd ps (spP G n m)) (hr : Room k X.A) (hg : Gl X x) (hm : X.mg x = some (.ref f)) (hk : PySem.W.keepIn X.K (.ref f) = true) (hb : ∃ dsv, Vals dvs dsv ∧ Binds X.K fd ps dsv) (hv : ∀ B, Reps G B dds dvs)
    (hj : j + dds.length = n) (hn : ∀ ρ S xs S', af ρ S = .ok xs S' → xs.length = j)
    (ha : PA X (e :: es) (tA G W af)) (hdb : (x == ("__debug__" : Str)) = false := by decide) (he : starEach (e :: es) X.env = (false, eval e X.env) :: starEach es X.env := by rfl) (hpl : (backTo pos (starEach es X.env)).any (·.1) = false := by rfl) :
    PE X (.Call (.Name x p) (e :: es) [] pos) (tD G W (dCallP m (aEnd af dds))) := by
  obtain ⟨dsv, hvd, hb⟩ := hb
  refine wkE (pe_callSD F hr hg hm hk hb hvd (fun σ => passAt tk σ) ha hdb he hpl) fun σ H Q ⟨ρ, B, φ, S, w, en, q⟩ => ?_
  cases qa : af ρ S with
  | bad => unfold dCallP aEnd at q; rw [qa] at q; exact q.elim
  | exc x0 S0 => unfold dCallP aEnd at q; rw [qa] at q; exact ⟨ρ, B, φ, S, w, en, by rw [qa]; exact q⟩
  | ok xs0 S0 =>
    have l0 := hn ρ S xs0 S0 qa
    refine ⟨ρ, B, φ, S, w, en, ?_⟩
    unfold dCallP aEnd at q
    rw [qa] at q ⊢
    intro H1 B1 φ1 x1 w1 vs r1
    have q1 := WP.rebase x1 q
    have q1 : WP G W σ H1 B1 φ1 (match allP (xs0 ++ dds.map Dv.p) with
      | some ds => match m ds with
        | .ok d => .ok (.p d) S0
        | .exc x => .exc x S0
        | .bad => .bad
      | none => .bad : Out Dv) (fun d H' B' φ' _ => ∀ v, RepV G B' φ' d v → Q v H') := q1
    have r2 : RepVs G B1 φ1 (xs0 ++ dds.map Dv.p) (vs ++ dvs) := r1.app (reps_vs (hv B1))
    cases qp : allP (xs0 ++ dds.map Dv.p) with
    | none => rw [qp] at q1; exact q1.elim
    | some ds =>
      rw [qp] at q1
      have l1 : ds.length = n := by rw [(allP_rep qp r2).length, ← r2.length, List.length_append, List.length_map, l0, hj]
      exact spP_of l1 w1 r2 qp q1
def tCallNS (n m : Nat) (sp : Sp) (gV : List V → List V → List V) (E : L2.St → XK) (t tk : TA) : TE := fun σ H Q => t σ H fun vs H1 => tk σ H1 fun zs H2 => vs.length = n ∧ zs.length = m ∧ sp (gV vs zs) H2 Q (E σ)
theorem pe_callNS {CX : CXT} {sp : Sp} {ks : List Str} {kws : List Keyword} {t tk : TA} {E : L2.St → XK} {g : List Value → List Value → List Value} {gV : List V → List V → List V} (F : FnOk X.prog X.w X.K X.mg X.base CX k f fd ps sp) (hr : Room k X.A) (hg : Gl X x) (hm : X.mg x = some (.ref f)) (hk : PySem.W.keepIn X.K (.ref f) = true) (hb : KBn X.K fd ps n ks g gV) (hx : ∀ σ, PassesAt CX X σ (E σ))
    (ha : PA X (e :: es) t) (hkw : PK X kws tk) (hall : (backToKw pos (keywordEach kws X.env)).all (·.1.isSome) = true := by rfl) (hks : (backToKw pos (keywordEach kws X.env)).filterMap (·.1) = ks := by rfl)
    (hdb : (x == ("__debug__" : Str)) = false := by decide) (he : starEach (e :: es) X.env = (false, eval e X.env) :: starEach es X.env := by rfl)
    (hpl : ((backTo pos (starEach (e :: es) X.env)).any (·.1) || (backToKw pos (keywordEach kws X.env)).any (·.1.isNone)) = false := by rfl) :
    PE X (.Call (.Name x p) (e :: es) kws pos) (tCallNS n ks.length sp gV E t tk) := by
  refine ⟨fun pins s σ H Q I h => ?_⟩
  refine wpAny_Call_Name_kw (ld_glob I hg hm ?_ hdb)
  refine PySem.W.callWith_KW (h₀ := X.base) I.ok.mod.kin hk hall (thn (ha.run pos pins s σ H _ I h) fun us s1 ⟨vs, H1, I1, r, q⟩ => ?_) hpl he
  refine thn (hkw.run pos pins s1 σ H1 _ I1 q) fun ws s2 ⟨zs, H2, I2, rz, l1, l2, q2⟩ => ⟨I2.kIn, ?_⟩
  rw [hks]
  have r2 := hb.rel r rz
  refine wpAny_call (codeAny_mono (F.run X.A X.stack s2 H2 ⟨us, ks.zip ws⟩ (g us ws) (gV vs zs) Q (E σ) hr I2.env0 (hb.to s2 us ws I2.kIn (r.length.symm.trans l1) (rz.length.symm.trans l2)) r2 q2) fun r s' hq => ?_)
  cases r with
  | error e => exact hx σ pins H2 s2 e s' I2 hq
  | ok fl =>
    cases fl with
    | ret u => exact I2.after hq
    | next => exact False.elim hq
    | brk => exact False.elim hq
    | cont => exact False.elim hq
def aKw (af : Af) (kf : Ef) : Af := fun ρ S => (af ρ S).bind fun xs S1 => (kf ρ S1).bind fun y S2 => .ok (xs ++ [y]) S2
theorem de_callK {m : List D → PO} {nm : Str} {ke : Expr} {kpos : Pos} {kf : Ef} {j : Nat} {g : List Value → List Value → List Value} (tk : Takes X W) (F : FnOk X.prog X.w X.K X.mg X.base (L2.CX X.prog X.w) k f fd ps (spP G n m)) (hr : Room k X.A) (hg : Gl X x) (hm : X.mg x = some (.ref f)) (hk : PySem.W.keepIn X.K (.ref f) = true) (hb : KBn X.K fd ps j [nm] g fun vs zs => vs ++ zs)
    (hj : j + 1 = n) (hn : ∀ ρ S xs S', af ρ S = .ok xs S' → xs.length = j)
    (ha : PA X (e :: es) (tA G W af)) (hke : PE X ke (tD G W kf)) (hall : (backToKw pos (keywordEach [⟨some nm, ke, kpos⟩] X.env)).all (·.1.isSome) = true := by rfl) (hks : (backToKw pos (keywordEach [⟨some nm, ke, kpos⟩] X.env)).filterMap (·.1) = [nm] := by rfl)
    (hdb : (x == ("__debug__" : Str)) = false := by decide) (he : starEach (e :: es) X.env = (false, eval e X.env) :: starEach es X.env := by rfl)
    (hpl : ((backTo pos (starEach (e :: es) X.env)).any (·.1) || (backToKw pos (keywordEach [⟨some nm, ke, kpos⟩] X.env)).any (·.1.isNone)) = false := by rfl) :
    PE X (.Call (.Name x p) (e :: es) [⟨some nm, ke, kpos⟩] pos) (tD G W (dCallP m (aKw af kf))) := by
  refine wkE (pe_callNS F hr hg hm hk hb (fun σ => passAt tk σ) ha (pk_cons hke pk_nil) hall hks hdb he hpl) fun σ H Q ⟨ρ, B, φ, S, w, en, q⟩ => ?_
  have q : WP G W σ H B φ ((af ρ S).bind fun xs S1 => (kf ρ S1).bind fun y S2 => match allP (xs ++ [y]) with
      | some ds => match m ds with
        | .ok d => .ok (.p d) S2
        | .exc x => .exc x S2
        | .bad => .bad
      | none => .bad : Out Dv) (fun d H' B' φ' _ => ∀ v, RepV G B' φ' d v → Q v H') := by
    have e : dCallP m (aKw af kf) ρ S = ((af ρ S).bind fun xs S1 => (kf ρ S1).bind fun y S2 => match allP (xs ++ [y]) with
      | some ds => match m ds with
        | .ok d => .ok (.p d) S2
        | .exc x => .exc x S2
        | .bad => .bad
      | none => .bad : Out Dv) := by
      unfold dCallP aKw
      cases af ρ S with
      | bad => rfl
      | exc _ _ => rfl
      | ok xs S1 =>
        show ((kf ρ S1).bind fun y S2 => Out.ok (xs ++ [y]) S2).bind _ = (kf ρ S1).bind _
        cases kf ρ S1 <;> rfl
    rw [← e]; exact q
  show tA G W af σ H _
  have hA : af ρ S = .bad ∨ (∃ x0 S0, af ρ S = .exc x0 S0) ∨ ∃ xs0 S0, af ρ S = .ok xs0 S0 := by
    cases af ρ S with
    | bad => exact .inl rfl
    | exc x0 S0 => exact .inr (.inl ⟨_, _, rfl⟩)
    | ok xs0 S0 => exact .inr (.inr ⟨_, _, rfl⟩)
  rcases hA with qa | ⟨x0, S0, qa⟩ | ⟨xs0, S0, qa⟩
  · rw [qa] at q; exact q.elim
  · rw [qa] at q; exact ⟨ρ, B, φ, S, w, en, by rw [qa]; exact q⟩
  · have l0 := hn ρ S xs0 S0 qa
    refine ⟨ρ, B, φ, S, w, en, ?_⟩
    rw [qa] at q ⊢
    intro H1 B1 φ1 x1 w1 vs r1
    have q1 : WP G W σ H1 B1 φ1 ((kf ρ S0).bind fun y S2 => match allP (xs0 ++ [y]) with
      | some ds => match m ds with
        | .ok d => .ok (.p d) S2
        | .exc x => .exc x S2
        | .bad => .bad
      | none => .bad : Out Dv) (fun d H' B' φ' _ => ∀ v, RepV G B' φ' d v → Q v H') := WP.rebase x1 q
    show tD G W kf σ H1 _
    refine tD.run w1 (en.mono x1.b x1.p) (WP.fst q1) fun y v H2 B2 φ2 S2 x2 w2 en2 r2 k2 => ?_
    refine ⟨by rw [← r1.length, l0], rfl, ?_⟩
    have r3 : RepVs G B2 φ2 (xs0 ++ [y]) (vs ++ [v]) := (RepVs.mono x2.b x2.p _ r1).append ⟨v, [], rfl, r2, rfl⟩
    cases qp : allP (xs0 ++ [y]) with
    | none => rw [qp] at k2; exact k2.elim
    | some ds =>
      rw [qp] at k2
      have l1 : ds.length = n := by rw [(allP_rep qp r3).length, ← r3.length, List.length_append, l0, ← hj]; rfl
      exact spP_of l1 w2 r3 qp k2
theorem ok_bad {Pr : Program} {w : World} {K : PySem.W.Frag} {mg : Str → Option Value} {base : Heap} {CX : CXT} : FnOk Pr w K mg base CX k f fd ps (spP G n fun _ => .bad) :=
  ⟨fun vs H Q E ⟨_, _, _, _, _, h⟩ => h.elim, fun A outer s H args us vs Q E _ _ _ _ ⟨_, _, _, _, _, h⟩ => h.elim⟩
end
end DL

set_option maxHeartbeats 4000000
namespace DL
open PySem L2
open PySem.Spec PyProof.Rows
section
variable {X : Cx} {G : Gx} {W : WX} {e : Expr} {ef : Ef} {p p2 pos P pp : Pos} {H B : Hp} {φ : List Addr} {S : Sto} {σ : L2.St} {ρ : Nv} {ta : TE}
theorem room65 {k : Nat} {A : Around} (r : L2.Room k A) : A.units + 65 < cLine := by have := r.un; omega
/-! ### in, not in: deep items -/
def oInD (neg : Bool) : Op2 := fun x y S => match vPy S x, vPy S y with
  | some d, some (.list ds) => if SeqAt.shaped d = true ∧ SeqAt.shaped (.list ds) = true then .ok (.p (.bl (if neg then !ds.any fun z => PyData.eqv z d else ds.any fun z => PyData.eqv z d))) S else .bad
  | _, _ => .bad
theorem oInD_ok : Ok2 G W (rInD G.K) (oInD false) := by
  intro H B φ S σ x y v u Q w r1 r2 h
  unfold oInD at h
  split at h
  · rename_i d ds ha hb
    split at h
    · rename_i hs
      exact ⟨d, ds, vPy_dp w r1 ha, vPy_dp w r2 hb, hs.1, hs.2, h H B φ Xt.refl w _ (rep_bl.mpr rfl)⟩
    · exact h.elim
  · exact h.elim
theorem oNotInD_ok : Ok2 G W (rNotInD G.K) (oInD true) := by
  intro H B φ S σ x y v u Q w r1 r2 h
  unfold oInD at h
  split at h
  · rename_i d ds ha hb
    split at h
    · rename_i hs
      exact ⟨d, ds, vPy_dp w r1 ha, vPy_dp w r2 hb, hs.1, hs.2, h H B φ Xt.refl w _ (rep_bl.mpr rfl)⟩
    · exact h.elim
  · exact h.elim
/-! ### len(set(xs)), xs tuples of numbers -/
def ddT : List (List Int) → List (List Int)
  | [] => []
  | x :: r => if x ∈ ddT r then ddT r else x :: ddT r
theorem ddT_mem {k : List Int} : ∀ {ns : List (List Int)}, k ∈ ddT ns ↔ k ∈ ns
  | [] => Iff.rfl
  | x :: r => by
    unfold ddT
    split
    · rename_i h
      rw [ddT_mem (ns := r), List.mem_cons]
      exact ⟨.inr, fun q => q.elim (fun e => by rw [e]; exact ddT_mem.mp h) id⟩
    · rw [List.mem_cons, List.mem_cons, ddT_mem (ns := r)]
theorem ddT_nd : ∀ ns : List (List Int), (ddT ns).Nodup
  | [] => List.nodup_nil
  | x :: r => by
    unfold ddT
    split
    · exact ddT_nd r
    · rename_i h
      exact List.nodup_cons.mpr ⟨h, ddT_nd r⟩
theorem ddT_id : ∀ {ns : List (List Int)}, ns.Nodup → ddT ns = ns
  | [], _ => rfl
  | x :: r, h => by
    obtain ⟨h1, h2⟩ := List.nodup_cons.mp h
    unfold ddT
    rw [ddT_id h2, if_neg h1]
theorem ddT_len {l ns : List (List Int)} (h : l.Nodup) (hm : ∀ k, k ∈ l ↔ k ∈ ns) : l.length = (ddT ns).length :=
  ((List.perm_ext_iff_of_nodup h (ddT_nd ns)).mpr fun k => (hm k).trans ddT_mem.symm).length_eq
def tupsOf : List D → Option (List (List Int))
  | [] => some []
  | .tup ds :: r => match intsOf ds, tupsOf r with
    | some ns, some nss => some (ns :: nss)
    | _, _ => none
  | _ :: _ => none
theorem tups_at : ∀ {ds : List D} {nss : List (List Int)} {vs : List V}, tupsOf ds = some nss → Reps G B ds vs → ∃ ks : List (Addr × List Int), ks.map (·.2) = nss ∧ vs = ks.map (fun p => V.ref p.1) ∧ ∀ p ∈ ks, SqT G.K B p.1 (p.2.map V.int)
  | [], nss, vs, h, r => by
    cases h
    unfold Reps at r
    exact ⟨[], rfl, r, fun p hp => by cases hp⟩
  | d :: ds, nss, vs, h, r => by
    unfold Reps at r
    obtain ⟨x, t, rfl, r1, r2⟩ := r
    cases d with
    | tup es =>
      unfold tupsOf at h
      split at h
      · rename_i ns nss' h1 h2
        cases h
        obtain ⟨ks, e1, e2, e3⟩ := tups_at h2 r2
        unfold Rep at r1
        obtain ⟨a, xs, rfl, s1, q1⟩ := r1
        refine ⟨(a, ns) :: ks, by rw [List.map_cons, e1], by rw [List.map_cons, e2], fun p hp => ?_⟩
        rcases List.mem_cons.mp hp with rfl | hp
        · show SqT G.K B a (ns.map V.int)
          rw [← ints_at' h1 q1]; exact s1
        · exact e3 p hp
      · cases h
    | _ => cases h
theorem len_setT_of (cm : X.calm = true) (hu : X.A.units + 3 < cLine) (lG : Gl X "len") (lM : X.mg "len" = none) (sG : Gl X "set") (sM : X.mg "set" = none) (he : PE X e ta) (st : starEach [e] X.env = (false, eval e X.env) :: starEach [] X.env := by rfl) :
    PE X (.Call (.Name "len" p) [.Call (.Name "set" p2) [e] [] P] [] pp) (fun σ H Q => ta σ H fun x H1 => ∃ (l : Addr) (ks : List (Addr × List Int)), x = .ref l ∧ SqL X.K H1 l (ks.map fun p => V.ref p.1) ∧ (∀ p ∈ ks, SqT X.K H1 p.1 (p.2.map V.int)) ∧ ks.length < 64 ∧ Q (.int ((ddT (ks.map (·.2))).length : Nat)) H1) := by
  constructor
  intro pins s σ H Q I h
  refine Call_ (ld_blt I lG lM boot_len (PyProof.Rows.callWith_builtin1 (PyProof.Rows.args_cons ?_ rfl) rfl rfl))
  refine Call_ (ld_blt I sG sM boot_set (PyProof.Rows.callWith_type1 (PyProof.Rows.args_cons (thn (he.run pins s σ H _ I h) fun v s1 ⟨x, H1, I1, r1, k⟩ => PyProof.Rows.args_nil ?_) st) st rfl))
  obtain ⟨l, ks, rfl, sq, hk, len, k⟩ := k
  cases r1
  obtain ⟨its, r, pl, hz⟩ := I1.list sq
  refine call_set_tups (P := X.prog) (w := X.w) ks (I1.ok.hd cm) pl.isList (by simpa using refs_of_vals r) (fun p hp => I1.isT (hk p hp)) len hu fun h' t L es ep tb R g kept => PyProof.Rows.args_nil ?_
  have I2 : Inv X pins σ H1 { s1 with heap := h', toks := t } := I1.kept fun b o e => kept b o e
  have eL : L.length = (ddT (ks.map (·.2))).length := by
    rw [← List.length_map (f := fun p : Addr × List Int => p.2)]
    refine ddT_len R.nd fun k => ?_
    constructor
    · intro hk
      obtain ⟨p, hp, e⟩ := List.mem_map.mp hk
      exact List.mem_map.mpr ⟨p, List.mem_of_mem_take (g.sub p hp), e⟩
    · intro hk
      obtain ⟨p, hp, e⟩ := List.mem_map.mp hk
      rw [← e]
      exact g.all p (by rw [List.take_length]; exact hp)
  have R' : SetTR X.prog X.w ({ s1 with heap := h', toks := t } : Shared).heap s1.heap.objs.size L es ep tb := R
  obtain ⟨o, ho, hex, hd⟩ := R'.ob
  have hsz := R'.size
  have hfew := R'.few
  refine call_len_set ho hex hd R'.fits (by omega) ⟨.int ((ddT (ks.map (·.2))).length : Nat), H1, I2.tok _, ⟨_, by rw [hsz, eL]⟩, k⟩
def nLenSetT : OpN := fun xs S => match xs with
  | [x] => match vw S x with
    | some ds => match tupsOf ds with
      | some nss => if nss.length < 64 then .ok (.p (.int (ddT nss).length)) S else .bad
      | none => .bad
    | none => .bad
  | _ => .bad
theorem de_lenSetT (hK : X.K = G.K) (cm : X.calm = true) (hu : X.A.units + 3 < cLine) (lG : Gl X "len") (lM : X.mg "len" = none) (sG : Gl X "set") (sM : X.mg "set" = none) (he : PE X e (tD G W ef)) (st : starEach [e] X.env = (false, eval e X.env) :: starEach [] X.env := by rfl) :
    PE X (.Call (.Name "len" p) [.Call (.Name "set" p2) [e] [] P] [] pp) (tD G W (dCall nLenSetT (aCons ef aNil))) := by
  refine wkE (len_setT_of cm hu lG lM sG sM he st) fun σ H Q ⟨ρ, B, φ, S, w, en, h⟩ => ?_
  have h : WP G W σ H B φ ((ef ρ S).bind fun x S1 => nLenSetT [x] S1) fun d H' B' φ' S' => ∀ v, RepV G B' φ' d v → Q v H' := by
    have e : dCall nLenSetT (aCons ef aNil) ρ S = (ef ρ S).bind fun x S1 => nLenSetT [x] S1 := by
      unfold dCall aCons aNil
      cases ef ρ S <;> rfl
    rw [e] at h; exact h
  refine tD.run w en (WP.fst h) fun d v H1 B1 φ1 S1 x1 w1 en1 r1 k => ?_
  unfold nLenSetT at k
  dsimp only at k
  split at k
  · rename_i ds hv
    split at k
    · rename_i nss hn
      split at k
      · rename_i hl
        obtain ⟨a, xs, rfl, s1, r2⟩ := vw_at w1 r1 hv
        obtain ⟨ks, e1, e2, e3⟩ := tups_at hn r2
        subst e1
        rw [List.length_map] at hl
        refine ⟨a, ks, rfl, by rw [← e2]; exact SqL.of s1, fun p hp => by rw [hK]; exact sqT_mono w1.sub (e3 p hp), hl, k H1 B1 φ1 Xt.refl w1 _ (rep_int.mpr rfl)⟩
      · exact k.elim
    · exact k.elim
  · exact k.elim
end
end DL

set_option maxHeartbeats 4000000
namespace DL
open PySem L2
open PySem.Spec PyProof.Rows
/-! ### sorted(tuples of pairs): a pair is a text and a text or a number -/
abbrev Pk := Str × (Int ⊕ Str)
abbrev Atm := Int ⊕ List Nat
def vtPy : Int ⊕ Str → PyData
  | .inl i => .int i
  | .inr x => .str x
def vtA : Int ⊕ Str → Atm
  | .inl i => .inl i
  | .inr x => .inr x.cps.toList
def pkPy (x : Pk) : PyData := .tuple [.str x.1, vtPy x.2]
def pkA (x : Pk) : List Atm := [.inr x.1.cps.toList, vtA x.2]
def ksPy (ks : List Pk) : PyData := .tuple (ks.map pkPy)
def ksA (ks : List Pk) : List Atm := ks.flatMap pkA
/-- pairs of one text have values of one kind -/
def same2 : Int ⊕ Str → Int ⊕ Str → Bool
  | .inl _, .inl _ => true
  | .inr _, .inr _ => true
  | _, _ => false
def pkC (x y : Pk) : Bool := (x.1 != y.1) || same2 x.2 y.2
theorem cps_inj {x y : Str} (h : x.cps.toList = y.cps.toList) : x = y := PySem.W.str_of_cps h
theorem vtA_inj {x y : Int ⊕ Str} (h : vtA x = vtA y) : x = y := by
  cases x <;> cases y <;> simp only [vtA, Sum.inl.injEq, Sum.inr.injEq, reduceCtorEq] at h ⊢
  · exact h
  · exact cps_inj h
theorem vtPy_inj {x y : Int ⊕ Str} (h : vtPy x = vtPy y) : x = y := by
  cases x <;> cases y <;> simp only [vtPy, PyData.int.injEq, PyData.str.injEq, reduceCtorEq] at h ⊢ <;> rw [h]
theorem pkPy_inj {x y : Pk} (h : pkPy x = pkPy y) : x = y := by
  simp only [pkPy, PyData.tuple.injEq, List.cons.injEq, PyData.str.injEq, and_true] at h
  exact Prod.ext h.1 (vtPy_inj h.2)
theorem ksPy_inj {x y : List Pk} (h : ksPy x = ksPy y) : x = y := by
  simp only [ksPy, PyData.tuple.injEq] at h
  revert y
  induction x with
  | nil => intro y h; cases y with
    | nil => rfl
    | cons => cases h
  | cons a x ih => intro y h; cases y with
    | nil => cases h
    | cons b y =>
      simp only [List.map_cons, List.cons.injEq] at h
      rw [pkPy_inj h.1, ih h.2]
theorem ksA_cons (x : Pk) (xs : List Pk) : ksA (x :: xs) = .inr x.1.cps.toList :: vtA x.2 :: ksA xs := rfl
theorem ksA_inj : ∀ {x y : List Pk}, ksA x = ksA y → x = y
  | [], [], _ => rfl
  | [], b :: y, h => by rw [ksA_cons] at h; cases h
  | a :: x, [], h => by rw [ksA_cons] at h; cases h
  | a :: x, b :: y, h => by
    rw [ksA_cons, ksA_cons] at h
    simp only [List.cons.injEq, Sum.inr.injEq] at h
    rw [show a = b from Prod.ext (cps_inj h.1) (vtA_inj h.2.1), ksA_inj h.2.2]
def ltK (x y : List Pk) : Bool := lexLt itemOrd (ksA x) (ksA y)
theorem ltK_swo : SrtO.Swo ltK := by
  refine ⟨fun x y h => ?_, fun x y z h1 h2 => ?_⟩
  · unfold ltK at *
    cases e : lexLt itemOrd (ksA y) (ksA x) with
    | false => rfl
    | true => exact absurd (lex_trans _ _ _ h e) (by rw [lex_irrefl]; decide)
  · unfold ltK at *
    cases e : lexLt itemOrd (ksA z) (ksA x) with
    | false => rfl
    | true =>
      rcases lex_negTrans _ (ksA y) _ e with e | e
      · rw [h2] at e; cases e
      · rw [h1] at e; cases e
theorem ltK_anti {x y : List Pk} (h : ltK x y = false) (h' : ltK y x = false) : x = y := ksA_inj (lex_total _ _ h h')
/-! sorting by a total order -/
section
variable {α : Type}
def insG (lt : α → α → Bool) (x : α) : List α → List α
  | [] => [x]
  | y :: r => if lt y x = false then x :: y :: r else y :: insG lt x r
def srtG (lt : α → α → Bool) : List α → List α
  | [] => []
  | x :: r => insG lt x (srtG lt r)
variable {lt : α → α → Bool}
theorem insG_perm (x : α) : ∀ l : List α, (insG lt x l).Perm (x :: l)
  | [] => .refl _
  | y :: r => by
    unfold insG
    split
    · exact .refl _
    · exact ((insG_perm x r).cons y).trans (.swap x y r)
theorem srtG_perm : ∀ l : List α, (srtG lt l).Perm l
  | [] => .refl _
  | x :: r => by
    unfold srtG
    exact (insG_perm x _).trans ((srtG_perm r).cons x)
theorem insG_srt (O : SrtO.Swo lt) (x : α) : ∀ {l : List α}, SrtO.Srtd lt l → SrtO.Srtd lt (insG lt x l)
  | [], _ => by unfold insG; exact List.pairwise_singleton _ _
  | y :: r, h => by
    obtain ⟨h1, h2⟩ := List.pairwise_cons.mp h
    unfold insG
    split
    · rename_i hx
      refine List.pairwise_cons.mpr ⟨fun z hz => ?_, h⟩
      rcases List.mem_cons.mp hz with e | e
      · rw [e]; exact hx
      · exact O.tr x y z hx (h1 z e)
    · rename_i hx
      refine List.pairwise_cons.mpr ⟨fun z hz => ?_, insG_srt O x h2⟩
      rcases List.mem_cons.mp ((insG_perm x r).mem_iff.mp hz) with e | e
      · rw [e]
        exact O.asym y x (by simpa using hx)
      · exact h1 z e
theorem srtG_srt (O : SrtO.Swo lt) : ∀ l : List α, SrtO.Srtd lt (srtG lt l)
  | [] => .nil
  | x :: r => by unfold srtG; exact insG_srt O x (srtG_srt O r)
theorem srtG_one (O : SrtO.Swo lt) (A : ∀ x y, lt x y = false → lt y x = false → x = y) : ∀ {a b : List α}, a.Perm b → SrtO.Srtd lt a → SrtO.Srtd lt b → a = b
  | [], b, p, _, _ => (List.Perm.nil_eq p)
  | x :: r, b, p, ha, hb => by
    cases b with
    | nil => cases List.Perm.eq_nil p
    | cons y t =>
      obtain ⟨a1, a2⟩ := List.pairwise_cons.mp ha
      obtain ⟨b1, b2⟩ := List.pairwise_cons.mp hb
      have e : x = y := by
        have h1 : lt y x = false := by
          rcases List.mem_cons.mp (p.mem_iff.mpr (List.mem_cons_self (a := y) (l := t))) with e | e
          · rw [e]; exact O.refl _
          · exact a1 y e
        have h2 : lt x y = false := by
          rcases List.mem_cons.mp (p.mem_iff.mp (List.mem_cons_self (a := x) (l := r))) with e | e
          · rw [e]; exact O.refl _
          · exact b1 x e
        exact A x y h2 h1
      subst e
      rw [srtG_one O A (List.Perm.cons_inv p) a2 b2]
end
/-! ### how pairs compare -/
section
variable {prog : Program} {w : World} {A : Around} {s : Shared}
def pkOk (x : Pk) : Bool := (pkPy x).canLay0
theorem pk_eqv (x y : Pk) : PyData.eqv (pkPy x) (pkPy y) = decide (x = y) := by
  obtain ⟨p, v⟩ := x
  obtain ⟨q, u⟩ := y
  have e1 : PyData.eqv (pkPy (p, v)) (pkPy (q, u)) = ((p == q) && PyData.eqv (vtPy v) (vtPy u)) := by
    show ((p == q) && (PyData.eqv (vtPy v) (vtPy u) && true)) = _
    rw [Bool.and_true]
  rw [e1]
  have e2 : PyData.eqv (vtPy v) (vtPy u) = decide (v = u) := by
    cases v <;> cases u
    · rename_i a b
      show (a == b) = _
      by_cases h : a = b
      · subst h; simp
      · simp [h]
    · rfl
    · rfl
    · rename_i a b
      show (a == b) = _
      by_cases h : a = b
      · subst h; simp
      · simp [h]
  rw [e2]
  by_cases h : p = q
  · subst h
    by_cases h2 : v = u
    · subst h2; simp
    · simp [h2]
  · simp [h]
theorem vt_lt {x y : Int ⊕ Str} {a b : Value} {as bs : List Addr} (ra : Reads s.heap a (vtPy x) as) (rb : Reads s.heap b (vtPy y) bs) (hk : same2 x y = true) : Ob.RcOp .Lt A s a b (itemLt (vtA x) (vtA y)) := by
  cases x <;> cases y <;> cases hk
  · cases ra
    cases rb
    exact Ob.RcOp.lt_int _ _ _ _
  · cases ra
    cases rb
    intro prog w E Q h
    exact P.lt_str h
theorem pk_depth (x : Pk) : (pkPy x).depth ≤ 1 := by
  obtain ⟨p, v⟩ := x
  cases v with
  | inl i => show 1 + max 0 (max 0 0) ≤ 1; decide
  | inr z => show 1 + max 0 (max 0 0) ≤ 1; decide
theorem vt_eq {x y : Int ⊕ Str} {a b : Value} {as bs : List Addr} (ra : Reads s.heap a (vtPy x) as) (rb : Reads s.heap b (vtPy y) bs) : SeqAt.EqAt A s a b (decide (x = y)) := by
  cases x <;> cases y <;> cases ra <;> cases rb
  · rename_i i j t u
    have := SeqAt.EqAt.int_int (A := A) (s := s) i t j u
    rw [show decide ((Sum.inl i : Int ⊕ Str) = .inl j) = (i == j) by by_cases h : i = j <;> simp [h]]
    exact this
  · exact SeqAt.EqAt.int_str _ _ _ _
  · exact SeqAt.EqAt.str_int _ _ _ _
  · rename_i i j t u
    have := SeqAt.EqAt.str_str (A := A) (s := s) i t j u
    rw [show decide ((Sum.inr i : Int ⊕ Str) = .inr j) = (i == j) by by_cases h : i = j <;> simp [h]]
    exact this
theorem pk_eq {x y : Pk} {a b : Value} {as bs : List Addr} (ra : Reads s.heap a (pkPy x) as) (rb : Reads s.heap b (pkPy y) bs) (ox : pkOk x = true) (oy : pkOk y = true) (hu : A.units + 2 < cLine) : SeqAt.EqAt A s a b (decide (x = y)) := by
  have := SeqAt.eqAt_reads (pkPy x) (pkPy y) A s a b as bs ra rb ox oy (by have := pk_depth x; omega)
  rw [pk_eqv] at this
  exact this
open PySem.AutoSeq1 (wpAny_loadPart')
open PySem.MeetsSeq PySem.MeetsSeq2 PySem.MeetsSeq3 in
/-- two pairs whose texts differ: the second items are not looked at -/
theorem lt_apart (k m : Addr) (dk dm : Option Addr) (zk zm : Array (Option Value)) (nk nm : Nat) (p q : Str) (f g : Tok) (v u : Value) (hpq : (p == q) = false) : Meets (Builtin.«tuple.__lt__» ⟨[.ref k, .ref m], []⟩) (fun _ R s => s.heap.get? k = some ⟨.type "tuple", dk, .seq #[.str p f, v] nk, zk⟩ ∧ s.heap.get? m = some ⟨.type "tuple", dm, .seq #[.str q g, u] nm, zm⟩ ∧ R (.ok (.ret (.bool (itemLt (.inr p.cps.toList) (.inr q.cps.toList))))) s) := by
  refine .of_wp fun prog w A R s hyp => ?_
  obtain ⟨hp, gl, dp, tk, os⟩ := s
  obtain ⟨hk, hm, hyp⟩ := hyp
  have sb := AutoSeq1.sub_tuple_tuple
  rw [show itemLt (.inr p.cps.toList) (.inr q.cps.toList) = decide (p.cps.toList < q.cps.toList) from rfl] at hyp
  wp_walk using wpAny_loadPart' hk, wpAny_loadPart' hm, wpAny_forIn_list _ (fun left c s' => c.1 = none ∧ s' = ⟨hp, gl, dp, tk, os⟩ ∧ left = [(Value.str p f, Value.str q g), (v, u)]) _
  case turn =>
    rintro ⟨a1, a2⟩ left c s' ⟨hc, rfl, hz⟩
    simp only [List.cons.injEq, Prod.mk.injEq] at hz
    obtain ⟨⟨rfl, rfl⟩, rfl⟩ := hz
    have eqs := SeqAt.EqAt.str_str (A := A.in1) (s := ⟨hp, gl, dp, tk, os⟩) p f q g
    rw [hpq] at eqs
    refine wpAny_bind (eqs prog w _ _ ?_)
    have lts : ∀ (E : Value → Shared → Prop) (Q : Value → Shared → Prop), Q (.bool (decide (p.cps.toList < q.cps.toList))) _ → wpAny (model prog w) A.in1 (richCompare .Lt (.str p f) (.str q g)) Q E ⟨hp, gl, dp, tk, os⟩ := fun E Q hq => PyProof.Rows.lt_str hq
    wp_walk using lts
    exact ⟨_, rfl, by simpa using hyp⟩
  case fin =>
    rintro ⟨c1, c2⟩ s' ⟨hc, rfl, hz⟩
    cases hz
  case h =>
    exact ⟨rfl, rfl, rfl⟩
theorem pk_lt {x y : Pk} {a b : Value} {as bs : List Addr} (ra : Reads s.heap a (pkPy x) as) (rb : Reads s.heap b (pkPy y) bs) (hk : pkC x y = true) (hne : x ≠ y) (hu : A.units + 2 < cLine) : Ob.RcOp .Lt A s a b (lexLt itemOrd (pkA x) (pkA y)) := by
  obtain ⟨p, v⟩ := x
  obtain ⟨q, u⟩ := y
  cases ra with
  | @tuple l o vs n _ as1 h1 h2 h3 h4 =>
    cases rb with
    | @tuple l' o' vs' n' _ bs1 k1 k2 k3 k4 =>
      obtain ⟨xs, hx⟩ : ∃ xs, vs = List.toArray xs := ⟨vs.toList, by simp⟩
      obtain ⟨ys, hy⟩ : ∃ ys, vs' = List.toArray ys := ⟨vs'.toList, by simp⟩
      subst hx hy
      simp only at h4 k4
      cases h4 with
      | cons r1 r2 =>
        cases r2 with
        | cons r2 r3 =>
          cases r3
          cases k4 with
          | cons t1 t2 =>
            cases t2 with
            | cons t2 t3 =>
              cases t3
              cases r1 with
              | str _ g1 =>
                cases t1 with
                | str _ g2 =>
                  rename_i v' _ u' _
                  by_cases e : p = q
                  · subst e
                    have hv : v ≠ u := fun z => hne (by rw [z])
                    have hkk : same2 v u = true := by
                      unfold pkC at hk
                      simpa using hk
                    have key := Ob.RcOp.tuples_lt (A := A) (s := s) (l := l) (b := l') (items := #[.str p g1, v']) (items2 := #[.str p g2, u']) (e := fun j => if j = 0 then true else decide (v = u))
                      (r := fun j => itemLt (vtA v) (vtA u)) ⟨o, h1, h2, n, h3⟩ ⟨o', k1, k2, n', k3⟩ (by omega) (fun j j1 j2 => ?_) (fun j j1 j2 hj => ?_)
                    · have ev : Ob.lexAt (fun j => if j = 0 then true else decide (v = u)) (fun j => itemLt (vtA v) (vtA u)) false 0 2 = lexLt itemOrd (pkA (p, v)) (pkA (p, u)) := by
                        show (if true = true then (if decide (v = u) = true then false else itemLt (vtA v) (vtA u)) else itemLt (vtA v) (vtA u)) = lexLt itemOrd [.inr p.cps.toList, vtA v] [.inr p.cps.toList, vtA u]
                        rw [if_pos rfl, if_neg (by simpa using hv), lex_self (O := itemOrd), lex_diff (O := itemOrd) (fun z => hv (vtA_inj z))]
                      rw [← ev]
                      exact key
                    · match j, j1 with
                      | 0, _ =>
                        have := SeqAt.EqAt.str_str (A := A.in1) (s := s) p g1 p g2
                        rw [show (p == p) = true by simp] at this
                        exact this
                      | 1, _ => exact vt_eq r2 t2
                      | j + 2, h => exact absurd h (by show ¬ j + 2 < 2; omega)
                    · match j, j1 with
                      | 0, _ => cases hj
                      | 1, _ => exact vt_lt r2 t2 hkk
                      | j + 2, h => exact absurd h (by show ¬ j + 2 < 2; omega)
                  · have hpq : (p == q) = false := by simpa using e
                    intro prog w E Q hq
                    obtain ⟨c1, d1, dt1, z1⟩ := o
                    obtain ⟨c2, d2, dt2, z2⟩ := o'
                    simp only at h2 h3 k2 k3
                    subst h2 h3 k2 k3
                    refine richCompare_meets_room (op := .Lt) ⟨_, h1, rfl⟩ ⟨_, k1, rfl⟩ PySem.F.slot_tuple_lt PySem.F.entry_tuple_lt (PySem.F.args_tuple_lt_2 _ _) (lt_apart l l' d1 d2 z1 z2 n n' p q g1 g2 v' u' hpq) ⟨h1, k1, ⟨(fun x => nomatch x), ?_⟩⟩ (by omega)
                    rw [show itemLt (.inr p.cps.toList) (.inr q.cps.toList) = lexLt itemOrd (pkA (p, v)) (pkA (q, u)) from (lex_diff (O := itemOrd) (fun z => e (cps_inj (Sum.inr.inj z)))).symm]
                    exact hq
theorem ksA_step (x y : Pk) (xs ys : List Pk) : lexLt itemOrd (ksA (x :: xs)) (ksA (y :: ys)) = if x = y then lexLt itemOrd (ksA xs) (ksA ys) else lexLt itemOrd (pkA x) (pkA y) := by
  by_cases h : x = y
  · subst h
    rw [if_pos rfl, ksA_cons, ksA_cons, lex_self (O := itemOrd), lex_self (O := itemOrd)]
  · rw [if_neg h, ksA_cons, ksA_cons]
    unfold pkA
    by_cases e : x.1 = y.1
    · have hv : vtA x.2 ≠ vtA y.2 := fun z => h (Prod.ext e (vtA_inj z))
      rw [e, lex_self (O := itemOrd), lex_self (O := itemOrd), lex_diff (O := itemOrd) hv, lex_diff (O := itemOrd) hv]
    · have he : (Sum.inr x.1.cps.toList : Atm) ≠ .inr y.1.cps.toList := fun z => e (cps_inj (Sum.inr.inj z))
      rw [lex_diff (O := itemOrd) he, lex_diff (O := itemOrd) he]
def allC (xs ys : List Pk) : Bool := xs.all fun x => ys.all fun y => pkC x y
theorem kat_pairs {Q : Bool → Shared → Prop} {fin : Bool} (hu : A.units + 2 < cLine) : ∀ (xs ys : List Pk) (i : Nat) (vs ws : List Value) (as bs : List Addr), ReadsAll s.heap vs (xs.map pkPy) as → ReadsAll s.heap ws (ys.map pkPy) bs → (∀ x ∈ xs, pkOk x = true) → (∀ y ∈ ys, pkOk y = true) → (∀ x ∈ xs, ∀ y ∈ ys, pkC x y = true) →
    fin = decide (xs.length < ys.length) → Q (lexLt itemOrd (ksA xs) (ksA ys)) s → PySem.W.KatLex prog w A false fin Q (vs.zip ws) i s
  | [], [], i, _, _, _, _, ra, rb, _, _, _, hf, hq => by
    cases ra
    cases rb
    rw [lex_irrefl] at hq
    rw [show fin = false from hf]
    exact PySem.W.kat_nil hq
  | [], y :: ys, i, _, _, _, _, ra, rb, _, _, _, hf, hq => by
    cases ra
    rw [show fin = true by rw [hf]; exact decide_eq_true (Nat.succ_pos _)]
    rw [List.zip_nil_left]
    exact PySem.W.kat_nil hq
  | x :: xs, [], i, _, _, _, _, ra, rb, _, _, _, hf, hq => by
    cases rb
    rw [show fin = false by rw [hf]; exact decide_eq_false (Nat.not_lt_zero _)]
    rw [List.zip_nil_right]
    exact PySem.W.kat_nil hq
  | x :: xs, y :: ys, i, _, _, _, _, ra, rb, hx, hy, hc, hf, hq => by
    have hf' : fin = decide (xs.length < ys.length) := by
      rw [hf]
      simp only [List.length_cons, Nat.add_lt_add_iff_right]
    rw [ksA_step] at hq
    cases ra with
    | cons r rs =>
      cases rb with
      | cons t ts =>
        rw [List.zip_cons_cons]
        refine PySem.W.kat_cons (pk_eq r t (hx x List.mem_cons_self) (hy y List.mem_cons_self) hu prog w _ _ ?_)
        by_cases h : x = y
        · rw [if_pos h] at hq
          rw [decide_eq_true h]
          exact PySem.W.kat_yes (kat_pairs hu xs ys (i + 1) _ _ _ _ rs ts (fun z hz => hx z (List.mem_cons_of_mem _ hz)) (fun z hz => hy z (List.mem_cons_of_mem _ hz)) (fun a ha b hb => hc a (List.mem_cons_of_mem _ ha) b (List.mem_cons_of_mem _ hb)) hf' hq)
        · rw [if_neg h] at hq
          rw [decide_eq_false h]
          refine PySem.W.kat_no (PySem.W.kat_one _ _ ?_)
          exact pk_lt r t (hc x List.mem_cons_self y List.mem_cons_self) h hu prog w _ _ hq
/-- a tuple of pairs -/
def IsK (h : Heap) (v : Value) (ks : List Pk) : Prop := ∃ as, Reads h v (ksPy ks) as
theorem IsK.keeps {h h' : Heap} {v : Value} {ks : List Pk} (i : IsK h v ks) (k : ∀ b o, h.get? b = some o → h'.get? b = some o) : IsK h' v ks := by
  obtain ⟨as, r⟩ := i
  exact ⟨as, Reads.keeps k r⟩
theorem ks_cmp {vs : List Value} {k : Value → List Pk} (hu : A.units + 2 < cLine) (hp : ∀ v ∈ vs, IsK s.heap v (k v)) (ho : ∀ v ∈ vs, ∀ x ∈ k v, pkOk x = true) (hc : ∀ v ∈ vs, ∀ u ∈ vs, ∀ x ∈ k v, ∀ y ∈ k u, pkC x y = true) :
    SrtO.Cmp prog w A s (tuples' false) (fun p => p.1 ∈ vs) (SrtO.lt2 fun v u => ltK (k v) (k u)) := by
  intro p q hm hm'
  obtain ⟨as, h1⟩ := hp _ hm
  obtain ⟨bs, h2⟩ := hp _ hm'
  have c := hc _ hm _ hm'
  have o1 := ho _ hm
  have o2 := ho _ hm'
  show wpAny (model prog w) A (keyLt' (tuples' false) p.1 q.1) (fun r s' => s' = s ∧ r = ltK (k p.1) (k q.1)) (fun _ _ => False) s
  unfold ltK
  generalize k p.1 = xs at *
  generalize k q.1 = ys at *
  generalize p.1 = a at *
  generalize q.1 = b at *
  cases h1 with
  | @tuple l o us n _ _ h1 h2' h3 h4 =>
    cases h2 with
    | @tuple l' o' us' n' _ _ k1 k2 k3 k4 =>
      have l1 := SeqAt.ReadsAll.length _ _ _ h4
      have l2 := SeqAt.ReadsAll.length _ _ _ k4
      rw [List.length_map] at l1 l2
      refine PySem.W.kat_lt h1 h3 k1 k3 (kat_pairs hu xs ys 0 _ _ _ _ h4 k4 o1 o2 c ?_ ⟨rfl, rfl⟩)
      rw [← l1, ← l2]
      simp
theorem ks_firsts {h : Heap} : ∀ {vs : List Value} {k : Value → List Pk}, (∀ v ∈ vs, IsK h v (k v)) → (∀ v ∈ vs, k v ≠ []) → ∃ fs : List Value, PySem.W.KatTups h vs fs ∧ fs.length = vs.length ∧ ∀ f ∈ fs, ∃ a o, f = .ref a ∧ h.get? a = some o ∧ o.cls = .type "tuple"
  | [], _, _, _ => ⟨[], .nil, rfl, fun _ z => nomatch z⟩
  | v :: vs, k, hp, hn => by
    obtain ⟨fs, h1, h2, h3⟩ := ks_firsts (vs := vs) (fun u hu => hp u (List.mem_cons_of_mem _ hu)) fun u hu => hn u (List.mem_cons_of_mem _ hu)
    obtain ⟨as, r⟩ := hp v List.mem_cons_self
    have ne := hn v List.mem_cons_self
    generalize k v = ks at *
    cases ks with
    | nil => exact absurd rfl ne
    | cons x xs =>
      cases r with
      | @tuple l o us n _ _ g1 g2 g3 g4 =>
        obtain ⟨ul, hul⟩ : ∃ ul, us = List.toArray ul := ⟨us.toList, by simp⟩
        subst hul
        simp only [List.map_cons] at g4
        cases g4 with
        | cons r1 r2 =>
          rename_i u _ _ _
          cases r1 with
          | @tuple a1 o1 _ _ _ _ q1 q2 q3 q4 =>
            exact ⟨.ref a1 :: fs, .cons g1 g2 g3 rfl h1, by simp [h2], fun f hf => by
              rcases List.mem_cons.mp hf with rfl | hf
              · exact ⟨a1, o1, rfl, q1, q2⟩
              · exact h3 f hf⟩
theorem ks_sortable {a : Addr} {vs : List Value} {k : Value → List Pk} (hu : A.units + 2 < cLine) (h0 : 0 < vs.length) (hp : ∀ h' : Heap, (∀ b o, b ≠ a → s.heap.get? b = some o → h'.get? b = some o) → ∀ v ∈ vs, IsK h' v (k v)) (ho : ∀ v ∈ vs, ∀ x ∈ k v, pkOk x = true) (hc : ∀ v ∈ vs, ∀ u ∈ vs, ∀ x ∈ k v, ∀ y ∈ k u, pkC x y = true)
    (hn : ∀ v ∈ vs, k v ≠ []) : SrtO.SortableO prog w A s a vs fun v u => ltK (k v) (k u) := by
  intro h' keep
  have hp' := hp h' keep
  obtain ⟨fs, h1, h2, h3⟩ := ks_firsts hp' hn
  refine ⟨tuples' false, fun Q E hq => ?_, ks_cmp hu hp' ho hc⟩
  refine PySem.W.kat_kind (T := .type "tuple") h1 (by omega) (fun f hm => ?_) (by rfl) ?_
  · obtain ⟨a1, o1, rfl, q1, q2⟩ := h3 f hm
    rw [← q2]
    exact (PySem.W.Looks.ld q1).andThen .now
  · have e : (Value.type "tuple" != Value.type "tuple") = false := by first | decide +kernel | rfl | decide
    rw [e]
    exact hq
end
/-- sorted(xs), xs a list of tuples of pairs -/
def rSortedTT (K : PySem.W.Frag) : List V → Hp → VK → Prop := fun vs H Q => ∃ (a : Addr) (zs : List (V × List Pk)), vs = [V.ref a] ∧ SqL K H a (zs.map (·.1)) ∧ (∀ z ∈ zs, Dp K H z.1 (ksPy z.2)) ∧ (∀ z ∈ zs, ∀ x ∈ z.2, pkOk x = true) ∧ (∀ z ∈ zs, ∀ z' ∈ zs, ∀ x ∈ z.2, ∀ y ∈ z'.2, pkC x y = true) ∧ (2 ≤ zs.length → ∀ z ∈ zs, z.2 ≠ []) ∧
  ∀ (zs' : List (V × List Pk)) p, (∀ z ∈ zs', z ∈ zs) → zs'.map (·.2) = srtG ltK (zs.map (·.2)) → H p = none → Q (.ref p) (upd H p (.lst (zs'.map (·.1))))
section
variable {X : Cx} {G : Gx} {W : WX}
open Classical in
theorem cr_sortedTT (hu : X.A.units + 65 < cLine) : CallR X (.builtin "sorted") (rSortedTT X.K) := by
  intro pins s σ H vs us Q I r h
  obtain ⟨a, zs, rfl, hs, hx, hok, hcc, hnn, q⟩ := h
  obtain ⟨its, rv, hl, hz⟩ := I.list hs
  obtain ⟨u, rfl, ru⟩ := vals1 r
  obtain rfl : u = Value.ref a := ru
  let k : Value → List Pk := fun v => if h : ∃ ks, IsK s.heap v ks then h.choose else []
  have hk : ∀ {v : Value} {ks : List Pk}, IsK s.heap v ks → k v = ks := fun {v ks} hp => by
    have hh : ∃ ks, IsK s.heap v ks := ⟨ks, hp⟩
    have e0 : k v = hh.choose := dif_pos hh
    obtain ⟨as, r1⟩ := hh.choose_spec
    obtain ⟨bs, r2⟩ := hp
    rw [e0]
    exact ksPy_inj (PySem.Reads.unique r1 _ _ r2).1
  obtain ⟨e1, e2⟩ := refs_back rv fun x m => by
    obtain ⟨z, hz1, rfl⟩ := List.mem_map.mp m
    have hd := hx z hz1
    unfold ksPy at hd
    generalize z.1 = zv at hd ⊢
    cases hd
    exact ⟨_, rfl⟩
  have hm : ∀ v ∈ its, ∃ z ∈ zs, z.1 = backV v ∧ IsK s.heap v z.2 := fun v hv => by
    obtain ⟨t, rfl⟩ := e2 v hv
    have hm : backV (Value.ref t) ∈ zs.map (·.1) := by rw [e1]; exact List.mem_map.mpr ⟨_, hv, rfl⟩
    obtain ⟨z, hz1, ez⟩ := List.mem_map.mp hm
    refine ⟨z, hz1, ez, ?_⟩
    have d := hx z hz1
    rw [ez] at d
    exact Dp.reads I (ksPy z.2) _ _ d rfl
  have hlen1 : its.length = zs.length := by
    rw [← rv.length, List.length_map]
  have hik : ∀ v ∈ its, IsK s.heap v (k v) := fun v hv => by
    obtain ⟨z, hz1, _, hi⟩ := hm v hv
    rw [hk hi]
    exact hi
  have hzk : ∀ v ∈ its, ∃ z ∈ zs, z.1 = backV v ∧ k v = z.2 := fun v hv => by
    obtain ⟨z, hz1, ez, hi⟩ := hm v hv
    exact ⟨z, hz1, ez, hk hi⟩
  refine SrtO.sorted_ord (ltv := fun v u => ltK (k v) (k u)) ⟨fun x y => ltK_swo.asym _ _, fun x y z => ltK_swo.tr _ _ _⟩ hl.isList (by rw [← rv.length]; exact hz) (fun h2 h₁ a1 ha kk => ?_) fun out h1 h2 => ?_
  · refine ks_sortable (s := { s with heap := h₁ }) (by show X.A.in1.in1.units + 2 < cLine; show X.A.units + 1 + 1 + 2 < cLine; omega) (by omega) (fun h' keep v hv => (hik v hv).keeps fun b o e => keep b o (kk b o e).1 (kk b o e).2) (fun v hv x hxk => ?_) (fun v hv u hu' x hxk y hyk => ?_) fun v hv => ?_
    · obtain ⟨z, hz1, _, e⟩ := hzk v hv
      rw [e] at hxk
      exact hok z hz1 x hxk
    · obtain ⟨z, hz1, _, e⟩ := hzk v hv
      obtain ⟨z', hz1', _, e'⟩ := hzk u hu'
      rw [e] at hxk
      rw [e'] at hyk
      exact hcc z hz1 z' hz1' x hxk y hyk
    · obtain ⟨z, hz1, _, e⟩ := hzk v hv
      rw [e]
      exact hnn (by omega) z hz1
  · have h3 : ∀ u ∈ out, ∃ a, u = Value.ref a := fun u hu => e2 u (h2.perm.mem_iff.mp hu)
    have hb : SrtO.Stb (fun v u => ltK (k v) (k u)) out its := h2
    have hoz : ∀ v ∈ out, ∃ z ∈ zs, z.1 = backV v ∧ k v = z.2 := fun v hv => hzk v (hb.perm.mem_iff.mp hv)
    obtain ⟨n, hn⟩ := sortedAll_at s.heap its out.toArray
    have hfree : s.heap.objs.size ≤ s.heap.objs.size + 1 := Nat.le_succ _
    have hq := q (out.map fun v => (backV v, k v)) (s.heap.objs.size + 1) (fun z hz1 => by
      obtain ⟨v, hv, rfl⟩ := List.mem_map.mp hz1
      obtain ⟨z, hz1, e1, e2⟩ := hoz v hv
      rw [show (backV v, k v) = z from Prod.ext e1.symm e2]
      exact hz1) (by
        rw [List.map_map]
        refine srtG_one ltK_swo (fun x y => ltK_anti) ?_ ?_ (srtG_srt ltK_swo _)
        · have p1 : (out.map k).Perm (its.map k) := hb.perm.map k
          have e3 : its.map k = zs.map (·.2) := by
            let kV : V → List Pk := fun v => k (match v with
              | .ref t => Value.ref t
              | _ => Value.none)
            have g1 : zs.map (·.2) = (zs.map (·.1)).map kV := by
              rw [List.map_map]
              refine List.map_congr_left fun z hz1 => ?_
              have hd := hx z hz1
              obtain ⟨t, et⟩ : ∃ t, z.1 = V.ref t := by
                unfold ksPy at hd
                generalize z.1 = zv at hd ⊢
                cases hd
                exact ⟨_, rfl⟩
              rw [et] at hd
              show z.2 = kV z.1
              rw [et]
              exact (hk (Dp.reads I (ksPy z.2) _ (Value.ref t) hd rfl)).symm
            rw [g1, e1, List.map_map]
            refine List.map_congr_left fun v hv => ?_
            obtain ⟨t, rfl⟩ := e2 v hv
            rfl
          rw [e3] at p1
          exact p1.trans (srtG_perm _).symm
        · exact List.pairwise_map.mpr h1) (I.hok.fresh hfree)
    have e4 : (out.map fun v => (backV v, k v)).map (·.1) = out.map backV := by
      rw [List.map_map]
      rfl
    rw [e4] at hq
    have ho : out.length ≤ sizeLine := by rw [hb.len, ← rv.length]; exact hz
    exact ⟨.ref _, upd H _ (.lst (out.map backV)), I.laid (t' := s.toks) (fun b o e => sortedAll_old e) hfree ⟨by rw [List.length_map]; exact ho, out, n, vals_back h3, hn⟩, rfl, hq⟩
def pkOf : D → Option Pk
  | .tup [.str p, .int i] => some (p, .inl i)
  | .tup [.str p, .str z] => some (p, .inr z)
  | _ => none
def pksOf : List D → Option (List Pk)
  | [] => some []
  | d :: ds => match pkOf d, pksOf ds with
    | some x, some xs => some (x :: xs)
    | _, _ => none
def ksOf : D → Option (List Pk)
  | .tup ds => pksOf ds
  | _ => none
def kssOf : List D → Option (List (List Pk))
  | [] => some []
  | d :: ds => match ksOf d, kssOf ds with
    | some x, some xs => some (x :: xs)
    | _, _ => none
def pkD (x : Pk) : D := .tup [.str x.1, match x.2 with
  | .inl i => .int i
  | .inr z => .str z]
def ksD (ks : List Pk) : D := .tup (ks.map pkD)
theorem pkOf_eq {d : D} {x : Pk} (h : pkOf d = some x) : d = pkD x ∧ toPy d = some (pkPy x) := by
  unfold pkOf at h
  split at h
  · cases h; exact ⟨rfl, rfl⟩
  · cases h; exact ⟨rfl, rfl⟩
  · cases h
theorem pksOf_eq : ∀ {ds : List D} {xs : List Pk}, pksOf ds = some xs → ds = xs.map pkD ∧ toPys ds = some (xs.map pkPy)
  | [], xs, h => by cases h; exact ⟨rfl, rfl⟩
  | d :: ds, xs, h => by
    unfold pksOf at h
    split at h
    · rename_i x ys e1 e2
      cases h
      obtain ⟨a1, a2⟩ := pkOf_eq e1
      obtain ⟨b1, b2⟩ := pksOf_eq e2
      refine ⟨by rw [List.map_cons, ← a1, ← b1], ?_⟩
      unfold toPys
      rw [a2, b2]
      rfl
    · cases h
theorem ksOf_eq {d : D} {x : List Pk} (h : ksOf d = some x) : d = ksD x ∧ toPy d = some (ksPy x) := by
  unfold ksOf at h
  split at h
  · rename_i ds
    obtain ⟨a1, a2⟩ := pksOf_eq h
    refine ⟨by unfold ksD; rw [a1], ?_⟩
    unfold toPy
    rw [a2]
    rfl
  · cases h
theorem kss_at {B H : Hp} (sb : Same B H) : ∀ {ds : List D} {kss : List (List Pk)} {vs : List V}, kssOf ds = some kss → Reps G B ds vs → ∃ zs : List (V × List Pk), zs.map (·.1) = vs ∧ zs.map (·.2) = kss ∧ ∀ z ∈ zs, Rep G B (ksD z.2) z.1 ∧ Dp G.K H z.1 (ksPy z.2)
  | [], kss, vs, h, r => by
    cases h
    unfold Reps at r
    subst r
    exact ⟨[], rfl, rfl, fun _ z => nomatch z⟩
  | d :: ds, kss, vs, h, r => by
    unfold Reps at r
    obtain ⟨x, t, rfl, r1, r2⟩ := r
    unfold kssOf at h
    split at h
    · rename_i ks ks' e1 e2
      cases h
      obtain ⟨zs, z1, z2, z3⟩ := kss_at sb e2 r2
      obtain ⟨a1, a2⟩ := ksOf_eq e1
      refine ⟨(x, ks) :: zs, by rw [List.map_cons, z1], by rw [List.map_cons, z2], fun z hz => ?_⟩
      rcases List.mem_cons.mp hz with rfl | hz
      · exact ⟨by rw [← a1]; exact r1, toPy_dp sb _ r1 a2⟩
      · exact z3 z hz
    · cases h
/-- the tuples can be compared -/
def fitK (kss : List (List Pk)) : Prop := (∀ ks ∈ kss, ∀ x ∈ ks, pkOk x = true) ∧ (∀ ks ∈ kss, ∀ ks' ∈ kss, ∀ x ∈ ks, ∀ y ∈ ks', pkC x y = true) ∧ (2 ≤ kss.length → ∀ ks ∈ kss, ks ≠ [])
def fitKb (kss : List (List Pk)) : Bool := (kss.all fun ks => ks.all pkOk) && ((kss.all fun ks => kss.all fun ks' => allC ks ks') && (decide (kss.length < 2) || kss.all fun ks => !ks.isEmpty))
theorem fitKb_iff (kss : List (List Pk)) : fitKb kss = true ↔ fitK kss := by
  unfold fitKb fitK allC
  simp only [Bool.and_eq_true, Bool.or_eq_true, List.all_eq_true, decide_eq_true_eq, Bool.not_eq_true', List.isEmpty_eq_false_iff]
  constructor
  · rintro ⟨h1, h2, h3⟩
    refine ⟨h1, h2, fun h ks hk => ?_⟩
    rcases h3 with h3 | h3
    · omega
    · exact h3 ks hk
  · rintro ⟨h1, h2, h3⟩
    refine ⟨h1, h2, ?_⟩
    by_cases h : kss.length < 2
    · exact .inl h
    · exact .inr fun ks hk => h3 (by omega) ks hk
def nSortTT : OpN := fun xs S => match xs with
  | [x] => match vw S x with
    | some ds => match kssOf ds with
      | some kss => if fitKb kss = true then .ok (.p (.lst ((srtG ltK kss).map ksD))) S else .bad
      | none => .bad
    | none => .bad
  | _ => .bad
theorem nSortTT_ok : OkN G W (rSortedTT G.K) nSortTT := by
  intro H B φ S σ xs vs Q w r h
  unfold nSortTT at h
  split at h
  · split at h
    · rename_i ds hs
      split at h
      · rename_i kss hb
        split at h
        · rename_i hf
          obtain ⟨v, rfl, rv⟩ := rvs1 r
          obtain ⟨a, ys, rfl, s1, q1⟩ := vw_at w rv hs
          obtain ⟨zs, e1, e2, e3⟩ := kss_at w.sub hb q1
          obtain ⟨f1, f2, f3⟩ := (fitKb_iff _).mp hf
          rw [← e2] at f1 f2 f3
          have mm : ∀ z ∈ zs, z.2 ∈ zs.map (·.2) := fun z hz => List.mem_map.mpr ⟨z, hz, rfl⟩
          refine ⟨a, zs, rfl, by rw [e1]; exact SqL.of s1, fun z hz => (e3 z hz).2, fun z hz => f1 _ (mm z hz), fun z hz z' hz' => f2 _ (mm z hz) _ (mm z' hz'), fun h2 z hz => f3 (by rw [List.length_map]; exact h2) _ (mm z hz), fun zs' l hm he hl => ?_⟩
          rw [e2] at he
          have rr : Reps G B ((srtG ltK kss).map ksD) (zs'.map (·.1)) := by
            rw [← he, List.map_map]
            clear he
            induction zs' with
            | nil => exact Reps.nil
            | cons z t ih => exact Reps.cons (e3 z (hm z List.mem_cons_self)).1 (ih fun y hy => hm y (List.mem_cons_of_mem _ hy))
          exact h _ _ _ (Xt.alloc w hl) (w.alloc hl) _ (rep_lst.mpr ⟨l, _, rfl, upd_same, Reps.mono (same_upd' (w.bfree hl)) _ rr⟩)
        · exact h.elim
      · exact h.elim
    · exact h.elim
  · exact h.elim
theorem e_sortTT {ds : List D} {kss kss' : List (List Pk)} {S : Sto} {x : Dv} (h : vw S x = some ds) (e : kssOf ds = some kss) (f : fitK kss) (p : kss'.Perm kss) (o : SrtO.Srtd ltK kss') : nSortTT [x] S = .ok (.p (.lst (kss'.map ksD))) S := by
  unfold nSortTT
  dsimp only
  rw [h]
  dsimp only
  rw [e]
  dsimp only
  rw [if_pos ((fitKb_iff _).mpr f), srtG_one ltK_swo (fun x y => ltK_anti) (p.trans (srtG_perm _).symm) o (srtG_srt ltK_swo _)]
theorem kssOf_map : ∀ kss : List (List Pk), kssOf (kss.map ksD) = some kss := by
  have h1 : ∀ x : Pk, pkOf (pkD x) = some x := fun ⟨p, v⟩ => by cases v <;> rfl
  have h2 : ∀ xs : List Pk, pksOf (xs.map pkD) = some xs := fun xs => by
    induction xs with
    | nil => rfl
    | cons x xs ih => rw [List.map_cons]; unfold pksOf; rw [h1, ih]
  intro kss
  induction kss with
  | nil => rfl
  | cons x xs ih => rw [List.map_cons]; unfold kssOf; rw [show ksOf (ksD x) = some x from h2 x, ih]
end
/-! ### a written dict of texts to numbers; d[x] -/
section
variable {X : Cx} {G : Gx} {W : WX} {e e2 o : Expr} {ef eg eh : Ef} {p p2 pos : Pos} {H B : Hp} {φ : List Addr} {S : Sto} {σ : L2.St} {ρ : Nv}
theorem de_dsi5 {k1 k2 k3 k4 k5 : Str} {n1 n2 n3 n4 n5 : Int} {j1 j2 j3 j4 j5 i1 i2 i3 i4 i5 : Nat} {p1 p2 p3 p4 p5 q1 q2 q3 q4 q5 : Pos}
    (em : mergeK [] [((Sum.inr k1 : Key), V.int n1), (Sum.inr k2, V.int n2), (Sum.inr k3, V.int n3), (Sum.inr k4, V.int n4), (Sum.inr k5, V.int n5)] = [((Sum.inr k1 : Key), V.int n1), (Sum.inr k2, V.int n2), (Sum.inr k3, V.int n3), (Sum.inr k4, V.int n4), (Sum.inr k5, V.int n5)])
    (hl : [some (Expr.Constant (.str k1) j1 p1), some (Expr.Constant (.str k2) j2 p2), some (Expr.Constant (.str k3) j3 p3), some (Expr.Constant (.str k4) j4 p4), some (Expr.Constant (.str k5) j5 p5)].length = [Expr.Constant (.int n1) i1 q1, Expr.Constant (.int n2) i2 q2, Expr.Constant (.int n3) i3 q3, Expr.Constant (.int n4) i4 q4, Expr.Constant (.int n5) i5 q5].length := by rfl) :
    PE X (.Dict [some (.Constant (.str k1) j1 p1), some (.Constant (.str k2) j2 p2), some (.Constant (.str k3) j3 p3), some (.Constant (.str k4) j4 p4), some (.Constant (.str k5) j5 p5)] [.Constant (.int n1) i1 q1, .Constant (.int n2) i2 q2, .Constant (.int n3) i3 q3, .Constant (.int n4) i4 q4, .Constant (.int n5) i5 q5] pos) (tD G W (dC (.dsi [(k1, n1), (k2, n2), (k3, n3), (k4, n4), (k5, n5)]))) := by
  refine wkE (pe_disp (pps_cons pe_str pe_int (pps_cons pe_str pe_int (pps_cons pe_str pe_int (pps_cons pe_str pe_int (pps_cons pe_str pe_int pps_nil))))) (by rfl) hl (fun z => by cases z) (by show 5 ≤ 15; omega)) fun σ H Q ⟨ρ, B, φ, S, w, en, h⟩ => ?_
  intro a ha
  refine ⟨upd_same, [((Sum.inr k1 : Key), V.int n1), (Sum.inr k2, V.int n2), (Sum.inr k3, V.int n3), (Sum.inr k4, V.int n4), (Sum.inr k5, V.int n5)], rfl, by show 5 ≤ 15; omega, ?_⟩
  rw [em]
  have hu : ∀ z, upd (upd H a (.dK [])) a (.dK z) = upd H a (.dK z) := fun z => by
    funext b
    unfold upd
    split <;> rfl
  rw [hu]
  have h : ∀ H' B' φ', Xt H B φ H' B' φ' → Wd G H' B' φ' S → ∀ v', RepV G B' φ' (.p (.dsi [(k1, n1), (k2, n2), (k3, n3), (k4, n4), (k5, n5)])) v' → Q v' H' := h
  refine h _ _ _ (Xt.alloc w ha) (w.alloc ha) _ ?_
  show Rep G _ (.dsi _) _
  unfold Rep
  exact ⟨a, rfl, upd_same⟩
def siGet (kvs : List (Str × Int)) (x : Str) : Option Int := (kvs.find? fun p => decide (p.1 = x)).map (·.2)
theorem siGet_at {x : Str} : ∀ kvs : List (Str × Int), valV (kvs.map fun p => ((Sum.inr p.1 : Key), V.int p.2)) (Sum.inr x) = (siGet kvs x).map V.int
  | [] => rfl
  | p :: r => by
    have ih := siGet_at (x := x) r
    unfold valV siGet at *
    rw [List.map_cons, List.find?_cons, List.find?_cons]
    by_cases h : p.1 = x
    · have h1 : decide ((Sum.inr p.1 : Key) = Sum.inr x) = true := by simp [h]
      rw [h1, decide_eq_true h]; rfl
    · have h1 : decide ((Sum.inr p.1 : Key) = Sum.inr x) = false := by simp [h]
      rw [h1, decide_eq_false h]
      exact ih
def dIxSI (fo fe : Ef) : Ef := fun ρ S => (fo ρ S).bind fun d S1 => match d with
  | .p (.dsi kvs) => (fe ρ S1).bind fun y S2 => match y with
    | .p (.str x) => match siGet kvs x with
      | some u => .ok (.p (.int u)) S2
      | none => .bad
    | _ => .bad
  | _ => .bad
theorem de_ixSI (hu : X.A.units + 1 < cLine) (ho : PE X o (tD G W ef)) (he : PE X e (tD G W eg)) (hs : NoSl e) : PE X (.Subscript o e pos) (tD G W (dIxSI ef eg)) := by
  refine wkE (pe_dget hu ho he hs) fun σ H Q ⟨ρ, B, φ, S, w, en, h⟩ => tD.run w en (WP.fst h) fun d v H1 B1 φ1 S1 x1 w1 en1 r1 k1 => ?_
  split at k1
  · rename_i kvs
    have r1' : Rep G B1 (.dsi kvs) v := r1
    unfold Rep at r1'
    obtain ⟨a, rfl, ha⟩ := r1'
    refine tD.run w1 en1 (WP.fst k1) fun y v2 H2 B2 φ2 S2 x2 w2 en2 r2 k2 => ?_
    split at k2
    · rename_i x
      have ev := rep_str.mp r2
      subst ev
      split at k2
      · rename_i u hq
        have ha2 := w2.sub _ _ (x2.b _ _ ha)
        refine ⟨a, .int u, rfl, .inl ⟨_, Sum.inr x, .inl ha2, rfl, ?_⟩, k2 H2 B2 φ2 Xt.refl w2 _ (rep_int.mpr rfl)⟩
        rw [siGet_at, hq]
        rfl
      · exact k2.elim
    · exact k2.elim
  · exact k1.elim
/-! ### t + u, either may be empty -/
def oCatA : Op2 := fun x y S => match x, y with
  | .p (.tup a), .p (.tup b) => if a.length + b.length ≤ big then .ok (.p (.tup (a ++ b))) S else .bad
  | _, _ => .bad
theorem oCatA_ok : Ok2 G W (rCatA G.K) oCatA := by
  intro H B φ S σ x y v u Q w r1 r2 h
  unfold oCatA at h
  split at h
  · rename_i a b
    split at h
    · rename_i hl
      have r1' := r1
      have r2' := r2
      obtain ⟨p, xs, rfl, s1, q1⟩ := rep_tup.mp r1
      obtain ⟨p', ys, rfl, s2, q2⟩ := rep_tup.mp r2
      have l1 := q1.length
      have l2 := q2.length
      refine ⟨p, p', xs, ys, rfl, rfl, sqT_mono w.sub s1, sqT_mono w.sub s2, by rw [← big_eq, ← l1, ← l2]; exact hl, fun hx => ?_, fun hx hy => ?_, fun hx hy t ht => ?_⟩
      · have : a = [] := List.eq_nil_of_length_eq_zero (by rw [l1, hx]; rfl)
        subst this
        exact h H B φ Xt.refl w _ r2'
      · have : b = [] := List.eq_nil_of_length_eq_zero (by rw [l2, hy]; rfl)
        subst this
        rw [List.append_nil] at h
        exact h H B φ Xt.refl w _ r1'
      · exact h _ _ _ (Xt.alloc w ht) (w.alloc ht) _ (rep_tup.mpr ⟨t, _, rfl, SqT.of upd_same, Reps.mono (same_upd' (w.bfree ht)) _ (q1.append q2)⟩)
    · exact h.elim
  · exact h.elim
end
end DL

namespace DL
open PySem L2
open PySem.Spec PyProof.Rows
/-! ### evaluation of mirrors, by simp only [..] -/
section
variable {α β : Type} {ρ ρ' : Nv} {S S' : Sto} {f g : Ef} {d e : D} {x y : Dv} {i j : Int} {n : Nat} {b : Bool} {st su : Sf} {c c' : Tf}
def OS.seq (o : OS) (g : Sf) : OS := match o with
  | .ok (.nx ρ') S' => g ρ' S'
  | .ok (.rt d) S' => .ok (.rt d) S'
  | .ok (.bk d) S' => .ok (.bk d) S'
  | .ok (.ct d) S' => .ok (.ct d) S'
  | .exc x ρ' S' => .exc x ρ' S'
  | .bad => .bad
theorem e_seq : sSeq st su ρ S = (st ρ S).seq su := rfl
theorem e_seq_nx : OS.seq (.ok (.nx ρ) S) su = su ρ S := rfl
theorem e_seq_rt : OS.seq (.ok (.rt x) S) su = .ok (.rt x) S := rfl
theorem e_seq_ite {p : Prop} [Decidable p] {o o' : OS} : OS.seq (if p then o else o') su = if p then o.seq su else o'.seq su := by split <;> rfl
theorem e_bind {a : α} {k : α → Sto → Out β} : (Out.ok a S).bind k = k a S := rfl
theorem e_bind_ite {p : Prop} [Decidable p] {o o' : Out α} {k : α → Sto → Out β} : (if p then o else o').bind k = if p then o.bind k else o'.bind k := by split <;> rfl
theorem e_toS {a : α} {k : α → Sto → OS} : (Out.ok a S).toS ρ k = k a S := rfl
theorem e_toS_ite {p : Prop} [Decidable p] {o o' : Out α} {k : α → Sto → OS} : (if p then o else o').toS ρ k = if p then o.toS ρ k else o'.toS ρ k := by split <;> rfl
theorem e_set : sSet n f ρ S = (f ρ S).toS ρ fun d S' => .ok (.nx (ρ.set n (some d))) S' := rfl
theorem e_ret : sRet f ρ S = (f ρ S).toS ρ fun d S' => .ok (.rt d) S' := rfl
theorem e_expr : sExpr f ρ S = (f ρ S).toS ρ fun _ S' => .ok (.nx ρ) S' := rfl
theorem e_nil : sNil ρ S = .ok (.nx ρ) S := rfl
theorem e_if : sIf c st su ρ S = (c ρ S).toS ρ fun b S' => if b = true then st ρ S' else su ρ S' := rfl
theorem e_par {i j : Nat} {a : Af} : sPar i j a ρ S = (a ρ S).toS ρ fun ds S' => match ds with
  | [d, e] => .ok (.nx ((ρ.set i (some d)).set j (some e))) S'
  | _ => .bad := rfl
theorem e_name : dName n ρ S = match ρ[n]? with
  | some (some d) => .ok d S
  | _ => .bad := rfl
theorem e_C : dC d ρ S = .ok (.p d) S := rfl
theorem e_bin {op : Op2} : dBin op f g ρ S = (f ρ S).bind fun x S1 => (g ρ S1).bind fun y S2 => op x y S2 := rfl
theorem e_un {op : Op1} : dUn op f ρ S = (f ρ S).bind op := rfl
theorem e_ifx : dIf c f g ρ S = (c ρ S).bind fun b S1 => if b = true then f ρ S1 else g ρ S1 := rfl
theorem e_aNil : aNil ρ S = .ok [] S := rfl
theorem e_aCons {r : Af} : aCons f r ρ S = (f ρ S).bind fun x S1 => (r ρ S1).bind fun xs S2 => .ok (x :: xs) S2 := rfl
theorem e_call {op : OpN} {a : Af} : dCall op a ρ S = (a ρ S).bind op := rfl
theorem e_cVal : cVal f ρ S = (f ρ S).bind fun d S1 => match d with
  | .p (.bl b) => .ok b S1
  | _ => .bad := rfl
theorem e_cNot : cNot c ρ S = (c ρ S).bind fun b S1 => .ok (!b) S1 := rfl
theorem e_cAnd : cAnd c c' ρ S = (c ρ S).bind fun b S1 => if b = true then c' ρ S1 else .ok false S1 := rfl
theorem e_cOr : cOr c c' ρ S = (c ρ S).bind fun b S1 => if b = true then .ok true S1 else c' ρ S1 := rfl
theorem e_and : dAnd f g ρ S = (f ρ S).bind fun d S1 => match d with
  | .p (.bl b) => if b = true then g ρ S1 else .ok (.p (.bl false)) S1
  | _ => .bad := rfl
theorem e_or : dOr f g ρ S = (f ρ S).bind fun d S1 => match d with
  | .p (.bl b) => if b = true then .ok (.p (.bl true)) S1 else g ρ S1
  | _ => .bad := rfl
theorem e_not : dNot f ρ S = (f ρ S).bind fun d S1 => match d with
  | .p (.bl b) => .ok (.p (.bl (!b))) S1
  | _ => .bad := rfl
theorem e_add : oAdd (.p (.int i)) (.p (.int j)) S = .ok (.p (.int (i + j))) S := rfl
theorem e_sub : oSub (.p (.int i)) (.p (.int j)) S = .ok (.p (.int (i - j))) S := rfl
theorem e_lt : oLt (.p (.int i)) (.p (.int j)) S = .ok (.p (.bl (decide (i < j)))) S := rfl
theorem e_le : oLe (.p (.int i)) (.p (.int j)) S = .ok (.p (.bl (decide (i ≤ j)))) S := rfl
theorem e_gt : oGt (.p (.int i)) (.p (.int j)) S = .ok (.p (.bl (decide (j < i)))) S := rfl
theorem e_ge : oGe (.p (.int i)) (.p (.int j)) S = .ok (.p (.bl (decide (j ≤ i)))) S := rfl
theorem e_mul : oMul (.p (.int i)) (.p (.int j)) S = if mulOk i j = true then .ok (.p (.int (i * j))) S else .bad := rfl
theorem e_mul1 (h : mulOk i j = true) : oMul (.p (.int i)) (.p (.int j)) S = .ok (.p (.int (i * j))) S := by rw [e_mul, if_pos h]
theorem mul_l (h : i.natAbs < 18446744073709551616) : mulOk i j = true := by unfold mulOk; simp [h]
theorem mul_r (h : j.natAbs < 18446744073709551616) : mulOk i j = true := by unfold mulOk; simp [h]
theorem mul_w (h : i.natAbs < wid) (h' : j.natAbs < wid) : mulOk i j = true := by unfold mulOk; simp [h, h']
theorem e_div (h : 0 < j) (h' : j.natAbs < wid) : oDiv (.p (.int i)) (.p (.int j)) S = .ok (.p (.int (i / j))) S := by
  show (if (decide (0 < j) && decide (j.natAbs < wid)) = true then _ else _) = _
  rw [decide_eq_true h, decide_eq_true h']; rfl
theorem e_mod (h : 0 < j) : oMod (.p (.int i)) (.p (.int j)) S = .ok (.p (.int (i % j))) S := by
  show (if decide (0 < j) = true then _ else _) = _
  rw [decide_eq_true h, if_pos rfl]
theorem e_neg : uNeg (.p (.int i)) S = .ok (.p (.int (-i))) S := rfl
theorem e_eqi : oEq (.p (.int i)) (.p (.int j)) S = .ok (.p (.bl (i == j))) S := rfl
theorem e_nei : oNe (.p (.int i)) (.p (.int j)) S = .ok (.p (.bl (!(i == j)))) S := rfl
theorem shaped_str {z : Str} (h : PyData.strOk z = true) : SeqAt.shaped (.str z) = true := by
  unfold SeqAt.shaped PyData.canLay0 PyData.depth
  rw [h]; rfl
theorem e_eqs {z u : Str} (h : PyData.strOk z = true) (h' : PyData.strOk u = true) : oEq (.p (.str z)) (.p (.str u)) S = .ok (.p (.bl (z == u))) S := by
  show (if SeqAt.shaped (.str z) = true ∧ SeqAt.shaped (.str u) = true then _ else _) = _
  rw [if_pos ⟨shaped_str h, shaped_str h'⟩]; rfl
theorem e_isN : oIsN x (.p .non) S = .ok (.p (.bl (isN x))) S := rfl
theorem e_notN : oNotN x (.p .non) S = .ok (.p (.bl (!isN x))) S := rfl
theorem e_isN_p {d : D} : isN (.p d) = match d with
  | .non => true
  | _ => false := by cases d <;> rfl
theorem e_parts {ds : List D} (h : f ρ S = .ok (.p (.rul ds)) S') : dParts f ρ S = .ok (.p (.tup ds)) S' := by unfold dParts; rw [h]; rfl
theorem e_partsE : dParts f ρ S = (f ρ S).bind fun d S1 => match d with
  | .p (.rul ds) => .ok (.p (.tup ds)) S1
  | _ => .bad := rfl
theorem e_ixT {ds : List D} (k : Nat) (h : ds[k]? = some d) : oIx (.p (.tup ds)) (.p (.int (k : Nat))) S = .ok (.p d) S := by
  unfold oIx sqOf
  show (match atI ds (k : Nat) with | some d => _ | none => _) = _
  rw [atI_nat h]
theorem e_ixL {ds : List D} (k : Nat) (h : ds[k]? = some d) : oIx (.p (.lst ds)) (.p (.int (k : Nat))) S = .ok (.p d) S := by
  unfold oIx sqOf
  show (match atI ds (k : Nat) with | some d => _ | none => _) = _
  rw [atI_nat h]
theorem e_ixT0 {a : D} {r : List D} : oIx (.p (.tup (a :: r))) (.p (.int 0)) S = .ok (.p a) S := e_ixT 0 rfl
theorem e_ixT1 {a b : D} {r : List D} : oIx (.p (.tup (a :: b :: r))) (.p (.int 1)) S = .ok (.p b) S := e_ixT 1 rfl
theorem e_ixT2 {a b c : D} {r : List D} : oIx (.p (.tup (a :: b :: c :: r))) (.p (.int 2)) S = .ok (.p c) S := e_ixT 2 rfl
theorem e_ixT3 {a b c d : D} {r : List D} : oIx (.p (.tup (a :: b :: c :: d :: r))) (.p (.int 3)) S = .ok (.p d) S := e_ixT 3 rfl
theorem e_ixT4 {a b c d e : D} {r : List D} : oIx (.p (.tup (a :: b :: c :: d :: e :: r))) (.p (.int 4)) S = .ok (.p e) S := e_ixT 4 rfl
theorem e_ixL0 {a : D} {r : List D} : oIx (.p (.lst (a :: r))) (.p (.int 0)) S = .ok (.p a) S := e_ixL 0 rfl
theorem e_ixL1 {a b : D} {r : List D} : oIx (.p (.lst (a :: b :: r))) (.p (.int 1)) S = .ok (.p b) S := e_ixL 1 rfl
theorem e_ixL2 {a b c : D} {r : List D} : oIx (.p (.lst (a :: b :: c :: r))) (.p (.int 2)) S = .ok (.p c) S := e_ixL 2 rfl
theorem e_ixL3 {a b c d : D} {r : List D} : oIx (.p (.lst (a :: b :: c :: d :: r))) (.p (.int 3)) S = .ok (.p d) S := e_ixL 3 rfl
theorem e_ixL4 {a b c d e : D} {r : List D} : oIx (.p (.lst (a :: b :: c :: d :: e :: r))) (.p (.int 4)) S = .ok (.p e) S := e_ixL 4 rfl
theorem e_callP {m : List D → PO} {a : Af} : dCallP m a ρ S = (a ρ S).bind fun xs S1 => match allP xs with
  | some ds => match m ds with
    | .ok d => .ok (.p d) S1
    | .exc x => .exc x S1
    | .bad => .bad
  | none => .bad := rfl
theorem e_callE {m : List Dv → Sto → Out Dv} {a : Af} : dCallE m a ρ S = (a ρ S).bind fun xs S1 => m xs S1 := rfl
theorem e_allP {xs : List Dv} : allP (.p d :: xs) = (allP xs).map (d :: ·) := rfl
theorem e_allP0 : allP [] = some [] := rfl
theorem e_tup {a : Af} : dTup a ρ S = (a ρ S).bind fun xs S1 => match allP xs with
  | some ds => if ds.length ≤ big then .ok (.p (.tup ds)) S1 else .bad
  | none => .bad := rfl
theorem e_lst {a : Af} : dLst a ρ S = (a ρ S).bind fun xs S1 => match allP xs with
  | some ds => if ds.length ≤ big then .ok (.p (.lst ds)) S1 else .bad
  | none => .bad := rfl
theorem bg0 : (0 ≤ big) = True := by simp [big]
theorem bg1 : (0 + 1 ≤ big) = True := by simp [big]
theorem bg2 : (0 + 1 + 1 ≤ big) = True := by simp [big]
theorem bg3 : (0 + 1 + 1 + 1 ≤ big) = True := by simp [big]
theorem bg4 : (0 + 1 + 1 + 1 + 1 ≤ big) = True := by simp [big]
theorem bg5 : (0 + 1 + 1 + 1 + 1 + 1 ≤ big) = True := by simp [big]
theorem bg6 : (0 + 1 + 1 + 1 + 1 + 1 + 1 ≤ big) = True := by simp [big]
theorem bg7 : (0 + 1 + 1 + 1 + 1 + 1 + 1 + 1 ≤ big) = True := by simp [big]
theorem bg8 : (0 + 1 + 1 + 1 + 1 + 1 + 1 + 1 + 1 ≤ big) = True := by simp [big]
theorem bg9 : (0 + 1 + 1 + 1 + 1 + 1 + 1 + 1 + 1 + 1 ≤ big) = True := by simp [big]
theorem bg10 : (0 + 1 + 1 + 1 + 1 + 1 + 1 + 1 + 1 + 1 + 1 ≤ big) = True := by simp [big]
theorem bg11 : (0 + 1 + 1 + 1 + 1 + 1 + 1 + 1 + 1 + 1 + 1 + 1 ≤ big) = True := by simp [big]
theorem bg12 : (0 + 1 + 1 + 1 + 1 + 1 + 1 + 1 + 1 + 1 + 1 + 1 + 1 ≤ big) = True := by simp [big]
theorem bg13 : (0 + 1 + 1 + 1 + 1 + 1 + 1 + 1 + 1 + 1 + 1 + 1 + 1 + 1 ≤ big) = True := by simp [big]
theorem bg14 : (0 + 1 + 1 + 1 + 1 + 1 + 1 + 1 + 1 + 1 + 1 + 1 + 1 + 1 + 1 ≤ big) = True := by simp [big]
end
/-! texts that are compared -/
section
theorem s_ll : (("left" : Str) == "left") = true := by decide +kernel
theorem s_lr : (("left" : Str) == "right") = false := by decide +kernel
theorem s_lm : (("left" : Str) == "middle") = false := by decide +kernel
theorem s_rl : (("right" : Str) == "left") = false := by decide +kernel
theorem s_rr : (("right" : Str) == "right") = true := by decide +kernel
theorem s_rm : (("right" : Str) == "middle") = false := by decide +kernel
theorem s_ml : (("middle" : Str) == "left") = false := by decide +kernel
theorem s_mr : (("middle" : Str) == "right") = false := by decide +kernel
theorem s_mm : (("middle" : Str) == "middle") = true := by decide +kernel
theorem s_an : (("anew" : Str) == "on") = false := by decide +kernel
theorem s_oo : (("on" : Str) == "on") = true := by decide +kernel
theorem s_aa : (("anew" : Str) == "anew") = true := by decide +kernel
theorem s_oa : (("on" : Str) == "anew") = false := by decide +kernel
theorem s_ff : (("fro" : Str) == "fro") = true := by decide +kernel
theorem s_sf : (("same" : Str) == "fro") = false := by decide +kernel
theorem s_kk : (("once" : Str) == "once") = true := by decide +kernel
theorem s_ka : (("once" : Str) == "always") = false := by decide +kernel
theorem s_ak : (("always" : Str) == "once") = false := by decide +kernel
theorem s_kv : (("always" : Str) == "always") = true := by decide +kernel
theorem s_ko : (("once" : Str) == "always") = false := s_ka
theorem k_l : PyData.strOk ("left" : Str) = true := by decide +kernel
theorem k_r : PyData.strOk ("right" : Str) = true := by decide +kernel
theorem k_m : PyData.strOk ("middle" : Str) = true := by decide +kernel
theorem k_an : PyData.strOk ("anew" : Str) = true := by decide +kernel
theorem k_on : PyData.strOk ("on" : Str) = true := by decide +kernel
theorem k_f : PyData.strOk ("fro" : Str) = true := by decide +kernel
theorem k_s : PyData.strOk ("same" : Str) = true := by decide +kernel
theorem k_o : PyData.strOk ("once" : Str) = true := by decide +kernel
theorem k_al : PyData.strOk ("always" : Str) = true := by decide +kernel
end
end DL

namespace Hn
open PySem L2 DL
open PySem.Spec PyProof.Rows
/-! mirrors of law_k08_whole_mends, printed by gen.py -/
def t_OUTS : List D := [.int 0, .int 2, .int 3, .int 4, .int 5, .int 6, .int 7, .int 8, .int 9, .int 10, .int 11, .int 12, .int 13]
def t_POINTS : List D := [.str "start", .str "rows", .str "ways", .str "out", .str "kind"]
def tab_WORDS : List (Str × List D) := [("start", [.str "left", .str "middle", .str "right"]), ("rows", [.str "anew", .str "on"]), ("ways", [.str "fro", .str "same"]), ("kind", [.str "always", .str "once"])]
/-- 0 _law_script, 1 _law_seed, 2 _law_state, 3 _law_cell -/
def b_law_mix : Sf := (sSeq (sSet 2 (dName 1)) (sSeq (sFor (iSeq (dName 0)) (gN 3) (sSet 2 (dBin oMod (dCall nInt (aCons (dBin oAdd (dBin oAdd (dBin oMul (dName 2) (dC (.int 48271))) (dBin oMod (dCall nInt (aCons (dName 3) aNil)) (dC (.int 2147483629)))) (dC (.int 1))) aNil)) (dC (.int 2147483647))))) (sRet (dLstR (aCons (dName 2) (aCons (dCall nListC (aCons (dName 0) aNil)) (aCons (dC (.int 0)) (aCons (dC (.int 14)) aNil))))))))
def m_law_mix : List Dv → Sto → Out Dv := runE 2 b_law_mix
/-- 0 _law_h, 1 _law_bound, 2 _law_cell -/
def b_law_next : Sf := (sSeq (sSet 2 (dBin oIx (dBin oAdd (dBin oIx (dName 0) (dC (.int 1))) (dLst (aCons (dC (.int 0)) aNil))) (dBin oMod (dCall nInt (aCons (dBin oIx (dName 0) (dC (.int 2))) aNil)) (dCall nMax2 (aCons (dC (.int 1)) (aCons (dCall nLen (aCons (dBin oIx (dName 0) (dC (.int 1))) aNil)) aNil)))))) (sSeq (sIf (cVal (dBin oGe (dName 2) (dBin oPow (dC (.int 10)) (dC (.int 18))))) (sSeq (sSetI (dBin oIx (dName 0) (dC (.int 1))) (dBin oMod (dCall nInt (aCons (dBin oIx (dName 0) (dC (.int 2))) aNil)) (dCall nLen (aCons (dBin oIx (dName 0) (dC (.int 1))) aNil))) (dBin oDiv (dName 2) (dName 1))) (sRet (dBin oMod (dCall nInt (aCons (dName 2) aNil)) (dName 1)))) sNil) (sSeq (sSetI (dName 0) (dC (.int 0)) (dBin oMod (dCall nInt (aCons (dBin oAdd (dBin oAdd (dBin oMul (dBin oIx (dName 0) (dC (.int 0))) (dC (.int 48271))) (dBin oMul (dName 2) (dC (.int 69621)))) (dC (.int 11))) aNil)) (dC (.int 2147483647)))) (sSeq (sSetI (dName 0) (dC (.int 2)) (dBin oAdd (dBin oIx (dName 0) (dC (.int 2))) (dC (.int 1)))) (sRet (dBin oMod (dCall nInt (aCons (dBin oDiv (dBin oIx (dName 0) (dC (.int 0))) (dC (.int 7))) aNil)) (dName 1)))))))
def m_law_next : List Dv → Sto → Out Dv := runE 1 b_law_next
/-- 0 _law_h, 1 _law_start, 2 _law_out, 3 _law_rows, 4 _law_ways -/
def b_law_rule : Sf := (sSeq (sSet 1 (dBin oIx (dLst (aCons (dC (.str "left")) (aCons (dC (.str "right")) (aCons (dC (.str "middle")) aNil)))) (dCallE m_law_next (aCons (dName 0) (aCons (dC (.int 3)) aNil))))) (sSeq (sPar 3 4 (aCons (dBin oIx (dLst (aCons (dC (.str "anew")) (aCons (dC (.str "on")) aNil))) (dCallE m_law_next (aCons (dName 0) (aCons (dC (.int 2)) aNil)))) (aCons (dBin oIx (dLst (aCons (dC (.str "same")) (aCons (dC (.str "fro")) aNil))) (dCallE m_law_next (aCons (dName 0) (aCons (dC (.int 2)) aNil)))) aNil))) (sSeq (sSet 2 (dBin oIx (dLst (aCons (dC (.int 0)) (aCons (dC (.int 2)) (aCons (dC (.int 3)) (aCons (dC (.int 4)) (aCons (dC (.int 5)) (aCons (dC (.int 6)) (aCons (dC (.int 7)) (aCons (dC (.int 8)) (aCons (dC (.int 9)) (aCons (dC (.int 10)) (aCons (dC (.int 11)) (aCons (dC (.int 12)) (aCons (dC (.int 13)) aNil)))))))))))))) (dCallE m_law_next (aCons (dName 0) (aCons (dC (.int 13)) aNil))))) (sRet (dLst (aCons (dName 1) (aCons (dName 3) (aCons (dName 4) (aCons (dName 2) (aCons (dBin oIx (dLst (aCons (dC (.str "once")) (aCons (dC (.str "always")) aNil))) (dCallE m_law_next (aCons (dName 0) (aCons (dC (.int 2)) aNil)))) aNil))))))))))
def m_law_rule : List Dv → Sto → Out Dv := runE 4 b_law_rule
/-- 0 value, 1 least, 2 most -/
def b_is_integer : Sf := (sRet (dAnd (dIs "int" (dName 0)) (dAnd (dNot (dIs "bool" (dName 0))) (dChain oLe oLe (dName 1) (dName 0) (dName 2)))))
def m_is_integer : List D → DL.PO := runP 0 b_is_integer
/-- 0 point, 1 value -/
def b_is_of : Sf := (sSeq (sIf (cVal (dBin oEq (dName 0) (dC (.str "out")))) (sRet (dAnd (dCallP m_is_integer (aCons (dName 1) (aCons (dC (.int 0)) (aCons (dBin oIx (dC (.tup t_OUTS)) (dUn uNeg (dC (.int 1)))) aNil)))) (dBin (oInS false) (dName 1) (dC (.tup t_OUTS))))) sNil) (sRet (dAnd (dIs "str" (dName 1)) (dBin (oInS false) (dName 1) (dTab tab_WORDS (dName 0))))))
def m_is_of : List D → DL.PO := runP 0 b_is_of
/-- 0 self, 1 start, 2 rows, 3 ways, 4 out, 5 kind, 6 found, 7 point, 8 value -/
def b_Rule_init : Sf := (sSeq (sSet 6 (dTup (aCons (dName 1) (aCons (dName 2) (aCons (dName 3) (aCons (dName 4) (aCons (dName 5) aNil))))))) (sSeq (sFor (iZip (dC (.tup t_POINTS)) (dName 6)) (gT 2 (gsCons (gN 7) (gsCons (gN 8) gsNil))) (sIf (cNot (cVal (dCallP m_is_of (aCons (dName 7) (aCons (dName 8) aNil))))) sBad sNil)) (sParts 0 (dName 6))))
def m_Rule_init : List Dv → Sto → Out Dv := runE 3 b_Rule_init
/-- 0 _law_t -/
def b_law_built : Sf := (sRet (dMake m_Rule_init (aCons (dBin oIx (dName 0) (dC (.int 0))) (aCons (dBin oIx (dName 0) (dC (.int 1))) (aCons (dBin oIx (dName 0) (dC (.int 2))) (aCons (dBin oIx (dName 0) (dC (.int 3))) (aCons (dBin oIx (dName 0) (dC (.int 4))) aNil)))))))
def m_law_built : List D → DL.PO := runP 0 b_law_built
/-- 0 _law_t, 1 _law_place_here, 2 _law_rounds -/
def b_law_number : Sf := (sSeq (sIf (cOr (cVal (dBin oEq (dBin oIx (dName 0) (dC (.int 3))) (dC (.int 0)))) (cAnd (cVal (dBin oEq (dBin oIx (dName 0) (dC (.int 4))) (dC (.str "once")))) (cVal (dBin oLt (dName 1) (dBin oSub (dBin oIx (dName 0) (dC (.int 3))) (dC (.int 1))))))) (sRet (dBin oAdd (dName 1) (dC (.int 1)))) sNil) (sSeq (sIf (cVal (dBin oEq (dBin oIx (dName 0) (dC (.int 4))) (dC (.str "once")))) (sRet (dBin oAdd (dName 1) (dC (.int 2)))) sNil) (sSeq (sSet 2 (dBin oDiv (dName 1) (dBin oSub (dBin oIx (dName 0) (dC (.int 3))) (dC (.int 1))))) (sRet (dBin oAdd (dBin oAdd (dBin oMul (dName 2) (dBin oIx (dName 0) (dC (.int 3)))) (dBin oSub (dName 1) (dBin oMul (dName 2) (dBin oSub (dBin oIx (dName 0) (dC (.int 3))) (dC (.int 1)))))) (dC (.int 1)))))))
def m_law_number : List D → DL.PO := runP 1 b_law_number
/-- 0 _law_t, 1 _law_seats, 2 _law_row, 3 _law_seat_here, 4 _law_middle, 5 _law_found -/
def b_law_place : Sf := (sSeq (sIf (cAnd (cVal (dBin oEq (dBin oIx (dName 0) (dC (.int 2))) (dC (.str "fro")))) (cVal (dBin oLt (dBin oMul (dBin oDiv (dName 2) (dC (.int 2))) (dC (.int 2))) (dName 2)))) (sSet 3 (dBin oSub (dBin oSub (dName 1) (dC (.int 1))) (dName 3))) sNil) (sSeq (sSet 4 (dBin oSub (dBin oDiv (dBin oAdd (dName 1) (dC (.int 1))) (dC (.int 2))) (dC (.int 1)))) (sSeq (sSet 5 (dIf (cVal (dBin oEq (dBin oIx (dName 0) (dC (.int 0))) (dC (.str "left")))) (dName 3) (dBin oSub (dBin oSub (dName 1) (dC (.int 1))) (dName 3)))) (sSeq (sIf (cVal (dBin oEq (dBin oIx (dName 0) (dC (.int 0))) (dC (.str "middle")))) (sSet 5 (dIf (cVal (dBin oGt (dName 3) (dName 4))) (dBin oSub (dBin oMul (dC (.int 2)) (dBin oSub (dName 3) (dName 4))) (dC (.int 1))) (dBin oMul (dC (.int 2)) (dBin oSub (dName 4) (dName 3))))) sNil) (sRet (dIf (cVal (dBin oEq (dBin oIx (dName 0) (dC (.int 1))) (dC (.str "on")))) (dBin oAdd (dName 5) (dBin oMul (dName 1) (dName 2))) (dName 5)))))))
def m_law_place : List D → DL.PO := runP 2 b_law_place
/-- 0 _law_h, 1 _law_t, 2 _law_goal, 3 _law_rows, 4 _law_seats, 5 _law_row, 6 _law_seat_here -/
def b_law_ticket : Sf := (sSeq (sPar 3 4 (aCons (dBin oAdd (dC (.int 1)) (dCallE m_law_next (aCons (dName 0) (aCons (dC (.int 3)) aNil)))) (aCons (dBin oAdd (dC (.int 1)) (dCallE m_law_next (aCons (dName 0) (aCons (dC (.int 16)) aNil)))) aNil))) (sSeq (sPar 5 6 (aCons (dCallE m_law_next (aCons (dName 0) (aCons (dName 3) aNil))) (aCons (dCallE m_law_next (aCons (dName 0) (aCons (dName 4) aNil))) aNil))) (sSeq (sSet 2 (dCallP m_law_number (aCons (dName 1) (aCons (dCallP m_law_place (aCons (dName 1) (aCons (dName 4) (aCons (dName 5) (aCons (dName 6) aNil))))) aNil)))) (sRet (dTup (aCons (dName 3) (aCons (dName 4) (aCons (dName 5) (aCons (dName 6) (aCons (dCall nMax2 (aCons (dC (.int 1)) (aCons (dBin oAdd (dName 2) (dBin oIx (dLst (aCons (dC (.int 0)) (aCons (dC (.int 0)) (aCons (dC (.int 0)) (aCons (dC (.int 0)) (aCons (dC (.int 0)) (aCons (dC (.int 1)) (aCons (dUn uNeg (dC (.int 1))) aNil)))))))) (dCallE m_law_next (aCons (dName 0) (aCons (dC (.int 7)) aNil))))) aNil))) aNil))))))))))
def m_law_ticket : List Dv → Sto → Out Dv := runE 5 b_law_ticket
/-- 0 value, 1 rows, 2 seats, 3 row, 4 seat, 5 number -/
def b_is_ticket : Sf := (sSeq (sIf (cOr (cNot (cVal (dIs "tuple" (dName 0)))) (cVal (dBin oNe (dCall nLen (aCons (dName 0) aNil)) (dC (.int 5))))) (sRet (dC (.bl false))) sNil) (sSeq (sAsg (dName 0) (gT 5 (gsCons (gN 1) (gsCons (gN 2) (gsCons (gN 3) (gsCons (gN 4) (gsCons (gN 5) gsNil))))))) (sSeq (sIf (cOr (cNot (cVal (dCallP m_is_integer (aCons (dName 1) (aCons (dC (.int 1)) (aCons (dC (.int 1000000)) aNil)))))) (cOr (cNot (cVal (dCallP m_is_integer (aCons (dName 2) (aCons (dC (.int 1)) (aCons (dC (.int 1000000)) aNil)))))) (cNot (cVal (dCallP m_is_integer (aCons (dName 3) (aCons (dC (.int 0)) (aCons (dBin oSub (dName 1) (dC (.int 1))) aNil)))))))) (sRet (dC (.bl false))) sNil) (sRet (dAnd (dCallP m_is_integer (aCons (dName 4) (aCons (dC (.int 0)) (aCons (dBin oSub (dName 2) (dC (.int 1))) aNil)))) (dCallP m_is_integer (aCons (dName 5) (aCons (dC (.int 1)) (aCons (dC (.int 1000000000000000000000000000000)) aNil)))))))))
def m_is_ticket : List D → DL.PO := runP 5 b_is_ticket
/-- 0 tickets, 1 index, 2 ticket -/
def b_look_at_tickets : Sf := (sFor (iEnumX (dName 0)) (gT 2 (gsCons (gN 1) (gsCons (gN 2) gsNil))) (sIf (cNot (cVal (dCallP m_is_ticket (aCons (dName 2) aNil)))) (sRaiseA 0 1 (aCons (dName 1) aNil)) sNil))
def m_look_at_tickets : List D → DL.PO := runP 2 b_look_at_tickets
/-- 0 point -/
def b_values_of : Sf := (sRet (dIf (cVal (dBin oEq (dName 0) (dC (.str "out")))) (dC (.tup t_OUTS)) (dTab tab_WORDS (dName 0))))
def m_values_of : List D → DL.PO := runP 0 b_values_of
/-- 0 rule, 1 points, 2 many, 3 found, 4 index, 5 point, 6 own, 7 value, 8 rest -/
def b_sets_of (mR : List D → DL.PO) : Sf := (sSeq (sIf (cVal (dBin oEq (dName 2) (dC (.int 0)))) (sRet (dLst (aCons (dTup aNil) aNil))) sNil) (sSeq (sSet 3 (dLstC aNil)) (sSeq (sFor (iEnumX (dName 1)) (gT 2 (gsCons (gN 4) (gsCons (gN 5) gsNil))) (sSeq (sSet 6 (dBin oIx (dParts (dName 0)) (dIndexC ["start", "rows", "ways", "out", "kind"] (dName 5)))) (sFor (iSeq (dComp [7] (iSeq (dCallP m_values_of (aCons (dName 5) aNil))) (gN 7) (cVal (dBin oNe (dName 7) (dName 6))) (dName 7))) (gN 7) (sExpr (dExt (dName 3) (dComp [8] (iSeq (dCallP mR (aCons (dName 0) (aCons (dSl (dName 1) (pAt (dBin oAdd (dName 4) (dC (.int 1)))) pNo) (aCons (dBin oSub (dName 2) (dC (.int 1))) aNil))))) (gN 8) cYes (dTup (aCons (dTup (aCons (dName 5) (aCons (dName 7) aNil))) (aStar (dName 8) aNil))))))))) (sRet (dName 3)))))
def m_sets_of0 : List D → DL.PO := fun _ => .bad
def m_sets_of1 : List D → DL.PO := runP 6 (b_sets_of m_sets_of0)
def m_sets_of2 : List D → DL.PO := runP 6 (b_sets_of m_sets_of1)
def m_sets_of3 : List D → DL.PO := runP 6 (b_sets_of m_sets_of2)
def m_sets_of4 : List D → DL.PO := runP 6 (b_sets_of m_sets_of3)
def m_sets_of : List D → DL.PO := m_sets_of4
/-- 0 rule, 1 place, 2 out -/
def b_number_at : Sf := (sSeq (sSet 2 (dBin oIx (dParts (dName 0)) (dC (.int 3)))) (sSeq (sIf (cVal (dBin oEq (dName 2) (dC (.int 0)))) (sRet (dBin oAdd (dName 1) (dC (.int 1)))) sNil) (sSeq (sIf (cVal (dBin oEq (dBin oIx (dParts (dName 0)) (dC (.int 4))) (dC (.str "always")))) (sRet (dBin oAdd (dBin oAdd (dName 1) (dC (.int 1))) (dBin oDiv (dName 1) (dBin oSub (dName 2) (dC (.int 1)))))) sNil) (sRet (dIf (cVal (dBin oLt (dBin oAdd (dName 1) (dC (.int 1))) (dName 2))) (dBin oAdd (dName 1) (dC (.int 1))) (dBin oAdd (dName 1) (dC (.int 2))))))))
def m_number_at : List D → DL.PO := runP 1 b_number_at
/-- 0 start, 1 seats, 2 seat, 3 far -/
def b_order_of : Sf := (sSeq (sIf (cVal (dBin oEq (dName 0) (dC (.str "left")))) (sRet (dName 2)) sNil) (sSeq (sIf (cVal (dBin oEq (dName 0) (dC (.str "right")))) (sRet (dBin oSub (dBin oSub (dName 1) (dC (.int 1))) (dName 2))) sNil) (sSeq (sSet 3 (dBin oSub (dName 2) (dBin oDiv (dBin oSub (dName 1) (dC (.int 1))) (dC (.int 2))))) (sRet (dIf (cVal (dBin oGt (dName 3) (dC (.int 0)))) (dBin oSub (dBin oMul (dC (.int 2)) (dName 3)) (dC (.int 1))) (dBin oMul (dUn uNeg (dC (.int 2))) (dName 3)))))))
def m_order_of : List D → DL.PO := runP 1 b_order_of
/-- 0 rule, 1 row -/
def b_is_mirrored : Sf := (sRet (dAnd (dBin oEq (dBin oIx (dParts (dName 0)) (dC (.int 2))) (dC (.str "fro"))) (dBin oEq (dBin oMod (dName 1) (dC (.int 2))) (dC (.int 1)))))
def m_is_mirrored : List D → DL.PO := runP 0 b_is_mirrored
/-- 0 rule, 1 seats, 2 row, 3 seat, 4 own, 5 order -/
def b_place_of : Sf := (sSeq (sSet 4 (dIf (cVal (dCallP m_is_mirrored (aCons (dName 0) (aCons (dName 2) aNil)))) (dBin oSub (dBin oSub (dName 1) (dC (.int 1))) (dName 3)) (dName 3))) (sSeq (sSet 5 (dCallP m_order_of (aCons (dBin oIx (dParts (dName 0)) (dC (.int 0))) (aCons (dName 1) (aCons (dName 4) aNil))))) (sRet (dIf (cVal (dBin oEq (dBin oIx (dParts (dName 0)) (dC (.int 1))) (dC (.str "on")))) (dBin oAdd (dName 5) (dBin oMul (dName 2) (dName 1))) (dName 5)))))
def m_place_of : List D → DL.PO := runP 2 b_place_of
/-- 0 rule, 1 seats, 2 row, 3 seat -/
def b_own_number : Sf := (sRet (dCallP m_number_at (aCons (dName 0) (aCons (dCallP m_place_of (aCons (dName 0) (aCons (dName 1) (aCons (dName 2) (aCons (dName 3) aNil))))) aNil))))
def m_own_number : List D → DL.PO := runP 0 b_own_number
/-- 0 rule, 1 tickets, 2 rows, 3 seats, 4 row, 5 seat, 6 number -/
def b_does_fit : Sf := (sRet (dCall nAll (aCons (dComp [2, 3, 4, 5, 6] (iSeq (dName 1)) (gT 5 (gsCons (gN 2) (gsCons (gN 3) (gsCons (gN 4) (gsCons (gN 5) (gsCons (gN 6) gsNil)))))) cYes (dBin oEq (dCallP m_own_number (aCons (dName 0) (aCons (dName 3) (aCons (dName 4) (aCons (dName 5) aNil))))) (dName 6))) aNil)))
def m_does_fit : List D → DL.PO := runP 5 b_does_fit
/-- 0 rule, 1 point, 2 value, 3 found, 4 one, 5 own -/
def b_own_turned : Sf := (sSeq (sSet 3 (dComp [4, 5] (iZip (dC (.tup t_POINTS)) (dParts (dName 0))) (gT 2 (gsCons (gN 4) (gsCons (gN 5) gsNil))) cYes (dIf (cVal (dBin oEq (dName 4) (dName 1))) (dName 2) (dName 5)))) (sRet (dMakeS 5 m_Rule_init (dName 3))))
def m_own_turned : List D → DL.PO := runP 3 b_own_turned
/-- 0 rule, 1 changes, 2 point, 3 value -/
def b_changed : Sf := (sSeq (sFor (iSeq (dName 1)) (gT 2 (gsCons (gN 2) (gsCons (gN 3) gsNil))) (sSet 0 (dCallP m_own_turned (aCons (dName 0) (aCons (dName 2) (aCons (dName 3) aNil)))))) (sRet (dName 0)))
def m_changed : List D → DL.PO := runP 2 b_changed
/-- 0 rule, 1 tickets, 2 limit, 3 points, 4 many, 5 found, 6 some -/
def b_mends : Sf := (sSeq (sIf (cNot (cVal (dCallP m_is_integer (aCons (dName 2) (aCons (dC (.int 0)) (aCons (dC (.int 3)) aNil)))))) (sRaise 1) sNil) (sSeq (sExpr (dCallP m_look_at_tickets (aCons (dName 1) aNil))) (sSeq (sSet 3 (dCall nSortP (aCons (dC (.tup t_POINTS)) aNil))) (sSeq (sFor (iRng1 (dBin oAdd (dName 2) (dC (.int 1)))) (gN 4) (sSeq (sSet 5 (dComp [6] (iSeq (dCallP m_sets_of (aCons (dName 0) (aCons (dName 3) (aCons (dName 4) aNil))))) (gN 6) (cVal (dCallP m_does_fit (aCons (dCallP m_changed (aCons (dName 0) (aCons (dName 6) aNil))) (aCons (dName 1) aNil)))) (dName 6))) (sIf (cVal (dBin oNe (dName 5) (dLst aNil))) (sRet (dName 5)) sNil))) (sRet (dLst aNil))))))
def m_mends : List D → DL.PO := runP 4 b_mends
/-- 0 _law_rule_here, 1 _law_tickets, 2 _law_bound, 3 _law_told, 4 e -/
def b_law_refused : Sf := (sSeq (sSet 3 (dC .non)) (sSeq (sTryC (sExpr (dCallP m_mends (aKw (aCons (dName 0) (aCons (dName 1) aNil)) (dName 2)))) (.bare (mtOne 2 1) (sSet 3 (dC (.str "limit"))) :: (.named (mtOne 2 0) 4 (fun x => sSet 3 ((xFld 0 0) x)) :: []))) (sRet (dName 3))))
def m_law_refused : List D → DL.PO := runP 2 b_law_refused
/-- 0 _law_t, 1 _law_points, 2 _law_found, 3 _law_spots, 4 _law_point, 5 _law_some, 6 _law_later, 7 _law_value, 8 _law_row -/
def b_law_changes : Sf := (sSeq (sSet 2 (dLst (aCons (dTup aNil) aNil))) (sSeq (sSet 3 (dC (.dsi [("start", 0), ("rows", 1), ("ways", 2), ("out", 3), ("kind", 4)]))) (sSeq (sFor (iSeq (dName 1)) (gT 2 (gsCons (gN 4) (gsCons (gN 5) gsNil))) (sSeq (sSet 6 (dCall nList (aCons (dName 2) aNil))) (sSeq (sFor (iSeq (dName 5)) (gN 7) (sIf (cVal (dBin oNe (dName 7) (dBin oIx (dName 0) (dIxSI (dName 3) (dName 4))))) (sSet 6 (dBin oAdd (dName 6) (dComp [8] (iSeq (dName 2)) (gN 8) cYes (dBin oCatA (dName 8) (dTup (aCons (dTup (aCons (dName 4) (aCons (dName 7) aNil))) aNil)))))) sNil)) (sSet 2 (dName 6))))) (sRet (dName 2)))))
def m_law_changes : List D → DL.PO := runP 7 b_law_changes
/-- 0 _law_found -/
def b_law_values : Sf := (sSeq (sSet 0 (dLst (aCons (dTup (aCons (dC (.str "kind")) (aCons (dLst (aCons (dC (.str "always")) (aCons (dC (.str "once")) aNil))) aNil))) (aCons (dTup (aCons (dC (.str "out")) (aCons (dBin oAdd (dLst (aCons (dC (.int 0)) aNil)) (dLRng2 (dC (.int 2)) (dC (.int 14)))) aNil))) (aCons (dTup (aCons (dC (.str "rows")) (aCons (dLst (aCons (dC (.str "anew")) (aCons (dC (.str "on")) aNil))) aNil))) aNil))))) (sRet (dBin oAdd (dName 0) (dLst (aCons (dTup (aCons (dC (.str "start")) (aCons (dLst (aCons (dC (.str "left")) (aCons (dC (.str "middle")) (aCons (dC (.str "right")) aNil)))) aNil))) (aCons (dTup (aCons (dC (.str "ways")) (aCons (dLst (aCons (dC (.str "fro")) (aCons (dC (.str "same")) aNil))) aNil))) aNil))))))
def m_law_values : List D → DL.PO := runP 1 b_law_values
/-- 0 _law_t, 1 _law_tickets, 2 _law_rows, 3 _law_seats, 4 _law_row, 5 _law_seat_here, 6 _law_goal -/
def b_law_fits : Sf := (sSeq (sFor (iSeq (dName 1)) (gT 5 (gsCons (gN 2) (gsCons (gN 3) (gsCons (gN 4) (gsCons (gN 5) (gsCons (gN 6) gsNil)))))) (sIf (cVal (dBin oNe (dCallP m_law_number (aCons (dName 0) (aCons (dCallP m_law_place (aCons (dName 0) (aCons (dName 3) (aCons (dName 4) (aCons (dName 5) aNil))))) aNil))) (dName 6))) (sRet (dC (.bl false))) sNil)) (sRet (dC (.bl true))))
def m_law_fits : List D → DL.PO := runP 5 b_law_fits
/-- 0 _law_t, 1 _law_changes_here, 2 _law_u, 3 _law_spots, 4 _law_point, 5 _law_value -/
def b_law_turned : Sf := (sSeq (sSet 2 (dCall nListC (aCons (dName 0) aNil))) (sSeq (sSet 3 (dC (.dsi [("start", 0), ("rows", 1), ("ways", 2), ("out", 3), ("kind", 4)]))) (sSeq (sFor (iSeq (dName 1)) (gT 2 (gsCons (gN 4) (gsCons (gN 5) gsNil))) (sSetI (dName 2) (dIxSI (dName 3) (dName 4)) (dName 5))) (sRet (dName 2)))))
def m_law_turned : List D → DL.PO := runP 4 b_law_turned
/-- 0 _law_script, 1 _law_h, 2 _law_t, 3 _law_u, 4 _law_other, 5 _law_turn, 6 _law_tickets, 7 _law_rule_here, 8 _law_bound, 9 _law_every, 10 _law_due, 11 _law_many, 12 _law_odd, 13 _law_point, 14 _law_k, 15 _law_some -/
def b_law : Sf := (sSeq (sSet 1 (dCallE m_law_mix (aCons (dName 0) (aCons (dC (.int 8)) aNil)))) (sSeq (sSet 2 (dCallE m_law_rule (aCons (dName 1) aNil))) (sSeq (sSet 3 (dCall nListC (aCons (dName 2) aNil))) (sSeq (sSet 4 (dCallE m_law_rule (aCons (dName 1) aNil))) (sSeq (sFor (iRng1 (dCallE m_law_next (aCons (dName 1) (aCons (dC (.int 4)) aNil)))) (gN 5) (sSeq (sSet 13 (dCallE m_law_next (aCons (dName 1) (aCons (dC (.int 5)) aNil)))) (sSetI (dName 3) (dName 13) (dBin oIx (dName 4) (dName 13))))) (sFz 3 (sSeq (sSet 6 (dComp [14] (iRng1 (dCallE m_law_next (aCons (dName 1) (aCons (dC (.int 4)) aNil)))) (gN 14) cYes (dCallE m_law_ticket (aCons (dName 1) (aCons (dName 3) aNil))))) (sSeq (sSet 7 (dCallP m_law_built (aCons (dName 2) aNil))) (sSeq (sSet 8 (dCallE m_law_next (aCons (dName 1) (aCons (dC (.int 4)) aNil)))) (sSeq (sSet 9 (dComp [15] (iSeq (dCallP m_law_changes (aCons (dName 2) (aCons (dCall0 m_law_values) aNil)))) (gN 15) (cVal (dBin oLe (dCall nLen (aCons (dName 15) aNil)) (dName 8))) (dName 15))) (sSeq (sSet 10 (dLst aNil)) (sSeq (sFor (iRng1 (dBin oAdd (dName 8) (dC (.int 1)))) (gN 11) (sIf (cVal (dBin oEq (dName 10) (dLst aNil))) (sSet 10 (dComp [15] (iSeq (dName 9)) (gN 15) (cAnd (cVal (dBin oEq (dCall nLen (aCons (dName 15) aNil)) (dName 11))) (cVal (dCallP m_law_fits (aCons (dCallP m_law_turned (aCons (dName 2) (aCons (dName 15) aNil))) (aCons (dName 6) aNil))))) (dName 15))) sNil)) (sSeq (sIf (cVal (dBin oNe (dCallP m_mends (aKw (aCons (dName 7) (aCons (dName 6) aNil)) (dName 8))) (dCall nSortTT (aCons (dName 10) aNil)))) (sRet (dC (.bl false))) sNil) (sSeq (sIf (cAnd (cVal (dBin oEq (dName 8) (dC (.int 2)))) (cVal (dBin oNe (dCallP m_mends (aEnd (aCons (dName 7) (aCons (dCall nTuple (aCons (dName 6) aNil)) aNil)) [.int 2])) (dCall nSortTT (aCons (dName 10) aNil))))) (sRet (dC (.bl false))) sNil) (sSeq (sSet 12 (dBin oIx (dLst (aCons (dUn uNeg (dC (.int 1))) (aCons (dC (.int 4)) (aCons (dC (.bl true)) (aCons (dC .non) (aCons (dC (.str "2")) aNil)))))) (dCallE m_law_next (aCons (dName 1) (aCons (dC (.int 5)) aNil))))) (sSeq (sIf (cVal (dBin oNe (dCallP m_law_refused (aCons (dName 7) (aCons (dLst (aCons (dC .non) aNil)) (aCons (dName 12) aNil)))) (dC (.str "limit")))) (sRet (dC (.bl false))) sNil) (sRet (dBin oEq (dCallP m_law_refused (aCons (dName 7) (aCons (dBin oAdd (dName 6) (dLst (aCons (dTup (aCons (dC (.int 1)) (aCons (dC (.int 1)) (aCons (dC (.int 0)) (aCons (dC (.int 0)) aNil))))) aNil))) (aCons (dName 8) aNil)))) (dCall nLen (aCons (dName 6) aNil))))))))))))))))))))
def m_law : List Dv → Sto → Out Dv := runE 15 b_law
/-! ### the mathematics that the laws share -/
structure Ru where
  s : Str
  r : Str
  w : Str
  o : Int
  k : Str
def okO (o : Int) : Prop := o = 0 ∨ (2 ≤ o ∧ o ≤ 13)
structure Ru.ok (t : Ru) : Prop where
  hs : t.s = "left" ∨ t.s = "right" ∨ t.s = "middle"
  hr : t.r = "anew" ∨ t.r = "on"
  hw : t.w = "same" ∨ t.w = "fro"
  ho : okO t.o
  hk : t.k = "once" ∨ t.k = "always"
def ruD (r : Ru) : List D := [.str r.s, .str r.r, .str r.w, .int r.o, .str r.k]
theorem okO_cases {o : Int} (h : okO o) : o = 0 ∨ o = 2 ∨ o = 3 ∨ o = 4 ∨ o = 5 ∨ o = 6 ∨ o = 7 ∨ o = 8 ∨ o = 9 ∨ o = 10 ∨ o = 11 ∨ o = 12 ∨ o = 13 := by unfold okO at h; omega
/-! numbers -/
def numAt (o : Int) (k : Str) (p : Int) : Int := if o = 0 then p + 1 else if (k == "always") = true then p + 1 + p / (o - 1) else if p + 1 < o then p + 1 else p + 2
def ordOf (s : Str) (seats seat : Int) : Int := if (s == "left") = true then seat else if (s == "right") = true then seats - 1 - seat else if seat - (seats - 1) / 2 > 0 then 2 * (seat - (seats - 1) / 2) - 1 else -2 * (seat - (seats - 1) / 2)
def mir (w : Str) (row : Int) : Bool := w == "fro" && row % 2 == 1
def placeOf (r : Ru) (seats row seat : Int) : Int := if (r.r == "on") = true then ordOf r.s seats (if mir r.w row = true then seats - 1 - seat else seat) + row * seats else ordOf r.s seats (if mir r.w row = true then seats - 1 - seat else seat)
def ownNum (r : Ru) (seats row seat : Int) : Int := numAt r.o r.k (placeOf r seats row seat)
theorem wid_big : 1000000000000000000000000000000000000000000000000000000000000000000000 < wid := by decide
theorem number_at_eq {a b c : D} {o p : Int} {k : Str} (ho : okO o) (hk : k = "once" ∨ k = "always") : m_number_at [.rul [a, b, c, .int o, .str k], .int p] = .ok (.int (numAt o k p)) := by
  unfold numAt
  have hw := wid_big
  have e1 : ∀ S, o ≠ 0 → oDiv (.p (.int p)) (.p (.int (o - 1))) S = .ok (.p (.int (p / (o - 1)))) S := fun S h => by
    unfold okO at ho
    exact e_div (by omega) (by omega)
  by_cases h0 : o = 0
  · subst h0
    simp only [m_number_at, runP, init, b_number_at, e_seq, e_seq_nx, e_seq_rt, e_seq_ite, e_bind, e_bind_ite, e_toS, e_toS_ite, e_set, e_ret, e_expr, e_nil, e_if, e_name, e_C, e_bin, e_un, e_ifx, e_aNil, e_aCons, e_call, e_cVal, e_cNot, e_cAnd, e_cOr, e_and, e_or, e_not, e_add, e_sub, e_lt, e_le, e_gt, e_ge, e_neg, e_eqi, e_nei, e_isN, e_notN, e_partsE, e_ixT0, e_ixT1, e_ixT2, e_ixT3, e_ixT4, e_ixL0, e_ixL1, e_ixL2, e_ixL3, e_ixL4, e_callP, e_callE, e_allP, e_allP0, e_tup, e_lst, e_par, List.map_cons, List.map_nil, List.append_assoc, List.nil_append, List.cons_append, List.replicate, List.getElem?_cons_zero, List.getElem?_cons_succ, List.set_cons_zero, List.set_cons_succ, Option.map_some, if_true, if_false, Bool.false_eq_true, decide_eq_true_eq, List.length_cons, List.length_nil, bg0, bg1, bg2, bg3, bg4, bg5, bg6, bg7, bg8, bg9, bg10, bg11, bg12, bg13, bg14, s_ll, s_lr, s_lm, s_rl, s_rr, s_rm, s_ml, s_mr, s_mm, s_an, s_oo, s_aa, s_oa, s_ff, s_sf, s_kk, s_ka, s_ak, s_kv, e_eqs k_l k_l, e_eqs k_r k_l, e_eqs k_m k_l, e_eqs k_l k_r, e_eqs k_r k_r, e_eqs k_m k_r, e_eqs k_l k_m, e_eqs k_r k_m, e_eqs k_m k_m, e_eqs k_an k_on, e_eqs k_on k_on, e_eqs k_f k_f, e_eqs k_s k_f, e_eqs k_o k_o, e_eqs k_al k_o, e_eqs k_o k_al, e_eqs k_al k_al]
    rfl
  · have h0' : (o == 0) = false := by simp [h0]
    rcases hk with rfl | rfl
    · by_cases h1 : p + 1 < o
      · simp only [m_number_at, runP, init, b_number_at, e_seq, e_seq_nx, e_seq_rt, e_seq_ite, e_bind, e_bind_ite, e_toS, e_toS_ite, e_set, e_ret, e_expr, e_nil, e_if, e_name, e_C, e_bin, e_un, e_ifx, e_aNil, e_aCons, e_call, e_cVal, e_cNot, e_cAnd, e_cOr, e_and, e_or, e_not, e_add, e_sub, e_lt, e_le, e_gt, e_ge, e_neg, e_eqi, e_nei, e_isN, e_notN, e_partsE, e_ixT0, e_ixT1, e_ixT2, e_ixT3, e_ixT4, e_ixL0, e_ixL1, e_ixL2, e_ixL3, e_ixL4, e_callP, e_callE, e_allP, e_allP0, e_tup, e_lst, e_par, List.map_cons, List.map_nil, List.append_assoc, List.nil_append, List.cons_append, List.replicate, List.getElem?_cons_zero, List.getElem?_cons_succ, List.set_cons_zero, List.set_cons_succ, Option.map_some, if_true, if_false, Bool.false_eq_true, decide_eq_true_eq, List.length_cons, List.length_nil, bg0, bg1, bg2, bg3, bg4, bg5, bg6, bg7, bg8, bg9, bg10, bg11, bg12, bg13, bg14, s_ll, s_lr, s_lm, s_rl, s_rr, s_rm, s_ml, s_mr, s_mm, s_an, s_oo, s_aa, s_oa, s_ff, s_sf, s_kk, s_ka, s_ak, s_kv, e_eqs k_l k_l, e_eqs k_r k_l, e_eqs k_m k_l, e_eqs k_l k_r, e_eqs k_r k_r, e_eqs k_m k_r, e_eqs k_l k_m, e_eqs k_r k_m, e_eqs k_m k_m, e_eqs k_an k_on, e_eqs k_on k_on, e_eqs k_f k_f, e_eqs k_s k_f, e_eqs k_o k_o, e_eqs k_al k_o, e_eqs k_o k_al, e_eqs k_al k_al, h0, h0', e1 _ h0, h1]
      · simp only [m_number_at, runP, init, b_number_at, e_seq, e_seq_nx, e_seq_rt, e_seq_ite, e_bind, e_bind_ite, e_toS, e_toS_ite, e_set, e_ret, e_expr, e_nil, e_if, e_name, e_C, e_bin, e_un, e_ifx, e_aNil, e_aCons, e_call, e_cVal, e_cNot, e_cAnd, e_cOr, e_and, e_or, e_not, e_add, e_sub, e_lt, e_le, e_gt, e_ge, e_neg, e_eqi, e_nei, e_isN, e_notN, e_partsE, e_ixT0, e_ixT1, e_ixT2, e_ixT3, e_ixT4, e_ixL0, e_ixL1, e_ixL2, e_ixL3, e_ixL4, e_callP, e_callE, e_allP, e_allP0, e_tup, e_lst, e_par, List.map_cons, List.map_nil, List.append_assoc, List.nil_append, List.cons_append, List.replicate, List.getElem?_cons_zero, List.getElem?_cons_succ, List.set_cons_zero, List.set_cons_succ, Option.map_some, if_true, if_false, Bool.false_eq_true, decide_eq_true_eq, List.length_cons, List.length_nil, bg0, bg1, bg2, bg3, bg4, bg5, bg6, bg7, bg8, bg9, bg10, bg11, bg12, bg13, bg14, s_ll, s_lr, s_lm, s_rl, s_rr, s_rm, s_ml, s_mr, s_mm, s_an, s_oo, s_aa, s_oa, s_ff, s_sf, s_kk, s_ka, s_ak, s_kv, e_eqs k_l k_l, e_eqs k_r k_l, e_eqs k_m k_l, e_eqs k_l k_r, e_eqs k_r k_r, e_eqs k_m k_r, e_eqs k_l k_m, e_eqs k_r k_m, e_eqs k_m k_m, e_eqs k_an k_on, e_eqs k_on k_on, e_eqs k_f k_f, e_eqs k_s k_f, e_eqs k_o k_o, e_eqs k_al k_o, e_eqs k_o k_al, e_eqs k_al k_al, h0, h0', e1 _ h0, h1]
    · simp only [m_number_at, runP, init, b_number_at, e_seq, e_seq_nx, e_seq_rt, e_seq_ite, e_bind, e_bind_ite, e_toS, e_toS_ite, e_set, e_ret, e_expr, e_nil, e_if, e_name, e_C, e_bin, e_un, e_ifx, e_aNil, e_aCons, e_call, e_cVal, e_cNot, e_cAnd, e_cOr, e_and, e_or, e_not, e_add, e_sub, e_lt, e_le, e_gt, e_ge, e_neg, e_eqi, e_nei, e_isN, e_notN, e_partsE, e_ixT0, e_ixT1, e_ixT2, e_ixT3, e_ixT4, e_ixL0, e_ixL1, e_ixL2, e_ixL3, e_ixL4, e_callP, e_callE, e_allP, e_allP0, e_tup, e_lst, e_par, List.map_cons, List.map_nil, List.append_assoc, List.nil_append, List.cons_append, List.replicate, List.getElem?_cons_zero, List.getElem?_cons_succ, List.set_cons_zero, List.set_cons_succ, Option.map_some, if_true, if_false, Bool.false_eq_true, decide_eq_true_eq, List.length_cons, List.length_nil, bg0, bg1, bg2, bg3, bg4, bg5, bg6, bg7, bg8, bg9, bg10, bg11, bg12, bg13, bg14, s_ll, s_lr, s_lm, s_rl, s_rr, s_rm, s_ml, s_mr, s_mm, s_an, s_oo, s_aa, s_oa, s_ff, s_sf, s_kk, s_ka, s_ak, s_kv, e_eqs k_l k_l, e_eqs k_r k_l, e_eqs k_m k_l, e_eqs k_l k_r, e_eqs k_r k_r, e_eqs k_m k_r, e_eqs k_l k_m, e_eqs k_r k_m, e_eqs k_m k_m, e_eqs k_an k_on, e_eqs k_on k_on, e_eqs k_f k_f, e_eqs k_s k_f, e_eqs k_o k_o, e_eqs k_al k_o, e_eqs k_o k_al, e_eqs k_al k_al, h0, h0', e1 _ h0]
theorem order_of_eq {s : Str} {seats seat : Int} (hs : s = "left" ∨ s = "right" ∨ s = "middle") : m_order_of [.str s, .int seats, .int seat] = .ok (.int (ordOf s seats seat)) := by
  have hw := wid_big
  have e1 : ∀ S, oDiv (.p (.int (seats - 1))) (.p (.int 2)) S = .ok (.p (.int ((seats - 1) / 2))) S := fun S => e_div (by decide) (by decide)
  have e2 : ∀ (x : Int) (S : Sto), oMul (.p (.int 2)) (.p (.int x)) S = .ok (.p (.int (2 * x))) S := fun x S => e_mul1 (mul_l (by decide))
  have e3 : ∀ (x : Int) (S : Sto), oMul (.p (.int (-2))) (.p (.int x)) S = .ok (.p (.int (-2 * x))) S := fun x S => e_mul1 (mul_l (by decide))
  unfold ordOf
  rcases hs with rfl | rfl | rfl
  · simp only [m_order_of, runP, init, b_order_of, e_seq, e_seq_nx, e_seq_rt, e_seq_ite, e_bind, e_bind_ite, e_toS, e_toS_ite, e_set, e_ret, e_expr, e_nil, e_if, e_name, e_C, e_bin, e_un, e_ifx, e_aNil, e_aCons, e_call, e_cVal, e_cNot, e_cAnd, e_cOr, e_and, e_or, e_not, e_add, e_sub, e_lt, e_le, e_gt, e_ge, e_neg, e_eqi, e_nei, e_isN, e_notN, e_partsE, e_ixT0, e_ixT1, e_ixT2, e_ixT3, e_ixT4, e_ixL0, e_ixL1, e_ixL2, e_ixL3, e_ixL4, e_callP, e_callE, e_allP, e_allP0, e_tup, e_lst, e_par, List.map_cons, List.map_nil, List.append_assoc, List.nil_append, List.cons_append, List.replicate, List.getElem?_cons_zero, List.getElem?_cons_succ, List.set_cons_zero, List.set_cons_succ, Option.map_some, if_true, if_false, Bool.false_eq_true, decide_eq_true_eq, List.length_cons, List.length_nil, bg0, bg1, bg2, bg3, bg4, bg5, bg6, bg7, bg8, bg9, bg10, bg11, bg12, bg13, bg14, s_ll, s_lr, s_lm, s_rl, s_rr, s_rm, s_ml, s_mr, s_mm, s_an, s_oo, s_aa, s_oa, s_ff, s_sf, s_kk, s_ka, s_ak, s_kv, e_eqs k_l k_l, e_eqs k_r k_l, e_eqs k_m k_l, e_eqs k_l k_r, e_eqs k_r k_r, e_eqs k_m k_r, e_eqs k_l k_m, e_eqs k_r k_m, e_eqs k_m k_m, e_eqs k_an k_on, e_eqs k_on k_on, e_eqs k_f k_f, e_eqs k_s k_f, e_eqs k_o k_o, e_eqs k_al k_o, e_eqs k_o k_al, e_eqs k_al k_al]
  · simp only [m_order_of, runP, init, b_order_of, e_seq, e_seq_nx, e_seq_rt, e_seq_ite, e_bind, e_bind_ite, e_toS, e_toS_ite, e_set, e_ret, e_expr, e_nil, e_if, e_name, e_C, e_bin, e_un, e_ifx, e_aNil, e_aCons, e_call, e_cVal, e_cNot, e_cAnd, e_cOr, e_and, e_or, e_not, e_add, e_sub, e_lt, e_le, e_gt, e_ge, e_neg, e_eqi, e_nei, e_isN, e_notN, e_partsE, e_ixT0, e_ixT1, e_ixT2, e_ixT3, e_ixT4, e_ixL0, e_ixL1, e_ixL2, e_ixL3, e_ixL4, e_callP, e_callE, e_allP, e_allP0, e_tup, e_lst, e_par, List.map_cons, List.map_nil, List.append_assoc, List.nil_append, List.cons_append, List.replicate, List.getElem?_cons_zero, List.getElem?_cons_succ, List.set_cons_zero, List.set_cons_succ, Option.map_some, if_true, if_false, Bool.false_eq_true, decide_eq_true_eq, List.length_cons, List.length_nil, bg0, bg1, bg2, bg3, bg4, bg5, bg6, bg7, bg8, bg9, bg10, bg11, bg12, bg13, bg14, s_ll, s_lr, s_lm, s_rl, s_rr, s_rm, s_ml, s_mr, s_mm, s_an, s_oo, s_aa, s_oa, s_ff, s_sf, s_kk, s_ka, s_ak, s_kv, e_eqs k_l k_l, e_eqs k_r k_l, e_eqs k_m k_l, e_eqs k_l k_r, e_eqs k_r k_r, e_eqs k_m k_r, e_eqs k_l k_m, e_eqs k_r k_m, e_eqs k_m k_m, e_eqs k_an k_on, e_eqs k_on k_on, e_eqs k_f k_f, e_eqs k_s k_f, e_eqs k_o k_o, e_eqs k_al k_o, e_eqs k_o k_al, e_eqs k_al k_al]
  · by_cases h1 : seat - (seats - 1) / 2 > 0
    · simp only [m_order_of, runP, init, b_order_of, e_seq, e_seq_nx, e_seq_rt, e_seq_ite, e_bind, e_bind_ite, e_toS, e_toS_ite, e_set, e_ret, e_expr, e_nil, e_if, e_name, e_C, e_bin, e_un, e_ifx, e_aNil, e_aCons, e_call, e_cVal, e_cNot, e_cAnd, e_cOr, e_and, e_or, e_not, e_add, e_sub, e_lt, e_le, e_gt, e_ge, e_neg, e_eqi, e_nei, e_isN, e_notN, e_partsE, e_ixT0, e_ixT1, e_ixT2, e_ixT3, e_ixT4, e_ixL0, e_ixL1, e_ixL2, e_ixL3, e_ixL4, e_callP, e_callE, e_allP, e_allP0, e_tup, e_lst, e_par, List.map_cons, List.map_nil, List.append_assoc, List.nil_append, List.cons_append, List.replicate, List.getElem?_cons_zero, List.getElem?_cons_succ, List.set_cons_zero, List.set_cons_succ, Option.map_some, if_true, if_false, Bool.false_eq_true, decide_eq_true_eq, List.length_cons, List.length_nil, bg0, bg1, bg2, bg3, bg4, bg5, bg6, bg7, bg8, bg9, bg10, bg11, bg12, bg13, bg14, s_ll, s_lr, s_lm, s_rl, s_rr, s_rm, s_ml, s_mr, s_mm, s_an, s_oo, s_aa, s_oa, s_ff, s_sf, s_kk, s_ka, s_ak, s_kv, e_eqs k_l k_l, e_eqs k_r k_l, e_eqs k_m k_l, e_eqs k_l k_r, e_eqs k_r k_r, e_eqs k_m k_r, e_eqs k_l k_m, e_eqs k_r k_m, e_eqs k_m k_m, e_eqs k_an k_on, e_eqs k_on k_on, e_eqs k_f k_f, e_eqs k_s k_f, e_eqs k_o k_o, e_eqs k_al k_o, e_eqs k_o k_al, e_eqs k_al k_al, e1, e2, e3, h1, gt_iff_lt] at h1 ⊢
    · simp only [m_order_of, runP, init, b_order_of, e_seq, e_seq_nx, e_seq_rt, e_seq_ite, e_bind, e_bind_ite, e_toS, e_toS_ite, e_set, e_ret, e_expr, e_nil, e_if, e_name, e_C, e_bin, e_un, e_ifx, e_aNil, e_aCons, e_call, e_cVal, e_cNot, e_cAnd, e_cOr, e_and, e_or, e_not, e_add, e_sub, e_lt, e_le, e_gt, e_ge, e_neg, e_eqi, e_nei, e_isN, e_notN, e_partsE, e_ixT0, e_ixT1, e_ixT2, e_ixT3, e_ixT4, e_ixL0, e_ixL1, e_ixL2, e_ixL3, e_ixL4, e_callP, e_callE, e_allP, e_allP0, e_tup, e_lst, e_par, List.map_cons, List.map_nil, List.append_assoc, List.nil_append, List.cons_append, List.replicate, List.getElem?_cons_zero, List.getElem?_cons_succ, List.set_cons_zero, List.set_cons_succ, Option.map_some, if_true, if_false, Bool.false_eq_true, decide_eq_true_eq, List.length_cons, List.length_nil, bg0, bg1, bg2, bg3, bg4, bg5, bg6, bg7, bg8, bg9, bg10, bg11, bg12, bg13, bg14, s_ll, s_lr, s_lm, s_rl, s_rr, s_rm, s_ml, s_mr, s_mm, s_an, s_oo, s_aa, s_oa, s_ff, s_sf, s_kk, s_ka, s_ak, s_kv, e_eqs k_l k_l, e_eqs k_r k_l, e_eqs k_m k_l, e_eqs k_l k_r, e_eqs k_r k_r, e_eqs k_m k_r, e_eqs k_l k_m, e_eqs k_r k_m, e_eqs k_m k_m, e_eqs k_an k_on, e_eqs k_on k_on, e_eqs k_f k_f, e_eqs k_s k_f, e_eqs k_o k_o, e_eqs k_al k_o, e_eqs k_o k_al, e_eqs k_al k_al, e1, e2, e3, gt_iff_lt] at h1 ⊢
      try simp only [h1, e_seq, e_seq_nx, e_seq_rt, e_seq_ite, e_bind, e_bind_ite, e_toS, e_toS_ite, e_set, e_ret, e_expr, e_nil, e_if, e_name, e_C, e_bin, e_un, e_ifx, e_aNil, e_aCons, e_call, e_cVal, e_cNot, e_cAnd, e_cOr, e_and, e_or, e_not, e_add, e_sub, e_lt, e_le, e_gt, e_ge, e_neg, e_eqi, e_nei, e_isN, e_notN, e_partsE, e_ixT0, e_ixT1, e_ixT2, e_ixT3, e_ixT4, e_ixL0, e_ixL1, e_ixL2, e_ixL3, e_ixL4, e_callP, e_callE, e_allP, e_allP0, e_tup, e_lst, e_par, List.map_cons, List.map_nil, List.append_assoc, List.nil_append, List.cons_append, List.replicate, List.getElem?_cons_zero, List.getElem?_cons_succ, List.set_cons_zero, List.set_cons_succ, Option.map_some, if_true, if_false, Bool.false_eq_true, decide_eq_true_eq, List.length_cons, List.length_nil, bg0, bg1, bg2, bg3, bg4, bg5, bg6, bg7, bg8, bg9, bg10, bg11, bg12, bg13, bg14, e3]
theorem mirrored_eq {a b d e : D} {w : Str} {row : Int} (hw : w = "same" ∨ w = "fro") : m_is_mirrored [.rul [a, b, .str w, d, e], .int row] = .ok (.bl (mir w row)) := by
  have e1 : ∀ S, oMod (.p (.int row)) (.p (.int 2)) S = .ok (.p (.int (row % 2))) S := fun S => e_mod (by decide)
  unfold mir
  rcases hw with rfl | rfl
  · simp only [m_is_mirrored, runP, init, b_is_mirrored, e_seq, e_seq_nx, e_seq_rt, e_seq_ite, e_bind, e_bind_ite, e_toS, e_toS_ite, e_set, e_ret, e_expr, e_nil, e_if, e_name, e_C, e_bin, e_un, e_ifx, e_aNil, e_aCons, e_call, e_cVal, e_cNot, e_cAnd, e_cOr, e_and, e_or, e_not, e_add, e_sub, e_lt, e_le, e_gt, e_ge, e_neg, e_eqi, e_nei, e_isN, e_notN, e_partsE, e_ixT0, e_ixT1, e_ixT2, e_ixT3, e_ixT4, e_ixL0, e_ixL1, e_ixL2, e_ixL3, e_ixL4, e_callP, e_callE, e_allP, e_allP0, e_tup, e_lst, e_par, List.map_cons, List.map_nil, List.append_assoc, List.nil_append, List.cons_append, List.replicate, List.getElem?_cons_zero, List.getElem?_cons_succ, List.set_cons_zero, List.set_cons_succ, Option.map_some, if_true, if_false, Bool.false_eq_true, decide_eq_true_eq, List.length_cons, List.length_nil, bg0, bg1, bg2, bg3, bg4, bg5, bg6, bg7, bg8, bg9, bg10, bg11, bg12, bg13, bg14, s_ll, s_lr, s_lm, s_rl, s_rr, s_rm, s_ml, s_mr, s_mm, s_an, s_oo, s_aa, s_oa, s_ff, s_sf, s_kk, s_ka, s_ak, s_kv, e_eqs k_l k_l, e_eqs k_r k_l, e_eqs k_m k_l, e_eqs k_l k_r, e_eqs k_r k_r, e_eqs k_m k_r, e_eqs k_l k_m, e_eqs k_r k_m, e_eqs k_m k_m, e_eqs k_an k_on, e_eqs k_on k_on, e_eqs k_f k_f, e_eqs k_s k_f, e_eqs k_o k_o, e_eqs k_al k_o, e_eqs k_o k_al, e_eqs k_al k_al, e1, Bool.false_and]
  · simp only [m_is_mirrored, runP, init, b_is_mirrored, e_seq, e_seq_nx, e_seq_rt, e_seq_ite, e_bind, e_bind_ite, e_toS, e_toS_ite, e_set, e_ret, e_expr, e_nil, e_if, e_name, e_C, e_bin, e_un, e_ifx, e_aNil, e_aCons, e_call, e_cVal, e_cNot, e_cAnd, e_cOr, e_and, e_or, e_not, e_add, e_sub, e_lt, e_le, e_gt, e_ge, e_neg, e_eqi, e_nei, e_isN, e_notN, e_partsE, e_ixT0, e_ixT1, e_ixT2, e_ixT3, e_ixT4, e_ixL0, e_ixL1, e_ixL2, e_ixL3, e_ixL4, e_callP, e_callE, e_allP, e_allP0, e_tup, e_lst, e_par, List.map_cons, List.map_nil, List.append_assoc, List.nil_append, List.cons_append, List.replicate, List.getElem?_cons_zero, List.getElem?_cons_succ, List.set_cons_zero, List.set_cons_succ, Option.map_some, if_true, if_false, Bool.false_eq_true, decide_eq_true_eq, List.length_cons, List.length_nil, bg0, bg1, bg2, bg3, bg4, bg5, bg6, bg7, bg8, bg9, bg10, bg11, bg12, bg13, bg14, s_ll, s_lr, s_lm, s_rl, s_rr, s_rm, s_ml, s_mr, s_mm, s_an, s_oo, s_aa, s_oa, s_ff, s_sf, s_kk, s_ka, s_ak, s_kv, e_eqs k_l k_l, e_eqs k_r k_l, e_eqs k_m k_l, e_eqs k_l k_r, e_eqs k_r k_r, e_eqs k_m k_r, e_eqs k_l k_m, e_eqs k_r k_m, e_eqs k_m k_m, e_eqs k_an k_on, e_eqs k_on k_on, e_eqs k_f k_f, e_eqs k_s k_f, e_eqs k_o k_o, e_eqs k_al k_o, e_eqs k_o k_al, e_eqs k_al k_al, e1, Bool.true_and]
theorem place_of_eq {r : Ru} (hr : r.ok) {seats row seat : Int} (hm : mulOk row seats = true) : m_place_of [.rul (ruD r), .int seats, .int row, .int seat] = .ok (.int (placeOf r seats row seat)) := by
  have e1 : ∀ S, oMul (.p (.int row)) (.p (.int seats)) S = .ok (.p (.int (row * seats))) S := fun S => e_mul1 hm
  obtain ⟨s, rr, w, o, k⟩ := r
  obtain ⟨h1, h2, h3, h4, h5⟩ := hr
  dsimp only at h1 h2 h3 h4 h5
  have em := fun a b d e row => @mirrored_eq a b d e w row h3
  have eo := fun seats seat => @order_of_eq s seats seat h1
  unfold placeOf
  dsimp only
  cases hmr : mir w row with
  | true =>
    rcases h2 with rfl | rfl
    · simp only [m_place_of, runP, init, b_place_of, ruD, e_seq, e_seq_nx, e_seq_rt, e_seq_ite, e_bind, e_bind_ite, e_toS, e_toS_ite, e_set, e_ret, e_expr, e_nil, e_if, e_name, e_C, e_bin, e_un, e_ifx, e_aNil, e_aCons, e_call, e_cVal, e_cNot, e_cAnd, e_cOr, e_and, e_or, e_not, e_add, e_sub, e_lt, e_le, e_gt, e_ge, e_neg, e_eqi, e_nei, e_isN, e_notN, e_partsE, e_ixT0, e_ixT1, e_ixT2, e_ixT3, e_ixT4, e_ixL0, e_ixL1, e_ixL2, e_ixL3, e_ixL4, e_callP, e_callE, e_allP, e_allP0, e_tup, e_lst, e_par, List.map_cons, List.map_nil, List.append_assoc, List.nil_append, List.cons_append, List.replicate, List.getElem?_cons_zero, List.getElem?_cons_succ, List.set_cons_zero, List.set_cons_succ, Option.map_some, if_true, if_false, Bool.false_eq_true, decide_eq_true_eq, List.length_cons, List.length_nil, bg0, bg1, bg2, bg3, bg4, bg5, bg6, bg7, bg8, bg9, bg10, bg11, bg12, bg13, bg14, s_ll, s_lr, s_lm, s_rl, s_rr, s_rm, s_ml, s_mr, s_mm, s_an, s_oo, s_aa, s_oa, s_ff, s_sf, s_kk, s_ka, s_ak, s_kv, e_eqs k_l k_l, e_eqs k_r k_l, e_eqs k_m k_l, e_eqs k_l k_r, e_eqs k_r k_r, e_eqs k_m k_r, e_eqs k_l k_m, e_eqs k_r k_m, e_eqs k_m k_m, e_eqs k_an k_on, e_eqs k_on k_on, e_eqs k_f k_f, e_eqs k_s k_f, e_eqs k_o k_o, e_eqs k_al k_o, e_eqs k_o k_al, e_eqs k_al k_al, em, eo, e1, hmr]
    · simp only [m_place_of, runP, init, b_place_of, ruD, e_seq, e_seq_nx, e_seq_rt, e_seq_ite, e_bind, e_bind_ite, e_toS, e_toS_ite, e_set, e_ret, e_expr, e_nil, e_if, e_name, e_C, e_bin, e_un, e_ifx, e_aNil, e_aCons, e_call, e_cVal, e_cNot, e_cAnd, e_cOr, e_and, e_or, e_not, e_add, e_sub, e_lt, e_le, e_gt, e_ge, e_neg, e_eqi, e_nei, e_isN, e_notN, e_partsE, e_ixT0, e_ixT1, e_ixT2, e_ixT3, e_ixT4, e_ixL0, e_ixL1, e_ixL2, e_ixL3, e_ixL4, e_callP, e_callE, e_allP, e_allP0, e_tup, e_lst, e_par, List.map_cons, List.map_nil, List.append_assoc, List.nil_append, List.cons_append, List.replicate, List.getElem?_cons_zero, List.getElem?_cons_succ, List.set_cons_zero, List.set_cons_succ, Option.map_some, if_true, if_false, Bool.false_eq_true, decide_eq_true_eq, List.length_cons, List.length_nil, bg0, bg1, bg2, bg3, bg4, bg5, bg6, bg7, bg8, bg9, bg10, bg11, bg12, bg13, bg14, s_ll, s_lr, s_lm, s_rl, s_rr, s_rm, s_ml, s_mr, s_mm, s_an, s_oo, s_aa, s_oa, s_ff, s_sf, s_kk, s_ka, s_ak, s_kv, e_eqs k_l k_l, e_eqs k_r k_l, e_eqs k_m k_l, e_eqs k_l k_r, e_eqs k_r k_r, e_eqs k_m k_r, e_eqs k_l k_m, e_eqs k_r k_m, e_eqs k_m k_m, e_eqs k_an k_on, e_eqs k_on k_on, e_eqs k_f k_f, e_eqs k_s k_f, e_eqs k_o k_o, e_eqs k_al k_o, e_eqs k_o k_al, e_eqs k_al k_al, em, eo, e1, hmr]
  | false =>
    rcases h2 with rfl | rfl
    · simp only [m_place_of, runP, init, b_place_of, ruD, e_seq, e_seq_nx, e_seq_rt, e_seq_ite, e_bind, e_bind_ite, e_toS, e_toS_ite, e_set, e_ret, e_expr, e_nil, e_if, e_name, e_C, e_bin, e_un, e_ifx, e_aNil, e_aCons, e_call, e_cVal, e_cNot, e_cAnd, e_cOr, e_and, e_or, e_not, e_add, e_sub, e_lt, e_le, e_gt, e_ge, e_neg, e_eqi, e_nei, e_isN, e_notN, e_partsE, e_ixT0, e_ixT1, e_ixT2, e_ixT3, e_ixT4, e_ixL0, e_ixL1, e_ixL2, e_ixL3, e_ixL4, e_callP, e_callE, e_allP, e_allP0, e_tup, e_lst, e_par, List.map_cons, List.map_nil, List.append_assoc, List.nil_append, List.cons_append, List.replicate, List.getElem?_cons_zero, List.getElem?_cons_succ, List.set_cons_zero, List.set_cons_succ, Option.map_some, if_true, if_false, Bool.false_eq_true, decide_eq_true_eq, List.length_cons, List.length_nil, bg0, bg1, bg2, bg3, bg4, bg5, bg6, bg7, bg8, bg9, bg10, bg11, bg12, bg13, bg14, s_ll, s_lr, s_lm, s_rl, s_rr, s_rm, s_ml, s_mr, s_mm, s_an, s_oo, s_aa, s_oa, s_ff, s_sf, s_kk, s_ka, s_ak, s_kv, e_eqs k_l k_l, e_eqs k_r k_l, e_eqs k_m k_l, e_eqs k_l k_r, e_eqs k_r k_r, e_eqs k_m k_r, e_eqs k_l k_m, e_eqs k_r k_m, e_eqs k_m k_m, e_eqs k_an k_on, e_eqs k_on k_on, e_eqs k_f k_f, e_eqs k_s k_f, e_eqs k_o k_o, e_eqs k_al k_o, e_eqs k_o k_al, e_eqs k_al k_al, em, eo, e1, hmr]
    · simp only [m_place_of, runP, init, b_place_of, ruD, e_seq, e_seq_nx, e_seq_rt, e_seq_ite, e_bind, e_bind_ite, e_toS, e_toS_ite, e_set, e_ret, e_expr, e_nil, e_if, e_name, e_C, e_bin, e_un, e_ifx, e_aNil, e_aCons, e_call, e_cVal, e_cNot, e_cAnd, e_cOr, e_and, e_or, e_not, e_add, e_sub, e_lt, e_le, e_gt, e_ge, e_neg, e_eqi, e_nei, e_isN, e_notN, e_partsE, e_ixT0, e_ixT1, e_ixT2, e_ixT3, e_ixT4, e_ixL0, e_ixL1, e_ixL2, e_ixL3, e_ixL4, e_callP, e_callE, e_allP, e_allP0, e_tup, e_lst, e_par, List.map_cons, List.map_nil, List.append_assoc, List.nil_append, List.cons_append, List.replicate, List.getElem?_cons_zero, List.getElem?_cons_succ, List.set_cons_zero, List.set_cons_succ, Option.map_some, if_true, if_false, Bool.false_eq_true, decide_eq_true_eq, List.length_cons, List.length_nil, bg0, bg1, bg2, bg3, bg4, bg5, bg6, bg7, bg8, bg9, bg10, bg11, bg12, bg13, bg14, s_ll, s_lr, s_lm, s_rl, s_rr, s_rm, s_ml, s_mr, s_mm, s_an, s_oo, s_aa, s_oa, s_ff, s_sf, s_kk, s_ka, s_ak, s_kv, e_eqs k_l k_l, e_eqs k_r k_l, e_eqs k_m k_l, e_eqs k_l k_r, e_eqs k_r k_r, e_eqs k_m k_r, e_eqs k_l k_m, e_eqs k_r k_m, e_eqs k_m k_m, e_eqs k_an k_on, e_eqs k_on k_on, e_eqs k_f k_f, e_eqs k_s k_f, e_eqs k_o k_o, e_eqs k_al k_o, e_eqs k_o k_al, e_eqs k_al k_al, em, eo, e1, hmr]
theorem own_number_eq {r : Ru} (hr : r.ok) {seats row seat : Int} (hm : mulOk row seats = true) : m_own_number [.rul (ruD r), .int seats, .int row, .int seat] = .ok (.int (ownNum r seats row seat)) := by
  have e1 := @place_of_eq r hr seats row seat hm
  have e2 : ∀ p, m_number_at [.rul (ruD r), .int p] = .ok (.int (numAt r.o r.k p)) := fun p => number_at_eq hr.ho hr.hk
  unfold ownNum
  simp only [m_own_number, runP, init, b_own_number, e_seq, e_seq_nx, e_seq_rt, e_seq_ite, e_bind, e_bind_ite, e_toS, e_toS_ite, e_set, e_ret, e_expr, e_nil, e_if, e_name, e_C, e_bin, e_un, e_ifx, e_aNil, e_aCons, e_call, e_cVal, e_cNot, e_cAnd, e_cOr, e_and, e_or, e_not, e_add, e_sub, e_lt, e_le, e_gt, e_ge, e_neg, e_eqi, e_nei, e_isN, e_notN, e_partsE, e_ixT0, e_ixT1, e_ixT2, e_ixT3, e_ixT4, e_ixL0, e_ixL1, e_ixL2, e_ixL3, e_ixL4, e_callP, e_callE, e_allP, e_allP0, e_tup, e_lst, e_par, List.map_cons, List.map_nil, List.append_assoc, List.nil_append, List.cons_append, List.replicate, List.getElem?_cons_zero, List.getElem?_cons_succ, List.set_cons_zero, List.set_cons_succ, Option.map_some, if_true, if_false, Bool.false_eq_true, decide_eq_true_eq, List.length_cons, List.length_nil, bg0, bg1, bg2, bg3, bg4, bg5, bg6, bg7, bg8, bg9, bg10, bg11, bg12, bg13, bg14, e1, e2]
/-! the laws' own account -/
def lawPlace (r : Ru) (seats row seat0 : Int) : Int :=
  let seat := if (r.w == "fro") = true ∧ row / 2 * 2 < row then seats - 1 - seat0 else seat0
  let mid := (seats + 1) / 2 - 1
  let found := if (r.s == "middle") = true then (if mid < seat then 2 * (seat - mid) - 1 else 2 * (mid - seat)) else if (r.s == "left") = true then seat else seats - 1 - seat
  if (r.r == "on") = true then found + seats * row else found
def lawNum (o : Int) (k : Str) (p : Int) : Int := if o = 0 ∨ ((k == "once") = true ∧ p < o - 1) then p + 1 else if (k == "once") = true then p + 2 else p / (o - 1) * o + (p - p / (o - 1) * (o - 1)) + 1
theorem law_number_eq {a b c : D} {o p : Int} {k : Str} (ho : okO o) (hk : k = "once" ∨ k = "always") : m_law_number [.lst [a, b, c, .int o, .str k], .int p] = .ok (.int (lawNum o k p)) := by
  have hw := wid_big
  unfold okO at ho
  have e1 : ∀ S, o ≠ 0 → oDiv (.p (.int p)) (.p (.int (o - 1))) S = .ok (.p (.int (p / (o - 1)))) S := fun S h => e_div (by omega) (by omega)
  have e2 : ∀ (x : Int) (S : Sto), oMul (.p (.int x)) (.p (.int o)) S = .ok (.p (.int (x * o))) S := fun x S => e_mul1 (mul_r (by omega))
  have e3 : ∀ (x : Int) (S : Sto), oMul (.p (.int x)) (.p (.int (o - 1))) S = .ok (.p (.int (x * (o - 1)))) S := fun x S => e_mul1 (mul_r (by omega))
  unfold lawNum
  by_cases h0 : o = 0
  · subst h0
    simp only [m_law_number, runP, init, b_law_number, e_seq, e_seq_nx, e_seq_rt, e_seq_ite, e_bind, e_bind_ite, e_toS, e_toS_ite, e_set, e_ret, e_expr, e_nil, e_if, e_name, e_C, e_bin, e_un, e_ifx, e_aNil, e_aCons, e_call, e_cVal, e_cNot, e_cAnd, e_cOr, e_and, e_or, e_not, e_add, e_sub, e_lt, e_le, e_gt, e_ge, e_neg, e_eqi, e_nei, e_isN, e_notN, e_partsE, e_ixT0, e_ixT1, e_ixT2, e_ixT3, e_ixT4, e_ixL0, e_ixL1, e_ixL2, e_ixL3, e_ixL4, e_callP, e_callE, e_allP, e_allP0, e_tup, e_lst, e_par, List.map_cons, List.map_nil, List.append_assoc, List.nil_append, List.cons_append, List.replicate, List.getElem?_cons_zero, List.getElem?_cons_succ, List.set_cons_zero, List.set_cons_succ, Option.map_some, if_true, if_false, Bool.false_eq_true, decide_eq_true_eq, List.length_cons, List.length_nil, bg0, bg1, bg2, bg3, bg4, bg5, bg6, bg7, bg8, bg9, bg10, bg11, bg12, bg13, bg14, s_ll, s_lr, s_lm, s_rl, s_rr, s_rm, s_ml, s_mr, s_mm, s_an, s_oo, s_aa, s_oa, s_ff, s_sf, s_kk, s_ka, s_ak, s_kv, e_eqs k_l k_l, e_eqs k_r k_l, e_eqs k_m k_l, e_eqs k_l k_r, e_eqs k_r k_r, e_eqs k_m k_r, e_eqs k_l k_m, e_eqs k_r k_m, e_eqs k_m k_m, e_eqs k_an k_on, e_eqs k_on k_on, e_eqs k_f k_f, e_eqs k_s k_f, e_eqs k_o k_o, e_eqs k_al k_o, e_eqs k_o k_al, e_eqs k_al k_al]
    simp
  · have h0' : (o == 0) = false := by simp [h0]
    rcases hk with rfl | rfl
    · by_cases h1 : p < o - 1
      · simp only [m_law_number, runP, init, b_law_number, e_seq, e_seq_nx, e_seq_rt, e_seq_ite, e_bind, e_bind_ite, e_toS, e_toS_ite, e_set, e_ret, e_expr, e_nil, e_if, e_name, e_C, e_bin, e_un, e_ifx, e_aNil, e_aCons, e_call, e_cVal, e_cNot, e_cAnd, e_cOr, e_and, e_or, e_not, e_add, e_sub, e_lt, e_le, e_gt, e_ge, e_neg, e_eqi, e_nei, e_isN, e_notN, e_partsE, e_ixT0, e_ixT1, e_ixT2, e_ixT3, e_ixT4, e_ixL0, e_ixL1, e_ixL2, e_ixL3, e_ixL4, e_callP, e_callE, e_allP, e_allP0, e_tup, e_lst, e_par, List.map_cons, List.map_nil, List.append_assoc, List.nil_append, List.cons_append, List.replicate, List.getElem?_cons_zero, List.getElem?_cons_succ, List.set_cons_zero, List.set_cons_succ, Option.map_some, if_true, if_false, Bool.false_eq_true, decide_eq_true_eq, List.length_cons, List.length_nil, bg0, bg1, bg2, bg3, bg4, bg5, bg6, bg7, bg8, bg9, bg10, bg11, bg12, bg13, bg14, s_ll, s_lr, s_lm, s_rl, s_rr, s_rm, s_ml, s_mr, s_mm, s_an, s_oo, s_aa, s_oa, s_ff, s_sf, s_kk, s_ka, s_ak, s_kv, e_eqs k_l k_l, e_eqs k_r k_l, e_eqs k_m k_l, e_eqs k_l k_r, e_eqs k_r k_r, e_eqs k_m k_r, e_eqs k_l k_m, e_eqs k_r k_m, e_eqs k_m k_m, e_eqs k_an k_on, e_eqs k_on k_on, e_eqs k_f k_f, e_eqs k_s k_f, e_eqs k_o k_o, e_eqs k_al k_o, e_eqs k_o k_al, e_eqs k_al k_al, h0, h0', e1 _ h0, e2, e3, h1, true_and, or_true, decide_true]
      · simp only [m_law_number, runP, init, b_law_number, e_seq, e_seq_nx, e_seq_rt, e_seq_ite, e_bind, e_bind_ite, e_toS, e_toS_ite, e_set, e_ret, e_expr, e_nil, e_if, e_name, e_C, e_bin, e_un, e_ifx, e_aNil, e_aCons, e_call, e_cVal, e_cNot, e_cAnd, e_cOr, e_and, e_or, e_not, e_add, e_sub, e_lt, e_le, e_gt, e_ge, e_neg, e_eqi, e_nei, e_isN, e_notN, e_partsE, e_ixT0, e_ixT1, e_ixT2, e_ixT3, e_ixT4, e_ixL0, e_ixL1, e_ixL2, e_ixL3, e_ixL4, e_callP, e_callE, e_allP, e_allP0, e_tup, e_lst, e_par, List.map_cons, List.map_nil, List.append_assoc, List.nil_append, List.cons_append, List.replicate, List.getElem?_cons_zero, List.getElem?_cons_succ, List.set_cons_zero, List.set_cons_succ, Option.map_some, if_true, if_false, Bool.false_eq_true, decide_eq_true_eq, List.length_cons, List.length_nil, bg0, bg1, bg2, bg3, bg4, bg5, bg6, bg7, bg8, bg9, bg10, bg11, bg12, bg13, bg14, s_ll, s_lr, s_lm, s_rl, s_rr, s_rm, s_ml, s_mr, s_mm, s_an, s_oo, s_aa, s_oa, s_ff, s_sf, s_kk, s_ka, s_ak, s_kv, e_eqs k_l k_l, e_eqs k_r k_l, e_eqs k_m k_l, e_eqs k_l k_r, e_eqs k_r k_r, e_eqs k_m k_r, e_eqs k_l k_m, e_eqs k_r k_m, e_eqs k_m k_m, e_eqs k_an k_on, e_eqs k_on k_on, e_eqs k_f k_f, e_eqs k_s k_f, e_eqs k_o k_o, e_eqs k_al k_o, e_eqs k_o k_al, e_eqs k_al k_al, h0, h0', e1 _ h0, e2, e3, h1, true_and, or_false, decide_false]
    · simp only [m_law_number, runP, init, b_law_number, e_seq, e_seq_nx, e_seq_rt, e_seq_ite, e_bind, e_bind_ite, e_toS, e_toS_ite, e_set, e_ret, e_expr, e_nil, e_if, e_name, e_C, e_bin, e_un, e_ifx, e_aNil, e_aCons, e_call, e_cVal, e_cNot, e_cAnd, e_cOr, e_and, e_or, e_not, e_add, e_sub, e_lt, e_le, e_gt, e_ge, e_neg, e_eqi, e_nei, e_isN, e_notN, e_partsE, e_ixT0, e_ixT1, e_ixT2, e_ixT3, e_ixT4, e_ixL0, e_ixL1, e_ixL2, e_ixL3, e_ixL4, e_callP, e_callE, e_allP, e_allP0, e_tup, e_lst, e_par, List.map_cons, List.map_nil, List.append_assoc, List.nil_append, List.cons_append, List.replicate, List.getElem?_cons_zero, List.getElem?_cons_succ, List.set_cons_zero, List.set_cons_succ, Option.map_some, if_true, if_false, Bool.false_eq_true, decide_eq_true_eq, List.length_cons, List.length_nil, bg0, bg1, bg2, bg3, bg4, bg5, bg6, bg7, bg8, bg9, bg10, bg11, bg12, bg13, bg14, s_ll, s_lr, s_lm, s_rl, s_rr, s_rm, s_ml, s_mr, s_mm, s_an, s_oo, s_aa, s_oa, s_ff, s_sf, s_kk, s_ka, s_ak, s_kv, e_eqs k_l k_l, e_eqs k_r k_l, e_eqs k_m k_l, e_eqs k_l k_r, e_eqs k_r k_r, e_eqs k_m k_r, e_eqs k_l k_m, e_eqs k_r k_m, e_eqs k_m k_m, e_eqs k_an k_on, e_eqs k_on k_on, e_eqs k_f k_f, e_eqs k_s k_f, e_eqs k_o k_o, e_eqs k_al k_o, e_eqs k_o k_al, e_eqs k_al k_al, h0, h0', e1 _ h0, e2, e3, false_and, or_false]
theorem law_place_eq {r : Ru} (hr : r.ok) {seats row seat : Int} (hm : mulOk seats row = true) : m_law_place [.lst (ruD r), .int seats, .int row, .int seat] = .ok (.int (lawPlace r seats row seat)) := by
  have e1 : ∀ S, oMul (.p (.int seats)) (.p (.int row)) S = .ok (.p (.int (seats * row))) S := fun S => e_mul1 hm
  have e2 : ∀ (x : Int) (S : Sto), oMul (.p (.int x)) (.p (.int 2)) S = .ok (.p (.int (x * 2))) S := fun x S => e_mul1 (mul_r (by decide))
  have e3 : ∀ (x : Int) (S : Sto), oMul (.p (.int 2)) (.p (.int x)) S = .ok (.p (.int (2 * x))) S := fun x S => e_mul1 (mul_l (by decide))
  have e4 : ∀ (x : Int) (S : Sto), oDiv (.p (.int x)) (.p (.int 2)) S = .ok (.p (.int (x / 2))) S := fun x S => e_div (by decide) (by decide)
  obtain ⟨s, rr, w, o, k⟩ := r
  obtain ⟨h1, h2, h3, h4, h5⟩ := hr
  dsimp only at h1 h2 h3 h4 h5
  unfold lawPlace
  dsimp only
  by_cases hrow : row / 2 * 2 < row
  · rcases h3 with rfl | rfl
    · by_cases hmid : (seats + 1) / 2 - 1 < seat
      · rcases h1 with rfl | rfl | rfl <;> rcases h2 with rfl | rfl <;> simp only [m_law_place, runP, init, b_law_place, ruD, e_seq, e_seq_nx, e_seq_rt, e_seq_ite, e_bind, e_bind_ite, e_toS, e_toS_ite, e_set, e_ret, e_expr, e_nil, e_if, e_name, e_C, e_bin, e_un, e_ifx, e_aNil, e_aCons, e_call, e_cVal, e_cNot, e_cAnd, e_cOr, e_and, e_or, e_not, e_add, e_sub, e_lt, e_le, e_gt, e_ge, e_neg, e_eqi, e_nei, e_isN, e_notN, e_partsE, e_ixT0, e_ixT1, e_ixT2, e_ixT3, e_ixT4, e_ixL0, e_ixL1, e_ixL2, e_ixL3, e_ixL4, e_callP, e_callE, e_allP, e_allP0, e_tup, e_lst, e_par, List.map_cons, List.map_nil, List.append_assoc, List.nil_append, List.cons_append, List.replicate, List.getElem?_cons_zero, List.getElem?_cons_succ, List.set_cons_zero, List.set_cons_succ, Option.map_some, if_true, if_false, Bool.false_eq_true, decide_eq_true_eq, List.length_cons, List.length_nil, bg0, bg1, bg2, bg3, bg4, bg5, bg6, bg7, bg8, bg9, bg10, bg11, bg12, bg13, bg14, s_ll, s_lr, s_lm, s_rl, s_rr, s_rm, s_ml, s_mr, s_mm, s_an, s_oo, s_aa, s_oa, s_ff, s_sf, s_kk, s_ka, s_ak, s_kv, e_eqs k_l k_l, e_eqs k_r k_l, e_eqs k_m k_l, e_eqs k_l k_r, e_eqs k_r k_r, e_eqs k_m k_r, e_eqs k_l k_m, e_eqs k_r k_m, e_eqs k_m k_m, e_eqs k_an k_on, e_eqs k_on k_on, e_eqs k_f k_f, e_eqs k_s k_f, e_eqs k_o k_o, e_eqs k_al k_o, e_eqs k_o k_al, e_eqs k_al k_al, e1, e2, e3, e4, hrow, hmid, false_and, true_and, decide_true, decide_false]
      · rcases h1 with rfl | rfl | rfl <;> rcases h2 with rfl | rfl <;> simp only [m_law_place, runP, init, b_law_place, ruD, e_seq, e_seq_nx, e_seq_rt, e_seq_ite, e_bind, e_bind_ite, e_toS, e_toS_ite, e_set, e_ret, e_expr, e_nil, e_if, e_name, e_C, e_bin, e_un, e_ifx, e_aNil, e_aCons, e_call, e_cVal, e_cNot, e_cAnd, e_cOr, e_and, e_or, e_not, e_add, e_sub, e_lt, e_le, e_gt, e_ge, e_neg, e_eqi, e_nei, e_isN, e_notN, e_partsE, e_ixT0, e_ixT1, e_ixT2, e_ixT3, e_ixT4, e_ixL0, e_ixL1, e_ixL2, e_ixL3, e_ixL4, e_callP, e_callE, e_allP, e_allP0, e_tup, e_lst, e_par, List.map_cons, List.map_nil, List.append_assoc, List.nil_append, List.cons_append, List.replicate, List.getElem?_cons_zero, List.getElem?_cons_succ, List.set_cons_zero, List.set_cons_succ, Option.map_some, if_true, if_false, Bool.false_eq_true, decide_eq_true_eq, List.length_cons, List.length_nil, bg0, bg1, bg2, bg3, bg4, bg5, bg6, bg7, bg8, bg9, bg10, bg11, bg12, bg13, bg14, s_ll, s_lr, s_lm, s_rl, s_rr, s_rm, s_ml, s_mr, s_mm, s_an, s_oo, s_aa, s_oa, s_ff, s_sf, s_kk, s_ka, s_ak, s_kv, e_eqs k_l k_l, e_eqs k_r k_l, e_eqs k_m k_l, e_eqs k_l k_r, e_eqs k_r k_r, e_eqs k_m k_r, e_eqs k_l k_m, e_eqs k_r k_m, e_eqs k_m k_m, e_eqs k_an k_on, e_eqs k_on k_on, e_eqs k_f k_f, e_eqs k_s k_f, e_eqs k_o k_o, e_eqs k_al k_o, e_eqs k_o k_al, e_eqs k_al k_al, e1, e2, e3, e4, hrow, hmid, false_and, true_and, decide_true, decide_false]
    · by_cases hmid : (seats + 1) / 2 - 1 < seats - 1 - seat
      · rcases h1 with rfl | rfl | rfl <;> rcases h2 with rfl | rfl <;> simp only [m_law_place, runP, init, b_law_place, ruD, e_seq, e_seq_nx, e_seq_rt, e_seq_ite, e_bind, e_bind_ite, e_toS, e_toS_ite, e_set, e_ret, e_expr, e_nil, e_if, e_name, e_C, e_bin, e_un, e_ifx, e_aNil, e_aCons, e_call, e_cVal, e_cNot, e_cAnd, e_cOr, e_and, e_or, e_not, e_add, e_sub, e_lt, e_le, e_gt, e_ge, e_neg, e_eqi, e_nei, e_isN, e_notN, e_partsE, e_ixT0, e_ixT1, e_ixT2, e_ixT3, e_ixT4, e_ixL0, e_ixL1, e_ixL2, e_ixL3, e_ixL4, e_callP, e_callE, e_allP, e_allP0, e_tup, e_lst, e_par, List.map_cons, List.map_nil, List.append_assoc, List.nil_append, List.cons_append, List.replicate, List.getElem?_cons_zero, List.getElem?_cons_succ, List.set_cons_zero, List.set_cons_succ, Option.map_some, if_true, if_false, Bool.false_eq_true, decide_eq_true_eq, List.length_cons, List.length_nil, bg0, bg1, bg2, bg3, bg4, bg5, bg6, bg7, bg8, bg9, bg10, bg11, bg12, bg13, bg14, s_ll, s_lr, s_lm, s_rl, s_rr, s_rm, s_ml, s_mr, s_mm, s_an, s_oo, s_aa, s_oa, s_ff, s_sf, s_kk, s_ka, s_ak, s_kv, e_eqs k_l k_l, e_eqs k_r k_l, e_eqs k_m k_l, e_eqs k_l k_r, e_eqs k_r k_r, e_eqs k_m k_r, e_eqs k_l k_m, e_eqs k_r k_m, e_eqs k_m k_m, e_eqs k_an k_on, e_eqs k_on k_on, e_eqs k_f k_f, e_eqs k_s k_f, e_eqs k_o k_o, e_eqs k_al k_o, e_eqs k_o k_al, e_eqs k_al k_al, e1, e2, e3, e4, hrow, hmid, false_and, true_and, decide_true, decide_false]
      · rcases h1 with rfl | rfl | rfl <;> rcases h2 with rfl | rfl <;> simp only [m_law_place, runP, init, b_law_place, ruD, e_seq, e_seq_nx, e_seq_rt, e_seq_ite, e_bind, e_bind_ite, e_toS, e_toS_ite, e_set, e_ret, e_expr, e_nil, e_if, e_name, e_C, e_bin, e_un, e_ifx, e_aNil, e_aCons, e_call, e_cVal, e_cNot, e_cAnd, e_cOr, e_and, e_or, e_not, e_add, e_sub, e_lt, e_le, e_gt, e_ge, e_neg, e_eqi, e_nei, e_isN, e_notN, e_partsE, e_ixT0, e_ixT1, e_ixT2, e_ixT3, e_ixT4, e_ixL0, e_ixL1, e_ixL2, e_ixL3, e_ixL4, e_callP, e_callE, e_allP, e_allP0, e_tup, e_lst, e_par, List.map_cons, List.map_nil, List.append_assoc, List.nil_append, List.cons_append, List.replicate, List.getElem?_cons_zero, List.getElem?_cons_succ, List.set_cons_zero, List.set_cons_succ, Option.map_some, if_true, if_false, Bool.false_eq_true, decide_eq_true_eq, List.length_cons, List.length_nil, bg0, bg1, bg2, bg3, bg4, bg5, bg6, bg7, bg8, bg9, bg10, bg11, bg12, bg13, bg14, s_ll, s_lr, s_lm, s_rl, s_rr, s_rm, s_ml, s_mr, s_mm, s_an, s_oo, s_aa, s_oa, s_ff, s_sf, s_kk, s_ka, s_ak, s_kv, e_eqs k_l k_l, e_eqs k_r k_l, e_eqs k_m k_l, e_eqs k_l k_r, e_eqs k_r k_r, e_eqs k_m k_r, e_eqs k_l k_m, e_eqs k_r k_m, e_eqs k_m k_m, e_eqs k_an k_on, e_eqs k_on k_on, e_eqs k_f k_f, e_eqs k_s k_f, e_eqs k_o k_o, e_eqs k_al k_o, e_eqs k_o k_al, e_eqs k_al k_al, e1, e2, e3, e4, hrow, hmid, false_and, true_and, decide_true, decide_false]
  · by_cases hmid : (seats + 1) / 2 - 1 < seat
    · rcases h3 with rfl | rfl <;> rcases h1 with rfl | rfl | rfl <;> rcases h2 with rfl | rfl <;> simp only [m_law_place, runP, init, b_law_place, ruD, e_seq, e_seq_nx, e_seq_rt, e_seq_ite, e_bind, e_bind_ite, e_toS, e_toS_ite, e_set, e_ret, e_expr, e_nil, e_if, e_name, e_C, e_bin, e_un, e_ifx, e_aNil, e_aCons, e_call, e_cVal, e_cNot, e_cAnd, e_cOr, e_and, e_or, e_not, e_add, e_sub, e_lt, e_le, e_gt, e_ge, e_neg, e_eqi, e_nei, e_isN, e_notN, e_partsE, e_ixT0, e_ixT1, e_ixT2, e_ixT3, e_ixT4, e_ixL0, e_ixL1, e_ixL2, e_ixL3, e_ixL4, e_callP, e_callE, e_allP, e_allP0, e_tup, e_lst, e_par, List.map_cons, List.map_nil, List.append_assoc, List.nil_append, List.cons_append, List.replicate, List.getElem?_cons_zero, List.getElem?_cons_succ, List.set_cons_zero, List.set_cons_succ, Option.map_some, if_true, if_false, Bool.false_eq_true, decide_eq_true_eq, List.length_cons, List.length_nil, bg0, bg1, bg2, bg3, bg4, bg5, bg6, bg7, bg8, bg9, bg10, bg11, bg12, bg13, bg14, s_ll, s_lr, s_lm, s_rl, s_rr, s_rm, s_ml, s_mr, s_mm, s_an, s_oo, s_aa, s_oa, s_ff, s_sf, s_kk, s_ka, s_ak, s_kv, e_eqs k_l k_l, e_eqs k_r k_l, e_eqs k_m k_l, e_eqs k_l k_r, e_eqs k_r k_r, e_eqs k_m k_r, e_eqs k_l k_m, e_eqs k_r k_m, e_eqs k_m k_m, e_eqs k_an k_on, e_eqs k_on k_on, e_eqs k_f k_f, e_eqs k_s k_f, e_eqs k_o k_o, e_eqs k_al k_o, e_eqs k_o k_al, e_eqs k_al k_al, e1, e2, e3, e4, hrow, hmid, false_and, and_false, true_and, decide_true, decide_false]
    · rcases h3 with rfl | rfl <;> rcases h1 with rfl | rfl | rfl <;> rcases h2 with rfl | rfl <;> simp only [m_law_place, runP, init, b_law_place, ruD, e_seq, e_seq_nx, e_seq_rt, e_seq_ite, e_bind, e_bind_ite, e_toS, e_toS_ite, e_set, e_ret, e_expr, e_nil, e_if, e_name, e_C, e_bin, e_un, e_ifx, e_aNil, e_aCons, e_call, e_cVal, e_cNot, e_cAnd, e_cOr, e_and, e_or, e_not, e_add, e_sub, e_lt, e_le, e_gt, e_ge, e_neg, e_eqi, e_nei, e_isN, e_notN, e_partsE, e_ixT0, e_ixT1, e_ixT2, e_ixT3, e_ixT4, e_ixL0, e_ixL1, e_ixL2, e_ixL3, e_ixL4, e_callP, e_callE, e_allP, e_allP0, e_tup, e_lst, e_par, List.map_cons, List.map_nil, List.append_assoc, List.nil_append, List.cons_append, List.replicate, List.getElem?_cons_zero, List.getElem?_cons_succ, List.set_cons_zero, List.set_cons_succ, Option.map_some, if_true, if_false, Bool.false_eq_true, decide_eq_true_eq, List.length_cons, List.length_nil, bg0, bg1, bg2, bg3, bg4, bg5, bg6, bg7, bg8, bg9, bg10, bg11, bg12, bg13, bg14, s_ll, s_lr, s_lm, s_rl, s_rr, s_rm, s_ml, s_mr, s_mm, s_an, s_oo, s_aa, s_oa, s_ff, s_sf, s_kk, s_ka, s_ak, s_kv, e_eqs k_l k_l, e_eqs k_r k_l, e_eqs k_m k_l, e_eqs k_l k_r, e_eqs k_r k_r, e_eqs k_m k_r, e_eqs k_l k_m, e_eqs k_r k_m, e_eqs k_m k_m, e_eqs k_an k_on, e_eqs k_on k_on, e_eqs k_f k_f, e_eqs k_s k_f, e_eqs k_o k_o, e_eqs k_al k_o, e_eqs k_o k_al, e_eqs k_al k_al, e1, e2, e3, e4, hrow, hmid, false_and, and_false, true_and, decide_true, decide_false]
theorem num_same {o p : Int} {k : Str} (ho : okO o) (hk : k = "once" ∨ k = "always") : lawNum o k p = numAt o k p := by
  unfold okO at ho
  unfold lawNum numAt
  by_cases h0 : o = 0
  · simp [h0]
  · rcases hk with rfl | rfl
    · simp only [h0, s_kk, s_ko, false_or, true_and, if_false, if_true, Bool.false_eq_true]
      by_cases h1 : p < o - 1
      · rw [if_pos h1, if_pos (show p + 1 < o by omega)]
      · rw [if_neg h1, if_neg (show ¬ p + 1 < o by omega)]
    · simp only [h0, s_ak, s_kv, false_or, false_and, if_false, if_true, Bool.false_eq_true]
      have e : p / (o - 1) * (o - 1) = p / (o - 1) * o - p / (o - 1) := by rw [Int.mul_sub, Int.mul_one]
      omega
theorem place_same {r : Ru} (hr : r.ok) {seats row seat : Int} (h0 : 0 ≤ row) : lawPlace r seats row seat = placeOf r seats row seat := by
  obtain ⟨s, rr, w, o, k⟩ := r
  obtain ⟨h1, h2, h3, h4, h5⟩ := hr
  dsimp only at h1 h2 h3 h4 h5
  have em : (if (w == ("fro" : Str)) = true ∧ row / 2 * 2 < row then seats - 1 - seat else seat) = (if mir w row = true then seats - 1 - seat else seat) := by
    unfold mir
    rcases h3 with rfl | rfl
    · simp [s_sf]
    · simp only [s_ff, true_and, Bool.true_and, beq_iff_eq]
      by_cases h : row / 2 * 2 < row
      · rw [if_pos h, if_pos (by omega)]
      · rw [if_neg h, if_neg (by omega)]
  unfold lawPlace placeOf
  dsimp only
  rw [em]
  generalize (if mir w row = true then seats - 1 - seat else seat) = q
  have eo : (if (s == ("middle" : Str)) = true then (if (seats + 1) / 2 - 1 < q then 2 * (q - ((seats + 1) / 2 - 1)) - 1 else 2 * ((seats + 1) / 2 - 1 - q)) else if (s == ("left" : Str)) = true then q else seats - 1 - q) = ordOf s seats q := by
    unfold ordOf
    rcases h1 with rfl | rfl | rfl
    · simp [s_lm, s_ll]
    · simp [s_rm, s_rl, s_rr]
    · simp only [s_mm, s_ml, s_mr, if_true, if_false, Bool.false_eq_true]
      by_cases h : (seats + 1) / 2 - 1 < q
      · rw [if_pos h, if_pos (by omega)]; omega
      · rw [if_neg h, if_neg (by omega)]; omega
  rw [eo, Int.mul_comm row seats]
/-- the law's number of a seat is the program's -/
theorem own_same {r : Ru} (hr : r.ok) {seats row seat : Int} (h0 : 0 ≤ row) : lawNum r.o r.k (lawPlace r seats row seat) = ownNum r seats row seat := by
  rw [num_same hr.ho hr.hk, place_same hr h0]; rfl

/-! ### draws -/
/-- the state of the source of draws, and whatever cells came later -/
def Dr (S rest : Sto) : Prop := ∃ (st idx : Int) (ns : List Int), S = .lst (ns.map D.int) :: .rcd [.p (.int st), .hnd 0, .p (.int idx), .p (.int 14)] :: rest ∧ 0 ≤ idx ∧ ns.length ≤ 63
theorem mixL {x : Option Dv} (seed0 : D) (a0 : D) : ∀ (ns : List Int) (st : Int) (x : Option Dv), ∃ st' x', forL (gN 3) (sSet 2 (dBin oMod (dCall nInt (aCons (dBin oAdd (dBin oAdd (dBin oMul (dName 2) (dC (.int 48271))) (dBin oMod (dCall nInt (aCons (dName 3) aNil)) (dC (.int 2147483629)))) (dC (.int 1))) aNil)) (dC (.int 2147483647)))) (ns.map D.int) [some (.p a0), some (.p seed0), some (.p (.int st)), x] [] = .ok (.nx [some (.p a0), some (.p seed0), some (.p (.int st')), x']) []
  | [], st, x => ⟨st, x, rfl⟩
  | n :: ns, st, x => by
    have e2 : ∀ (i j : Int) (S : Sto), oMul (.p (.int i)) (.p (.int 48271)) S = .ok (.p (.int (i * 48271))) S := fun i j S => e_mul1 (mul_r (by decide))
    have e3 : ∀ (i : Int) (S : Sto), oMod (.p (.int i)) (.p (.int 2147483629)) S = .ok (.p (.int (i % 2147483629))) S := fun i S => e_mod (by decide)
    have e4 : ∀ (i : Int) (S : Sto), oMod (.p (.int i)) (.p (.int 2147483647)) S = .ok (.p (.int (i % 2147483647))) S := fun i S => e_mod (by decide)
    have e5 : ∀ (i : Int) (S : Sto), nInt [.p (.int i)] S = .ok (.p (.int i)) S := fun i S => rfl
    obtain ⟨st', x', e⟩ := mixL (x := x) seed0 a0 ns ((st * 48271 + n % 2147483629 + 1) % 2147483647) (some (.p (.int n)))
    refine ⟨st', x', ?_⟩
    rw [← e, List.map_cons]
    conv => lhs; unfold forL
    simp only [gN, e_seq, e_seq_nx, e_seq_rt, e_seq_ite, e_bind, e_bind_ite, e_toS, e_toS_ite, e_set, e_ret, e_expr, e_nil, e_if, e_name, e_C, e_bin, e_un, e_ifx, e_aNil, e_aCons, e_call, e_cVal, e_cNot, e_cAnd, e_cOr, e_and, e_or, e_not, e_add, e_sub, e_lt, e_le, e_gt, e_ge, e_neg, e_eqi, e_nei, e_isN, e_notN, e_partsE, e_ixT0, e_ixT1, e_ixT2, e_ixT3, e_ixT4, e_ixL0, e_ixL1, e_ixL2, e_ixL3, e_ixL4, e_callP, e_callE, e_allP, e_allP0, e_tup, e_lst, e_par, List.map_cons, List.map_nil, List.append_assoc, List.nil_append, List.cons_append, List.replicate, List.getElem?_cons_zero, List.getElem?_cons_succ, List.set_cons_zero, List.set_cons_succ, Option.map_some, if_true, if_false, Bool.false_eq_true, decide_eq_true_eq, List.length_cons, List.length_nil, bg0, bg1, bg2, bg3, bg4, bg5, bg6, bg7, bg8, bg9, bg10, bg11, bg12, bg13, bg14, e2 _ 0, e3, e4, e5]
theorem mix_eq (ns : List Int) (hl : ns.length ≤ 63) (seed : Int) : ∃ S, m_law_mix [.p (.scr ns), .p (.int seed)] [] = .ok (.hnd 1) S ∧ Dr S [] := by
  obtain ⟨st', x', e⟩ := mixL (x := none) (.int seed) (.scr ns) ns seed none
  refine ⟨_, ?_, st', 0, ns, rfl, by omega, hl⟩
  have e6 : ∀ (ns : List Int) (S : Sto), nListC [.p (.scr ns)] S = .ok (.hnd S.length) (S ++ [.lst (ns.map D.int)]) := fun ns S => rfl
  have e7 : iSeq (dName 0) [some (.p (.scr ns)), some (.p (.int seed)), some (.p (.int seed)), none] [] = .ok (ns.map D.int) [] := rfl
  have e8 : ∀ (st : Int), dLstR (aCons (dName 2) (aCons (dCall nListC (aCons (dName 0) aNil)) (aCons (dC (.int 0)) (aCons (dC (.int 14)) aNil)))) [some (.p (.scr ns)), some (.p (.int seed)), some (.p (.int st)), x'] [] = .ok (.hnd 1) [.lst (ns.map D.int), .rcd [.p (.int st), .hnd 0, .p (.int 0), .p (.int 14)]] := fun st => rfl
  simp only [m_law_mix, runE, init, b_law_mix, sFor, e7, e_seq, e_seq_nx, e_seq_rt, e_seq_ite, e_bind, e_bind_ite, e_toS, e_toS_ite, e_set, e_ret, e_expr, e_nil, e_if, e_name, e_C, e_bin, e_un, e_ifx, e_aNil, e_aCons, e_call, e_cVal, e_cNot, e_cAnd, e_cOr, e_and, e_or, e_not, e_add, e_sub, e_lt, e_le, e_gt, e_ge, e_neg, e_eqi, e_nei, e_isN, e_notN, e_partsE, e_ixT0, e_ixT1, e_ixT2, e_ixT3, e_ixT4, e_ixL0, e_ixL1, e_ixL2, e_ixL3, e_ixL4, e_callP, e_callE, e_allP, e_allP0, e_tup, e_lst, e_par, List.map_cons, List.map_nil, List.append_assoc, List.nil_append, List.cons_append, List.replicate, List.getElem?_cons_zero, List.getElem?_cons_succ, List.set_cons_zero, List.set_cons_succ, Option.map_some, if_true, if_false, Bool.false_eq_true, decide_eq_true_eq, List.length_cons, List.length_nil, bg0, bg1, bg2, bg3, bg4, bg5, bg6, bg7, bg8, bg9, bg10, bg11, bg12, bg13, bg14]
  rw [e]
  simp only [e_seq, e_seq_nx, e_seq_rt, e_seq_ite, e_bind, e_bind_ite, e_toS, e_toS_ite, e_set, e_ret, e_expr, e_nil, e_if, e_name, e_C, e_bin, e_un, e_ifx, e_aNil, e_aCons, e_call, e_cVal, e_cNot, e_cAnd, e_cOr, e_and, e_or, e_not, e_add, e_sub, e_lt, e_le, e_gt, e_ge, e_neg, e_eqi, e_nei, e_isN, e_notN, e_partsE, e_ixT0, e_ixT1, e_ixT2, e_ixT3, e_ixT4, e_ixL0, e_ixL1, e_ixL2, e_ixL3, e_ixL4, e_callP, e_callE, e_allP, e_allP0, e_tup, e_lst, e_par, List.map_cons, List.map_nil, List.append_assoc, List.nil_append, List.cons_append, List.replicate, List.getElem?_cons_zero, List.getElem?_cons_succ, List.set_cons_zero, List.set_cons_succ, Option.map_some, if_true, if_false, Bool.false_eq_true, decide_eq_true_eq, List.length_cons, List.length_nil, bg0, bg1, bg2, bg3, bg4, bg5, bg6, bg7, bg8, bg9, bg10, bg11, bg12, bg13, bg14, e8]
theorem next_eq {S rest : Sto} (h : Dr S rest) {b : Int} (hb : 0 < b) (hbw : b.natAbs < wid) : ∃ (k : Int) (S' : Sto), m_law_next [.hnd 1, .p (.int b)] S = .ok (.p (.int k)) S' ∧ 0 ≤ k ∧ k < b ∧ Dr S' rest := by
  obtain ⟨st, idx, ns, rfl, hi, hl⟩ := h
  have x1 : ∀ (c0 : List D) (st idx : Int) (r : Sto), oIx (.hnd 1) (.p (.int 1)) (.lst c0 :: .rcd [.p (.int st), .hnd 0, .p (.int idx), .p (.int 14)] :: r) = .ok (.hnd 0) (.lst c0 :: .rcd [.p (.int st), .hnd 0, .p (.int idx), .p (.int 14)] :: r) := fun _ _ _ _ => rfl
  have x0 : ∀ (c0 : List D) (st idx : Int) (r : Sto), oIx (.hnd 1) (.p (.int 0)) (.lst c0 :: .rcd [.p (.int st), .hnd 0, .p (.int idx), .p (.int 14)] :: r) = .ok (.p (.int st)) (.lst c0 :: .rcd [.p (.int st), .hnd 0, .p (.int idx), .p (.int 14)] :: r) := fun _ _ _ _ => rfl
  have x2 : ∀ (c0 : List D) (st idx : Int) (r : Sto), oIx (.hnd 1) (.p (.int 2)) (.lst c0 :: .rcd [.p (.int st), .hnd 0, .p (.int idx), .p (.int 14)] :: r) = .ok (.p (.int idx)) (.lst c0 :: .rcd [.p (.int st), .hnd 0, .p (.int idx), .p (.int 14)] :: r) := fun _ _ _ _ => rfl
  have ea : ∀ (r : Sto), oAdd (.hnd 0) (.p (.lst [.int 0])) (.lst (ns.map D.int) :: r) = .ok (.p (.lst (ns.map D.int ++ [.int 0]))) (.lst (ns.map D.int) :: r) := fun r => by
    show (if (ns.map D.int).length + [D.int 0].length ≤ big then Out.ok (Dv.p (.lst (ns.map D.int ++ [.int 0]))) _ else .bad) = _
    rw [if_pos (by rw [List.length_map]; show ns.length + 1 ≤ 16777216; omega)]
  have eL : ∀ (S : Sto), dLst (aCons (dC (.int 0)) aNil) [some (.hnd 1), some (.p (.int b)), none] S = .ok (.p (.lst [.int 0])) S := fun S => rfl
  have el : ∀ (r : Sto), nLen [.hnd 0] (.lst (ns.map D.int) :: r) = .ok (.p (.int ns.length)) (.lst (ns.map D.int) :: r) := fun r => by
    show Out.ok (Dv.p (.int ((ns.map D.int).length : Nat))) _ = _
    rw [List.length_map]
  have e5 : ∀ (i : Int) (S : Sto), nInt [.p (.int i)] S = .ok (.p (.int i)) S := fun i S => rfl
  have em : ∀ (i j : Int) (S : Sto), nMax2 [.p (.int i), .p (.int j)] S = .ok (.p (.int (if j > i then j else i))) S := fun i j S => rfl
  have hmx : (0 : Int) < (if (ns.length : Int) > 1 then (ns.length : Int) else 1) := by split <;> omega
  have emod : ∀ (S : Sto), oMod (.p (.int idx)) (.p (.int (if (ns.length : Int) > 1 then (ns.length : Int) else 1))) S = .ok (.p (.int (idx % (if (ns.length : Int) > 1 then (ns.length : Int) else 1)))) S := fun S => e_mod hmx
  generalize hj : idx % (if (ns.length : Int) > 1 then (ns.length : Int) else 1) = j at emod
  have j0 : 0 ≤ j := by rw [← hj]; exact Int.emod_nonneg _ (by omega)
  have j1 : j < (if (ns.length : Int) > 1 then (ns.length : Int) else 1) := by rw [← hj]; exact Int.emod_lt_of_pos _ hmx
  have jl : j.toNat < (ns ++ [0]).length := by
    rw [List.length_append]
    show j.toNat < ns.length + 1
    split at j1 <;> omega
  obtain ⟨c, hc⟩ : ∃ c, (ns ++ [0])[j.toNat]? = some c := ⟨_, List.getElem?_eq_getElem jl⟩
  have eix : ∀ (S : Sto), oIx (.p (.lst (ns.map D.int ++ [.int 0]))) (.p (.int j)) S = .ok (.p (.int c)) S := fun S => by
    have := e_ixL (S := S) (ds := ns.map D.int ++ [.int 0]) (d := .int c) j.toNat (by
      have e : ns.map D.int ++ [.int 0] = (ns ++ [0]).map D.int := by rw [List.map_append]; rfl
      rw [e, List.getElem?_map, hc]; rfl)
    rw [Int.toNat_of_nonneg j0] at this
    exact this
  have e10 : ∀ (S : Sto), oPow (.p (.int 10)) (.p (.int 18)) S = .ok (.p (.int 1000000000000000000)) S := fun S => rfl
  have eM1 : ∀ (i : Int) (S : Sto), oMul (.p (.int i)) (.p (.int 48271)) S = .ok (.p (.int (i * 48271))) S := fun i S => e_mul1 (mul_r (by decide))
  have eM2 : ∀ (i : Int) (S : Sto), oMul (.p (.int i)) (.p (.int 69621)) S = .ok (.p (.int (i * 69621))) S := fun i S => e_mul1 (mul_r (by decide))
  have eD7 : ∀ (i : Int) (S : Sto), oDiv (.p (.int i)) (.p (.int 7)) S = .ok (.p (.int (i / 7))) S := fun i S => e_div (by decide) (by decide)
  have eDb : ∀ (i : Int) (S : Sto), oDiv (.p (.int i)) (.p (.int b)) S = .ok (.p (.int (i / b))) S := fun i S => e_div hb hbw
  have eMb : ∀ (i : Int) (S : Sto), oMod (.p (.int i)) (.p (.int b)) S = .ok (.p (.int (i % b))) S := fun i S => e_mod hb
  have eMs : ∀ (i : Int) (S : Sto), oMod (.p (.int i)) (.p (.int 2147483647)) S = .ok (.p (.int (i % 2147483647))) S := fun i S => e_mod (by decide)
  by_cases hbig : 1000000000000000000 ≤ c
  · -- a large cell gives its digits
    have hjn : j.toNat < ns.length := by
      rw [List.length_append] at jl
      have jl : j.toNat < ns.length + 1 := jl
      by_cases q : j.toNat = ns.length
      · rw [q, List.getElem?_append_right (Nat.le_refl _), Nat.sub_self] at hc
        have : (0 : Int) = c := by simpa using hc
        omega
      · omega
    have hlen : (0 : Int) < ns.length := by omega
    have ejm : idx % (ns.length : Int) = j := by
      rw [← hj]
      split
      · rfl
      · have : (ns.length : Int) = 1 := by omega
        rw [this]
    have emod2 : ∀ (S : Sto), oMod (.p (.int idx)) (.p (.int (ns.length : Int))) S = .ok (.p (.int j)) S := fun S => by rw [← ejm]; exact e_mod hlen
    refine ⟨c % b, .lst ((ns.set j.toNat (c / b)).map D.int) :: .rcd [.p (.int st), .hnd 0, .p (.int idx), .p (.int 14)] :: rest, ?_, Int.emod_nonneg _ (by omega), Int.emod_lt_of_pos _ hb, st, idx, ns.set j.toNat (c / b), rfl, hi, by rw [List.length_set]; exact hl⟩
    have eset : ∀ (ρ : Nv), ρ = [some (.hnd 1), some (.p (.int b)), some (.p (.int c))] → sSetI (dBin oIx (dName 0) (dC (.int 1))) (dBin oMod (dCall nInt (aCons (dBin oIx (dName 0) (dC (.int 2))) aNil)) (dCall nLen (aCons (dBin oIx (dName 0) (dC (.int 1))) aNil))) (dBin oDiv (dName 2) (dName 1)) ρ (.lst (ns.map D.int) :: .rcd [.p (.int st), .hnd 0, .p (.int idx), .p (.int 14)] :: rest)
        = .ok (.nx ρ) (.lst ((ns.set j.toNat (c / b)).map D.int) :: .rcd [.p (.int st), .hnd 0, .p (.int idx), .p (.int 14)] :: rest) := by
      rintro ρ rfl
      simp only [sSetI, e_seq, e_seq_nx, e_seq_rt, e_seq_ite, e_bind, e_bind_ite, e_toS, e_toS_ite, e_set, e_ret, e_expr, e_nil, e_if, e_name, e_C, e_bin, e_un, e_ifx, e_aNil, e_aCons, e_call, e_cVal, e_cNot, e_cAnd, e_cOr, e_and, e_or, e_not, e_add, e_sub, e_lt, e_le, e_gt, e_ge, e_neg, e_eqi, e_nei, e_isN, e_notN, e_partsE, e_ixT0, e_ixT1, e_ixT2, e_ixT3, e_ixT4, e_ixL0, e_ixL1, e_ixL2, e_ixL3, e_ixL4, e_callP, e_callE, e_allP, e_allP0, e_tup, e_lst, e_par, List.map_cons, List.map_nil, List.append_assoc, List.nil_append, List.cons_append, List.replicate, List.getElem?_cons_zero, List.getElem?_cons_succ, List.set_cons_zero, List.set_cons_succ, Option.map_some, if_true, if_false, Bool.false_eq_true, decide_eq_true_eq, List.length_cons, List.length_nil, bg0, bg1, bg2, bg3, bg4, bg5, bg6, bg7, bg8, bg9, bg10, bg11, bg12, bg13, bg14, eDb, x1, x2, e5, el, emod2]
      have e3 : ixN (ns.map D.int).length j = some j.toNat := by
        unfold ixN
        rw [if_pos j0, List.length_map, if_pos (by omega)]
      rw [e3]
      simp only [List.set_cons_zero, List.map_set]
    simp only [m_law_next, runE, init, b_law_next, e_seq, e_seq_nx, e_seq_rt, e_seq_ite, e_bind, e_bind_ite, e_toS, e_toS_ite, e_set, e_ret, e_expr, e_nil, e_if, e_name, e_C, e_bin, e_un, e_ifx, e_aNil, e_aCons, e_call, e_cVal, e_cNot, e_cAnd, e_cOr, e_and, e_or, e_not, e_add, e_sub, e_lt, e_le, e_gt, e_ge, e_neg, e_eqi, e_nei, e_isN, e_notN, e_partsE, e_ixT0, e_ixT1, e_ixT2, e_ixT3, e_ixT4, e_ixL0, e_ixL1, e_ixL2, e_ixL3, e_ixL4, e_callP, e_callE, e_allP, e_allP0, e_tup, e_lst, e_par, List.map_cons, List.map_nil, List.append_assoc, List.nil_append, List.cons_append, List.replicate, List.getElem?_cons_zero, List.getElem?_cons_succ, List.set_cons_zero, List.set_cons_succ, Option.map_some, if_true, if_false, Bool.false_eq_true, decide_eq_true_eq, List.length_cons, List.length_nil, bg0, bg1, bg2, bg3, bg4, bg5, bg6, bg7, bg8, bg9, bg10, bg11, bg12, bg13, bg14, x1, x2, x0, ea, eL, el, e5, em, emod, eix, e10, hbig, decide_true, eset _ rfl, eMb]
  · refine ⟨((st * 48271 + c * 69621 + 11) % 2147483647) / 7 % b, .lst (ns.map D.int) :: .rcd [.p (.int ((st * 48271 + c * 69621 + 11) % 2147483647)), .hnd 0, .p (.int (idx + 1)), .p (.int 14)] :: rest, ?_, Int.emod_nonneg _ (by omega), Int.emod_lt_of_pos _ hb, _, idx + 1, ns, rfl, by omega, hl⟩
    have es0 : ∀ (v : Int) (ef : Ef) (ρ : Nv), ρ[0]? = some (some (.hnd 1)) → ef ρ (.lst (ns.map D.int) :: .rcd [.p (.int st), .hnd 0, .p (.int idx), .p (.int 14)] :: rest) = .ok (.p (.int v)) (.lst (ns.map D.int) :: .rcd [.p (.int st), .hnd 0, .p (.int idx), .p (.int 14)] :: rest) →
        sSetI (dName 0) (dC (.int 0)) ef ρ (.lst (ns.map D.int) :: .rcd [.p (.int st), .hnd 0, .p (.int idx), .p (.int 14)] :: rest) = .ok (.nx ρ) (.lst (ns.map D.int) :: .rcd [.p (.int v), .hnd 0, .p (.int idx), .p (.int 14)] :: rest) := fun v ef ρ h1 h2 => by
      simp only [sSetI, h2, e_seq, e_seq_nx, e_seq_rt, e_seq_ite, e_bind, e_bind_ite, e_toS, e_toS_ite, e_set, e_ret, e_expr, e_nil, e_if, e_name, e_C, e_bin, e_un, e_ifx, e_aNil, e_aCons, e_call, e_cVal, e_cNot, e_cAnd, e_cOr, e_and, e_or, e_not, e_add, e_sub, e_lt, e_le, e_gt, e_ge, e_neg, e_eqi, e_nei, e_isN, e_notN, e_partsE, e_ixT0, e_ixT1, e_ixT2, e_ixT3, e_ixT4, e_ixL0, e_ixL1, e_ixL2, e_ixL3, e_ixL4, e_callP, e_callE, e_allP, e_allP0, e_tup, e_lst, e_par, List.map_cons, List.map_nil, List.append_assoc, List.nil_append, List.cons_append, List.replicate, List.getElem?_cons_zero, List.getElem?_cons_succ, List.set_cons_zero, List.set_cons_succ, Option.map_some, if_true, if_false, Bool.false_eq_true, decide_eq_true_eq, List.length_cons, List.length_nil, bg0, bg1, bg2, bg3, bg4, bg5, bg6, bg7, bg8, bg9, bg10, bg11, bg12, bg13, bg14, h1]; rfl
    have es2 : ∀ (st v : Int) (ef : Ef) (ρ : Nv), ρ[0]? = some (some (.hnd 1)) → ef ρ (.lst (ns.map D.int) :: .rcd [.p (.int st), .hnd 0, .p (.int idx), .p (.int 14)] :: rest) = .ok (.p (.int v)) (.lst (ns.map D.int) :: .rcd [.p (.int st), .hnd 0, .p (.int idx), .p (.int 14)] :: rest) →
        sSetI (dName 0) (dC (.int 2)) ef ρ (.lst (ns.map D.int) :: .rcd [.p (.int st), .hnd 0, .p (.int idx), .p (.int 14)] :: rest) = .ok (.nx ρ) (.lst (ns.map D.int) :: .rcd [.p (.int st), .hnd 0, .p (.int v), .p (.int 14)] :: rest) := fun st v ef ρ h1 h2 => by
      simp only [sSetI, h2, e_seq, e_seq_nx, e_seq_rt, e_seq_ite, e_bind, e_bind_ite, e_toS, e_toS_ite, e_set, e_ret, e_expr, e_nil, e_if, e_name, e_C, e_bin, e_un, e_ifx, e_aNil, e_aCons, e_call, e_cVal, e_cNot, e_cAnd, e_cOr, e_and, e_or, e_not, e_add, e_sub, e_lt, e_le, e_gt, e_ge, e_neg, e_eqi, e_nei, e_isN, e_notN, e_partsE, e_ixT0, e_ixT1, e_ixT2, e_ixT3, e_ixT4, e_ixL0, e_ixL1, e_ixL2, e_ixL3, e_ixL4, e_callP, e_callE, e_allP, e_allP0, e_tup, e_lst, e_par, List.map_cons, List.map_nil, List.append_assoc, List.nil_append, List.cons_append, List.replicate, List.getElem?_cons_zero, List.getElem?_cons_succ, List.set_cons_zero, List.set_cons_succ, Option.map_some, if_true, if_false, Bool.false_eq_true, decide_eq_true_eq, List.length_cons, List.length_nil, bg0, bg1, bg2, bg3, bg4, bg5, bg6, bg7, bg8, bg9, bg10, bg11, bg12, bg13, bg14, h1]; rfl
    simp only [m_law_next, runE, init, b_law_next, e_seq, e_seq_nx, e_seq_rt, e_seq_ite, e_bind, e_bind_ite, e_toS, e_toS_ite, e_set, e_ret, e_expr, e_nil, e_if, e_name, e_C, e_bin, e_un, e_ifx, e_aNil, e_aCons, e_call, e_cVal, e_cNot, e_cAnd, e_cOr, e_and, e_or, e_not, e_add, e_sub, e_lt, e_le, e_gt, e_ge, e_neg, e_eqi, e_nei, e_isN, e_notN, e_partsE, e_ixT0, e_ixT1, e_ixT2, e_ixT3, e_ixT4, e_ixL0, e_ixL1, e_ixL2, e_ixL3, e_ixL4, e_callP, e_callE, e_allP, e_allP0, e_tup, e_lst, e_par, List.map_cons, List.map_nil, List.append_assoc, List.nil_append, List.cons_append, List.replicate, List.getElem?_cons_zero, List.getElem?_cons_succ, List.set_cons_zero, List.set_cons_succ, Option.map_some, if_true, if_false, Bool.false_eq_true, decide_eq_true_eq, List.length_cons, List.length_nil, bg0, bg1, bg2, bg3, bg4, bg5, bg6, bg7, bg8, bg9, bg10, bg11, bg12, bg13, bg14, x1, x2, x0, ea, eL, el, e5, em, emod, eix, e10, hbig, decide_false]
    rw [es0 ((st * 48271 + c * 69621 + 11) % 2147483647) _ _ rfl (by simp only [e_seq, e_seq_nx, e_seq_rt, e_seq_ite, e_bind, e_bind_ite, e_toS, e_toS_ite, e_set, e_ret, e_expr, e_nil, e_if, e_name, e_C, e_bin, e_un, e_ifx, e_aNil, e_aCons, e_call, e_cVal, e_cNot, e_cAnd, e_cOr, e_and, e_or, e_not, e_add, e_sub, e_lt, e_le, e_gt, e_ge, e_neg, e_eqi, e_nei, e_isN, e_notN, e_partsE, e_ixT0, e_ixT1, e_ixT2, e_ixT3, e_ixT4, e_ixL0, e_ixL1, e_ixL2, e_ixL3, e_ixL4, e_callP, e_callE, e_allP, e_allP0, e_tup, e_lst, e_par, List.map_cons, List.map_nil, List.append_assoc, List.nil_append, List.cons_append, List.replicate, List.getElem?_cons_zero, List.getElem?_cons_succ, List.set_cons_zero, List.set_cons_succ, Option.map_some, if_true, if_false, Bool.false_eq_true, decide_eq_true_eq, List.length_cons, List.length_nil, bg0, bg1, bg2, bg3, bg4, bg5, bg6, bg7, bg8, bg9, bg10, bg11, bg12, bg13, bg14, x0, eM1, eM2, e5, eMs])]
    simp only [e_seq, e_seq_nx, e_seq_rt, e_seq_ite, e_bind, e_bind_ite, e_toS, e_toS_ite, e_set, e_ret, e_expr, e_nil, e_if, e_name, e_C, e_bin, e_un, e_ifx, e_aNil, e_aCons, e_call, e_cVal, e_cNot, e_cAnd, e_cOr, e_and, e_or, e_not, e_add, e_sub, e_lt, e_le, e_gt, e_ge, e_neg, e_eqi, e_nei, e_isN, e_notN, e_partsE, e_ixT0, e_ixT1, e_ixT2, e_ixT3, e_ixT4, e_ixL0, e_ixL1, e_ixL2, e_ixL3, e_ixL4, e_callP, e_callE, e_allP, e_allP0, e_tup, e_lst, e_par, List.map_cons, List.map_nil, List.append_assoc, List.nil_append, List.cons_append, List.replicate, List.getElem?_cons_zero, List.getElem?_cons_succ, List.set_cons_zero, List.set_cons_succ, Option.map_some, if_true, if_false, Bool.false_eq_true, decide_eq_true_eq, List.length_cons, List.length_nil, bg0, bg1, bg2, bg3, bg4, bg5, bg6, bg7, bg8, bg9, bg10, bg11, bg12, bg13, bg14]
    rw [es2 _ (idx + 1) _ _ rfl (by simp only [e_seq, e_seq_nx, e_seq_rt, e_seq_ite, e_bind, e_bind_ite, e_toS, e_toS_ite, e_set, e_ret, e_expr, e_nil, e_if, e_name, e_C, e_bin, e_un, e_ifx, e_aNil, e_aCons, e_call, e_cVal, e_cNot, e_cAnd, e_cOr, e_and, e_or, e_not, e_add, e_sub, e_lt, e_le, e_gt, e_ge, e_neg, e_eqi, e_nei, e_isN, e_notN, e_partsE, e_ixT0, e_ixT1, e_ixT2, e_ixT3, e_ixT4, e_ixL0, e_ixL1, e_ixL2, e_ixL3, e_ixL4, e_callP, e_callE, e_allP, e_allP0, e_tup, e_lst, e_par, List.map_cons, List.map_nil, List.append_assoc, List.nil_append, List.cons_append, List.replicate, List.getElem?_cons_zero, List.getElem?_cons_succ, List.set_cons_zero, List.set_cons_succ, Option.map_some, if_true, if_false, Bool.false_eq_true, decide_eq_true_eq, List.length_cons, List.length_nil, bg0, bg1, bg2, bg3, bg4, bg5, bg6, bg7, bg8, bg9, bg10, bg11, bg12, bg13, bg14, x2])]
    simp only [e_seq, e_seq_nx, e_seq_rt, e_seq_ite, e_bind, e_bind_ite, e_toS, e_toS_ite, e_set, e_ret, e_expr, e_nil, e_if, e_name, e_C, e_bin, e_un, e_ifx, e_aNil, e_aCons, e_call, e_cVal, e_cNot, e_cAnd, e_cOr, e_and, e_or, e_not, e_add, e_sub, e_lt, e_le, e_gt, e_ge, e_neg, e_eqi, e_nei, e_isN, e_notN, e_partsE, e_ixT0, e_ixT1, e_ixT2, e_ixT3, e_ixT4, e_ixL0, e_ixL1, e_ixL2, e_ixL3, e_ixL4, e_callP, e_callE, e_allP, e_allP0, e_tup, e_lst, e_par, List.map_cons, List.map_nil, List.append_assoc, List.nil_append, List.cons_append, List.replicate, List.getElem?_cons_zero, List.getElem?_cons_succ, List.set_cons_zero, List.set_cons_succ, Option.map_some, if_true, if_false, Bool.false_eq_true, decide_eq_true_eq, List.length_cons, List.length_nil, bg0, bg1, bg2, bg3, bg4, bg5, bg6, bg7, bg8, bg9, bg10, bg11, bg12, bg13, bg14, x0, e5, eD7, eMb]

/-! ### rules drawn and made -/
theorem pick3 {k : Int} {a b c : Str} (h0 : 0 ≤ k) (h1 : k < 3) : ∃ s : Str, (s = a ∨ s = b ∨ s = c) ∧ ∀ S, oIx (.p (.lst [.str a, .str b, .str c])) (.p (.int k)) S = .ok (.p (.str s)) S := by
  have h : k = 0 ∨ k = 1 ∨ k = 2 := by omega
  rcases h with rfl | rfl | rfl
  · exact ⟨a, .inl rfl, fun S => e_ixL0⟩
  · exact ⟨b, .inr (.inl rfl), fun S => e_ixL1⟩
  · exact ⟨c, .inr (.inr rfl), fun S => e_ixL2⟩
theorem pick2 {k : Int} {a b : Str} (h0 : 0 ≤ k) (h1 : k < 2) : ∃ s : Str, (s = a ∨ s = b) ∧ ∀ S, oIx (.p (.lst [.str a, .str b])) (.p (.int k)) S = .ok (.p (.str s)) S := by
  have h : k = 0 ∨ k = 1 := by omega
  rcases h with rfl | rfl
  · exact ⟨a, .inl rfl, fun S => e_ixL0⟩
  · exact ⟨b, .inr rfl, fun S => e_ixL1⟩
theorem pickI {k : Int} (ns : List Int) (h0 : 0 ≤ k) (h1 : k < ns.length) : ∃ i : Int, i ∈ ns ∧ ∀ S, oIx (.p (.lst (ns.map D.int))) (.p (.int k)) S = .ok (.p (.int i)) S := by
  have hl : k.toNat < ns.length := by omega
  refine ⟨ns[k.toNat], List.getElem_mem hl, fun S => ?_⟩
  have := e_ixL (S := S) (ds := ns.map D.int) (d := .int ns[k.toNat]) k.toNat (by rw [List.getElem?_map, List.getElem?_eq_getElem hl]; rfl)
  rwa [Int.toNat_of_nonneg h0] at this
theorem rule_eq {S rest : Sto} (h : Dr S rest) : ∃ (r : Ru) (S' : Sto), r.ok ∧ m_law_rule [.hnd 1] S = .ok (.p (.lst (ruD r))) S' ∧ Dr S' rest := by
  have w2 : (2 : Int).natAbs < wid := by decide
  have w3 : (3 : Int).natAbs < wid := by decide
  have w13 : (13 : Int).natAbs < wid := by decide
  obtain ⟨k1, S1, n1, a1, b1, d1⟩ := next_eq h (b := 3) (by decide) w3
  obtain ⟨k2, S2, n2, a2, b2, d2⟩ := next_eq d1 (b := 2) (by decide) w2
  obtain ⟨k3, S3, n3, a3, b3, d3⟩ := next_eq d2 (b := 2) (by decide) w2
  obtain ⟨k4, S4, n4, a4, b4, d4⟩ := next_eq d3 (b := 13) (by decide) w13
  obtain ⟨k5, S5, n5, a5, b5, d5⟩ := next_eq d4 (b := 2) (by decide) w2
  obtain ⟨s, hs, p1⟩ := pick3 (a := "left") (b := "right") (c := "middle") a1 b1
  obtain ⟨r, hr, p2⟩ := pick2 (a := "anew") (b := "on") a2 b2
  obtain ⟨w, hw, p3⟩ := pick2 (a := "same") (b := "fro") a3 b3
  obtain ⟨o, ho, p4⟩ := pickI [0, 2, 3, 4, 5, 6, 7, 8, 9, 10, 11, 12, 13] a4 b4
  obtain ⟨k, hk, p5⟩ := pick2 (a := "once") (b := "always") a5 b5
  have ho' : okO o := by
    simp at ho
    unfold okO
    omega
  refine ⟨⟨s, r, w, o, k⟩, S5, ⟨hs, hr, hw, ho', hk⟩, ?_, d5⟩
  simp only [List.map_cons, List.map_nil] at p4
  simp only [m_law_rule, runE, init, b_law_rule, ruD, e_seq, e_seq_nx, e_seq_rt, e_seq_ite, e_bind, e_bind_ite, e_toS, e_toS_ite, e_set, e_ret, e_expr, e_nil, e_if, e_name, e_C, e_bin, e_un, e_ifx, e_aNil, e_aCons, e_call, e_cVal, e_cNot, e_cAnd, e_cOr, e_and, e_or, e_not, e_add, e_sub, e_lt, e_le, e_gt, e_ge, e_neg, e_eqi, e_nei, e_isN, e_notN, e_partsE, e_ixT0, e_ixT1, e_ixT2, e_ixT3, e_ixT4, e_ixL0, e_ixL1, e_ixL2, e_ixL3, e_ixL4, e_callP, e_callE, e_allP, e_allP0, e_tup, e_lst, e_par, List.map_cons, List.map_nil, List.append_assoc, List.nil_append, List.cons_append, List.replicate, List.getElem?_cons_zero, List.getElem?_cons_succ, List.set_cons_zero, List.set_cons_succ, Option.map_some, if_true, if_false, Bool.false_eq_true, decide_eq_true_eq, List.length_cons, List.length_nil, bg0, bg1, bg2, bg3, bg4, bg5, bg6, bg7, bg8, bg9, bg10, bg11, bg12, bg13, bg14, n1, n2, n3, n4, n5, p1, p2, p3, p4, p5]
theorem is_start {s : Str} (h : s = "left" ∨ s = "right" ∨ s = "middle") : m_is_of [.str "start", .str s] = .ok (.bl true) := by
  rcases h with rfl | rfl | rfl <;> kernel_rfl
theorem is_rows {s : Str} (h : s = "anew" ∨ s = "on") : m_is_of [.str "rows", .str s] = .ok (.bl true) := by
  rcases h with rfl | rfl <;> kernel_rfl
theorem is_ways {s : Str} (h : s = "same" ∨ s = "fro") : m_is_of [.str "ways", .str s] = .ok (.bl true) := by
  rcases h with rfl | rfl <;> kernel_rfl
theorem is_kind {s : Str} (h : s = "once" ∨ s = "always") : m_is_of [.str "kind", .str s] = .ok (.bl true) := by
  rcases h with rfl | rfl <;> kernel_rfl
theorem is_out {o : Int} (h : okO o) : m_is_of [.str "out", .int o] = .ok (.bl true) := by
  rcases okO_cases h with rfl | rfl | rfl | rfl | rfl | rfl | rfl | rfl | rfl | rfl | rfl | rfl | rfl <;> kernel_rfl
theorem init_eq {r : Ru} (h : r.ok) : m_Rule_init [.hnd 0, .p (.str r.s), .p (.str r.r), .p (.str r.w), .p (.int r.o), .p (.str r.k)] [.raw 1, .dead] = .ok (.p .non) [.slt 1 (ruD r), .dead] := by
  have e1 := is_start h.hs
  have e2 := is_rows h.hr
  have e3 := is_ways h.hw
  have e4 := is_out h.ho
  have e5 := is_kind h.hk
  simp only [m_Rule_init, runE, init, b_Rule_init, sFor, DL.iZip, t_POINTS, zipD, forL, gT, gsCons, gsNil, gN, sParts, ruD, e_seq, e_seq_nx, e_seq_rt, e_seq_ite, e_bind, e_bind_ite, e_toS, e_toS_ite, e_set, e_ret, e_expr, e_nil, e_if, e_name, e_C, e_bin, e_un, e_ifx, e_aNil, e_aCons, e_call, e_cVal, e_cNot, e_cAnd, e_cOr, e_and, e_or, e_not, e_add, e_sub, e_lt, e_le, e_gt, e_ge, e_neg, e_eqi, e_nei, e_isN, e_notN, e_partsE, e_ixT0, e_ixT1, e_ixT2, e_ixT3, e_ixT4, e_ixL0, e_ixL1, e_ixL2, e_ixL3, e_ixL4, e_callP, e_callE, e_allP, e_allP0, e_tup, e_lst, e_par, List.map_cons, List.map_nil, List.append_assoc, List.nil_append, List.cons_append, List.replicate, List.getElem?_cons_zero, List.getElem?_cons_succ, List.set_cons_zero, List.set_cons_succ, Option.map_some, if_true, if_false, Bool.false_eq_true, decide_eq_true_eq, List.length_cons, List.length_nil, bg0, bg1, bg2, bg3, bg4, bg5, bg6, bg7, bg8, bg9, bg10, bg11, bg12, bg13, bg14, e1, e2, e3, e4, e5, Bool.not_true]
theorem e_make {m : List Dv → Sto → Out Dv} {a : Af} {ρ : Nv} {S : Sto} : dMake m a ρ S = (a ρ S).bind fun xs S1 => match allP xs with
  | some ds => match m (.hnd 0 :: ds.map Dv.p) [.raw 1, .dead] with
    | .ok (.p .non) [.slt 1 es, .dead] => .ok (.p (.rul es)) S1
    | _ => .bad
  | none => .bad := rfl
theorem built_eq {r : Ru} (h : r.ok) : m_law_built [.lst (ruD r)] = .ok (.rul (ruD r)) := by
  have e1 := init_eq h
  simp only [m_law_built, runP, init, b_law_built, e_make, ruD, e_seq, e_seq_nx, e_seq_rt, e_seq_ite, e_bind, e_bind_ite, e_toS, e_toS_ite, e_set, e_ret, e_expr, e_nil, e_if, e_name, e_C, e_bin, e_un, e_ifx, e_aNil, e_aCons, e_call, e_cVal, e_cNot, e_cAnd, e_cOr, e_and, e_or, e_not, e_add, e_sub, e_lt, e_le, e_gt, e_ge, e_neg, e_eqi, e_nei, e_isN, e_notN, e_partsE, e_ixT0, e_ixT1, e_ixT2, e_ixT3, e_ixT4, e_ixL0, e_ixL1, e_ixL2, e_ixL3, e_ixL4, e_callP, e_callE, e_allP, e_allP0, e_tup, e_lst, e_par, List.map_cons, List.map_nil, List.append_assoc, List.nil_append, List.cons_append, List.replicate, List.getElem?_cons_zero, List.getElem?_cons_succ, List.set_cons_zero, List.set_cons_succ, Option.map_some, if_true, if_false, Bool.false_eq_true, decide_eq_true_eq, List.length_cons, List.length_nil, bg0, bg1, bg2, bg3, bg4, bg5, bg6, bg7, bg8, bg9, bg10, bg11, bg12, bg13, bg14, e1]
/-! ### loops that search -/
theorem forL_find {t : Tgt} {body : Sf} {S : Sto} (P : Nv → Prop) (res : D → Option Dv) : ∀ (ds : List D), (∀ d ∈ ds, ∀ ρ, P ρ → ∃ ρ1, t (.p d) ρ = some ρ1 ∧ match res d with
    | some v => body ρ1 S = .ok (.rt v) S
    | none => ∃ ρ', P ρ' ∧ body ρ1 S = .ok (.nx ρ') S) → ∀ ρ, P ρ → match ds.findSome? res with
    | some v => forL t body ds ρ S = .ok (.rt v) S
    | none => ∃ ρ', P ρ' ∧ forL t body ds ρ S = .ok (.nx ρ') S
  | [], _, ρ, h => ⟨ρ, h, rfl⟩
  | d :: ds, hs, ρ, h => by
    obtain ⟨ρ1, e1, e2⟩ := hs d List.mem_cons_self ρ h
    rw [List.findSome?_cons]
    cases q : res d with
    | some v =>
      rw [q] at e2
      show forL t body (d :: ds) ρ S = _
      unfold forL
      rw [e1]
      show (match body ρ1 S with | .ok (.nx ρ') S' => forL t body ds ρ' S' | .ok (.ct ρ') S' => forL t body ds ρ' S' | .ok (.bk ρ') S' => .ok (.nx ρ') S' | .ok (.rt d) S' => .ok (.rt d) S' | .exc x ρ' S' => .exc x ρ' S' | .bad => .bad) = _
      rw [e2]
    | none =>
      rw [q] at e2
      obtain ⟨ρ', hp, e2⟩ := e2
      have ih := forL_find P res ds (fun d' hd => hs d' (List.mem_cons_of_mem _ hd)) ρ' hp
      have e3 : forL t body (d :: ds) ρ S = forL t body ds ρ' S := by
        conv => lhs; unfold forL
        rw [e1]
        show (match body ρ1 S with | .ok (.nx ρ') S' => forL t body ds ρ' S' | .ok (.ct ρ') S' => forL t body ds ρ' S' | .ok (.bk ρ') S' => .ok (.nx ρ') S' | .ok (.rt d) S' => .ok (.rt d) S' | .exc x ρ' S' => .exc x ρ' S' | .bad => .bad) = _
        rw [e2]
      rw [e3]
      exact ih
theorem rngD_mem {lo : Int} {n : Nat} {d : D} (h : d ∈ rngD lo n) : ∃ i : Nat, i < n ∧ d = .int (lo + i) := by
  unfold rngD at h
  obtain ⟨i, h1, h2⟩ := List.mem_map.mp h
  exact ⟨i, List.mem_range.mp h1, h2.symm⟩
theorem rng_find {α : Type} {lo : Int} {n : Nat} {f : D → Option α} : (rngD lo n).findSome? f = (List.range n).findSome? fun i => f (.int (lo + (i : Nat))) := by
  unfold rngD
  rw [List.findSome?_map]; rfl
theorem forL_inv {t : Tgt} {body : Sf} (P : Nv → Sto → Prop) : ∀ (ds : List DL.D), (∀ d ∈ ds, ∀ ρ S, P ρ S → ∃ ρ1, t (.p d) ρ = some ρ1 ∧ ∃ ρ' S', body ρ1 S = .ok (.nx ρ') S' ∧ P ρ' S') → ∀ ρ S, P ρ S → ∃ ρ' S', forL t body ds ρ S = .ok (.nx ρ') S' ∧ P ρ' S'
  | [], _, ρ, S, h => ⟨ρ, S, rfl, h⟩
  | d :: ds, hs, ρ, S, h => by
    obtain ⟨ρ1, e1, ρ2, S2, e2, h2⟩ := hs d List.mem_cons_self ρ S h
    obtain ⟨ρ', S', e3, h3⟩ := forL_inv P ds (fun d' hd => hs d' (List.mem_cons_of_mem _ hd)) ρ2 S2 h2
    refine ⟨ρ', S', ?_, h3⟩
    rw [← e3]
    conv => lhs; unfold forL
    rw [e1]
    show (match body ρ1 S with | .ok (.nx ρ') S' => forL t body ds ρ' S' | .ok (.ct ρ') S' => forL t body ds ρ' S' | .ok (.bk ρ') S' => .ok (.nx ρ') S' | .ok (.rt d) S' => .ok (.rt d) S' | .exc x ρ' S' => .exc x ρ' S' | .bad => .bad) = _
    rw [e2]
theorem e_sFor {it : If} {t : Tgt} {b : Sf} {ρ : Nv} {S : Sto} : sFor it t b ρ S = (it ρ S).toS ρ fun ds S' => forL t b ds ρ S' := rfl
theorem e_rng1 {f : Ef} {ρ : Nv} {S S1 : Sto} {j : Int} (h : f ρ S = .ok (.p (.int j)) S1) (hj : -1000000000000000000 ≤ j ∧ j < 1000000000000000000) : DL.iRng1 f ρ S = .ok (rngD 0 j.toNat) S1 := by
  unfold DL.iRng1
  rw [h]
  show (if rngOk 0 j = true then _ else _) = _
  rw [if_pos (by unfold rngOk; simp only [Bool.and_eq_true, decide_eq_true_eq]; omega)]
theorem e_rng2 {f g : Ef} {ρ : Nv} {S S1 S2 : Sto} {i j : Int} (h : f ρ S = .ok (.p (.int i)) S1) (h' : g ρ S1 = .ok (.p (.int j)) S2) (hi : -1000000000000000000 ≤ i ∧ i < 1000000000000000000) (hj : -1000000000000000000 ≤ j ∧ j < 1000000000000000000) : DL.iRng2 f g ρ S = .ok (rngD i (j - i).toNat) S2 := by
  unfold DL.iRng2
  rw [h]
  show ((g ρ S1).bind _) = _
  rw [h']
  show (if rngOk i j = true then _ else _) = _
  rw [if_pos (by unfold rngOk; simp only [Bool.and_eq_true, decide_eq_true_eq]; omega)]
theorem Dr.re {a b : Cell} {rest rest' : Sto} (h : Dr (a :: b :: rest) rest) : Dr (a :: b :: rest') rest' := by
  obtain ⟨st, idx, ns, e, hi, hl⟩ := h
  cases e
  exact ⟨st, idx, ns, rfl, hi, hl⟩
theorem Dr.rest {S rest rest' : Sto} (h : Dr S rest) : ∃ a b, S = a :: b :: rest ∧ Dr (a :: b :: rest') rest' := by
  obtain ⟨st, idx, ns, rfl, hi, hl⟩ := h
  exact ⟨_, _, rfl, st, idx, ns, rfl, hi, hl⟩
theorem mul_small {a b : Int} (h0 : 0 ≤ a) (h1 : a < 1000) : mulOk a b = true := mul_l (by omega)
theorem mul_small' {a b : Int} (h0 : 0 ≤ a) (h1 : a < 1000) : mulOk b a = true := mul_r (by omega)

/-! ### the program's looks at what it is given -/
def optI (o : Option Int) : DL.D := match o with
  | some x => .int x
  | none => .non
theorem e_isG {T : String} {f : Ef} {ρ : Nv} {S : Sto} : dIs T f ρ S = (f ρ S).bind fun d S1 => match tyOf S1 d with
  | some t => match kitB t T with
    | some b => .ok (.p (.bl b)) S1
    | none => .bad
  | none => .bad := rfl
theorem ty_i {S : Sto} {i : Int} : tyOf S (.p (.int i)) = some "int" := rfl
theorem ty_t {S : Sto} {i : List DL.D} : tyOf S (.p (.tup i)) = some "tuple" := rfl
theorem ty_l {S : Sto} {i : List DL.D} : tyOf S (.p (.lst i)) = some "list" := rfl
theorem kit_ii : kitB "int" "int" = some true := by decide +kernel
theorem kit_ib : kitB "int" "bool" = some false := by decide +kernel
theorem kit_tt : kitB "tuple" "tuple" = some true := by decide +kernel
theorem kit_ll : kitB "list" "list" = some true := by decide +kernel
theorem e_chain {op op' : Op2} {f g k : Ef} {ρ : Nv} {S : Sto} : dChain op op' f g k ρ S = (f ρ S).bind fun x S1 => (g ρ S1).bind fun y S2 => (op x y S2).bind fun z S3 => match z with
  | .p (.bl t) => if t = true then (k ρ S3).bind fun u S4 => op' y u S4 else .ok (.p (.bl false)) S3
  | _ => .bad := rfl
theorem is_integer_eq {v a b : Int} : m_is_integer [.int v, .int a, .int b] = .ok (.bl (decide (a ≤ v ∧ v ≤ b))) := by
  by_cases h : a ≤ v
  · simp only [m_is_integer, runP, init, b_is_integer, e_seq, e_seq_nx, e_seq_rt, e_seq_ite, e_bind, e_bind_ite, e_toS, e_toS_ite, e_set, e_ret, e_expr, e_nil, e_if, e_name, e_C, e_bin, e_un, e_ifx, e_aNil, e_aCons, e_call, e_cVal, e_cNot, e_cAnd, e_cOr, e_and, e_or, e_not, e_add, e_sub, e_lt, e_le, e_gt, e_ge, e_neg, e_eqi, e_nei, e_isN, e_notN, e_partsE, e_ixT0, e_ixT1, e_ixT2, e_ixT3, e_ixT4, e_ixL0, e_ixL1, e_ixL2, e_ixL3, e_ixL4, e_callP, e_callE, e_allP, e_allP0, e_tup, e_lst, e_par, List.map_cons, List.map_nil, List.append_assoc, List.nil_append, List.cons_append, List.replicate, List.getElem?_cons_zero, List.getElem?_cons_succ, List.set_cons_zero, List.set_cons_succ, Option.map_some, if_true, if_false, Bool.false_eq_true, decide_eq_true_eq, List.length_cons, List.length_nil, bg0, bg1, bg2, bg3, bg4, bg5, bg6, bg7, bg8, bg9, bg10, bg11, bg12, bg13, bg14, e_isG, e_chain, ty_i, kit_ii, kit_ib, Bool.not_false, h, decide_true, true_and]
  · simp only [m_is_integer, runP, init, b_is_integer, e_seq, e_seq_nx, e_seq_rt, e_seq_ite, e_bind, e_bind_ite, e_toS, e_toS_ite, e_set, e_ret, e_expr, e_nil, e_if, e_name, e_C, e_bin, e_un, e_ifx, e_aNil, e_aCons, e_call, e_cVal, e_cNot, e_cAnd, e_cOr, e_and, e_or, e_not, e_add, e_sub, e_lt, e_le, e_gt, e_ge, e_neg, e_eqi, e_nei, e_isN, e_notN, e_partsE, e_ixT0, e_ixT1, e_ixT2, e_ixT3, e_ixT4, e_ixL0, e_ixL1, e_ixL2, e_ixL3, e_ixL4, e_callP, e_callE, e_allP, e_allP0, e_tup, e_lst, e_par, List.map_cons, List.map_nil, List.append_assoc, List.nil_append, List.cons_append, List.replicate, List.getElem?_cons_zero, List.getElem?_cons_succ, List.set_cons_zero, List.set_cons_succ, Option.map_some, if_true, if_false, Bool.false_eq_true, decide_eq_true_eq, List.length_cons, List.length_nil, bg0, bg1, bg2, bg3, bg4, bg5, bg6, bg7, bg8, bg9, bg10, bg11, bg12, bg13, bg14, e_isG, e_chain, ty_i, kit_ii, kit_ib, Bool.not_false, h, decide_false, false_and]
theorem is_integer_in {v a b : Int} (h1 : a ≤ v) (h2 : v ≤ b) : m_is_integer [.int v, .int a, .int b] = .ok (.bl true) := by
  rw [is_integer_eq, decide_eq_true ⟨h1, h2⟩]
def seatBy (s : Str) (seats order : Int) : Int := if (s == "left") = true then order else if (s == "right") = true then seats - 1 - order else (seats - 1) / 2 + (if order % 2 = 1 then (order + 1) / 2 else -(order / 2))
theorem ord_in {s : Str} {seats seat : Int} (hs : s = "left" ∨ s = "right" ∨ s = "middle") (h0 : 0 ≤ seat) (h1 : seat < seats) : 0 ≤ ordOf s seats seat ∧ ordOf s seats seat < seats := by
  unfold ordOf
  rcases hs with rfl | rfl | rfl
  · simp only [s_ll, s_lr, s_lm, s_rl, s_rr, s_rm, s_ml, s_mr, s_mm, s_an, s_oo, s_aa, s_oa, s_ff, s_sf, s_kk, s_ka, s_ak, s_kv, e_eqs k_l k_l, e_eqs k_r k_l, e_eqs k_m k_l, e_eqs k_l k_r, e_eqs k_r k_r, e_eqs k_m k_r, e_eqs k_l k_m, e_eqs k_r k_m, e_eqs k_m k_m, e_eqs k_an k_on, e_eqs k_on k_on, e_eqs k_f k_f, e_eqs k_s k_f, e_eqs k_o k_o, e_eqs k_al k_o, e_eqs k_o k_al, e_eqs k_al k_al, if_true]; omega
  · simp only [s_ll, s_lr, s_lm, s_rl, s_rr, s_rm, s_ml, s_mr, s_mm, s_an, s_oo, s_aa, s_oa, s_ff, s_sf, s_kk, s_ka, s_ak, s_kv, e_eqs k_l k_l, e_eqs k_r k_l, e_eqs k_m k_l, e_eqs k_l k_r, e_eqs k_r k_r, e_eqs k_m k_r, e_eqs k_l k_m, e_eqs k_r k_m, e_eqs k_m k_m, e_eqs k_an k_on, e_eqs k_on k_on, e_eqs k_f k_f, e_eqs k_s k_f, e_eqs k_o k_o, e_eqs k_al k_o, e_eqs k_o k_al, e_eqs k_al k_al, if_true, if_false, Bool.false_eq_true]; omega
  · simp only [s_ll, s_lr, s_lm, s_rl, s_rr, s_rm, s_ml, s_mr, s_mm, s_an, s_oo, s_aa, s_oa, s_ff, s_sf, s_kk, s_ka, s_ak, s_kv, e_eqs k_l k_l, e_eqs k_r k_l, e_eqs k_m k_l, e_eqs k_l k_r, e_eqs k_r k_r, e_eqs k_m k_r, e_eqs k_l k_m, e_eqs k_r k_m, e_eqs k_m k_m, e_eqs k_an k_on, e_eqs k_on k_on, e_eqs k_f k_f, e_eqs k_s k_f, e_eqs k_o k_o, e_eqs k_al k_o, e_eqs k_o k_al, e_eqs k_al k_al, if_true, if_false, Bool.false_eq_true]; split <;> omega
theorem seat_in {s : Str} {seats seat : Int} (hs : s = "left" ∨ s = "right" ∨ s = "middle") (h0 : 0 ≤ seat) (h1 : seat < seats) : 0 ≤ seatBy s seats seat ∧ seatBy s seats seat < seats := by
  unfold seatBy
  rcases hs with rfl | rfl | rfl
  · simp only [s_ll, s_lr, s_lm, s_rl, s_rr, s_rm, s_ml, s_mr, s_mm, s_an, s_oo, s_aa, s_oa, s_ff, s_sf, s_kk, s_ka, s_ak, s_kv, e_eqs k_l k_l, e_eqs k_r k_l, e_eqs k_m k_l, e_eqs k_l k_r, e_eqs k_r k_r, e_eqs k_m k_r, e_eqs k_l k_m, e_eqs k_r k_m, e_eqs k_m k_m, e_eqs k_an k_on, e_eqs k_on k_on, e_eqs k_f k_f, e_eqs k_s k_f, e_eqs k_o k_o, e_eqs k_al k_o, e_eqs k_o k_al, e_eqs k_al k_al, if_true]; omega
  · simp only [s_ll, s_lr, s_lm, s_rl, s_rr, s_rm, s_ml, s_mr, s_mm, s_an, s_oo, s_aa, s_oa, s_ff, s_sf, s_kk, s_ka, s_ak, s_kv, e_eqs k_l k_l, e_eqs k_r k_l, e_eqs k_m k_l, e_eqs k_l k_r, e_eqs k_r k_r, e_eqs k_m k_r, e_eqs k_l k_m, e_eqs k_r k_m, e_eqs k_m k_m, e_eqs k_an k_on, e_eqs k_on k_on, e_eqs k_f k_f, e_eqs k_s k_f, e_eqs k_o k_o, e_eqs k_al k_o, e_eqs k_o k_al, e_eqs k_al k_al, if_true, if_false, Bool.false_eq_true]; omega
  · simp only [s_ll, s_lr, s_lm, s_rl, s_rr, s_rm, s_ml, s_mr, s_mm, s_an, s_oo, s_aa, s_oa, s_ff, s_sf, s_kk, s_ka, s_ak, s_kv, e_eqs k_l k_l, e_eqs k_r k_l, e_eqs k_m k_l, e_eqs k_l k_r, e_eqs k_r k_r, e_eqs k_m k_r, e_eqs k_l k_m, e_eqs k_r k_m, e_eqs k_m k_m, e_eqs k_an k_on, e_eqs k_on k_on, e_eqs k_f k_f, e_eqs k_s k_f, e_eqs k_o k_o, e_eqs k_al k_o, e_eqs k_o k_al, e_eqs k_al k_al, if_true, if_false, Bool.false_eq_true]; split <;> omega
theorem seat_ord {s : Str} {seats seat : Int} (hs : s = "left" ∨ s = "right" ∨ s = "middle") (h0 : 0 ≤ seat) (h1 : seat < seats) : seatBy s seats (ordOf s seats seat) = seat := by
  unfold ordOf seatBy
  rcases hs with rfl | rfl | rfl
  · simp only [s_ll, s_lr, s_lm, s_rl, s_rr, s_rm, s_ml, s_mr, s_mm, s_an, s_oo, s_aa, s_oa, s_ff, s_sf, s_kk, s_ka, s_ak, s_kv, e_eqs k_l k_l, e_eqs k_r k_l, e_eqs k_m k_l, e_eqs k_l k_r, e_eqs k_r k_r, e_eqs k_m k_r, e_eqs k_l k_m, e_eqs k_r k_m, e_eqs k_m k_m, e_eqs k_an k_on, e_eqs k_on k_on, e_eqs k_f k_f, e_eqs k_s k_f, e_eqs k_o k_o, e_eqs k_al k_o, e_eqs k_o k_al, e_eqs k_al k_al, if_true]
  · simp only [s_ll, s_lr, s_lm, s_rl, s_rr, s_rm, s_ml, s_mr, s_mm, s_an, s_oo, s_aa, s_oa, s_ff, s_sf, s_kk, s_ka, s_ak, s_kv, e_eqs k_l k_l, e_eqs k_r k_l, e_eqs k_m k_l, e_eqs k_l k_r, e_eqs k_r k_r, e_eqs k_m k_r, e_eqs k_l k_m, e_eqs k_r k_m, e_eqs k_m k_m, e_eqs k_an k_on, e_eqs k_on k_on, e_eqs k_f k_f, e_eqs k_s k_f, e_eqs k_o k_o, e_eqs k_al k_o, e_eqs k_o k_al, e_eqs k_al k_al, if_true, if_false, Bool.false_eq_true]; omega
  · simp only [s_ll, s_lr, s_lm, s_rl, s_rr, s_rm, s_ml, s_mr, s_mm, s_an, s_oo, s_aa, s_oa, s_ff, s_sf, s_kk, s_ka, s_ak, s_kv, e_eqs k_l k_l, e_eqs k_r k_l, e_eqs k_m k_l, e_eqs k_l k_r, e_eqs k_r k_r, e_eqs k_m k_r, e_eqs k_l k_m, e_eqs k_r k_m, e_eqs k_m k_m, e_eqs k_an k_on, e_eqs k_on k_on, e_eqs k_f k_f, e_eqs k_s k_f, e_eqs k_o k_o, e_eqs k_al k_o, e_eqs k_o k_al, e_eqs k_al k_al, if_true, if_false, Bool.false_eq_true]; repeat' split
    all_goals omega
theorem ord_seat {s : Str} {seats order : Int} (hs : s = "left" ∨ s = "right" ∨ s = "middle") (h0 : 0 ≤ order) (h1 : order < seats) : ordOf s seats (seatBy s seats order) = order := by
  unfold ordOf seatBy
  rcases hs with rfl | rfl | rfl
  · simp only [s_ll, s_lr, s_lm, s_rl, s_rr, s_rm, s_ml, s_mr, s_mm, s_an, s_oo, s_aa, s_oa, s_ff, s_sf, s_kk, s_ka, s_ak, s_kv, e_eqs k_l k_l, e_eqs k_r k_l, e_eqs k_m k_l, e_eqs k_l k_r, e_eqs k_r k_r, e_eqs k_m k_r, e_eqs k_l k_m, e_eqs k_r k_m, e_eqs k_m k_m, e_eqs k_an k_on, e_eqs k_on k_on, e_eqs k_f k_f, e_eqs k_s k_f, e_eqs k_o k_o, e_eqs k_al k_o, e_eqs k_o k_al, e_eqs k_al k_al, if_true]
  · simp only [s_ll, s_lr, s_lm, s_rl, s_rr, s_rm, s_ml, s_mr, s_mm, s_an, s_oo, s_aa, s_oa, s_ff, s_sf, s_kk, s_ka, s_ak, s_kv, e_eqs k_l k_l, e_eqs k_r k_l, e_eqs k_m k_l, e_eqs k_l k_r, e_eqs k_r k_r, e_eqs k_m k_r, e_eqs k_l k_m, e_eqs k_r k_m, e_eqs k_m k_m, e_eqs k_an k_on, e_eqs k_on k_on, e_eqs k_f k_f, e_eqs k_s k_f, e_eqs k_o k_o, e_eqs k_al k_o, e_eqs k_o k_al, e_eqs k_al k_al, if_true, if_false, Bool.false_eq_true]; omega
  · simp only [s_ll, s_lr, s_lm, s_rl, s_rr, s_rm, s_ml, s_mr, s_mm, s_an, s_oo, s_aa, s_oa, s_ff, s_sf, s_kk, s_ka, s_ak, s_kv, e_eqs k_l k_l, e_eqs k_r k_l, e_eqs k_m k_l, e_eqs k_l k_r, e_eqs k_r k_r, e_eqs k_m k_r, e_eqs k_l k_m, e_eqs k_r k_m, e_eqs k_m k_m, e_eqs k_an k_on, e_eqs k_on k_on, e_eqs k_f k_f, e_eqs k_s k_f, e_eqs k_o k_o, e_eqs k_al k_o, e_eqs k_o k_al, e_eqs k_al k_al, if_true, if_false, Bool.false_eq_true]; repeat' split
    all_goals omega
/-! ### comprehensions -/
theorem comp_map {t : Tgt} {el : Ef} {ρ : Nv} {S : Sto} (F : DL.D → DL.D) : ∀ {ds : List DL.D}, (∀ d ∈ ds, ∃ ρ1, t (.p d) ρ = some ρ1 ∧ el ρ1 S = .ok (.p (F d)) S) → compL t cYes el ρ ds S = .ok (ds.map F) S
  | [], _ => rfl
  | d :: ds, h => by
    obtain ⟨ρ1, e1, e2⟩ := h d List.mem_cons_self
    have ih := comp_map (t := t) (el := el) (ρ := ρ) (S := S) F (ds := ds) fun d' hd => h d' (List.mem_cons_of_mem _ hd)
    unfold compL
    rw [e1]
    show ((el ρ1 S).nox.bind _) = _
    rw [e2]
    show ((compL t cYes el ρ ds S).bind _) = _
    rw [ih]; rfl
theorem comp_run {t : Tgt} {el : Ef} {ρ : Nv} (P : Sto → Prop) (R : DL.D → Prop) : ∀ {ds : List DL.D} {S : Sto}, P S → (∀ d ∈ ds, ∃ ρ1, t (.p d) ρ = some ρ1 ∧ ∀ S, P S → ∃ d' S', el ρ1 S = .ok (.p d') S' ∧ R d' ∧ P S') → ∃ r S', compL t cYes el ρ ds S = .ok r S' ∧ P S' ∧ (∀ d ∈ r, R d) ∧ r.length = ds.length
  | [], S, p, _ => ⟨[], S, rfl, p, fun d hd => by (cases hd), rfl⟩
  | d :: ds, S, p, h => by
    obtain ⟨ρ1, e1, e2⟩ := h d List.mem_cons_self
    obtain ⟨d', S1, e3, r1, p1⟩ := e2 S p
    obtain ⟨r, S', e4, p4, r4, l4⟩ := comp_run (t := t) (el := el) (ρ := ρ) P R p1 fun d' hd => h d' (List.mem_cons_of_mem _ hd)
    refine ⟨d' :: r, S', ?_, p4, fun z hz => (List.mem_cons.mp hz).elim (fun e => e ▸ r1) (r4 z), by rw [List.length_cons, List.length_cons, l4]⟩
    unfold compL
    rw [e1]
    show ((el ρ1 S).nox.bind _) = _
    rw [e3]
    show ((compL t cYes el ρ ds S1).bind _) = _
    rw [e4]; rfl
theorem e_comp {vs : List Nat} {it : If} {t : Tgt} {el : Ef} {ρ : Nv} {S S1 S2 : Sto} {ds r : List DL.D} (h : it ρ S = .ok ds S1) (hl : ds.length ≤ big) (hc : compL t cYes el (wipeN ρ vs) ds S1 = .ok r S2) : dComp vs it t cYes el ρ S = .ok (.p (.lst r)) S2 := by
  unfold dComp
  rw [h]
  show (if ds.length ≤ big then _ else _) = _
  rw [if_pos hl, hc]; rfl
theorem ints_map : ∀ ns : List Int, intsOf (ns.map DL.D.int) = some ns
  | [] => rfl
  | n :: ns => by
    rw [List.map_cons]
    unfold intsOf
    rw [ints_map ns]; rfl
theorem bls_map : ∀ bs : List Bool, blsOf (bs.map DL.D.bl) = some bs
  | [] => rfl
  | n :: ns => by
    rw [List.map_cons]
    unfold blsOf
    rw [bls_map ns]; rfl
theorem all_map {bs : List Bool} {S : Sto} : nAll [.p (.lst (bs.map DL.D.bl))] S = .ok (.p (.bl (bs.all id))) S := by
  unfold nAll vw
  dsimp only
  rw [bls_map]
theorem maxL_map {m : Int} {r : List Int} {S : Sto} : nMaxL [.p (.lst ((m :: r).map DL.D.int))] S = .ok (.p (.int (maxI m r))) S := by
  unfold nMaxL vw
  dsimp only
  rw [ints_map]
theorem minL_map {m : Int} {r : List Int} {S : Sto} : nMinL [.p (.lst ((m :: r).map DL.D.int))] S = .ok (.p (.int (minI m r))) S := by
  unfold nMinL vw
  dsimp only
  rw [ints_map]
theorem maxL_cell {m : Int} {r : List Int} {S : Sto} : nMaxL [.hnd 0] (.lst ((m :: r).map DL.D.int) :: S) = .ok (.p (.int (maxI m r))) (.lst ((m :: r).map DL.D.int) :: S) := by
  unfold nMaxL vw
  dsimp only [List.getElem?_cons_zero]
  rw [ints_map]
theorem minL_cell {m : Int} {r : List Int} {S : Sto} : nMinL [.hnd 0] (.lst ((m :: r).map DL.D.int) :: S) = .ok (.p (.int (minI m r))) (.lst ((m :: r).map DL.D.int) :: S) := by
  unfold nMinL vw
  dsimp only [List.getElem?_cons_zero]
  rw [ints_map]
theorem len_set_map {ns : List Int} {S : Sto} (h : ns.length ≤ 4000) : nLenSet [.p (.lst (ns.map DL.D.int))] S = .ok (.p (.int (dd ns).length)) S := by
  unfold nLenSet vw
  dsimp only
  rw [ints_map]
  dsimp only
  rw [if_pos h]
/-! ### data that are compared -/
def PD (n : Nat) (d : DL.D) : Prop := ∃ e, toPy d = some e ∧ e.canLay0 = true ∧ e.depth ≤ n
def PDs (n : Nat) (ds : List DL.D) : Prop := ∃ es, toPys ds = some es ∧ PyData.canLayAll0 es = true ∧ PyData.depthAll es ≤ n
theorem PD.int {n : Nat} {i : Int} : PD n (.int i) := ⟨.int i, rfl, rfl, Nat.zero_le _⟩
theorem PD.bl {n : Nat} {b : Bool} : PD n (.bl b) := ⟨.bool b, rfl, rfl, Nat.zero_le _⟩
theorem PD.non {n : Nat} : PD n .non := ⟨.none, rfl, rfl, Nat.zero_le _⟩
theorem PD.str {n : Nat} {z : Str} (h : PyData.strOk z = true) : PD n (.str z) := ⟨.str z, rfl, h, Nat.zero_le _⟩
theorem PDs.of {n : Nat} : ∀ {ds : List DL.D}, (∀ d ∈ ds, PD n d) → PDs n ds
  | [], _ => ⟨[], rfl, rfl, Nat.zero_le _⟩
  | d :: ds, h => by
    obtain ⟨e, e1, e2, e3⟩ := h d List.mem_cons_self
    obtain ⟨es, f1, f2, f3⟩ := PDs.of (ds := ds) fun d' hd => h d' (List.mem_cons_of_mem _ hd)
    refine ⟨e :: es, ?_, ?_, ?_⟩
    · unfold toPys
      rw [e1, f1]
    · unfold PyData.canLayAll0
      rw [e2, f2]; rfl
    · unfold PyData.depthAll
      omega
theorem PD.lst {n : Nat} {ds : List DL.D} (h : ∀ d ∈ ds, PD n d) : PD (n + 1) (.lst ds) := by
  obtain ⟨es, f1, f2, f3⟩ := PDs.of h
  refine ⟨.list es, ?_, ?_, ?_⟩
  · unfold toPy
    rw [f1]
  · unfold PyData.canLay0
    exact f2
  · unfold PyData.depth
    omega
theorem PD.tup {n : Nat} {ds : List DL.D} (h : ∀ d ∈ ds, PD n d) : PD (n + 1) (.tup ds) := by
  obtain ⟨es, f1, f2, f3⟩ := PDs.of h
  refine ⟨.tuple es, ?_, ?_, ?_⟩
  · unfold toPy
    rw [f1]
  · unfold PyData.canLay0
    exact f2
  · unfold PyData.depth
    omega
theorem PD.le {n m : Nat} {d : DL.D} (h : PD n d) (k : n ≤ m) : PD m d := by
  obtain ⟨e, a, b, c⟩ := h
  exact ⟨e, a, b, Nat.le_trans c k⟩
theorem eq_self {n : Nat} {d : DL.D} (h : PD n d) (hn : n ≤ 64) {S : Sto} : oEq (.p d) (.p d) S = .ok (.p (.bl true)) S := by
  obtain ⟨e, e1, e2, e3⟩ := h
  have sh : SeqAt.shaped e = true := by
    unfold SeqAt.shaped
    rw [e2, decide_eq_true (Nat.le_trans e3 hn)]; rfl
  unfold oEq vPy
  dsimp only
  rw [e1]
  dsimp only
  rw [if_pos ⟨sh, sh⟩, SeqAt.eqv_refl e e2]
theorem ne_self {n : Nat} {d : DL.D} (h : PD n d) (hn : n ≤ 64) {S : Sto} : oNe (.p d) (.p d) S = .ok (.p (.bl false)) S := by
  obtain ⟨e, e1, e2, e3⟩ := h
  have sh : SeqAt.shaped e = true := by
    unfold SeqAt.shaped
    rw [e2, decide_eq_true (Nat.le_trans e3 hn)]; rfl
  unfold oNe vPy
  dsimp only
  rw [e1]
  dsimp only
  rw [if_pos ⟨sh, sh⟩, SeqAt.eqv_refl e e2]; rfl

/-! ### tickets -/
structure Tk where
  rows : Int
  seats : Int
  row : Int
  seat : Int
  num : Int
structure Tk.ok (t : Tk) : Prop where
  r1 : 1 ≤ t.rows
  r2 : t.rows ≤ 1000000
  s1 : 1 ≤ t.seats
  s2 : t.seats ≤ 1000000
  a : 0 ≤ t.row
  b : t.row < t.rows
  c : 0 ≤ t.seat
  d : t.seat < t.seats
  n1 : 1 ≤ t.num
  n2 : t.num ≤ 1000000000000000000000000000000
def tkD (t : Tk) : DL.D := .tup [.int t.rows, .int t.seats, .int t.row, .int t.seat, .int t.num]
def fit (r : Ru) (t : Tk) : Bool := ownNum r t.seats t.row t.seat == t.num
theorem is_ticket_ok {t : Tk} (h : t.ok) : m_is_ticket [tkD t] = .ok (.bl true) := by
  have e0 : ∀ (x : List (Option Dv)), dIs "tuple" (dName 0) (some (.p (tkD t)) :: x) [] = .ok (.p (.bl true)) [] := fun x => rfl
  have e1 : nLen [.p (tkD t)] [] = .ok (.p (.int 5)) [] := rfl
  have e2 := is_integer_in (v := t.rows) (a := 1) (b := 1000000) h.r1 h.r2
  have e3 := is_integer_in (v := t.seats) (a := 1) (b := 1000000) h.s1 h.s2
  have e4 := is_integer_in (v := t.row) (a := 0) (b := t.rows - 1) h.a (by have := h.b; omega)
  have e5 := is_integer_in (v := t.seat) (a := 0) (b := t.seats - 1) h.c (by have := h.d; omega)
  have e6 := is_integer_in (v := t.num) (a := 1) (b := 1000000000000000000000000000000) h.n1 h.n2
  have e7 : gT 5 (gsCons (gN 1) (gsCons (gN 2) (gsCons (gN 3) (gsCons (gN 4) (gsCons (gN 5) gsNil))))) (.p (tkD t)) [some (.p (tkD t)), none, none, none, none, none] = some [some (.p (tkD t)), some (.p (.int t.rows)), some (.p (.int t.seats)), some (.p (.int t.row)), some (.p (.int t.seat)), some (.p (.int t.num))] := rfl
  generalize tkD t = td at *
  simp only [m_is_ticket, runP, init, b_is_ticket, e_seq, e_seq_nx, e_seq_rt, e_seq_ite, e_bind, e_bind_ite, e_toS, e_toS_ite, e_set, e_ret, e_expr, e_nil, e_if, e_name, e_C, e_bin, e_un, e_ifx, e_aNil, e_aCons, e_call, e_cVal, e_cNot, e_cAnd, e_cOr, e_and, e_or, e_not, e_add, e_sub, e_lt, e_le, e_gt, e_ge, e_neg, e_eqi, e_nei, e_isN, e_notN, e_partsE, e_ixT0, e_ixT1, e_ixT2, e_ixT3, e_ixT4, e_ixL0, e_ixL1, e_ixL2, e_ixL3, e_ixL4, e_callP, e_callE, e_allP, e_allP0, e_tup, e_lst, e_par, List.map_cons, List.map_nil, List.append_assoc, List.nil_append, List.cons_append, List.replicate, List.getElem?_cons_zero, List.getElem?_cons_succ, List.set_cons_zero, List.set_cons_succ, Option.map_some, if_true, if_false, Bool.false_eq_true, decide_eq_true_eq, List.length_cons, List.length_nil, bg0, bg1, bg2, bg3, bg4, bg5, bg6, bg7, bg8, bg9, bg10, bg11, bg12, bg13, bg14, e0, e1, Bool.not_true, beq_self_eq_true, sAsg, e7, e2, e3, e4, e5, e6]
theorem enumD_mem : ∀ {n : Nat} {ds : List DL.D} {d : DL.D}, d ∈ enumD n ds → ∃ (i : Int) (x : DL.D), x ∈ ds ∧ d = .tup [.int i, x]
  | _, [], _, h => by cases h
  | n, x :: ds, d, h => by
    unfold enumD at h
    rcases List.mem_cons.mp h with rfl | h
    · exact ⟨_, x, List.mem_cons_self, rfl⟩
    · obtain ⟨i, y, hy, e⟩ := enumD_mem h
      exact ⟨i, y, List.mem_cons_of_mem _ hy, e⟩
def isC (c : DL.D) (ds : List DL.D) : Prop := c = .lst ds ∨ c = .tup ds
theorem seq_C {c : DL.D} {ds : List DL.D} (h : isC c ds) {f : Ef} {ρ : Nv} {S S1 : Sto} (hf : f ρ S = .ok (.p c) S1) : iSeq f ρ S = .ok ds S1 := by
  unfold iSeq
  rw [hf]
  rcases h with rfl | rfl <;> rfl
theorem enum_C {c : DL.D} {ds : List DL.D} (h : isC c ds) {f : Ef} {ρ : Nv} {S S1 : Sto} (hf : f ρ S = .ok (.p c) S1) : iEnumX f ρ S = .ok (enumD 0 ds) S1 := by
  unfold iEnumX
  rw [hf]
  rcases h with rfl | rfl <;> rfl
theorem look_tickets {c : DL.D} {ts : List Tk} (h : ∀ t ∈ ts, t.ok) (hc : isC c (ts.map tkD)) : m_look_at_tickets [c] = .ok .non := by
  obtain ⟨ρ', S', e, rfl, _⟩ := forL_inv (t := gT 2 (gsCons (gN 1) (gsCons (gN 2) gsNil))) (body := (sIf (cNot (cVal (dCallP m_is_ticket (aCons (dName 2) aNil)))) (sRaiseA 0 1 (aCons (dName 1) aNil)) sNil)) (fun ρ S => S = [] ∧ ∃ x1 x2, ρ = [some (.p c), x1, x2]) (enumD 0 (ts.map tkD)) (fun d hd ρ S hP => by
    obtain ⟨rfl, x1, x2, rfl⟩ := hP
    obtain ⟨i, x, hx, rfl⟩ := enumD_mem hd
    obtain ⟨t, ht, rfl⟩ := List.mem_map.mp hx
    refine ⟨[some (.p c), some (.p (.int i)), some (.p (tkD t))], rfl, [some (.p c), some (.p (.int i)), some (.p (tkD t))], [], ?_, rfl, _, _, rfl⟩
    have q := is_ticket_ok (h t ht)
    simp only [e_seq, e_seq_nx, e_seq_rt, e_seq_ite, e_bind, e_bind_ite, e_toS, e_toS_ite, e_set, e_ret, e_expr, e_nil, e_if, e_name, e_C, e_bin, e_un, e_ifx, e_aNil, e_aCons, e_call, e_cVal, e_cNot, e_cAnd, e_cOr, e_and, e_or, e_not, e_add, e_sub, e_lt, e_le, e_gt, e_ge, e_neg, e_eqi, e_nei, e_isN, e_notN, e_partsE, e_ixT0, e_ixT1, e_ixT2, e_ixT3, e_ixT4, e_ixL0, e_ixL1, e_ixL2, e_ixL3, e_ixL4, e_callP, e_callE, e_allP, e_allP0, e_tup, e_lst, e_par, List.map_cons, List.map_nil, List.append_assoc, List.nil_append, List.cons_append, List.replicate, List.getElem?_cons_zero, List.getElem?_cons_succ, List.set_cons_zero, List.set_cons_succ, Option.map_some, if_true, if_false, Bool.false_eq_true, decide_eq_true_eq, List.length_cons, List.length_nil, bg0, bg1, bg2, bg3, bg4, bg5, bg6, bg7, bg8, bg9, bg10, bg11, bg12, bg13, bg14, q, Bool.not_true]) [some (.p c), none, none] [] ⟨rfl, _, _, rfl⟩
  have e1 : ∀ x y, iEnumX (dName 0) [some (.p c), x, y] [] = .ok (enumD 0 (ts.map tkD)) [] := fun x y => enum_C hc rfl
  simp only [m_look_at_tickets, runP, init, b_look_at_tickets, e_sFor, e_seq, e_seq_nx, e_seq_rt, e_seq_ite, e_bind, e_bind_ite, e_toS, e_toS_ite, e_set, e_ret, e_expr, e_nil, e_if, e_name, e_C, e_bin, e_un, e_ifx, e_aNil, e_aCons, e_call, e_cVal, e_cNot, e_cAnd, e_cOr, e_and, e_or, e_not, e_add, e_sub, e_lt, e_le, e_gt, e_ge, e_neg, e_eqi, e_nei, e_isN, e_notN, e_partsE, e_ixT0, e_ixT1, e_ixT2, e_ixT3, e_ixT4, e_ixL0, e_ixL1, e_ixL2, e_ixL3, e_ixL4, e_callP, e_callE, e_allP, e_allP0, e_tup, e_lst, e_par, List.map_cons, List.map_nil, List.append_assoc, List.nil_append, List.cons_append, List.replicate, List.getElem?_cons_zero, List.getElem?_cons_succ, List.set_cons_zero, List.set_cons_succ, Option.map_some, if_true, if_false, Bool.false_eq_true, decide_eq_true_eq, List.length_cons, List.length_nil, bg0, bg1, bg2, bg3, bg4, bg5, bg6, bg7, bg8, bg9, bg10, bg11, bg12, bg13, bg14, e1, e]
theorem look_bad_loop {c odd : DL.D} (ho : m_is_ticket [odd] = .ok (.bl false)) {rest : List DL.D} : ∀ (ts : List Tk) (n : Nat) (x1 x2 : Option Dv), (∀ t ∈ ts, t.ok) →
    ∃ ρ', forL (gT 2 (gsCons (gN 1) (gsCons (gN 2) gsNil))) (sIf (cNot (cVal (dCallP m_is_ticket (aCons (dName 2) aNil)))) (sRaiseA 0 1 (aCons (dName 1) aNil)) sNil) (enumD n (ts.map tkD ++ odd :: rest)) [some (.p c), x1, x2] [] = .exc ⟨0, [.int ((n + ts.length : Nat) : Int)]⟩ ρ' []
  | [], n, x1, x2, _ => by
    refine ⟨[some (.p c), some (.p (.int (n : Nat))), some (.p odd)], ?_⟩
    show forL _ _ (DL.D.tup [.int (n : Nat), odd] :: enumD (n + 1) rest) _ _ = _
    have e : (sIf (cNot (cVal (dCallP m_is_ticket (aCons (dName 2) aNil)))) (sRaiseA 0 1 (aCons (dName 1) aNil)) sNil) [some (.p c), some (.p (.int (n : Nat))), some (.p odd)] [] = .exc ⟨0, [.int (n : Nat)]⟩ [some (.p c), some (.p (.int (n : Nat))), some (.p odd)] [] := by
      simp only [e_seq, e_seq_nx, e_seq_rt, e_seq_ite, e_bind, e_bind_ite, e_toS, e_toS_ite, e_set, e_ret, e_expr, e_nil, e_if, e_name, e_C, e_bin, e_un, e_ifx, e_aNil, e_aCons, e_call, e_cVal, e_cNot, e_cAnd, e_cOr, e_and, e_or, e_not, e_add, e_sub, e_lt, e_le, e_gt, e_ge, e_neg, e_eqi, e_nei, e_isN, e_notN, e_partsE, e_ixT0, e_ixT1, e_ixT2, e_ixT3, e_ixT4, e_ixL0, e_ixL1, e_ixL2, e_ixL3, e_ixL4, e_callP, e_callE, e_allP, e_allP0, e_tup, e_lst, e_par, List.map_cons, List.map_nil, List.append_assoc, List.nil_append, List.cons_append, List.replicate, List.getElem?_cons_zero, List.getElem?_cons_succ, List.set_cons_zero, List.set_cons_succ, Option.map_some, if_true, if_false, Bool.false_eq_true, decide_eq_true_eq, List.length_cons, List.length_nil, bg0, bg1, bg2, bg3, bg4, bg5, bg6, bg7, bg8, bg9, bg10, bg11, bg12, bg13, bg14, ho, Bool.not_false, sRaiseA]
      rfl
    unfold forL
    show (match (sIf _ _ _) [some (.p c), some (.p (.int (n : Nat))), some (.p odd)] [] with | .ok (.nx ρ') S' => _ | .ok (.ct ρ') S' => _ | .ok (.bk ρ') S' => _ | .ok (.rt d) S' => _ | .exc x ρ' S' => _ | .bad => _) = _
    rw [e]
    rfl
  | t :: ts, n, x1, x2, h => by
    obtain ⟨ρ', ih⟩ := look_bad_loop ho (rest := rest) ts (n + 1) (some (.p (.int (n : Nat)))) (some (.p (tkD t))) fun t' h' => h t' (List.mem_cons_of_mem _ h')
    refine ⟨ρ', ?_⟩
    rw [show n + (t :: ts).length = n + 1 + ts.length by rw [List.length_cons]; omega, ← ih]
    have q := is_ticket_ok (h t List.mem_cons_self)
    show forL _ _ (DL.D.tup [.int (n : Nat), tkD t] :: enumD (n + 1) (ts.map tkD ++ odd :: rest)) _ _ = _
    have e : (sIf (cNot (cVal (dCallP m_is_ticket (aCons (dName 2) aNil)))) (sRaiseA 0 1 (aCons (dName 1) aNil)) sNil) [some (.p c), some (.p (.int (n : Nat))), some (.p (tkD t))] [] = .ok (.nx [some (.p c), some (.p (.int (n : Nat))), some (.p (tkD t))]) [] := by
      simp only [e_seq, e_seq_nx, e_seq_rt, e_seq_ite, e_bind, e_bind_ite, e_toS, e_toS_ite, e_set, e_ret, e_expr, e_nil, e_if, e_name, e_C, e_bin, e_un, e_ifx, e_aNil, e_aCons, e_call, e_cVal, e_cNot, e_cAnd, e_cOr, e_and, e_or, e_not, e_add, e_sub, e_lt, e_le, e_gt, e_ge, e_neg, e_eqi, e_nei, e_isN, e_notN, e_partsE, e_ixT0, e_ixT1, e_ixT2, e_ixT3, e_ixT4, e_ixL0, e_ixL1, e_ixL2, e_ixL3, e_ixL4, e_callP, e_callE, e_allP, e_allP0, e_tup, e_lst, e_par, List.map_cons, List.map_nil, List.append_assoc, List.nil_append, List.cons_append, List.replicate, List.getElem?_cons_zero, List.getElem?_cons_succ, List.set_cons_zero, List.set_cons_succ, Option.map_some, if_true, if_false, Bool.false_eq_true, decide_eq_true_eq, List.length_cons, List.length_nil, bg0, bg1, bg2, bg3, bg4, bg5, bg6, bg7, bg8, bg9, bg10, bg11, bg12, bg13, bg14, q, Bool.not_true]
    conv => lhs; unfold forL
    show (match (sIf _ _ _) [some (.p c), some (.p (.int (n : Nat))), some (.p (tkD t))] [] with | .ok (.nx ρ') S' => _ | .ok (.ct ρ') S' => _ | .ok (.bk ρ') S' => _ | .ok (.rt d) S' => _ | .exc x ρ' S' => _ | .bad => _) = _
    rw [e]
theorem look_bad {c odd : DL.D} (ho : m_is_ticket [odd] = .ok (.bl false)) {ts : List Tk} {rest : List DL.D} (h : ∀ t ∈ ts, t.ok) (hc : isC c (ts.map tkD ++ odd :: rest)) : m_look_at_tickets [c] = .exc ⟨0, [.int (ts.length : Nat)]⟩ := by
  obtain ⟨ρ', e⟩ := look_bad_loop (c := c) ho (rest := rest) ts 0 none none h
  have e1 : ∀ x y, iEnumX (dName 0) [some (.p c), x, y] [] = .ok (enumD 0 (ts.map tkD ++ odd :: rest)) [] := fun x y => enum_C hc rfl
  rw [Nat.zero_add] at e
  simp only [m_look_at_tickets, runP, init, b_look_at_tickets, e_sFor, e_seq, e_seq_nx, e_seq_rt, e_seq_ite, e_bind, e_bind_ite, e_toS, e_toS_ite, e_set, e_ret, e_expr, e_nil, e_if, e_name, e_C, e_bin, e_un, e_ifx, e_aNil, e_aCons, e_call, e_cVal, e_cNot, e_cAnd, e_cOr, e_and, e_or, e_not, e_add, e_sub, e_lt, e_le, e_gt, e_ge, e_neg, e_eqi, e_nei, e_isN, e_notN, e_partsE, e_ixT0, e_ixT1, e_ixT2, e_ixT3, e_ixT4, e_ixL0, e_ixL1, e_ixL2, e_ixL3, e_ixL4, e_callP, e_callE, e_allP, e_allP0, e_tup, e_lst, e_par, List.map_cons, List.map_nil, List.append_assoc, List.nil_append, List.cons_append, List.replicate, List.getElem?_cons_zero, List.getElem?_cons_succ, List.set_cons_zero, List.set_cons_succ, Option.map_some, if_true, if_false, Bool.false_eq_true, decide_eq_true_eq, List.length_cons, List.length_nil, bg0, bg1, bg2, bg3, bg4, bg5, bg6, bg7, bg8, bg9, bg10, bg11, bg12, bg13, bg14, e1, e]
/-! ### which rules fit -/

theorem tks_of : ∀ {l : List DL.D}, (∀ d ∈ l, ∃ t : Tk, t.ok ∧ d = tkD t) → ∃ ts : List Tk, l = ts.map tkD ∧ ∀ t ∈ ts, t.ok
  | [], _ => ⟨[], rfl, fun t h => by cases h⟩
  | d :: l, h => by
    obtain ⟨t, ht, rfl⟩ := h d List.mem_cons_self
    obtain ⟨ts, rfl, hts⟩ := tks_of (l := l) fun d hd => h d (List.mem_cons_of_mem _ hd)
    exact ⟨t :: ts, rfl, fun t' h' => (List.mem_cons.mp h').elim (fun z => z ▸ ht) (hts t')⟩

theorem comp_filter {t : Tgt} {cf : Tf} {el : Ef} {ρ : Nv} {S : Sto} (p : DL.D → Bool) (F : DL.D → DL.D) : ∀ {ds : List DL.D}, (∀ d ∈ ds, ∃ ρ1, t (.p d) ρ = some ρ1 ∧ cf ρ1 S = .ok (p d) S ∧ (p d = true → el ρ1 S = .ok (.p (F d)) S)) → compL t cf el ρ ds S = .ok ((ds.filter p).map F) S
  | [], _ => rfl
  | d :: ds, h => by
    obtain ⟨ρ1, e1, e2, e3⟩ := h d List.mem_cons_self
    have ih := comp_filter (t := t) (cf := cf) (el := el) (ρ := ρ) (S := S) p F (ds := ds) fun d' hd => h d' (List.mem_cons_of_mem _ hd)
    unfold compL
    rw [e1]
    show ((cf ρ1 S).nox.bind _) = _
    rw [e2]
    cases hp : p d with
    | false =>
      show compL t cf el ρ ds S = _
      rw [ih, List.filter_cons_of_neg (by rw [hp]; exact Bool.false_ne_true)]
    | true =>
      show ((el ρ1 S).nox.bind _) = _
      rw [e3 hp, List.filter_cons_of_pos hp]
      show ((compL t cf el ρ ds S).bind _) = _
      rw [ih]; rfl
theorem e_compF {vs : List Nat} {it : If} {t : Tgt} {cf : Tf} {el : Ef} {ρ : Nv} {S S1 S2 : Sto} {ds r : List DL.D} (h : it ρ S = .ok ds S1) (hl : ds.length ≤ big) (hc : compL t cf el (wipeN ρ vs) ds S1 = .ok r S2) : dComp vs it t cf el ρ S = .ok (.p (.lst r)) S2 := by
  unfold dComp
  rw [h]
  show (if ds.length ≤ big then _ else _) = _
  rw [if_pos hl, hc]; rfl

/-! ### how great numbers get -/
theorem pl_lo {r : Ru} (hr : r.ok) {seats row seat : Int} (a : 0 ≤ row) (c : 0 ≤ seat) (d : seat < seats) : 0 ≤ placeOf r seats row seat := by
  have hrow : 0 ≤ row * seats := Int.mul_nonneg a (by omega)
  have oi : ∀ q, 0 ≤ q → q < seats → 0 ≤ ordOf r.s seats q := fun q q0 q1 => by
    unfold ordOf
    rcases hr.hs with h | h | h <;> rw [h]
    · simp only [s_ll, s_lr, s_lm, s_rl, s_rr, s_rm, s_ml, s_mr, s_mm, s_an, s_oo, s_aa, s_oa, s_ff, s_sf, s_kk, s_ka, s_ak, s_kv, e_eqs k_l k_l, e_eqs k_r k_l, e_eqs k_m k_l, e_eqs k_l k_r, e_eqs k_r k_r, e_eqs k_m k_r, e_eqs k_l k_m, e_eqs k_r k_m, e_eqs k_m k_m, e_eqs k_an k_on, e_eqs k_on k_on, e_eqs k_f k_f, e_eqs k_s k_f, e_eqs k_o k_o, e_eqs k_al k_o, e_eqs k_o k_al, e_eqs k_al k_al, if_true]; omega
    · simp only [s_ll, s_lr, s_lm, s_rl, s_rr, s_rm, s_ml, s_mr, s_mm, s_an, s_oo, s_aa, s_oa, s_ff, s_sf, s_kk, s_ka, s_ak, s_kv, e_eqs k_l k_l, e_eqs k_r k_l, e_eqs k_m k_l, e_eqs k_l k_r, e_eqs k_r k_r, e_eqs k_m k_r, e_eqs k_l k_m, e_eqs k_r k_m, e_eqs k_m k_m, e_eqs k_an k_on, e_eqs k_on k_on, e_eqs k_f k_f, e_eqs k_s k_f, e_eqs k_o k_o, e_eqs k_al k_o, e_eqs k_o k_al, e_eqs k_al k_al, if_true, if_false, Bool.false_eq_true]; omega
    · simp only [s_ll, s_lr, s_lm, s_rl, s_rr, s_rm, s_ml, s_mr, s_mm, s_an, s_oo, s_aa, s_oa, s_ff, s_sf, s_kk, s_ka, s_ak, s_kv, e_eqs k_l k_l, e_eqs k_r k_l, e_eqs k_m k_l, e_eqs k_l k_r, e_eqs k_r k_r, e_eqs k_m k_r, e_eqs k_l k_m, e_eqs k_r k_m, e_eqs k_m k_m, e_eqs k_an k_on, e_eqs k_on k_on, e_eqs k_f k_f, e_eqs k_s k_f, e_eqs k_o k_o, e_eqs k_al k_o, e_eqs k_o k_al, e_eqs k_al k_al, if_true, if_false, Bool.false_eq_true]; split <;> omega
  unfold placeOf
  have q1 := oi seat c d
  have q2 := oi (seats - 1 - seat) (by omega) (by omega)
  split <;> split <;> omega
theorem num_top {o p : Int} {k : Str} (ho : okO o) (h0 : 0 ≤ p) : numAt o k p ≤ 2 * p + 2 := by
  unfold numAt
  unfold okO at ho
  split
  · omega
  · split
    · have : p / (o - 1) ≤ p := by
        have := Int.ediv_le_ediv (a := p) (b := p) (c := o - 1) (by omega) (Int.le_refl _)
        exact Int.ediv_le_self _ h0
      omega
    · split <;> omega
theorem pl_hi {r : Ru} (hr : r.ok) {seats row seat : Int} (a : 0 ≤ row) (c : 0 ≤ seat) (d : seat < seats) : placeOf r seats row seat ≤ 2 * seats + row * seats := by
  have hrow : 0 ≤ row * seats := Int.mul_nonneg a (by omega)
  have oi : ∀ q, 0 ≤ q → q < seats → ordOf r.s seats q ≤ 2 * seats := fun q q0 q1 => by
    unfold ordOf
    rcases hr.hs with h | h | h <;> rw [h]
    · simp only [s_ll, s_lr, s_lm, s_rl, s_rr, s_rm, s_ml, s_mr, s_mm, s_an, s_oo, s_aa, s_oa, s_ff, s_sf, s_kk, s_ka, s_ak, s_kv, e_eqs k_l k_l, e_eqs k_r k_l, e_eqs k_m k_l, e_eqs k_l k_r, e_eqs k_r k_r, e_eqs k_m k_r, e_eqs k_l k_m, e_eqs k_r k_m, e_eqs k_m k_m, e_eqs k_an k_on, e_eqs k_on k_on, e_eqs k_f k_f, e_eqs k_s k_f, e_eqs k_o k_o, e_eqs k_al k_o, e_eqs k_o k_al, e_eqs k_al k_al, if_true]; omega
    · simp only [s_ll, s_lr, s_lm, s_rl, s_rr, s_rm, s_ml, s_mr, s_mm, s_an, s_oo, s_aa, s_oa, s_ff, s_sf, s_kk, s_ka, s_ak, s_kv, e_eqs k_l k_l, e_eqs k_r k_l, e_eqs k_m k_l, e_eqs k_l k_r, e_eqs k_r k_r, e_eqs k_m k_r, e_eqs k_l k_m, e_eqs k_r k_m, e_eqs k_m k_m, e_eqs k_an k_on, e_eqs k_on k_on, e_eqs k_f k_f, e_eqs k_s k_f, e_eqs k_o k_o, e_eqs k_al k_o, e_eqs k_o k_al, e_eqs k_al k_al, if_true, if_false, Bool.false_eq_true]; omega
    · simp only [s_ll, s_lr, s_lm, s_rl, s_rr, s_rm, s_ml, s_mr, s_mm, s_an, s_oo, s_aa, s_oa, s_ff, s_sf, s_kk, s_ka, s_ak, s_kv, e_eqs k_l k_l, e_eqs k_r k_l, e_eqs k_m k_l, e_eqs k_l k_r, e_eqs k_r k_r, e_eqs k_m k_r, e_eqs k_l k_m, e_eqs k_r k_m, e_eqs k_m k_m, e_eqs k_an k_on, e_eqs k_on k_on, e_eqs k_f k_f, e_eqs k_s k_f, e_eqs k_o k_o, e_eqs k_al k_o, e_eqs k_o k_al, e_eqs k_al k_al, if_true, if_false, Bool.false_eq_true]; split <;> omega
  unfold placeOf
  have q1 := oi seat c d
  have q2 := oi (seats - 1 - seat) (by omega) (by omega)
  split <;> split <;> omega
theorem num_pos {o p : Int} {k : Str} (ho : okO o) (h0 : 0 ≤ p) : 1 ≤ numAt o k p := by
  unfold numAt
  unfold okO at ho
  split
  · omega
  · split
    · have : 0 ≤ p / (o - 1) := Int.ediv_nonneg h0 (by omega)
      omega
    · split <;> omega

/-! ### changes of points -/
inductive Cg
  | s (z : Str) | r (z : Str) | w (z : Str) | o (i : Int) | k (z : Str)
def Cg.ok : Cg → Prop
  | .s z => z = "left" ∨ z = "right" ∨ z = "middle"
  | .r z => z = "anew" ∨ z = "on"
  | .w z => z = "same" ∨ z = "fro"
  | .o i => okO i
  | .k z => z = "once" ∨ z = "always"
def Cg.pt : Cg → Str
  | .s _ => "start" | .r _ => "rows" | .w _ => "ways" | .o _ => "out" | .k _ => "kind"
def Cg.val : Cg → DL.D
  | .s z => .str z | .r z => .str z | .w z => .str z | .o i => .int i | .k z => .str z
def cgD (c : Cg) : DL.D := .tup [.str c.pt, c.val]
def csD (cs : List Cg) : DL.D := .tup (cs.map cgD)
def Ru.set (q : Ru) : Cg → Ru
  | .s z => ⟨z, q.r, q.w, q.o, q.k⟩
  | .r z => ⟨q.s, z, q.w, q.o, q.k⟩
  | .w z => ⟨q.s, q.r, z, q.o, q.k⟩
  | .o i => ⟨q.s, q.r, q.w, i, q.k⟩
  | .k z => ⟨q.s, q.r, q.w, q.o, z⟩
theorem Ru.set_ok {q : Ru} (h : q.ok) {c : Cg} (hc : c.ok) : (q.set c).ok := by
  cases c with
  | s z => exact ⟨hc, h.hr, h.hw, h.ho, h.hk⟩
  | r z => exact ⟨h.hs, hc, h.hw, h.ho, h.hk⟩
  | w z => exact ⟨h.hs, h.hr, hc, h.ho, h.hk⟩
  | o i => exact ⟨h.hs, h.hr, h.hw, hc, h.hk⟩
  | k z => exact ⟨h.hs, h.hr, h.hw, h.ho, hc⟩
def Ru.sets (q : Ru) (cs : List Cg) : Ru := cs.foldl Ru.set q
def Gd (cs : List Cg) : Prop := ∀ c ∈ cs, c.ok
theorem Ru.sets_ok : ∀ {cs : List Cg} {q : Ru}, q.ok → Gd cs → (q.sets cs).ok
  | [], _, h, _ => h
  | c :: cs, _, h, g => Ru.sets_ok (cs := cs) (Ru.set_ok h (g c List.mem_cons_self)) fun d hd => g d (List.mem_cons_of_mem _ hd)
theorem make_ru {q : Ru} (h : q.ok) {S : Sto} : makeOf m_Rule_init (ruD q) S = .ok (.p (.rul (ruD q))) S := by
  have e := init_eq h
  unfold makeOf
  show (match m_Rule_init [.hnd 0, .p (.str q.s), .p (.str q.r), .p (.str q.w), .p (.int q.o), .p (.str q.k)] [.raw 1, .dead] with
  | .ok (.p .non) [.slt 1 es, .dead] => Out.ok (Dv.p (DL.D.rul es)) S
  | .exc x _ => .exc x S
  | _ => .bad) = _
  rw [e]
  rfl
theorem e_makeS {n : Nat} {m : List Dv → Sto → Out Dv} {f : Ef} {ρ : Nv} {S : Sto} : dMakeS n m f ρ S = (f ρ S).bind fun d S1 => match sqOf S1 d with
  | some ds => if ds.length = n then makeOf m ds S1 else .bad
  | none => .bad := rfl
theorem own_turned_eq {q : Ru} (h : q.ok) {c : Cg} (hc : c.ok) : m_own_turned [.rul (ruD q), .str c.pt, c.val] = .ok (.rul (ruD (q.set c))) := by
  have e1 : dComp [4, 5] (iZip (dC (.tup t_POINTS)) (dParts (dName 0))) (gT 2 (gsCons (gN 4) (gsCons (gN 5) gsNil))) cYes (dIf (cVal (dBin oEq (dName 4) (dName 1))) (dName 2) (dName 5)) [some (.p (.rul (ruD q))), some (.p (.str c.pt)), some (.p c.val), none, none, none] [] = .ok (.p (.lst (ruD (q.set c)))) [] := by
    obtain ⟨s, r, w, o, k⟩ := q
    cases c <;> kernel_rfl
  have e2 := fun S => make_ru (Ru.set_ok h hc) (S := S)
  have e3 : (ruD (q.set c)).length = 5 := rfl
  have e4 : sqOf [] (.p (.lst (ruD (q.set c)))) = some (ruD (q.set c)) := rfl
  generalize ruD (q.set c) = R at *
  simp only [m_own_turned, runP, init, b_own_turned, e_seq, e_seq_nx, e_seq_rt, e_seq_ite, e_bind, e_bind_ite, e_toS, e_toS_ite, e_set, e_ret, e_expr, e_nil, e_if, e_name, e_C, e_bin, e_un, e_ifx, e_aNil, e_aCons, e_call, e_cVal, e_cNot, e_cAnd, e_cOr, e_and, e_or, e_not, e_add, e_sub, e_lt, e_le, e_gt, e_ge, e_neg, e_eqi, e_nei, e_isN, e_notN, e_partsE, e_ixT0, e_ixT1, e_ixT2, e_ixT3, e_ixT4, e_ixL0, e_ixL1, e_ixL2, e_ixL3, e_ixL4, e_callP, e_callE, e_allP, e_allP0, e_tup, e_lst, e_par, List.map_cons, List.map_nil, List.append_assoc, List.nil_append, List.cons_append, List.replicate, List.getElem?_cons_zero, List.getElem?_cons_succ, List.set_cons_zero, List.set_cons_succ, Option.map_some, if_true, if_false, Bool.false_eq_true, decide_eq_true_eq, List.length_cons, List.length_nil, bg0, bg1, bg2, bg3, bg4, bg5, bg6, bg7, bg8, bg9, bg10, bg11, bg12, bg13, bg14, e1, e_makeS, e4, e3, e2]
theorem forL_step {t : Tgt} {body : Sf} {d : DL.D} {ds : List DL.D} {ρ ρ1 ρ2 : Nv} {S S2 : Sto} (h1 : t (.p d) ρ = some ρ1) (h2 : body ρ1 S = .ok (.nx ρ2) S2) : forL t body (d :: ds) ρ S = forL t body ds ρ2 S2 := by
  conv => lhs; unfold forL
  rw [h1]
  show (match body ρ1 S with | .ok (.nx ρ') S' => forL t body ds ρ' S' | .ok (.ct ρ') S' => forL t body ds ρ' S' | .ok (.bk ρ') S' => .ok (.nx ρ') S' | .ok (.rt d) S' => .ok (.rt d) S' | .exc x ρ' S' => .exc x ρ' S' | .bad => .bad) = _
  rw [h2]
theorem changed_loop {x1 : Option Dv} : ∀ (cs : List Cg) (q : Ru) (x2 x3 : Option Dv), q.ok → Gd cs → ∃ y2 y3, forL (gT 2 (gsCons (gN 2) (gsCons (gN 3) gsNil))) (sSet 0 (dCallP m_own_turned (aCons (dName 0) (aCons (dName 2) (aCons (dName 3) aNil))))) (cs.map cgD) [some (.p (.rul (ruD q))), x1, x2, x3] [] = .ok (.nx [some (.p (.rul (ruD (q.sets cs)))), x1, y2, y3]) []
  | [], q, x2, x3, _, _ => ⟨x2, x3, rfl⟩
  | c :: cs, q, x2, x3, h, g => by
    have hc := g c List.mem_cons_self
    obtain ⟨y2, y3, e⟩ := changed_loop (x1 := x1) cs (q.set c) (some (.p (.str c.pt))) (some (.p c.val)) (Ru.set_ok h hc) fun d hd => g d (List.mem_cons_of_mem _ hd)
    refine ⟨y2, y3, ?_⟩
    rw [List.map_cons]
    have e1 := own_turned_eq h hc
    rw [forL_step (ρ1 := [some (.p (.rul (ruD q))), x1, some (.p (.str c.pt)), some (.p c.val)]) (ρ2 := [some (.p (.rul (ruD (q.set c)))), x1, some (.p (.str c.pt)), some (.p c.val)]) (S2 := []) rfl (by
      generalize c.val = v at *
      simp only [e_seq, e_seq_nx, e_seq_rt, e_seq_ite, e_bind, e_bind_ite, e_toS, e_toS_ite, e_set, e_ret, e_expr, e_nil, e_if, e_name, e_C, e_bin, e_un, e_ifx, e_aNil, e_aCons, e_call, e_cVal, e_cNot, e_cAnd, e_cOr, e_and, e_or, e_not, e_add, e_sub, e_lt, e_le, e_gt, e_ge, e_neg, e_eqi, e_nei, e_isN, e_notN, e_partsE, e_ixT0, e_ixT1, e_ixT2, e_ixT3, e_ixT4, e_ixL0, e_ixL1, e_ixL2, e_ixL3, e_ixL4, e_callP, e_callE, e_allP, e_allP0, e_tup, e_lst, e_par, List.map_cons, List.map_nil, List.append_assoc, List.nil_append, List.cons_append, List.replicate, List.getElem?_cons_zero, List.getElem?_cons_succ, List.set_cons_zero, List.set_cons_succ, Option.map_some, if_true, if_false, Bool.false_eq_true, decide_eq_true_eq, List.length_cons, List.length_nil, bg0, bg1, bg2, bg3, bg4, bg5, bg6, bg7, bg8, bg9, bg10, bg11, bg12, bg13, bg14, e1])]
    exact e
theorem changed_eq {q : Ru} (h : q.ok) {cs : List Cg} (g : Gd cs) : m_changed [.rul (ruD q), csD cs] = .ok (.rul (ruD (q.sets cs))) := by
  obtain ⟨y2, y3, e⟩ := changed_loop (x1 := some (.p (csD cs))) cs q none none h g
  have it : iSeq (dName 1) [some (.p (.rul (ruD q))), some (.p (csD cs)), none, none] [] = .ok (cs.map cgD) [] := rfl
  simp only [m_changed, runP, init, b_changed, e_seq, e_seq_nx, e_seq_rt, e_seq_ite, e_bind, e_bind_ite, e_toS, e_toS_ite, e_set, e_ret, e_expr, e_nil, e_if, e_name, e_C, e_bin, e_un, e_ifx, e_aNil, e_aCons, e_call, e_cVal, e_cNot, e_cAnd, e_cOr, e_and, e_or, e_not, e_add, e_sub, e_lt, e_le, e_gt, e_ge, e_neg, e_eqi, e_nei, e_isN, e_notN, e_partsE, e_ixT0, e_ixT1, e_ixT2, e_ixT3, e_ixT4, e_ixL0, e_ixL1, e_ixL2, e_ixL3, e_ixL4, e_callP, e_callE, e_allP, e_allP0, e_tup, e_lst, e_par, List.map_cons, List.map_nil, List.append_assoc, List.nil_append, List.cons_append, List.replicate, List.getElem?_cons_zero, List.getElem?_cons_succ, List.set_cons_zero, List.set_cons_succ, Option.map_some, if_true, if_false, Bool.false_eq_true, decide_eq_true_eq, List.length_cons, List.length_nil, bg0, bg1, bg2, bg3, bg4, bg5, bg6, bg7, bg8, bg9, bg10, bg11, bg12, bg13, bg14, e_sFor, it, e]

/-! ### all sets of changes, plainly -/
def Cg.le (q : Ru) : Cg → Bool
  | .s z => decide (z = q.s)
  | .r z => decide (z = q.r)
  | .w z => decide (z = q.w)
  | .o i => decide (i = q.o)
  | .k z => decide (z = q.k)
def vls (p : Str) : List Cg :=
  if p = "start" then [.s "left", .s "middle", .s "right"] else if p = "rows" then [.r "anew", .r "on"] else if p = "ways" then [.w "fro", .w "same"] else
  if p = "out" then ([0, 2, 3, 4, 5, 6, 7, 8, 9, 10, 11, 12, 13] : List Int).map Cg.o else [.k "always", .k "once"]
/-- what a point may be changed to -/
def oth (q : Ru) (p : Str) : List Cg := (vls p).filter fun c => !c.le q
def PT : List Str := ["kind", "out", "rows", "start", "ways"]
theorem vls_ok {p : Str} (hp : p ∈ PT) : ∀ c ∈ vls p, c.ok ∧ c.pt = p := by
  unfold PT at hp
  simp only [List.mem_cons, List.not_mem_nil, or_false] at hp
  rcases hp with rfl | rfl | rfl | rfl | rfl
  · intro c hc
    rcases List.mem_cons.mp (show c ∈ [Cg.k "always", .k "once"] from hc) with rfl | hc
    · exact ⟨.inr rfl, rfl⟩
    · rw [List.mem_singleton.mp hc]; exact ⟨.inl rfl, rfl⟩
  · intro c hc
    obtain ⟨i, hi, rfl⟩ := List.mem_map.mp (show c ∈ ([0, 2, 3, 4, 5, 6, 7, 8, 9, 10, 11, 12, 13] : List Int).map Cg.o from hc)
    refine ⟨?_, rfl⟩
    show okO i
    unfold okO
    simp only [List.mem_cons, List.not_mem_nil, or_false] at hi
    omega
  · intro c hc
    rcases List.mem_cons.mp (show c ∈ [Cg.r "anew", .r "on"] from hc) with rfl | hc
    · exact ⟨.inl rfl, rfl⟩
    · rw [List.mem_singleton.mp hc]; exact ⟨.inr rfl, rfl⟩
  · intro c hc
    rcases List.mem_cons.mp (show c ∈ [Cg.s "left", .s "middle", .s "right"] from hc) with rfl | hc
    · exact ⟨.inl rfl, rfl⟩
    · rcases List.mem_cons.mp hc with rfl | hc
      · exact ⟨.inr (.inr rfl), rfl⟩
      · rw [List.mem_singleton.mp hc]; exact ⟨.inr (.inl rfl), rfl⟩
  · intro c hc
    rcases List.mem_cons.mp (show c ∈ [Cg.w "fro", .w "same"] from hc) with rfl | hc
    · exact ⟨.inr rfl, rfl⟩
    · rw [List.mem_singleton.mp hc]; exact ⟨.inl rfl, rfl⟩
theorem oth_ok {q : Ru} {p : Str} (hp : p ∈ PT) : ∀ c ∈ oth q p, c.ok ∧ c.pt = p := fun c hc => vls_ok hp c (List.mem_filter.mp hc).1
theorem oth_len {q : Ru} {p : Str} : (oth q p).length ≤ 13 := by
  refine Nat.le_trans (List.length_filter_le _ _) ?_
  unfold vls
  split
  · decide
  · split
    · decide
    · split
      · decide
      · split <;> decide
def setsL (q : Ru) : Nat → List Str → List (List Cg)
  | 0, _ => [[]]
  | _ + 1, [] => []
  | n + 1, p :: ps => ((oth q p).flatMap fun c => (setsL q n ps).map (c :: ·)) ++ setsL q (n + 1) ps
theorem setsL_cons {q : Ru} {n : Nat} {p : Str} {ps : List Str} : setsL q (n + 1) (p :: ps) = ((oth q p).flatMap fun c => (setsL q n ps).map (c :: ·)) ++ setsL q (n + 1) ps := by conv => lhs; unfold setsL
theorem setsL_mem {q : Ru} : ∀ {n : Nat} {ps : List Str}, (∀ p ∈ ps, p ∈ PT) → ∀ cs ∈ setsL q n ps, (∀ c ∈ cs, c.ok ∧ c.pt ∈ ps) ∧ cs.length = n
  | 0, ps, _, cs, h => by
    unfold setsL at h
    rw [List.mem_singleton.mp h]
    exact ⟨fun c hc => (nomatch hc), rfl⟩
  | n + 1, [], _, cs, h => by unfold setsL at h; cases h
  | n + 1, p :: ps, hp, cs, h => by
    unfold setsL at h
    rcases List.mem_append.mp h with h | h
    · obtain ⟨c, hc, h⟩ := List.mem_flatMap.mp h
      obtain ⟨ds, hd, rfl⟩ := List.mem_map.mp h
      obtain ⟨i1, i2⟩ := setsL_mem (n := n) (ps := ps) (fun x hx => hp x (List.mem_cons_of_mem _ hx)) ds hd
      obtain ⟨o1, o2⟩ := oth_ok (hp p List.mem_cons_self) c hc
      refine ⟨fun d hd => ?_, by rw [List.length_cons, i2]⟩
      rcases List.mem_cons.mp hd with rfl | hd
      · exact ⟨o1, by rw [o2]; exact List.mem_cons_self⟩
      · exact ⟨(i1 d hd).1, List.mem_cons_of_mem _ (i1 d hd).2⟩
    · obtain ⟨i1, i2⟩ := setsL_mem (n := n + 1) (ps := ps) (fun x hx => hp x (List.mem_cons_of_mem _ hx)) cs h
      exact ⟨fun d hd => ⟨(i1 d hd).1, List.mem_cons_of_mem _ (i1 d hd).2⟩, i2⟩
theorem flat_len {α β : Type} {f : α → List β} {C : Nat} : ∀ {l : List α}, (∀ a ∈ l, (f a).length ≤ C) → (l.flatMap f).length ≤ l.length * C
  | [], _ => by simp
  | a :: l, h => by
    rw [List.flatMap_cons, List.length_append, List.length_cons, Nat.add_mul, Nat.one_mul]
    have := flat_len (l := l) fun b hb => h b (List.mem_cons_of_mem _ hb)
    have := h a List.mem_cons_self
    omega
theorem setsL_len {q : Ru} : ∀ (n : Nat) (ps : List Str), ps.length ≤ 5 → (setsL q n ps).length ≤ 65 ^ n
  | 0, ps, _ => by unfold setsL; decide
  | n + 1, ps, hl => by
    have key : ∀ ps : List Str, ps.length ≤ 5 → (setsL q (n + 1) ps).length ≤ ps.length * (13 * 65 ^ n) := by
      intro ps
      induction ps with
      | nil => intro _; unfold setsL; exact Nat.zero_le _
      | cons p ps ih =>
        intro hl
        rw [List.length_cons] at hl
        have h1 := ih (by omega)
        have h2 : ((oth q p).flatMap fun c => (setsL q n ps).map (c :: ·)).length ≤ (oth q p).length * 65 ^ n := flat_len fun c _ => by
          rw [List.length_map]; exact setsL_len n ps (by omega)
        have h3 : (oth q p).length * 65 ^ n ≤ 13 * 65 ^ n := Nat.mul_le_mul_right _ oth_len
        unfold setsL
        rw [List.length_append, List.length_cons, Nat.add_mul, Nat.one_mul]
        omega
    have h1 := key ps hl
    have h2 : ps.length * (13 * 65 ^ n) ≤ 5 * (13 * 65 ^ n) := Nat.mul_le_mul_right _ hl
    rw [Nat.pow_succ]
    omega
/-! rearrangements -/
theorem flat_congr {α β : Type} {f g : α → List β} : ∀ {l : List α}, (∀ a ∈ l, (f a).Perm (g a)) → (l.flatMap f).Perm (l.flatMap g)
  | [], _ => .refl _
  | a :: l, h => by
    rw [List.flatMap_cons, List.flatMap_cons]
    exact (h a List.mem_cons_self).append (flat_congr fun b hb => h b (List.mem_cons_of_mem _ hb))
theorem perm_four {β : Type} (a b c d : List β) : ((a ++ b) ++ (c ++ d)).Perm ((a ++ c) ++ (b ++ d)) := by
  rw [List.append_assoc, List.append_assoc]
  refine List.Perm.append_left a ?_
  rw [← List.append_assoc, ← List.append_assoc]
  exact List.Perm.append_right d List.perm_append_comm
theorem flat_app {α β : Type} {f g : α → List β} : ∀ {l : List α}, (l.flatMap fun a => f a ++ g a).Perm (l.flatMap f ++ l.flatMap g)
  | [] => .refl _
  | a :: l => by
    rw [List.flatMap_cons, List.flatMap_cons, List.flatMap_cons]
    exact ((List.Perm.refl _).append (flat_app (l := l))).trans (perm_four _ _ _ _)
theorem flat_nil {α β : Type} : ∀ {l : List α}, (l.flatMap fun _ => ([] : List β)) = []
  | [] => rfl
  | _ :: l => by rw [List.flatMap_cons, flat_nil]; rfl
theorem flat_swap {α β γ : Type} {h : α → β → List γ} : ∀ {l : List α} {m : List β}, (l.flatMap fun a => m.flatMap (h a)).Perm (m.flatMap fun b => l.flatMap fun a => h a b)
  | [], m => by
    rw [List.flatMap_nil, show (m.flatMap fun b => ([] : List α).flatMap fun a => h a b) = [] from flat_nil]
  | a :: l, m => by
    rw [List.flatMap_cons]
    refine ((List.Perm.refl _).append (flat_swap (l := l) (m := m))).trans ?_
    exact (flat_app (f := h a) (g := fun b => l.flatMap fun a => h a b)).symm
def subs (q : Ru) : List Str → List (List Cg)
  | [] => [[]]
  | p :: ps => subs q ps ++ (oth q p).flatMap fun c => (subs q ps).map (c :: ·)
theorem subs_cons {q : Ru} {p : Str} {ps : List Str} : subs q (p :: ps) = subs q ps ++ (oth q p).flatMap fun c => (subs q ps).map (c :: ·) := rfl
/-- as the law makes them -/
def lawAll (q : Ru) (acc : List (List Cg)) : List Str → List (List Cg)
  | [] => acc
  | p :: ps => lawAll q (acc ++ (oth q p).flatMap fun c => acc.map (· ++ [c])) ps
theorem lawAll_perm {q : Ru} : ∀ (ps : List Str) (acc : List (List Cg)), (lawAll q acc ps).Perm (acc.flatMap fun a => (subs q ps).map (a ++ ·))
  | [], acc => by
    unfold lawAll subs
    refine List.Perm.of_eq ?_
    induction acc with
    | nil => rfl
    | cons a acc ih =>
      rw [List.flatMap_cons, ← ih]
      show a :: acc = [a ++ []] ++ acc
      rw [List.append_nil]
      rfl
  | p :: ps, acc => by
    unfold lawAll
    refine (lawAll_perm ps _).trans ?_
    rw [List.flatMap_append]
    have e1 : (acc.flatMap fun a => (subs q (p :: ps)).map (a ++ ·)) = acc.flatMap fun a => (subs q ps).map (a ++ ·) ++ (oth q p).flatMap fun c => (subs q ps).map (a ++ c :: ·) := by
      congr 1
      funext a
      rw [subs_cons, List.map_append, List.map_flatMap]
      refine congrArg _ ?_
      congr 1
      funext c
      rw [List.map_map]
      rfl
    rw [e1]
    refine List.Perm.trans ?_ (flat_app (f := fun a => (subs q ps).map (a ++ ·)) (g := fun a => (oth q p).flatMap fun c => (subs q ps).map (a ++ c :: ·))).symm
    refine List.Perm.append_left _ ?_
    refine List.Perm.trans ?_ (flat_swap (h := fun c a => (subs q ps).map (a ++ c :: ·)) (l := oth q p) (m := acc))
    rw [List.flatMap_assoc]
    refine flat_congr fun c _ => List.Perm.of_eq ?_
    rw [List.flatMap_map]
    congr 1
    funext a
    congr 1
    funext s
    rw [List.append_assoc]
    rfl
theorem subs_size {q : Ru} : ∀ (ps : List Str) (n : Nat), ((subs q ps).filter fun cs => decide (cs.length = n)).Perm (setsL q n ps)
  | [], 0 => .refl _
  | [], n + 1 => by
    unfold subs setsL
    rfl
  | p :: ps, n => by
    unfold subs
    rw [List.filter_append, List.filter_flatMap]
    have e1 : ∀ c : Cg, ((subs q ps).map (c :: ·)).filter (fun cs => decide (cs.length = n)) = ((subs q ps).filter fun cs => decide (cs.length + 1 = n)).map (c :: ·) := fun c => by
      rw [List.filter_map]
      congr 1
    cases n with
    | zero =>
      have e2 : ((oth q p).flatMap fun c => ((subs q ps).map (c :: ·)).filter (fun cs => decide (cs.length = 0))) = [] := by
        rw [show (fun c => ((subs q ps).map (c :: ·)).filter (fun cs => decide (cs.length = 0))) = fun _ => [] from funext fun c => by
          rw [e1]
          rw [List.filter_eq_nil_iff.mpr fun cs _ => by simp]
          rfl]
        exact flat_nil
      rw [e2, List.append_nil]
      exact (subs_size ps 0).trans (by unfold setsL; exact .refl _)
    | succ n =>
      unfold setsL
      refine List.perm_append_comm.trans (List.Perm.append ?_ (subs_size ps (n + 1)))
      refine flat_congr fun c _ => ?_
      rw [e1]
      refine List.Perm.map _ ?_
      have := subs_size (q := q) ps n
      rw [show (fun cs : List Cg => decide (cs.length + 1 = n + 1)) = fun cs => decide (cs.length = n) from funext fun cs => by simp]
      exact this
theorem law_size {q : Ru} {ps : List Str} {n : Nat} : ((lawAll q [[]] ps).filter fun cs => decide (cs.length = n)).Perm (setsL q n ps) := by
  have h := (lawAll_perm (q := q) ps [[]]).filter fun cs => decide (cs.length = n)
  refine h.trans ?_
  have e : ([[]] : List (List Cg)).flatMap (fun a => (subs q ps).map (a ++ ·)) = subs q ps := by
    rw [List.flatMap_cons, List.flatMap_nil, List.append_nil]
    exact (List.map_congr_left fun s _ => rfl).trans (List.map_id _)
  rw [e]
  exact subs_size ps n

/-! ### sets_of, exactly -/
theorem vals_ex {q : Ru} (h : q.ok) {p : Str} (hp : p ∈ PT) {x1 x2 x3 x4 : Option Dv} {S : Sto} : ∃ own : DL.D, (∀ x6 x7 x8, dBin oIx (dParts (dName 0)) (dIndexC ["start", "rows", "ways", "out", "kind"] (dName 5)) [some (.p (.rul (ruD q))), x1, x2, x3, x4, some (.p (.str p)), x6, x7, x8] S = .ok (.p own) S) ∧
    (∀ x7 x8, dComp [7] (iSeq (dCallP m_values_of (aCons (dName 5) aNil))) (gN 7) (cVal (dBin oNe (dName 7) (dName 6))) (dName 7) [some (.p (.rul (ruD q))), x1, x2, x3, x4, some (.p (.str p)), some (.p own), x7, x8] S = .ok (.p (.lst ((oth q p).map Cg.val))) S) := by
  obtain ⟨s, r, w, o, k⟩ := q
  obtain ⟨h1, h2, h3, h4, h5⟩ := h
  dsimp only at h1 h2 h3 h4 h5
  unfold PT at hp
  simp only [List.mem_cons, List.not_mem_nil, or_false] at hp
  rcases hp with rfl | rfl | rfl | rfl | rfl
  · rcases h5 with rfl | rfl
    · exact ⟨.str "once", fun _ _ _ => by kernel_rfl, fun _ _ => by kernel_rfl⟩
    · exact ⟨.str "always", fun _ _ _ => by kernel_rfl, fun _ _ => by kernel_rfl⟩
  · refine ⟨.int o, fun _ _ _ => by kernel_rfl, fun _ _ => ?_⟩
    rcases okO_cases h4 with rfl | rfl | rfl | rfl | rfl | rfl | rfl | rfl | rfl | rfl | rfl | rfl | rfl <;> kernel_rfl
  · rcases h2 with rfl | rfl
    · exact ⟨.str "anew", fun _ _ _ => by kernel_rfl, fun _ _ => by kernel_rfl⟩
    · exact ⟨.str "on", fun _ _ _ => by kernel_rfl, fun _ _ => by kernel_rfl⟩
  · rcases h1 with rfl | rfl | rfl
    · exact ⟨.str "left", fun _ _ _ => by kernel_rfl, fun _ _ => by kernel_rfl⟩
    · exact ⟨.str "right", fun _ _ _ => by kernel_rfl, fun _ _ => by kernel_rfl⟩
    · exact ⟨.str "middle", fun _ _ _ => by kernel_rfl, fun _ _ => by kernel_rfl⟩
  · rcases h3 with rfl | rfl
    · exact ⟨.str "same", fun _ _ _ => by kernel_rfl, fun _ _ => by kernel_rfl⟩
    · exact ⟨.str "fro", fun _ _ _ => by kernel_rfl, fun _ _ => by kernel_rfl⟩
def SX (mR : List DL.D → DL.PO) (n : Nat) : Prop := ∀ (q : Ru) (ps : List Str), q.ok → (∀ p ∈ ps, p ∈ PT) → ps.length ≤ 5 → mR [.rul (ruD q), .lst (ps.map DL.D.str), .int (n : Nat)] = .ok (.lst ((setsL q n ps).map csD))
def ES (q : Ru) (ps : List Str) (n : Nat) (x3 x4 x5 x6 x7 x8 : Option Dv) : Nv := [some (.p (.rul (ruD q))), some (.p (.lst (ps.map DL.D.str))), some (.p (.int (n : Nat))), x3, x4, x5, x6, x7, x8]
theorem cut_rest {pre : List DL.D} {p : DL.D} {rest : List DL.D} : DL.cutD (pre ++ p :: rest) (some ((pre.length : Int) + 1)) none = rest := by
  unfold DL.cutD
  have e1 : HT.sIx (pre ++ p :: rest).length 0 (some ((pre.length : Int) + 1)) = pre.length + 1 := by
    unfold HT.sIx
    simp only [List.length_append, List.length_cons]
    (try dsimp only)
    split <;> omega
  have e2 : HT.sIx (pre ++ p :: rest).length (pre ++ p :: rest).length none = (pre ++ p :: rest).length := rfl
  rw [e1, e2, show pre ++ p :: rest = (pre ++ [p]) ++ rest by simp, List.drop_append_of_le_length (by simp), List.drop_eq_nil_of_le (by simp), List.nil_append, List.take_of_length_le (by simp only [List.length_append, List.length_cons]; omega)]
theorem allP_map : ∀ ds : List DL.D, allP (ds.map Dv.p) = some ds
  | [] => rfl
  | d :: ds => by
    rw [List.map_cons]
    unfold allP
    rw [allP_map ds]
    rfl
theorem sets_zero {mR : List DL.D → DL.PO} {a b : DL.D} : runP 6 (b_sets_of mR) [a, b, .int 0] = .ok (.lst [.tup []]) := by kernel_rfl
theorem ext_cell {fo fe : Ef} {ρ : Nv} {ds es : List DL.D} (h0 : fo ρ [.lst ds] = .ok (.hnd 0) [.lst ds]) (h : fe ρ [.lst ds] = .ok (.p (.lst es)) [.lst ds]) (hl : ds.length + es.length < big) : sExpr (dExt fo fe) ρ [.lst ds] = .ok (.nx ρ) [.lst (ds ++ es)] := by
  unfold sExpr dExt
  rw [h0]
  dsimp only [Out.bind, List.getElem?_cons_zero]
  rw [h]
  dsimp only [List.getElem?_cons_zero]
  rw [if_pos hl]
  rfl
theorem sx_in {mR : List DL.D → DL.PO} {n : Nat} (hR : SX mR n) (hn : n ≤ 2) {q : Ru} (h : q.ok) {pre rest : List Str} {p : Str} (hps : ∀ p ∈ rest, p ∈ PT) (hl : (pre ++ p :: rest).length ≤ 5) {c : Cg} (hc : c.pt = p) {x6 x8 : Option Dv} {acc : List (List Cg)} (ha : acc.length + 65 ^ n ≤ 5000000) :
    (sExpr (dExt (dName 3) (dComp [8] (iSeq (dCallP mR (aCons (dName 0) (aCons (dSl (dName 1) (pAt (dBin oAdd (dName 4) (dC (.int 1)))) pNo) (aCons (dBin oSub (dName 2) (dC (.int 1))) aNil))))) (gN 8) cYes (dTup (aCons (dTup (aCons (dName 5) (aCons (dName 7) aNil))) (aStar (dName 8) aNil)))))) (ES q (pre ++ p :: rest) (n + 1) (some (.hnd 0)) (some (.p (.int pre.length))) (some (.p (.str p))) x6 (some (.p c.val)) x8) [.lst (acc.map csD)] = .ok (.nx (ES q (pre ++ p :: rest) (n + 1) (some (.hnd 0)) (some (.p (.int pre.length))) (some (.p (.str p))) x6 (some (.p c.val)) x8)) [.lst ((acc ++ (setsL q n rest).map (c :: ·)).map csD)] := by
  subst hc
  have e1 := hR q rest h hps (by rw [List.length_append, List.length_cons] at hl; omega)
  have l1 := setsL_len (q := q) n rest (by rw [List.length_append, List.length_cons] at hl; omega)
  have g1 := setsL_mem (q := q) (n := n) hps
  have hbig : 65 ^ n ≤ 65 ^ 2 := Nat.pow_le_pow_right (by decide) hn
  have cq := cut_rest (pre := pre.map DL.D.str) (p := .str c.pt) (rest := rest.map DL.D.str)
  rw [List.length_map, ← List.map_cons, ← List.map_append] at cq
  have eS : ∀ S, dSl (dName 1) (pAt (dBin oAdd (dName 4) (dC (.int 1)))) pNo (ES q (pre ++ c.pt :: rest) (n + 1) (some (.hnd 0)) (some (.p (.int pre.length))) (some (.p (.str c.pt))) x6 (some (.p c.val)) x8) S = .ok (.p (.lst (rest.map DL.D.str))) S := fun S => by
    conv => rhs; rw [← cq]
    rfl
  have em : ∀ S, oSub (.p (.int ((n + 1 : Nat) : Int))) (.p (.int 1)) S = .ok (.p (.int (n : Nat))) S := fun S => by
    rw [e_sub]; congr 3; omega
  generalize pre ++ c.pt :: rest = ps at *
  generalize (pre.length : Int) = i at *
  generalize setsL q n rest = css at *
  have key : dComp [8] (iSeq (dCallP mR (aCons (dName 0) (aCons (dSl (dName 1) (pAt (dBin oAdd (dName 4) (dC (.int 1)))) pNo) (aCons (dBin oSub (dName 2) (dC (.int 1))) aNil))))) (gN 8) cYes (dTup (aCons (dTup (aCons (dName 5) (aCons (dName 7) aNil))) (aStar (dName 8) aNil))) (ES q ps (n + 1) (some (.hnd 0)) (some (.p (.int i))) (some (.p (.str c.pt))) x6 (some (.p c.val)) x8) [.lst (acc.map csD)]
      = .ok (.p (.lst ((css.map (c :: ·)).map csD))) [.lst (acc.map csD)] := by
    refine e_comp (S1 := [.lst (acc.map csD)]) (ds := css.map csD) ?_ (by rw [List.length_map]; unfold big; omega) ?_
    · generalize acc.map csD = A at *
      unfold ES at eS ⊢
      generalize rest.map DL.D.str = Q at *
      unfold iSeq
      simp only [e_seq, e_seq_nx, e_seq_rt, e_seq_ite, e_bind, e_bind_ite, e_toS, e_toS_ite, e_set, e_ret, e_expr, e_nil, e_if, e_name, e_C, e_bin, e_un, e_ifx, e_aNil, e_aCons, e_call, e_cVal, e_cNot, e_cAnd, e_cOr, e_and, e_or, e_not, e_add, e_sub, e_lt, e_le, e_gt, e_ge, e_neg, e_eqi, e_nei, e_isN, e_notN, e_partsE, e_ixT0, e_ixT1, e_ixT2, e_ixT3, e_ixT4, e_ixL0, e_ixL1, e_ixL2, e_ixL3, e_ixL4, e_callP, e_callE, e_allP, e_allP0, e_tup, e_lst, e_par, List.map_cons, List.map_nil, List.append_assoc, List.nil_append, List.cons_append, List.replicate, List.getElem?_cons_zero, List.getElem?_cons_succ, List.set_cons_zero, List.set_cons_succ, Option.map_some, if_true, if_false, Bool.false_eq_true, decide_eq_true_eq, List.length_cons, List.length_nil, bg0, bg1, bg2, bg3, bg4, bg5, bg6, bg7, bg8, bg9, bg10, bg11, bg12, bg13, bg14, eS, em, e1]
    · have k2 := comp_map (t := gN 8) (el := dTup (aCons (dTup (aCons (dName 5) (aCons (dName 7) aNil))) (aStar (dName 8) aNil))) (ρ := wipeN (ES q ps (n + 1) (some (.hnd 0)) (some (.p (.int i))) (some (.p (.str c.pt))) x6 (some (.p c.val)) x8) [8]) (S := [.lst (acc.map csD)])
        (fun d => match d with | .tup ds => .tup (cgD c :: ds) | _ => .non) (ds := css.map csD) fun d hd => by
          obtain ⟨cs, hcs, rfl⟩ := List.mem_map.mp hd
          refine ⟨ES q ps (n + 1) (some (.hnd 0)) (some (.p (.int i))) (some (.p (.str c.pt))) x6 (some (.p c.val)) (some (.p (csD cs))), rfl, ?_⟩
          have e1 : dTup (aCons (dName 5) (aCons (dName 7) aNil)) (ES q ps (n + 1) (some (.hnd 0)) (some (.p (.int i))) (some (.p (.str c.pt))) x6 (some (.p c.val)) (some (.p (csD cs)))) [.lst (acc.map csD)] = .ok (.p (cgD c)) [.lst (acc.map csD)] := rfl
          have e2 : aStar (dName 8) aNil (ES q ps (n + 1) (some (.hnd 0)) (some (.p (.int i))) (some (.p (.str c.pt))) x6 (some (.p c.val)) (some (.p (csD cs)))) [.lst (acc.map csD)] = .ok ((cs.map cgD).map Dv.p ++ []) [.lst (acc.map csD)] := rfl
          have e3 : aCons (dTup (aCons (dName 5) (aCons (dName 7) aNil))) (aStar (dName 8) aNil) (ES q ps (n + 1) (some (.hnd 0)) (some (.p (.int i))) (some (.p (.str c.pt))) x6 (some (.p c.val)) (some (.p (csD cs)))) [.lst (acc.map csD)] = .ok ((cgD c :: cs.map cgD).map Dv.p) [.lst (acc.map csD)] := by
            rw [e_aCons, e1]
            simp only [e_bind, e2, List.append_nil]
            rfl
          show (Out.bind (aCons (dTup (aCons (dName 5) (aCons (dName 7) aNil))) (aStar (dName 8) aNil) _ _) _) = _
          rw [e3]
          show (match allP ((cgD c :: cs.map cgD).map Dv.p) with | some ds => (if ds.length ≤ big then Out.ok (Dv.p (.tup ds)) [.lst (acc.map csD)] else .bad) | none => .bad) = _
          rw [allP_map]
          dsimp only
          rw [if_pos (by rw [List.length_cons, List.length_map]; have := (g1 cs hcs).2; unfold big; omega)]
          rfl
      rw [List.map_map] at k2 ⊢
      exact k2
  have := ext_cell (fo := dName 3) (ds := acc.map csD) (es := (css.map (c :: ·)).map csD) (ρ := ES q ps (n + 1) (some (.hnd 0)) (some (.p (.int i))) (some (.p (.str c.pt))) x6 (some (.p c.val)) x8) rfl key (by rw [List.length_map, List.length_map, List.length_map]; unfold big; omega)
  rw [List.map_append]
  exact this
theorem sx_vals {mR : List DL.D → DL.PO} {n : Nat} (hR : SX mR n) (hn : n ≤ 2) {q : Ru} (h : q.ok) {pre rest : List Str} {p : Str} (hps : ∀ p ∈ rest, p ∈ PT) (hl : (pre ++ p :: rest).length ≤ 5) {x6 : Option Dv} : ∀ (cs : List Cg) (acc : List (List Cg)) (x7 x8 : Option Dv), (∀ c ∈ cs, c.pt = p) → acc.length + cs.length * 65 ^ n ≤ 5000000 →
    ∃ y7 y8, forL (gN 7) (sExpr (dExt (dName 3) (dComp [8] (iSeq (dCallP mR (aCons (dName 0) (aCons (dSl (dName 1) (pAt (dBin oAdd (dName 4) (dC (.int 1)))) pNo) (aCons (dBin oSub (dName 2) (dC (.int 1))) aNil))))) (gN 8) cYes (dTup (aCons (dTup (aCons (dName 5) (aCons (dName 7) aNil))) (aStar (dName 8) aNil)))))) (cs.map Cg.val) (ES q (pre ++ p :: rest) (n + 1) (some (.hnd 0)) (some (.p (.int pre.length))) (some (.p (.str p))) x6 x7 x8) [.lst (acc.map csD)]
      = .ok (.nx (ES q (pre ++ p :: rest) (n + 1) (some (.hnd 0)) (some (.p (.int pre.length))) (some (.p (.str p))) x6 y7 y8)) [.lst ((acc ++ cs.flatMap fun c => (setsL q n rest).map (c :: ·)).map csD)]
  | [], acc, x7, x8, _, _ => ⟨x7, x8, by rw [List.flatMap_nil, List.append_nil]; rfl⟩
  | c :: cs, acc, x7, x8, hc, ha => by
    rw [List.length_cons, Nat.add_mul, Nat.one_mul] at ha
    have l1 := setsL_len (q := q) n rest (by rw [List.length_append, List.length_cons] at hl; omega)
    have e1 := sx_in hR hn h hps hl (hc c List.mem_cons_self) (x6 := x6) (x8 := x8) (acc := acc) (by omega)
    obtain ⟨y7, y8, e2⟩ := sx_vals hR hn h hps hl (x6 := x6) cs (acc ++ (setsL q n rest).map (c :: ·)) (some (.p c.val)) x8 (fun d hd => hc d (List.mem_cons_of_mem _ hd)) (by rw [List.length_append, List.length_map]; omega)
    refine ⟨y7, y8, ?_⟩
    rw [List.map_cons, forL_step (ρ1 := ES q (pre ++ p :: rest) (n + 1) (some (.hnd 0)) (some (.p (.int pre.length))) (some (.p (.str p))) x6 (some (.p c.val)) x8) rfl e1, e2, List.flatMap_cons, List.append_assoc]
theorem sx_out {mR : List DL.D → DL.PO} {n : Nat} (hR : SX mR n) (hn : n ≤ 2) {q : Ru} (h : q.ok) : ∀ (rest pre : List Str) (acc : List (List Cg)) (x4 x5 x6 x7 x8 : Option Dv), (∀ p ∈ rest, p ∈ PT) → (pre ++ rest).length ≤ 5 → acc.length + rest.length * (13 * 65 ^ n) ≤ 5000000 →
    ∃ y4 y5 y6 y7 y8, forL (gT 2 (gsCons (gN 4) (gsCons (gN 5) gsNil))) (sSeq (sSet 6 (dBin oIx (dParts (dName 0)) (dIndexC ["start", "rows", "ways", "out", "kind"] (dName 5)))) (sFor (iSeq (dComp [7] (iSeq (dCallP m_values_of (aCons (dName 5) aNil))) (gN 7) (cVal (dBin oNe (dName 7) (dName 6))) (dName 7))) (gN 7) (sExpr (dExt (dName 3) (dComp [8] (iSeq (dCallP mR (aCons (dName 0) (aCons (dSl (dName 1) (pAt (dBin oAdd (dName 4) (dC (.int 1)))) pNo) (aCons (dBin oSub (dName 2) (dC (.int 1))) aNil))))) (gN 8) cYes (dTup (aCons (dTup (aCons (dName 5) (aCons (dName 7) aNil))) (aStar (dName 8) aNil)))))))) (enumD pre.length (rest.map DL.D.str)) (ES q (pre ++ rest) (n + 1) (some (.hnd 0)) x4 x5 x6 x7 x8) [.lst (acc.map csD)]
      = .ok (.nx (ES q (pre ++ rest) (n + 1) (some (.hnd 0)) y4 y5 y6 y7 y8)) [.lst ((acc ++ setsL q (n + 1) rest).map csD)]
  | [], pre, acc, x4, x5, x6, x7, x8, _, _, _ => ⟨x4, x5, x6, x7, x8, by unfold setsL; rw [List.append_nil acc]; rfl⟩
  | p :: rest, pre, acc, x4, x5, x6, x7, x8, hp, hl, ha => by
    rw [List.length_cons, Nat.add_mul, Nat.one_mul] at ha
    have ho : (oth q p).length * 65 ^ n ≤ 13 * 65 ^ n := Nat.mul_le_mul_right _ oth_len
    have hop := oth_ok (q := q) (hp p List.mem_cons_self)
    have l1 := setsL_len (q := q) n rest (by rw [List.length_append, List.length_cons] at hl; omega)
    have lf : ((oth q p).flatMap fun c => (setsL q n rest).map (c :: ·)).length ≤ (oth q p).length * 65 ^ n := flat_len fun c _ => by rw [List.length_map]; exact l1
    obtain ⟨own, e1, e2⟩ := vals_ex h (hp p List.mem_cons_self) (x1 := some (.p (.lst ((pre ++ p :: rest).map DL.D.str)))) (x2 := some (.p (.int ((n + 1 : Nat) : Int)))) (x3 := some (.hnd 0)) (x4 := some (.p (.int pre.length))) (S := [.lst (acc.map csD)])
    obtain ⟨y7, y8, e3⟩ := sx_vals hR hn h (pre := pre) (p := p) (rest := rest) (fun x hx => hp x (List.mem_cons_of_mem _ hx)) hl (x6 := some (.p own)) (oth q p) acc x7 x8 (fun c hc => (hop c hc).2) (by omega)
    obtain ⟨z4, z5, z6, z7, z8, e4⟩ := sx_out hR hn h rest (pre ++ [p]) (acc ++ (oth q p).flatMap fun c => (setsL q n rest).map (c :: ·)) (some (.p (.int pre.length))) (some (.p (.str p))) (some (.p own)) y7 y8 (fun x hx => hp x (List.mem_cons_of_mem _ hx)) (by rw [List.append_assoc]; exact hl) (by rw [List.length_append]; omega)
    rw [List.append_assoc, List.length_append, show [p] ++ rest = p :: rest from rfl, show pre.length + [p].length = pre.length + 1 from rfl] at e4
    refine ⟨z4, z5, z6, z7, z8, ?_⟩
    rw [setsL_cons, ← List.append_assoc]
    have step : (sSeq (sSet 6 (dBin oIx (dParts (dName 0)) (dIndexC ["start", "rows", "ways", "out", "kind"] (dName 5)))) (sFor (iSeq (dComp [7] (iSeq (dCallP m_values_of (aCons (dName 5) aNil))) (gN 7) (cVal (dBin oNe (dName 7) (dName 6))) (dName 7))) (gN 7) (sExpr (dExt (dName 3) (dComp [8] (iSeq (dCallP mR (aCons (dName 0) (aCons (dSl (dName 1) (pAt (dBin oAdd (dName 4) (dC (.int 1)))) pNo) (aCons (dBin oSub (dName 2) (dC (.int 1))) aNil))))) (gN 8) cYes (dTup (aCons (dTup (aCons (dName 5) (aCons (dName 7) aNil))) (aStar (dName 8) aNil)))))))) (ES q (pre ++ p :: rest) (n + 1) (some (.hnd 0)) (some (.p (.int pre.length))) (some (.p (.str p))) x6 x7 x8) [.lst (acc.map csD)] = .ok (.nx (ES q (pre ++ p :: rest) (n + 1) (some (.hnd 0)) (some (.p (.int pre.length))) (some (.p (.str p))) (some (.p own)) y7 y8)) [.lst ((acc ++ (oth q p).flatMap fun c => (setsL q n rest).map (c :: ·)).map csD)] := by
      unfold ES at e3 ⊢
      have it : iSeq (dComp [7] (iSeq (dCallP m_values_of (aCons (dName 5) aNil))) (gN 7) (cVal (dBin oNe (dName 7) (dName 6))) (dName 7)) [some (.p (.rul (ruD q))), some (.p (.lst ((pre ++ p :: rest).map DL.D.str))), some (.p (.int ((n + 1 : Nat) : Int))), some (.hnd 0), some (.p (.int pre.length)), some (.p (.str p)), some (.p own), x7, x8] [.lst (acc.map csD)] = .ok ((oth q p).map Cg.val) [.lst (acc.map csD)] := seq_C (.inl rfl) (e2 _ _)
      rw [e_seq]
      rw [show sSet 6 (dBin oIx (dParts (dName 0)) (dIndexC ["start", "rows", "ways", "out", "kind"] (dName 5))) [some (.p (.rul (ruD q))), some (.p (.lst ((pre ++ p :: rest).map DL.D.str))), some (.p (.int ((n + 1 : Nat) : Int))), some (.hnd 0), some (.p (.int pre.length)), some (.p (.str p)), x6, x7, x8] [.lst (acc.map csD)] = .ok (.nx [some (.p (.rul (ruD q))), some (.p (.lst ((pre ++ p :: rest).map DL.D.str))), some (.p (.int ((n + 1 : Nat) : Int))), some (.hnd 0), some (.p (.int pre.length)), some (.p (.str p)), some (.p own), x7, x8]) [.lst (acc.map csD)] by rw [e_set, e1]; rfl]
      rw [e_seq_nx, e_sFor, it]
      exact e3
    rw [List.map_cons]
    show forL _ _ (.tup [.int (pre.length : Nat), .str p] :: enumD (pre.length + 1) (rest.map DL.D.str)) _ _ = _
    rw [forL_step (ρ1 := ES q (pre ++ p :: rest) (n + 1) (some (.hnd 0)) (some (.p (.int pre.length))) (some (.p (.str p))) x6 x7 x8) rfl step]
    exact e4
theorem sx_step {mR : List DL.D → DL.PO} {n : Nat} (hR : SX mR n) (hn : n ≤ 2) : SX (runP 6 (b_sets_of mR)) (n + 1) := by
  intro q ps h hps hl
  have hbig : 65 ^ n ≤ 65 ^ 2 := Nat.pow_le_pow_right (by decide) hn
  have hlen : ps.length * (13 * 65 ^ n) ≤ 5 * (13 * 65 ^ n) := Nat.mul_le_mul_right _ hl
  obtain ⟨y4, y5, y6, y7, y8, e3⟩ := sx_out hR hn h ps [] [] none none none none none hps hl (by rw [List.length_nil]; omega)
  rw [List.nil_append, List.nil_append] at e3
  have z : ((((n + 1 : Nat) : Int)) == 0) = false := by
    exact beq_eq_false_iff_ne.mpr (by omega)
  have it : ∀ S, iEnumX (dName 1) [some (.p (.rul (ruD q))), some (.p (.lst (ps.map DL.D.str))), some (.p (.int ((n + 1 : Nat) : Int))), some (.hnd 0), none, none, none, none, none] S = .ok (enumD 0 (ps.map DL.D.str)) S := fun _ => rfl
  unfold ES at e3
  have e3 : forL (gT 2 (gsCons (gN 4) (gsCons (gN 5) gsNil))) (sSeq (sSet 6 (dBin oIx (dParts (dName 0)) (dIndexC ["start", "rows", "ways", "out", "kind"] (dName 5)))) (sFor (iSeq (dComp [7] (iSeq (dCallP m_values_of (aCons (dName 5) aNil))) (gN 7) (cVal (dBin oNe (dName 7) (dName 6))) (dName 7))) (gN 7) (sExpr (dExt (dName 3) (dComp [8] (iSeq (dCallP mR (aCons (dName 0) (aCons (dSl (dName 1) (pAt (dBin oAdd (dName 4) (dC (.int 1)))) pNo) (aCons (dBin oSub (dName 2) (dC (.int 1))) aNil))))) (gN 8) cYes (dTup (aCons (dTup (aCons (dName 5) (aCons (dName 7) aNil))) (aStar (dName 8) aNil)))))))) (enumD 0 (ps.map DL.D.str)) [some (.p (.rul (ruD q))), some (.p (.lst (ps.map DL.D.str))), some (.p (.int ((n + 1 : Nat) : Int))), some (.hnd 0), none, none, none, none, none] [.lst []] = _ := e3
  have e4 : ∀ ρ : Nv, dLstC aNil ρ [] = .ok (.hnd 0) [.lst []] := fun _ => rfl
  generalize (setsL q (n + 1) ps).map csD = AD at *
  generalize enumD 0 (ps.map DL.D.str) = EN at *
  generalize ps.map DL.D.str = PS at *
  simp only [runP, init, b_sets_of, e_seq, e_seq_nx, e_seq_rt, e_seq_ite, e_bind, e_bind_ite, e_toS, e_toS_ite, e_set, e_ret, e_expr, e_nil, e_if, e_name, e_C, e_bin, e_un, e_ifx, e_aNil, e_aCons, e_call, e_cVal, e_cNot, e_cAnd, e_cOr, e_and, e_or, e_not, e_add, e_sub, e_lt, e_le, e_gt, e_ge, e_neg, e_eqi, e_nei, e_isN, e_notN, e_partsE, e_ixT0, e_ixT1, e_ixT2, e_ixT3, e_ixT4, e_ixL0, e_ixL1, e_ixL2, e_ixL3, e_ixL4, e_callP, e_callE, e_allP, e_allP0, e_tup, e_lst, e_par, List.map_cons, List.map_nil, List.append_assoc, List.nil_append, List.cons_append, List.replicate, List.getElem?_cons_zero, List.getElem?_cons_succ, List.set_cons_zero, List.set_cons_succ, Option.map_some, if_true, if_false, Bool.false_eq_true, decide_eq_true_eq, List.length_cons, List.length_nil, bg0, bg1, bg2, bg3, bg4, bg5, bg6, bg7, bg8, bg9, bg10, bg11, bg12, bg13, bg14, z, e4, e_sFor, it, e3]
theorem sx0 {mR : List DL.D → DL.PO} : SX (runP 6 (b_sets_of mR)) 0 := fun q ps _ _ _ => by unfold setsL; exact sets_zero
theorem sets_SX {n : Nat} (hn : n ≤ 3) : SX m_sets_of n := by
  have a1 : SX m_sets_of1 0 := sx0
  have a2 : SX m_sets_of2 0 := sx0
  have a3 : SX m_sets_of3 0 := sx0
  have b2 : SX m_sets_of2 1 := sx_step a1 (by decide)
  have b3 : SX m_sets_of3 1 := sx_step a2 (by decide)
  have c3 : SX m_sets_of3 2 := sx_step b2 (by decide)
  match n, hn with
  | 0, _ => exact sx0
  | 1, _ => exact sx_step a3 (by decide)
  | 2, _ => exact sx_step b3 (by decide)
  | 3, _ => exact sx_step c3 (by decide)

/-! ### does_fit -/
theorem does_fit_eq {r : Ru} (hr : r.ok) {c : DL.D} {ts : List Tk} (h : ∀ t ∈ ts, t.ok) (hl : ts.length ≤ 100) (hc : isC c (ts.map tkD)) : m_does_fit [.rul (ruD r), c] = .ok (.bl (ts.all (fit r))) := by
  have e1 : dComp [2, 3, 4, 5, 6] (iSeq (dName 1)) (gT 5 (gsCons (gN 2) (gsCons (gN 3) (gsCons (gN 4) (gsCons (gN 5) (gsCons (gN 6) gsNil)))))) cYes (dBin oEq (dCallP m_own_number (aCons (dName 0) (aCons (dName 3) (aCons (dName 4) (aCons (dName 5) aNil))))) (dName 6)) [some (.p (.rul (ruD r))), some (.p c), none, none, none, none, none] []
      = .ok (.p (.lst ((ts.map (fit r)).map DL.D.bl))) [] := by
    refine e_comp (S1 := []) (ds := ts.map tkD) (seq_C hc rfl) (by rw [List.length_map]; unfold big; omega) ?_
    have key := comp_map (t := gT 5 (gsCons (gN 2) (gsCons (gN 3) (gsCons (gN 4) (gsCons (gN 5) (gsCons (gN 6) gsNil)))))) (el := dBin oEq (dCallP m_own_number (aCons (dName 0) (aCons (dName 3) (aCons (dName 4) (aCons (dName 5) aNil))))) (dName 6)) (ρ := [some (.p (.rul (ruD r))), some (.p c), none, none, none, none, none]) (S := [])
      (fun d => match d with | .tup [.int _, .int seats, .int row, .int seat, .int num] => .bl (ownNum r seats row seat == num) | _ => .non) (ds := ts.map tkD) fun d hd => by
        obtain ⟨t, ht, rfl⟩ := List.mem_map.mp hd
        have q := h t ht
        refine ⟨[some (.p (.rul (ruD r))), some (.p c), some (.p (.int t.rows)), some (.p (.int t.seats)), some (.p (.int t.row)), some (.p (.int t.seat)), some (.p (.int t.num))], rfl, ?_⟩
        have e := own_number_eq hr (seats := t.seats) (row := t.row) (seat := t.seat) (mul_l (by have := q.a; have := q.b; have := q.r2; omega))
        simp only [e_seq, e_seq_nx, e_seq_rt, e_seq_ite, e_bind, e_bind_ite, e_toS, e_toS_ite, e_set, e_ret, e_expr, e_nil, e_if, e_name, e_C, e_bin, e_un, e_ifx, e_aNil, e_aCons, e_call, e_cVal, e_cNot, e_cAnd, e_cOr, e_and, e_or, e_not, e_add, e_sub, e_lt, e_le, e_gt, e_ge, e_neg, e_eqi, e_nei, e_isN, e_notN, e_partsE, e_ixT0, e_ixT1, e_ixT2, e_ixT3, e_ixT4, e_ixL0, e_ixL1, e_ixL2, e_ixL3, e_ixL4, e_callP, e_callE, e_allP, e_allP0, e_tup, e_lst, e_par, List.map_cons, List.map_nil, List.append_assoc, List.nil_append, List.cons_append, List.replicate, List.getElem?_cons_zero, List.getElem?_cons_succ, List.set_cons_zero, List.set_cons_succ, Option.map_some, if_true, if_false, Bool.false_eq_true, decide_eq_true_eq, List.length_cons, List.length_nil, bg0, bg1, bg2, bg3, bg4, bg5, bg6, bg7, bg8, bg9, bg10, bg11, bg12, bg13, bg14, e]
        rfl
    have e : (ts.map tkD).map (fun d => match d with | .tup [.int _, .int seats, .int row, .int seat, .int num] => DL.D.bl (ownNum r seats row seat == num) | _ => .non) = (ts.map (fit r)).map DL.D.bl := by
      rw [List.map_map, List.map_map]
      exact List.map_congr_left fun t _ => rfl
    rw [e] at key
    exact key
  have e2 := all_map (bs := ts.map (fit r)) (S := [])
  have e3 : (ts.map (fit r)).all id = ts.all (fit r) := by rw [List.all_map]; rfl
  rw [e3] at e2
  simp only [m_does_fit, runP, init, b_does_fit, e_seq, e_seq_nx, e_seq_rt, e_seq_ite, e_bind, e_bind_ite, e_toS, e_toS_ite, e_set, e_ret, e_expr, e_nil, e_if, e_name, e_C, e_bin, e_un, e_ifx, e_aNil, e_aCons, e_call, e_cVal, e_cNot, e_cAnd, e_cOr, e_and, e_or, e_not, e_add, e_sub, e_lt, e_le, e_gt, e_ge, e_neg, e_eqi, e_nei, e_isN, e_notN, e_partsE, e_ixT0, e_ixT1, e_ixT2, e_ixT3, e_ixT4, e_ixL0, e_ixL1, e_ixL2, e_ixL3, e_ixL4, e_callP, e_callE, e_allP, e_allP0, e_tup, e_lst, e_par, List.map_cons, List.map_nil, List.append_assoc, List.nil_append, List.cons_append, List.replicate, List.getElem?_cons_zero, List.getElem?_cons_succ, List.set_cons_zero, List.set_cons_succ, Option.map_some, if_true, if_false, Bool.false_eq_true, decide_eq_true_eq, List.length_cons, List.length_nil, bg0, bg1, bg2, bg3, bg4, bg5, bg6, bg7, bg8, bg9, bg10, bg11, bg12, bg13, bg14, e1, e2]

/-! ### mends, exactly -/
theorem toPys_len : ∀ {ds : List DL.D} {es : List PyData}, toPys ds = some es → es.length = ds.length
  | [], es, h => by unfold toPys at h; cases h; rfl
  | d :: ds, es, h => by
    unfold toPys at h
    split at h
    · rename_i e es' h1 h2
      cases h
      rw [List.length_cons, List.length_cons, toPys_len h2]
    · cases h
theorem eqv_nil {es : List PyData} : PyData.eqv (.list es) (.list []) = es.isEmpty := by
  cases es with
  | nil => rfl
  | cons e es => rfl
theorem isEmpty_len {α β : Type} {a : List α} {b : List β} (h : a.length = b.length) : a.isEmpty = b.isEmpty := by
  cases a <;> cases b <;> first | rfl | cases h
theorem list_nil {n : Nat} {ds : List DL.D} (h : PD n (.lst ds)) (hn : n ≤ 64) : (∀ S, oEq (.p (.lst ds)) (.p (.lst [])) S = .ok (.p (.bl ds.isEmpty)) S) ∧ ∀ S, oNe (.p (.lst ds)) (.p (.lst [])) S = .ok (.p (.bl (!ds.isEmpty))) S := by
  obtain ⟨a, a1, a2, a3⟩ := h
  have s1 : SeqAt.shaped a = true := by
    unfold SeqAt.shaped
    simp only [a2, Bool.true_and, decide_eq_true_eq]
    omega
  have s2 : SeqAt.shaped (.list []) = true := by decide +kernel
  obtain ⟨es, rfl, e1⟩ : ∃ es, a = .list es ∧ toPys ds = some es := by
    have a1' := a1
    unfold toPy at a1'
    split at a1'
    · rename_i es he
      cases a1'
      exact ⟨es, rfl, he⟩
    · cases a1'
  have el : es.isEmpty = ds.isEmpty := isEmpty_len (toPys_len e1)
  refine ⟨fun S => ?_, fun S => ?_⟩
  · unfold oEq
    rw [show vPy S (.p (.lst ds)) = some (.list es) from a1, show vPy S (.p (.lst [])) = some (.list []) from rfl]
    dsimp only
    rw [if_pos ⟨s1, s2⟩, eqv_nil, el]
  · unfold oNe
    rw [show vPy S (.p (.lst ds)) = some (.list es) from a1, show vPy S (.p (.lst [])) = some (.list []) from rfl]
    dsimp only
    rw [if_pos ⟨s1, s2⟩, eqv_nil, el]
theorem cg_PD {c : Cg} (hc : c.ok) : PD 1 (cgD c) := PD.tup fun d hd => by
  rcases List.mem_cons.mp hd with rfl | hd
  · cases c with
    | s z => exact PD.str (z := "start") (by decide +kernel)
    | r z => exact PD.str (z := "rows") (by decide +kernel)
    | w z => exact PD.str (z := "ways") (by decide +kernel)
    | o z => exact PD.str (z := "out") (by decide +kernel)
    | k z => exact PD.str (z := "kind") (by decide +kernel)
  · rw [List.mem_singleton.mp hd]
    cases c with
    | s z => rcases hc with rfl | rfl | rfl <;> exact PD.str (by decide +kernel)
    | r z => rcases hc with rfl | rfl <;> exact PD.str (by decide +kernel)
    | w z => rcases hc with rfl | rfl <;> exact PD.str (by decide +kernel)
    | o i => exact PD.int
    | k z => rcases hc with rfl | rfl <;> exact PD.str (by decide +kernel)
theorem cs_PD {cs : List Cg} (h : Gd cs) : PD 2 (csD cs) := PD.tup fun d hd => by
  obtain ⟨c, hc, rfl⟩ := List.mem_map.mp hd
  exact cg_PD (h c hc)
theorem css_PD {css : List (List Cg)} (h : ∀ cs ∈ css, Gd cs) : PD 3 (.lst (css.map csD)) := PD.lst fun d hd => by
  obtain ⟨cs, hc, rfl⟩ := List.mem_map.mp hd
  exact cs_PD (h cs hc)
/-- the first list that is not empty -/
def fstN {α : Type} (f : Nat → List α) : Nat → Nat → List α
  | _, 0 => []
  | n, k + 1 => if (f n).isEmpty = true then fstN f (n + 1) k else f n
theorem fstN_mem {α : Type} {f : Nat → List α} : ∀ {n k : Nat} {x : α}, x ∈ fstN f n k → ∃ m, n ≤ m ∧ m < n + k ∧ fstN f n k = f m
  | n, 0, x, h => by unfold fstN at h; cases h
  | n, k + 1, x, h => by
    unfold fstN at h ⊢
    split at h
    · rename_i he
      obtain ⟨m, h1, h2, h3⟩ := fstN_mem h
      rw [if_pos he]
      exact ⟨m, by omega, by omega, h3⟩
    · rename_i he
      rw [if_neg he]
      exact ⟨n, Nat.le_refl _, by omega, rfl⟩
theorem fstN_perm {α : Type} {f g : Nat → List α} : ∀ {n k : Nat}, (∀ m, n ≤ m → m < n + k → (f m).Perm (g m)) → (fstN f n k).Perm (fstN g n k)
  | n, 0, _ => .refl _
  | n, k + 1, h => by
    have p := h n (Nat.le_refl _) (by omega)
    have e : (f n).isEmpty = (g n).isEmpty := isEmpty_len p.length_eq
    have r := fstN_perm (f := f) (g := g) (n := n + 1) (k := k) fun m h1 h2 => h m (by omega) (by omega)
    unfold fstN
    rw [e]
    split
    · exact r
    · exact p
def fitC (q : Ru) (ts : List Tk) (cs : List Cg) : Bool := ts.all (fit (q.sets cs))
def fF (q : Ru) (ts : List Tk) (n : Nat) : List (List Cg) := (setsL q n PT).filter (fitC q ts)
theorem fF_mem {q : Ru} {ts : List Tk} {n : Nat} {cs : List Cg} (h : cs ∈ fF q ts n) : Gd cs ∧ cs.length = n := by
  obtain ⟨h1, h2⟩ := setsL_mem (q := q) (n := n) (ps := PT) (fun _ h => h) cs (List.mem_filter.mp h).1
  exact ⟨fun c hc => (h1 c hc).1, h2⟩
def EM (q : Ru) (c : DL.D) (l : Int) (x4 x5 : Option Dv) : Nv := [some (.p (.rul (ruD q))), some (.p c), some (.p (.int l)), some (.p (.lst (PT.map DL.D.str))), x4, x5, none]
def pfit (q : Ru) (c d : DL.D) : Bool := match m_changed [.rul (ruD q), d] with
  | .ok r => (match m_does_fit [r, c] with | .ok (.bl b) => b | _ => false)
  | _ => false
theorem pfit_eq {q : Ru} (hq : q.ok) {c : DL.D} {ts : List Tk} (ht : ∀ t ∈ ts, t.ok) (htl : ts.length ≤ 100) (hc : isC c (ts.map tkD)) {cs : List Cg} (g : Gd cs) : pfit q c (csD cs) = fitC q ts cs := by
  unfold pfit
  rw [changed_eq hq g]
  show (match m_does_fit [.rul (ruD (q.sets cs)), c] with | .ok (.bl b) => b | _ => false) = _
  rw [does_fit_eq (Ru.sets_ok hq g) ht htl hc]
  rfl
theorem mends_comp {q : Ru} (hq : q.ok) {c : DL.D} {ts : List Tk} (ht : ∀ t ∈ ts, t.ok) (htl : ts.length ≤ 100) (hc : isC c (ts.map tkD)) {l : Int} {n : Nat} (hn : n ≤ 3) {x5 : Option Dv} :
    dComp [6] (iSeq (dCallP m_sets_of (aCons (dName 0) (aCons (dName 3) (aCons (dName 4) aNil))))) (gN 6) (cVal (dCallP m_does_fit (aCons (dCallP m_changed (aCons (dName 0) (aCons (dName 6) aNil))) (aCons (dName 1) aNil)))) (dName 6) (EM q c l (some (.p (.int (n : Nat)))) x5) []
      = .ok (.p (.lst ((fF q ts n).map csD))) [] := by
  have e1 := sets_SX hn q PT hq (fun _ h => h) (by decide)
  have l1 := setsL_len (q := q) n PT (by decide)
  have g1 : ∀ cs ∈ setsL q n PT, Gd cs := fun cs h => fun c hc => ((setsL_mem (q := q) (n := n) (ps := PT) (fun _ h => h) cs h).1 c hc).1
  have hbig : 65 ^ n ≤ 65 ^ 3 := Nat.pow_le_pow_right (by decide) hn
  unfold fF
  generalize setsL q n PT = css at *
  refine e_compF (S1 := []) (ds := css.map csD) (seq_C (.inl rfl) ?_) (by rw [List.length_map]; unfold big; omega) ?_
  · unfold EM
    generalize PT.map DL.D.str = PS at *
    simp only [e_seq, e_seq_nx, e_seq_rt, e_seq_ite, e_bind, e_bind_ite, e_toS, e_toS_ite, e_set, e_ret, e_expr, e_nil, e_if, e_name, e_C, e_bin, e_un, e_ifx, e_aNil, e_aCons, e_call, e_cVal, e_cNot, e_cAnd, e_cOr, e_and, e_or, e_not, e_add, e_sub, e_lt, e_le, e_gt, e_ge, e_neg, e_eqi, e_nei, e_isN, e_notN, e_partsE, e_ixT0, e_ixT1, e_ixT2, e_ixT3, e_ixT4, e_ixL0, e_ixL1, e_ixL2, e_ixL3, e_ixL4, e_callP, e_callE, e_allP, e_allP0, e_tup, e_lst, e_par, List.map_cons, List.map_nil, List.append_assoc, List.nil_append, List.cons_append, List.replicate, List.getElem?_cons_zero, List.getElem?_cons_succ, List.set_cons_zero, List.set_cons_succ, Option.map_some, if_true, if_false, Bool.false_eq_true, decide_eq_true_eq, List.length_cons, List.length_nil, bg0, bg1, bg2, bg3, bg4, bg5, bg6, bg7, bg8, bg9, bg10, bg11, bg12, bg13, bg14, e1]
  · have key := comp_filter (t := gN 6) (cf := cVal (dCallP m_does_fit (aCons (dCallP m_changed (aCons (dName 0) (aCons (dName 6) aNil))) (aCons (dName 1) aNil)))) (el := dName 6) (ρ := wipeN (EM q c l (some (.p (.int (n : Nat)))) x5) [6]) (S := [])
      (pfit q c) id (ds := css.map csD) fun d hd => by
        obtain ⟨cs, hcs, rfl⟩ := List.mem_map.mp hd
        have k1 := changed_eq hq (g1 cs hcs)
        have k2 := does_fit_eq (Ru.sets_ok hq (g1 cs hcs)) ht htl hc
        refine ⟨[some (.p (.rul (ruD q))), some (.p c), some (.p (.int l)), some (.p (.lst (PT.map DL.D.str))), some (.p (.int (n : Nat))), x5, some (.p (csD cs))], rfl, ?_, fun _ => rfl⟩
        rw [pfit_eq hq ht htl hc (g1 cs hcs)]
        unfold fitC
        generalize PT.map DL.D.str = PS at *
        generalize csD cs = CS at *
        simp only [e_seq, e_seq_nx, e_seq_rt, e_seq_ite, e_bind, e_bind_ite, e_toS, e_toS_ite, e_set, e_ret, e_expr, e_nil, e_if, e_name, e_C, e_bin, e_un, e_ifx, e_aNil, e_aCons, e_call, e_cVal, e_cNot, e_cAnd, e_cOr, e_and, e_or, e_not, e_add, e_sub, e_lt, e_le, e_gt, e_ge, e_neg, e_eqi, e_nei, e_isN, e_notN, e_partsE, e_ixT0, e_ixT1, e_ixT2, e_ixT3, e_ixT4, e_ixL0, e_ixL1, e_ixL2, e_ixL3, e_ixL4, e_callP, e_callE, e_allP, e_allP0, e_tup, e_lst, e_par, List.map_cons, List.map_nil, List.append_assoc, List.nil_append, List.cons_append, List.replicate, List.getElem?_cons_zero, List.getElem?_cons_succ, List.set_cons_zero, List.set_cons_succ, Option.map_some, if_true, if_false, Bool.false_eq_true, decide_eq_true_eq, List.length_cons, List.length_nil, bg0, bg1, bg2, bg3, bg4, bg5, bg6, bg7, bg8, bg9, bg10, bg11, bg12, bg13, bg14, k1, k2]
    rw [List.map_id, List.filter_map] at key
    rw [show css.filter (fitC q ts) = css.filter (pfit q c ∘ csD) from List.filter_congr fun cs hcs => (pfit_eq hq ht htl hc (g1 cs hcs)).symm]
    exact key
theorem sortP_eq {S : Sto} : nSortP [.p (.tup t_POINTS)] S = .ok (.p (.lst (PT.map DL.D.str))) S := by
  unfold nSortP
  dsimp only
  exact if_pos rfl
theorem EM_rng {q : Ru} {c : DL.D} {l : Nat} (hl : l ≤ 3) : DL.iRng1 (dBin oAdd (dName 2) (dC (.int 1))) (EM q c (l : Nat) none none) [] = .ok (rngD 0 (l + 1)) [] := by
  have := e_rng1 (f := dBin oAdd (dName 2) (dC (.int 1))) (ρ := EM q c (l : Nat) none none) (S := []) (S1 := []) (j := (l : Int) + 1) rfl (by omega)
  rw [this]
  congr 2
theorem mends_turn {q : Ru} (hq : q.ok) {c : DL.D} {ts : List Tk} (ht : ∀ t ∈ ts, t.ok) (htl : ts.length ≤ 100) (hc : isC c (ts.map tkD)) {l : Int} {n : Nat} (hn : n ≤ 3) {x5 : Option Dv} :
    (sSeq (sSet 5 (dComp [6] (iSeq (dCallP m_sets_of (aCons (dName 0) (aCons (dName 3) (aCons (dName 4) aNil))))) (gN 6) (cVal (dCallP m_does_fit (aCons (dCallP m_changed (aCons (dName 0) (aCons (dName 6) aNil))) (aCons (dName 1) aNil)))) (dName 6))) (sIf (cVal (dBin oNe (dName 5) (dLst aNil))) (sRet (dName 5)) sNil)) (EM q c l (some (.p (.int (n : Nat)))) x5) [] = .ok (if (fF q ts n).isEmpty = true then .nx (EM q c l (some (.p (.int (n : Nat)))) (some (.p (.lst ((fF q ts n).map csD))))) else .rt (.p (.lst ((fF q ts n).map csD)))) [] := by
  have e3 := mends_comp hq ht htl hc (l := l) (n := n) hn (x5 := x5)
  have hb := (list_nil (css_PD fun cs h => (fF_mem (q := q) (ts := ts) (n := n) (cs := cs) h).1) (by decide)).2 []
  rw [show (List.map csD (fF q ts n)).isEmpty = (fF q ts n).isEmpty from isEmpty_len (List.length_map ..)] at hb
  unfold EM at *
  generalize fF q ts n = CF at *
  generalize CF.map csD = CC at *
  generalize PT.map DL.D.str = PS at *
  cases b : CF.isEmpty with
  | true =>
    rw [b] at hb
    simp only [e_seq, e_seq_nx, e_seq_rt, e_seq_ite, e_bind, e_bind_ite, e_toS, e_toS_ite, e_set, e_ret, e_expr, e_nil, e_if, e_name, e_C, e_bin, e_un, e_ifx, e_aNil, e_aCons, e_call, e_cVal, e_cNot, e_cAnd, e_cOr, e_and, e_or, e_not, e_add, e_sub, e_lt, e_le, e_gt, e_ge, e_neg, e_eqi, e_nei, e_isN, e_notN, e_partsE, e_ixT0, e_ixT1, e_ixT2, e_ixT3, e_ixT4, e_ixL0, e_ixL1, e_ixL2, e_ixL3, e_ixL4, e_callP, e_callE, e_allP, e_allP0, e_tup, e_lst, e_par, List.map_cons, List.map_nil, List.append_assoc, List.nil_append, List.cons_append, List.replicate, List.getElem?_cons_zero, List.getElem?_cons_succ, List.set_cons_zero, List.set_cons_succ, Option.map_some, if_true, if_false, Bool.false_eq_true, decide_eq_true_eq, List.length_cons, List.length_nil, bg0, bg1, bg2, bg3, bg4, bg5, bg6, bg7, bg8, bg9, bg10, bg11, bg12, bg13, bg14, e3, hb, Bool.not_true, if_true]
  | false =>
    rw [b] at hb
    simp only [e_seq, e_seq_nx, e_seq_rt, e_seq_ite, e_bind, e_bind_ite, e_toS, e_toS_ite, e_set, e_ret, e_expr, e_nil, e_if, e_name, e_C, e_bin, e_un, e_ifx, e_aNil, e_aCons, e_call, e_cVal, e_cNot, e_cAnd, e_cOr, e_and, e_or, e_not, e_add, e_sub, e_lt, e_le, e_gt, e_ge, e_neg, e_eqi, e_nei, e_isN, e_notN, e_partsE, e_ixT0, e_ixT1, e_ixT2, e_ixT3, e_ixT4, e_ixL0, e_ixL1, e_ixL2, e_ixL3, e_ixL4, e_callP, e_callE, e_allP, e_allP0, e_tup, e_lst, e_par, List.map_cons, List.map_nil, List.append_assoc, List.nil_append, List.cons_append, List.replicate, List.getElem?_cons_zero, List.getElem?_cons_succ, List.set_cons_zero, List.set_cons_succ, Option.map_some, if_true, if_false, Bool.false_eq_true, decide_eq_true_eq, List.length_cons, List.length_nil, bg0, bg1, bg2, bg3, bg4, bg5, bg6, bg7, bg8, bg9, bg10, bg11, bg12, bg13, bg14, e3, hb, Bool.not_false, if_true, if_false, Bool.false_eq_true]
theorem mends_loop {q : Ru} (hq : q.ok) {c : DL.D} {ts : List Tk} (ht : ∀ t ∈ ts, t.ok) (htl : ts.length ≤ 100) (hc : isC c (ts.map tkD)) {l : Int} : ∀ (k n : Nat) (x4 x5 : Option Dv), n + k ≤ 4 →
    forL (gN 4) (sSeq (sSet 5 (dComp [6] (iSeq (dCallP m_sets_of (aCons (dName 0) (aCons (dName 3) (aCons (dName 4) aNil))))) (gN 6) (cVal (dCallP m_does_fit (aCons (dCallP m_changed (aCons (dName 0) (aCons (dName 6) aNil))) (aCons (dName 1) aNil)))) (dName 6))) (sIf (cVal (dBin oNe (dName 5) (dLst aNil))) (sRet (dName 5)) sNil)) (rngD n k) (EM q c l x4 x5) [] = .ok (.rt (.p (.lst ((fstN (fF q ts) n k).map csD)))) [] ∨ (fstN (fF q ts) n k = [] ∧ ∃ y4 y5, forL (gN 4) (sSeq (sSet 5 (dComp [6] (iSeq (dCallP m_sets_of (aCons (dName 0) (aCons (dName 3) (aCons (dName 4) aNil))))) (gN 6) (cVal (dCallP m_does_fit (aCons (dCallP m_changed (aCons (dName 0) (aCons (dName 6) aNil))) (aCons (dName 1) aNil)))) (dName 6))) (sIf (cVal (dBin oNe (dName 5) (dLst aNil))) (sRet (dName 5)) sNil)) (rngD n k) (EM q c l x4 x5) [] = .ok (.nx (EM q c l y4 y5)) [])
  | 0, n, x4, x5, _ => .inr ⟨rfl, x4, x5, rfl⟩
  | k + 1, n, x4, x5, h => by
    have t := mends_turn hq ht htl hc (l := l) (n := n) (by omega) (x5 := x5)
    have ih := mends_loop hq ht htl hc (l := l) k (n + 1) (some (.p (.int (n : Nat)))) (some (.p (.lst ((fF q ts n).map csD)))) (by omega)
    have er : rngD (n : Nat) (k + 1) = DL.D.int (n : Nat) :: rngD ((n + 1 : Nat) : Int) k := by
      unfold rngD
      rw [List.range_succ_eq_map, List.map_cons, List.map_map]
      refine congr (congrArg List.cons (by congr 1)) (List.map_congr_left fun i _ => ?_)
      show DL.D.int ((n : Int) + ((i + 1 : Nat) : Int)) = DL.D.int (((n + 1 : Nat) : Int) + (i : Nat))
      congr 1
      omega
    rw [er]
    cases b : (fF q ts n).isEmpty with
    | true =>
      rw [b, if_pos rfl] at t
      have ef : fstN (fF q ts) n (k + 1) = fstN (fF q ts) (n + 1) k := by
        conv => lhs; unfold fstN
        rw [if_pos b]
      rw [ef, forL_step (ρ1 := EM q c l (some (.p (.int (n : Nat)))) x5) rfl t]
      exact ih
    | false =>
      rw [b, if_neg (by decide)] at t
      have ef : fstN (fF q ts) n (k + 1) = fF q ts n := by
        conv => lhs; unfold fstN
        rw [if_neg (by rw [b]; decide)]
      rw [ef]
      refine .inl ?_
      unfold forL
      show (match (sSeq (sSet 5 (dComp [6] (iSeq (dCallP m_sets_of (aCons (dName 0) (aCons (dName 3) (aCons (dName 4) aNil))))) (gN 6) (cVal (dCallP m_does_fit (aCons (dCallP m_changed (aCons (dName 0) (aCons (dName 6) aNil))) (aCons (dName 1) aNil)))) (dName 6))) (sIf (cVal (dBin oNe (dName 5) (dLst aNil))) (sRet (dName 5)) sNil)) (EM q c l (some (.p (.int (n : Nat)))) x5) [] with | .ok (.nx ρ') S' => forL _ _ (rngD ((n + 1 : Nat) : Int) k) ρ' S' | .ok (.ct ρ') S' => forL _ _ (rngD ((n + 1 : Nat) : Int) k) ρ' S' | .ok (.bk ρ') S' => .ok (.nx ρ') S' | .ok (.rt d) S' => .ok (.rt d) S' | .exc x ρ' S' => .exc x ρ' S' | .bad => .bad) = _
      rw [t]
theorem mends_run {a c : DL.D} {l : Int} {PS EN : List DL.D} {r : OS} {v : DL.D} (e0 : m_is_integer [.int l, .int 0, .int 3] = .ok (.bl true)) (e1 : m_look_at_tickets [c] = .ok .non) (e2 : ∀ S, nSortP [.p (.tup t_POINTS)] S = .ok (.p (.lst PS)) S)
    (it : DL.iRng1 (dBin oAdd (dName 2) (dC (.int 1))) [some (.p a), some (.p c), some (.p (.int l)), some (.p (.lst PS)), none, none, none] [] = .ok EN [])
    (e4 : forL (gN 4) (sSeq (sSet 5 (dComp [6] (iSeq (dCallP m_sets_of (aCons (dName 0) (aCons (dName 3) (aCons (dName 4) aNil))))) (gN 6) (cVal (dCallP m_does_fit (aCons (dCallP m_changed (aCons (dName 0) (aCons (dName 6) aNil))) (aCons (dName 1) aNil)))) (dName 6))) (sIf (cVal (dBin oNe (dName 5) (dLst aNil))) (sRet (dName 5)) sNil)) EN [some (.p a), some (.p c), some (.p (.int l)), some (.p (.lst PS)), none, none, none] [] = r)
    (hr : (match r.seq (sRet (dLst aNil)) with
      | .ok (.rt (.p d)) _ => DL.PO.ok d
      | .ok (.rt (.hnd i)) S => (match S[i]? with
        | some (.lst es) => .ok (.lst es)
        | _ => .bad)
      | .ok (.nx _) _ => .ok .non
      | .ok _ _ => .bad
      | .exc x _ _ => .exc x
      | .bad => .bad) = .ok v) : m_mends [a, c, .int l] = .ok v := by
  rw [← hr]
  unfold m_mends runP b_mends init
  generalize (sSeq (sSet 5 (dComp [6] (iSeq (dCallP m_sets_of (aCons (dName 0) (aCons (dName 3) (aCons (dName 4) aNil))))) (gN 6) (cVal (dCallP m_does_fit (aCons (dCallP m_changed (aCons (dName 0) (aCons (dName 6) aNil))) (aCons (dName 1) aNil)))) (dName 6))) (sIf (cVal (dBin oNe (dName 5) (dLst aNil))) (sRet (dName 5)) sNil)) = BD at e4 ⊢
  generalize m_look_at_tickets = LT at e1 ⊢
  generalize m_is_integer = II at e0 ⊢
  generalize t_POINTS = TP at e2 ⊢
  generalize sRet (dLst aNil) = LA at ⊢
  simp only [e_seq, e_seq_nx, e_seq_rt, e_seq_ite, e_bind, e_bind_ite, e_toS, e_toS_ite, e_set, e_ret, e_expr, e_nil, e_if, e_name, e_C, e_bin, e_un, e_ifx, e_aNil, e_aCons, e_call, e_cVal, e_cNot, e_cAnd, e_cOr, e_and, e_or, e_not, e_add, e_sub, e_lt, e_le, e_gt, e_ge, e_neg, e_eqi, e_nei, e_isN, e_notN, e_partsE, e_ixT0, e_ixT1, e_ixT2, e_ixT3, e_ixT4, e_ixL0, e_ixL1, e_ixL2, e_ixL3, e_ixL4, e_callP, e_callE, e_allP, e_allP0, e_tup, e_lst, e_par, List.map_cons, List.map_nil, List.append_assoc, List.nil_append, List.cons_append, List.replicate, List.getElem?_cons_zero, List.getElem?_cons_succ, List.set_cons_zero, List.set_cons_succ, Option.map_some, if_true, if_false, Bool.false_eq_true, decide_eq_true_eq, List.length_cons, List.length_nil, bg0, bg1, bg2, bg3, bg4, bg5, bg6, bg7, bg8, bg9, bg10, bg11, bg12, bg13, bg14, Bool.not_true, e0, e1, e2, e_sFor, it, e4]
  all_goals
    generalize r.seq LA = Z
    cases Z with
    | ok fl S => cases fl with
      | rt d => cases d <;> rfl
      | _ => rfl
    | _ => rfl
theorem mends_eqX {q : Ru} (hq : q.ok) {c : DL.D} {ts : List Tk} (ht : ∀ t ∈ ts, t.ok) (htl : ts.length ≤ 100) (hc : isC c (ts.map tkD)) {l : Nat} (hl : l ≤ 3) : m_mends [.rul (ruD q), c, .int (l : Nat)] = .ok (.lst ((fstN (fF q ts) 0 (l + 1)).map csD)) := by
  have e0 : m_is_integer [.int (l : Nat), .int 0, .int 3] = .ok (.bl true) := is_integer_in (by omega) (by omega)
  have e1 := look_tickets ht hc
  have e2 := fun S => sortP_eq (S := S)
  have it := EM_rng (q := q) (c := c) hl
  have L := mends_loop hq ht htl hc (l := (l : Nat)) (l + 1) 0 none none (by omega)
  unfold EM at L it
  generalize fstN (fF q ts) 0 (l + 1) = FF at *
  rcases L with e4 | ⟨rfl, y4, y5, e4⟩
  · generalize FF.map csD = CC at *
    generalize PT.map DL.D.str = PS at *
    exact mends_run e0 e1 e2 it e4 rfl
  · generalize PT.map DL.D.str = PS at *
    exact mends_run e0 e1 e2 it e4 rfl

/-! ### the law's own account -/
def SP : DL.D := .dsi [("start", 0), ("rows", 1), ("ways", 2), ("out", 3), ("kind", 4)]
def VALS : List DL.D := PT.map fun p => .tup [.str p, .lst ((vls p).map Cg.val)]
theorem law_values_eq : m_law_values [] = .ok (.lst VALS) := by kernel_rfl
theorem ne_i (i j : Int) (S : Sto) : oNe (.p (.int i)) (.p (.int j)) S = .ok (.p (.bl (!(i == j)))) S := rfl
theorem ne_own {q : Ru} (h : q.ok) {p : Str} (hp : p ∈ PT) {c : Cg} (hc : c ∈ vls p) {x1 x2 x5 x6 x8 : Option Dv} {S : Sto} :
    dBin oNe (dName 7) (dBin oIx (dName 0) (dIxSI (dName 3) (dName 4))) [some (.p (.lst (ruD q))), x1, x2, some (.p SP), some (.p (.str p)), x5, x6, some (.p c.val), x8] S = .ok (.p (.bl (!c.le q))) S := by
  obtain ⟨s, r, w, o, k⟩ := q
  obtain ⟨h1, h2, h3, h4, h5⟩ := h
  dsimp only at h1 h2 h3 h4 h5
  unfold PT at hp
  simp only [List.mem_cons, List.not_mem_nil, or_false] at hp
  rcases hp with rfl | rfl | rfl | rfl | rfl
  · rcases List.mem_cons.mp (show c ∈ [Cg.k "always", .k "once"] from hc) with rfl | hc
    · rcases h5 with rfl | rfl <;> kernel_rfl
    · rw [List.mem_singleton.mp hc]
      rcases h5 with rfl | rfl <;> kernel_rfl
  · obtain ⟨i, hi, rfl⟩ := List.mem_map.mp (show c ∈ ([0, 2, 3, 4, 5, 6, 7, 8, 9, 10, 11, 12, 13] : List Int).map Cg.o from hc)
    have e : dBin oNe (dName 7) (dBin oIx (dName 0) (dIxSI (dName 3) (dName 4))) [some (.p (.lst (ruD ⟨s, r, w, o, k⟩))), x1, x2, some (.p SP), some (.p (.str "out")), x5, x6, some (.p (Cg.o i).val), x8] S = oNe (.p (.int i)) (.p (.int o)) S := by kernel_rfl
    rw [e, ne_i]
    have : (i == o) = decide (i = o) := by by_cases h : i = o <;> simp [h]
    rw [this]
    rfl
  · rcases List.mem_cons.mp (show c ∈ [Cg.r "anew", .r "on"] from hc) with rfl | hc
    · rcases h2 with rfl | rfl <;> kernel_rfl
    · rw [List.mem_singleton.mp hc]
      rcases h2 with rfl | rfl <;> kernel_rfl
  · rcases List.mem_cons.mp (show c ∈ [Cg.s "left", .s "middle", .s "right"] from hc) with rfl | hc
    · rcases h1 with rfl | rfl | rfl <;> kernel_rfl
    · rcases List.mem_cons.mp hc with rfl | hc
      · rcases h1 with rfl | rfl | rfl <;> kernel_rfl
      · rw [List.mem_singleton.mp hc]
        rcases h1 with rfl | rfl | rfl <;> kernel_rfl
  · rcases List.mem_cons.mp (show c ∈ [Cg.w "fro", .w "same"] from hc) with rfl | hc
    · rcases h3 with rfl | rfl <;> kernel_rfl
    · rw [List.mem_singleton.mp hc]
      rcases h3 with rfl | rfl <;> kernel_rfl
def EC (q : Ru) (x1 : Option Dv) (F : List (List Cg)) (x4 x5 x6 x7 x8 : Option Dv) : Nv := [some (.p (.lst (ruD q))), x1, some (.p (.lst (F.map csD))), some (.p SP), x4, x5, x6, x7, x8]
theorem lawc_comp {q : Ru} {x1 x5 x6 x8 : Option Dv} {F : List (List Cg)} {c : Cg} (hF : F.length ≤ 2000000) (hm : ∀ cs ∈ F, cs.length ≤ 5) : dComp [8] (iSeq (dName 2)) (gN 8) cYes (dBin oCatA (dName 8) (dTup (aCons (dTup (aCons (dName 4) (aCons (dName 7) aNil))) aNil))) (EC q x1 F (some (.p (.str c.pt))) x5 x6 (some (.p c.val)) x8) [] = .ok (.p (.lst ((F.map (· ++ [c])).map csD))) [] := by
  refine e_comp (S1 := []) (ds := F.map csD) (seq_C (.inl rfl) rfl) (by rw [List.length_map]; unfold big; omega) ?_
  have k2 := comp_map (t := gN 8) (el := dBin oCatA (dName 8) (dTup (aCons (dTup (aCons (dName 4) (aCons (dName 7) aNil))) aNil))) (ρ := wipeN (EC q x1 F (some (.p (.str c.pt))) x5 x6 (some (.p c.val)) x8) [8]) (S := [])
    (fun d => match d with | .tup ds => .tup (ds ++ [cgD c]) | _ => .non) (ds := F.map csD) fun d hd => by
      obtain ⟨cs, hcs, rfl⟩ := List.mem_map.mp hd
      refine ⟨EC q x1 F (some (.p (.str c.pt))) x5 x6 (some (.p c.val)) (some (.p (csD cs))), rfl, ?_⟩
      have e1 : oCatA (.p (csD cs)) (.p (.tup [cgD c])) [] = .ok (.p (.tup (cs.map cgD ++ [cgD c]))) [] := by
        show (if (cs.map cgD).length + 1 ≤ big then Out.ok (Dv.p (.tup (cs.map cgD ++ [cgD c]))) ([] : Sto) else .bad) = _
        rw [if_pos (by rw [List.length_map]; have := hm cs hcs; unfold big; omega)]
      exact e1
  rw [List.map_map] at k2 ⊢
  rw [List.map_congr_left (f := (fun d => match d with | .tup ds => .tup (ds ++ [cgD c]) | _ => .non) ∘ csD) (g := csD ∘ fun x => x ++ [c]) fun cs _ => by
    show DL.D.tup (cs.map cgD ++ [cgD c]) = DL.D.tup ((cs ++ [c]).map cgD)
    rw [List.map_append]
    rfl] at k2
  exact k2
theorem e_addl {a b : List DL.D} (h : a.length + b.length ≤ 5000000) {S : Sto} : oAdd (.p (.lst a)) (.p (.lst b)) S = .ok (.p (.lst (a ++ b))) S := by
  show (if a.length + b.length ≤ big then _ else _) = _
  rw [if_pos (by unfold big; omega)]
theorem lawc_vals {q : Ru} (h : q.ok) {p : Str} (hp : p ∈ PT) {x1 x5 : Option Dv} {F : List (List Cg)} (hF : F.length ≤ 2000000) (hm : ∀ cs ∈ F, cs.length ≤ 5) : ∀ (cs : List Cg) (L : List (List Cg)) (x7 x8 : Option Dv), (∀ c ∈ cs, c ∈ vls p) → L.length + cs.length * F.length ≤ 5000000 →
    ∃ y7 y8, forL (gN 7) (sIf (cVal (dBin oNe (dName 7) (dBin oIx (dName 0) (dIxSI (dName 3) (dName 4))))) (sSet 6 (dBin oAdd (dName 6) (dComp [8] (iSeq (dName 2)) (gN 8) cYes (dBin oCatA (dName 8) (dTup (aCons (dTup (aCons (dName 4) (aCons (dName 7) aNil))) aNil)))))) sNil) (cs.map Cg.val) (EC q x1 F (some (.p (.str p))) x5 (some (.p (.lst (L.map csD)))) x7 x8) [] = .ok (.nx (EC q x1 F (some (.p (.str p))) x5 (some (.p (.lst ((L ++ (cs.filter fun c => !c.le q).flatMap fun c => F.map (· ++ [c])).map csD)))) y7 y8)) []
  | [], L, x7, x8, _, _ => ⟨x7, x8, by rw [List.filter_nil, List.flatMap_nil, List.append_nil]; rfl⟩
  | c :: cs, L, x7, x8, hc, hl => by
    rw [List.length_cons, Nat.add_mul, Nat.one_mul] at hl
    have e1 := ne_own h hp (hc c List.mem_cons_self) (x1 := x1) (x2 := some (.p (.lst (F.map csD)))) (x5 := x5) (x6 := some (.p (.lst (L.map csD)))) (x8 := x8) (S := [])
    have hpt := (vls_ok hp c (hc c List.mem_cons_self)).2
    cases hb : c.le q with
    | true =>
      rw [hb] at e1
      obtain ⟨y7, y8, e2⟩ := lawc_vals h hp (x1 := x1) (x5 := x5) hF hm cs L (some (.p c.val)) x8 (fun d hd => hc d (List.mem_cons_of_mem _ hd)) (by omega)
      refine ⟨y7, y8, ?_⟩
      rw [List.filter_cons_of_neg (by rw [hb]; decide), List.map_cons, forL_step (ρ1 := EC q x1 F (some (.p (.str p))) x5 (some (.p (.lst (L.map csD)))) (some (.p c.val)) x8) (ρ2 := EC q x1 F (some (.p (.str p))) x5 (some (.p (.lst (L.map csD)))) (some (.p c.val)) x8) (S2 := []) rfl (by
        unfold EC
        rw [e_if]
        unfold cVal
        rw [e1]
        rfl)]
      exact e2
    | false =>
      rw [hb] at e1
      have e3 := lawc_comp (q := q) (x1 := x1) (x5 := x5) (x6 := some (.p (.lst (L.map csD)))) (x8 := x8) (F := F) (c := c) hF hm
      rw [hpt] at e3
      obtain ⟨y7, y8, e2⟩ := lawc_vals h hp (x1 := x1) (x5 := x5) hF hm cs (L ++ F.map (· ++ [c])) (some (.p c.val)) x8 (fun d hd => hc d (List.mem_cons_of_mem _ hd)) (by rw [List.length_append, List.length_map]; omega)
      refine ⟨y7, y8, ?_⟩
      have e4 := e_addl (a := L.map csD) (b := (F.map (· ++ [c])).map csD) (S := []) (by rw [List.length_map, List.length_map, List.length_map]; omega)
      rw [← List.map_append] at e4
      rw [List.filter_cons_of_pos (by rw [hb]; decide), List.flatMap_cons, ← List.append_assoc, List.map_cons, forL_step (ρ1 := EC q x1 F (some (.p (.str p))) x5 (some (.p (.lst (L.map csD)))) (some (.p c.val)) x8) (ρ2 := EC q x1 F (some (.p (.str p))) x5 (some (.p (.lst ((L ++ F.map (· ++ [c])).map csD)))) (some (.p c.val)) x8) (S2 := []) rfl (by
        unfold EC at e3 ⊢
        rw [e_if]
        unfold cVal
        rw [e1]
        generalize (L ++ F.map (· ++ [c])).map csD = R at *
        generalize (F.map (· ++ [c])).map csD = R2 at *
        generalize L.map csD = R3 at *
        generalize F.map csD = R4 at *
        show sSet 6 _ _ _ = _
        simp only [e_seq, e_seq_nx, e_seq_rt, e_seq_ite, e_bind, e_bind_ite, e_toS, e_toS_ite, e_set, e_ret, e_expr, e_nil, e_if, e_name, e_C, e_bin, e_un, e_ifx, e_aNil, e_aCons, e_call, e_cVal, e_cNot, e_cAnd, e_cOr, e_and, e_or, e_not, e_add, e_sub, e_lt, e_le, e_gt, e_ge, e_neg, e_eqi, e_nei, e_isN, e_notN, e_partsE, e_ixT0, e_ixT1, e_ixT2, e_ixT3, e_ixT4, e_ixL0, e_ixL1, e_ixL2, e_ixL3, e_ixL4, e_callP, e_callE, e_allP, e_allP0, e_tup, e_lst, e_par, List.map_cons, List.map_nil, List.append_assoc, List.nil_append, List.cons_append, List.replicate, List.getElem?_cons_zero, List.getElem?_cons_succ, List.set_cons_zero, List.set_cons_succ, Option.map_some, if_true, if_false, Bool.false_eq_true, decide_eq_true_eq, List.length_cons, List.length_nil, bg0, bg1, bg2, bg3, bg4, bg5, bg6, bg7, bg8, bg9, bg10, bg11, bg12, bg13, bg14, e3, e4])]
      exact e2
theorem lawc_pts {q : Ru} (h : q.ok) {x1 : Option Dv} : ∀ (ps : List Str) (F : List (List Cg)) (x4 x5 x6 x7 x8 : Option Dv), (∀ p ∈ ps, p ∈ PT) → F.length * 14 ^ ps.length ≤ 1000000 → (∀ cs ∈ F, cs.length + ps.length ≤ 5) →
    ∃ y4 y5 y6 y7 y8, forL (gT 2 (gsCons (gN 4) (gsCons (gN 5) gsNil))) (sSeq (sSet 6 (dCall nList (aCons (dName 2) aNil))) (sSeq (sFor (iSeq (dName 5)) (gN 7) (sIf (cVal (dBin oNe (dName 7) (dBin oIx (dName 0) (dIxSI (dName 3) (dName 4))))) (sSet 6 (dBin oAdd (dName 6) (dComp [8] (iSeq (dName 2)) (gN 8) cYes (dBin oCatA (dName 8) (dTup (aCons (dTup (aCons (dName 4) (aCons (dName 7) aNil))) aNil)))))) sNil)) (sSet 2 (dName 6)))) (ps.map fun p => .tup [.str p, .lst ((vls p).map Cg.val)]) (EC q x1 F x4 x5 x6 x7 x8) [] = .ok (.nx (EC q x1 (lawAll q F ps) y4 y5 y6 y7 y8)) []
  | [], F, x4, x5, x6, x7, x8, _, _, _ => ⟨x4, x5, x6, x7, x8, rfl⟩
  | p :: ps, F, x4, x5, x6, x7, x8, hp, hl, hm => by
    have hF1 : 14 ^ (p :: ps).length = 14 * 14 ^ ps.length := by rw [List.length_cons, Nat.pow_succ, Nat.mul_comm]
    have hpos : 1 ≤ 14 ^ ps.length := Nat.one_le_pow _ _ (by decide)
    have hF : F.length * 14 ≤ 1000000 := by
      rw [hF1, ← Nat.mul_assoc] at hl
      exact Nat.le_trans (Nat.le_mul_of_pos_right _ hpos) hl
    have ho : (oth q p).length * F.length ≤ 13 * F.length := Nat.mul_le_mul_right _ oth_len
    have hv : (vls p).length ≤ 13 := by
      unfold vls
      split
      · decide
      · split
        · decide
        · split
          · decide
          · split <;> decide
    have hvl : (vls p).length * F.length ≤ 13 * F.length := Nat.mul_le_mul_right _ hv
    have lf : ((oth q p).flatMap fun c => F.map (· ++ [c])).length ≤ (oth q p).length * F.length := flat_len fun c _ => by rw [List.length_map]; exact Nat.le_refl _
    obtain ⟨y7, y8, e1⟩ := lawc_vals h (hp p List.mem_cons_self) (x1 := x1) (x5 := some (.p (.lst ((vls p).map Cg.val)))) (F := F) (by omega) (fun cs hcs => by have := hm cs hcs; omega) (vls p) F x7 x8 (fun c hc => hc) (by omega)
    rw [show ((vls p).filter fun c => !c.le q) = oth q p from rfl] at e1
    obtain ⟨z4, z5, z6, z7, z8, e2⟩ := lawc_pts h (x1 := x1) ps (F ++ (oth q p).flatMap fun c => F.map (· ++ [c])) (some (.p (.str p))) (some (.p (.lst ((vls p).map Cg.val)))) (some (.p (.lst ((F ++ (oth q p).flatMap fun c => F.map (· ++ [c])).map csD)))) y7 y8 (fun x hx => hp x (List.mem_cons_of_mem _ hx)) (by
      rw [List.length_append]
      refine Nat.le_trans (Nat.mul_le_mul_right _ (show F.length + ((oth q p).flatMap fun c => F.map (· ++ [c])).length ≤ F.length * 14 by omega)) ?_
      rw [Nat.mul_assoc, ← hF1]
      exact hl) (fun cs hcs => by
      rcases List.mem_append.mp hcs with hcs | hcs
      · have := hm cs hcs
        rw [List.length_cons] at this
        omega
      · obtain ⟨c, _, hcs⟩ := List.mem_flatMap.mp hcs
        obtain ⟨ds, hd, rfl⟩ := List.mem_map.mp hcs
        have := hm ds hd
        rw [List.length_cons] at this
        rw [List.length_append, List.length_singleton]
        omega)
    refine ⟨z4, z5, z6, z7, z8, ?_⟩
    rw [List.map_cons, forL_step (ρ1 := EC q x1 F (some (.p (.str p))) (some (.p (.lst ((vls p).map Cg.val)))) x6 x7 x8) (ρ2 := EC q x1 (F ++ (oth q p).flatMap fun c => F.map (· ++ [c])) (some (.p (.str p))) (some (.p (.lst ((vls p).map Cg.val)))) (some (.p (.lst ((F ++ (oth q p).flatMap fun c => F.map (· ++ [c])).map csD)))) y7 y8) (S2 := []) rfl (by
      have it : ∀ x6 : Option Dv, iSeq (dName 5) (EC q x1 F (some (.p (.str p))) (some (.p (.lst ((vls p).map Cg.val)))) x6 x7 x8) [] = .ok ((vls p).map Cg.val) [] := fun _ => rfl
      have e0 : nList [.p (.lst (F.map csD))] [] = .ok (.p (.lst (F.map csD))) [] := rfl
      unfold EC at e1 it ⊢
      generalize (F ++ (oth q p).flatMap fun c => F.map (· ++ [c])).map csD = R at *
      generalize F.map csD = R4 at *
      generalize (vls p).map Cg.val = VV at *
      generalize (sIf (cVal (dBin oNe (dName 7) (dBin oIx (dName 0) (dIxSI (dName 3) (dName 4))))) (sSet 6 (dBin oAdd (dName 6) (dComp [8] (iSeq (dName 2)) (gN 8) cYes (dBin oCatA (dName 8) (dTup (aCons (dTup (aCons (dName 4) (aCons (dName 7) aNil))) aNil)))))) sNil) = BD at *
      simp only [e_seq, e_seq_nx, e_seq_rt, e_seq_ite, e_bind, e_bind_ite, e_toS, e_toS_ite, e_set, e_ret, e_expr, e_nil, e_if, e_name, e_C, e_bin, e_un, e_ifx, e_aNil, e_aCons, e_call, e_cVal, e_cNot, e_cAnd, e_cOr, e_and, e_or, e_not, e_add, e_sub, e_lt, e_le, e_gt, e_ge, e_neg, e_eqi, e_nei, e_isN, e_notN, e_partsE, e_ixT0, e_ixT1, e_ixT2, e_ixT3, e_ixT4, e_ixL0, e_ixL1, e_ixL2, e_ixL3, e_ixL4, e_callP, e_callE, e_allP, e_allP0, e_tup, e_lst, e_par, List.map_cons, List.map_nil, List.append_assoc, List.nil_append, List.cons_append, List.replicate, List.getElem?_cons_zero, List.getElem?_cons_succ, List.set_cons_zero, List.set_cons_succ, Option.map_some, if_true, if_false, Bool.false_eq_true, decide_eq_true_eq, List.length_cons, List.length_nil, bg0, bg1, bg2, bg3, bg4, bg5, bg6, bg7, bg8, bg9, bg10, bg11, bg12, bg13, bg14, e0, e_sFor, it, e1])]
    exact e2
theorem law_changes_eq {q : Ru} (h : q.ok) : m_law_changes [.lst (ruD q), .lst VALS] = .ok (.lst ((lawAll q [[]] PT).map csD)) := by
  obtain ⟨y4, y5, y6, y7, y8, e⟩ := lawc_pts h (x1 := some (.p (.lst VALS))) PT [[]] none none none none none (fun _ h => h) (by decide) (fun cs hcs => by rw [List.mem_singleton.mp hcs]; decide)
  have it : ∀ x2 x3 : Option Dv, iSeq (dName 1) [some (.p (.lst (ruD q))), some (.p (.lst VALS)), x2, x3, none, none, none, none, none] [] = .ok VALS [] := fun _ _ => rfl
  unfold EC at e
  have e : forL (gT 2 (gsCons (gN 4) (gsCons (gN 5) gsNil))) (sSeq (sSet 6 (dCall nList (aCons (dName 2) aNil))) (sSeq (sFor (iSeq (dName 5)) (gN 7) (sIf (cVal (dBin oNe (dName 7) (dBin oIx (dName 0) (dIxSI (dName 3) (dName 4))))) (sSet 6 (dBin oAdd (dName 6) (dComp [8] (iSeq (dName 2)) (gN 8) cYes (dBin oCatA (dName 8) (dTup (aCons (dTup (aCons (dName 4) (aCons (dName 7) aNil))) aNil)))))) sNil)) (sSet 2 (dName 6)))) VALS [some (.p (.lst (ruD q))), some (.p (.lst VALS)), some (.p (.lst [.tup []])), some (.p (.dsi [("start", 0), ("rows", 1), ("ways", 2), ("out", 3), ("kind", 4)])), none, none, none, none, none] [] = _ := e
  have e0 : ∀ ρ : Nv, dLst (aCons (dTup aNil) aNil) ρ [] = .ok (.p (.lst [.tup []])) [] := fun _ => rfl
  unfold m_law_changes runP b_law_changes init
  generalize (sSeq (sSet 6 (dCall nList (aCons (dName 2) aNil))) (sSeq (sFor (iSeq (dName 5)) (gN 7) (sIf (cVal (dBin oNe (dName 7) (dBin oIx (dName 0) (dIxSI (dName 3) (dName 4))))) (sSet 6 (dBin oAdd (dName 6) (dComp [8] (iSeq (dName 2)) (gN 8) cYes (dBin oCatA (dName 8) (dTup (aCons (dTup (aCons (dName 4) (aCons (dName 7) aNil))) aNil)))))) sNil)) (sSet 2 (dName 6)))) = BD at *
  generalize (lawAll q [[]] PT).map csD = R at *
  generalize VALS = VV at *
  generalize ruD q = RQ at *
  simp only [e_seq, e_seq_nx, e_seq_rt, e_seq_ite, e_bind, e_bind_ite, e_toS, e_toS_ite, e_set, e_ret, e_expr, e_nil, e_if, e_name, e_C, e_bin, e_un, e_ifx, e_aNil, e_aCons, e_call, e_cVal, e_cNot, e_cAnd, e_cOr, e_and, e_or, e_not, e_add, e_sub, e_lt, e_le, e_gt, e_ge, e_neg, e_eqi, e_nei, e_isN, e_notN, e_partsE, e_ixT0, e_ixT1, e_ixT2, e_ixT3, e_ixT4, e_ixL0, e_ixL1, e_ixL2, e_ixL3, e_ixL4, e_callP, e_callE, e_allP, e_allP0, e_tup, e_lst, e_par, List.map_cons, List.map_nil, List.append_assoc, List.nil_append, List.cons_append, List.replicate, List.getElem?_cons_zero, List.getElem?_cons_succ, List.set_cons_zero, List.set_cons_succ, Option.map_some, if_true, if_false, Bool.false_eq_true, decide_eq_true_eq, List.length_cons, List.length_nil, bg0, bg1, bg2, bg3, bg4, bg5, bg6, bg7, bg8, bg9, bg10, bg11, bg12, bg13, bg14, e0, e_sFor, it, e]

/-! ### tickets drawn, the law's fits -/
theorem law_ticket_eq {r : Ru} (hr : r.ok) {S rest : Sto} (h : Dr S rest) : ∃ (t : Tk) (S' : Sto), t.ok ∧ m_law_ticket [.hnd 1, .p (.lst (ruD r))] S = .ok (.p (tkD t)) S' ∧ Dr S' rest := by
  have ww := wid_big
  obtain ⟨k2, S2, n2, a2, b2, d2⟩ := next_eq h (b := 3) (by decide) (by decide)
  obtain ⟨k4, S4, n4, a4, b4, d4⟩ := next_eq d2 (b := 16) (by decide) (by decide)
  obtain ⟨rows, er⟩ : ∃ rows, 1 + k2 = rows := ⟨_, rfl⟩
  obtain ⟨seats, es⟩ : ∃ seats, 1 + k4 = seats := ⟨_, rfl⟩
  obtain ⟨row, S5, n5, a5, b5, d5⟩ := next_eq d4 (b := rows) (by omega) (by omega)
  obtain ⟨seat, S6, n6, a6, b6, d6⟩ := next_eq d5 (b := seats) (by omega) (by omega)
  obtain ⟨k7, S7, n7, a7, b7, d7⟩ := next_eq d6 (b := 7) (by decide) (by decide)
  obtain ⟨i3, m3, p3⟩ := pickI [0, 0, 0, 0, 0, 1, -1] a7 b7
  simp only [List.map_cons, List.map_nil] at p3
  have m3 : i3 = 0 ∨ i3 = 1 ∨ i3 = -1 := by simpa using m3
  have e1 := law_place_eq hr (seats := seats) (row := row) (seat := seat) (mul_l (by omega))
  have e2 : ∀ p, m_law_number [.lst (ruD r), .int p] = .ok (.int (lawNum r.o r.k p)) := fun p => law_number_eq hr.ho hr.hk
  have e3 := own_same hr (seats := seats) (row := row) (seat := seat) a5
  have hp := pl_hi hr (seats := seats) (row := row) (seat := seat) a5 a6 b6
  have hp0 := pl_lo hr (seats := seats) (row := row) (seat := seat) a5 a6 b6
  have hn : ownNum r seats row seat ≤ 2 * (placeOf r seats row seat) + 2 := num_top hr.ho hp0
  have hm : row * seats ≤ 1000000 * 1000000 := by
    have q1 : row * seats ≤ 1000000 * seats := Int.mul_le_mul_of_nonneg_right (by omega) (by omega)
    omega
  have w2 : ∀ (i j : Int) (S : Sto), nMax2 [.p (.int i), .p (.int j)] S = .ok (.p (.int (if j > i then j else i))) S := fun i j S => rfl
  generalize hg : ownNum r seats row seat = g at *
  refine ⟨⟨rows, seats, row, seat, if g + i3 > 1 then g + i3 else 1⟩, S7, ⟨by dsimp only; omega, by dsimp only; omega, by dsimp only; omega, by dsimp only; omega, a5, b5, a6, b6, by dsimp only; split <;> omega, by dsimp only; split <;> omega⟩, ?_, d7⟩
  unfold tkD
  dsimp only
  simp only [m_law_ticket, runE, init, b_law_ticket, e_seq, e_seq_nx, e_seq_rt, e_seq_ite, e_bind, e_bind_ite, e_toS, e_toS_ite, e_set, e_ret, e_expr, e_nil, e_if, e_name, e_C, e_bin, e_un, e_ifx, e_aNil, e_aCons, e_call, e_cVal, e_cNot, e_cAnd, e_cOr, e_and, e_or, e_not, e_add, e_sub, e_lt, e_le, e_gt, e_ge, e_neg, e_eqi, e_nei, e_isN, e_notN, e_partsE, e_ixT0, e_ixT1, e_ixT2, e_ixT3, e_ixT4, e_ixL0, e_ixL1, e_ixL2, e_ixL3, e_ixL4, e_callP, e_callE, e_allP, e_allP0, e_tup, e_lst, e_par, List.map_cons, List.map_nil, List.append_assoc, List.nil_append, List.cons_append, List.replicate, List.getElem?_cons_zero, List.getElem?_cons_succ, List.set_cons_zero, List.set_cons_succ, Option.map_some, if_true, if_false, Bool.false_eq_true, decide_eq_true_eq, List.length_cons, List.length_nil, bg0, bg1, bg2, bg3, bg4, bg5, bg6, bg7, bg8, bg9, bg10, bg11, bg12, bg13, bg14, n2, n4, er, es, n5, n6, e1, e2, e3, n7, p3, w2]
def fitRes (r : Ru) (d : DL.D) : Option Dv := match d with
  | .tup [.int _, .int seats, .int row, .int seat, .int num] => if (ownNum r seats row seat == num) = true then none else some (.p (.bl false))
  | _ => none
theorem fitRes_tk {r : Ru} {t : Tk} : fitRes r (tkD t) = if fit r t = true then none else some (.p (.bl false)) := rfl
theorem law_fits_eq {r : Ru} (hr : r.ok) {ts : List Tk} (h : ∀ t ∈ ts, t.ok) : m_law_fits [.lst (ruD r), .lst (ts.map tkD)] = .ok (.bl (ts.all (fit r))) := by
  have lp := forL_find (t := gT 5 (gsCons (gN 2) (gsCons (gN 3) (gsCons (gN 4) (gsCons (gN 5) (gsCons (gN 6) gsNil)))))) (body := (sIf (cVal (dBin oNe (dCallP m_law_number (aCons (dName 0) (aCons (dCallP m_law_place (aCons (dName 0) (aCons (dName 3) (aCons (dName 4) (aCons (dName 5) aNil))))) aNil))) (dName 6))) (sRet (dC (.bl false))) sNil)) (S := []) (fun ρ => ∃ x2 x3 x4 x5 x6, ρ = [some (.p (.lst (ruD r))), some (.p (.lst (ts.map tkD))), x2, x3, x4, x5, x6])
    (fitRes r) (ts.map tkD) (fun d hd ρ hρ => by
      obtain ⟨x2, x3, x4, x5, x6, rfl⟩ := hρ
      obtain ⟨t, ht, rfl⟩ := List.mem_map.mp hd
      have q := h t ht
      refine ⟨[some (.p (.lst (ruD r))), some (.p (.lst (ts.map tkD))), some (.p (.int t.rows)), some (.p (.int t.seats)), some (.p (.int t.row)), some (.p (.int t.seat)), some (.p (.int t.num))], rfl, ?_⟩
      have e1 := law_place_eq hr (seats := t.seats) (row := t.row) (seat := t.seat) (mul_l (by have := q.s1; have := q.s2; omega))
      have e2 : ∀ p, m_law_number [.lst (ruD r), .int p] = .ok (.int (lawNum r.o r.k p)) := fun p => law_number_eq hr.ho hr.hk
      have e3 := own_same hr (seats := t.seats) (row := t.row) (seat := t.seat) q.a
      have e4 : fit r t = (ownNum r t.seats t.row t.seat == t.num) := rfl
      rw [fitRes_tk, e4]
      cases hb : ownNum r t.seats t.row t.seat == t.num with
      | true =>
        rw [if_pos rfl]
        refine ⟨[some (.p (.lst (ruD r))), some (.p (.lst (ts.map tkD))), some (.p (.int t.rows)), some (.p (.int t.seats)), some (.p (.int t.row)), some (.p (.int t.seat)), some (.p (.int t.num))], ⟨_, _, _, _, _, rfl⟩, ?_⟩
        simp only [e_seq, e_seq_nx, e_seq_rt, e_seq_ite, e_bind, e_bind_ite, e_toS, e_toS_ite, e_set, e_ret, e_expr, e_nil, e_if, e_name, e_C, e_bin, e_un, e_ifx, e_aNil, e_aCons, e_call, e_cVal, e_cNot, e_cAnd, e_cOr, e_and, e_or, e_not, e_add, e_sub, e_lt, e_le, e_gt, e_ge, e_neg, e_eqi, e_nei, e_isN, e_notN, e_partsE, e_ixT0, e_ixT1, e_ixT2, e_ixT3, e_ixT4, e_ixL0, e_ixL1, e_ixL2, e_ixL3, e_ixL4, e_callP, e_callE, e_allP, e_allP0, e_tup, e_lst, e_par, List.map_cons, List.map_nil, List.append_assoc, List.nil_append, List.cons_append, List.replicate, List.getElem?_cons_zero, List.getElem?_cons_succ, List.set_cons_zero, List.set_cons_succ, Option.map_some, if_true, if_false, Bool.false_eq_true, decide_eq_true_eq, List.length_cons, List.length_nil, bg0, bg1, bg2, bg3, bg4, bg5, bg6, bg7, bg8, bg9, bg10, bg11, bg12, bg13, bg14, e1, e2, e3, hb, Bool.not_true]
      | false =>
        rw [if_neg Bool.false_ne_true]
        simp only [e_seq, e_seq_nx, e_seq_rt, e_seq_ite, e_bind, e_bind_ite, e_toS, e_toS_ite, e_set, e_ret, e_expr, e_nil, e_if, e_name, e_C, e_bin, e_un, e_ifx, e_aNil, e_aCons, e_call, e_cVal, e_cNot, e_cAnd, e_cOr, e_and, e_or, e_not, e_add, e_sub, e_lt, e_le, e_gt, e_ge, e_neg, e_eqi, e_nei, e_isN, e_notN, e_partsE, e_ixT0, e_ixT1, e_ixT2, e_ixT3, e_ixT4, e_ixL0, e_ixL1, e_ixL2, e_ixL3, e_ixL4, e_callP, e_callE, e_allP, e_allP0, e_tup, e_lst, e_par, List.map_cons, List.map_nil, List.append_assoc, List.nil_append, List.cons_append, List.replicate, List.getElem?_cons_zero, List.getElem?_cons_succ, List.set_cons_zero, List.set_cons_succ, Option.map_some, if_true, if_false, Bool.false_eq_true, decide_eq_true_eq, List.length_cons, List.length_nil, bg0, bg1, bg2, bg3, bg4, bg5, bg6, bg7, bg8, bg9, bg10, bg11, bg12, bg13, bg14, e1, e2, e3, hb, Bool.not_false]) [some (.p (.lst (ruD r))), some (.p (.lst (ts.map tkD))), none, none, none, none, none] ⟨_, _, _, _, _, rfl⟩
  have eI : ∀ S, iSeq (dName 1) [some (.p (.lst (ruD r))), some (.p (.lst (ts.map tkD))), none, none, none, none, none] S = .ok (ts.map tkD) S := fun S => rfl
  have ef : (ts.map tkD).findSome? (fitRes r) = if ts.all (fit r) = true then none else some (.p (.bl false)) := by
    clear lp eI h
    induction ts with
    | nil => rfl
    | cons t ts ih =>
      rw [List.map_cons, List.findSome?_cons, List.all_cons]
      rw [fitRes_tk]
      cases fit r t with
      | true => rw [if_pos rfl, Bool.true_and]; exact ih
      | false => rw [if_neg Bool.false_ne_true, Bool.false_and, if_neg Bool.false_ne_true]
  rw [ef] at lp
  cases hb : ts.all (fit r) with
  | true =>
    rw [hb, if_pos rfl] at lp
    obtain ⟨ρ', ⟨x2, x3, x4, x5, x6, rfl⟩, e⟩ := lp
    simp only [m_law_fits, runP, init, b_law_fits]
    generalize (sIf (cVal (dBin oNe (dCallP m_law_number (aCons (dName 0) (aCons (dCallP m_law_place (aCons (dName 0) (aCons (dName 3) (aCons (dName 4) (aCons (dName 5) aNil))))) aNil))) (dName 6))) (sRet (dC (.bl false))) sNil) = bd at *
    generalize ts.map tkD = tt at *
    generalize ruD r = rr at *
    simp only [e_seq, e_seq_nx, e_seq_rt, e_seq_ite, e_bind, e_bind_ite, e_toS, e_toS_ite, e_set, e_ret, e_expr, e_nil, e_if, e_name, e_C, e_bin, e_un, e_ifx, e_aNil, e_aCons, e_call, e_cVal, e_cNot, e_cAnd, e_cOr, e_and, e_or, e_not, e_add, e_sub, e_lt, e_le, e_gt, e_ge, e_neg, e_eqi, e_nei, e_isN, e_notN, e_partsE, e_ixT0, e_ixT1, e_ixT2, e_ixT3, e_ixT4, e_ixL0, e_ixL1, e_ixL2, e_ixL3, e_ixL4, e_callP, e_callE, e_allP, e_allP0, e_tup, e_lst, e_par, List.map_cons, List.map_nil, List.append_assoc, List.nil_append, List.cons_append, List.replicate, List.getElem?_cons_zero, List.getElem?_cons_succ, List.set_cons_zero, List.set_cons_succ, Option.map_some, if_true, if_false, Bool.false_eq_true, decide_eq_true_eq, List.length_cons, List.length_nil, bg0, bg1, bg2, bg3, bg4, bg5, bg6, bg7, bg8, bg9, bg10, bg11, bg12, bg13, bg14, e_sFor, eI, e]
  | false =>
    rw [hb, if_neg Bool.false_ne_true] at lp
    simp only [m_law_fits, runP, init, b_law_fits]
    generalize (sIf (cVal (dBin oNe (dCallP m_law_number (aCons (dName 0) (aCons (dCallP m_law_place (aCons (dName 0) (aCons (dName 3) (aCons (dName 4) (aCons (dName 5) aNil))))) aNil))) (dName 6))) (sRet (dC (.bl false))) sNil) = bd at *
    generalize ts.map tkD = tt at *
    generalize ruD r = rr at *
    simp only [e_seq, e_seq_nx, e_seq_rt, e_seq_ite, e_bind, e_bind_ite, e_toS, e_toS_ite, e_set, e_ret, e_expr, e_nil, e_if, e_name, e_C, e_bin, e_un, e_ifx, e_aNil, e_aCons, e_call, e_cVal, e_cNot, e_cAnd, e_cOr, e_and, e_or, e_not, e_add, e_sub, e_lt, e_le, e_gt, e_ge, e_neg, e_eqi, e_nei, e_isN, e_notN, e_partsE, e_ixT0, e_ixT1, e_ixT2, e_ixT3, e_ixT4, e_ixL0, e_ixL1, e_ixL2, e_ixL3, e_ixL4, e_callP, e_callE, e_allP, e_allP0, e_tup, e_lst, e_par, List.map_cons, List.map_nil, List.append_assoc, List.nil_append, List.cons_append, List.replicate, List.getElem?_cons_zero, List.getElem?_cons_succ, List.set_cons_zero, List.set_cons_succ, Option.map_some, if_true, if_false, Bool.false_eq_true, decide_eq_true_eq, List.length_cons, List.length_nil, bg0, bg1, bg2, bg3, bg4, bg5, bg6, bg7, bg8, bg9, bg10, bg11, bg12, bg13, bg14, e_sFor, eI, lp]
theorem law_turned_loop {x0 x1 : Option Dv} : ∀ (cs : List Cg) (q : Ru) (x4 x5 : Option Dv), ∃ y4 y5, forL (gT 2 (gsCons (gN 4) (gsCons (gN 5) gsNil))) (sSetI (dName 2) (dIxSI (dName 3) (dName 4)) (dName 5)) (cs.map cgD) [x0, x1, some (.hnd 0), some (.p SP), x4, x5] [.lst (ruD q)] = .ok (.nx [x0, x1, some (.hnd 0), some (.p SP), y4, y5]) [.lst (ruD (q.sets cs))]
  | [], q, x4, x5 => ⟨x4, x5, rfl⟩
  | c :: cs, q, x4, x5 => by
    obtain ⟨y4, y5, e⟩ := law_turned_loop (x0 := x0) (x1 := x1) cs (q.set c) (some (.p (.str c.pt))) (some (.p c.val))
    refine ⟨y4, y5, ?_⟩
    rw [List.map_cons]
    rw [forL_step (ρ1 := [x0, x1, some (.hnd 0), some (.p SP), some (.p (.str c.pt)), some (.p c.val)]) (ρ2 := [x0, x1, some (.hnd 0), some (.p SP), some (.p (.str c.pt)), some (.p c.val)]) (S2 := [.lst (ruD (q.set c))]) rfl (by
      obtain ⟨s, r, w, o, k⟩ := q
      cases c <;> kernel_rfl)]
    exact e
theorem law_turned_eq {q : Ru} {cs : List Cg} : m_law_turned [.lst (ruD q), csD cs] = .ok (.lst (ruD (q.sets cs))) := by
  obtain ⟨y4, y5, e⟩ := law_turned_loop (x0 := some (.p (.lst (ruD q)))) (x1 := some (.p (csD cs))) cs q none none
  have it : iSeq (dName 1) [some (.p (.lst (ruD q))), some (.p (csD cs)), some (.hnd 0), some (.p SP), none, none] [.lst (ruD q)] = .ok (cs.map cgD) [.lst (ruD q)] := rfl
  have e1 : nListC [.p (.lst (ruD q))] [] = .ok (.hnd 0) [.lst (ruD q)] := rfl
  have e2 : ∀ l : List DL.D, ([Cell.lst l] : Sto)[0]? = some (.lst l) := fun _ => rfl
  unfold SP at e it
  unfold m_law_turned runP b_law_turned init
  generalize (sSetI (dName 2) (dIxSI (dName 3) (dName 4)) (dName 5)) = BD at *
  generalize ruD q = RQ at *
  generalize ruD (q.sets cs) = RS at *
  generalize csD cs = CS at *
  simp only [e_seq, e_seq_nx, e_seq_rt, e_seq_ite, e_bind, e_bind_ite, e_toS, e_toS_ite, e_set, e_ret, e_expr, e_nil, e_if, e_name, e_C, e_bin, e_un, e_ifx, e_aNil, e_aCons, e_call, e_cVal, e_cNot, e_cAnd, e_cOr, e_and, e_or, e_not, e_add, e_sub, e_lt, e_le, e_gt, e_ge, e_neg, e_eqi, e_nei, e_isN, e_notN, e_partsE, e_ixT0, e_ixT1, e_ixT2, e_ixT3, e_ixT4, e_ixL0, e_ixL1, e_ixL2, e_ixL3, e_ixL4, e_callP, e_callE, e_allP, e_allP0, e_tup, e_lst, e_par, List.map_cons, List.map_nil, List.append_assoc, List.nil_append, List.cons_append, List.replicate, List.getElem?_cons_zero, List.getElem?_cons_succ, List.set_cons_zero, List.set_cons_succ, Option.map_some, if_true, if_false, Bool.false_eq_true, decide_eq_true_eq, List.length_cons, List.length_nil, bg0, bg1, bg2, bg3, bg4, bg5, bg6, bg7, bg8, bg9, bg10, bg11, bg12, bg13, bg14, e_sFor, e1, it, e, e2]
/-! ### how sets of changes stand in order -/
def cgV : Cg → Int ⊕ Str
  | .s z => .inr z | .r z => .inr z | .w z => .inr z | .o i => .inl i | .k z => .inr z
def cgK (c : Cg) : Pk := (c.pt, cgV c)
theorem cg_pk (c : Cg) : cgD c = pkD (cgK c) := by cases c <;> rfl
theorem cs_ks (cs : List Cg) : csD cs = ksD (cs.map cgK) := by
  unfold csD ksD
  rw [List.map_map]
  congr 1
  exact List.map_congr_left fun c _ => cg_pk c
theorem cgK_ok {c : Cg} (hc : c.ok) : pkOk (cgK c) = true := by
  cases c with
  | s z => rcases hc with rfl | rfl | rfl <;> decide +kernel
  | r z => rcases hc with rfl | rfl <;> decide +kernel
  | w z => rcases hc with rfl | rfl <;> decide +kernel
  | o i =>
    show ((PyData.str "out").canLay0 && ((PyData.int i).canLay0 && true)) = true
    have h1 : (PyData.str "out").canLay0 = true := by decide +kernel
    rw [h1]
    rfl
  | k z => rcases hc with rfl | rfl <;> decide +kernel
theorem cgK_c (c d : Cg) : pkC (cgK c) (cgK d) = true := by
  have t : ∀ a b : Str, a ≠ b → ∀ x y : Int ⊕ Str, pkC (a, x) (b, y) = true := fun a b h x y => by
    unfold pkC
    simp [h]
  have u : ∀ a b : Str, ∀ x y : Str, pkC (a, .inr x) (b, .inr y) = true := fun a b x y => by
    unfold pkC same2
    simp
  have v : ∀ a b : Str, ∀ x y : Int, pkC (a, .inl x) (b, .inl y) = true := fun a b x y => by
    unfold pkC same2
    simp
  cases c <;> cases d <;> first | exact u _ _ _ _ | exact v _ _ _ _ | exact t _ _ (by dsimp only [Cg.pt]; decide) _ _
theorem fitK_of {css : List (List Cg)} (h : ∀ cs ∈ css, Gd cs) (h2 : 2 ≤ css.length → ∀ cs ∈ css, cs ≠ []) : fitK (css.map (List.map cgK)) := by
  refine ⟨fun ks hk x hx => ?_, fun ks hk ks' hk' x hx y hy => ?_, fun hl ks hk => ?_⟩
  · obtain ⟨cs, hcs, rfl⟩ := List.mem_map.mp hk
    obtain ⟨c, hc, rfl⟩ := List.mem_map.mp hx
    exact cgK_ok (h cs hcs c hc)
  · obtain ⟨cs, hcs, rfl⟩ := List.mem_map.mp hk
    obtain ⟨c, hc, rfl⟩ := List.mem_map.mp hx
    obtain ⟨ds, hds, rfl⟩ := List.mem_map.mp hk'
    obtain ⟨d, hd, rfl⟩ := List.mem_map.mp hy
    exact cgK_c c d
  · obtain ⟨cs, hcs, rfl⟩ := List.mem_map.mp hk
    rw [List.length_map] at hl
    intro z
    exact h2 hl cs hcs (List.map_eq_nil_iff.mp z)
theorem ltK_head {x y : Pk} {xs ys : List Pk} (h : lexLt itemOrd (pkA y) (pkA x) = false) (hne : y ≠ x) : ltK (y :: ys) (x :: xs) = false := by
  unfold ltK
  rw [ksA_step, if_neg hne]
  exact h
theorem ltK_same {x : Pk} {xs ys : List Pk} (h : ltK ys xs = false) : ltK (x :: ys) (x :: xs) = false := by
  unfold ltK at *
  rw [ksA_step, if_pos rfl]
  exact h
def PO (p p' : Str) : Prop := itemLt (.inr p'.cps.toList) (.inr p.cps.toList) = false ∧ p' ≠ p
theorem PT_po : PT.Pairwise PO := by
  unfold PT PO
  decide +kernel
def CO (c d : Cg) : Prop := lexLt itemOrd (pkA (cgK d)) (pkA (cgK c)) = false ∧ cgK d ≠ cgK c
theorem vls_co {p : Str} (hp : p ∈ PT) : (vls p).Pairwise CO := by
  unfold PT at hp
  simp only [List.mem_cons, List.not_mem_nil, or_false] at hp
  rcases hp with rfl | rfl | rfl | rfl | rfl <;> (unfold CO; decide +kernel)
theorem setsL_srt {q : Ru} : ∀ (n : Nat) (ps : List Str), (∀ p ∈ ps, p ∈ PT) → ps.Pairwise PO → SrtO.Srtd ltK ((setsL q n ps).map (List.map cgK))
  | 0, ps, _, _ => by
    unfold setsL
    exact List.pairwise_singleton _ _
  | n + 1, [], _, _ => by
    unfold setsL
    exact List.Pairwise.nil
  | n + 1, p :: ps, hp, ho => by
    obtain ⟨o1, o2⟩ := List.pairwise_cons.mp ho
    have hp' : ∀ x ∈ ps, x ∈ PT := fun x hx => hp x (List.mem_cons_of_mem _ hx)
    rw [setsL_cons, List.map_append, List.map_flatMap]
    refine List.pairwise_append.mpr ⟨List.pairwise_flatMap.mpr ⟨fun c hc => ?_, ?_⟩, setsL_srt (n + 1) ps hp' o2, fun a ha b hb => ?_⟩
    · have ih := setsL_srt (q := q) n ps hp' o2
      rw [List.map_map]
      refine List.pairwise_map.mpr ((List.pairwise_map.mp ih).imp fun {a b} h => ?_)
      exact ltK_same h
    · refine ((vls_co (hp p List.mem_cons_self)).sublist List.filter_sublist).imp fun {c d} h x hx y hy => ?_
      rw [List.map_map] at hx hy
      obtain ⟨a, _, rfl⟩ := List.mem_map.mp hx
      obtain ⟨b, _, rfl⟩ := List.mem_map.mp hy
      exact ltK_head h.1 h.2
    · obtain ⟨c, hc, ha⟩ := List.mem_flatMap.mp ha
      rw [List.map_map] at ha
      obtain ⟨as, _, rfl⟩ := List.mem_map.mp ha
      obtain ⟨bs, hbs, rfl⟩ := List.mem_map.mp hb
      obtain ⟨m1, m2⟩ := setsL_mem (q := q) (n := n + 1) hp' bs hbs
      cases bs with
      | nil => cases m2
      | cons d bs =>
        have hd := (m1 d List.mem_cons_self).2
        have hcp := (oth_ok (q := q) (hp p List.mem_cons_self) c hc).2
        obtain ⟨k1, k2⟩ := o1 d.pt hd
        rw [← hcp] at k1 k2
        refine ltK_head (x := cgK c) (y := cgK d) ?_ fun z => k2 (congrArg Prod.fst z)
        show lexLt itemOrd (.inr d.pt.cps.toList :: _) (.inr c.pt.cps.toList :: _) = false
        rw [lex_diff (O := itemOrd) (fun z => k2 (cps_inj (Sum.inr.inj z)))]
        exact k1

/-! ### what is due -/
theorem rngD_succ {n k : Nat} : rngD (n : Nat) (k + 1) = DL.D.int (n : Nat) :: rngD ((n + 1 : Nat) : Int) k := by
  unfold rngD
  rw [List.range_succ_eq_map, List.map_cons, List.map_map]
  refine congr (congrArg List.cons (by congr 1)) (List.map_congr_left fun i _ => ?_)
  show DL.D.int ((n : Int) + ((i + 1 : Nat) : Int)) = DL.D.int (((n + 1 : Nat) : Int) + (i : Nat))
  congr 1
  omega
theorem lawAll_len {q : Ru} : ∀ (ps : List Str) (acc : List (List Cg)), (lawAll q acc ps).length ≤ acc.length * 14 ^ ps.length
  | [], acc => by unfold lawAll; exact Nat.le_of_eq (Nat.mul_one _).symm
  | p :: ps, acc => by
    unfold lawAll
    refine Nat.le_trans (lawAll_len ps _) ?_
    have ho : (oth q p).length * acc.length ≤ 13 * acc.length := Nat.mul_le_mul_right _ oth_len
    have lf : ((oth q p).flatMap fun c => acc.map (· ++ [c])).length ≤ (oth q p).length * acc.length := flat_len fun c _ => by rw [List.length_map]; exact Nat.le_refl _
    rw [List.length_cons, Nat.pow_succ, Nat.mul_comm (14 ^ ps.length), ← Nat.mul_assoc]
    refine Nat.mul_le_mul_right _ ?_
    rw [List.length_append]
    omega
theorem lawAll_gd {q : Ru} : ∀ (ps : List Str) (acc : List (List Cg)), (∀ p ∈ ps, p ∈ PT) → (∀ cs ∈ acc, Gd cs) → ∀ cs ∈ lawAll q acc ps, Gd cs
  | [], acc, _, h, cs, hc => h cs hc
  | p :: ps, acc, hp, h, cs, hc => by
    unfold lawAll at hc
    refine lawAll_gd ps _ (fun x hx => hp x (List.mem_cons_of_mem _ hx)) (fun ds hd => ?_) cs hc
    rcases List.mem_append.mp hd with hd | hd
    · exact h ds hd
    · obtain ⟨c, hc, hd⟩ := List.mem_flatMap.mp hd
      obtain ⟨as, ha, rfl⟩ := List.mem_map.mp hd
      intro d hd
      rcases List.mem_append.mp hd with hd | hd
      · exact h as ha d hd
      · rw [List.mem_singleton.mp hd]
        exact (oth_ok (q := q) (hp p List.mem_cons_self) c hc).1
def evL (q : Ru) (l : Nat) : List (List Cg) := (lawAll q [[]] PT).filter fun cs => decide (cs.length ≤ l)
def gL (q : Ru) (ts : List Tk) (l n : Nat) : List (List Cg) := (evL q l).filter fun cs => decide (cs.length = n) && fitC q ts cs
theorem ev_gd {q : Ru} {l : Nat} {cs : List Cg} (h : cs ∈ evL q l) : Gd cs := lawAll_gd PT [[]] (fun _ h => h) (fun cs h => by rw [List.mem_singleton.mp h]; intro c hc; cases hc) cs (List.mem_filter.mp h).1
theorem all_len {q : Ru} : (lawAll q [[]] PT).length ≤ 1000000 := Nat.le_trans (lawAll_len PT [[]]) (by decide)
theorem gL_perm {q : Ru} {ts : List Tk} {l n : Nat} (h : n ≤ l) : (gL q ts l n).Perm (fF q ts n) := by
  have e : gL q ts l n = ((lawAll q [[]] PT).filter fun cs => decide (cs.length = n)).filter (fitC q ts) := by
    unfold gL evL
    rw [List.filter_filter, List.filter_filter]
    refine List.filter_congr fun cs _ => ?_
    by_cases e : cs.length = n
    · have : cs.length ≤ l := by omega
      simp [e, h]
    · simp [e]
  rw [e]
  exact law_size.filter _
theorem due_perm {q : Ru} {ts : List Tk} {l : Nat} : (fstN (gL q ts l) 0 (l + 1)).Perm (fstN (fF q ts) 0 (l + 1)) := fstN_perm fun m _ h => gL_perm (by omega)
theorem due_sort {q : Ru} {ts : List Tk} {l : Nat} {S : Sto} : nSortTT [.p (.lst ((fstN (gL q ts l) 0 (l + 1)).map csD))] S = .ok (.p (.lst ((fstN (fF q ts) 0 (l + 1)).map csD))) S := by
  have p := due_perm (q := q) (ts := ts) (l := l)
  have gd : ∀ cs ∈ fstN (gL q ts l) 0 (l + 1), Gd cs := fun cs h => by
    obtain ⟨m, _, _, e⟩ := fstN_mem h
    rw [e] at h
    exact ev_gd (List.mem_filter.mp h).1
  have ne : 2 ≤ (fstN (gL q ts l) 0 (l + 1)).length → ∀ cs ∈ fstN (gL q ts l) 0 (l + 1), cs ≠ [] := fun h2 cs h z => by
    have h' := p.mem_iff.mp h
    rw [p.length_eq] at h2
    obtain ⟨m, _, _, e⟩ := fstN_mem h'
    rw [e] at h' h2
    have l0 := (fF_mem h').2
    rw [z] at l0
    have hm : m = 0 := l0.symm
    subst hm
    have : (fF q ts 0).length ≤ 1 := by
      refine Nat.le_trans (List.length_filter_le _ _) ?_
      unfold setsL
      decide
    omega
  have srt : SrtO.Srtd ltK ((fstN (fF q ts) 0 (l + 1)).map (List.map cgK)) := by
    cases hf : fstN (fF q ts) 0 (l + 1) with
    | nil => exact List.Pairwise.nil
    | cons a r =>
      obtain ⟨m, _, _, e⟩ := fstN_mem (f := fF q ts) (n := 0) (k := l + 1) (x := a) (by rw [hf]; exact List.mem_cons_self)
      rw [← hf, e]
      exact List.pairwise_map.mpr ((List.pairwise_map.mp (setsL_srt (q := q) m PT (fun _ h => h) PT_po)).sublist List.filter_sublist)
  have f := fitK_of gd ne
  have e1 : ∀ css : List (List Cg), css.map csD = (css.map (List.map cgK)).map ksD := fun css => by
    rw [List.map_map]
    exact List.map_congr_left fun cs _ => cs_ks cs
  generalize fstN (gL q ts l) 0 (l + 1) = A at *
  generalize fstN (fF q ts) 0 (l + 1) = B at *
  rw [e1 A, e1 B]
  exact e_sortTT (ds := (A.map (List.map cgK)).map ksD) rfl (kssOf_map _) f (p.symm.map _) srt
/-! ### the law's loop -/
def pG (q : Ru) (ts : List Tk) (n : Nat) (d : DL.D) : Bool := match d with
  | .tup ds => decide (ds.length = n) && (match m_law_turned [.lst (ruD q), d] with
    | .ok r => (match m_law_fits [r, .lst (ts.map tkD)] with | .ok (.bl b) => b | _ => false)
    | _ => false)
  | _ => false
theorem pG_eq {q : Ru} (hq : q.ok) {ts : List Tk} (ht : ∀ t ∈ ts, t.ok) {n : Nat} {cs : List Cg} (g : Gd cs) : pG q ts n (csD cs) = (decide (cs.length = n) && fitC q ts cs) := by
  show (decide ((cs.map cgD).length = n) && (match m_law_turned [.lst (ruD q), csD cs] with
    | .ok r => (match m_law_fits [r, .lst (ts.map tkD)] with | .ok (.bl b) => b | _ => false)
    | _ => false)) = _
  rw [law_turned_eq, List.length_map]
  show (decide (cs.length = n) && (match m_law_fits [.lst (ruD (q.sets cs)), .lst (ts.map tkD)] with | .ok (.bl b) => b | _ => false)) = _
  rw [law_fits_eq (Ru.sets_ok hq g) ht]
  rfl
def EL (sc : Dv) (q : Ru) (x3 x4 x5 : Option Dv) (ts : List Tk) (l : Int) (ev due : List (List Cg)) (x11 x13 : Option Dv) : Nv := [some sc, some (.hnd 1), some (.p (.lst (ruD q))), x3, x4, x5, some (.p (.lst (ts.map tkD))), some (.p (.rul (ruD q))), some (.p (.int l)), some (.p (.lst (ev.map csD))), some (.p (.lst (due.map csD))), x11, none, x13, none, none]
theorem gL_comp {sc : Dv} {q : Ru} (hq : q.ok) {x3 x4 x5 x13 : Option Dv} {ts : List Tk} (ht : ∀ t ∈ ts, t.ok) {l : Nat} {due : List (List Cg)} {n : Nat} {S : Sto} :
    dComp [15] (iSeq (dName 9)) (gN 15) (cAnd (cVal (dBin oEq (dCall nLen (aCons (dName 15) aNil)) (dName 11))) (cVal (dCallP m_law_fits (aCons (dCallP m_law_turned (aCons (dName 2) (aCons (dName 15) aNil))) (aCons (dName 6) aNil))))) (dName 15) (EL sc q x3 x4 x5 ts l (evL q l) due (some (.p (.int (n : Nat)))) x13) S
      = .ok (.p (.lst ((gL q ts l n).map csD))) S := by
  have ge : ∀ cs ∈ evL q l, Gd cs := fun cs h => ev_gd h
  have le : (evL q l).length ≤ 1000000 := Nat.le_trans (List.length_filter_le _ _) all_len
  unfold gL
  generalize evL q l = ev at *
  refine e_compF (S1 := S) (ds := ev.map csD) (seq_C (.inl rfl) rfl) (by rw [List.length_map]; unfold big; omega) ?_
  have key := comp_filter (t := gN 15) (cf := cAnd (cVal (dBin oEq (dCall nLen (aCons (dName 15) aNil)) (dName 11))) (cVal (dCallP m_law_fits (aCons (dCallP m_law_turned (aCons (dName 2) (aCons (dName 15) aNil))) (aCons (dName 6) aNil))))) (el := dName 15) (ρ := wipeN (EL sc q x3 x4 x5 ts l ev due (some (.p (.int (n : Nat)))) x13) [15]) (S := S)
    (pG q ts n) id (ds := ev.map csD) fun d hd => by
      obtain ⟨cs, hcs, rfl⟩ := List.mem_map.mp hd
      have k1 := law_turned_eq (q := q) (cs := cs)
      have k2 := law_fits_eq (Ru.sets_ok hq (ge cs hcs)) ht
      have k3 : ∀ S, nLen [.p (csD cs)] S = .ok (.p (.int (cs.length : Nat))) S := fun S => by
        show Out.ok (Dv.p (.int ((cs.map cgD).length : Nat))) S = _
        rw [List.length_map]
      have k4 : ∀ S, oEq (.p (.int (cs.length : Nat))) (.p (.int (n : Nat))) S = .ok (.p (.bl (decide (cs.length = n)))) S := fun S => by
        show Out.ok (Dv.p (.bl (((cs.length : Nat) : Int) == ((n : Nat) : Int)))) S = _
        congr 3
        by_cases h : cs.length = n
        · subst h; simp
        · simp [h]; omega
      refine ⟨[some sc, some (.hnd 1), some (.p (.lst (ruD q))), x3, x4, x5, some (.p (.lst (ts.map tkD))), some (.p (.rul (ruD q))), some (.p (.int l)), some (.p (.lst (ev.map csD))), some (.p (.lst (due.map csD))), some (.p (.int (n : Nat))), none, x13, none, some (.p (csD cs))], rfl, ?_, fun _ => rfl⟩
      rw [pG_eq hq ht (ge cs hcs)]
      unfold fitC
      generalize csD cs = CS at *
      cases hb : decide (cs.length = n) with
      | true =>
        rw [hb] at k4
        simp only [e_seq, e_seq_nx, e_seq_rt, e_seq_ite, e_bind, e_bind_ite, e_toS, e_toS_ite, e_set, e_ret, e_expr, e_nil, e_if, e_name, e_C, e_bin, e_un, e_ifx, e_aNil, e_aCons, e_call, e_cVal, e_cNot, e_cAnd, e_cOr, e_and, e_or, e_not, e_add, e_sub, e_lt, e_le, e_gt, e_ge, e_neg, e_eqi, e_nei, e_isN, e_notN, e_partsE, e_ixT0, e_ixT1, e_ixT2, e_ixT3, e_ixT4, e_ixL0, e_ixL1, e_ixL2, e_ixL3, e_ixL4, e_callP, e_callE, e_allP, e_allP0, e_tup, e_lst, e_par, List.map_cons, List.map_nil, List.append_assoc, List.nil_append, List.cons_append, List.replicate, List.getElem?_cons_zero, List.getElem?_cons_succ, List.set_cons_zero, List.set_cons_succ, Option.map_some, if_true, if_false, Bool.false_eq_true, decide_eq_true_eq, List.length_cons, List.length_nil, bg0, bg1, bg2, bg3, bg4, bg5, bg6, bg7, bg8, bg9, bg10, bg11, bg12, bg13, bg14, k3, k4, k1, k2, Bool.true_and]
      | false =>
        rw [hb] at k4
        simp only [e_seq, e_seq_nx, e_seq_rt, e_seq_ite, e_bind, e_bind_ite, e_toS, e_toS_ite, e_set, e_ret, e_expr, e_nil, e_if, e_name, e_C, e_bin, e_un, e_ifx, e_aNil, e_aCons, e_call, e_cVal, e_cNot, e_cAnd, e_cOr, e_and, e_or, e_not, e_add, e_sub, e_lt, e_le, e_gt, e_ge, e_neg, e_eqi, e_nei, e_isN, e_notN, e_partsE, e_ixT0, e_ixT1, e_ixT2, e_ixT3, e_ixT4, e_ixL0, e_ixL1, e_ixL2, e_ixL3, e_ixL4, e_callP, e_callE, e_allP, e_allP0, e_tup, e_lst, e_par, List.map_cons, List.map_nil, List.append_assoc, List.nil_append, List.cons_append, List.replicate, List.getElem?_cons_zero, List.getElem?_cons_succ, List.set_cons_zero, List.set_cons_succ, Option.map_some, if_true, if_false, Bool.false_eq_true, decide_eq_true_eq, List.length_cons, List.length_nil, bg0, bg1, bg2, bg3, bg4, bg5, bg6, bg7, bg8, bg9, bg10, bg11, bg12, bg13, bg14, k3, k4, Bool.false_and, Bool.false_eq_true, if_false]
  rw [List.map_id, List.filter_map] at key
  rw [show (ev.filter fun cs => decide (cs.length = n) && fitC q ts cs) = ev.filter (pG q ts n ∘ csD) from List.filter_congr fun cs hcs => (pG_eq hq ht (ge cs hcs)).symm]
  exact key
theorem due_one {sc : Dv} {q : Ru} (hq : q.ok) {x3 x4 x5 x13 : Option Dv} {ts : List Tk} (ht : ∀ t ∈ ts, t.ok) {l : Nat} {due : List (List Cg)} (hd : ∀ cs ∈ due, Gd cs) {n : Nat} {S : Sto} :
    (sIf (cVal (dBin oEq (dName 10) (dLst aNil))) (sSet 10 (dComp [15] (iSeq (dName 9)) (gN 15) (cAnd (cVal (dBin oEq (dCall nLen (aCons (dName 15) aNil)) (dName 11))) (cVal (dCallP m_law_fits (aCons (dCallP m_law_turned (aCons (dName 2) (aCons (dName 15) aNil))) (aCons (dName 6) aNil))))) (dName 15))) sNil) (EL sc q x3 x4 x5 ts l (evL q l) due (some (.p (.int (n : Nat)))) x13) S = .ok (.nx (EL sc q x3 x4 x5 ts l (evL q l) (if due.isEmpty = true then gL q ts l n else due) (some (.p (.int (n : Nat)))) x13)) S := by
  have e1 := gL_comp (sc := sc) hq (x3 := x3) (x4 := x4) (x5 := x5) (x13 := x13) ht (l := l) (due := due) (n := n) (S := S)
  have e2 := (list_nil (css_PD hd) (by decide)).1 S
  rw [show (List.map csD due).isEmpty = due.isEmpty from isEmpty_len (List.length_map ..)] at e2
  have e0 : ∀ (ρ : Nv) S, dLst aNil ρ S = .ok (.p (.lst [])) S := fun _ _ => rfl
  unfold EL at *
  generalize ts.map tkD = TT at *
  generalize (evL q l).map csD = EV at *
  generalize ruD q = RQ at *
  generalize gL q ts l n = GG at *
  generalize dComp [15] (iSeq (dName 9)) (gN 15) (cAnd (cVal (dBin oEq (dCall nLen (aCons (dName 15) aNil)) (dName 11))) (cVal (dCallP m_law_fits (aCons (dCallP m_law_turned (aCons (dName 2) (aCons (dName 15) aNil))) (aCons (dName 6) aNil))))) (dName 15) = CC at *
  cases b : due.isEmpty with
  | true =>
    rw [b] at e2
    simp only [e_seq, e_seq_nx, e_seq_rt, e_seq_ite, e_bind, e_bind_ite, e_toS, e_toS_ite, e_set, e_ret, e_expr, e_nil, e_if, e_name, e_C, e_bin, e_un, e_ifx, e_aNil, e_aCons, e_call, e_cVal, e_cNot, e_cAnd, e_cOr, e_and, e_or, e_not, e_add, e_sub, e_lt, e_le, e_gt, e_ge, e_neg, e_eqi, e_nei, e_isN, e_notN, e_partsE, e_ixT0, e_ixT1, e_ixT2, e_ixT3, e_ixT4, e_ixL0, e_ixL1, e_ixL2, e_ixL3, e_ixL4, e_callP, e_callE, e_allP, e_allP0, e_tup, e_lst, e_par, List.map_cons, List.map_nil, List.append_assoc, List.nil_append, List.cons_append, List.replicate, List.getElem?_cons_zero, List.getElem?_cons_succ, List.set_cons_zero, List.set_cons_succ, Option.map_some, if_true, if_false, Bool.false_eq_true, decide_eq_true_eq, List.length_cons, List.length_nil, bg0, bg1, bg2, bg3, bg4, bg5, bg6, bg7, bg8, bg9, bg10, bg11, bg12, bg13, bg14, e0, e1, e2, if_true]
  | false =>
    rw [b] at e2
    simp only [e_seq, e_seq_nx, e_seq_rt, e_seq_ite, e_bind, e_bind_ite, e_toS, e_toS_ite, e_set, e_ret, e_expr, e_nil, e_if, e_name, e_C, e_bin, e_un, e_ifx, e_aNil, e_aCons, e_call, e_cVal, e_cNot, e_cAnd, e_cOr, e_and, e_or, e_not, e_add, e_sub, e_lt, e_le, e_gt, e_ge, e_neg, e_eqi, e_nei, e_isN, e_notN, e_partsE, e_ixT0, e_ixT1, e_ixT2, e_ixT3, e_ixT4, e_ixL0, e_ixL1, e_ixL2, e_ixL3, e_ixL4, e_callP, e_callE, e_allP, e_allP0, e_tup, e_lst, e_par, List.map_cons, List.map_nil, List.append_assoc, List.nil_append, List.cons_append, List.replicate, List.getElem?_cons_zero, List.getElem?_cons_succ, List.set_cons_zero, List.set_cons_succ, Option.map_some, if_true, if_false, Bool.false_eq_true, decide_eq_true_eq, List.length_cons, List.length_nil, bg0, bg1, bg2, bg3, bg4, bg5, bg6, bg7, bg8, bg9, bg10, bg11, bg12, bg13, bg14, e0, e2, if_false, Bool.false_eq_true]
theorem due_loop {sc : Dv} {q : Ru} (hq : q.ok) {x3 x4 x5 x13 : Option Dv} {ts : List Tk} (ht : ∀ t ∈ ts, t.ok) {l : Nat} {S : Sto} : ∀ (k n : Nat) (due : List (List Cg)) (x11 : Option Dv), (∀ cs ∈ due, Gd cs) →
    ∃ y11, forL (gN 11) (sIf (cVal (dBin oEq (dName 10) (dLst aNil))) (sSet 10 (dComp [15] (iSeq (dName 9)) (gN 15) (cAnd (cVal (dBin oEq (dCall nLen (aCons (dName 15) aNil)) (dName 11))) (cVal (dCallP m_law_fits (aCons (dCallP m_law_turned (aCons (dName 2) (aCons (dName 15) aNil))) (aCons (dName 6) aNil))))) (dName 15))) sNil) (rngD n k) (EL sc q x3 x4 x5 ts l (evL q l) due x11 x13) S = .ok (.nx (EL sc q x3 x4 x5 ts l (evL q l) (if due.isEmpty = true then fstN (gL q ts l) n k else due) y11 x13)) S
  | 0, n, due, x11, _ => ⟨x11, by
    cases due with
    | nil => rfl
    | cons a r => rfl⟩
  | k + 1, n, due, x11, hd => by
    have t := due_one (sc := sc) hq (x3 := x3) (x4 := x4) (x5 := x5) (x13 := x13) ht (l := l) hd (n := n) (S := S)
    obtain ⟨y, e⟩ := due_loop (sc := sc) hq (x3 := x3) (x4 := x4) (x5 := x5) (x13 := x13) ht (l := l) (S := S) k (n + 1) (if due.isEmpty = true then gL q ts l n else due) (some (.p (.int (n : Nat)))) (by
      split
      · exact fun cs h => ev_gd (List.mem_filter.mp h).1
      · exact hd)
    refine ⟨y, ?_⟩
    rw [rngD_succ, forL_step (ρ1 := EL sc q x3 x4 x5 ts l (evL q l) due (some (.p (.int (n : Nat)))) x13) rfl t, e]
    congr 3
    cases b : due.isEmpty with
    | true =>
      rw [if_pos rfl, if_pos rfl]
      conv => rhs; unfold fstN
    | false =>
      simp only [b, Bool.false_eq_true, if_false]
/-! ### the law -/
theorem ref08a {q : Ru} {odd : DL.D} (h : odd ∈ ([.int (-1), .int 4, .bl true, .non, .str "2"] : List DL.D)) : m_law_refused [.rul (ruD q), .lst [.non], odd] = .ok (.str "limit") := by
  simp only [List.mem_cons, List.not_mem_nil, or_false] at h
  rcases h with rfl | rfl | rfl | rfl | rfl <;> kernel_rfl
theorem ref08b {q : Ru} {ts : List Tk} (h : ∀ t ∈ ts, t.ok) {l : Nat} (hl : l ≤ 3) : m_law_refused [.rul (ruD q), .lst (ts.map tkD ++ [.tup [.int 1, .int 1, .int 0, .int 0]]), .int (l : Nat)] = .ok (.int (ts.length : Nat)) := by
  have ho : m_is_ticket [.tup [.int 1, .int 1, .int 0, .int 0]] = .ok (.bl false) := by kernel_rfl
  have e0 := look_bad (c := .lst (ts.map tkD ++ [.tup [.int 1, .int 1, .int 0, .int 0]])) ho (rest := []) h (.inl rfl)
  have e1 : m_is_integer [.int (l : Nat), .int 0, .int 3] = .ok (.bl true) := is_integer_in (by omega) (by omega)
  generalize ts.map tkD ++ [.tup [.int 1, .int 1, .int 0, .int 0]] = L at *
  generalize (.rul (ruD q) : DL.D) = RQ at *
  have e2 : m_mends [RQ, .lst L, .int (l : Nat)] = .exc ⟨0, [.int (ts.length : Nat)]⟩ := by
    simp only [m_mends, runP, init, b_mends, e_seq, e_seq_nx, e_seq_rt, e_seq_ite, e_bind, e_bind_ite, e_toS, e_toS_ite, e_set, e_ret, e_expr, e_nil, e_if, e_name, e_C, e_bin, e_un, e_ifx, e_aNil, e_aCons, e_call, e_cVal, e_cNot, e_cAnd, e_cOr, e_and, e_or, e_not, e_add, e_sub, e_lt, e_le, e_gt, e_ge, e_neg, e_eqi, e_nei, e_isN, e_notN, e_partsE, e_ixT0, e_ixT1, e_ixT2, e_ixT3, e_ixT4, e_ixL0, e_ixL1, e_ixL2, e_ixL3, e_ixL4, e_callP, e_callE, e_allP, e_allP0, e_tup, e_lst, e_par, List.map_cons, List.map_nil, List.append_assoc, List.nil_append, List.cons_append, List.replicate, List.getElem?_cons_zero, List.getElem?_cons_succ, List.set_cons_zero, List.set_cons_succ, Option.map_some, if_true, if_false, Bool.false_eq_true, decide_eq_true_eq, List.length_cons, List.length_nil, bg0, bg1, bg2, bg3, bg4, bg5, bg6, bg7, bg8, bg9, bg10, bg11, bg12, bg13, bg14, e1, e0, Bool.not_true]
    rfl
  have ek : ∀ (S : Sto) (d : Dv), aKw (aCons (dName 0) (aCons (dName 1) aNil)) (dName 2) [some (.p RQ), some (.p (.lst L)), some (.p (.int (l : Nat))), some d, none] S = .ok [.p RQ, .p (.lst L), .p (.int (l : Nat))] S := fun S d => rfl
  simp only [m_law_refused, runP, init, b_law_refused, e_seq, e_seq_nx, e_seq_rt, e_seq_ite, e_bind, e_bind_ite, e_toS, e_toS_ite, e_set, e_ret, e_expr, e_nil, e_if, e_name, e_C, e_bin, e_un, e_ifx, e_aNil, e_aCons, e_call, e_cVal, e_cNot, e_cAnd, e_cOr, e_and, e_or, e_not, e_add, e_sub, e_lt, e_le, e_gt, e_ge, e_neg, e_eqi, e_nei, e_isN, e_notN, e_partsE, e_ixT0, e_ixT1, e_ixT2, e_ixT3, e_ixT4, e_ixL0, e_ixL1, e_ixL2, e_ixL3, e_ixL4, e_callP, e_callE, e_allP, e_allP0, e_tup, e_lst, e_par, List.map_cons, List.map_nil, List.append_assoc, List.nil_append, List.cons_append, List.replicate, List.getElem?_cons_zero, List.getElem?_cons_succ, List.set_cons_zero, List.set_cons_succ, Option.map_some, if_true, if_false, Bool.false_eq_true, decide_eq_true_eq, List.length_cons, List.length_nil, bg0, bg1, bg2, bg3, bg4, bg5, bg6, bg7, bg8, bg9, bg10, bg11, bg12, bg13, bg14, sTryC, ek, e2]
  rfl
theorem setU {ρ : Nv} {S : Sto} {r o : Ru} {k : Int} (hr : r.ok) (ho : o.ok) (h : Dr S [.lst (ruD r)]) (h0 : 0 ≤ k) (h1 : k < 5) (e3 : ρ[3]? = some (some (.hnd 2))) (e4 : ρ[4]? = some (some (.p (.lst (ruD o))))) (e7 : ρ[13]? = some (some (.p (.int k)))) :
    ∃ (r' : Ru) (S' : Sto), r'.ok ∧ sSetI (dName 3) (dName 13) (dBin oIx (dName 4) (dName 13)) ρ S = .ok (.nx ρ) S' ∧ Dr S' [.lst (ruD r')] := by
  obtain ⟨a, b, rfl, _⟩ := h.rest (rest' := [])
  obtain ⟨a1, a2, a3, a4, a5⟩ := hr
  obtain ⟨b1, b2, b3, b4, b5⟩ := ho
  have q : k = 0 ∨ k = 1 ∨ k = 2 ∨ k = 3 ∨ k = 4 := by omega
  rcases q with rfl | rfl | rfl | rfl | rfl
  · exact ⟨⟨o.s, r.r, r.w, r.o, r.k⟩, _, ⟨b1, a2, a3, a4, a5⟩, by simp only [sSetI, e_seq, e_seq_nx, e_seq_rt, e_seq_ite, e_bind, e_bind_ite, e_toS, e_toS_ite, e_set, e_ret, e_expr, e_nil, e_if, e_name, e_C, e_bin, e_un, e_ifx, e_aNil, e_aCons, e_call, e_cVal, e_cNot, e_cAnd, e_cOr, e_and, e_or, e_not, e_add, e_sub, e_lt, e_le, e_gt, e_ge, e_neg, e_eqi, e_nei, e_isN, e_notN, e_partsE, e_ixT0, e_ixT1, e_ixT2, e_ixT3, e_ixT4, e_ixL0, e_ixL1, e_ixL2, e_ixL3, e_ixL4, e_callP, e_callE, e_allP, e_allP0, e_tup, e_lst, e_par, List.map_cons, List.map_nil, List.append_assoc, List.nil_append, List.cons_append, List.replicate, List.getElem?_cons_zero, List.getElem?_cons_succ, List.set_cons_zero, List.set_cons_succ, Option.map_some, if_true, if_false, Bool.false_eq_true, decide_eq_true_eq, List.length_cons, List.length_nil, bg0, bg1, bg2, bg3, bg4, bg5, bg6, bg7, bg8, bg9, bg10, bg11, bg12, bg13, bg14, e3, e4, e7, ruD]; rfl, h.re⟩
  · exact ⟨⟨r.s, o.r, r.w, r.o, r.k⟩, _, ⟨a1, b2, a3, a4, a5⟩, by simp only [sSetI, e_seq, e_seq_nx, e_seq_rt, e_seq_ite, e_bind, e_bind_ite, e_toS, e_toS_ite, e_set, e_ret, e_expr, e_nil, e_if, e_name, e_C, e_bin, e_un, e_ifx, e_aNil, e_aCons, e_call, e_cVal, e_cNot, e_cAnd, e_cOr, e_and, e_or, e_not, e_add, e_sub, e_lt, e_le, e_gt, e_ge, e_neg, e_eqi, e_nei, e_isN, e_notN, e_partsE, e_ixT0, e_ixT1, e_ixT2, e_ixT3, e_ixT4, e_ixL0, e_ixL1, e_ixL2, e_ixL3, e_ixL4, e_callP, e_callE, e_allP, e_allP0, e_tup, e_lst, e_par, List.map_cons, List.map_nil, List.append_assoc, List.nil_append, List.cons_append, List.replicate, List.getElem?_cons_zero, List.getElem?_cons_succ, List.set_cons_zero, List.set_cons_succ, Option.map_some, if_true, if_false, Bool.false_eq_true, decide_eq_true_eq, List.length_cons, List.length_nil, bg0, bg1, bg2, bg3, bg4, bg5, bg6, bg7, bg8, bg9, bg10, bg11, bg12, bg13, bg14, e3, e4, e7, ruD]; rfl, h.re⟩
  · exact ⟨⟨r.s, r.r, o.w, r.o, r.k⟩, _, ⟨a1, a2, b3, a4, a5⟩, by simp only [sSetI, e_seq, e_seq_nx, e_seq_rt, e_seq_ite, e_bind, e_bind_ite, e_toS, e_toS_ite, e_set, e_ret, e_expr, e_nil, e_if, e_name, e_C, e_bin, e_un, e_ifx, e_aNil, e_aCons, e_call, e_cVal, e_cNot, e_cAnd, e_cOr, e_and, e_or, e_not, e_add, e_sub, e_lt, e_le, e_gt, e_ge, e_neg, e_eqi, e_nei, e_isN, e_notN, e_partsE, e_ixT0, e_ixT1, e_ixT2, e_ixT3, e_ixT4, e_ixL0, e_ixL1, e_ixL2, e_ixL3, e_ixL4, e_callP, e_callE, e_allP, e_allP0, e_tup, e_lst, e_par, List.map_cons, List.map_nil, List.append_assoc, List.nil_append, List.cons_append, List.replicate, List.getElem?_cons_zero, List.getElem?_cons_succ, List.set_cons_zero, List.set_cons_succ, Option.map_some, if_true, if_false, Bool.false_eq_true, decide_eq_true_eq, List.length_cons, List.length_nil, bg0, bg1, bg2, bg3, bg4, bg5, bg6, bg7, bg8, bg9, bg10, bg11, bg12, bg13, bg14, e3, e4, e7, ruD]; rfl, h.re⟩
  · exact ⟨⟨r.s, r.r, r.w, o.o, r.k⟩, _, ⟨a1, a2, a3, b4, a5⟩, by simp only [sSetI, e_seq, e_seq_nx, e_seq_rt, e_seq_ite, e_bind, e_bind_ite, e_toS, e_toS_ite, e_set, e_ret, e_expr, e_nil, e_if, e_name, e_C, e_bin, e_un, e_ifx, e_aNil, e_aCons, e_call, e_cVal, e_cNot, e_cAnd, e_cOr, e_and, e_or, e_not, e_add, e_sub, e_lt, e_le, e_gt, e_ge, e_neg, e_eqi, e_nei, e_isN, e_notN, e_partsE, e_ixT0, e_ixT1, e_ixT2, e_ixT3, e_ixT4, e_ixL0, e_ixL1, e_ixL2, e_ixL3, e_ixL4, e_callP, e_callE, e_allP, e_allP0, e_tup, e_lst, e_par, List.map_cons, List.map_nil, List.append_assoc, List.nil_append, List.cons_append, List.replicate, List.getElem?_cons_zero, List.getElem?_cons_succ, List.set_cons_zero, List.set_cons_succ, Option.map_some, if_true, if_false, Bool.false_eq_true, decide_eq_true_eq, List.length_cons, List.length_nil, bg0, bg1, bg2, bg3, bg4, bg5, bg6, bg7, bg8, bg9, bg10, bg11, bg12, bg13, bg14, e3, e4, e7, ruD]; rfl, h.re⟩
  · exact ⟨⟨r.s, r.r, r.w, r.o, o.k⟩, _, ⟨a1, a2, a3, a4, b5⟩, by simp only [sSetI, e_seq, e_seq_nx, e_seq_rt, e_seq_ite, e_bind, e_bind_ite, e_toS, e_toS_ite, e_set, e_ret, e_expr, e_nil, e_if, e_name, e_C, e_bin, e_un, e_ifx, e_aNil, e_aCons, e_call, e_cVal, e_cNot, e_cAnd, e_cOr, e_and, e_or, e_not, e_add, e_sub, e_lt, e_le, e_gt, e_ge, e_neg, e_eqi, e_nei, e_isN, e_notN, e_partsE, e_ixT0, e_ixT1, e_ixT2, e_ixT3, e_ixT4, e_ixL0, e_ixL1, e_ixL2, e_ixL3, e_ixL4, e_callP, e_callE, e_allP, e_allP0, e_tup, e_lst, e_par, List.map_cons, List.map_nil, List.append_assoc, List.nil_append, List.cons_append, List.replicate, List.getElem?_cons_zero, List.getElem?_cons_succ, List.set_cons_zero, List.set_cons_succ, Option.map_some, if_true, if_false, Bool.false_eq_true, decide_eq_true_eq, List.length_cons, List.length_nil, bg0, bg1, bg2, bg3, bg4, bg5, bg6, bg7, bg8, bg9, bg10, bg11, bg12, bg13, bg14, e3, e4, e7, ruD]; rfl, h.re⟩
theorem loopU {sc t : Dv} {o : Ru} (ho : o.ok) : ∀ (ds : List DL.D) (x y : Option Dv) (S : Sto) (r : Ru), r.ok → Dr S [.lst (ruD r)] → ∃ (x' y' : Option Dv) (S' : Sto) (r' : Ru), r'.ok ∧ Dr S' [.lst (ruD r')] ∧
    forL (gN 5) (sSeq (sSet 13 (dCallE m_law_next (aCons (dName 1) (aCons (dC (.int 5)) aNil)))) (sSetI (dName 3) (dName 13) (dBin oIx (dName 4) (dName 13)))) ds [some sc, some (.hnd 1), some t, some (.hnd 2), some (.p (.lst (ruD o))), x, none, none, none, none, none, none, none, y, none, none] S
      = .ok (.nx [some sc, some (.hnd 1), some t, some (.hnd 2), some (.p (.lst (ruD o))), x', none, none, none, none, none, none, none, y', none, none]) S'
  | [], x, y, S, r, hr, h => ⟨x, y, S, r, hr, h, rfl⟩
  | d :: ds, x, y, S, r, hr, h => by
    obtain ⟨k, S1, n1, a1, c1, d1⟩ := next_eq h (b := 5) (by decide) (by decide)
    obtain ⟨r2, S2, hr2, n2, d2⟩ := setU (ρ := [some sc, some (.hnd 1), some t, some (.hnd 2), some (.p (.lst (ruD o))), some (.p d), none, none, none, none, none, none, none, some (.p (.int k)), none, none]) hr ho d1 a1 c1 rfl rfl rfl
    obtain ⟨x', y', S', r', hr', hd', e⟩ := loopU (sc := sc) (t := t) ho ds (some (.p d)) (some (.p (.int k))) S2 r2 hr2 d2
    refine ⟨x', y', S', r', hr', hd', ?_⟩
    rw [← e]
    conv => lhs; unfold forL
    simp only [gN, e_seq, e_seq_nx, e_seq_rt, e_seq_ite, e_bind, e_bind_ite, e_toS, e_toS_ite, e_set, e_ret, e_expr, e_nil, e_if, e_name, e_C, e_bin, e_un, e_ifx, e_aNil, e_aCons, e_call, e_cVal, e_cNot, e_cAnd, e_cOr, e_and, e_or, e_not, e_add, e_sub, e_lt, e_le, e_gt, e_ge, e_neg, e_eqi, e_nei, e_isN, e_notN, e_partsE, e_ixT0, e_ixT1, e_ixT2, e_ixT3, e_ixT4, e_ixL0, e_ixL1, e_ixL2, e_ixL3, e_ixL4, e_callP, e_callE, e_allP, e_allP0, e_tup, e_lst, e_par, List.map_cons, List.map_nil, List.append_assoc, List.nil_append, List.cons_append, List.replicate, List.getElem?_cons_zero, List.getElem?_cons_succ, List.set_cons_zero, List.set_cons_succ, Option.map_some, if_true, if_false, Bool.false_eq_true, decide_eq_true_eq, List.length_cons, List.length_nil, bg0, bg1, bg2, bg3, bg4, bg5, bg6, bg7, bg8, bg9, bg10, bg11, bg12, bg13, bg14, n1, n2]

theorem e_aEnd {af : Af} {dds : List DL.D} {ρ : Nv} {S : Sto} : aEnd af dds ρ S = (af ρ S).bind fun xs S1 => .ok (xs ++ dds.map Dv.p) S1 := rfl
theorem fin08 {sc : Dv} {o x5 x13 y11 : Option Dv} {S0 S3 S4 S5 : Sto} {RQ RU TT T2 EV GG MM RN : List DL.D} {l k5 tl : Int} {b2 : Bool} {odd : DL.D}
    (f3 : dComp [14] (DL.iRng1 (dCallE m_law_next (aCons (dName 1) (aCons (dC (.int 4)) aNil)))) (gN 14) cYes (dCallE m_law_ticket (aCons (dName 1) (aCons (dName 3) aNil))) [some sc, some (.hnd 1), some (.p (.lst RQ)), some (.p (.lst RU)), o, x5, none, none, none, none, none, none, none, x13, none, none] S0 = .ok (.p (.lst TT)) S3)
    (e7 : m_law_built [.lst RQ] = .ok (.rul RQ))
    (n4 : m_law_next [.hnd 1, .p (.int 4)] S3 = .ok (.p (.int l)) S4)
    (f9 : dComp [15] (iSeq (dCallP m_law_changes (aCons (dName 2) (aCons (dCall0 m_law_values) aNil)))) (gN 15) (cVal (dBin oLe (dCall nLen (aCons (dName 15) aNil)) (dName 8))) (dName 15) [some sc, some (.hnd 1), some (.p (.lst RQ)), some (.p (.lst RU)), o, x5, some (.p (.lst TT)), some (.p (.rul RQ)), some (.p (.int l)), none, none, none, none, x13, none, none] S4 = .ok (.p (.lst EV)) S4)
    (it : DL.iRng1 (dBin oAdd (dName 8) (dC (.int 1))) [some sc, some (.hnd 1), some (.p (.lst RQ)), some (.p (.lst RU)), o, x5, some (.p (.lst TT)), some (.p (.rul RQ)), some (.p (.int l)), some (.p (.lst EV)), some (.p (.lst [])), none, none, x13, none, none] S4 = .ok RN S4)
    (fl : forL (gN 11) (sIf (cVal (dBin oEq (dName 10) (dLst aNil))) (sSet 10 (dComp [15] (iSeq (dName 9)) (gN 15) (cAnd (cVal (dBin oEq (dCall nLen (aCons (dName 15) aNil)) (dName 11))) (cVal (dCallP m_law_fits (aCons (dCallP m_law_turned (aCons (dName 2) (aCons (dName 15) aNil))) (aCons (dName 6) aNil))))) (dName 15))) sNil) RN [some sc, some (.hnd 1), some (.p (.lst RQ)), some (.p (.lst RU)), o, x5, some (.p (.lst TT)), some (.p (.rul RQ)), some (.p (.int l)), some (.p (.lst EV)), some (.p (.lst [])), none, none, x13, none, none] S4 = .ok (.nx [some sc, some (.hnd 1), some (.p (.lst RQ)), some (.p (.lst RU)), o, x5, some (.p (.lst TT)), some (.p (.rul RQ)), some (.p (.int l)), some (.p (.lst EV)), some (.p (.lst GG)), y11, none, x13, none, none]) S4)
    (m1 : m_mends [.rul RQ, .lst TT, .int l] = .ok (.lst MM)) (s1 : ∀ S, nSortTT [.p (.lst GG)] S = .ok (.p (.lst MM)) S) (w1 : ∀ S, oNe (.p (.lst MM)) (.p (.lst MM)) S = .ok (.p (.bl false)) S)
    (w7 : ∀ S, oEq (.p (.int l)) (.p (.int 2)) S = .ok (.p (.bl b2)) S) (wl : b2 = true → m_mends [.rul RQ, .tup TT, .int 2] = .ok (.lst MM)) (w6 : ∀ S, nTuple [.p (.lst TT)] S = .ok (.p (.tup TT)) S)
    (n5 : m_law_next [.hnd 1, .p (.int 5)] S4 = .ok (.p (.int k5)) S5) (p5 : ∀ S, oIx (.p (.lst [.int (-1), .int 4, .bl true, .non, .str "2"])) (.p (.int k5)) S = .ok (.p odd) S)
    (r1 : m_law_refused [.rul RQ, .lst [.non], odd] = .ok (.str "limit")) (w2 : ∀ S, oNe (.p (.str "limit")) (.p (.str "limit")) S = .ok (.p (.bl false)) S)
    (w3 : ∀ S, oAdd (.p (.lst TT)) (.p (.lst [.tup [.int 1, .int 1, .int 0, .int 0]])) S = .ok (.p (.lst T2)) S) (r2 : m_law_refused [.rul RQ, .lst T2, .int l] = .ok (.int tl)) (w4 : ∀ S, nLen [.p (.lst TT)] S = .ok (.p (.int tl)) S) (w5 : ∀ S, oEq (.p (.int tl)) (.p (.int tl)) S = .ok (.p (.bl true)) S) :
    (sSeq (sSet 6 (dComp [14] (iRng1 (dCallE m_law_next (aCons (dName 1) (aCons (dC (.int 4)) aNil)))) (gN 14) cYes (dCallE m_law_ticket (aCons (dName 1) (aCons (dName 3) aNil))))) (sSeq (sSet 7 (dCallP m_law_built (aCons (dName 2) aNil))) (sSeq (sSet 8 (dCallE m_law_next (aCons (dName 1) (aCons (dC (.int 4)) aNil)))) (sSeq (sSet 9 (dComp [15] (iSeq (dCallP m_law_changes (aCons (dName 2) (aCons (dCall0 m_law_values) aNil)))) (gN 15) (cVal (dBin oLe (dCall nLen (aCons (dName 15) aNil)) (dName 8))) (dName 15))) (sSeq (sSet 10 (dLst aNil)) (sSeq (sFor (iRng1 (dBin oAdd (dName 8) (dC (.int 1)))) (gN 11) (sIf (cVal (dBin oEq (dName 10) (dLst aNil))) (sSet 10 (dComp [15] (iSeq (dName 9)) (gN 15) (cAnd (cVal (dBin oEq (dCall nLen (aCons (dName 15) aNil)) (dName 11))) (cVal (dCallP m_law_fits (aCons (dCallP m_law_turned (aCons (dName 2) (aCons (dName 15) aNil))) (aCons (dName 6) aNil))))) (dName 15))) sNil)) (sSeq (sIf (cVal (dBin oNe (dCallP m_mends (aKw (aCons (dName 7) (aCons (dName 6) aNil)) (dName 8))) (dCall nSortTT (aCons (dName 10) aNil)))) (sRet (dC (.bl false))) sNil) (sSeq (sIf (cAnd (cVal (dBin oEq (dName 8) (dC (.int 2)))) (cVal (dBin oNe (dCallP m_mends (aEnd (aCons (dName 7) (aCons (dCall nTuple (aCons (dName 6) aNil)) aNil)) [.int 2])) (dCall nSortTT (aCons (dName 10) aNil))))) (sRet (dC (.bl false))) sNil) (sSeq (sSet 12 (dBin oIx (dLst (aCons (dUn uNeg (dC (.int 1))) (aCons (dC (.int 4)) (aCons (dC (.bl true)) (aCons (dC .non) (aCons (dC (.str "2")) aNil)))))) (dCallE m_law_next (aCons (dName 1) (aCons (dC (.int 5)) aNil))))) (sSeq (sIf (cVal (dBin oNe (dCallP m_law_refused (aCons (dName 7) (aCons (dLst (aCons (dC .non) aNil)) (aCons (dName 12) aNil)))) (dC (.str "limit")))) (sRet (dC (.bl false))) sNil) (sRet (dBin oEq (dCallP m_law_refused (aCons (dName 7) (aCons (dBin oAdd (dName 6) (dLst (aCons (dTup (aCons (dC (.int 1)) (aCons (dC (.int 1)) (aCons (dC (.int 0)) (aCons (dC (.int 0)) aNil))))) aNil))) (aCons (dName 8) aNil)))) (dCall nLen (aCons (dName 6) aNil)))))))))))))) [some sc, some (.hnd 1), some (.p (.lst RQ)), some (.p (.lst RU)), o, x5, none, none, none, none, none, none, none, x13, none, none] S0 = .ok (.rt (.p (.bl true))) S5 := by
  have e0 : ∀ (ρ : Nv) S, dLst aNil ρ S = .ok (.p (.lst [])) S := fun _ _ => rfl
  have ek : ∀ (S : Sto) (x11 : Option Dv), aKw (aCons (dName 7) (aCons (dName 6) aNil)) (dName 8) [some sc, some (.hnd 1), some (.p (.lst RQ)), some (.p (.lst RU)), o, x5, some (.p (.lst TT)), some (.p (.rul RQ)), some (.p (.int l)), some (.p (.lst EV)), some (.p (.lst GG)), x11, none, x13, none, none] S = .ok [.p (.rul RQ), .p (.lst TT), .p (.int l)] S := fun S x11 => rfl
  generalize dComp [14] (DL.iRng1 (dCallE m_law_next (aCons (dName 1) (aCons (dC (.int 4)) aNil)))) (gN 14) cYes (dCallE m_law_ticket (aCons (dName 1) (aCons (dName 3) aNil))) = C14 at *
  generalize dComp [15] (iSeq (dCallP m_law_changes (aCons (dName 2) (aCons (dCall0 m_law_values) aNil)))) (gN 15) (cVal (dBin oLe (dCall nLen (aCons (dName 15) aNil)) (dName 8))) (dName 15) = C15 at *
  generalize (sIf (cVal (dBin oEq (dName 10) (dLst aNil))) (sSet 10 (dComp [15] (iSeq (dName 9)) (gN 15) (cAnd (cVal (dBin oEq (dCall nLen (aCons (dName 15) aNil)) (dName 11))) (cVal (dCallP m_law_fits (aCons (dCallP m_law_turned (aCons (dName 2) (aCons (dName 15) aNil))) (aCons (dName 6) aNil))))) (dName 15))) sNil) = BD at *
  generalize m_mends = FM at *
  generalize m_law_refused = FR at *
  generalize m_law_built = FB at *
  generalize m_law_next = FN at *
  cases b2 with
  | true =>
    have wl := wl rfl
    simp only [e_seq, e_seq_nx, e_seq_rt, e_seq_ite, e_bind, e_bind_ite, e_toS, e_toS_ite, e_set, e_ret, e_expr, e_nil, e_if, e_name, e_C, e_bin, e_un, e_ifx, e_aNil, e_aCons, e_call, e_cVal, e_cNot, e_cAnd, e_cOr, e_and, e_or, e_not, e_add, e_sub, e_lt, e_le, e_gt, e_ge, e_neg, e_eqi, e_nei, e_isN, e_notN, e_partsE, e_ixT0, e_ixT1, e_ixT2, e_ixT3, e_ixT4, e_ixL0, e_ixL1, e_ixL2, e_ixL3, e_ixL4, e_callP, e_callE, e_allP, e_allP0, e_tup, e_lst, e_par, List.map_cons, List.map_nil, List.append_assoc, List.nil_append, List.cons_append, List.replicate, List.getElem?_cons_zero, List.getElem?_cons_succ, List.set_cons_zero, List.set_cons_succ, Option.map_some, if_true, if_false, Bool.false_eq_true, decide_eq_true_eq, List.length_cons, List.length_nil, bg0, bg1, bg2, bg3, bg4, bg5, bg6, bg7, bg8, bg9, bg10, bg11, bg12, bg13, bg14, f3, e7, n4, f9, e0, e_sFor, it, fl, ek, m1, s1, w1, w7, e_aEnd, w6, wl, n5, p5, r1, w2, w3, r2, w4, w5, if_true]
  | false =>
    simp only [e_seq, e_seq_nx, e_seq_rt, e_seq_ite, e_bind, e_bind_ite, e_toS, e_toS_ite, e_set, e_ret, e_expr, e_nil, e_if, e_name, e_C, e_bin, e_un, e_ifx, e_aNil, e_aCons, e_call, e_cVal, e_cNot, e_cAnd, e_cOr, e_and, e_or, e_not, e_add, e_sub, e_lt, e_le, e_gt, e_ge, e_neg, e_eqi, e_nei, e_isN, e_notN, e_partsE, e_ixT0, e_ixT1, e_ixT2, e_ixT3, e_ixT4, e_ixL0, e_ixL1, e_ixL2, e_ixL3, e_ixL4, e_callP, e_callE, e_allP, e_allP0, e_tup, e_lst, e_par, List.map_cons, List.map_nil, List.append_assoc, List.nil_append, List.cons_append, List.replicate, List.getElem?_cons_zero, List.getElem?_cons_succ, List.set_cons_zero, List.set_cons_succ, Option.map_some, if_true, if_false, Bool.false_eq_true, decide_eq_true_eq, List.length_cons, List.length_nil, bg0, bg1, bg2, bg3, bg4, bg5, bg6, bg7, bg8, bg9, bg10, bg11, bg12, bg13, bg14, f3, e7, n4, f9, e0, e_sFor, it, fl, ek, m1, s1, w1, w7, n5, p5, r1, w2, w3, r2, w4, w5, if_true, if_false, Bool.false_eq_true]
theorem end08 {q u : Ru} (hq : q.ok) (hu : u.ok) {sc : Dv} {o x5 x13 : Option Dv} {S0 : Sto} (h : Dr S0 [.dead]) : ∃ S', (sSeq (sSet 6 (dComp [14] (iRng1 (dCallE m_law_next (aCons (dName 1) (aCons (dC (.int 4)) aNil)))) (gN 14) cYes (dCallE m_law_ticket (aCons (dName 1) (aCons (dName 3) aNil))))) (sSeq (sSet 7 (dCallP m_law_built (aCons (dName 2) aNil))) (sSeq (sSet 8 (dCallE m_law_next (aCons (dName 1) (aCons (dC (.int 4)) aNil)))) (sSeq (sSet 9 (dComp [15] (iSeq (dCallP m_law_changes (aCons (dName 2) (aCons (dCall0 m_law_values) aNil)))) (gN 15) (cVal (dBin oLe (dCall nLen (aCons (dName 15) aNil)) (dName 8))) (dName 15))) (sSeq (sSet 10 (dLst aNil)) (sSeq (sFor (iRng1 (dBin oAdd (dName 8) (dC (.int 1)))) (gN 11) (sIf (cVal (dBin oEq (dName 10) (dLst aNil))) (sSet 10 (dComp [15] (iSeq (dName 9)) (gN 15) (cAnd (cVal (dBin oEq (dCall nLen (aCons (dName 15) aNil)) (dName 11))) (cVal (dCallP m_law_fits (aCons (dCallP m_law_turned (aCons (dName 2) (aCons (dName 15) aNil))) (aCons (dName 6) aNil))))) (dName 15))) sNil)) (sSeq (sIf (cVal (dBin oNe (dCallP m_mends (aKw (aCons (dName 7) (aCons (dName 6) aNil)) (dName 8))) (dCall nSortTT (aCons (dName 10) aNil)))) (sRet (dC (.bl false))) sNil) (sSeq (sIf (cAnd (cVal (dBin oEq (dName 8) (dC (.int 2)))) (cVal (dBin oNe (dCallP m_mends (aEnd (aCons (dName 7) (aCons (dCall nTuple (aCons (dName 6) aNil)) aNil)) [.int 2])) (dCall nSortTT (aCons (dName 10) aNil))))) (sRet (dC (.bl false))) sNil) (sSeq (sSet 12 (dBin oIx (dLst (aCons (dUn uNeg (dC (.int 1))) (aCons (dC (.int 4)) (aCons (dC (.bl true)) (aCons (dC .non) (aCons (dC (.str "2")) aNil)))))) (dCallE m_law_next (aCons (dName 1) (aCons (dC (.int 5)) aNil))))) (sSeq (sIf (cVal (dBin oNe (dCallP m_law_refused (aCons (dName 7) (aCons (dLst (aCons (dC .non) aNil)) (aCons (dName 12) aNil)))) (dC (.str "limit")))) (sRet (dC (.bl false))) sNil) (sRet (dBin oEq (dCallP m_law_refused (aCons (dName 7) (aCons (dBin oAdd (dName 6) (dLst (aCons (dTup (aCons (dC (.int 1)) (aCons (dC (.int 1)) (aCons (dC (.int 0)) (aCons (dC (.int 0)) aNil))))) aNil))) (aCons (dName 8) aNil)))) (dCall nLen (aCons (dName 6) aNil)))))))))))))) [some sc, some (.hnd 1), some (.p (.lst (ruD q))), some (.p (.lst (ruD u))), o, x5, none, none, none, none, none, none, none, x13, none, none] S0 = .ok (.rt (.p (.bl true))) S' := by
  obtain ⟨k2, S2, n2, a2, b2, d2⟩ := next_eq h (b := 4) (by decide) (by decide)
  obtain ⟨L, S3, e3, d3, hR, hlen⟩ := comp_run (t := gN 14) (el := dCallE m_law_ticket (aCons (dName 1) (aCons (dName 3) aNil))) (ρ := [some sc, some (.hnd 1), some (.p (.lst (ruD q))), some (.p (.lst (ruD u))), o, x5, none, none, none, none, none, none, none, x13, none, none]) (fun S => Dr S [.dead]) (fun d => ∃ t : Tk, t.ok ∧ d = tkD t) (ds := rngD 0 k2.toNat) d2 (fun d hd => ⟨[some sc, some (.hnd 1), some (.p (.lst (ruD q))), some (.p (.lst (ruD u))), o, x5, none, none, none, none, none, none, none, x13, some (.p d), none], rfl, fun S hS => by
    obtain ⟨t, S', ht, e, dd⟩ := law_ticket_eq hu hS
    refine ⟨tkD t, S', ?_, ⟨t, ht, rfl⟩, dd⟩
    have e' : dCallE m_law_ticket (aCons (dName 1) (aCons (dName 3) aNil)) [some sc, some (.hnd 1), some (.p (.lst (ruD q))), some (.p (.lst (ruD u))), o, x5, none, none, none, none, none, none, none, x13, some (.p d), none] S = .ok (.p (tkD t)) S' := by simp only [e_seq, e_seq_nx, e_seq_rt, e_seq_ite, e_bind, e_bind_ite, e_toS, e_toS_ite, e_set, e_ret, e_expr, e_nil, e_if, e_name, e_C, e_bin, e_un, e_ifx, e_aNil, e_aCons, e_call, e_cVal, e_cNot, e_cAnd, e_cOr, e_and, e_or, e_not, e_add, e_sub, e_lt, e_le, e_gt, e_ge, e_neg, e_eqi, e_nei, e_isN, e_notN, e_partsE, e_ixT0, e_ixT1, e_ixT2, e_ixT3, e_ixT4, e_ixL0, e_ixL1, e_ixL2, e_ixL3, e_ixL4, e_callP, e_callE, e_allP, e_allP0, e_tup, e_lst, e_par, List.map_cons, List.map_nil, List.append_assoc, List.nil_append, List.cons_append, List.replicate, List.getElem?_cons_zero, List.getElem?_cons_succ, List.set_cons_zero, List.set_cons_succ, Option.map_some, if_true, if_false, Bool.false_eq_true, decide_eq_true_eq, List.length_cons, List.length_nil, bg0, bg1, bg2, bg3, bg4, bg5, bg6, bg7, bg8, bg9, bg10, bg11, bg12, bg13, bg14, e]
    exact e'⟩)
  obtain ⟨ts, rfl, hts⟩ := tks_of hR
  have tl : ts.length ≤ 100 := by
    rw [List.length_map] at hlen
    rw [hlen]; unfold rngD; rw [List.length_map, List.length_range]; omega
  have f3 : dComp [14] (DL.iRng1 (dCallE m_law_next (aCons (dName 1) (aCons (dC (.int 4)) aNil)))) (gN 14) cYes (dCallE m_law_ticket (aCons (dName 1) (aCons (dName 3) aNil))) [some sc, some (.hnd 1), some (.p (.lst (ruD q))), some (.p (.lst (ruD u))), o, x5, none, none, none, none, none, none, none, x13, none, none] S0 = .ok (.p (.lst (ts.map tkD))) S3 :=
    e_comp (S1 := S2) (ds := rngD 0 k2.toNat) (e_rng1 (j := k2) (by simp only [e_seq, e_seq_nx, e_seq_rt, e_seq_ite, e_bind, e_bind_ite, e_toS, e_toS_ite, e_set, e_ret, e_expr, e_nil, e_if, e_name, e_C, e_bin, e_un, e_ifx, e_aNil, e_aCons, e_call, e_cVal, e_cNot, e_cAnd, e_cOr, e_and, e_or, e_not, e_add, e_sub, e_lt, e_le, e_gt, e_ge, e_neg, e_eqi, e_nei, e_isN, e_notN, e_partsE, e_ixT0, e_ixT1, e_ixT2, e_ixT3, e_ixT4, e_ixL0, e_ixL1, e_ixL2, e_ixL3, e_ixL4, e_callP, e_callE, e_allP, e_allP0, e_tup, e_lst, e_par, List.map_cons, List.map_nil, List.append_assoc, List.nil_append, List.cons_append, List.replicate, List.getElem?_cons_zero, List.getElem?_cons_succ, List.set_cons_zero, List.set_cons_succ, Option.map_some, if_true, if_false, Bool.false_eq_true, decide_eq_true_eq, List.length_cons, List.length_nil, bg0, bg1, bg2, bg3, bg4, bg5, bg6, bg7, bg8, bg9, bg10, bg11, bg12, bg13, bg14, n2]) (by omega)) (by unfold rngD big; rw [List.length_map, List.length_range]; omega) e3
  have e7 := built_eq hq
  obtain ⟨l', S4, n4, a4, b4, d4⟩ := next_eq d3 (b := 4) (by decide) (by decide)
  obtain ⟨l, rfl⟩ : ∃ l : Nat, l' = (l : Nat) := ⟨l'.toNat, (Int.toNat_of_nonneg a4).symm⟩
  have hl : l ≤ 3 := by omega
  have e9 := law_changes_eq hq
  have f9 : dComp [15] (iSeq (dCallP m_law_changes (aCons (dName 2) (aCons (dCall0 m_law_values) aNil)))) (gN 15) (cVal (dBin oLe (dCall nLen (aCons (dName 15) aNil)) (dName 8))) (dName 15) [some sc, some (.hnd 1), some (.p (.lst (ruD q))), some (.p (.lst (ruD u))), o, x5, some (.p (.lst (ts.map tkD))), some (.p (.rul (ruD q))), some (.p (.int (l : Nat))), none, none, none, none, x13, none, none] S4 = .ok (.p (.lst ((evL q l).map csD))) S4 := by
    have le := all_len (q := q)
    refine e_compF (S1 := S4) (ds := (lawAll q [[]] PT).map csD) (seq_C (.inl rfl) ?_) (by rw [List.length_map]; unfold big; omega) ?_
    · have e0 : ∀ (ρ : Nv) S, dCall0 m_law_values ρ S = .ok (.p (.lst VALS)) S := fun ρ S => by
        unfold dCall0
        rw [law_values_eq]
        rfl
      generalize VALS = VV at *
      generalize ruD q = RQ at *
      simp only [e_seq, e_seq_nx, e_seq_rt, e_seq_ite, e_bind, e_bind_ite, e_toS, e_toS_ite, e_set, e_ret, e_expr, e_nil, e_if, e_name, e_C, e_bin, e_un, e_ifx, e_aNil, e_aCons, e_call, e_cVal, e_cNot, e_cAnd, e_cOr, e_and, e_or, e_not, e_add, e_sub, e_lt, e_le, e_gt, e_ge, e_neg, e_eqi, e_nei, e_isN, e_notN, e_partsE, e_ixT0, e_ixT1, e_ixT2, e_ixT3, e_ixT4, e_ixL0, e_ixL1, e_ixL2, e_ixL3, e_ixL4, e_callP, e_callE, e_allP, e_allP0, e_tup, e_lst, e_par, List.map_cons, List.map_nil, List.append_assoc, List.nil_append, List.cons_append, List.replicate, List.getElem?_cons_zero, List.getElem?_cons_succ, List.set_cons_zero, List.set_cons_succ, Option.map_some, if_true, if_false, Bool.false_eq_true, decide_eq_true_eq, List.length_cons, List.length_nil, bg0, bg1, bg2, bg3, bg4, bg5, bg6, bg7, bg8, bg9, bg10, bg11, bg12, bg13, bg14, e0, e9]
    · unfold evL
      generalize lawAll q [[]] PT = LA at *
      have key := comp_filter (t := gN 15) (cf := cVal (dBin oLe (dCall nLen (aCons (dName 15) aNil)) (dName 8))) (el := dName 15) (ρ := wipeN [some sc, some (.hnd 1), some (.p (.lst (ruD q))), some (.p (.lst (ruD u))), o, x5, some (.p (.lst (ts.map tkD))), some (.p (.rul (ruD q))), some (.p (.int (l : Nat))), none, none, none, none, x13, none, none] [15]) (S := S4)
        (fun d => match d with | .tup ds => decide (ds.length ≤ l) | _ => false) id (ds := LA.map csD) fun d hd => by
          obtain ⟨cs, hcs, rfl⟩ := List.mem_map.mp hd
          refine ⟨[some sc, some (.hnd 1), some (.p (.lst (ruD q))), some (.p (.lst (ruD u))), o, x5, some (.p (.lst (ts.map tkD))), some (.p (.rul (ruD q))), some (.p (.int (l : Nat))), none, none, none, none, x13, none, some (.p (csD cs))], rfl, ?_, fun _ => rfl⟩
          have k3 : ∀ S, nLen [.p (csD cs)] S = .ok (.p (.int ((cs.map cgD).length : Nat))) S := fun S => rfl
          have k4 : ∀ S, oLe (.p (.int ((cs.map cgD).length : Nat))) (.p (.int (l : Nat))) S = .ok (.p (.bl (decide ((cs.map cgD).length ≤ l)))) S := fun S => by
            show (if true = true then Out.ok (Dv.p (.bl (decide ((((cs.map cgD).length : Nat) : Int) ≤ ((l : Nat) : Int))))) S else .bad) = _
            rw [if_pos rfl]
            congr 3
            by_cases hx : (cs.map cgD).length ≤ l
            · rw [decide_eq_true hx, decide_eq_true (by omega)]
            · rw [decide_eq_false hx, decide_eq_false (by omega)]
          show _ = Out.ok (decide ((cs.map cgD).length ≤ l)) S4
          generalize (cs.map cgD).length = m at *
          generalize csD cs = CS at *
          simp only [e_seq, e_seq_nx, e_seq_rt, e_seq_ite, e_bind, e_bind_ite, e_toS, e_toS_ite, e_set, e_ret, e_expr, e_nil, e_if, e_name, e_C, e_bin, e_un, e_ifx, e_aNil, e_aCons, e_call, e_cVal, e_cNot, e_cAnd, e_cOr, e_and, e_or, e_not, e_add, e_sub, e_lt, e_le, e_gt, e_ge, e_neg, e_eqi, e_nei, e_isN, e_notN, e_partsE, e_ixT0, e_ixT1, e_ixT2, e_ixT3, e_ixT4, e_ixL0, e_ixL1, e_ixL2, e_ixL3, e_ixL4, e_callP, e_callE, e_allP, e_allP0, e_tup, e_lst, e_par, List.map_cons, List.map_nil, List.append_assoc, List.nil_append, List.cons_append, List.replicate, List.getElem?_cons_zero, List.getElem?_cons_succ, List.set_cons_zero, List.set_cons_succ, Option.map_some, if_true, if_false, Bool.false_eq_true, decide_eq_true_eq, List.length_cons, List.length_nil, bg0, bg1, bg2, bg3, bg4, bg5, bg6, bg7, bg8, bg9, bg10, bg11, bg12, bg13, bg14, k3, k4]
      rw [List.map_id, List.filter_map] at key
      rw [List.filter_congr (p := (fun d => match d with | .tup ds => decide (ds.length ≤ l) | _ => false) ∘ csD) (q := fun cs => decide (cs.length ≤ l)) fun cs _ => by
        show decide ((cs.map cgD).length ≤ l) = decide (cs.length ≤ l)
        rw [List.length_map]] at key
      exact key
  obtain ⟨y11, fl⟩ := due_loop (sc := sc) hq (x3 := some (.p (.lst (ruD u)))) (x4 := o) (x5 := x5) (x13 := x13) hts (l := l) (S := S4) (l + 1) 0 [] none (fun cs h => by cases h)
  have fl : forL (gN 11) (sIf (cVal (dBin oEq (dName 10) (dLst aNil))) (sSet 10 (dComp [15] (iSeq (dName 9)) (gN 15) (cAnd (cVal (dBin oEq (dCall nLen (aCons (dName 15) aNil)) (dName 11))) (cVal (dCallP m_law_fits (aCons (dCallP m_law_turned (aCons (dName 2) (aCons (dName 15) aNil))) (aCons (dName 6) aNil))))) (dName 15))) sNil) (rngD 0 (l + 1)) (EL sc q (some (.p (.lst (ruD u)))) o x5 ts l (evL q l) [] none x13) S4 = .ok (.nx (EL sc q (some (.p (.lst (ruD u)))) o x5 ts l (evL q l) (fstN (gL q ts l) 0 (l + 1)) y11 x13)) S4 := fl
  have it : DL.iRng1 (dBin oAdd (dName 8) (dC (.int 1))) (EL sc q (some (.p (.lst (ruD u)))) o x5 ts l (evL q l) [] none x13) S4 = .ok (rngD 0 (l + 1)) S4 := by
    have := e_rng1 (f := dBin oAdd (dName 8) (dC (.int 1))) (ρ := EL sc q (some (.p (.lst (ruD u)))) o x5 ts l (evL q l) [] none x13) (S := S4) (S1 := S4) (j := (l : Int) + 1) rfl (by omega)
    rw [this]
    congr 2
  have m1 := mends_eqX hq hts tl (c := .lst (ts.map tkD)) (.inl rfl) hl
  have m2 : ∀ z : Int, z = (l : Nat) → m_mends [.rul (ruD q), .tup (ts.map tkD), .int z] = .ok (.lst ((fstN (fF q ts) 0 (l + 1)).map csD)) := fun z hz => by
    rw [hz]
    exact mends_eqX hq hts tl (c := .tup (ts.map tkD)) (.inr rfl) hl
  have s1 := fun S => due_sort (q := q) (ts := ts) (l := l) (S := S)
  have w1 := fun S => ne_self (S := S) (css_PD (css := fstN (fF q ts) 0 (l + 1)) fun cs h => by
    obtain ⟨m, _, _, e⟩ := fstN_mem h
    rw [e] at h
    exact (fF_mem h).1) (by decide)
  obtain ⟨k5, S5, n5, a5, b5, d5⟩ := next_eq d4 (b := 5) (by decide) (by decide)
  obtain ⟨odd, ho, p5⟩ : ∃ odd, odd ∈ ([.int (-1), .int 4, .bl true, .non, .str "2"] : List DL.D) ∧ ∀ S, oIx (.p (.lst [.int (-1), .int 4, .bl true, .non, .str "2"])) (.p (.int k5)) S = .ok (.p odd) S := by
    have q5 : k5 = 0 ∨ k5 = 1 ∨ k5 = 2 ∨ k5 = 3 ∨ k5 = 4 := by omega
    rcases q5 with rfl | rfl | rfl | rfl | rfl
    · exact ⟨_, by simp, fun S => rfl⟩
    · exact ⟨_, by simp, fun S => rfl⟩
    · exact ⟨_, by simp, fun S => rfl⟩
    · exact ⟨_, by simp, fun S => rfl⟩
    · exact ⟨_, by simp, fun S => rfl⟩
  have r1 := ref08a (q := q) ho
  have r2 := ref08b (q := q) hts hl
  have w2 : ∀ S, oNe (.p (.str "limit")) (.p (.str "limit")) S = .ok (.p (.bl false)) S := fun S => by kernel_rfl
  have w3 : ∀ S, oAdd (.p (.lst (ts.map tkD))) (.p (.lst [.tup [.int 1, .int 1, .int 0, .int 0]])) S = .ok (.p (.lst (ts.map tkD ++ [.tup [.int 1, .int 1, .int 0, .int 0]]))) S := fun S => e_addl (by rw [List.length_map]; show ts.length + 1 ≤ 5000000; omega)
  have w4 : ∀ S, nLen [.p (.lst (ts.map tkD))] S = .ok (.p (.int (ts.length : Nat))) S := fun S => by
    show Out.ok (Dv.p (.int ((ts.map tkD).length : Nat))) S = _
    rw [List.length_map]
  have w5 : ∀ (i : Int) S, oEq (.p (.int i)) (.p (.int i)) S = .ok (.p (.bl true)) S := fun i S => by
    show Out.ok (Dv.p (.bl (i == i))) S = _
    rw [beq_self_eq_true]
  have w6 : ∀ S, nTuple [.p (.lst (ts.map tkD))] S = .ok (.p (.tup (ts.map tkD))) S := fun S => rfl
  have w7 : ∀ S, oEq (.p (.int (l : Nat))) (.p (.int 2)) S = .ok (.p (.bl (decide (l = 2)))) S := fun S => by
    have q2 : (((l : Nat) : Int) == 2) = decide (l = 2) := by
      by_cases hx : l = 2
      · rw [decide_eq_true hx, hx]; rfl
      · rw [decide_eq_false hx]
        exact beq_eq_false_iff_ne.mpr (by omega)
    rw [← q2]
    rfl
  unfold EL at fl it
  have wl : decide (l = 2) = true → m_mends [.rul (ruD q), .tup (ts.map tkD), .int 2] = .ok (.lst ((fstN (fF q ts) 0 (l + 1)).map csD)) := fun e => m2 2 (by rw [of_decide_eq_true e]; rfl)
  exact ⟨S5, fin08 f3 e7 n4 f9 it fl m1 s1 w1 w7 wl w6 n5 p5 r1 w2 w3 r2 w4 (w5 _)⟩
theorem tail08 {sc x : Dv} {h o x5 x13 : Option Dv} {r2 : Ru} {a b : Cell} (g : Sf) :
    sFz 3 g [some sc, h, some x, some (.hnd 2), o, x5, none, none, none, none, none, none, none, x13, none, none] (a :: b :: [.lst (ruD r2)]) = g [some sc, h, some x, some (.p (.lst (ruD r2))), o, x5, none, none, none, none, none, none, none, x13, none, none] (a :: b :: [.dead]) := rfl
theorem math (ns : List Int) (hl : ns.length ≤ 63) : ∃ S, m_law [.p (.scr ns)] [] = .ok (.p (.bl true)) S := by
  obtain ⟨S0, n0, d0⟩ := mix_eq ns hl 8
  obtain ⟨r1, S1, h1, n1, d1⟩ := rule_eq d0
  obtain ⟨a1, b1, rfl, d1'⟩ := d1.rest (rest' := [.lst (ruD r1)])
  obtain ⟨o, S2, ho, n2, d2⟩ := rule_eq d1'
  obtain ⟨k, S3, n3, k0, k1, d3⟩ := next_eq d2 (b := 4) (by decide) (by decide)
  obtain ⟨x', y', S4, r4, h4, d4, n4⟩ := loopU (sc := .p (.scr ns)) (t := .p (.lst (ruD r1))) ho (rngD 0 k.toNat) none none S3 r1 h1 d3
  have c1 : nListC [.p (.lst (ruD r1))] [a1, b1] = .ok (.hnd 2) [a1, b1, .lst (ruD r1)] := rfl
  have c2 : DL.iRng1 (dCallE m_law_next (aCons (dName 1) (aCons (dC (.int 4)) aNil))) [some (.p (.scr ns)), some (.hnd 1), some (.p (.lst (ruD r1))), some (.hnd 2), some (.p (.lst (ruD o))), none, none, none, none, none, none, none, none, none, none, none] S2 = .ok (rngD 0 k.toNat) S3 :=
    e_rng1 (by simp only [e_seq, e_seq_nx, e_seq_rt, e_seq_ite, e_bind, e_bind_ite, e_toS, e_toS_ite, e_set, e_ret, e_expr, e_nil, e_if, e_name, e_C, e_bin, e_un, e_ifx, e_aNil, e_aCons, e_call, e_cVal, e_cNot, e_cAnd, e_cOr, e_and, e_or, e_not, e_add, e_sub, e_lt, e_le, e_gt, e_ge, e_neg, e_eqi, e_nei, e_isN, e_notN, e_partsE, e_ixT0, e_ixT1, e_ixT2, e_ixT3, e_ixT4, e_ixL0, e_ixL1, e_ixL2, e_ixL3, e_ixL4, e_callP, e_callE, e_allP, e_allP0, e_tup, e_lst, e_par, List.map_cons, List.map_nil, List.append_assoc, List.nil_append, List.cons_append, List.replicate, List.getElem?_cons_zero, List.getElem?_cons_succ, List.set_cons_zero, List.set_cons_succ, Option.map_some, if_true, if_false, Bool.false_eq_true, decide_eq_true_eq, List.length_cons, List.length_nil, bg0, bg1, bg2, bg3, bg4, bg5, bg6, bg7, bg8, bg9, bg10, bg11, bg12, bg13, bg14, n3]) (by omega)
  obtain ⟨a5, b5, rfl, d5'⟩ := d4.rest (rest' := [.dead])
  obtain ⟨S5, e5⟩ := end08 h1 h4 (sc := .p (.scr ns)) (o := some (.p (.lst (ruD o)))) (x5 := x') (x13 := y') d5'
  refine ⟨S5, ?_⟩
  have c3 := fun g => tail08 (sc := .p (.scr ns)) (x := .p (.lst (ruD r1))) (h := some (.hnd 1)) (o := some (.p (.lst (ruD o)))) (x5 := x') (x13 := y') (r2 := r4) (a := a5) (b := b5) g
  have c5 := (c3 _).trans e5
  unfold m_law runE b_law init
  generalize (sSeq (sSet 6 (dComp [14] (iRng1 (dCallE m_law_next (aCons (dName 1) (aCons (dC (.int 4)) aNil)))) (gN 14) cYes (dCallE m_law_ticket (aCons (dName 1) (aCons (dName 3) aNil))))) (sSeq (sSet 7 (dCallP m_law_built (aCons (dName 2) aNil))) (sSeq (sSet 8 (dCallE m_law_next (aCons (dName 1) (aCons (dC (.int 4)) aNil)))) (sSeq (sSet 9 (dComp [15] (iSeq (dCallP m_law_changes (aCons (dName 2) (aCons (dCall0 m_law_values) aNil)))) (gN 15) (cVal (dBin oLe (dCall nLen (aCons (dName 15) aNil)) (dName 8))) (dName 15))) (sSeq (sSet 10 (dLst aNil)) (sSeq (sFor (iRng1 (dBin oAdd (dName 8) (dC (.int 1)))) (gN 11) (sIf (cVal (dBin oEq (dName 10) (dLst aNil))) (sSet 10 (dComp [15] (iSeq (dName 9)) (gN 15) (cAnd (cVal (dBin oEq (dCall nLen (aCons (dName 15) aNil)) (dName 11))) (cVal (dCallP m_law_fits (aCons (dCallP m_law_turned (aCons (dName 2) (aCons (dName 15) aNil))) (aCons (dName 6) aNil))))) (dName 15))) sNil)) (sSeq (sIf (cVal (dBin oNe (dCallP m_mends (aKw (aCons (dName 7) (aCons (dName 6) aNil)) (dName 8))) (dCall nSortTT (aCons (dName 10) aNil)))) (sRet (dC (.bl false))) sNil) (sSeq (sIf (cAnd (cVal (dBin oEq (dName 8) (dC (.int 2)))) (cVal (dBin oNe (dCallP m_mends (aEnd (aCons (dName 7) (aCons (dCall nTuple (aCons (dName 6) aNil)) aNil)) [.int 2])) (dCall nSortTT (aCons (dName 10) aNil))))) (sRet (dC (.bl false))) sNil) (sSeq (sSet 12 (dBin oIx (dLst (aCons (dUn uNeg (dC (.int 1))) (aCons (dC (.int 4)) (aCons (dC (.bl true)) (aCons (dC .non) (aCons (dC (.str "2")) aNil)))))) (dCallE m_law_next (aCons (dName 1) (aCons (dC (.int 5)) aNil))))) (sSeq (sIf (cVal (dBin oNe (dCallP m_law_refused (aCons (dName 7) (aCons (dLst (aCons (dC .non) aNil)) (aCons (dName 12) aNil)))) (dC (.str "limit")))) (sRet (dC (.bl false))) sNil) (sRet (dBin oEq (dCallP m_law_refused (aCons (dName 7) (aCons (dBin oAdd (dName 6) (dLst (aCons (dTup (aCons (dC (.int 1)) (aCons (dC (.int 1)) (aCons (dC (.int 0)) (aCons (dC (.int 0)) aNil))))) aNil))) (aCons (dName 8) aNil)))) (dCall nLen (aCons (dName 6) aNil)))))))))))))) = TL at *
  simp only [e_seq, e_seq_nx, e_seq_rt, e_seq_ite, e_bind, e_bind_ite, e_toS, e_toS_ite, e_set, e_ret, e_expr, e_nil, e_if, e_name, e_C, e_bin, e_un, e_ifx, e_aNil, e_aCons, e_call, e_cVal, e_cNot, e_cAnd, e_cOr, e_and, e_or, e_not, e_add, e_sub, e_lt, e_le, e_gt, e_ge, e_neg, e_eqi, e_nei, e_isN, e_notN, e_partsE, e_ixT0, e_ixT1, e_ixT2, e_ixT3, e_ixT4, e_ixL0, e_ixL1, e_ixL2, e_ixL3, e_ixL4, e_callP, e_callE, e_allP, e_allP0, e_tup, e_lst, e_par, List.map_cons, List.map_nil, List.append_assoc, List.nil_append, List.cons_append, List.replicate, List.getElem?_cons_zero, List.getElem?_cons_succ, List.set_cons_zero, List.set_cons_succ, Option.map_some, if_true, if_false, Bool.false_eq_true, decide_eq_true_eq, List.length_cons, List.length_nil, bg0, bg1, bg2, bg3, bg4, bg5, bg6, bg7, bg8, bg9, bg10, bg11, bg12, bg13, bg14, e_sFor, n0, n1, n2, c1, c2, n4, c5]

def topS (i : Nat) : Stmt := PySem.Challenge.pw_hallnumbers_k08_whole_mends.main.body.getD i (.Pass ⟨0, 0, 0, 0⟩)
abbrev s_law_mix : Stmt := (topS 34)
theorem sc_law_mix : FnScope ["_law_script", "_law_seed", "_law_state", "_law_cell"] ["_law_script", "_law_seed"] (defScope s_law_mix) := ⟨rfl, rfl, rfl, by decide +kernel, rfl, by decide +kernel, by decide +kernel⟩
abbrev s_law_next : Stmt := (topS 35)
theorem sc_law_next : FnScope ["_law_h", "_law_bound", "_law_cell"] ["_law_h", "_law_bound"] (defScope s_law_next) := ⟨rfl, rfl, rfl, by decide +kernel, rfl, by decide +kernel, by decide +kernel⟩
abbrev s_law_rule : Stmt := (topS 36)
theorem sc_law_rule : FnScope ["_law_h", "_law_start", "_law_out", "_law_rows", "_law_ways"] ["_law_h"] (defScope s_law_rule) := ⟨rfl, rfl, rfl, by decide +kernel, rfl, by decide +kernel, by decide +kernel⟩
abbrev s_is_integer : Stmt := (topS 12)
theorem sc_is_integer : FnScope ["value", "least", "most"] ["value", "least", "most"] (defScope s_is_integer) := ⟨rfl, rfl, rfl, by decide +kernel, rfl, by decide +kernel, by decide +kernel⟩
abbrev s_is_of : Stmt := (topS 13)
theorem sc_is_of : FnScope ["point", "value"] ["point", "value"] (defScope s_is_of) := ⟨rfl, rfl, rfl, by decide +kernel, rfl, by decide +kernel, by decide +kernel⟩
abbrev s_Rule_init : Stmt := (inClass (topS 15) 1)
theorem sc_Rule_init : FnScope ["self", "start", "rows", "ways", "out", "kind", "found", "point", "value"] ["self", "start", "rows", "ways", "out", "kind"] (defScope s_Rule_init) := ⟨rfl, rfl, rfl, by decide +kernel, rfl, by decide +kernel, by decide +kernel⟩
abbrev s_law_built : Stmt := (topS 37)
theorem sc_law_built : FnScope ["_law_t"] ["_law_t"] (defScope s_law_built) := ⟨rfl, rfl, rfl, by decide +kernel, rfl, by decide +kernel, by decide +kernel⟩
abbrev s_law_number : Stmt := (topS 39)
theorem sc_law_number : FnScope ["_law_t", "_law_place_here", "_law_rounds"] ["_law_t", "_law_place_here"] (defScope s_law_number) := ⟨rfl, rfl, rfl, by decide +kernel, rfl, by decide +kernel, by decide +kernel⟩
abbrev s_law_place : Stmt := (topS 38)
theorem sc_law_place : FnScope ["_law_t", "_law_seats", "_law_row", "_law_seat_here", "_law_middle", "_law_found"] ["_law_t", "_law_seats", "_law_row", "_law_seat_here"] (defScope s_law_place) := ⟨rfl, rfl, rfl, by decide +kernel, rfl, by decide +kernel, by decide +kernel⟩
abbrev s_law_ticket : Stmt := (topS 41)
theorem sc_law_ticket : FnScope ["_law_h", "_law_t", "_law_goal", "_law_rows", "_law_seats", "_law_row", "_law_seat_here"] ["_law_h", "_law_t"] (defScope s_law_ticket) := ⟨rfl, rfl, rfl, by decide +kernel, rfl, by decide +kernel, by decide +kernel⟩
abbrev s_is_ticket : Stmt := (topS 27)
theorem sc_is_ticket : FnScope ["value", "rows", "seats", "row", "seat", "number"] ["value"] (defScope s_is_ticket) := ⟨rfl, rfl, rfl, by decide +kernel, rfl, by decide +kernel, by decide +kernel⟩
abbrev s_InvalidTicket_init : Stmt := (inClass (topS 4) 0)
theorem sc_InvalidTicket_init : FnScope ["self", "index"] ["self", "index"] (defScope s_InvalidTicket_init) := ⟨rfl, rfl, rfl, by decide +kernel, rfl, by decide +kernel, by decide +kernel⟩
abbrev s_look_at_tickets : Stmt := (topS 28)
theorem sc_look_at_tickets : FnScope ["tickets", "index", "ticket"] ["tickets"] (defScope s_look_at_tickets) := ⟨rfl, rfl, rfl, by decide +kernel, rfl, by decide +kernel, by decide +kernel⟩
abbrev s_values_of : Stmt := (topS 14)
theorem sc_values_of : FnScope ["point"] ["point"] (defScope s_values_of) := ⟨rfl, rfl, rfl, by decide +kernel, rfl, by decide +kernel, by decide +kernel⟩
abbrev s_sets_of : Stmt := (topS 30)
theorem sc_sets_of : FnScope ["rule", "points", "many", "found", "index", "point", "own", "value", "rest"] ["rule", "points", "many"] (defScope s_sets_of) := ⟨rfl, rfl, rfl, by decide +kernel, rfl, by decide +kernel, by decide +kernel⟩
abbrev s_number_at : Stmt := (topS 22)
theorem sc_number_at : FnScope ["rule", "place", "out"] ["rule", "place"] (defScope s_number_at) := ⟨rfl, rfl, rfl, by decide +kernel, rfl, by decide +kernel, by decide +kernel⟩
abbrev s_order_of : Stmt := (topS 20)
theorem sc_order_of : FnScope ["start", "seats", "seat", "far"] ["start", "seats", "seat"] (defScope s_order_of) := ⟨rfl, rfl, rfl, by decide +kernel, rfl, by decide +kernel, by decide +kernel⟩
abbrev s_is_mirrored : Stmt := (topS 19)
theorem sc_is_mirrored : FnScope ["rule", "row"] ["rule", "row"] (defScope s_is_mirrored) := ⟨rfl, rfl, rfl, by decide +kernel, rfl, by decide +kernel, by decide +kernel⟩
abbrev s_place_of : Stmt := (topS 21)
theorem sc_place_of : FnScope ["rule", "seats", "row", "seat", "own", "order"] ["rule", "seats", "row", "seat"] (defScope s_place_of) := ⟨rfl, rfl, rfl, by decide +kernel, rfl, by decide +kernel, by decide +kernel⟩
abbrev s_own_number : Stmt := (topS 23)
theorem sc_own_number : FnScope ["rule", "seats", "row", "seat"] ["rule", "seats", "row", "seat"] (defScope s_own_number) := ⟨rfl, rfl, rfl, by decide +kernel, rfl, by decide +kernel, by decide +kernel⟩
abbrev s_does_fit : Stmt := (topS 29)
theorem sc_does_fit : FnScope ["rule", "tickets", "rows", "seats", "row", "seat", "number"] ["rule", "tickets"] (defScope s_does_fit) := ⟨rfl, rfl, rfl, by decide +kernel, rfl, by decide +kernel, by decide +kernel⟩
abbrev s_own_turned : Stmt := (topS 16)
theorem sc_own_turned : FnScope ["rule", "point", "value", "found", "one", "own"] ["rule", "point", "value"] (defScope s_own_turned) := ⟨rfl, rfl, rfl, by decide +kernel, rfl, by decide +kernel, by decide +kernel⟩
abbrev s_changed : Stmt := (topS 31)
theorem sc_changed : FnScope ["rule", "changes", "point", "value"] ["rule", "changes"] (defScope s_changed) := ⟨rfl, rfl, rfl, by decide +kernel, rfl, by decide +kernel, by decide +kernel⟩
abbrev s_mends : Stmt := (topS 32)
theorem sc_mends : FnScope ["rule", "tickets", "limit", "points", "many", "found", "some"] ["rule", "tickets", "limit"] (defScope s_mends) := ⟨rfl, rfl, rfl, by decide +kernel, rfl, by decide +kernel, by decide +kernel⟩
abbrev s_law_refused : Stmt := (topS 46)
theorem sc_law_refused : FnScope ["_law_rule_here", "_law_tickets", "_law_bound", "_law_told", "e"] ["_law_rule_here", "_law_tickets", "_law_bound"] (defScope s_law_refused) := ⟨rfl, rfl, rfl, by decide +kernel, rfl, by decide +kernel, by decide +kernel⟩
abbrev s_law_changes : Stmt := (topS 43)
theorem sc_law_changes : FnScope ["_law_t", "_law_points", "_law_found", "_law_spots", "_law_point", "_law_some", "_law_later", "_law_value", "_law_row"] ["_law_t", "_law_points"] (defScope s_law_changes) := ⟨rfl, rfl, rfl, by decide +kernel, rfl, by decide +kernel, by decide +kernel⟩
abbrev s_law_values : Stmt := (topS 42)
theorem sc_law_values : FnScope ["_law_found"] [] (defScope s_law_values) := ⟨rfl, rfl, rfl, by decide +kernel, rfl, by decide +kernel, by decide +kernel⟩
abbrev s_law_fits : Stmt := (topS 45)
theorem sc_law_fits : FnScope ["_law_t", "_law_tickets", "_law_rows", "_law_seats", "_law_row", "_law_seat_here", "_law_goal"] ["_law_t", "_law_tickets"] (defScope s_law_fits) := ⟨rfl, rfl, rfl, by decide +kernel, rfl, by decide +kernel, by decide +kernel⟩
abbrev s_law_turned : Stmt := (topS 44)
theorem sc_law_turned : FnScope ["_law_t", "_law_changes_here", "_law_u", "_law_spots", "_law_point", "_law_value"] ["_law_t", "_law_changes_here"] (defScope s_law_turned) := ⟨rfl, rfl, rfl, by decide +kernel, rfl, by decide +kernel, by decide +kernel⟩
abbrev s_law : Stmt := (topS 47)
theorem sc_law : FnScope ["_law_script", "_law_h", "_law_t", "_law_u", "_law_other", "_law_turn", "_law_tickets", "_law_rule_here", "_law_bound", "_law_every", "_law_due", "_law_many", "_law_odd", "_law_point", "_law_k", "_law_some"] ["_law_script"] (defScope s_law) := ⟨rfl, rfl, rfl, by decide +kernel, rfl, by decide +kernel, by decide +kernel⟩
theorem reps_OUTS {G : Gx} (B : Hp) : Reps G B t_OUTS [V.int 0, V.int 2, V.int 3, V.int 4, V.int 5, V.int 6, V.int 7, V.int 8, V.int 9, V.int 10, V.int 11, V.int 12, V.int 13] := Reps.cons (by unfold Rep; rfl) (Reps.cons (by unfold Rep; rfl) (Reps.cons (by unfold Rep; rfl) (Reps.cons (by unfold Rep; rfl) (Reps.cons (by unfold Rep; rfl) (Reps.cons (by unfold Rep; rfl) (Reps.cons (by unfold Rep; rfl) (Reps.cons (by unfold Rep; rfl) (Reps.cons (by unfold Rep; rfl) (Reps.cons (by unfold Rep; rfl) (Reps.cons (by unfold Rep; rfl) (Reps.cons (by unfold Rep; rfl) (Reps.cons (by unfold Rep; rfl) (Reps.nil)))))))))))))
theorem reps_POINTS {G : Gx} (B : Hp) : Reps G B t_POINTS [V.str "start", V.str "rows", V.str "ways", V.str "out", V.str "kind"] := Reps.cons (by unfold Rep; rfl) (Reps.cons (by unfold Rep; rfl) (Reps.cons (by unfold Rep; rfl) (Reps.cons (by unfold Rep; rfl) (Reps.cons (by unfold Rep; rfl) (Reps.nil)))))
structure Ad where
  f_law_mix : Addr
  d_law_mix : FuncData
  f_law_next : Addr
  d_law_next : FuncData
  f_law_rule : Addr
  d_law_rule : FuncData
  f_is_integer : Addr
  d_is_integer : FuncData
  f_is_of : Addr
  d_is_of : FuncData
  f_Rule_init : Addr
  d_Rule_init : FuncData
  f_law_built : Addr
  d_law_built : FuncData
  f_law_number : Addr
  d_law_number : FuncData
  f_law_place : Addr
  d_law_place : FuncData
  f_law_ticket : Addr
  d_law_ticket : FuncData
  f_is_ticket : Addr
  d_is_ticket : FuncData
  f_InvalidTicket_init : Addr
  d_InvalidTicket_init : FuncData
  f_look_at_tickets : Addr
  d_look_at_tickets : FuncData
  f_values_of : Addr
  d_values_of : FuncData
  f_sets_of : Addr
  d_sets_of : FuncData
  f_number_at : Addr
  d_number_at : FuncData
  f_order_of : Addr
  d_order_of : FuncData
  f_is_mirrored : Addr
  d_is_mirrored : FuncData
  f_place_of : Addr
  d_place_of : FuncData
  f_own_number : Addr
  d_own_number : FuncData
  f_does_fit : Addr
  d_does_fit : FuncData
  f_own_turned : Addr
  d_own_turned : FuncData
  f_changed : Addr
  d_changed : FuncData
  f_mends : Addr
  d_mends : FuncData
  f_law_refused : Addr
  d_law_refused : FuncData
  f_law_changes : Addr
  d_law_changes : FuncData
  f_law_values : Addr
  d_law_values : FuncData
  f_law_fits : Addr
  d_law_fits : FuncData
  f_law_turned : Addr
  d_law_turned : FuncData
  f_law : Addr
  d_law : FuncData
  pR : Addr
  a_OUTS : Addr
  a_POINTS : Addr
  a_WORDS : Addr
structure Tx (P : Program) (w : World) (A : Ad) (mg : Str → Option Value) (G : Gx) : Prop where
  F_law_mix : Fun G.K "_law_mix" "_law_mix" s_law_mix A.f_law_mix A.d_law_mix
  b_law_mix : L2.Binds G.K A.d_law_mix ["_law_script", "_law_seed"] []
  g_law_mix : mg "_law_mix" = some (.ref A.f_law_mix)
  F_law_next : Fun G.K "_law_next" "_law_next" s_law_next A.f_law_next A.d_law_next
  b_law_next : L2.Binds G.K A.d_law_next ["_law_h", "_law_bound"] []
  g_law_next : mg "_law_next" = some (.ref A.f_law_next)
  F_law_rule : Fun G.K "_law_rule" "_law_rule" s_law_rule A.f_law_rule A.d_law_rule
  b_law_rule : L2.Binds G.K A.d_law_rule ["_law_h"] []
  g_law_rule : mg "_law_rule" = some (.ref A.f_law_rule)
  F_is_integer : Fun G.K "is_integer" "is_integer" s_is_integer A.f_is_integer A.d_is_integer
  b_is_integer : L2.Binds G.K A.d_is_integer ["value", "least", "most"] []
  g_is_integer : mg "is_integer" = some (.ref A.f_is_integer)
  F_is_of : Fun G.K "is_of" "is_of" s_is_of A.f_is_of A.d_is_of
  b_is_of : L2.Binds G.K A.d_is_of ["point", "value"] []
  g_is_of : mg "is_of" = some (.ref A.f_is_of)
  F_Rule_init : Fun G.K "__init__" "Rule.__init__" s_Rule_init A.f_Rule_init A.d_Rule_init
  b_Rule_init : L2.Binds G.K A.d_Rule_init ["self", "start", "rows", "ways", "out", "kind"] []
  F_law_built : Fun G.K "_law_built" "_law_built" s_law_built A.f_law_built A.d_law_built
  b_law_built : L2.Binds G.K A.d_law_built ["_law_t"] []
  g_law_built : mg "_law_built" = some (.ref A.f_law_built)
  F_law_number : Fun G.K "_law_number" "_law_number" s_law_number A.f_law_number A.d_law_number
  b_law_number : L2.Binds G.K A.d_law_number ["_law_t", "_law_place_here"] []
  g_law_number : mg "_law_number" = some (.ref A.f_law_number)
  F_law_place : Fun G.K "_law_place" "_law_place" s_law_place A.f_law_place A.d_law_place
  b_law_place : L2.Binds G.K A.d_law_place ["_law_t", "_law_seats", "_law_row", "_law_seat_here"] []
  g_law_place : mg "_law_place" = some (.ref A.f_law_place)
  F_law_ticket : Fun G.K "_law_ticket" "_law_ticket" s_law_ticket A.f_law_ticket A.d_law_ticket
  b_law_ticket : L2.Binds G.K A.d_law_ticket ["_law_h", "_law_t"] []
  g_law_ticket : mg "_law_ticket" = some (.ref A.f_law_ticket)
  F_is_ticket : Fun G.K "is_ticket" "is_ticket" s_is_ticket A.f_is_ticket A.d_is_ticket
  b_is_ticket : L2.Binds G.K A.d_is_ticket ["value"] []
  g_is_ticket : mg "is_ticket" = some (.ref A.f_is_ticket)
  F_InvalidTicket_init : Fun G.K "__init__" "InvalidTicket.__init__" s_InvalidTicket_init A.f_InvalidTicket_init A.d_InvalidTicket_init
  b_InvalidTicket_init : L2.Binds G.K A.d_InvalidTicket_init ["self", "index"] []
  F_look_at_tickets : Fun G.K "look_at_tickets" "look_at_tickets" s_look_at_tickets A.f_look_at_tickets A.d_look_at_tickets
  b_look_at_tickets : L2.Binds G.K A.d_look_at_tickets ["tickets"] []
  g_look_at_tickets : mg "look_at_tickets" = some (.ref A.f_look_at_tickets)
  F_values_of : Fun G.K "values_of" "values_of" s_values_of A.f_values_of A.d_values_of
  b_values_of : L2.Binds G.K A.d_values_of ["point"] []
  g_values_of : mg "values_of" = some (.ref A.f_values_of)
  F_sets_of : Fun G.K "sets_of" "sets_of" s_sets_of A.f_sets_of A.d_sets_of
  b_sets_of : L2.Binds G.K A.d_sets_of ["rule", "points", "many"] []
  g_sets_of : mg "sets_of" = some (.ref A.f_sets_of)
  F_number_at : Fun G.K "number_at" "number_at" s_number_at A.f_number_at A.d_number_at
  b_number_at : L2.Binds G.K A.d_number_at ["rule", "place"] []
  g_number_at : mg "number_at" = some (.ref A.f_number_at)
  F_order_of : Fun G.K "order_of" "order_of" s_order_of A.f_order_of A.d_order_of
  b_order_of : L2.Binds G.K A.d_order_of ["start", "seats", "seat"] []
  g_order_of : mg "order_of" = some (.ref A.f_order_of)
  F_is_mirrored : Fun G.K "is_mirrored" "is_mirrored" s_is_mirrored A.f_is_mirrored A.d_is_mirrored
  b_is_mirrored : L2.Binds G.K A.d_is_mirrored ["rule", "row"] []
  g_is_mirrored : mg "is_mirrored" = some (.ref A.f_is_mirrored)
  F_place_of : Fun G.K "place_of" "place_of" s_place_of A.f_place_of A.d_place_of
  b_place_of : L2.Binds G.K A.d_place_of ["rule", "seats", "row", "seat"] []
  g_place_of : mg "place_of" = some (.ref A.f_place_of)
  F_own_number : Fun G.K "own_number" "own_number" s_own_number A.f_own_number A.d_own_number
  b_own_number : L2.Binds G.K A.d_own_number ["rule", "seats", "row", "seat"] []
  g_own_number : mg "own_number" = some (.ref A.f_own_number)
  F_does_fit : Fun G.K "does_fit" "does_fit" s_does_fit A.f_does_fit A.d_does_fit
  b_does_fit : L2.Binds G.K A.d_does_fit ["rule", "tickets"] []
  g_does_fit : mg "does_fit" = some (.ref A.f_does_fit)
  F_own_turned : Fun G.K "own_turned" "own_turned" s_own_turned A.f_own_turned A.d_own_turned
  b_own_turned : L2.Binds G.K A.d_own_turned ["rule", "point", "value"] []
  g_own_turned : mg "own_turned" = some (.ref A.f_own_turned)
  F_changed : Fun G.K "changed" "changed" s_changed A.f_changed A.d_changed
  b_changed : L2.Binds G.K A.d_changed ["rule", "changes"] []
  g_changed : mg "changed" = some (.ref A.f_changed)
  F_mends : Fun G.K "mends" "mends" s_mends A.f_mends A.d_mends
  bd_mends : ∃ ds, Vals [V.int 2] ds ∧ L2.Binds G.K A.d_mends ["rule", "tickets", "limit"] ds
  kb_mends : KBn G.K A.d_mends ["rule", "tickets", "limit"] 2 ["limit"] (fun us ws => us ++ ws) (fun vs zs => vs ++ zs)
  g_mends : mg "mends" = some (.ref A.f_mends)
  F_law_refused : Fun G.K "_law_refused" "_law_refused" s_law_refused A.f_law_refused A.d_law_refused
  b_law_refused : L2.Binds G.K A.d_law_refused ["_law_rule_here", "_law_tickets", "_law_bound"] []
  g_law_refused : mg "_law_refused" = some (.ref A.f_law_refused)
  F_law_changes : Fun G.K "_law_changes" "_law_changes" s_law_changes A.f_law_changes A.d_law_changes
  b_law_changes : L2.Binds G.K A.d_law_changes ["_law_t", "_law_points"] []
  g_law_changes : mg "_law_changes" = some (.ref A.f_law_changes)
  F_law_values : Fun G.K "_law_values" "_law_values" s_law_values A.f_law_values A.d_law_values
  b_law_values : L2.Binds G.K A.d_law_values [] []
  g_law_values : mg "_law_values" = some (.ref A.f_law_values)
  F_law_fits : Fun G.K "_law_fits" "_law_fits" s_law_fits A.f_law_fits A.d_law_fits
  b_law_fits : L2.Binds G.K A.d_law_fits ["_law_t", "_law_tickets"] []
  g_law_fits : mg "_law_fits" = some (.ref A.f_law_fits)
  F_law_turned : Fun G.K "_law_turned" "_law_turned" s_law_turned A.f_law_turned A.d_law_turned
  b_law_turned : L2.Binds G.K A.d_law_turned ["_law_t", "_law_changes_here"] []
  g_law_turned : mg "_law_turned" = some (.ref A.f_law_turned)
  F_law : Fun G.K "law" "law" s_law A.f_law A.d_law
  b_law : L2.Binds G.K A.d_law ["_law_script"] []
  g_law : mg "law" = some (.ref A.f_law)
  z_all : mg "all" = none
  z_bool : mg "bool" = none
  z_enumerate : mg "enumerate" = none
  z_int : mg "int" = none
  z_isinstance : mg "isinstance" = none
  z_len : mg "len" = none
  z_list : mg "list" = none
  z_max : mg "max" = none
  z_range : mg "range" = none
  z_sorted : mg "sorted" = none
  z_str : mg "str" = none
  z_tuple : mg "tuple" = none
  z_zip : mg "zip" = none
  gR : mg "Rule" = some (.ref G.rc)
  M : Mk G.K G.rc A.f_Rule_init
  cR : SlX.SCls G.K G.rc
  sR : SlX.Slot1 G.K G.rc "parts" A.pR 0
  X_InvalidTicket : XCl0 G.K mg "InvalidTicket" (G.xc 0)
  O_InvalidTicket : OexC G.K (G.xc 0)
  xi_InvalidTicket : PySem.W.findIn G.K (.ref (G.xc 0)) "__init__" = some (some (.ref A.f_InvalidTicket_init))
  xt_InvalidTicket : PySem.W.typeIn G.K (.ref A.f_InvalidTicket_init) = some (.type "function")
  xn_InvalidTicket : ∀ f ∈ (["index"] : List Str), PySem.W.findIn G.K (.ref (G.xc 0)) f = some none
  xf_InvalidTicket : G.xf 0 = (["index"] : List Str).reverse
  m_InvalidTicket : ∀ m b, mtOne 2 0 m = some b → PySem.W.exmOne G.K (.ref (G.xc m)) (.ref (G.xc 0)) = some b
  X_InvalidLimit : XCls G.K mg "InvalidLimit" (G.xc 1)
  m_InvalidLimit : ∀ m b, mtOne 2 1 m = some b → PySem.W.exmOne G.K (.ref (G.xc m)) (.ref (G.xc 1)) = some b
  XF_InvalidTicket : XfC G.K (G.xc 0)
  nd_InvalidTicket : (G.xf 0).Nodup
  no_InvalidTicket_index : PySem.W.findIn G.K (.ref (G.xc 0)) "index" = some none
  fk_InvalidTicket_index : (G.xf 0)[0]? = some ("index" : Str)
  q_OUTS : mg "OUTS" = some (.ref A.a_OUTS)
  h_OUTS : SqT G.K (fun _ => none) A.a_OUTS [V.int 0, V.int 2, V.int 3, V.int 4, V.int 5, V.int 6, V.int 7, V.int 8, V.int 9, V.int 10, V.int 11, V.int 12, V.int 13]
  q_POINTS : mg "POINTS" = some (.ref A.a_POINTS)
  h_POINTS : SqT G.K (fun _ => none) A.a_POINTS [V.str "start", V.str "rows", V.str "ways", V.str "out", V.str "kind"]
  k_POINTS : ∃ ob, G.K.lookup A.a_POINTS = some ob ∧ ob.cls = .type "tuple" ∧ ob.dict = none
  i_MOST_SIZE : ∃ t, mg "MOST_SIZE" = some (.int 1000000 t)
  i_MOST : ∃ t, mg "MOST" = some (.int 1000000000000000000000000000000 t)
  i_MOST_LIMIT : ∃ t, mg "MOST_LIMIT" = some (.int 3 t)
  q_WORDS : mg "WORDS" = some (.ref A.a_WORDS)
  tb_WORDS : ∀ z ds, tab_WORDS.lookup z = some ds → ∃ b xs, KDct G.K w A.a_WORDS z (.ref b) ∧ SqT G.K (fun _ => none) b xs ∧ ∀ B, Reps G B ds xs
section
variable {P : Program} {w : World} {A : Ad} {mg : Str → Option Value} {G : Gx} {base : Heap}
theorem ok_law_mix (T : Tx P w A mg G) : FnOk P w G.K mg base (L2.CX P w) 1 A.f_law_mix A.d_law_mix ["_law_script", "_law_seed"] (spE G 2 m_law_mix) :=
  ok_E (k := 0) T.F_law_mix sc_law_mix rfl fun cd A' outer s H E hr =>
    (ds_cons (dp_set (i := 2) sc_law_mix.nd rfl (by first | exact Or.inl rfl | exact Or.inr rfl) (de_name 1))
    (ds_cons (dp_for passesF rfl (di_seq rfl (de_name 0)) (dg_name sc_law_mix.nd rfl (by first | exact Or.inl rfl | exact Or.inr rfl))
      (ds_one (dp_set (i := 2) sc_law_mix.nd rfl (by first | exact Or.inl rfl | exact Or.inr rfl) (de_bin op_mod oMod_ok (de_callTy call_int1 nInt_ok rfl T.z_int PyProof.Rows.boot_int (da_cons (de_bin oAdd_op oAdd_ok (de_bin oAdd_op oAdd_ok (de_bin oMul_op oMul_ok (de_name 2) de_int) (de_bin op_mod oMod_ok (de_callTy call_int1 nInt_ok rfl T.z_int PyProof.Rows.boot_int (da_cons (de_name 3) da_nil)) de_int)) de_int) da_nil)) de_int))))
    (ds_one (dp_ret (de_lstR (da_cons (de_name 2) (da_cons (de_callTy call_list_of nListC_ok rfl T.z_list PyProof.Rows.boot_list (da_cons (de_name 0) da_nil)) (da_cons de_int (da_cons de_int da_nil)))))))))
theorem ok_law_next (T : Tx P w A mg G) : FnOk P w G.K mg base (L2.CX P w) 1 A.f_law_next A.d_law_next ["_law_h", "_law_bound"] (spE G 2 m_law_next) :=
  ok_E (k := 0) T.F_law_next sc_law_next rfl fun cd A' outer s H E hr =>
    (ds_cons (dp_set (i := 2) sc_law_next.nd rfl (by first | exact Or.inl rfl | exact Or.inr rfl) (de_ix oIx_op oIx_ok (de_bin oAdd_op oAdd_ok (de_ix oIx_op oIx_ok (de_name 0) de_int (fun _ _ => rfl)) (de_lst (da_cons de_int da_nil))) (de_bin op_mod oMod_ok (de_callTy call_int1 nInt_ok rfl T.z_int PyProof.Rows.boot_int (da_cons (de_ix oIx_op oIx_ok (de_name 0) de_int (fun _ _ => rfl)) da_nil)) (de_callB (call_max2 rfl) nMax2_ok rfl T.z_max boot_max (da_cons de_int (da_cons (de_callB call_len_seq nLen_ok rfl T.z_len PySem.boot_len (da_cons (de_ix oIx_op oIx_ok (de_name 0) de_int (fun _ _ => rfl)) da_nil)) da_nil)))) (fun _ _ => rfl)))
    (ds_cons (dp_if (dt_cmp op_ge oGe_ok (de_name 2) (de_bin op_pow oPow_ok de_int de_int) (nomark _)) (ds_cons (dp_setI (de_bin op_fdivW oDiv_ok (de_name 2) (de_name 1)) (de_ix oIx_op oIx_ok (de_name 0) de_int (fun _ _ => rfl)) (de_bin op_mod oMod_ok (de_callTy call_int1 nInt_ok rfl T.z_int PyProof.Rows.boot_int (da_cons (de_ix oIx_op oIx_ok (de_name 0) de_int (fun _ _ => rfl)) da_nil)) (de_callB call_len_seq nLen_ok rfl T.z_len PySem.boot_len (da_cons (de_ix oIx_op oIx_ok (de_name 0) de_int (fun _ _ => rfl)) da_nil))))
    (ds_one (dp_ret (de_bin op_mod oMod_ok (de_callTy call_int1 nInt_ok rfl T.z_int PyProof.Rows.boot_int (da_cons (de_name 2) da_nil)) (de_name 1))))) ds_nil)
    (ds_cons (dp_setI (de_bin op_mod oMod_ok (de_callTy call_int1 nInt_ok rfl T.z_int PyProof.Rows.boot_int (da_cons (de_bin oAdd_op oAdd_ok (de_bin oAdd_op oAdd_ok (de_bin oMul_op oMul_ok (de_ix oIx_op oIx_ok (de_name 0) de_int (fun _ _ => rfl)) de_int) (de_bin oMul_op oMul_ok (de_name 2) de_int)) de_int) da_nil)) de_int) (de_name 0) de_int)
    (ds_cons (dp_setI (de_bin oAdd_op oAdd_ok (de_ix oIx_op oIx_ok (de_name 0) de_int (fun _ _ => rfl)) de_int) (de_name 0) de_int)
    (ds_one (dp_ret (de_bin op_mod oMod_ok (de_callTy call_int1 nInt_ok rfl T.z_int PyProof.Rows.boot_int (da_cons (de_bin op_fdivW oDiv_ok (de_ix oIx_op oIx_ok (de_name 0) de_int (fun _ _ => rfl)) de_int) da_nil)) (de_name 1))))))))
theorem ok_law_rule (T : Tx P w A mg G) : FnOk P w G.K mg base (L2.CX P w) 2 A.f_law_rule A.d_law_rule ["_law_h"] (spE G 1 m_law_rule) :=
  ok_E (k := 1) T.F_law_rule sc_law_rule rfl fun cd A' outer s H E hr =>
    (ds_cons (dp_set (i := 1) sc_law_rule.nd rfl (by first | exact Or.inl rfl | exact Or.inr rfl) (de_ix oIx_op oIx_ok (de_lst (da_cons de_str (da_cons de_str (da_cons de_str da_nil)))) (de_callE takesF (ok_law_next T) (hr.mono (by decide)) rfl T.g_law_next T.F_law_next.kp T.b_law_next (aCons_len (aCons_len (fun _ _ _ _ h => aNil_len h))) (da_cons (de_name 0) (da_cons de_int da_nil))) (fun _ _ => rfl)))
    (ds_cons (dp_par (i := 3) (j := 4) rfl sc_law_rule.nd rfl rfl (by decide) rfl rfl (da_cons (de_ix oIx_op oIx_ok (de_lst (da_cons de_str (da_cons de_str da_nil))) (de_callE takesF (ok_law_next T) (hr.mono (by decide)) rfl T.g_law_next T.F_law_next.kp T.b_law_next (aCons_len (aCons_len (fun _ _ _ _ h => aNil_len h))) (da_cons (de_name 0) (da_cons de_int da_nil))) (fun _ _ => rfl)) (da_cons (de_ix oIx_op oIx_ok (de_lst (da_cons de_str (da_cons de_str da_nil))) (de_callE takesF (ok_law_next T) (hr.mono (by decide)) rfl T.g_law_next T.F_law_next.kp T.b_law_next (aCons_len (aCons_len (fun _ _ _ _ h => aNil_len h))) (da_cons (de_name 0) (da_cons de_int da_nil))) (fun _ _ => rfl)) da_nil)) (by rfl))
    (ds_cons (dp_set (i := 2) sc_law_rule.nd rfl (by first | exact Or.inl rfl | exact Or.inr rfl) (de_ix oIx_op oIx_ok (de_lst (da_cons de_int (da_cons de_int (da_cons de_int (da_cons de_int (da_cons de_int (da_cons de_int (da_cons de_int (da_cons de_int (da_cons de_int (da_cons de_int (da_cons de_int (da_cons de_int (da_cons de_int da_nil)))))))))))))) (de_callE takesF (ok_law_next T) (hr.mono (by decide)) rfl T.g_law_next T.F_law_next.kp T.b_law_next (aCons_len (aCons_len (fun _ _ _ _ h => aNil_len h))) (da_cons (de_name 0) (da_cons de_int da_nil))) (fun _ _ => rfl)))
    (ds_one (dp_ret (de_lst (da_cons (de_name 1) (da_cons (de_name 3) (da_cons (de_name 4) (da_cons (de_name 2) (da_cons (de_ix oIx_op oIx_ok (de_lst (da_cons de_str (da_cons de_str da_nil))) (de_callE takesF (ok_law_next T) (hr.mono (by decide)) rfl T.g_law_next T.F_law_next.kp T.b_law_next (aCons_len (aCons_len (fun _ _ _ _ h => aNil_len h))) (da_cons (de_name 0) (da_cons de_int da_nil))) (fun _ _ => rfl)) da_nil)))))))))))
theorem ok_is_integer (T : Tx P w A mg G) : FnOk P w G.K mg base (L2.CX P w) 1 A.f_is_integer A.d_is_integer ["value", "least", "most"] (spP G 3 m_is_integer) :=
  ok_P (k := 0) T.F_is_integer sc_is_integer rfl fun cd A' outer s H E hr =>
    (ds_one (dp_ret (de_and (de_is rfl (de_name 0) rfl T.z_isinstance rfl T.z_int boot_int (by decide) (by decide)) (de_and (de_not (de_is rfl (de_name 0) rfl T.z_isinstance rfl T.z_bool boot_bool (by decide) (by decide))) (de_one (de_chain (pe_chain op_le op_le (de_name 1) (de_name 0) (de_name 2)) oLe_ok oLe_ok))))))
theorem ok_is_of (T : Tx P w A mg G) : FnOk P w G.K mg base (L2.CX P w) 2 A.f_is_of A.d_is_of ["point", "value"] (spP G 2 m_is_of) :=
  ok_P (k := 1) T.F_is_of sc_is_of rfl fun cd A' outer s H E hr =>
    (ds_cons (dp_if (dt_cmp (op_eqD hr.units) oEq_ok (de_name 0) de_str (nomark _)) (ds_one (dp_ret (de_and (de_callP takesF (ok_is_integer T) (hr.mono (by decide)) rfl T.g_is_integer T.F_is_integer.kp T.b_is_integer (aCons_len (aCons_len (aCons_len (fun _ _ _ _ h => aNil_len h)))) (da_cons (de_name 1) (da_cons de_int (da_cons (de_ix oIx_op oIx_ok (de_globT rfl T.q_OUTS T.h_OUTS reps_OUTS) (de_un un_neg uNeg_ok de_int) (fun _ _ => rfl)) da_nil)))) (de_one (de_cmp op_in_seq (oInS_ok false) (de_name 1) (de_globT rfl T.q_OUTS T.h_OUTS reps_OUTS) (by rfl)))))) ds_nil)
    (ds_one (dp_ret (de_and (de_is rfl (de_name 1) rfl T.z_isinstance rfl T.z_str boot_str (by decide) (by decide)) (de_one (de_cmp op_in_seq (oInS_ok false) (de_name 1) (de_tab rfl rfl T.q_WORDS T.tb_WORDS (de_name 0) (fun _ _ => rfl)) (by rfl)))))))
theorem ok_Rule_init (T : Tx P w A mg G) : FnOk P w G.K mg base (L2.CX P w) 3 A.f_Rule_init A.d_Rule_init ["self", "start", "rows", "ways", "out", "kind"] (spE G 6 m_Rule_init) :=
  ok_E (k := 2) T.F_Rule_init sc_Rule_init rfl fun cd A' outer s H E hr =>
    (ds_cons (dp_set (i := 6) sc_Rule_init.nd rfl (by first | exact Or.inl rfl | exact Or.inr rfl) (de_tup (da_cons (de_name 1) (da_cons (de_name 2) (da_cons (de_name 3) (da_cons (de_name 4) (da_cons (de_name 5) da_nil)))))))
    (ds_cons (dp_for passesF rfl (di_zip rfl rfl T.z_zip (de_globT rfl T.q_POINTS T.h_POINTS reps_POINTS) (de_name 6)) (dg_tup rfl rfl (dgs_cons (dg_name sc_Rule_init.nd rfl (by first | exact Or.inl rfl | exact Or.inr rfl)) (dgs_cons (dg_name sc_Rule_init.nd rfl (by first | exact Or.inl rfl | exact Or.inr rfl)) dgs_nil)))
      (ds_one (dp_if (dt_not (dt_val (de_callP takesF (ok_is_of T) (hr.mono (by decide)) rfl T.g_is_of T.F_is_of.kp T.b_is_of (aCons_len (aCons_len (fun _ _ _ _ h => aNil_len h))) (da_cons (de_name 7) (da_cons (de_name 8) da_nil))))) (ds_one dp_never) ds_nil)))
    (ds_one (dp_parts (i := 0) T.cR T.sR rfl (by first | exact Or.inl rfl | exact Or.inr (Or.inl rfl)) (de_name 6)))))
theorem ok_law_built (T : Tx P w A mg G) : FnOk P w G.K mg base (L2.CX P w) 5 A.f_law_built A.d_law_built ["_law_t"] (spP G 1 m_law_built) :=
  ok_P (k := 4) T.F_law_built sc_law_built rfl fun cd A' outer s H E hr =>
    (ds_one (dp_ret (de_make T.M (ok_Rule_init T) (hr.mono (by decide)) rfl T.gR T.b_Rule_init (aCons_len (aCons_len (aCons_len (aCons_len (aCons_len (fun _ _ _ _ h => aNil_len h)))))) (da_cons (de_ix oIx_op oIx_ok (de_name 0) de_int (fun _ _ => rfl)) (da_cons (de_ix oIx_op oIx_ok (de_name 0) de_int (fun _ _ => rfl)) (da_cons (de_ix oIx_op oIx_ok (de_name 0) de_int (fun _ _ => rfl)) (da_cons (de_ix oIx_op oIx_ok (de_name 0) de_int (fun _ _ => rfl)) (da_cons (de_ix oIx_op oIx_ok (de_name 0) de_int (fun _ _ => rfl)) da_nil))))))))
theorem ok_law_number (T : Tx P w A mg G) : FnOk P w G.K mg base (L2.CX P w) 1 A.f_law_number A.d_law_number ["_law_t", "_law_place_here"] (spP G 2 m_law_number) :=
  ok_P (k := 0) T.F_law_number sc_law_number rfl fun cd A' outer s H E hr =>
    (ds_cons (dp_if (PW.pt (dw_or (dt_cmp (op_eqD hr.units) oEq_ok (de_ix oIx_op oIx_ok (de_name 0) de_int (fun _ _ => rfl)) de_int (nomark _)) (dw_or1 (PW.pt (dw_and (dt_cmp (op_eqD hr.units) oEq_ok (de_ix oIx_op oIx_ok (de_name 0) de_int (fun _ _ => rfl)) de_str (nomark _)) (dw_and1 (dt_cmp op_lt oLt_ok (de_name 1) (de_bin op_sub oSub_ok (de_ix oIx_op oIx_ok (de_name 0) de_int (fun _ _ => rfl)) de_int) (nomark _)))))))) (ds_one (dp_ret (de_bin oAdd_op oAdd_ok (de_name 1) de_int))) ds_nil)
    (ds_cons (dp_if (dt_cmp (op_eqD hr.units) oEq_ok (de_ix oIx_op oIx_ok (de_name 0) de_int (fun _ _ => rfl)) de_str (nomark _)) (ds_one (dp_ret (de_bin oAdd_op oAdd_ok (de_name 1) de_int))) ds_nil)
    (ds_cons (dp_set (i := 2) sc_law_number.nd rfl (by first | exact Or.inl rfl | exact Or.inr rfl) (de_bin op_fdivW oDiv_ok (de_name 1) (de_bin op_sub oSub_ok (de_ix oIx_op oIx_ok (de_name 0) de_int (fun _ _ => rfl)) de_int)))
    (ds_one (dp_ret (de_bin oAdd_op oAdd_ok (de_bin oAdd_op oAdd_ok (de_bin oMul_op oMul_ok (de_name 2) (de_ix oIx_op oIx_ok (de_name 0) de_int (fun _ _ => rfl))) (de_bin op_sub oSub_ok (de_name 1) (de_bin oMul_op oMul_ok (de_name 2) (de_bin op_sub oSub_ok (de_ix oIx_op oIx_ok (de_name 0) de_int (fun _ _ => rfl)) de_int)))) de_int))))))
theorem ok_law_place (T : Tx P w A mg G) : FnOk P w G.K mg base (L2.CX P w) 1 A.f_law_place A.d_law_place ["_law_t", "_law_seats", "_law_row", "_law_seat_here"] (spP G 4 m_law_place) :=
  ok_P (k := 0) T.F_law_place sc_law_place rfl fun cd A' outer s H E hr =>
    (ds_cons (dp_if (PW.pt (dw_and (dt_cmp (op_eqD hr.units) oEq_ok (de_ix oIx_op oIx_ok (de_name 0) de_int (fun _ _ => rfl)) de_str (nomark _)) (dw_and1 (dt_cmp op_lt oLt_ok (de_bin oMul_op oMul_ok (de_bin op_fdivW oDiv_ok (de_name 2) de_int) de_int) (de_name 2) (nomark _))))) (ds_one (dp_set (i := 3) sc_law_place.nd rfl (by first | exact Or.inl rfl | exact Or.inr rfl) (de_bin op_sub oSub_ok (de_bin op_sub oSub_ok (de_name 1) de_int) (de_name 3)))) ds_nil)
    (ds_cons (dp_set (i := 4) sc_law_place.nd rfl (by first | exact Or.inl rfl | exact Or.inr rfl) (de_bin op_sub oSub_ok (de_bin op_fdivW oDiv_ok (de_bin oAdd_op oAdd_ok (de_name 1) de_int) de_int) de_int))
    (ds_cons (dp_set (i := 5) sc_law_place.nd rfl (by first | exact Or.inl rfl | exact Or.inr rfl) (de_if (dt_cmp (op_eqD hr.units) oEq_ok (de_ix oIx_op oIx_ok (de_name 0) de_int (fun _ _ => rfl)) de_str (nomark _)) (de_name 3) (de_bin op_sub oSub_ok (de_bin op_sub oSub_ok (de_name 1) de_int) (de_name 3))))
    (ds_cons (dp_if (dt_cmp (op_eqD hr.units) oEq_ok (de_ix oIx_op oIx_ok (de_name 0) de_int (fun _ _ => rfl)) de_str (nomark _)) (ds_one (dp_set (i := 5) sc_law_place.nd rfl (by first | exact Or.inl rfl | exact Or.inr rfl) (de_if (dt_cmp op_gt oGt_ok (de_name 3) (de_name 4) (nomark _)) (de_bin op_sub oSub_ok (de_bin oMul_op oMul_ok de_int (de_bin op_sub oSub_ok (de_name 3) (de_name 4))) de_int) (de_bin oMul_op oMul_ok de_int (de_bin op_sub oSub_ok (de_name 4) (de_name 3)))))) ds_nil)
    (ds_one (dp_ret (de_if (dt_cmp (op_eqD hr.units) oEq_ok (de_ix oIx_op oIx_ok (de_name 0) de_int (fun _ _ => rfl)) de_str (nomark _)) (de_bin oAdd_op oAdd_ok (de_name 5) (de_bin oMul_op oMul_ok (de_name 1) (de_name 2))) (de_name 5))))))))
theorem ok_law_ticket (T : Tx P w A mg G) : FnOk P w G.K mg base (L2.CX P w) 2 A.f_law_ticket A.d_law_ticket ["_law_h", "_law_t"] (spE G 2 m_law_ticket) :=
  ok_E (k := 1) T.F_law_ticket sc_law_ticket rfl fun cd A' outer s H E hr =>
    (ds_cons (dp_par (i := 3) (j := 4) rfl sc_law_ticket.nd rfl rfl (by decide) rfl rfl (da_cons (de_bin oAdd_op oAdd_ok de_int (de_callE takesF (ok_law_next T) (hr.mono (by decide)) rfl T.g_law_next T.F_law_next.kp T.b_law_next (aCons_len (aCons_len (fun _ _ _ _ h => aNil_len h))) (da_cons (de_name 0) (da_cons de_int da_nil)))) (da_cons (de_bin oAdd_op oAdd_ok de_int (de_callE takesF (ok_law_next T) (hr.mono (by decide)) rfl T.g_law_next T.F_law_next.kp T.b_law_next (aCons_len (aCons_len (fun _ _ _ _ h => aNil_len h))) (da_cons (de_name 0) (da_cons de_int da_nil)))) da_nil)) (by rfl))
    (ds_cons (dp_par (i := 5) (j := 6) rfl sc_law_ticket.nd rfl rfl (by decide) rfl rfl (da_cons (de_callE takesF (ok_law_next T) (hr.mono (by decide)) rfl T.g_law_next T.F_law_next.kp T.b_law_next (aCons_len (aCons_len (fun _ _ _ _ h => aNil_len h))) (da_cons (de_name 0) (da_cons (de_name 3) da_nil))) (da_cons (de_callE takesF (ok_law_next T) (hr.mono (by decide)) rfl T.g_law_next T.F_law_next.kp T.b_law_next (aCons_len (aCons_len (fun _ _ _ _ h => aNil_len h))) (da_cons (de_name 0) (da_cons (de_name 4) da_nil))) da_nil)) (by rfl))
    (ds_cons (dp_set (i := 2) sc_law_ticket.nd rfl (by first | exact Or.inl rfl | exact Or.inr rfl) (de_callP takesF (ok_law_number T) (hr.mono (by decide)) rfl T.g_law_number T.F_law_number.kp T.b_law_number (aCons_len (aCons_len (fun _ _ _ _ h => aNil_len h))) (da_cons (de_name 1) (da_cons (de_callP takesF (ok_law_place T) (hr.mono (by decide)) rfl T.g_law_place T.F_law_place.kp T.b_law_place (aCons_len (aCons_len (aCons_len (aCons_len (fun _ _ _ _ h => aNil_len h))))) (da_cons (de_name 1) (da_cons (de_name 4) (da_cons (de_name 5) (da_cons (de_name 6) da_nil))))) da_nil))))
    (ds_one (dp_ret (de_tup (da_cons (de_name 3) (da_cons (de_name 4) (da_cons (de_name 5) (da_cons (de_name 6) (da_cons (de_callB (call_max2 rfl) nMax2_ok rfl T.z_max boot_max (da_cons de_int (da_cons (de_bin oAdd_op oAdd_ok (de_name 2) (de_ix oIx_op oIx_ok (de_lst (da_cons de_int (da_cons de_int (da_cons de_int (da_cons de_int (da_cons de_int (da_cons de_int (da_cons (de_un un_neg uNeg_ok de_int) da_nil)))))))) (de_callE takesF (ok_law_next T) (hr.mono (by decide)) rfl T.g_law_next T.F_law_next.kp T.b_law_next (aCons_len (aCons_len (fun _ _ _ _ h => aNil_len h))) (da_cons (de_name 0) (da_cons de_int da_nil))) (fun _ _ => rfl))) da_nil))) da_nil)))))))))))
theorem ok_is_ticket (T : Tx P w A mg G) : FnOk P w G.K mg base (L2.CX P w) 2 A.f_is_ticket A.d_is_ticket ["value"] (spP G 1 m_is_ticket) :=
  ok_P (k := 1) T.F_is_ticket sc_is_ticket rfl fun cd A' outer s H E hr =>
    (ds_cons (dp_if (PW.pt (dw_or (dt_not (dt_val (de_is rfl (de_name 0) rfl T.z_isinstance rfl T.z_tuple boot_tuple (by decide) (by decide)))) (dw_or1 (dt_cmp (op_neD hr.units) oNe_ok (de_callB call_len_seq nLen_ok rfl T.z_len PySem.boot_len (da_cons (de_name 0) da_nil)) de_int (nomark _))))) (ds_one (dp_ret de_bl)) ds_nil)
    (ds_cons (dp_asg (de_name 0) (dg_tup rfl rfl (dgs_cons (dg_name sc_is_ticket.nd rfl (by first | exact Or.inl rfl | exact Or.inr rfl)) (dgs_cons (dg_name sc_is_ticket.nd rfl (by first | exact Or.inl rfl | exact Or.inr rfl)) (dgs_cons (dg_name sc_is_ticket.nd rfl (by first | exact Or.inl rfl | exact Or.inr rfl)) (dgs_cons (dg_name sc_is_ticket.nd rfl (by first | exact Or.inl rfl | exact Or.inr rfl)) (dgs_cons (dg_name sc_is_ticket.nd rfl (by first | exact Or.inl rfl | exact Or.inr rfl)) dgs_nil)))))))
    (ds_cons (dp_if (PW.pt (dw_or (dt_not (dt_val (de_callP takesF (ok_is_integer T) (hr.mono (by decide)) rfl T.g_is_integer T.F_is_integer.kp T.b_is_integer (aCons_len (aCons_len (aCons_len (fun _ _ _ _ h => aNil_len h)))) (da_cons (de_name 1) (da_cons de_int (da_cons (de_globI rfl T.i_MOST_SIZE.choose_spec) da_nil)))))) (dw_or (dt_not (dt_val (de_callP takesF (ok_is_integer T) (hr.mono (by decide)) rfl T.g_is_integer T.F_is_integer.kp T.b_is_integer (aCons_len (aCons_len (aCons_len (fun _ _ _ _ h => aNil_len h)))) (da_cons (de_name 2) (da_cons de_int (da_cons (de_globI rfl T.i_MOST_SIZE.choose_spec) da_nil)))))) (dw_or1 (dt_not (dt_val (de_callP takesF (ok_is_integer T) (hr.mono (by decide)) rfl T.g_is_integer T.F_is_integer.kp T.b_is_integer (aCons_len (aCons_len (aCons_len (fun _ _ _ _ h => aNil_len h)))) (da_cons (de_name 3) (da_cons de_int (da_cons (de_bin op_sub oSub_ok (de_name 1) de_int) da_nil)))))))))) (ds_one (dp_ret de_bl)) ds_nil)
    (ds_one (dp_ret (de_and (de_callP takesF (ok_is_integer T) (hr.mono (by decide)) rfl T.g_is_integer T.F_is_integer.kp T.b_is_integer (aCons_len (aCons_len (aCons_len (fun _ _ _ _ h => aNil_len h)))) (da_cons (de_name 4) (da_cons de_int (da_cons (de_bin op_sub oSub_ok (de_name 2) de_int) da_nil)))) (de_one (de_callP takesF (ok_is_integer T) (hr.mono (by decide)) rfl T.g_is_integer T.F_is_integer.kp T.b_is_integer (aCons_len (aCons_len (aCons_len (fun _ _ _ _ h => aNil_len h)))) (da_cons (de_name 5) (da_cons de_int (da_cons (de_globI rfl T.i_MOST.choose_spec) da_nil)))))))))))
theorem ok_InvalidTicket_init (T : Tx P w A mg G) : FnOk P w G.K mg base (L2.CX P w) 1 A.f_InvalidTicket_init A.d_InvalidTicket_init ["self", "index"] (spX G.K ["index"]) :=
  ok_x1 T.F_InvalidTicket_init sc_InvalidTicket_init fun cd A' outer s H E => pss_one (ps_ost (pe_var (i := 0) rfl (by first | exact Or.inl rfl | exact Or.inr (Or.inl rfl))) (pe_var (i := 1) rfl (by first | exact Or.inl rfl | exact Or.inr (Or.inl rfl))))
theorem ok_look_at_tickets (T : Tx P w A mg G) : FnOk P w G.K mg base (L2.CX P w) 3 A.f_look_at_tickets A.d_look_at_tickets ["tickets"] (spP G 1 m_look_at_tickets) :=
  ok_P (k := 2) T.F_look_at_tickets sc_look_at_tickets rfl fun cd A' outer s H E hr =>
    (ds_one (dp_for passesF rfl (di_enumX rfl rfl T.z_enumerate (de_name 0)) (dg_tup rfl rfl (dgs_cons (dg_name sc_look_at_tickets.nd rfl (by first | exact Or.inl rfl | exact Or.inr rfl)) (dgs_cons (dg_name sc_look_at_tickets.nd rfl (by first | exact Or.inl rfl | exact Or.inr rfl)) dgs_nil)))
      (ds_one (dp_if (dt_not (dt_val (de_callP takesF (ok_is_ticket T) (hr.mono (by decide)) rfl T.g_is_ticket T.F_is_ticket.kp T.b_is_ticket (aCons_len (fun _ _ _ _ h => aNil_len h)) (da_cons (de_name 2) da_nil)))) (ds_one (dp_raiseA T.O_InvalidTicket T.xi_InvalidTicket T.xt_InvalidTicket (ok_InvalidTicket_init T) (hr.mono (by decide)) T.b_InvalidTicket_init T.xn_InvalidTicket T.xf_InvalidTicket rfl (by decide) (by decide) rfl takesF rfl rfl T.X_InvalidTicket.g (da_cons (de_name 1) da_nil))) ds_nil))))
theorem ok_values_of (T : Tx P w A mg G) : FnOk P w G.K mg base (L2.CX P w) 1 A.f_values_of A.d_values_of ["point"] (spP G 1 m_values_of) :=
  ok_P (k := 0) T.F_values_of sc_values_of rfl fun cd A' outer s H E hr =>
    (ds_one (dp_ret (de_if (dt_cmp (op_eqD hr.units) oEq_ok (de_name 0) de_str (nomark _)) (de_globT rfl T.q_OUTS T.h_OUTS reps_OUTS) (de_tab rfl rfl T.q_WORDS T.tb_WORDS (de_name 0) (fun _ _ => rfl)))))
theorem ok_sets_of0 (T : Tx P w A mg G) : FnOk P w G.K mg base (L2.CX P w) 1 A.f_sets_of A.d_sets_of ["rule", "points", "many"] (spP G 3 m_sets_of0) := ok_bad
theorem ok_sets_of1 (T : Tx P w A mg G) : FnOk P w G.K mg base (L2.CX P w) 2 A.f_sets_of A.d_sets_of ["rule", "points", "many"] (spP G 3 m_sets_of1) :=
  ok_P (k := 1) T.F_sets_of sc_sets_of rfl fun cd A' outer s H E hr =>
    (ds_cons (dp_if (dt_cmp (op_eqD hr.units) oEq_ok (de_name 2) de_int (nomark _)) (ds_one (dp_ret (de_lst (da_cons (de_tup da_nil) da_nil)))) ds_nil)
    (ds_cons (dp_set (i := 3) sc_sets_of.nd rfl (by first | exact Or.inl rfl | exact Or.inr rfl) (de_lstC da_nil))
    (ds_cons (dp_for passesF rfl (di_enumX rfl rfl T.z_enumerate (de_name 1)) (dg_tup rfl rfl (dgs_cons (dg_name sc_sets_of.nd rfl (by first | exact Or.inl rfl | exact Or.inr rfl)) (dgs_cons (dg_name sc_sets_of.nd rfl (by first | exact Or.inl rfl | exact Or.inr rfl)) dgs_nil)))
      (ds_cons (dp_set (i := 6) sc_sets_of.nd rfl (by first | exact Or.inl rfl | exact Or.inr rfl) (de_ix oIx_op oIx_ok (de_parts T.cR T.sR rfl (de_name 0)) (de_indexC rfl rfl T.q_POINTS T.k_POINTS T.h_POINTS (de_name 5)) (fun _ _ => rfl)))
    (ds_one (dp_for passesF rfl (di_seq rfl (de_comp (own := [("value", 7)]) rfl sc_sets_of.nd (di_seq rfl (de_callP takesF (ok_values_of T) (hr.mono (by decide)) rfl T.g_values_of T.F_values_of.kp T.b_values_of (aCons_len (fun _ _ _ _ h => aNil_len h)) (da_cons (de_name 5) da_nil))) (blkOk_by (N := ["rule", "points", "many", "found", "index", "point", "own", "value", "rest"]) (sc := (defScope s_sets_of)) (by decide +kernel)) (by decide)
      (fun _ _ _ _ _ => (dg_name sc_sets_of.nd rfl (by first | exact Or.inl rfl | exact Or.inr rfl))) (fun _ _ _ _ _ => (dts_one (dt_cmp (op_neD hr.units) oNe_ok (de_name 7) (de_name 6) (nomark _)))) (fun _ _ _ _ _ => (de_name 7)))) (dg_name sc_sets_of.nd rfl (by first | exact Or.inl rfl | exact Or.inr rfl))
      (ds_one (dp_expr (de_ext (de_name 3) (de_comp (own := [("rest", 8)]) rfl sc_sets_of.nd (di_seq rfl (de_callP takesF (ok_sets_of0 T) (hr.mono (by decide)) rfl T.g_sets_of T.F_sets_of.kp T.b_sets_of (aCons_len (aCons_len (aCons_len (fun _ _ _ _ h => aNil_len h)))) (da_cons (de_name 0) (da_cons (de_slice rfl (de_name 1) (do_at (de_bin oAdd_op oAdd_ok (de_name 4) de_int)) do_no) (da_cons (de_bin op_sub oSub_ok (de_name 2) de_int) da_nil))))) (blkOk_by (N := ["rule", "points", "many", "found", "index", "point", "own", "value", "rest"]) (sc := (defScope s_sets_of)) (by decide +kernel)) (by decide)
      (fun _ _ _ _ _ => (dg_name sc_sets_of.nd rfl (by first | exact Or.inl rfl | exact Or.inr rfl))) (fun _ _ _ _ _ => dts_nil) (fun _ _ _ _ _ => (de_tup (da_cons (de_tup (da_cons (de_name 5) (da_cons (de_name 7) da_nil))) (da_star rfl (de_name 8) da_nil))))))))))))
    (ds_one (dp_ret (de_name 3))))))
theorem ok_sets_of2 (T : Tx P w A mg G) : FnOk P w G.K mg base (L2.CX P w) 3 A.f_sets_of A.d_sets_of ["rule", "points", "many"] (spP G 3 m_sets_of2) :=
  ok_P (k := 2) T.F_sets_of sc_sets_of rfl fun cd A' outer s H E hr =>
    (ds_cons (dp_if (dt_cmp (op_eqD hr.units) oEq_ok (de_name 2) de_int (nomark _)) (ds_one (dp_ret (de_lst (da_cons (de_tup da_nil) da_nil)))) ds_nil)
    (ds_cons (dp_set (i := 3) sc_sets_of.nd rfl (by first | exact Or.inl rfl | exact Or.inr rfl) (de_lstC da_nil))
    (ds_cons (dp_for passesF rfl (di_enumX rfl rfl T.z_enumerate (de_name 1)) (dg_tup rfl rfl (dgs_cons (dg_name sc_sets_of.nd rfl (by first | exact Or.inl rfl | exact Or.inr rfl)) (dgs_cons (dg_name sc_sets_of.nd rfl (by first | exact Or.inl rfl | exact Or.inr rfl)) dgs_nil)))
      (ds_cons (dp_set (i := 6) sc_sets_of.nd rfl (by first | exact Or.inl rfl | exact Or.inr rfl) (de_ix oIx_op oIx_ok (de_parts T.cR T.sR rfl (de_name 0)) (de_indexC rfl rfl T.q_POINTS T.k_POINTS T.h_POINTS (de_name 5)) (fun _ _ => rfl)))
    (ds_one (dp_for passesF rfl (di_seq rfl (de_comp (own := [("value", 7)]) rfl sc_sets_of.nd (di_seq rfl (de_callP takesF (ok_values_of T) (hr.mono (by decide)) rfl T.g_values_of T.F_values_of.kp T.b_values_of (aCons_len (fun _ _ _ _ h => aNil_len h)) (da_cons (de_name 5) da_nil))) (blkOk_by (N := ["rule", "points", "many", "found", "index", "point", "own", "value", "rest"]) (sc := (defScope s_sets_of)) (by decide +kernel)) (by decide)
      (fun _ _ _ _ _ => (dg_name sc_sets_of.nd rfl (by first | exact Or.inl rfl | exact Or.inr rfl))) (fun _ _ _ _ _ => (dts_one (dt_cmp (op_neD hr.units) oNe_ok (de_name 7) (de_name 6) (nomark _)))) (fun _ _ _ _ _ => (de_name 7)))) (dg_name sc_sets_of.nd rfl (by first | exact Or.inl rfl | exact Or.inr rfl))
      (ds_one (dp_expr (de_ext (de_name 3) (de_comp (own := [("rest", 8)]) rfl sc_sets_of.nd (di_seq rfl (de_callP takesF (ok_sets_of1 T) (hr.mono (by decide)) rfl T.g_sets_of T.F_sets_of.kp T.b_sets_of (aCons_len (aCons_len (aCons_len (fun _ _ _ _ h => aNil_len h)))) (da_cons (de_name 0) (da_cons (de_slice rfl (de_name 1) (do_at (de_bin oAdd_op oAdd_ok (de_name 4) de_int)) do_no) (da_cons (de_bin op_sub oSub_ok (de_name 2) de_int) da_nil))))) (blkOk_by (N := ["rule", "points", "many", "found", "index", "point", "own", "value", "rest"]) (sc := (defScope s_sets_of)) (by decide +kernel)) (by decide)
      (fun _ _ _ _ _ => (dg_name sc_sets_of.nd rfl (by first | exact Or.inl rfl | exact Or.inr rfl))) (fun _ _ _ _ _ => dts_nil) (fun _ _ _ _ _ => (de_tup (da_cons (de_tup (da_cons (de_name 5) (da_cons (de_name 7) da_nil))) (da_star rfl (de_name 8) da_nil))))))))))))
    (ds_one (dp_ret (de_name 3))))))
theorem ok_sets_of3 (T : Tx P w A mg G) : FnOk P w G.K mg base (L2.CX P w) 4 A.f_sets_of A.d_sets_of ["rule", "points", "many"] (spP G 3 m_sets_of3) :=
  ok_P (k := 3) T.F_sets_of sc_sets_of rfl fun cd A' outer s H E hr =>
    (ds_cons (dp_if (dt_cmp (op_eqD hr.units) oEq_ok (de_name 2) de_int (nomark _)) (ds_one (dp_ret (de_lst (da_cons (de_tup da_nil) da_nil)))) ds_nil)
    (ds_cons (dp_set (i := 3) sc_sets_of.nd rfl (by first | exact Or.inl rfl | exact Or.inr rfl) (de_lstC da_nil))
    (ds_cons (dp_for passesF rfl (di_enumX rfl rfl T.z_enumerate (de_name 1)) (dg_tup rfl rfl (dgs_cons (dg_name sc_sets_of.nd rfl (by first | exact Or.inl rfl | exact Or.inr rfl)) (dgs_cons (dg_name sc_sets_of.nd rfl (by first | exact Or.inl rfl | exact Or.inr rfl)) dgs_nil)))
      (ds_cons (dp_set (i := 6) sc_sets_of.nd rfl (by first | exact Or.inl rfl | exact Or.inr rfl) (de_ix oIx_op oIx_ok (de_parts T.cR T.sR rfl (de_name 0)) (de_indexC rfl rfl T.q_POINTS T.k_POINTS T.h_POINTS (de_name 5)) (fun _ _ => rfl)))
    (ds_one (dp_for passesF rfl (di_seq rfl (de_comp (own := [("value", 7)]) rfl sc_sets_of.nd (di_seq rfl (de_callP takesF (ok_values_of T) (hr.mono (by decide)) rfl T.g_values_of T.F_values_of.kp T.b_values_of (aCons_len (fun _ _ _ _ h => aNil_len h)) (da_cons (de_name 5) da_nil))) (blkOk_by (N := ["rule", "points", "many", "found", "index", "point", "own", "value", "rest"]) (sc := (defScope s_sets_of)) (by decide +kernel)) (by decide)
      (fun _ _ _ _ _ => (dg_name sc_sets_of.nd rfl (by first | exact Or.inl rfl | exact Or.inr rfl))) (fun _ _ _ _ _ => (dts_one (dt_cmp (op_neD hr.units) oNe_ok (de_name 7) (de_name 6) (nomark _)))) (fun _ _ _ _ _ => (de_name 7)))) (dg_name sc_sets_of.nd rfl (by first | exact Or.inl rfl | exact Or.inr rfl))
      (ds_one (dp_expr (de_ext (de_name 3) (de_comp (own := [("rest", 8)]) rfl sc_sets_of.nd (di_seq rfl (de_callP takesF (ok_sets_of2 T) (hr.mono (by decide)) rfl T.g_sets_of T.F_sets_of.kp T.b_sets_of (aCons_len (aCons_len (aCons_len (fun _ _ _ _ h => aNil_len h)))) (da_cons (de_name 0) (da_cons (de_slice rfl (de_name 1) (do_at (de_bin oAdd_op oAdd_ok (de_name 4) de_int)) do_no) (da_cons (de_bin op_sub oSub_ok (de_name 2) de_int) da_nil))))) (blkOk_by (N := ["rule", "points", "many", "found", "index", "point", "own", "value", "rest"]) (sc := (defScope s_sets_of)) (by decide +kernel)) (by decide)
      (fun _ _ _ _ _ => (dg_name sc_sets_of.nd rfl (by first | exact Or.inl rfl | exact Or.inr rfl))) (fun _ _ _ _ _ => dts_nil) (fun _ _ _ _ _ => (de_tup (da_cons (de_tup (da_cons (de_name 5) (da_cons (de_name 7) da_nil))) (da_star rfl (de_name 8) da_nil))))))))))))
    (ds_one (dp_ret (de_name 3))))))
theorem ok_sets_of4 (T : Tx P w A mg G) : FnOk P w G.K mg base (L2.CX P w) 5 A.f_sets_of A.d_sets_of ["rule", "points", "many"] (spP G 3 m_sets_of4) :=
  ok_P (k := 4) T.F_sets_of sc_sets_of rfl fun cd A' outer s H E hr =>
    (ds_cons (dp_if (dt_cmp (op_eqD hr.units) oEq_ok (de_name 2) de_int (nomark _)) (ds_one (dp_ret (de_lst (da_cons (de_tup da_nil) da_nil)))) ds_nil)
    (ds_cons (dp_set (i := 3) sc_sets_of.nd rfl (by first | exact Or.inl rfl | exact Or.inr rfl) (de_lstC da_nil))
    (ds_cons (dp_for passesF rfl (di_enumX rfl rfl T.z_enumerate (de_name 1)) (dg_tup rfl rfl (dgs_cons (dg_name sc_sets_of.nd rfl (by first | exact Or.inl rfl | exact Or.inr rfl)) (dgs_cons (dg_name sc_sets_of.nd rfl (by first | exact Or.inl rfl | exact Or.inr rfl)) dgs_nil)))
      (ds_cons (dp_set (i := 6) sc_sets_of.nd rfl (by first | exact Or.inl rfl | exact Or.inr rfl) (de_ix oIx_op oIx_ok (de_parts T.cR T.sR rfl (de_name 0)) (de_indexC rfl rfl T.q_POINTS T.k_POINTS T.h_POINTS (de_name 5)) (fun _ _ => rfl)))
    (ds_one (dp_for passesF rfl (di_seq rfl (de_comp (own := [("value", 7)]) rfl sc_sets_of.nd (di_seq rfl (de_callP takesF (ok_values_of T) (hr.mono (by decide)) rfl T.g_values_of T.F_values_of.kp T.b_values_of (aCons_len (fun _ _ _ _ h => aNil_len h)) (da_cons (de_name 5) da_nil))) (blkOk_by (N := ["rule", "points", "many", "found", "index", "point", "own", "value", "rest"]) (sc := (defScope s_sets_of)) (by decide +kernel)) (by decide)
      (fun _ _ _ _ _ => (dg_name sc_sets_of.nd rfl (by first | exact Or.inl rfl | exact Or.inr rfl))) (fun _ _ _ _ _ => (dts_one (dt_cmp (op_neD hr.units) oNe_ok (de_name 7) (de_name 6) (nomark _)))) (fun _ _ _ _ _ => (de_name 7)))) (dg_name sc_sets_of.nd rfl (by first | exact Or.inl rfl | exact Or.inr rfl))
      (ds_one (dp_expr (de_ext (de_name 3) (de_comp (own := [("rest", 8)]) rfl sc_sets_of.nd (di_seq rfl (de_callP takesF (ok_sets_of3 T) (hr.mono (by decide)) rfl T.g_sets_of T.F_sets_of.kp T.b_sets_of (aCons_len (aCons_len (aCons_len (fun _ _ _ _ h => aNil_len h)))) (da_cons (de_name 0) (da_cons (de_slice rfl (de_name 1) (do_at (de_bin oAdd_op oAdd_ok (de_name 4) de_int)) do_no) (da_cons (de_bin op_sub oSub_ok (de_name 2) de_int) da_nil))))) (blkOk_by (N := ["rule", "points", "many", "found", "index", "point", "own", "value", "rest"]) (sc := (defScope s_sets_of)) (by decide +kernel)) (by decide)
      (fun _ _ _ _ _ => (dg_name sc_sets_of.nd rfl (by first | exact Or.inl rfl | exact Or.inr rfl))) (fun _ _ _ _ _ => dts_nil) (fun _ _ _ _ _ => (de_tup (da_cons (de_tup (da_cons (de_name 5) (da_cons (de_name 7) da_nil))) (da_star rfl (de_name 8) da_nil))))))))))))
    (ds_one (dp_ret (de_name 3))))))
theorem ok_sets_of (T : Tx P w A mg G) : FnOk P w G.K mg base (L2.CX P w) 5 A.f_sets_of A.d_sets_of ["rule", "points", "many"] (spP G 3 m_sets_of) := ok_sets_of4 T
theorem ok_number_at (T : Tx P w A mg G) : FnOk P w G.K mg base (L2.CX P w) 1 A.f_number_at A.d_number_at ["rule", "place"] (spP G 2 m_number_at) :=
  ok_P (k := 0) T.F_number_at sc_number_at rfl fun cd A' outer s H E hr =>
    (ds_cons (dp_set (i := 2) sc_number_at.nd rfl (by first | exact Or.inl rfl | exact Or.inr rfl) (de_ix oIx_op oIx_ok (de_parts T.cR T.sR rfl (de_name 0)) de_int (fun _ _ => rfl)))
    (ds_cons (dp_if (dt_cmp (op_eqD hr.units) oEq_ok (de_name 2) de_int (nomark _)) (ds_one (dp_ret (de_bin oAdd_op oAdd_ok (de_name 1) de_int))) ds_nil)
    (ds_cons (dp_if (dt_cmp (op_eqD hr.units) oEq_ok (de_ix oIx_op oIx_ok (de_parts T.cR T.sR rfl (de_name 0)) de_int (fun _ _ => rfl)) de_str (nomark _)) (ds_one (dp_ret (de_bin oAdd_op oAdd_ok (de_bin oAdd_op oAdd_ok (de_name 1) de_int) (de_bin op_fdivW oDiv_ok (de_name 1) (de_bin op_sub oSub_ok (de_name 2) de_int))))) ds_nil)
    (ds_one (dp_ret (de_if (dt_cmp op_lt oLt_ok (de_bin oAdd_op oAdd_ok (de_name 1) de_int) (de_name 2) (nomark _)) (de_bin oAdd_op oAdd_ok (de_name 1) de_int) (de_bin oAdd_op oAdd_ok (de_name 1) de_int)))))))
theorem ok_order_of (T : Tx P w A mg G) : FnOk P w G.K mg base (L2.CX P w) 1 A.f_order_of A.d_order_of ["start", "seats", "seat"] (spP G 3 m_order_of) :=
  ok_P (k := 0) T.F_order_of sc_order_of rfl fun cd A' outer s H E hr =>
    (ds_cons (dp_if (dt_cmp (op_eqD hr.units) oEq_ok (de_name 0) de_str (nomark _)) (ds_one (dp_ret (de_name 2))) ds_nil)
    (ds_cons (dp_if (dt_cmp (op_eqD hr.units) oEq_ok (de_name 0) de_str (nomark _)) (ds_one (dp_ret (de_bin op_sub oSub_ok (de_bin op_sub oSub_ok (de_name 1) de_int) (de_name 2)))) ds_nil)
    (ds_cons (dp_set (i := 3) sc_order_of.nd rfl (by first | exact Or.inl rfl | exact Or.inr rfl) (de_bin op_sub oSub_ok (de_name 2) (de_bin op_fdivW oDiv_ok (de_bin op_sub oSub_ok (de_name 1) de_int) de_int)))
    (ds_one (dp_ret (de_if (dt_cmp op_gt oGt_ok (de_name 3) de_int (nomark _)) (de_bin op_sub oSub_ok (de_bin oMul_op oMul_ok de_int (de_name 3)) de_int) (de_bin oMul_op oMul_ok (de_un un_neg uNeg_ok de_int) (de_name 3))))))))
theorem ok_is_mirrored (T : Tx P w A mg G) : FnOk P w G.K mg base (L2.CX P w) 1 A.f_is_mirrored A.d_is_mirrored ["rule", "row"] (spP G 2 m_is_mirrored) :=
  ok_P (k := 0) T.F_is_mirrored sc_is_mirrored rfl fun cd A' outer s H E hr =>
    (ds_one (dp_ret (de_and (de_cmp (op_eqD hr.units) oEq_ok (de_ix oIx_op oIx_ok (de_parts T.cR T.sR rfl (de_name 0)) de_int (fun _ _ => rfl)) de_str (nomark _)) (de_one (de_cmp (op_eqD hr.units) oEq_ok (de_bin op_mod oMod_ok (de_name 1) de_int) de_int (nomark _))))))
theorem ok_place_of (T : Tx P w A mg G) : FnOk P w G.K mg base (L2.CX P w) 2 A.f_place_of A.d_place_of ["rule", "seats", "row", "seat"] (spP G 4 m_place_of) :=
  ok_P (k := 1) T.F_place_of sc_place_of rfl fun cd A' outer s H E hr =>
    (ds_cons (dp_set (i := 4) sc_place_of.nd rfl (by first | exact Or.inl rfl | exact Or.inr rfl) (de_if (dt_val (de_callP takesF (ok_is_mirrored T) (hr.mono (by decide)) rfl T.g_is_mirrored T.F_is_mirrored.kp T.b_is_mirrored (aCons_len (aCons_len (fun _ _ _ _ h => aNil_len h))) (da_cons (de_name 0) (da_cons (de_name 2) da_nil)))) (de_bin op_sub oSub_ok (de_bin op_sub oSub_ok (de_name 1) de_int) (de_name 3)) (de_name 3)))
    (ds_cons (dp_set (i := 5) sc_place_of.nd rfl (by first | exact Or.inl rfl | exact Or.inr rfl) (de_callP takesF (ok_order_of T) (hr.mono (by decide)) rfl T.g_order_of T.F_order_of.kp T.b_order_of (aCons_len (aCons_len (aCons_len (fun _ _ _ _ h => aNil_len h)))) (da_cons (de_ix oIx_op oIx_ok (de_parts T.cR T.sR rfl (de_name 0)) de_int (fun _ _ => rfl)) (da_cons (de_name 1) (da_cons (de_name 4) da_nil)))))
    (ds_one (dp_ret (de_if (dt_cmp (op_eqD hr.units) oEq_ok (de_ix oIx_op oIx_ok (de_parts T.cR T.sR rfl (de_name 0)) de_int (fun _ _ => rfl)) de_str (nomark _)) (de_bin oAdd_op oAdd_ok (de_name 5) (de_bin oMul_op oMul_ok (de_name 2) (de_name 1))) (de_name 5))))))
theorem ok_own_number (T : Tx P w A mg G) : FnOk P w G.K mg base (L2.CX P w) 3 A.f_own_number A.d_own_number ["rule", "seats", "row", "seat"] (spP G 4 m_own_number) :=
  ok_P (k := 2) T.F_own_number sc_own_number rfl fun cd A' outer s H E hr =>
    (ds_one (dp_ret (de_callP takesF (ok_number_at T) (hr.mono (by decide)) rfl T.g_number_at T.F_number_at.kp T.b_number_at (aCons_len (aCons_len (fun _ _ _ _ h => aNil_len h))) (da_cons (de_name 0) (da_cons (de_callP takesF (ok_place_of T) (hr.mono (by decide)) rfl T.g_place_of T.F_place_of.kp T.b_place_of (aCons_len (aCons_len (aCons_len (aCons_len (fun _ _ _ _ h => aNil_len h))))) (da_cons (de_name 0) (da_cons (de_name 1) (da_cons (de_name 2) (da_cons (de_name 3) da_nil))))) da_nil)))))
theorem ok_does_fit (T : Tx P w A mg G) : FnOk P w G.K mg base (L2.CX P w) 4 A.f_does_fit A.d_does_fit ["rule", "tickets"] (spP G 2 m_does_fit) :=
  ok_P (k := 3) T.F_does_fit sc_does_fit rfl fun cd A' outer s H E hr =>
    (ds_one (dp_ret (de_callB (cr_all rfl) nAll_ok rfl T.z_all boot_all (da_cons (de_comp (own := [("rows", 2), ("seats", 3), ("row", 4), ("seat", 5), ("number", 6)]) rfl sc_does_fit.nd (di_seq rfl (de_name 1)) (blkOk_by (N := ["rule", "tickets", "rows", "seats", "row", "seat", "number"]) (sc := (defScope s_does_fit)) (by decide +kernel)) (by decide)
      (fun _ _ _ _ _ => (dg_tup rfl rfl (dgs_cons (dg_name sc_does_fit.nd rfl (by first | exact Or.inl rfl | exact Or.inr rfl)) (dgs_cons (dg_name sc_does_fit.nd rfl (by first | exact Or.inl rfl | exact Or.inr rfl)) (dgs_cons (dg_name sc_does_fit.nd rfl (by first | exact Or.inl rfl | exact Or.inr rfl)) (dgs_cons (dg_name sc_does_fit.nd rfl (by first | exact Or.inl rfl | exact Or.inr rfl)) (dgs_cons (dg_name sc_does_fit.nd rfl (by first | exact Or.inl rfl | exact Or.inr rfl)) dgs_nil))))))) (fun _ _ _ _ _ => dts_nil) (fun _ _ _ _ _ => (de_cmp (op_eqD hr.units) oEq_ok (de_callP takes_none5 (ok_own_number T) (hr.mono (by decide)) rfl T.g_own_number T.F_own_number.kp T.b_own_number (aCons_len (aCons_len (aCons_len (aCons_len (fun _ _ _ _ h => aNil_len h))))) (da_cons (de_name 0) (da_cons (de_name 3) (da_cons (de_name 4) (da_cons (de_name 5) da_nil))))) (de_name 6) (nomark _)))) da_nil))))
theorem ok_own_turned (T : Tx P w A mg G) : FnOk P w G.K mg base (L2.CX P w) 5 A.f_own_turned A.d_own_turned ["rule", "point", "value"] (spP G 3 m_own_turned) :=
  ok_P (k := 4) T.F_own_turned sc_own_turned rfl fun cd A' outer s H E hr =>
    (ds_cons (dp_setLc (i := 3) (own := [("one", 4), ("own", 5)]) rfl sc_own_turned.nd rfl rfl rfl rfl (by decide) (di_zip rfl rfl T.z_zip (de_globT rfl T.q_POINTS T.h_POINTS reps_POINTS) (de_parts T.cR T.sR rfl (de_name 0))) (blkOk_by (N := ["rule", "point", "value", "found", "one", "own"]) (sc := (defScope s_own_turned)) (by decide +kernel)) (by decide)
      (fun _ _ _ _ _ => (dg_tup rfl rfl (dgs_cons (dg_name sc_own_turned.nd rfl (by first | exact Or.inl rfl | exact Or.inr rfl)) (dgs_cons (dg_name sc_own_turned.nd rfl (by first | exact Or.inl rfl | exact Or.inr rfl)) dgs_nil)))) (fun _ _ _ _ _ => dts_nil) (fun _ _ _ _ _ => (de_if (dt_cmp (op_eqD hr.units) oEq_ok (de_name 4) (de_name 1) (nomark _)) (de_name 2) (de_name 5))))
    (ds_one (dp_ret (de_makeS rfl takesF T.M (ok_Rule_init T) (hr.mono (by decide)) rfl T.gR T.b_Rule_init (de_name 3)))))
theorem ok_changed (T : Tx P w A mg G) : FnOk P w G.K mg base (L2.CX P w) 6 A.f_changed A.d_changed ["rule", "changes"] (spP G 2 m_changed) :=
  ok_P (k := 5) T.F_changed sc_changed rfl fun cd A' outer s H E hr =>
    (ds_cons (dp_for passesF rfl (di_seq rfl (de_name 1)) (dg_tup rfl rfl (dgs_cons (dg_name sc_changed.nd rfl (by first | exact Or.inl rfl | exact Or.inr rfl)) (dgs_cons (dg_name sc_changed.nd rfl (by first | exact Or.inl rfl | exact Or.inr rfl)) dgs_nil)))
      (ds_one (dp_set (i := 0) sc_changed.nd rfl (by first | exact Or.inl rfl | exact Or.inr rfl) (de_callP takesF (ok_own_turned T) (hr.mono (by decide)) rfl T.g_own_turned T.F_own_turned.kp T.b_own_turned (aCons_len (aCons_len (aCons_len (fun _ _ _ _ h => aNil_len h)))) (da_cons (de_name 0) (da_cons (de_name 2) (da_cons (de_name 3) da_nil)))))))
    (ds_one (dp_ret (de_name 0))))
theorem ok_mends (T : Tx P w A mg G) : FnOk P w G.K mg base (L2.CX P w) 7 A.f_mends A.d_mends ["rule", "tickets", "limit"] (spP G 3 m_mends) :=
  ok_P (k := 6) T.F_mends sc_mends rfl fun cd A' outer s H E hr =>
    (ds_cons (dp_if (dt_not (dt_val (de_callP takesF (ok_is_integer T) (hr.mono (by decide)) rfl T.g_is_integer T.F_is_integer.kp T.b_is_integer (aCons_len (aCons_len (aCons_len (fun _ _ _ _ h => aNil_len h)))) (da_cons (de_name 2) (da_cons de_int (da_cons (de_globI rfl T.i_MOST_LIMIT.choose_spec) da_nil)))))) (ds_one (dp_raise0 takesF rfl T.X_InvalidLimit rfl)) ds_nil)
    (ds_cons (dp_expr (de_callP takesF (ok_look_at_tickets T) (hr.mono (by decide)) rfl T.g_look_at_tickets T.F_look_at_tickets.kp T.b_look_at_tickets (aCons_len (fun _ _ _ _ h => aNil_len h)) (da_cons (de_name 1) da_nil)))
    (ds_cons (dp_set (i := 3) sc_mends.nd rfl (by first | exact Or.inl rfl | exact Or.inr rfl) (de_callB cr_sortT nSortP_ok rfl T.z_sorted boot_sorted (da_cons (de_globT rfl T.q_POINTS T.h_POINTS reps_POINTS) da_nil)))
    (ds_cons (dp_for passesF rfl (di_rng1 rfl T.z_range (de_bin oAdd_op oAdd_ok (de_name 2) de_int)) (dg_name sc_mends.nd rfl (by first | exact Or.inl rfl | exact Or.inr rfl))
      (ds_cons (dp_setLc (i := 5) (own := [("some", 6)]) rfl sc_mends.nd rfl rfl rfl rfl (by decide) (di_seq rfl (de_callP takesF (ok_sets_of T) (hr.mono (by decide)) rfl T.g_sets_of T.F_sets_of.kp T.b_sets_of (aCons_len (aCons_len (aCons_len (fun _ _ _ _ h => aNil_len h)))) (da_cons (de_name 0) (da_cons (de_name 3) (da_cons (de_name 4) da_nil))))) (blkOk_by (N := ["rule", "tickets", "limit", "points", "many", "found", "some"]) (sc := (defScope s_mends)) (by decide +kernel)) (by decide)
      (fun _ _ _ _ _ => (dg_name sc_mends.nd rfl (by first | exact Or.inl rfl | exact Or.inr rfl))) (fun _ _ _ _ _ => (dts_one (dt_val (de_callP takes_none5 (ok_does_fit T) (hr.mono (by decide)) rfl T.g_does_fit T.F_does_fit.kp T.b_does_fit (aCons_len (aCons_len (fun _ _ _ _ h => aNil_len h))) (da_cons (de_callP takes_none5 (ok_changed T) (hr.mono (by decide)) rfl T.g_changed T.F_changed.kp T.b_changed (aCons_len (aCons_len (fun _ _ _ _ h => aNil_len h))) (da_cons (de_name 0) (da_cons (de_name 6) da_nil))) (da_cons (de_name 1) da_nil)))))) (fun _ _ _ _ _ => (de_name 6)))
    (ds_one (dp_if (dt_cmp (op_neD hr.units) oNe_ok (de_name 5) (de_lst da_nil) (nomark _)) (ds_one (dp_ret (de_name 5))) ds_nil))))
    (ds_one (dp_ret (de_lst da_nil)))))))
theorem ok_law_refused (T : Tx P w A mg G) : FnOk P w G.K mg base (L2.CX P w) 8 A.f_law_refused A.d_law_refused ["_law_rule_here", "_law_tickets", "_law_bound"] (spP G 3 m_law_refused) :=
  ok_P (k := 7) T.F_law_refused sc_law_refused rfl fun cd A' outer s H E hr =>
    (ds_cons (dp_set (i := 3) sc_law_refused.nd rfl (by first | exact Or.inl rfl | exact Or.inr rfl) de_non)
    (ds_cons (dp_tryC rfl rfl takesF (fun _ _ _ tk' _ => (ds_one (dp_expr (de_callK tk' (ok_mends T) (hr.mono (by decide)) rfl T.g_mends T.F_mends.kp T.kb_mends rfl (aCons_len (aCons_len (fun _ _ _ _ h => aNil_len h))) (da_cons (de_name 0) (da_cons (de_name 1) da_nil)) (de_name 2)))))
      (HcD.bare (mt := mtOne 2 1) ⟨rfl, by decide, .inl T.X_InvalidLimit.g⟩ T.m_InvalidLimit (fun _ _ => (ds_one (dp_set (i := 3) sc_law_refused.nd rfl (by first | exact Or.inl rfl | exact Or.inr rfl) de_str))) (HcD.named (i := 4) (mt := mtOne 2 0) ⟨rfl, by decide, .inl T.X_InvalidTicket.g⟩ sc_law_refused.nd rfl rfl T.m_InvalidTicket (fun _ _ _ _ _ hz hf => dpx_one (dpx_set (i := 4) (j := 3) (f := (xFld 0 0)) sc_law_refused.nd rfl (by first | exact Or.inl rfl | exact Or.inr rfl) (xe_fld T.XF_InvalidTicket T.no_InvalidTicket_index T.nd_InvalidTicket T.fk_InvalidTicket_index hz hf rfl))) HcD.nil)))
    (ds_one (dp_ret (de_name 3)))))
theorem ok_law_changes (T : Tx P w A mg G) : FnOk P w G.K mg base (L2.CX P w) 1 A.f_law_changes A.d_law_changes ["_law_t", "_law_points"] (spP G 2 m_law_changes) :=
  ok_P (k := 0) T.F_law_changes sc_law_changes rfl fun cd A' outer s H E hr =>
    (ds_cons (dp_set (i := 2) sc_law_changes.nd rfl (by first | exact Or.inl rfl | exact Or.inr rfl) (de_lst (da_cons (de_tup da_nil) da_nil)))
    (ds_cons (dp_set (i := 3) sc_law_changes.nd rfl (by first | exact Or.inl rfl | exact Or.inr rfl) (de_dsi5 (by first | rfl | decide +kernel)))
    (ds_cons (dp_for passesF rfl (di_seq rfl (de_name 1)) (dg_tup rfl rfl (dgs_cons (dg_name sc_law_changes.nd rfl (by first | exact Or.inl rfl | exact Or.inr rfl)) (dgs_cons (dg_name sc_law_changes.nd rfl (by first | exact Or.inl rfl | exact Or.inr rfl)) dgs_nil)))
      (ds_cons (dp_set (i := 6) sc_law_changes.nd rfl (by first | exact Or.inl rfl | exact Or.inr rfl) (de_callTy call_list_of nList_ok rfl T.z_list PyProof.Rows.boot_list (da_cons (de_name 2) da_nil)))
    (ds_cons (dp_for passesF rfl (di_seq rfl (de_name 5)) (dg_name sc_law_changes.nd rfl (by first | exact Or.inl rfl | exact Or.inr rfl))
      (ds_one (dp_if (dt_cmp (op_neD hr.units) oNe_ok (de_name 7) (de_ix oIx_op oIx_ok (de_name 0) (de_ixSI (by have := room65 hr; omega) (de_name 3) (de_name 4) (fun _ _ => rfl)) (fun _ _ => rfl)) (nomark _)) (ds_one (dp_set (i := 6) sc_law_changes.nd rfl (by first | exact Or.inl rfl | exact Or.inr rfl) (de_bin oAdd_op oAdd_ok (de_name 6) (de_comp (own := [("_law_row", 8)]) rfl sc_law_changes.nd (di_seq rfl (de_name 2)) (blkOk_by (N := ["_law_t", "_law_points", "_law_found", "_law_spots", "_law_point", "_law_some", "_law_later", "_law_value", "_law_row"]) (sc := (defScope s_law_changes)) (by decide +kernel)) (by decide)
      (fun _ _ _ _ _ => (dg_name sc_law_changes.nd rfl (by first | exact Or.inl rfl | exact Or.inr rfl))) (fun _ _ _ _ _ => dts_nil) (fun _ _ _ _ _ => (de_bin op_catA oCatA_ok (de_name 8) (de_tup (da_cons (de_tup (da_cons (de_name 4) (da_cons (de_name 7) da_nil))) da_nil)))))))) ds_nil)))
    (ds_one (dp_set (i := 2) sc_law_changes.nd rfl (by first | exact Or.inl rfl | exact Or.inr rfl) (de_name 6))))))
    (ds_one (dp_ret (de_name 2))))))
theorem ok_law_values (T : Tx P w A mg G) : FnOk P w G.K mg base (L2.CX P w) 1 A.f_law_values A.d_law_values [] (spP G 0 m_law_values) :=
  ok_P (k := 0) T.F_law_values sc_law_values rfl fun cd A' outer s H E hr =>
    (ds_cons (dp_set (i := 0) sc_law_values.nd rfl (by first | exact Or.inl rfl | exact Or.inr rfl) (de_lst (da_cons (de_tup (da_cons de_str (da_cons (de_lst (da_cons de_str (da_cons de_str da_nil))) da_nil))) (da_cons (de_tup (da_cons de_str (da_cons (de_bin oAdd_op oAdd_ok (de_lst (da_cons de_int da_nil)) (de_lrng2 rfl rfl T.z_list rfl T.z_range de_int de_int)) da_nil))) (da_cons (de_tup (da_cons de_str (da_cons (de_lst (da_cons de_str (da_cons de_str da_nil))) da_nil))) da_nil)))))
    (ds_one (dp_ret (de_bin oAdd_op oAdd_ok (de_name 0) (de_lst (da_cons (de_tup (da_cons de_str (da_cons (de_lst (da_cons de_str (da_cons de_str (da_cons de_str da_nil)))) da_nil))) (da_cons (de_tup (da_cons de_str (da_cons (de_lst (da_cons de_str (da_cons de_str da_nil))) da_nil))) da_nil)))))))
theorem ok_law_fits (T : Tx P w A mg G) : FnOk P w G.K mg base (L2.CX P w) 2 A.f_law_fits A.d_law_fits ["_law_t", "_law_tickets"] (spP G 2 m_law_fits) :=
  ok_P (k := 1) T.F_law_fits sc_law_fits rfl fun cd A' outer s H E hr =>
    (ds_cons (dp_for passesF rfl (di_seq rfl (de_name 1)) (dg_tup rfl rfl (dgs_cons (dg_name sc_law_fits.nd rfl (by first | exact Or.inl rfl | exact Or.inr rfl)) (dgs_cons (dg_name sc_law_fits.nd rfl (by first | exact Or.inl rfl | exact Or.inr rfl)) (dgs_cons (dg_name sc_law_fits.nd rfl (by first | exact Or.inl rfl | exact Or.inr rfl)) (dgs_cons (dg_name sc_law_fits.nd rfl (by first | exact Or.inl rfl | exact Or.inr rfl)) (dgs_cons (dg_name sc_law_fits.nd rfl (by first | exact Or.inl rfl | exact Or.inr rfl)) dgs_nil))))))
      (ds_one (dp_if (dt_cmp (op_neD hr.units) oNe_ok (de_callP takesF (ok_law_number T) (hr.mono (by decide)) rfl T.g_law_number T.F_law_number.kp T.b_law_number (aCons_len (aCons_len (fun _ _ _ _ h => aNil_len h))) (da_cons (de_name 0) (da_cons (de_callP takesF (ok_law_place T) (hr.mono (by decide)) rfl T.g_law_place T.F_law_place.kp T.b_law_place (aCons_len (aCons_len (aCons_len (aCons_len (fun _ _ _ _ h => aNil_len h))))) (da_cons (de_name 0) (da_cons (de_name 3) (da_cons (de_name 4) (da_cons (de_name 5) da_nil))))) da_nil))) (de_name 6) (nomark _)) (ds_one (dp_ret de_bl)) ds_nil)))
    (ds_one (dp_ret de_bl)))
theorem ok_law_turned (T : Tx P w A mg G) : FnOk P w G.K mg base (L2.CX P w) 1 A.f_law_turned A.d_law_turned ["_law_t", "_law_changes_here"] (spP G 2 m_law_turned) :=
  ok_P (k := 0) T.F_law_turned sc_law_turned rfl fun cd A' outer s H E hr =>
    (ds_cons (dp_set (i := 2) sc_law_turned.nd rfl (by first | exact Or.inl rfl | exact Or.inr rfl) (de_callTy call_list_of nListC_ok rfl T.z_list PyProof.Rows.boot_list (da_cons (de_name 0) da_nil)))
    (ds_cons (dp_set (i := 3) sc_law_turned.nd rfl (by first | exact Or.inl rfl | exact Or.inr rfl) (de_dsi5 (by first | rfl | decide +kernel)))
    (ds_cons (dp_for passesF rfl (di_seq rfl (de_name 1)) (dg_tup rfl rfl (dgs_cons (dg_name sc_law_turned.nd rfl (by first | exact Or.inl rfl | exact Or.inr rfl)) (dgs_cons (dg_name sc_law_turned.nd rfl (by first | exact Or.inl rfl | exact Or.inr rfl)) dgs_nil)))
      (ds_one (dp_setI (de_name 5) (de_name 2) (de_ixSI (by have := room65 hr; omega) (de_name 3) (de_name 4) (fun _ _ => rfl)))))
    (ds_one (dp_ret (de_name 2))))))
theorem ok_law (T : Tx P w A mg G) : FnOk P w G.K mg base (L2.CX P w) 9 A.f_law A.d_law ["_law_script"] (spE G 1 m_law) :=
  ok_E (k := 8) T.F_law sc_law rfl fun cd A' outer s H E hr =>
    (ds_cons (dp_set (i := 1) sc_law.nd rfl (by first | exact Or.inl rfl | exact Or.inr rfl) (de_callE takesF (ok_law_mix T) (hr.mono (by decide)) rfl T.g_law_mix T.F_law_mix.kp T.b_law_mix (aCons_len (aCons_len (fun _ _ _ _ h => aNil_len h))) (da_cons (de_name 0) (da_cons de_int da_nil))))
    (ds_cons (dp_set (i := 2) sc_law.nd rfl (by first | exact Or.inl rfl | exact Or.inr rfl) (de_callE takesF (ok_law_rule T) (hr.mono (by decide)) rfl T.g_law_rule T.F_law_rule.kp T.b_law_rule (aCons_len (fun _ _ _ _ h => aNil_len h)) (da_cons (de_name 1) da_nil)))
    (ds_cons (dp_set (i := 3) sc_law.nd rfl (by first | exact Or.inl rfl | exact Or.inr rfl) (de_callTy call_list_of nListC_ok rfl T.z_list PyProof.Rows.boot_list (da_cons (de_name 2) da_nil)))
    (ds_cons (dp_set (i := 4) sc_law.nd rfl (by first | exact Or.inl rfl | exact Or.inr rfl) (de_callE takesF (ok_law_rule T) (hr.mono (by decide)) rfl T.g_law_rule T.F_law_rule.kp T.b_law_rule (aCons_len (fun _ _ _ _ h => aNil_len h)) (da_cons (de_name 1) da_nil)))
    (ds_cons (dp_for passesF rfl (di_rng1 rfl T.z_range (de_callE takesF (ok_law_next T) (hr.mono (by decide)) rfl T.g_law_next T.F_law_next.kp T.b_law_next (aCons_len (aCons_len (fun _ _ _ _ h => aNil_len h))) (da_cons (de_name 1) (da_cons de_int da_nil)))) (dg_name sc_law.nd rfl (by first | exact Or.inl rfl | exact Or.inr rfl))
      (ds_cons (dp_set (i := 13) sc_law.nd rfl (by first | exact Or.inl rfl | exact Or.inr rfl) (de_callE takesF (ok_law_next T) (hr.mono (by decide)) rfl T.g_law_next T.F_law_next.kp T.b_law_next (aCons_len (aCons_len (fun _ _ _ _ h => aNil_len h))) (da_cons (de_name 1) (da_cons de_int da_nil))))
    (ds_one (dp_setI (de_ix oIx_op oIx_ok (de_name 4) (de_name 13) (fun _ _ => rfl)) (de_name 3) (de_name 13)))))
    (ds_fz (ds_cons (dp_set (i := 6) sc_law.nd rfl (by first | exact Or.inl rfl | exact Or.inr rfl) (de_comp (own := [("_law_k", 14)]) rfl sc_law.nd (di_rng1 rfl T.z_range (de_callE takesF (ok_law_next T) (hr.mono (by decide)) rfl T.g_law_next T.F_law_next.kp T.b_law_next (aCons_len (aCons_len (fun _ _ _ _ h => aNil_len h))) (da_cons (de_name 1) (da_cons de_int da_nil)))) (blkOk_by (N := ["_law_script", "_law_h", "_law_t", "_law_u", "_law_other", "_law_turn", "_law_tickets", "_law_rule_here", "_law_bound", "_law_every", "_law_due", "_law_many", "_law_odd", "_law_point", "_law_k", "_law_some"]) (sc := (defScope s_law)) (by decide +kernel)) (by decide)
      (fun _ _ _ _ _ => (dg_name sc_law.nd rfl (by first | exact Or.inl rfl | exact Or.inr rfl))) (fun _ _ _ _ _ => dts_nil) (fun _ _ _ _ _ => (de_callE takes_none5 (ok_law_ticket T) (hr.mono (by decide)) rfl T.g_law_ticket T.F_law_ticket.kp T.b_law_ticket (aCons_len (aCons_len (fun _ _ _ _ h => aNil_len h))) (da_cons (de_name 1) (da_cons (de_name 3) da_nil))))))
    (ds_cons (dp_set (i := 7) sc_law.nd rfl (by first | exact Or.inl rfl | exact Or.inr rfl) (de_callP takesF (ok_law_built T) (hr.mono (by decide)) rfl T.g_law_built T.F_law_built.kp T.b_law_built (aCons_len (fun _ _ _ _ h => aNil_len h)) (da_cons (de_name 2) da_nil)))
    (ds_cons (dp_set (i := 8) sc_law.nd rfl (by first | exact Or.inl rfl | exact Or.inr rfl) (de_callE takesF (ok_law_next T) (hr.mono (by decide)) rfl T.g_law_next T.F_law_next.kp T.b_law_next (aCons_len (aCons_len (fun _ _ _ _ h => aNil_len h))) (da_cons (de_name 1) (da_cons de_int da_nil))))
    (ds_cons (dp_setLc (i := 9) (own := [("_law_some", 15)]) rfl sc_law.nd rfl rfl rfl rfl (by decide) (di_seq rfl (de_callP takesF (ok_law_changes T) (hr.mono (by decide)) rfl T.g_law_changes T.F_law_changes.kp T.b_law_changes (aCons_len (aCons_len (fun _ _ _ _ h => aNil_len h))) (da_cons (de_name 2) (da_cons (de_call0 (ok_law_values T) (hr.mono (by decide)) rfl T.g_law_values T.F_law_values.kp T.b_law_values) da_nil)))) (blkOk_by (N := ["_law_script", "_law_h", "_law_t", "_law_u", "_law_other", "_law_turn", "_law_tickets", "_law_rule_here", "_law_bound", "_law_every", "_law_due", "_law_many", "_law_odd", "_law_point", "_law_k", "_law_some"]) (sc := (defScope s_law)) (by decide +kernel)) (by decide)
      (fun _ _ _ _ _ => (dg_name sc_law.nd rfl (by first | exact Or.inl rfl | exact Or.inr rfl))) (fun _ _ _ _ _ => (dts_one (dt_cmp op_le oLe_ok (de_callB call_len_seq nLen_ok rfl T.z_len PySem.boot_len (da_cons (de_name 15) da_nil)) (de_name 8) (nomark _)))) (fun _ _ _ _ _ => (de_name 15)))
    (ds_cons (dp_set (i := 10) sc_law.nd rfl (by first | exact Or.inl rfl | exact Or.inr rfl) (de_lst da_nil))
    (ds_cons (dp_for passesF rfl (di_rng1 rfl T.z_range (de_bin oAdd_op oAdd_ok (de_name 8) de_int)) (dg_name sc_law.nd rfl (by first | exact Or.inl rfl | exact Or.inr rfl))
      (ds_one (dp_if (dt_cmp (op_eqD hr.units) oEq_ok (de_name 10) (de_lst da_nil) (nomark _)) (ds_one (dp_setLc (i := 10) (own := [("_law_some", 15)]) rfl sc_law.nd rfl rfl rfl rfl (by decide) (di_seq rfl (de_name 9)) (blkOk_by (N := ["_law_script", "_law_h", "_law_t", "_law_u", "_law_other", "_law_turn", "_law_tickets", "_law_rule_here", "_law_bound", "_law_every", "_law_due", "_law_many", "_law_odd", "_law_point", "_law_k", "_law_some"]) (sc := (defScope s_law)) (by decide +kernel)) (by decide)
      (fun _ _ _ _ _ => (dg_name sc_law.nd rfl (by first | exact Or.inl rfl | exact Or.inr rfl))) (fun _ _ _ _ _ => (dts_one (PW.pt (dw_and (dt_cmp (op_eqD hr.units) oEq_ok (de_callB call_len_seq nLen_ok rfl T.z_len PySem.boot_len (da_cons (de_name 15) da_nil)) (de_name 11) (nomark _)) (dw_and1 (dt_val (de_callP takes_none5 (ok_law_fits T) (hr.mono (by decide)) rfl T.g_law_fits T.F_law_fits.kp T.b_law_fits (aCons_len (aCons_len (fun _ _ _ _ h => aNil_len h))) (da_cons (de_callP takes_none5 (ok_law_turned T) (hr.mono (by decide)) rfl T.g_law_turned T.F_law_turned.kp T.b_law_turned (aCons_len (aCons_len (fun _ _ _ _ h => aNil_len h))) (da_cons (de_name 2) (da_cons (de_name 15) da_nil))) (da_cons (de_name 6) da_nil))))))))) (fun _ _ _ _ _ => (de_name 15)))) ds_nil)))
    (ds_cons (dp_if (dt_cmp (op_neD hr.units) oNe_ok (de_callK takesF (ok_mends T) (hr.mono (by decide)) rfl T.g_mends T.F_mends.kp T.kb_mends rfl (aCons_len (aCons_len (fun _ _ _ _ h => aNil_len h))) (da_cons (de_name 7) (da_cons (de_name 6) da_nil)) (de_name 8)) (de_callB (cr_sortedTT (room65 hr)) nSortTT_ok rfl T.z_sorted boot_sorted (da_cons (de_name 10) da_nil)) (nomark _)) (ds_one (dp_ret de_bl)) ds_nil)
    (ds_cons (dp_if (PW.pt (dw_and (dt_cmp (op_eqD hr.units) oEq_ok (de_name 8) de_int (nomark _)) (dw_and1 (dt_cmp (op_neD hr.units) oNe_ok (de_callD takesF (ok_mends T) (hr.mono (by decide)) rfl T.g_mends T.F_mends.kp T.bd_mends (fun _ => Reps.cons (by unfold Rep; rfl) Reps.nil) rfl (aCons_len (aCons_len (fun _ _ _ _ h => aNil_len h))) (da_cons (de_name 7) (da_cons (de_callTy call_tuple_of nTuple_ok rfl T.z_tuple PyProof.Rows.boot_tuple (da_cons (de_name 6) da_nil)) da_nil))) (de_callB (cr_sortedTT (room65 hr)) nSortTT_ok rfl T.z_sorted boot_sorted (da_cons (de_name 10) da_nil)) (nomark _))))) (ds_one (dp_ret de_bl)) ds_nil)
    (ds_cons (dp_set (i := 12) sc_law.nd rfl (by first | exact Or.inl rfl | exact Or.inr rfl) (de_ix oIx_op oIx_ok (de_lst (da_cons (de_un un_neg uNeg_ok de_int) (da_cons de_int (da_cons de_bl (da_cons de_non (da_cons de_str da_nil)))))) (de_callE takesF (ok_law_next T) (hr.mono (by decide)) rfl T.g_law_next T.F_law_next.kp T.b_law_next (aCons_len (aCons_len (fun _ _ _ _ h => aNil_len h))) (da_cons (de_name 1) (da_cons de_int da_nil))) (fun _ _ => rfl)))
    (ds_cons (dp_if (dt_cmp (op_neD hr.units) oNe_ok (de_callP takesF (ok_law_refused T) (hr.mono (by decide)) rfl T.g_law_refused T.F_law_refused.kp T.b_law_refused (aCons_len (aCons_len (aCons_len (fun _ _ _ _ h => aNil_len h)))) (da_cons (de_name 7) (da_cons (de_lst (da_cons de_non da_nil)) (da_cons (de_name 12) da_nil)))) de_str (nomark _)) (ds_one (dp_ret de_bl)) ds_nil)
    (ds_one (dp_ret (de_cmp (op_eqD hr.units) oEq_ok (de_callP takesF (ok_law_refused T) (hr.mono (by decide)) rfl T.g_law_refused T.F_law_refused.kp T.b_law_refused (aCons_len (aCons_len (aCons_len (fun _ _ _ _ h => aNil_len h)))) (da_cons (de_name 7) (da_cons (de_bin oAdd_op oAdd_ok (de_name 6) (de_lst (da_cons (de_tup (da_cons de_int (da_cons de_int (da_cons de_int (da_cons de_int da_nil))))) da_nil))) (da_cons (de_name 8) da_nil)))) (de_callB call_len_seq nLen_ok rfl T.z_len PySem.boot_len (da_cons (de_name 6) da_nil)) (nomark _))))))))))))))))))))
end
theorem all_mk {l : PySem.W.OpenLaw} {w : World} {K : PySem.W.Frag} {h : Heap} {mg : Str → Option Value} {fa f0 f1 f2 f3 f4 f5 f6 f7 f8 f9 f10 f11 f12 f13 f14 f15 f16 f17 f18 f19 f20 f21 f22 f23 f24 f25 f26 f27 f28 f29 C pR n0 x0 x1 a_OUTS a_POINTS a_WORDS : Addr} (X : K.In h) (Gm : h.Ns mainGlobals mg) (hfa : mg "law" = some (.ref fa))
    {od0 an0 : Option Addr} {sl0 : Array (Option Value)} {oc0 kV0 dc0 pm0 cd0 ct0 : Value}
    {od1 an1 : Option Addr} {sl1 : Array (Option Value)} {oc1 kV1 dc1 pm1 cd1 ct1 : Value}
    {od2 an2 : Option Addr} {sl2 : Array (Option Value)} {oc2 kV2 dc2 pm2 cd2 ct2 : Value}
    {od3 an3 : Option Addr} {sl3 : Array (Option Value)} {oc3 kV3 dc3 pm3 cd3 ct3 : Value}
    {od4 an4 : Option Addr} {sl4 : Array (Option Value)} {oc4 kV4 dc4 pm4 cd4 ct4 : Value}
    {od5 an5 : Option Addr} {sl5 : Array (Option Value)} {oc5 kV5 dc5 pm5 cd5 ct5 : Value}
    {od6 an6 : Option Addr} {sl6 : Array (Option Value)} {oc6 kV6 dc6 pm6 cd6 ct6 : Value}
    {od7 an7 : Option Addr} {sl7 : Array (Option Value)} {oc7 kV7 dc7 pm7 cd7 ct7 : Value}
    {od8 an8 : Option Addr} {sl8 : Array (Option Value)} {oc8 kV8 dc8 pm8 cd8 ct8 : Value}
    {od9 an9 : Option Addr} {sl9 : Array (Option Value)} {oc9 kV9 dc9 pm9 cd9 ct9 : Value}
    {od10 an10 : Option Addr} {sl10 : Array (Option Value)} {oc10 kV10 dc10 pm10 cd10 ct10 : Value}
    {od11 an11 : Option Addr} {sl11 : Array (Option Value)} {oc11 kV11 dc11 pm11 cd11 ct11 : Value}
    {od12 an12 : Option Addr} {sl12 : Array (Option Value)} {oc12 kV12 dc12 pm12 cd12 ct12 : Value}
    {od13 an13 : Option Addr} {sl13 : Array (Option Value)} {oc13 kV13 dc13 pm13 cd13 ct13 : Value}
    {od14 an14 : Option Addr} {sl14 : Array (Option Value)} {oc14 kV14 dc14 pm14 cd14 ct14 : Value}
    {od15 an15 : Option Addr} {sl15 : Array (Option Value)} {oc15 kV15 dc15 pm15 cd15 ct15 : Value}
    {od16 an16 : Option Addr} {sl16 : Array (Option Value)} {oc16 kV16 dc16 pm16 cd16 ct16 : Value}
    {od17 an17 : Option Addr} {sl17 : Array (Option Value)} {oc17 kV17 dc17 pm17 cd17 ct17 : Value}
    {od18 an18 : Option Addr} {sl18 : Array (Option Value)} {oc18 kV18 dc18 pm18 cd18 ct18 : Value}
    {od19 an19 : Option Addr} {sl19 : Array (Option Value)} {oc19 kV19 dc19 pm19 cd19 ct19 : Value}
    {od20 an20 : Option Addr} {sl20 : Array (Option Value)} {oc20 kV20 dc20 pm20 cd20 ct20 : Value}
    {od21 an21 : Option Addr} {sl21 : Array (Option Value)} {oc21 kV21 dc21 pm21 cd21 ct21 : Value}
    {od22 an22 : Option Addr} {sl22 : Array (Option Value)} {oc22 kV22 dc22 pm22 cd22 ct22 : Value}
    {od23 an23 : Option Addr} {sl23 : Array (Option Value)} {oc23 dc23 pm23 cd23 ct23 : Value} {dk23 : Addr} {kt23 : Tok}
    {od24 an24 : Option Addr} {sl24 : Array (Option Value)} {oc24 kV24 dc24 pm24 cd24 ct24 : Value}
    {od25 an25 : Option Addr} {sl25 : Array (Option Value)} {oc25 kV25 dc25 pm25 cd25 ct25 : Value}
    {od26 an26 : Option Addr} {sl26 : Array (Option Value)} {oc26 kV26 dc26 pm26 cd26 ct26 : Value}
    {od27 an27 : Option Addr} {sl27 : Array (Option Value)} {oc27 kV27 dc27 pm27 cd27 ct27 : Value}
    {od28 an28 : Option Addr} {sl28 : Array (Option Value)} {oc28 kV28 dc28 pm28 cd28 ct28 : Value}
    {od29 an29 : Option Addr} {sl29 : Array (Option Value)} {oc29 kV29 dc29 pm29 cd29 ct29 : Value}
    (a0 : PySem.W.nsIn K mainGlobals "_law_mix" = some (some (.ref f0)))
    (a1 : PySem.W.nsIn K mainGlobals "_law_next" = some (some (.ref f1)))
    (a2 : PySem.W.nsIn K mainGlobals "_law_rule" = some (some (.ref f2)))
    (a3 : PySem.W.nsIn K mainGlobals "is_integer" = some (some (.ref f3)))
    (a4 : PySem.W.nsIn K mainGlobals "is_of" = some (some (.ref f4)))
    (a6 : PySem.W.nsIn K mainGlobals "_law_built" = some (some (.ref f6)))
    (a7 : PySem.W.nsIn K mainGlobals "_law_number" = some (some (.ref f7)))
    (a8 : PySem.W.nsIn K mainGlobals "_law_place" = some (some (.ref f8)))
    (a9 : PySem.W.nsIn K mainGlobals "_law_ticket" = some (some (.ref f9)))
    (a10 : PySem.W.nsIn K mainGlobals "is_ticket" = some (some (.ref f10)))
    (a12 : PySem.W.nsIn K mainGlobals "look_at_tickets" = some (some (.ref f12)))
    (a13 : PySem.W.nsIn K mainGlobals "values_of" = some (some (.ref f13)))
    (a14 : PySem.W.nsIn K mainGlobals "sets_of" = some (some (.ref f14)))
    (a15 : PySem.W.nsIn K mainGlobals "number_at" = some (some (.ref f15)))
    (a16 : PySem.W.nsIn K mainGlobals "order_of" = some (some (.ref f16)))
    (a17 : PySem.W.nsIn K mainGlobals "is_mirrored" = some (some (.ref f17)))
    (a18 : PySem.W.nsIn K mainGlobals "place_of" = some (some (.ref f18)))
    (a19 : PySem.W.nsIn K mainGlobals "own_number" = some (some (.ref f19)))
    (a20 : PySem.W.nsIn K mainGlobals "does_fit" = some (some (.ref f20)))
    (a21 : PySem.W.nsIn K mainGlobals "own_turned" = some (some (.ref f21)))
    (a22 : PySem.W.nsIn K mainGlobals "changed" = some (some (.ref f22)))
    (a23 : PySem.W.nsIn K mainGlobals "mends" = some (some (.ref f23)))
    (a24 : PySem.W.nsIn K mainGlobals "_law_refused" = some (some (.ref f24)))
    (a25 : PySem.W.nsIn K mainGlobals "_law_changes" = some (some (.ref f25)))
    (a26 : PySem.W.nsIn K mainGlobals "_law_values" = some (some (.ref f26)))
    (a27 : PySem.W.nsIn K mainGlobals "_law_fits" = some (some (.ref f27)))
    (a28 : PySem.W.nsIn K mainGlobals "_law_turned" = some (some (.ref f28)))
    (a29 : PySem.W.nsIn K mainGlobals "law" = some (some (.ref f29)))
    (aC : PySem.W.nsIn K mainGlobals "Rule" = some (some (.ref C))) (a5 : PySem.W.findIn K (.ref C) "__init__" = some (some (.ref f5))) (i5 : PySem.W.isFn K (.ref f5) = true)
    (l0 : K.lookup f0 = some ⟨oc0, od0, .func (PySem.W.fnOf "_law_mix" "_law_mix" (defArgs s_law_mix) (defBody s_law_mix) (defScope s_law_mix) .none kV0 dc0 pm0 an0 cd0 ct0), sl0⟩) (c0 : PySem.W.codeIn K cd0 "_law_mix" = true) (k0 : PySem.W.keepIn K (.ref f0) = true)
    (l1 : K.lookup f1 = some ⟨oc1, od1, .func (PySem.W.fnOf "_law_next" "_law_next" (defArgs s_law_next) (defBody s_law_next) (defScope s_law_next) .none kV1 dc1 pm1 an1 cd1 ct1), sl1⟩) (c1 : PySem.W.codeIn K cd1 "_law_next" = true) (k1 : PySem.W.keepIn K (.ref f1) = true)
    (l2 : K.lookup f2 = some ⟨oc2, od2, .func (PySem.W.fnOf "_law_rule" "_law_rule" (defArgs s_law_rule) (defBody s_law_rule) (defScope s_law_rule) .none kV2 dc2 pm2 an2 cd2 ct2), sl2⟩) (c2 : PySem.W.codeIn K cd2 "_law_rule" = true) (k2 : PySem.W.keepIn K (.ref f2) = true)
    (l3 : K.lookup f3 = some ⟨oc3, od3, .func (PySem.W.fnOf "is_integer" "is_integer" (defArgs s_is_integer) (defBody s_is_integer) (defScope s_is_integer) .none kV3 dc3 pm3 an3 cd3 ct3), sl3⟩) (c3 : PySem.W.codeIn K cd3 "is_integer" = true) (k3 : PySem.W.keepIn K (.ref f3) = true)
    (l4 : K.lookup f4 = some ⟨oc4, od4, .func (PySem.W.fnOf "is_of" "is_of" (defArgs s_is_of) (defBody s_is_of) (defScope s_is_of) .none kV4 dc4 pm4 an4 cd4 ct4), sl4⟩) (c4 : PySem.W.codeIn K cd4 "is_of" = true) (k4 : PySem.W.keepIn K (.ref f4) = true)
    (l5 : K.lookup f5 = some ⟨oc5, od5, .func (PySem.W.fnOf "__init__" "Rule.__init__" (defArgs s_Rule_init) (defBody s_Rule_init) (defScope s_Rule_init) .none kV5 dc5 pm5 an5 cd5 ct5), sl5⟩) (c5 : PySem.W.codeIn K cd5 "Rule.__init__" = true) (k5 : PySem.W.keepIn K (.ref f5) = true)
    (l6 : K.lookup f6 = some ⟨oc6, od6, .func (PySem.W.fnOf "_law_built" "_law_built" (defArgs s_law_built) (defBody s_law_built) (defScope s_law_built) .none kV6 dc6 pm6 an6 cd6 ct6), sl6⟩) (c6 : PySem.W.codeIn K cd6 "_law_built" = true) (k6 : PySem.W.keepIn K (.ref f6) = true)
    (l7 : K.lookup f7 = some ⟨oc7, od7, .func (PySem.W.fnOf "_law_number" "_law_number" (defArgs s_law_number) (defBody s_law_number) (defScope s_law_number) .none kV7 dc7 pm7 an7 cd7 ct7), sl7⟩) (c7 : PySem.W.codeIn K cd7 "_law_number" = true) (k7 : PySem.W.keepIn K (.ref f7) = true)
    (l8 : K.lookup f8 = some ⟨oc8, od8, .func (PySem.W.fnOf "_law_place" "_law_place" (defArgs s_law_place) (defBody s_law_place) (defScope s_law_place) .none kV8 dc8 pm8 an8 cd8 ct8), sl8⟩) (c8 : PySem.W.codeIn K cd8 "_law_place" = true) (k8 : PySem.W.keepIn K (.ref f8) = true)
    (l9 : K.lookup f9 = some ⟨oc9, od9, .func (PySem.W.fnOf "_law_ticket" "_law_ticket" (defArgs s_law_ticket) (defBody s_law_ticket) (defScope s_law_ticket) .none kV9 dc9 pm9 an9 cd9 ct9), sl9⟩) (c9 : PySem.W.codeIn K cd9 "_law_ticket" = true) (k9 : PySem.W.keepIn K (.ref f9) = true)
    (l10 : K.lookup f10 = some ⟨oc10, od10, .func (PySem.W.fnOf "is_ticket" "is_ticket" (defArgs s_is_ticket) (defBody s_is_ticket) (defScope s_is_ticket) .none kV10 dc10 pm10 an10 cd10 ct10), sl10⟩) (c10 : PySem.W.codeIn K cd10 "is_ticket" = true) (k10 : PySem.W.keepIn K (.ref f10) = true)
    (l11 : K.lookup f11 = some ⟨oc11, od11, .func (PySem.W.fnOf "__init__" "InvalidTicket.__init__" (defArgs s_InvalidTicket_init) (defBody s_InvalidTicket_init) (defScope s_InvalidTicket_init) .none kV11 dc11 pm11 an11 cd11 ct11), sl11⟩) (c11 : PySem.W.codeIn K cd11 "InvalidTicket.__init__" = true) (k11 : PySem.W.keepIn K (.ref f11) = true)
    (l12 : K.lookup f12 = some ⟨oc12, od12, .func (PySem.W.fnOf "look_at_tickets" "look_at_tickets" (defArgs s_look_at_tickets) (defBody s_look_at_tickets) (defScope s_look_at_tickets) .none kV12 dc12 pm12 an12 cd12 ct12), sl12⟩) (c12 : PySem.W.codeIn K cd12 "look_at_tickets" = true) (k12 : PySem.W.keepIn K (.ref f12) = true)
    (l13 : K.lookup f13 = some ⟨oc13, od13, .func (PySem.W.fnOf "values_of" "values_of" (defArgs s_values_of) (defBody s_values_of) (defScope s_values_of) .none kV13 dc13 pm13 an13 cd13 ct13), sl13⟩) (c13 : PySem.W.codeIn K cd13 "values_of" = true) (k13 : PySem.W.keepIn K (.ref f13) = true)
    (l14 : K.lookup f14 = some ⟨oc14, od14, .func (PySem.W.fnOf "sets_of" "sets_of" (defArgs s_sets_of) (defBody s_sets_of) (defScope s_sets_of) .none kV14 dc14 pm14 an14 cd14 ct14), sl14⟩) (c14 : PySem.W.codeIn K cd14 "sets_of" = true) (k14 : PySem.W.keepIn K (.ref f14) = true)
    (l15 : K.lookup f15 = some ⟨oc15, od15, .func (PySem.W.fnOf "number_at" "number_at" (defArgs s_number_at) (defBody s_number_at) (defScope s_number_at) .none kV15 dc15 pm15 an15 cd15 ct15), sl15⟩) (c15 : PySem.W.codeIn K cd15 "number_at" = true) (k15 : PySem.W.keepIn K (.ref f15) = true)
    (l16 : K.lookup f16 = some ⟨oc16, od16, .func (PySem.W.fnOf "order_of" "order_of" (defArgs s_order_of) (defBody s_order_of) (defScope s_order_of) .none kV16 dc16 pm16 an16 cd16 ct16), sl16⟩) (c16 : PySem.W.codeIn K cd16 "order_of" = true) (k16 : PySem.W.keepIn K (.ref f16) = true)
    (l17 : K.lookup f17 = some ⟨oc17, od17, .func (PySem.W.fnOf "is_mirrored" "is_mirrored" (defArgs s_is_mirrored) (defBody s_is_mirrored) (defScope s_is_mirrored) .none kV17 dc17 pm17 an17 cd17 ct17), sl17⟩) (c17 : PySem.W.codeIn K cd17 "is_mirrored" = true) (k17 : PySem.W.keepIn K (.ref f17) = true)
    (l18 : K.lookup f18 = some ⟨oc18, od18, .func (PySem.W.fnOf "place_of" "place_of" (defArgs s_place_of) (defBody s_place_of) (defScope s_place_of) .none kV18 dc18 pm18 an18 cd18 ct18), sl18⟩) (c18 : PySem.W.codeIn K cd18 "place_of" = true) (k18 : PySem.W.keepIn K (.ref f18) = true)
    (l19 : K.lookup f19 = some ⟨oc19, od19, .func (PySem.W.fnOf "own_number" "own_number" (defArgs s_own_number) (defBody s_own_number) (defScope s_own_number) .none kV19 dc19 pm19 an19 cd19 ct19), sl19⟩) (c19 : PySem.W.codeIn K cd19 "own_number" = true) (k19 : PySem.W.keepIn K (.ref f19) = true)
    (l20 : K.lookup f20 = some ⟨oc20, od20, .func (PySem.W.fnOf "does_fit" "does_fit" (defArgs s_does_fit) (defBody s_does_fit) (defScope s_does_fit) .none kV20 dc20 pm20 an20 cd20 ct20), sl20⟩) (c20 : PySem.W.codeIn K cd20 "does_fit" = true) (k20 : PySem.W.keepIn K (.ref f20) = true)
    (l21 : K.lookup f21 = some ⟨oc21, od21, .func (PySem.W.fnOf "own_turned" "own_turned" (defArgs s_own_turned) (defBody s_own_turned) (defScope s_own_turned) .none kV21 dc21 pm21 an21 cd21 ct21), sl21⟩) (c21 : PySem.W.codeIn K cd21 "own_turned" = true) (k21 : PySem.W.keepIn K (.ref f21) = true)
    (l22 : K.lookup f22 = some ⟨oc22, od22, .func (PySem.W.fnOf "changed" "changed" (defArgs s_changed) (defBody s_changed) (defScope s_changed) .none kV22 dc22 pm22 an22 cd22 ct22), sl22⟩) (c22 : PySem.W.codeIn K cd22 "changed" = true) (k22 : PySem.W.keepIn K (.ref f22) = true)
    (l23 : K.lookup f23 = some ⟨oc23, od23, .func (PySem.W.fnOf "mends" "mends" (defArgs s_mends) (defBody s_mends) (defScope s_mends) .none (.ref dk23) dc23 pm23 an23 cd23 ct23), sl23⟩) (c23 : PySem.W.codeIn K cd23 "mends" = true) (k23 : PySem.W.keepIn K (.ref f23) = true)
    (kn23 : PySem.W.nsIn K dk23 "limit" = some (some (.int 2 kt23)))
    (l24 : K.lookup f24 = some ⟨oc24, od24, .func (PySem.W.fnOf "_law_refused" "_law_refused" (defArgs s_law_refused) (defBody s_law_refused) (defScope s_law_refused) .none kV24 dc24 pm24 an24 cd24 ct24), sl24⟩) (c24 : PySem.W.codeIn K cd24 "_law_refused" = true) (k24 : PySem.W.keepIn K (.ref f24) = true)
    (l25 : K.lookup f25 = some ⟨oc25, od25, .func (PySem.W.fnOf "_law_changes" "_law_changes" (defArgs s_law_changes) (defBody s_law_changes) (defScope s_law_changes) .none kV25 dc25 pm25 an25 cd25 ct25), sl25⟩) (c25 : PySem.W.codeIn K cd25 "_law_changes" = true) (k25 : PySem.W.keepIn K (.ref f25) = true)
    (l26 : K.lookup f26 = some ⟨oc26, od26, .func (PySem.W.fnOf "_law_values" "_law_values" (defArgs s_law_values) (defBody s_law_values) (defScope s_law_values) .none kV26 dc26 pm26 an26 cd26 ct26), sl26⟩) (c26 : PySem.W.codeIn K cd26 "_law_values" = true) (k26 : PySem.W.keepIn K (.ref f26) = true)
    (l27 : K.lookup f27 = some ⟨oc27, od27, .func (PySem.W.fnOf "_law_fits" "_law_fits" (defArgs s_law_fits) (defBody s_law_fits) (defScope s_law_fits) .none kV27 dc27 pm27 an27 cd27 ct27), sl27⟩) (c27 : PySem.W.codeIn K cd27 "_law_fits" = true) (k27 : PySem.W.keepIn K (.ref f27) = true)
    (l28 : K.lookup f28 = some ⟨oc28, od28, .func (PySem.W.fnOf "_law_turned" "_law_turned" (defArgs s_law_turned) (defBody s_law_turned) (defScope s_law_turned) .none kV28 dc28 pm28 an28 cd28 ct28), sl28⟩) (c28 : PySem.W.codeIn K cd28 "_law_turned" = true) (k28 : PySem.W.keepIn K (.ref f28) = true)
    (l29 : K.lookup f29 = some ⟨oc29, od29, .func (PySem.W.fnOf "law" "law" (defArgs s_law) (defBody s_law) (defScope s_law) .none kV29 dc29 pm29 an29 cd29 ct29), sl29⟩) (c29 : PySem.W.codeIn K cd29 "law" = true) (k29 : PySem.W.keepIn K (.ref f29) = true)
    (pg : PySem.W.plainGet K C Str.empty = true) (ic : PySem.W.isClsIn K C = true) (po : PySem.W.plainOver K C = true) (sa : PySem.W.findIn K (.ref C) "__setattr__" = some (some (.builtin "object.__setattr__"))) (mk : PySem.W.makesIn K C = true) (kc : PySem.W.keepIn K (.ref C) = true)
    (s1 : PySem.W.findIn K (.ref C) "parts" = some (some (.ref pR))) (s2 : PySem.W.specialIn K (.ref pR) "__get__" = some (some (.builtin "member_descriptor.__get__"))) (s3 : PySem.W.takesIn K (.ref pR) = some true) (s4 : PySem.W.typeIn K (.ref pR) = some (.type "member_descriptor")) (s5 : PySem.W.slotIn K pR C = some 0)
    (xg0 : PySem.W.nsIn K mainGlobals "InvalidTicket" = some (some (.ref x0))) (xk0 : PySem.W.keepIn K (.ref x0) = true) (xb0 : PySem.W.subIn K (.ref x0) (.type "BaseException") = some true) (xt0 : PySem.W.typeIn K (.ref x0) = some (.type "type")) (xi0 : PySem.W.isClsIn K x0 = true)
    {nm0 q0 : Str} {N0 : Addr} {bs0 : List Value} {sn0 : List Str} {sub0 : List Value} {ab0 : Bool} {col0 : Option Bool} {dd0 : Option Addr} {u00 u10 u20 u30 u50 : Option Value}
    (xL0 : K.lookup x0 = some (excClassObj nm0 q0 x0 N0 bs0 [.ref n0, .type "ValueError", .type "Exception", .type "BaseException", .type "object"] true sn0 sub0 ab0 col0 dd0 u00 u10 u20 u30 u50 "ValueError.__new__")) (xs0 : PySem.W.findIn K (.ref x0) "__setattr__" = some (some (.builtin "object.__setattr__")))
    (xI0 : PySem.W.findIn K (.ref x0) "__init__" = some (some (.ref f11))) (xT0 : PySem.W.typeIn K (.ref f11) = some (.type "function"))
    (xg1 : PySem.W.nsIn K mainGlobals "InvalidLimit" = some (some (.ref x1))) (xq1 : PySem.W.excIn K x1 [.type "ValueError", .type "Exception", .type "BaseException", .type "object"] "ValueError.__new__" = true) (xk1 : PySem.W.keepIn K (.ref x1) = true) (xb1 : PySem.W.subIn K (.ref x1) (.type "BaseException") = some true) (xt1 : PySem.W.typeIn K (.ref x1) = some (.type "type")) (xi1 : PySem.W.isClsIn K x1 = true)
    (xm0_0 : PySem.W.subIn K (.ref x0) (.ref x0) = some true)
    (xm1_0 : PySem.W.subIn K (.ref x1) (.ref x0) = some false)
    (xm0_1 : PySem.W.subIn K (.ref x0) (.ref x1) = some false)
    (xm1_1 : PySem.W.subIn K (.ref x1) (.ref x1) = some true)
    (eg0 : PySem.W.findIn K (.ref x0) "__getattribute__" = some (some (.builtin "BaseException.__getattribute__"))) (ek0 : PySem.W.findIn K (.ref x0) "__getattr__" = some none) (ed0 : PySem.W.hasDictIn K x0 = true)
    (eg1 : PySem.W.findIn K (.ref x1) "__getattribute__" = some (some (.builtin "BaseException.__getattribute__"))) (ek1 : PySem.W.findIn K (.ref x1) "__getattr__" = some none) (ed1 : PySem.W.hasDictIn K x1 = true)
    (no0_index : PySem.W.findIn K (.ref x0) "index" = some none)
    (z_all : PySem.W.nsIn K mainGlobals "all" = some none)
    (z_bool : PySem.W.nsIn K mainGlobals "bool" = some none)
    (z_enumerate : PySem.W.nsIn K mainGlobals "enumerate" = some none)
    (z_int : PySem.W.nsIn K mainGlobals "int" = some none)
    (z_isinstance : PySem.W.nsIn K mainGlobals "isinstance" = some none)
    (z_len : PySem.W.nsIn K mainGlobals "len" = some none)
    (z_list : PySem.W.nsIn K mainGlobals "list" = some none)
    (z_max : PySem.W.nsIn K mainGlobals "max" = some none)
    (z_range : PySem.W.nsIn K mainGlobals "range" = some none)
    (z_sorted : PySem.W.nsIn K mainGlobals "sorted" = some none)
    (z_str : PySem.W.nsIn K mainGlobals "str" = some none)
    (z_tuple : PySem.W.nsIn K mainGlobals "tuple" = some none)
    (z_zip : PySem.W.nsIn K mainGlobals "zip" = some none)
    (q_OUTS : PySem.W.nsIn K mainGlobals "OUTS" = some (some (.ref a_OUTS)))
    {OUTSt0 OUTSt1 OUTSt2 OUTSt3 OUTSt4 OUTSt5 OUTSt6 OUTSt7 OUTSt8 OUTSt9 OUTSt10 OUTSt11 OUTSt12 : Tok} {OUTSd : Option Addr} {OUTSn : Nat} {OUTSs : Array (Option Value)}
    (h_OUTS : K.lookup a_OUTS = some ⟨.type "tuple", OUTSd, .seq ([.int 0 OUTSt0, .int 2 OUTSt1, .int 3 OUTSt2, .int 4 OUTSt3, .int 5 OUTSt4, .int 6 OUTSt5, .int 7 OUTSt6, .int 8 OUTSt7, .int 9 OUTSt8, .int 10 OUTSt9, .int 11 OUTSt10, .int 12 OUTSt11, .int 13 OUTSt12] : List Value).toArray OUTSn, OUTSs⟩)
    (q_POINTS : PySem.W.nsIn K mainGlobals "POINTS" = some (some (.ref a_POINTS)))
    {POINTSt0 POINTSt1 POINTSt2 POINTSt3 POINTSt4 : Tok} {POINTSn : Nat} {POINTSs : Array (Option Value)}
    (h_POINTS : K.lookup a_POINTS = some ⟨.type "tuple", none, .seq ([.str "start" POINTSt0, .str "rows" POINTSt1, .str "ways" POINTSt2, .str "out" POINTSt3, .str "kind" POINTSt4] : List Value).toArray POINTSn, POINTSs⟩)
    {t_MOST_SIZEi : Tok} (i_MOST_SIZE : PySem.W.nsIn K mainGlobals "MOST_SIZE" = some (some (.int 1000000 t_MOST_SIZEi)))
    {t_MOSTi : Tok} (i_MOST : PySem.W.nsIn K mainGlobals "MOST" = some (some (.int 1000000000000000000000000000000 t_MOSTi)))
    {t_MOST_LIMITi : Tok} (i_MOST_LIMIT : PySem.W.nsIn K mainGlobals "MOST_LIMIT" = some (some (.int 3 t_MOST_LIMITi)))
    (q_WORDS : PySem.W.nsIn K mainGlobals "WORDS" = some (some (.ref a_WORDS))) {es_WORDS : Array DictEntry} {n_WORDS : Nat} (l_WORDS : K.lookup a_WORDS = some ⟨.type "dict", none, .dict es_WORDS n_WORDS, #[]⟩) (kl_WORDS : PySem.W.KeysLit w.params es_WORDS.toList)
    {a_WORDSstart : Addr} (v_WORDSstart : PySem.W.nsIn K a_WORDS "start" = some (some (.ref a_WORDSstart)))
    {WORDSstartt0 WORDSstartt1 WORDSstartt2 : Tok} {WORDSstartd : Option Addr} {WORDSstartn : Nat} {WORDSstarts : Array (Option Value)}
    (h_WORDSstart : K.lookup a_WORDSstart = some ⟨.type "tuple", WORDSstartd, .seq ([.str "left" WORDSstartt0, .str "middle" WORDSstartt1, .str "right" WORDSstartt2] : List Value).toArray WORDSstartn, WORDSstarts⟩)
    {a_WORDSrows : Addr} (v_WORDSrows : PySem.W.nsIn K a_WORDS "rows" = some (some (.ref a_WORDSrows)))
    {WORDSrowst0 WORDSrowst1 : Tok} {WORDSrowsd : Option Addr} {WORDSrowsn : Nat} {WORDSrowss : Array (Option Value)}
    (h_WORDSrows : K.lookup a_WORDSrows = some ⟨.type "tuple", WORDSrowsd, .seq ([.str "anew" WORDSrowst0, .str "on" WORDSrowst1] : List Value).toArray WORDSrowsn, WORDSrowss⟩)
    {a_WORDSways : Addr} (v_WORDSways : PySem.W.nsIn K a_WORDS "ways" = some (some (.ref a_WORDSways)))
    {WORDSwayst0 WORDSwayst1 : Tok} {WORDSwaysd : Option Addr} {WORDSwaysn : Nat} {WORDSwayss : Array (Option Value)}
    (h_WORDSways : K.lookup a_WORDSways = some ⟨.type "tuple", WORDSwaysd, .seq ([.str "fro" WORDSwayst0, .str "same" WORDSwayst1] : List Value).toArray WORDSwaysn, WORDSwayss⟩)
    {a_WORDSkind : Addr} (v_WORDSkind : PySem.W.nsIn K a_WORDS "kind" = some (some (.ref a_WORDSkind)))
    {WORDSkindt0 WORDSkindt1 : Tok} {WORDSkindd : Option Addr} {WORDSkindn : Nat} {WORDSkinds : Array (Option Value)}
    (h_WORDSkind : K.lookup a_WORDSkind = some ⟨.type "tuple", WORDSkindd, .seq ([.str "always" WORDSkindt0, .str "once" WORDSkindt1] : List Value).toArray WORDSkindn, WORDSkinds⟩)
    (hK : K = K) : ∃ fd : FuncData, (∀ (s : Shared) (v : Value), BindsTo s fd ⟨[v], []⟩ [("_law_script", v)]) ∧ ∀ base : Heap, K.In base → base.Ns mainGlobals mg → ∃ G : Gx, G.K = K ∧ FnOk l.prog w K mg base (L2.CX l.prog w) 9 fa fd ["_law_script"] (spE G 1 m_law) := by
  have e := hfa.symm.trans (PySem.W.mg_of X Gm a29)
  cases e
  have F0 := fun_mk (st := s_law_mix) l0 c0 k0
  have b0 := F0.binds (ps := ["_law_script", "_law_seed"]) fun _ _ _ _ _ _ us hl => match us, hl with | [_, _], _ => rfl
  have F1 := fun_mk (st := s_law_next) l1 c1 k1
  have b1 := F1.binds (ps := ["_law_h", "_law_bound"]) fun _ _ _ _ _ _ us hl => match us, hl with | [_, _], _ => rfl
  have F2 := fun_mk (st := s_law_rule) l2 c2 k2
  have b2 := F2.binds (ps := ["_law_h"]) fun _ _ _ _ _ _ us hl => match us, hl with | [_], _ => rfl
  have F3 := fun_mk (st := s_is_integer) l3 c3 k3
  have b3 := F3.binds (ps := ["value", "least", "most"]) fun _ _ _ _ _ _ us hl => match us, hl with | [_, _, _], _ => rfl
  have F4 := fun_mk (st := s_is_of) l4 c4 k4
  have b4 := F4.binds (ps := ["point", "value"]) fun _ _ _ _ _ _ us hl => match us, hl with | [_, _], _ => rfl
  have F5 := fun_mk (st := s_Rule_init) l5 c5 k5
  have b5 := F5.binds (ps := ["self", "start", "rows", "ways", "out", "kind"]) fun _ _ _ _ _ _ us hl => match us, hl with | [_, _, _, _, _, _], _ => rfl
  have F6 := fun_mk (st := s_law_built) l6 c6 k6
  have b6 := F6.binds (ps := ["_law_t"]) fun _ _ _ _ _ _ us hl => match us, hl with | [_], _ => rfl
  have F7 := fun_mk (st := s_law_number) l7 c7 k7
  have b7 := F7.binds (ps := ["_law_t", "_law_place_here"]) fun _ _ _ _ _ _ us hl => match us, hl with | [_, _], _ => rfl
  have F8 := fun_mk (st := s_law_place) l8 c8 k8
  have b8 := F8.binds (ps := ["_law_t", "_law_seats", "_law_row", "_law_seat_here"]) fun _ _ _ _ _ _ us hl => match us, hl with | [_, _, _, _], _ => rfl
  have F9 := fun_mk (st := s_law_ticket) l9 c9 k9
  have b9 := F9.binds (ps := ["_law_h", "_law_t"]) fun _ _ _ _ _ _ us hl => match us, hl with | [_, _], _ => rfl
  have F10 := fun_mk (st := s_is_ticket) l10 c10 k10
  have b10 := F10.binds (ps := ["value"]) fun _ _ _ _ _ _ us hl => match us, hl with | [_], _ => rfl
  have F11 := fun_mk (st := s_InvalidTicket_init) l11 c11 k11
  have b11 := F11.binds (ps := ["self", "index"]) fun _ _ _ _ _ _ us hl => match us, hl with | [_, _], _ => rfl
  have F12 := fun_mk (st := s_look_at_tickets) l12 c12 k12
  have b12 := F12.binds (ps := ["tickets"]) fun _ _ _ _ _ _ us hl => match us, hl with | [_], _ => rfl
  have F13 := fun_mk (st := s_values_of) l13 c13 k13
  have b13 := F13.binds (ps := ["point"]) fun _ _ _ _ _ _ us hl => match us, hl with | [_], _ => rfl
  have F14 := fun_mk (st := s_sets_of) l14 c14 k14
  have b14 := F14.binds (ps := ["rule", "points", "many"]) fun _ _ _ _ _ _ us hl => match us, hl with | [_, _, _], _ => rfl
  have F15 := fun_mk (st := s_number_at) l15 c15 k15
  have b15 := F15.binds (ps := ["rule", "place"]) fun _ _ _ _ _ _ us hl => match us, hl with | [_, _], _ => rfl
  have F16 := fun_mk (st := s_order_of) l16 c16 k16
  have b16 := F16.binds (ps := ["start", "seats", "seat"]) fun _ _ _ _ _ _ us hl => match us, hl with | [_, _, _], _ => rfl
  have F17 := fun_mk (st := s_is_mirrored) l17 c17 k17
  have b17 := F17.binds (ps := ["rule", "row"]) fun _ _ _ _ _ _ us hl => match us, hl with | [_, _], _ => rfl
  have F18 := fun_mk (st := s_place_of) l18 c18 k18
  have b18 := F18.binds (ps := ["rule", "seats", "row", "seat"]) fun _ _ _ _ _ _ us hl => match us, hl with | [_, _, _, _], _ => rfl
  have F19 := fun_mk (st := s_own_number) l19 c19 k19
  have b19 := F19.binds (ps := ["rule", "seats", "row", "seat"]) fun _ _ _ _ _ _ us hl => match us, hl with | [_, _, _, _], _ => rfl
  have F20 := fun_mk (st := s_does_fit) l20 c20 k20
  have b20 := F20.binds (ps := ["rule", "tickets"]) fun _ _ _ _ _ _ us hl => match us, hl with | [_, _], _ => rfl
  have F21 := fun_mk (st := s_own_turned) l21 c21 k21
  have b21 := F21.binds (ps := ["rule", "point", "value"]) fun _ _ _ _ _ _ us hl => match us, hl with | [_, _, _], _ => rfl
  have F22 := fun_mk (st := s_changed) l22 c22 k22
  have b22 := F22.binds (ps := ["rule", "changes"]) fun _ _ _ _ _ _ us hl => match us, hl with | [_, _], _ => rfl
  have F23 := fun_mk (st := s_mends) l23 c23 k23
  have b23 : ∃ ds, Vals [V.int 2] ds ∧ L2.Binds K _ ["rule", "tickets", "limit"] ds := (funD_of (st := s_mends) l23 c23 k23 kn23).binds0 (ps := ["rule", "tickets", "limit"]) 2 (by simp) rfl fun D doc pm an cdv ct us ks hu hk => match us, ks, hu, hk with | [_, _], [_], _, _ => ⟨_, _, _, _, _, _, rfl, rfl, rfl⟩
  have kb23 : KBn K _ ["rule", "tickets", "limit"] 2 ["limit"] (fun us ws => us ++ ws) (fun vs zs => vs ++ zs) := ⟨fun s us ws _ hu hk => match us, ws, hu, hk with | [_, _], [_], _, _ => .of_eq (fd := PySem.W.fnOf "mends" "mends" (defArgs s_mends) (defBody s_mends) (defScope s_mends) .none (.ref dk23) dc23 pm23 an23 cd23 ct23) rfl, fun r1 r2 => r1.append r2⟩
  have F24 := fun_mk (st := s_law_refused) l24 c24 k24
  have b24 := F24.binds (ps := ["_law_rule_here", "_law_tickets", "_law_bound"]) fun _ _ _ _ _ _ us hl => match us, hl with | [_, _, _], _ => rfl
  have F25 := fun_mk (st := s_law_changes) l25 c25 k25
  have b25 := F25.binds (ps := ["_law_t", "_law_points"]) fun _ _ _ _ _ _ us hl => match us, hl with | [_, _], _ => rfl
  have F26 := fun_mk (st := s_law_values) l26 c26 k26
  have b26 := F26.binds (ps := []) fun _ _ _ _ _ _ us hl => match us, hl with | [], _ => rfl
  have F27 := fun_mk (st := s_law_fits) l27 c27 k27
  have b27 := F27.binds (ps := ["_law_t", "_law_tickets"]) fun _ _ _ _ _ _ us hl => match us, hl with | [_, _], _ => rfl
  have F28 := fun_mk (st := s_law_turned) l28 c28 k28
  have b28 := F28.binds (ps := ["_law_t", "_law_changes_here"]) fun _ _ _ _ _ _ us hl => match us, hl with | [_, _], _ => rfl
  have F29 := fun_mk (st := s_law) l29 c29 k29
  have b29 := F29.binds (ps := ["_law_script"]) fun _ _ _ _ _ _ us hl => match us, hl with | [_], _ => rfl
  have tb_WORDS : ∀ z ds, tab_WORDS.lookup z = some ds → ∃ b xs, KDct K w a_WORDS z (.ref b) ∧ SqT K (fun _ => none) b xs ∧ ∀ B, Reps ⟨K, C, fun m => ([x0, x1] : List Addr).getD m 0, fun m => ([["index"], []] : List (List Str)).getD m [], 0⟩ B ds xs := by
    intro z ds hz
    have hz' := tabL hz
    simp only [tab_WORDS, List.mem_cons, List.not_mem_nil, or_false, Prod.mk.injEq] at hz'
    rcases hz' with ⟨rfl, rfl⟩ | ⟨rfl, rfl⟩ | ⟨rfl, rfl⟩ | ⟨rfl, rfl⟩
    · exact ⟨a_WORDSstart, [V.str "left", V.str "middle", V.str "right"], ⟨_, _, _, l_WORDS, kl_WORDS, v_WORDSstart, rfl⟩, .inr ⟨_, _, _, h_WORDSstart, rfl, rfl, (by rw [sizeLine_eq]; exact (by decide : 3 ≤ 16777216)), .cons ⟨_, rfl⟩ (.cons ⟨_, rfl⟩ (.cons ⟨_, rfl⟩ (.nil)))⟩, fun B => Reps.cons (by unfold Rep; rfl) (Reps.cons (by unfold Rep; rfl) (Reps.cons (by unfold Rep; rfl) (Reps.nil)))⟩
    · exact ⟨a_WORDSrows, [V.str "anew", V.str "on"], ⟨_, _, _, l_WORDS, kl_WORDS, v_WORDSrows, rfl⟩, .inr ⟨_, _, _, h_WORDSrows, rfl, rfl, (by rw [sizeLine_eq]; exact (by decide : 2 ≤ 16777216)), .cons ⟨_, rfl⟩ (.cons ⟨_, rfl⟩ (.nil))⟩, fun B => Reps.cons (by unfold Rep; rfl) (Reps.cons (by unfold Rep; rfl) (Reps.nil))⟩
    · exact ⟨a_WORDSways, [V.str "fro", V.str "same"], ⟨_, _, _, l_WORDS, kl_WORDS, v_WORDSways, rfl⟩, .inr ⟨_, _, _, h_WORDSways, rfl, rfl, (by rw [sizeLine_eq]; exact (by decide : 2 ≤ 16777216)), .cons ⟨_, rfl⟩ (.cons ⟨_, rfl⟩ (.nil))⟩, fun B => Reps.cons (by unfold Rep; rfl) (Reps.cons (by unfold Rep; rfl) (Reps.nil))⟩
    · exact ⟨a_WORDSkind, [V.str "always", V.str "once"], ⟨_, _, _, l_WORDS, kl_WORDS, v_WORDSkind, rfl⟩, .inr ⟨_, _, _, h_WORDSkind, rfl, rfl, (by rw [sizeLine_eq]; exact (by decide : 2 ≤ 16777216)), .cons ⟨_, rfl⟩ (.cons ⟨_, rfl⟩ (.nil))⟩, fun B => Reps.cons (by unfold Rep; rfl) (Reps.cons (by unfold Rep; rfl) (Reps.nil))⟩
  refine ⟨PySem.W.fnOf "law" "law" (defArgs s_law) (defBody s_law) (defScope s_law) .none kV29 dc29 pm29 an29 cd29 ct29, fun s v => .of_eq rfl, fun base _ _ => ⟨⟨K, C, fun m => ([x0, x1] : List Addr).getD m 0, fun m => ([["index"], []] : List (List Str)).getD m [], 0⟩, rfl, ?_⟩⟩
  exact ok_law (A := ⟨f0, _, f1, _, f2, _, f3, _, f4, _, f5, _, f6, _, f7, _, f8, _, f9, _, f10, _, f11, _, f12, _, f13, _, f14, _, f15, _, f16, _, f17, _, f18, _, f19, _, f20, _, f21, _, f22, _, f23, _, f24, _, f25, _, f26, _, f27, _, f28, _, fa, _, pR, a_OUTS, a_POINTS, a_WORDS⟩) (G := ⟨K, C, fun m => ([x0, x1] : List Addr).getD m 0, fun m => ([["index"], []] : List (List Str)).getD m [], 0⟩) ⟨F0, b0, PySem.W.mg_of X Gm a0, F1, b1, PySem.W.mg_of X Gm a1, F2, b2, PySem.W.mg_of X Gm a2, F3, b3, PySem.W.mg_of X Gm a3, F4, b4, PySem.W.mg_of X Gm a4, F5, b5, F6, b6, PySem.W.mg_of X Gm a6, F7, b7, PySem.W.mg_of X Gm a7, F8, b8, PySem.W.mg_of X Gm a8, F9, b9, PySem.W.mg_of X Gm a9, F10, b10, PySem.W.mg_of X Gm a10, F11, b11, F12, b12, PySem.W.mg_of X Gm a12, F13, b13, PySem.W.mg_of X Gm a13, F14, b14, PySem.W.mg_of X Gm a14, F15, b15, PySem.W.mg_of X Gm a15, F16, b16, PySem.W.mg_of X Gm a16, F17, b17, PySem.W.mg_of X Gm a17, F18, b18, PySem.W.mg_of X Gm a18, F19, b19, PySem.W.mg_of X Gm a19, F20, b20, PySem.W.mg_of X Gm a20, F21, b21, PySem.W.mg_of X Gm a21, F22, b22, PySem.W.mg_of X Gm a22, F23, b23, kb23, PySem.W.mg_of X Gm a23, F24, b24, PySem.W.mg_of X Gm a24, F25, b25, PySem.W.mg_of X Gm a25, F26, b26, PySem.W.mg_of X Gm a26, F27, b27, PySem.W.mg_of X Gm a27, F28, b28, PySem.W.mg_of X Gm a28, F29, b29, PySem.W.mg_of X Gm a29, PySem.W.mg_none_of X Gm z_all, PySem.W.mg_none_of X Gm z_bool, PySem.W.mg_none_of X Gm z_enumerate, PySem.W.mg_none_of X Gm z_int, PySem.W.mg_none_of X Gm z_isinstance, PySem.W.mg_none_of X Gm z_len, PySem.W.mg_none_of X Gm z_list, PySem.W.mg_none_of X Gm z_max, PySem.W.mg_none_of X Gm z_range, PySem.W.mg_none_of X Gm z_sorted, PySem.W.mg_none_of X Gm z_str, PySem.W.mg_none_of X Gm z_tuple, PySem.W.mg_none_of X Gm z_zip, PySem.W.mg_of X Gm aC, ⟨mk, a5, i5, kc⟩, ⟨pg, ic, po, sa⟩, ⟨s1, s2, s3, s4, s5, by decide⟩, ⟨PySem.W.mg_of X Gm xg0, xk0, xb0, xt0⟩, ⟨⟨_, _, _, _, _, _, _, _, _, _, _, _, _, _, _, xL0, by rfl⟩, xs0, xb0, xt0, xk0⟩, xI0, xT0, (by intro f hf; simp only [List.mem_cons, List.not_mem_nil, or_false] at hf; rcases hf with rfl <;> first | exact no0_index), rfl, mt_of (by intro m hm; match m, hm with | 0, _ => exact exm_own xb0 xi0 xt0 xm0_0 | 1, _ => exact exm_own xb0 xi0 xt0 xm1_0 | (k + 2), hm => exact absurd hm (by omega)), ⟨xq1, PySem.W.mg_of X Gm xg1, xk1, xb1, xt1⟩, mt_of (by intro m hm; match m, hm with | 0, _ => exact exm_own xb1 xi1 xt1 xm0_1 | 1, _ => exact exm_own xb1 xi1 xt1 xm1_1 | (k + 2), hm => exact absurd hm (by omega)), ⟨eg0, ek0, xb0, ed0⟩, (show ((["index"] : List Str)).Nodup from by decide), no0_index, rfl, PySem.W.mg_of X Gm q_OUTS, .inr ⟨_, _, _, h_OUTS, rfl, rfl, (by rw [sizeLine_eq]; exact (by decide : 13 ≤ 16777216)), .cons ⟨_, rfl⟩ (.cons ⟨_, rfl⟩ (.cons ⟨_, rfl⟩ (.cons ⟨_, rfl⟩ (.cons ⟨_, rfl⟩ (.cons ⟨_, rfl⟩ (.cons ⟨_, rfl⟩ (.cons ⟨_, rfl⟩ (.cons ⟨_, rfl⟩ (.cons ⟨_, rfl⟩ (.cons ⟨_, rfl⟩ (.cons ⟨_, rfl⟩ (.cons ⟨_, rfl⟩ (.nil)))))))))))))⟩, PySem.W.mg_of X Gm q_POINTS, .inr ⟨_, _, _, h_POINTS, rfl, rfl, (by rw [sizeLine_eq]; exact (by decide : 5 ≤ 16777216)), .cons ⟨_, rfl⟩ (.cons ⟨_, rfl⟩ (.cons ⟨_, rfl⟩ (.cons ⟨_, rfl⟩ (.cons ⟨_, rfl⟩ (.nil)))))⟩, ⟨_, h_POINTS, rfl, rfl⟩, ⟨_, PySem.W.mg_of X Gm i_MOST_SIZE⟩, ⟨_, PySem.W.mg_of X Gm i_MOST⟩, ⟨_, PySem.W.mg_of X Gm i_MOST_LIMIT⟩, PySem.W.mg_of X Gm q_WORDS, tb_WORDS⟩
theorem walk {l : PySem.W.OpenLaw} {q : Program} {loose : List Str} {XP : (Str → Option Value) → Heap → Prop} {YP : World → Heap → Prop} {d : DefRec} {K : Params → PySem.W.Frag} (hn : l.most = some 63) (hdf : d.params.defaults = [])
    (hY : ∀ (w : World) (h : Heap), YP w h → (K w.params).In h) (math : ∀ ns : List Int, ns.length ≤ 63 → ∃ S, m_law [.p (.scr ns)] [] = .ok (.p (.bl true)) S)
    (F : ∀ (w : World) (mg : Str → Option Value) (fa : Addr) (h : Heap), (K w.params).In h → h.Ns mainGlobals mg → mg d.name = some (.ref fa) →
      ∃ fd : FuncData, (∀ (s : Shared) (u : Value), BindsTo s fd ⟨[u], []⟩ [("_law_script", u)]) ∧ ∀ base : Heap, (K w.params).In base → base.Ns mainGlobals mg → ∃ G : Gx, G.K = K w.params ∧ FnOk l.prog w (K w.params) mg base (L2.CX l.prog w) 9 fa fd ["_law_script"] (spE G 1 m_law)) :
    PySem.W.WalkO q loose XP YP l.row.toRowW d [] (fun f vs => PySem.call f vs) :=
  L2.walk_of (n := 63) (k := 9) (x := "_law_script") (CX := fun w => L2.CX l.prog w) (sp := fun w => spS (K w.params)) hn (by decide) hdf ⟨rfl, by decide, by decide⟩ hY
    (fun w mg fa h a b c => let ⟨fd, h1, h2⟩ := F w mg fa h a b c; ⟨fd, h1, fun base z1 z2 => let ⟨G, e, k⟩ := h2 base z1 z2; k.imp fun vs H Q E z => spS_to e math z⟩)
    (fun w H a ns h1 h2 h3 => ⟨a, ns, rfl, h1, h3, rfl, rfl⟩) fun w H s e s' z => cx_none z
end Hn
open PySem PySem.W PyProof.Rows in
set_option maxRecDepth 100000 in
set_option maxHeartbeats 0 in
theorem PySem.Challenge.cw_hallnumbers_k08_whole_mends_holds : PySem.Challenge.rw_hallnumbers_k08_whole_mends.Holds := by
  w_on; o_law; k_head; (case hw => w_witness2)
  k_fill
  refine Hn.walk (l := PySem.Challenge.rw_hallnumbers_k08_whole_mends) rfl rfl (fun w h Y => PySem.W.kIn_of Y) Hn.math ?F
  case F =>
    intro w mg fa h KX G hmg
    refine' Hn.all_mk KX G hmg ?a0 ?a1 ?a2 ?a3 ?a4 ?a6 ?a7 ?a8 ?a9 ?a10 ?a12 ?a13 ?a14 ?a15 ?a16 ?a17 ?a18 ?a19 ?a20 ?a21 ?a22 ?a23 ?a24 ?a25 ?a26 ?a27 ?a28 ?a29 ?aC ?a5 ?i5 ?l0 ?c0 ?k0 ?l1 ?c1 ?k1 ?l2 ?c2 ?k2 ?l3 ?c3 ?k3 ?l4 ?c4 ?k4 ?l5 ?c5 ?k5 ?l6 ?c6 ?k6 ?l7 ?c7 ?k7 ?l8 ?c8 ?k8 ?l9 ?c9 ?k9 ?l10 ?c10 ?k10 ?l11 ?c11 ?k11 ?l12 ?c12 ?k12 ?l13 ?c13 ?k13 ?l14 ?c14 ?k14 ?l15 ?c15 ?k15 ?l16 ?c16 ?k16 ?l17 ?c17 ?k17 ?l18 ?c18 ?k18 ?l19 ?c19 ?k19 ?l20 ?c20 ?k20 ?l21 ?c21 ?k21 ?l22 ?c22 ?k22 ?l23 ?c23 ?k23 ?kn23 ?l24 ?c24 ?k24 ?l25 ?c25 ?k25 ?l26 ?c26 ?k26 ?l27 ?c27 ?k27 ?l28 ?c28 ?k28 ?l29 ?c29 ?k29 ?pg ?ic ?po ?sa ?mk ?kc ?s1 ?s2 ?s3 ?s4 ?s5 ?xg0 ?xk0 ?xb0 ?xt0 ?xi0 ?xL0 ?xs0 ?xI0 ?xT0 ?xg1 ?xq1 ?xk1 ?xb1 ?xt1 ?xi1 ?xm0_0 ?xm1_0 ?xm0_1 ?xm1_1 ?eg0 ?ek0 ?ed0 ?eg1 ?ek1 ?ed1 ?no0_index ?z_all ?z_bool ?z_enumerate ?z_int ?z_isinstance ?z_len ?z_list ?z_max ?z_range ?z_sorted ?z_str ?z_tuple ?z_zip ?q_OUTS ?h_OUTS ?q_POINTS ?h_POINTS ?i_MOST_SIZE ?i_MOST ?i_MOST_LIMIT ?q_WORDS ?l_WORDS ?kl_WORDS ?v_WORDSstart ?h_WORDSstart ?v_WORDSrows ?h_WORDSrows ?v_WORDSways ?h_WORDSways ?v_WORDSkind ?h_WORDSkind rfl
    (case a0 => k_is)
    (case a1 => k_is)
    (case a2 => k_is)
    (case a3 => k_is)
    (case a4 => k_is)
    (case a6 => k_is)
    (case a7 => k_is)
    (case a8 => k_is)
    (case a9 => k_is)
    (case a10 => k_is)
    (case a12 => k_is)
    (case a13 => k_is)
    (case a14 => k_is)
    (case a15 => k_is)
    (case a16 => k_is)
    (case a17 => k_is)
    (case a18 => k_is)
    (case a19 => k_is)
    (case a20 => k_is)
    (case a21 => k_is)
    (case a22 => k_is)
    (case a23 => k_is)
    (case a24 => k_is)
    (case a25 => k_is)
    (case a26 => k_is)
    (case a27 => k_is)
    (case a28 => k_is)
    (case a29 => k_is)
    (case aC => k_is)
    (case a5 => k_is)
    (case xg0 => k_is)
    (case xg1 => k_is)
    (case q_OUTS => k_is)
    (case q_POINTS => k_is)
    (case q_WORDS => k_is)
    (case xI0 => k_is)
    (case i5 => k_is)
    (case l0 => k_is)
    (case c0 => k_is)
    (case k0 => k_is)
    (case l1 => k_is)
    (case c1 => k_is)
    (case k1 => k_is)
    (case l2 => k_is)
    (case c2 => k_is)
    (case k2 => k_is)
    (case l3 => k_is)
    (case c3 => k_is)
    (case k3 => k_is)
    (case l4 => k_is)
    (case c4 => k_is)
    (case k4 => k_is)
    (case l5 => k_is)
    (case c5 => k_is)
    (case k5 => k_is)
    (case l6 => k_is)
    (case c6 => k_is)
    (case k6 => k_is)
    (case l7 => k_is)
    (case c7 => k_is)
    (case k7 => k_is)
    (case l8 => k_is)
    (case c8 => k_is)
    (case k8 => k_is)
    (case l9 => k_is)
    (case c9 => k_is)
    (case k9 => k_is)
    (case l10 => k_is)
    (case c10 => k_is)
    (case k10 => k_is)
    (case l11 => k_is)
    (case c11 => k_is)
    (case k11 => k_is)
    (case l12 => k_is)
    (case c12 => k_is)
    (case k12 => k_is)
    (case l13 => k_is)
    (case c13 => k_is)
    (case k13 => k_is)
    (case l14 => k_is)
    (case c14 => k_is)
    (case k14 => k_is)
    (case l15 => k_is)
    (case c15 => k_is)
    (case k15 => k_is)
    (case l16 => k_is)
    (case c16 => k_is)
    (case k16 => k_is)
    (case l17 => k_is)
    (case c17 => k_is)
    (case k17 => k_is)
    (case l18 => k_is)
    (case c18 => k_is)
    (case k18 => k_is)
    (case l19 => k_is)
    (case c19 => k_is)
    (case k19 => k_is)
    (case l20 => k_is)
    (case c20 => k_is)
    (case k20 => k_is)
    (case l21 => k_is)
    (case c21 => k_is)
    (case k21 => k_is)
    (case l22 => k_is)
    (case c22 => k_is)
    (case k22 => k_is)
    (case l23 => k_is)
    (case c23 => k_is)
    (case k23 => k_is)
    (case kn23 => k_is)
    (case l24 => k_is)
    (case c24 => k_is)
    (case k24 => k_is)
    (case l25 => k_is)
    (case c25 => k_is)
    (case k25 => k_is)
    (case l26 => k_is)
    (case c26 => k_is)
    (case k26 => k_is)
    (case l27 => k_is)
    (case c27 => k_is)
    (case k27 => k_is)
    (case l28 => k_is)
    (case c28 => k_is)
    (case k28 => k_is)
    (case l29 => k_is)
    (case c29 => k_is)
    (case k29 => k_is)
    (case pg => k_is)
    (case ic => k_is)
    (case po => k_is)
    (case sa => k_is)
    (case mk => k_is)
    (case kc => k_is)
    (case s1 => k_is)
    (case s2 => k_is)
    (case s3 => k_is)
    (case s4 => k_is)
    (case s5 => k_is)
    (case xk0 => k_is)
    (case xb0 => k_is)
    (case xt0 => k_is)
    (case xi0 => k_is)
    (case xL0 => k_is)
    (case xs0 => k_is)
    (case xT0 => k_is)
    (case xq1 => k_exc)
    (case xk1 => k_is)
    (case xb1 => k_is)
    (case xt1 => k_is)
    (case xi1 => k_is)
    (case xm0_0 => k_is)
    (case xm1_0 => k_is)
    (case xm0_1 => k_is)
    (case xm1_1 => k_is)
    (case eg0 => k_is)
    (case ek0 => k_is)
    (case ed0 => k_is)
    (case eg1 => k_is)
    (case ek1 => k_is)
    (case ed1 => k_is)
    (case no0_index => k_is)
    (case z_all => k_is)
    (case z_bool => k_is)
    (case z_enumerate => k_is)
    (case z_int => k_is)
    (case z_isinstance => k_is)
    (case z_len => k_is)
    (case z_list => k_is)
    (case z_max => k_is)
    (case z_range => k_is)
    (case z_sorted => k_is)
    (case z_str => k_is)
    (case z_tuple => k_is)
    (case z_zip => k_is)
    (case h_OUTS => k_is)
    (case h_POINTS => k_is)
    (case i_MOST_SIZE => k_is)
    (case i_MOST => k_is)
    (case i_MOST_LIMIT => k_is)
    (case l_WORDS => k_is)
    (case kl_WORDS => k_keys)
    (case v_WORDSstart => k_is)
    (case h_WORDSstart => k_is)
    (case v_WORDSrows => k_is)
    (case h_WORDSrows => k_is)
    (case v_WORDSways => k_is)
    (case h_WORDSways => k_is)
    (case v_WORDSkind => k_is)
    (case h_WORDSkind => k_is)
