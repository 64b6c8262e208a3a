import PyProof.Rows.All
import Wide.All
import OpenK.AllK
import Wide.FinOn
import HandS.ForMost
import HandS.ForExc
import HandS.Wide
import HandS.Slots
import HandS.SlotsOwn
import HandS.Star
import HandS.CallSlots
import HandS.TryMany
import HandS.ExcField
import HandS.ExcIs
import HandS.Flow
import HandS.IsInst
import HandS.Conv
import HandS.Iter
import HandS.More
import HandS.Zip
import HandS.Style
import HandS.ExcOwn
import PyProof.Rows.SetFrom
import PyProof.SetRoads
import HandS.Dict
import HandS.Exc
import HandS.ExcInit
import KE.GoesMore
import HandS.Strs
import HandS.SetFor
import HandS.SortInts
import HandS.MakeKwOnly
import HandS.Defaults
import PyProof.TupleOfSeq
import HandS.Deep
import HandS.TupSets
import HandS.Property
import HandS.SortRule
import OpenK.KOps
import HandS.Text
import HandS.RaiseMore
import PyProof.StrBlock2
import KE.GoesComp
import HandS.Comp
import PySem.Challenge.RW_hallnumbers_k12_whole_texts_refused
set_option Elab.async false
set_option linter.all false
set_option maxRecDepth 100000
set_option maxHeartbeats 4000000
namespace DL
open PySem L2
open PySem.Spec PyProof.Rows

inductive D where
  | non | bl (b : Bool) | int (i : Int) | str (x : Str)
  | tup (ds : List D) | lst (ds : List D) | rul (ds : List D) | scr (ns : List Int) | dct (kvs : List (Str × Str)) | dki (kvs : List (Int × Int)) | dsi (kvs : List (Str × Int))
inductive Dv where
  | p (d : D) | hnd (n : Nat)
inductive Cell where
  | lst (ds : List D) | rcd (ds : List Dv) | ins (c : Nat) (fs : List (Str × Dv)) | dead | raw (j : Nat) | slt (j : Nat) (ds : List D)
abbrev Sto := List Cell
/-- the cell's second address -/
def Cell.second : Cell → Option Nat
  | .raw j => some j
  | .slt j _ => some j
  | _ => none
structure Ex where
  cls : Nat
  args : List D
inductive Out (α : Type) where
  | ok (a : α) (S : Sto) | exc (x : Ex) (S : Sto) | bad
def Out.bind {α β : Type} (o : Out α) (k : α → Sto → Out β) : Out β := match o with
  | .ok a S => k a S
  | .exc x S => .exc x S
  | .bad => .bad
/-- what is fixed: the written part, the class of rules, the classes of errors and their fields -/
structure Gx where
  K : PySem.W.Frag
  rc : Addr
  xc : Nat → Addr
  xf : Nat → List Str
  uc : Addr

mutual
def Rep (G : Gx) (B : Hp) : D → V → Prop
  | .non, v => v = .non
  | .bl b, v => v = .bl b
  | .int i, v => v = .int i
  | .str x, v => v = .str x
  | .tup ds, v => ∃ a xs, v = .ref a ∧ SqT G.K B a xs ∧ Reps G B ds xs
  | .lst ds, v => ∃ a xs, v = .ref a ∧ B a = some (.lst xs) ∧ Reps G B ds xs
  | .rul ds, v => ∃ a dx t xs, v = .ref a ∧ B a = some (SlX.SlO a G.rc dx [some (.ref t)]) ∧ B dx = some (.xd []) ∧ SqT G.K B t xs ∧ Reps G B ds xs
  | .scr ns, v => ∃ a, v = .ref a ∧ SqL G.K B a (ns.map V.int)
  | .dct kvs, v => ∃ a, v = .ref a ∧ B a = some (.dK (kvs.map fun p => (Sum.inr p.1, V.str p.2)))
  | .dki kvs, v => ∃ a, v = .ref a ∧ B a = some (.dK (kvs.map fun p => (Sum.inl p.1, V.int p.2)))
  | .dsi kvs, v => ∃ a, v = .ref a ∧ B a = some (.dK (kvs.map fun p => (Sum.inr p.1, V.int p.2)))
def Reps (G : Gx) (B : Hp) : List D → List V → Prop
  | [], xs => xs = []
  | d :: ds, xs => ∃ x r, xs = x :: r ∧ Rep G B d x ∧ Reps G B ds r
end
def RepV (G : Gx) (B : Hp) (φ : List Addr) : Dv → V → Prop
  | .p d, v => Rep G B d v
  | .hnd n, v => ∃ a, φ[n]? = some a ∧ v = .ref a
def RepVs (G : Gx) (B : Hp) (φ : List Addr) : List Dv → List V → Prop
  | [], xs => xs = []
  | d :: ds, xs => ∃ x r, xs = x :: r ∧ RepV G B φ d x ∧ RepVs G B φ ds r

theorem sqT_mono {K : PySem.W.Frag} {B B' : Hp} {a : Addr} {xs : List V} (e : Same B B') (h : SqT K B a xs) : SqT K B' a xs := by
  rcases h with (h | ⟨o, h⟩) | h
  · exact .inl (.inl (e _ _ h))
  · exact .inl (.inr ⟨o, e _ _ h⟩)
  · exact .inr h
section
variable {G : Gx} {B B' : Hp} {φ φ' : List Addr}
mutual
theorem Rep.mono (e : Same B B') : ∀ (d : D) {v : V}, Rep G B d v → Rep G B' d v
  | .non, _, h => by unfold Rep at h ⊢; exact h
  | .bl _, _, h => by unfold Rep at h ⊢; exact h
  | .int _, _, h => by unfold Rep at h ⊢; exact h
  | .str _, _, h => by unfold Rep at h ⊢; exact h
  | .tup ds, _, h => by
    unfold Rep at h ⊢
    obtain ⟨a, xs, e1, h1, h2⟩ := h
    exact ⟨a, xs, e1, sqT_mono e h1, Reps.mono e ds h2⟩
  | .lst ds, _, h => by
    unfold Rep at h ⊢
    obtain ⟨a, xs, e1, h1, h2⟩ := h
    exact ⟨a, xs, e1, e _ _ h1, Reps.mono e ds h2⟩
  | .rul ds, _, h => by
    unfold Rep at h ⊢
    obtain ⟨a, dx, t, xs, e1, h1, h2, h3, h4⟩ := h
    exact ⟨a, dx, t, xs, e1, e _ _ h1, e _ _ h2, sqT_mono e h3, Reps.mono e ds h4⟩
  | .scr ns, _, h => by
    unfold Rep at h ⊢
    obtain ⟨a, e1, h1⟩ := h
    exact ⟨a, e1, e.seq h1⟩
  | .dct kvs, _, h => by
    unfold Rep at h ⊢
    obtain ⟨a, e1, h1⟩ := h
    exact ⟨a, e1, e _ _ h1⟩
  | .dki kvs, _, h => by
    unfold Rep at h ⊢
    obtain ⟨a, e1, h1⟩ := h
    exact ⟨a, e1, e _ _ h1⟩
  | .dsi kvs, _, h => by
    unfold Rep at h ⊢
    obtain ⟨a, e1, h1⟩ := h
    exact ⟨a, e1, e _ _ h1⟩
theorem Reps.mono (e : Same B B') : ∀ (ds : List D) {vs : List V}, Reps G B ds vs → Reps G B' ds vs
  | [], _, h => by unfold Reps at h ⊢; exact h
  | d :: ds, _, h => by
    unfold Reps at h ⊢
    obtain ⟨x, r, e1, h1, h2⟩ := h
    exact ⟨x, r, e1, Rep.mono e d h1, Reps.mono e ds h2⟩
end
theorem RepV.mono (e : Same B B') (p : φ <+: φ') : ∀ (d : Dv) {v : V}, RepV G B φ d v → RepV G B' φ' d v
  | .p d, _, h => Rep.mono e d h
  | .hnd n, _, ⟨a, h, q⟩ => ⟨a, by
      obtain ⟨t, rfl⟩ := p
      rw [List.getElem?_append_left (List.getElem?_eq_some_iff.mp h).1]
      exact h, q⟩
theorem RepVs.mono (e : Same B B') (p : φ <+: φ') : ∀ (ds : List Dv) {vs : List V}, RepVs G B φ ds vs → RepVs G B' φ' ds vs
  | [], _, h => h
  | d :: ds, _, ⟨x, r, e1, h1, h2⟩ => ⟨x, r, e1, RepV.mono e p d h1, RepVs.mono e p ds h2⟩
theorem Reps.length : ∀ {ds : List D} {vs : List V}, Reps G B ds vs → ds.length = vs.length
  | [], _, h => by unfold Reps at h; rw [h]; rfl
  | d :: ds, _, h => by
    unfold Reps at h
    obtain ⟨x, r, rfl, _, h2⟩ := h
    rw [List.length_cons, List.length_cons, Reps.length h2]
theorem RepVs.length : ∀ {ds : List Dv} {vs : List V}, RepVs G B φ ds vs → ds.length = vs.length
  | [], _, h => by rw [show _ = [] from h]; rfl
  | d :: ds, _, ⟨x, r, e1, _, h2⟩ => by rw [e1, List.length_cons, List.length_cons, RepVs.length h2]
theorem Reps.get : ∀ {ds : List D} {vs : List V} {i : Nat} {d : D}, Reps G B ds vs → ds[i]? = some d → ∃ v, vs[i]? = some v ∧ Rep G B d v
  | [], _, _, _, _, e => by simp at e
  | d :: ds, _, 0, _, h, e => by
    unfold Reps at h
    obtain ⟨x, r, rfl, h1, _⟩ := h
    simp at e; subst e; exact ⟨x, rfl, h1⟩
  | d :: ds, _, i + 1, _, h, e => by
    unfold Reps at h
    obtain ⟨x, r, rfl, _, h2⟩ := h
    obtain ⟨v, e1, e2⟩ := Reps.get (i := i) h2 (by simpa using e)
    exact ⟨v, by simpa using e1, e2⟩
theorem RepVs.get : ∀ {ds : List Dv} {vs : List V} {i : Nat} {d : Dv}, RepVs G B φ ds vs → ds[i]? = some d → ∃ v, vs[i]? = some v ∧ RepV G B φ d v
  | [], _, _, _, _, e => by simp at e
  | d :: ds, _, 0, _, ⟨x, r, e1, h1, _⟩, e => by subst e1; simp at e; subst e; exact ⟨x, rfl, h1⟩
  | d :: ds, _, i + 1, _, ⟨x, r, e1, _, h2⟩, e => by
    subst e1
    obtain ⟨v, q1, q2⟩ := RepVs.get (i := i) h2 (by simpa using e)
    exact ⟨v, by simpa using q1, q2⟩
theorem Reps.append : ∀ {ds es : List D} {vs us : List V}, Reps G B ds vs → Reps G B es us → Reps G B (ds ++ es) (vs ++ us)
  | [], _, _, _, h, q => by unfold Reps at h; subst h; exact q
  | d :: ds, es, _, us, h, q => by
    unfold Reps at h
    obtain ⟨x, r, rfl, h1, h2⟩ := h
    rw [List.cons_append, List.cons_append]
    unfold Reps
    exact ⟨x, _, rfl, h1, h2.append q⟩
theorem Reps.nil : Reps G B [] [] := by unfold Reps; rfl
theorem Reps.cons {d : D} {ds : List D} {v : V} {vs : List V} (h : Rep G B d v) (q : Reps G B ds vs) : Reps G B (d :: ds) (v :: vs) := by
  unfold Reps; exact ⟨v, vs, rfl, h, q⟩
theorem Reps.take : ∀ {ds : List D} {vs : List V} (n : Nat), Reps G B ds vs → Reps G B (ds.take n) (vs.take n)
  | ds, vs, 0, _ => by rw [List.take_zero, List.take_zero]; exact Reps.nil
  | [], _, n + 1, h => by unfold Reps at h; subst h; exact Reps.nil
  | d :: ds, _, n + 1, h => by
    unfold Reps at h
    obtain ⟨x, r, rfl, h1, h2⟩ := h
    exact Reps.cons h1 (h2.take n)
theorem Reps.drop : ∀ {ds : List D} {vs : List V} (n : Nat), Reps G B ds vs → Reps G B (ds.drop n) (vs.drop n)
  | ds, vs, 0, h => h
  | [], _, n + 1, h => by unfold Reps at h; subst h; exact Reps.nil
  | d :: ds, _, n + 1, h => by
    unfold Reps at h
    obtain ⟨x, r, rfl, h1, h2⟩ := h
    exact h2.drop n
theorem Reps.set : ∀ {ds : List D} {vs : List V} (i : Nat) {d : D} {v : V}, Reps G B ds vs → Rep G B d v → Reps G B (ds.set i d) (vs.set i v)
  | [], _, _, _, _, h, _ => by unfold Reps at h; subst h; exact Reps.nil
  | d :: ds, _, 0, _, _, h, q => by
    unfold Reps at h
    obtain ⟨x, r, rfl, h1, h2⟩ := h
    exact Reps.cons q h2
  | d :: ds, _, i + 1, _, _, h, q => by
    unfold Reps at h
    obtain ⟨x, r, rfl, h1, h2⟩ := h
    exact Reps.cons h1 (h2.set i q)
theorem Reps.reverse : ∀ {ds : List D} {vs : List V}, Reps G B ds vs → Reps G B ds.reverse vs.reverse
  | [], _, h => by unfold Reps at h; subst h; exact Reps.nil
  | d :: ds, _, h => by
    unfold Reps at h
    obtain ⟨x, r, rfl, h1, h2⟩ := h
    rw [List.reverse_cons, List.reverse_cons]
    exact h2.reverse.append (Reps.cons h1 Reps.nil)
theorem Reps.rep {ds : List D} {vs : List V} (h : Reps G B ds vs) : ∀ n : Nat, Reps G B (List.replicate n ds).flatten (List.replicate n vs).flatten
  | 0 => Reps.nil
  | n + 1 => by
    rw [List.replicate_succ, List.replicate_succ, List.flatten_cons, List.flatten_cons]
    exact h.append (h.rep n)
theorem Reps.ints : ∀ ns : List Int, Reps G B (ns.map D.int) (ns.map V.int)
  | [] => Reps.nil
  | n :: ns => Reps.cons (by unfold Rep; rfl) (Reps.ints ns)
theorem RepVs.set : ∀ {ds : List Dv} {vs : List V} (i : Nat) {d : Dv} {v : V}, RepVs G B φ ds vs → RepV G B φ d v → RepVs G B φ (ds.set i d) (vs.set i v)
  | [], _, _, _, _, h, _ => by rw [show _ = [] from h]; exact (rfl : _ = _)
  | d :: ds, _, 0, _, _, ⟨x, r, e1, h1, h2⟩, q => by subst e1; exact ⟨_, _, rfl, q, h2⟩
  | d :: ds, _, i + 1, _, _, ⟨x, r, e1, h1, h2⟩, q => by subst e1; exact ⟨_, _, rfl, h1, h2.set i q⟩
theorem RepVs.append : ∀ {ds es : List Dv} {vs us : List V}, RepVs G B φ ds vs → RepVs G B φ es us → RepVs G B φ (ds ++ es) (vs ++ us)
  | [], _, _, _, h, q => by rw [show _ = [] from h]; exact q
  | d :: ds, es, _, us, ⟨x, r, e1, h1, h2⟩, q => by subst e1; exact ⟨x, _, rfl, h1, h2.append q⟩
end

/-! ### the world -/
def CellR (G : Gx) (H B : Hp) (φ : List Addr) (a : Addr) : Cell → Prop
  | .lst ds => B a = none ∧ ∃ xs, H a = some (.lst xs) ∧ Reps G B ds xs
  | .rcd ds => B a = none ∧ ∃ xs, H a = some (.lst xs) ∧ RepVs G B φ ds xs
  | .ins _ fs => B a = none ∧ ∃ dx vs, H a = some (.ins G.uc dx vs) ∧ vs.map (·.1) = fs.map (·.1) ∧ RepVs G B φ (fs.map (·.2)) (vs.map (·.2))
  | .dead => ∃ o, H a = some o
  | .raw j => B a = none ∧ ∃ dx, φ[j]? = some dx ∧ B dx = none ∧ dx ≠ a ∧ H a = some (.ins G.rc dx []) ∧ ∃ o, H dx = some o
  | .slt j ds => B a = none ∧ ∃ dx t xs, φ[j]? = some dx ∧ B dx = none ∧ dx ≠ a ∧ H a = some (SlX.SlO a G.rc dx [some (.ref t)]) ∧ H dx = some (.xd []) ∧ SqT G.K B t xs ∧ Reps G B ds xs
theorem CellR.there {G : Gx} {H B : Hp} {φ : List Addr} {a : Addr} : ∀ {c : Cell}, CellR G H B φ a c → ∃ o, H a = some o
  | .lst _, ⟨_, _, h, _⟩ => ⟨_, h⟩
  | .rcd _, ⟨_, _, h, _⟩ => ⟨_, h⟩
  | .ins _ _, ⟨_, _, _, h, _⟩ => ⟨_, h⟩
  | .dead, h => h
  | .raw _, ⟨_, _, _, _, _, h, _⟩ => ⟨_, h⟩
  | .slt _ _, ⟨_, _, _, _, _, _, _, h, _⟩ => ⟨_, h⟩
/-- what a cell leans on: its address, its second one, data -/
theorem CellR.stay {G : Gx} {H B H' B' : Hp} {φ φ' : List Addr} {a : Addr} {c : Cell} (r : CellR G H B φ a c) (sb : Same B B') (pr : φ <+: φ') (ha : H' a = H a) (hb : c ≠ .dead → B a = none → B' a = none)
    (hd : ∀ (j : Nat) (dx : Addr), φ[j]? = some dx → dx ≠ a → (∃ o, H dx = some o) → B dx = none → H' dx = H dx ∧ B' dx = none) : CellR G H' B' φ' a c := by
  have pg : ∀ {j : Nat} {dx : Addr}, φ[j]? = some dx → φ'[j]? = some dx := fun {j dx} h => by
    obtain ⟨t, rfl⟩ := pr
    rw [List.getElem?_append_left (List.getElem?_eq_some_iff.mp h).1]
    exact h
  cases c with
  | lst ds =>
    obtain ⟨q1, xs, q2, q3⟩ := r
    exact ⟨hb (fun z => nomatch z) q1, xs, ha.trans q2, Reps.mono sb _ q3⟩
  | rcd ds =>
    obtain ⟨q1, xs, q2, q3⟩ := r
    exact ⟨hb (fun z => nomatch z) q1, xs, ha.trans q2, RepVs.mono sb pr _ q3⟩
  | ins C fs =>
    obtain ⟨q1, dx, vs, q2, q3, q4⟩ := r
    exact ⟨hb (fun z => nomatch z) q1, dx, vs, ha.trans q2, q3, RepVs.mono sb pr _ q4⟩
  | dead =>
    obtain ⟨u, q⟩ := r
    exact ⟨u, ha.trans q⟩
  | raw j =>
    obtain ⟨q1, dx, q2, q3, q4, q5, u, q6⟩ := r
    obtain ⟨e1, e2⟩ := hd j dx q2 q4 ⟨u, q6⟩ q3
    exact ⟨hb (fun z => nomatch z) q1, dx, pg q2, e2, q4, ha.trans q5, u, e1.trans q6⟩
  | slt j ds =>
    obtain ⟨q1, dx, t, xs, q2, q3, q4, q5, q6, q7, q8⟩ := r
    obtain ⟨e1, e2⟩ := hd j dx q2 q4 ⟨_, q6⟩ q3
    exact ⟨hb (fun z => nomatch z) q1, dx, t, xs, pg q2, e2, q4, ha.trans q5, e1.trans q6, sqT_mono sb q7, Reps.mono sb _ q8⟩
theorem CellR.stay2 {G : Gx} {H B H' B' : Hp} {φ φ' : List Addr} {a : Addr} {c : Cell} {j : Nat} (r : CellR G H B φ a c) (e : c.second = some j) (sb : Same B B') (pr : φ <+: φ') (ha : H' a = H a) (hb : c ≠ .dead → B a = none → B' a = none)
    (hd : ∀ dx, φ[j]? = some dx → dx ≠ a → (∃ o, H dx = some o) → B dx = none → H' dx = H dx ∧ B' dx = none) : CellR G H' B' φ' a c := by
  have pg : ∀ {j : Nat} {dx : Addr}, φ[j]? = some dx → φ'[j]? = some dx := fun {j dx} h => by
    obtain ⟨t, rfl⟩ := pr
    rw [List.getElem?_append_left (List.getElem?_eq_some_iff.mp h).1]
    exact h
  cases c with
  | lst ds => cases e
  | rcd ds => cases e
  | ins C fs => cases e
  | dead => cases e
  | raw j' =>
    cases e
    obtain ⟨q1, dx, q2, q3, q4, q5, u, q6⟩ := r
    obtain ⟨e1, e2⟩ := hd dx q2 q4 ⟨u, q6⟩ q3
    exact ⟨hb (fun z => nomatch z) q1, dx, pg q2, e2, q4, ha.trans q5, u, e1.trans q6⟩
  | slt j' ds =>
    cases e
    obtain ⟨q1, dx, t, xs, q2, q3, q4, q5, q6, q7, q8⟩ := r
    obtain ⟨e1, e2⟩ := hd dx q2 q4 ⟨_, q6⟩ q3
    exact ⟨hb (fun z => nomatch z) q1, dx, t, xs, pg q2, e2, q4, ha.trans q5, e1.trans q6, sqT_mono sb q7, Reps.mono sb _ q8⟩
theorem CellR.stay0 {G : Gx} {H B H' B' : Hp} {φ φ' : List Addr} {a : Addr} {c : Cell} (r : CellR G H B φ a c) (e : c.second = none) (sb : Same B B') (pr : φ <+: φ') (ha : H' a = H a) (hb : c ≠ .dead → B a = none → B' a = none) : CellR G H' B' φ' a c := by
  cases c with
  | lst ds =>
    obtain ⟨q1, xs, q2, q3⟩ := r
    exact ⟨hb (fun z => nomatch z) q1, xs, ha.trans q2, Reps.mono sb _ q3⟩
  | rcd ds =>
    obtain ⟨q1, xs, q2, q3⟩ := r
    exact ⟨hb (fun z => nomatch z) q1, xs, ha.trans q2, RepVs.mono sb pr _ q3⟩
  | ins C fs =>
    obtain ⟨q1, dx, vs, q2, q3, q4⟩ := r
    exact ⟨hb (fun z => nomatch z) q1, dx, vs, ha.trans q2, q3, RepVs.mono sb pr _ q4⟩
  | dead =>
    obtain ⟨u, q⟩ := r
    exact ⟨u, ha.trans q⟩
  | raw j => cases e
  | slt j ds => cases e
structure Wd (G : Gx) (H B : Hp) (φ : List Addr) (S : Sto) : Prop where
  sub : Same B H
  nd : φ.Nodup
  len : φ.length = S.length
  cell : ∀ (i : Nat) (a : Addr) (c : Cell), φ[i]? = some a → S[i]? = some c → CellR G H B φ a c
  sec : ∀ (i j : Nat) (c : Cell), S[i]? = some c → c.second = some j → S[j]? = some .dead
/-- from one world to a later one: what is no one's business here stays -/
structure Xt (H B : Hp) (φ : List Addr) (H' B' : Hp) (φ' : List Addr) : Prop where
  b : Same B B'
  p : φ <+: φ'
  out : ∀ a o, H a = some o → B a = none → a ∉ φ → H' a = some o ∧ B' a = none ∧ a ∉ φ'
theorem Xt.refl {H B : Hp} {φ : List Addr} : Xt H B φ H B φ := ⟨Same.refl _, List.prefix_refl _, fun _ _ h1 h2 h3 => ⟨h1, h2, h3⟩⟩
theorem Xt.trans {H B H1 B1 H2 B2 : Hp} {φ φ1 φ2 : List Addr} (x : Xt H B φ H1 B1 φ1) (y : Xt H1 B1 φ1 H2 B2 φ2) : Xt H B φ H2 B2 φ2 :=
  ⟨x.b.trans y.b, x.p.trans y.p, fun a o h1 h2 h3 => let ⟨q1, q2, q3⟩ := x.out a o h1 h2 h3; y.out a o q1 q2 q3⟩
section
variable {G : Gx} {H B : Hp} {φ : List Addr} {S : Sto} {p : Addr} {o : HO}
theorem Wd.there (w : Wd G H B φ S) {a : Addr} (h : a ∈ φ) : ∃ o, H a = some o := by
  obtain ⟨i, hi, e⟩ := List.mem_iff_getElem.mp h
  have hs : i < S.length := by rw [← w.len]; exact hi
  exact (w.cell i a S[i] (by rw [List.getElem?_eq_getElem hi, e]) (List.getElem?_eq_getElem hs)).there
theorem Wd.fresh (w : Wd G H B φ S) (h : H p = none) : p ∉ φ := fun q => by
  obtain ⟨o, e⟩ := w.there q
  rw [h] at e; cases e
theorem same_upd' (h : H p = none) : Same H (upd H p o) := fun b x e => by
  rw [upd_ne (ne_of_none e h)]; exact e
theorem Wd.bfree (w : Wd G H B φ S) (h : H p = none) : B p = none := w.sub.free h
theorem Wd.two (w : Wd G H B φ S) {i j n : Nat} {c d : Cell} {dx a : Addr} (h1 : S[i]? = some c) (h2 : c.second = some j) (h3 : φ[j]? = some dx) (h4 : φ[n]? = some a) (h5 : S[n]? = some d) (h6 : d ≠ .dead) : dx ≠ a := fun z => by
  have e := w.sec i j c h1 h2
  subst z
  have hj : j < φ.length := (List.getElem?_eq_some_iff.mp h3).1
  have : j = n := (List.getElem?_inj hj w.nd).mp (h3.trans h4.symm)
  subst this
  rw [e] at h5
  exact h6 (Option.some.inj h5).symm
theorem Wd.alloc (w : Wd G H B φ S) (h : H p = none) : Wd G (upd H p o) (upd B p o) φ S := by
  have hb := w.bfree h
  have hp := w.fresh h
  refine ⟨fun b x e => ?_, w.nd, w.len, fun i a c h1 h2 => ?_, w.sec⟩
  · by_cases q : b = p
    · subst q; rw [upd_same] at e ⊢; exact e
    · rw [upd_ne q] at e ⊢; exact w.sub _ _ e
  · have na : a ≠ p := fun z => hp (by subst z; exact List.mem_of_getElem? h1)
    refine CellR.stay (w.cell i a c h1 h2) (same_upd' hb) (List.prefix_refl _) (upd_ne na) (fun _ q => by rw [upd_ne na]; exact q) fun j dx _ _ ⟨u, q1⟩ q2 => ?_
    have nd : dx ≠ p := ne_of_none q1 h
    exact ⟨upd_ne nd, by rw [upd_ne nd]; exact q2⟩
theorem Xt.alloc (w : Wd G H B φ S) (h : H p = none) : Xt H B φ (upd H p o) (upd B p o) φ := by
  refine ⟨same_upd' (w.bfree h), List.prefix_refl _, fun a u h1 h2 h3 => ?_⟩
  have na : a ≠ p := ne_of_none h1 h
  exact ⟨by rw [upd_ne na]; exact h1, by rw [upd_ne na]; exact h2, h3⟩
/-- something private, that no one here knows of, is laid -/
theorem Wd.hide (w : Wd G H B φ S) (h : H p = none) : Wd G (upd H p o) B φ S := by
  have hp := w.fresh h
  refine ⟨fun b x e => ?_, w.nd, w.len, fun i a c h1 h2 => ?_, w.sec⟩
  · rw [upd_ne (ne_of_none (w.sub _ _ e) h)]; exact w.sub _ _ e
  · have na : a ≠ p := fun z => hp (by subst z; exact List.mem_of_getElem? h1)
    refine CellR.stay (w.cell i a c h1 h2) (Same.refl _) (List.prefix_refl _) (upd_ne na) (fun _ q => q) fun j dx _ _ ⟨u, q1⟩ q2 => ?_
    exact ⟨upd_ne (ne_of_none q1 h), q2⟩
theorem Xt.hide (w : Wd G H B φ S) (h : H p = none) : Xt H B φ (upd H p o) B φ := by
  refine ⟨Same.refl _, List.prefix_refl _, fun a u h1 h2 h3 => ?_⟩
  exact ⟨by rw [upd_ne (ne_of_none h1 h)]; exact h1, h2, h3⟩
/-- the private thing becomes a cell -/
theorem Wd.cellOf {c : Cell} (w : Wd G H B φ S) (h : H p = some o) (hb : B p = none) (hp : p ∉ φ) (hc : CellR G H B (φ ++ [p]) p c) (hs : c.second = none) : Wd G H B (φ ++ [p]) (S ++ [c]) := by
  have old : ∀ {i : Nat} {c' : Cell}, (S ++ [c])[i]? = some c' → S[i]? = some c' ∨ c' = c := fun {i c'} h2 => by
    by_cases hi : i < S.length
    · rw [List.getElem?_append_left hi] at h2; exact .inl h2
    · rw [List.getElem?_append_right (Nat.le_of_not_lt hi)] at h2
      exact .inr (by
        have := List.mem_of_getElem? h2
        simpa using this)
  refine ⟨w.sub, ?_, ?_, fun i a c' h1 h2 => ?_, fun i j c' h1 h2 => ?_⟩
  · rw [List.nodup_append]
    refine ⟨w.nd, by simp, fun x hx y hy => ?_⟩
    have : y = p := by simpa using hy
    subst this
    exact fun z => hp (z ▸ hx)
  · rw [List.length_append, List.length_append, w.len]; rfl
  · by_cases hi : i < φ.length
    · rw [List.getElem?_append_left hi] at h1
      rw [List.getElem?_append_left (by rw [← w.len]; exact hi)] at h2
      exact CellR.stay (w.cell i a c' h1 h2) (Same.refl _) (List.prefix_append _ _) rfl (fun _ q => q) fun _ _ _ _ _ q2 => ⟨rfl, q2⟩
    · have hl : i < (φ ++ [p]).length := (List.getElem?_eq_some_iff.mp h1).1
      rw [List.length_append] at hl
      have e : i = φ.length := by simp at hl; omega
      subst e
      rw [List.getElem?_append_right (Nat.le_refl _), Nat.sub_self] at h1
      rw [w.len, List.getElem?_append_right (Nat.le_refl _), Nat.sub_self] at h2
      simp at h1 h2
      subst h1 h2
      exact hc
  · rcases old h1 with h1 | h1
    · have q := w.sec i j c' h1 h2
      rw [List.getElem?_append_left (List.getElem?_eq_some_iff.mp q).1]
      exact q
    · subst h1; rw [hs] at h2; cases h2
/-- a cell is written -/
theorem Wd.set {n : Nat} {a : Addr} {c0 c' : Cell} (w : Wd G H B φ S) (hn : φ[n]? = some a) (hs : S[n]? = some c0) (h0 : c0 ≠ .dead) (hb : B a = none) (hc : CellR G (upd H a o) B φ a c') (h2c : c'.second = none) : Wd G (upd H a o) B φ (S.set n c') := by
  have hl : n < φ.length := (List.getElem?_eq_some_iff.mp hn).1
  have old : ∀ {i : Nat} {c : Cell}, (S.set n c')[i]? = some c → (i = n ∧ c = c') ∨ (i ≠ n ∧ S[i]? = some c) := fun {i c} h => by
    by_cases hi : i = n
    · subst hi
      rw [List.getElem?_set_self (by rw [← w.len]; exact hl)] at h
      exact .inl ⟨rfl, (Option.some.inj h).symm⟩
    · rw [List.getElem?_set_ne (Ne.symm hi)] at h
      exact .inr ⟨hi, h⟩
  refine ⟨fun b x e => ?_, w.nd, by rw [List.length_set]; exact w.len, fun i b c h1 h2 => ?_, fun i j c h1 h2 => ?_⟩
  · have nb : b ≠ a := fun z => by subst z; rw [hb] at e; cases e
    rw [upd_ne nb]; exact w.sub _ _ e
  · rcases old h2 with ⟨rfl, rfl⟩ | ⟨hi, h2⟩
    · rw [hn] at h1; cases h1; exact hc
    · have na : b ≠ a := fun z => by
        subst z
        have hi' : i < φ.length := (List.getElem?_eq_some_iff.mp h1).1
        exact hi ((List.getElem?_inj hi' w.nd).mp (h1.trans hn.symm))
      have r := w.cell i b c h1 h2
      cases e : c.second with
      | none =>
        refine CellR.stay0 r e (Same.refl _) (List.prefix_refl _) (upd_ne na) fun _ q => q
      | some j =>
        refine CellR.stay2 r e (Same.refl _) (List.prefix_refl _) (upd_ne na) (fun _ q => q) fun dx q1 _ _ q2 => ⟨upd_ne (w.two h2 e q1 hn hs h0), q2⟩
  · rcases old h1 with ⟨rfl, rfl⟩ | ⟨hi, h1⟩
    · rw [h2c] at h2; cases h2
    · have q := w.sec i j c h1 h2
      have nj : j ≠ n := fun z => by subst z; rw [q] at hs; exact h0 (Option.some.inj hs).symm
      rw [List.getElem?_set_ne (Ne.symm nj)]
      exact q
theorem Xt.set {n : Nat} {a : Addr} (hn : φ[n]? = some a) : Xt H B φ (upd H a o) B φ := by
  refine ⟨Same.refl _, List.prefix_refl _, fun b u h1 h2 h3 => ?_⟩
  have nb : b ≠ a := fun z => h3 (by subst z; exact List.mem_of_getElem? hn)
  exact ⟨by rw [upd_ne nb]; exact h1, h2, h3⟩
/-- a list's cell is given up: the list is data from now on -/
theorem Wd.thaw {n : Nat} {a : Addr} {ds : List D} (w : Wd G H B φ S) (hn : φ[n]? = some a) (hs : S[n]? = some (.lst ds)) :
    ∃ xs, H a = some (.lst xs) ∧ B a = none ∧ Reps G B ds xs ∧ Wd G H (upd B a (.lst xs)) φ (S.set n .dead) ∧ Xt H B φ H (upd B a (.lst xs)) φ := by
  obtain ⟨hb, xs, hx, hr⟩ : CellR G H B φ a (.lst ds) := w.cell n a _ hn hs
  have hl : n < φ.length := (List.getElem?_eq_some_iff.mp hn).1
  have sb : Same B (upd B a (.lst xs)) := same_upd' hb
  have old : ∀ {i : Nat} {c : Cell}, (S.set n .dead)[i]? = some c → (i = n ∧ c = .dead) ∨ (i ≠ n ∧ S[i]? = some c) := fun {i c} h => by
    by_cases hi : i = n
    · subst hi
      rw [List.getElem?_set_self (by rw [← w.len]; exact hl)] at h
      exact .inl ⟨rfl, (Option.some.inj h).symm⟩
    · rw [List.getElem?_set_ne (Ne.symm hi)] at h
      exact .inr ⟨hi, h⟩
  refine ⟨xs, hx, hb, hr, ⟨fun b x e => ?_, w.nd, by rw [List.length_set]; exact w.len, fun i b c h1 h2 => ?_, fun i j c h1 h2 => ?_⟩, ⟨sb, List.prefix_refl _, fun b u h1 h2 h3 => ?_⟩⟩
  · by_cases q : b = a
    · subst q; rw [upd_same] at e; rw [← e]; exact hx
    · rw [upd_ne q] at e; exact w.sub _ _ e
  · rcases old h2 with ⟨rfl, rfl⟩ | ⟨hi, h2⟩
    · rw [hn] at h1; cases h1; exact ⟨_, hx⟩
    · have na : b ≠ a := fun z => by
        subst z
        have hi' : i < φ.length := (List.getElem?_eq_some_iff.mp h1).1
        exact hi ((List.getElem?_inj hi' w.nd).mp (h1.trans hn.symm))
      have r := w.cell i b c h1 h2
      cases e : c.second with
      | none => exact CellR.stay0 r e sb (List.prefix_refl _) rfl fun _ q => by rw [upd_ne na]; exact q
      | some j => exact CellR.stay2 r e sb (List.prefix_refl _) rfl (fun _ q => by rw [upd_ne na]; exact q) fun dx q1 _ _ q2 => ⟨rfl, by rw [upd_ne (w.two h2 e q1 hn hs (fun z => nomatch z))]; exact q2⟩
  · rcases old h1 with ⟨rfl, rfl⟩ | ⟨hi, h1⟩
    · cases h2
    · have q := w.sec i j c h1 h2
      have nj : j ≠ n := fun z => by subst z; rw [q] at hs; cases hs
      rw [List.getElem?_set_ne (Ne.symm nj)]
      exact q
  · have nb : b ≠ a := fun z => h3 (by subst z; exact List.mem_of_getElem? hn)
    exact ⟨h1, by rw [upd_ne nb]; exact h2, h3⟩
end

/-! ### environments -/
abbrev Nv := List (Option Dv)
structure EnvR (G : Gx) (B : Hp) (φ : List Addr) (σ : L2.St) (ρ : Nv) : Prop where
  len : ρ.length = σ.length
  at_ : ∀ (i : Nat) (d : Dv), ρ[i]? = some (some d) → ∃ v, σ[i]? = some (some v) ∧ RepV G B φ d v
section
variable {G : Gx} {B B' : Hp} {φ φ' : List Addr} {σ : L2.St} {ρ : Nv}
theorem EnvR.mono (e : EnvR G B φ σ ρ) (s : Same B B') (p : φ <+: φ') : EnvR G B' φ' σ ρ :=
  ⟨e.len, fun i d h => let ⟨v, h1, h2⟩ := e.at_ i d h; ⟨v, h1, RepV.mono s p d h2⟩⟩
theorem EnvR.set (e : EnvR G B φ σ ρ) (i : Nat) {d : Dv} {v : V} (r : RepV G B φ d v) : EnvR G B φ (σ.set i (some v)) (ρ.set i (some d)) := by
  refine ⟨by rw [List.length_set, List.length_set]; exact e.len, fun j d' h => ?_⟩
  by_cases hj : j = i
  · subst hj
    have hl : j < ρ.length := by
      have := (List.getElem?_eq_some_iff.mp h).1
      rwa [List.length_set] at this
    rw [List.getElem?_set_self hl] at h
    cases h
    exact ⟨v, List.getElem?_set_self (by rw [← e.len]; exact hl), r⟩
  · rw [List.getElem?_set_ne (Ne.symm hj)] at h ⊢
    exact e.at_ j d' h
theorem EnvR.drop1 (e : EnvR G B φ σ ρ) (i : Nat) (o : Option V) : EnvR G B φ (σ.set i o) (ρ.set i none) := by
  refine ⟨by rw [List.length_set, List.length_set]; exact e.len, fun j d' h => ?_⟩
  by_cases hj : j = i
  · subst hj
    have hl : j < ρ.length := by
      have := (List.getElem?_eq_some_iff.mp h).1
      rwa [List.length_set] at this
    rw [List.getElem?_set_self hl] at h
    cases h
  · rw [List.getElem?_set_ne (Ne.symm hj)] at h ⊢
    exact e.at_ j d' h
def wipeN (ρ : Nv) : List Nat → Nv
  | [] => ρ
  | v :: vs => (wipeN ρ vs).set v none
theorem EnvR.wipe (e : EnvR G B φ σ ρ) : ∀ vs : List Nat, EnvR G B φ (wipe σ vs) (wipeN ρ vs)
  | [] => e
  | v :: vs => (e.wipe vs).drop1 v none
end

/-! ### what is wanted behind a run -/
def XRep (G : Gx) (B : Hp) (x : Ex) (c : Value) (dd : Option Addr) : Prop :=
  c = .ref (G.xc x.cls) ∧ match x.args with
    | [] => dd = none
    | ds => ∃ d vs, dd = some d ∧ B d = some (.xd ((G.xf x.cls).zip vs)) ∧ Reps G B ds vs ∧ ds.length = (G.xf x.cls).length
theorem XRep.mono {G : Gx} {B B' : Hp} {x : Ex} {c : Value} {dd : Option Addr} (e : Same B B') (h : XRep G B x c dd) : XRep G B' x c dd := by
  obtain ⟨h1, h2⟩ := h
  refine ⟨h1, ?_⟩
  cases q : x.args with
  | nil => rw [q] at h2; exact h2
  | cons a r =>
    rw [q] at h2
    obtain ⟨d, vs, e1, e2, e3, e4⟩ := h2
    exact ⟨d, vs, e1, e _ _ e2, Reps.mono e _ e3, e4⟩
def WP {α : Type} (G : Gx) (W : WX) (σ : L2.St) (H B : Hp) (φ : List Addr) (o : Out α) (post : α → Hp → Hp → List Addr → Sto → Prop) : Prop :=
  match o with
  | .ok a S => ∀ H' B' φ', Xt H B φ H' B' φ' → Wd G H' B' φ' S → post a H' B' φ' S
  | .exc x S => ∀ H' B' φ' c dd, Xt H B φ H' B' φ' → Wd G H' B' φ' S → XRep G B' x c dd → W c dd σ H'
  | .bad => False
section
variable {α β : Type} {G : Gx} {W : WX} {σ : L2.St} {H B H1 B1 : Hp} {φ φ1 : List Addr}
theorem WP.mono {o : Out α} {post post' : α → Hp → Hp → List Addr → Sto → Prop} (h : WP G W σ H B φ o post)
    (k : ∀ a H' B' φ' S, Xt H B φ H' B' φ' → Wd G H' B' φ' S → post a H' B' φ' S → post' a H' B' φ' S) : WP G W σ H B φ o post' := by
  cases o with
  | ok a S => exact fun H' B' φ' x w => k _ _ _ _ _ x w (h H' B' φ' x w)
  | exc x S => exact h
  | bad => exact h
theorem WP.rebase {o : Out α} {post : α → Hp → Hp → List Addr → Sto → Prop} (x : Xt H B φ H1 B1 φ1) (h : WP G W σ H B φ o post) : WP G W σ H1 B1 φ1 o post := by
  cases o with
  | ok a S => exact fun H' B' φ' y w => h H' B' φ' (x.trans y) w
  | exc e S => exact fun H' B' φ' c dd y w r => h H' B' φ' c dd (x.trans y) w r
  | bad => exact h
/-- the first part of a run -/
theorem WP.fst {o : Out α} {k : α → Sto → Out β} {post : β → Hp → Hp → List Addr → Sto → Prop} (h : WP G W σ H B φ (o.bind k) post) :
    WP G W σ H B φ o fun a H' B' φ' S' => WP G W σ H' B' φ' (k a S') post := by
  cases o with
  | ok a S => exact fun H' B' φ' x w => WP.rebase x h
  | exc x S => exact h
  | bad => exact h
end

/-! ### readings -/
abbrev Ef := Nv → Sto → Out Dv
def tD (G : Gx) (W : WX) (f : Ef) : TE := fun σ H Q => ∃ ρ B φ S, Wd G H B φ S ∧ EnvR G B φ σ ρ ∧
  WP G W σ H B φ (f ρ S) fun d H' B' φ' S' => ∀ v, RepV G B' φ' d v → Q v H'
theorem wkE {X : Cx} {e : Expr} {t t' : TE} (h : PE X e t) (k : ∀ σ H Q, t' σ H Q → t σ H Q) : PE X e t' :=
  ⟨fun pins s σ H Q I q => h.run pins s σ H Q I (k σ H Q q)⟩
section
variable {G : Gx} {W : WX} {f g : Ef} {σ : L2.St} {H : Hp} {Q : VK}
/-- how a reading is opened -/
theorem tD.run {ρ : Nv} {B : Hp} {φ : List Addr} {S : Sto} {post : Dv → Hp → Hp → List Addr → Sto → Prop} (w : Wd G H B φ S) (e : EnvR G B φ σ ρ) (h : WP G W σ H B φ (f ρ S) post)
    (k : ∀ d v H' B' φ' S', Xt H B φ H' B' φ' → Wd G H' B' φ' S' → EnvR G B' φ' σ ρ → RepV G B' φ' d v → post d H' B' φ' S' → Q v H') : tD G W f σ H Q :=
  ⟨ρ, B, φ, S, w, e, h.mono fun d H' B' φ' S' x w' q v r => k d v H' B' φ' S' x w' (e.mono x.b x.p) r q⟩
end
end DL

namespace DL
open PySem L2
open PySem.Spec PyProof.Rows
/-! ### small things about Rep -/
section
variable {G : Gx} {B : Hp} {φ : List Addr} {v : V}
theorem rep_int {i : Int} : RepV G B φ (.p (.int i)) v ↔ v = .int i := by unfold RepV; unfold Rep; exact Iff.rfl
theorem rep_bl {b : Bool} : RepV G B φ (.p (.bl b)) v ↔ v = .bl b := by unfold RepV; unfold Rep; exact Iff.rfl
theorem rep_str {x : Str} : RepV G B φ (.p (.str x)) v ↔ v = .str x := by unfold RepV; unfold Rep; exact Iff.rfl
theorem rep_non : RepV G B φ (.p .non) v ↔ v = .non := by unfold RepV; unfold Rep; exact Iff.rfl
theorem rep_tup {ds : List D} : RepV G B φ (.p (.tup ds)) v ↔ ∃ a xs, v = .ref a ∧ SqT G.K B a xs ∧ Reps G B ds xs := by unfold RepV; unfold Rep; exact Iff.rfl
theorem rep_lst {ds : List D} : RepV G B φ (.p (.lst ds)) v ↔ ∃ a xs, v = .ref a ∧ B a = some (.lst xs) ∧ Reps G B ds xs := by unfold RepV; unfold Rep; exact Iff.rfl
theorem rep_rul {ds : List D} : RepV G B φ (.p (.rul ds)) v ↔ ∃ a dx t xs, v = .ref a ∧ B a = some (SlX.SlO a G.rc dx [some (.ref t)]) ∧ B dx = some (.xd []) ∧ SqT G.K B t xs ∧ Reps G B ds xs := by unfold RepV; unfold Rep; exact Iff.rfl
theorem rep_scr {ns : List Int} : RepV G B φ (.p (.scr ns)) v ↔ ∃ a, v = .ref a ∧ SqL G.K B a (ns.map V.int) := by unfold RepV; unfold Rep; exact Iff.rfl
end
abbrev Op1 := Dv → Sto → Out Dv
abbrev Op2 := Dv → Dv → Sto → Out Dv
abbrev OpN := List Dv → Sto → Out Dv
/-- what an operator's rule asks, met by the function -/
def Ok1 (G : Gx) (W : WX) (r : V → Hp → VK → Prop) (op : Op1) : Prop := ∀ H B φ S σ x v Q, Wd G H B φ S → RepV G B φ x v →
  WP G W σ H B φ (op x S) (fun d H' B' φ' _ => ∀ z, RepV G B' φ' d z → Q z H') → r v H Q
def Ok2 (G : Gx) (W : WX) (r : R2) (op : Op2) : Prop := ∀ H B φ S σ x y v u Q, Wd G H B φ S → RepV G B φ x v → RepV G B φ y u →
  WP G W σ H B φ (op x y S) (fun d H' B' φ' _ => ∀ z, RepV G B' φ' d z → Q z H') → r v u H Q
def OkN (G : Gx) (W : WX) (r : List V → Hp → VK → Prop) (op : OpN) : Prop := ∀ H B φ S σ xs vs Q, Wd G H B φ S → RepVs G B φ xs vs →
  WP G W σ H B φ (op xs S) (fun d H' B' φ' _ => ∀ z, RepV G B' φ' d z → Q z H') → r vs H Q
/-! ### the functions of syntax -/
def dName (i : Nat) : Ef := fun ρ S => match ρ[i]? with
  | some (some d) => .ok d S
  | _ => .bad
def dC (d : D) : Ef := fun _ S => .ok (.p d) S
def dUn (op : Op1) (f : Ef) : Ef := fun ρ S => (f ρ S).bind op
def dBin (op : Op2) (f g : Ef) : Ef := fun ρ S => (f ρ S).bind fun x S1 => (g ρ S1).bind fun y S2 => op x y S2
abbrev Tf := Nv → Sto → Out Bool
def dIf (c : Tf) (f g : Ef) : Ef := fun ρ S => (c ρ S).bind fun b S1 => if b = true then f ρ S1 else g ρ S1
abbrev Af := Nv → Sto → Out (List Dv)
def aNil : Af := fun _ S => .ok [] S
def aCons (f : Ef) (r : Af) : Af := fun ρ S => (f ρ S).bind fun x S1 => (r ρ S1).bind fun xs S2 => .ok (x :: xs) S2
def dCall (op : OpN) (a : Af) : Ef := fun ρ S => (a ρ S).bind op
/-- tests -/
def tT (G : Gx) (W : WX) (f : Tf) : TT := fun σ H Q => ∃ ρ B φ S, Wd G H B φ S ∧ EnvR G B φ σ ρ ∧
  WP G W σ H B φ (f ρ S) fun b H' _ _ _ => Q b H'
def tA (G : Gx) (W : WX) (f : Af) : TA := fun σ H Q => ∃ ρ B φ S, Wd G H B φ S ∧ EnvR G B φ σ ρ ∧
  WP G W σ H B φ (f ρ S) fun xs H' B' φ' _ => ∀ vs, RepVs G B' φ' xs vs → Q vs H'
def cVal (f : Ef) : Tf := fun ρ S => (f ρ S).bind fun d S1 => match d with
  | .p (.bl b) => .ok b S1
  | _ => .bad
def cNot (c : Tf) : Tf := fun ρ S => (c ρ S).bind fun b S1 => .ok (!b) S1
def cAnd (c d : Tf) : Tf := fun ρ S => (c ρ S).bind fun b S1 => if b = true then d ρ S1 else .ok false S1
def cOr (c d : Tf) : Tf := fun ρ S => (c ρ S).bind fun b S1 => if b = true then .ok true S1 else d ρ S1
/-- and, or of bools as values -/
def dAnd (f g : Ef) : Ef := fun ρ S => (f ρ S).bind fun d S1 => match d with
  | .p (.bl b) => if b = true then g ρ S1 else .ok (.p (.bl false)) S1
  | _ => .bad
def dOr (f g : Ef) : Ef := fun ρ S => (f ρ S).bind fun d S1 => match d with
  | .p (.bl b) => if b = true then .ok (.p (.bl true)) S1 else g ρ S1
  | _ => .bad
def dNot (f : Ef) : Ef := fun ρ S => (f ρ S).bind fun d S1 => match d with
  | .p (.bl b) => .ok (.p (.bl (!b))) S1
  | _ => .bad
section
variable {X : Cx} {G : Gx} {W : WX} {f g : Ef} {c d : Tf} {a b e : Expr} {pos : Pos}
theorem wkT {t t' : TT} (h : PT X e t) (k : ∀ σ H Q, t' σ H Q → t σ H Q) : PT X e t' :=
  ⟨fun pins s σ H Q I q => h.run pins s σ H Q I (k σ H Q q)⟩
theorem wkW {t t' : TT} (h : PW X e t) (k : ∀ σ H Q, t' σ H Q → t σ H Q) : PW X e t' :=
  ⟨fun wh pins s σ H Q I q => h.run wh pins s σ H Q I (k σ H Q q)⟩
theorem wkA {es : List Expr} {t t' : TA} (h : PA X es t) (k : ∀ σ H Q, t' σ H Q → t σ H Q) : PA X es t' :=
  ⟨fun pos pins s σ H Q I q => h.run pos pins s σ H Q I (k σ H Q q)⟩
theorem de_name (i : Nat) {x : Str} (hN : X.N[i]? = some x := by rfl) (hv : Vis X.env.scope x := by first | exact Or.inl rfl | exact Or.inr (Or.inl rfl) | exact Or.inr (Or.inr rfl)) (hd : (x == ("__debug__" : Str)) = false := by decide)
    (hcd : (x == ("__classdict__" : Str)) = false := by decide) : PE X (.Name x pos) (tD G W (dName i)) := by
  refine wkE (pe_var hN hv hd hcd) fun σ H Q ⟨ρ, B, φ, S, w, en, h⟩ => ?_
  unfold dName at h
  split at h
  · rename_i dv q
    obtain ⟨v, h1, h2⟩ := en.at_ i dv q
    exact ⟨v, h1, h H B φ Xt.refl w v h2⟩
  · exact h.elim
theorem de_const {dd : D} {v : V} (h : PE X e (tC v)) (k : ∀ B, Rep G B dd v) (u : ∀ B z, Rep G B dd z → z = v) : PE X e (tD G W (dC dd)) :=
  wkE h fun σ H Q ⟨ρ, B, φ, S, w, en, h⟩ => h H B φ Xt.refl w v (k B)
theorem de_int {i : Int} {j} : PE X (.Constant (.int i) j pos) (tD G W (dC (.int i))) := de_const pe_int (fun B => by rw [Rep]) fun B z h => by rw [Rep] at h; exact h
theorem de_bl {i : Bool} {j} : PE X (.Constant (.bool i) j pos) (tD G W (dC (.bl i))) := de_const pe_bl (fun B => by rw [Rep]) fun B z h => by rw [Rep] at h; exact h
theorem de_str {x : Str} {j} : PE X (.Constant (.str x) j pos) (tD G W (dC (.str x))) := de_const pe_str (fun B => by rw [Rep]) fun B z h => by rw [Rep] at h; exact h
theorem de_non {j} : PE X (.Constant .none j pos) (tD G W (dC .non)) := de_const pe_non (fun B => by rw [Rep]) fun B z h => by rw [Rep] at h; exact h
/-- how a reading of two is opened -/
theorem two_t {r : R2} {op : Op2} (h : Ok2 G W r op) (σ : L2.St) (H : Hp) (Q : VK) (q : tD G W (dBin op f g) σ H Q) : tOp r (tD G W f) (tD G W g) σ H Q := by
  obtain ⟨ρ, B, φ, S, w, en, q⟩ := q
  refine tD.run w en (WP.fst q) fun x v H1 B1 φ1 S1 x1 w1 en1 r1 q1 => ?_
  refine tD.run w1 en1 (WP.fst q1) fun y u H2 B2 φ2 S2 x2 w2 en2 r2 q2 => ?_
  exact h H2 B2 φ2 S2 σ x y v u Q w2 (RepV.mono x2.b x2.p x r1) r2 q2
theorem de_bin {o : Operator} {r : R2} {op : Op2} (ho : OpR X (binaryOp o) r) (h : Ok2 G W r op) (ha : PE X a (tD G W f)) (hb : PE X b (tD G W g)) : PE X (.BinOp a o b pos) (tD G W (dBin op f g)) :=
  wkE (pe_op ho ha hb) (two_t h)
theorem de_cmp {o : CmpOp} {r : R2} {op : Op2} (ho : OpR X (compareOp o) r) (h : Ok2 G W r op) (ha : PE X a (tD G W f)) (hb : PE X b (tD G W g)) (hm : behindInMarks o b = false) : PE X (.Compare a [o] [b] pos) (tD G W (dBin op f g)) :=
  wkE (pe_cmpR ho ha hb hm) (two_t h)
theorem de_ix {r : R2} {op : Op2} (hr : IxR X r) (h : Ok2 G W r op) (ha : PE X a (tD G W f)) (hb : PE X b (tD G W g)) (hs : PlainIx b) : PE X (.Subscript a b pos) (tD G W (dBin op f g)) :=
  wkE (pe_ix hr ha hb hs) (two_t h)
theorem de_un {o : UnaryOp} {r : V → Hp → VK → Prop} {op : Op1} (ho : UnR X (unaryOp o) r) (h : Ok1 G W r op) (ha : PE X a (tD G W f)) : PE X (.UnaryOp o a pos) (tD G W (dUn op f)) := by
  refine wkE (pe_un ho ha) fun σ H Q ⟨ρ, B, φ, S, w, en, q⟩ => ?_
  refine tD.run w en (WP.fst q) fun x v H1 B1 φ1 S1 x1 w1 en1 r1 q1 => ?_
  exact h H1 B1 φ1 S1 σ x v Q w1 r1 q1
/-- a chain a < b < c -/
def dChain (op op' : Op2) (f g k : Ef) : Ef := fun ρ S => (f ρ S).bind fun x S1 => (g ρ S1).bind fun y S2 => (op x y S2).bind fun z S3 => match z with
  | .p (.bl t) => if t = true then (k ρ S3).bind fun u S4 => op' y u S4 else .ok (.p (.bl false)) S3
  | _ => .bad
/-! tests -/
theorem dt_val (h : PE X e (tD G W f)) (he : ∀ whole, isTrue e X.env whole = (do let v ← whole; standAt e.pos; holding [v] (truthy v)) := by intro _; rfl) : PT X e (tT G W (cVal f)) := by
  refine wkT (pt_val h he) fun σ H Q ⟨ρ, B, φ, S, w, en, q⟩ => ?_
  refine tD.run w en (WP.fst q) fun x v H1 B1 φ1 S1 x1 w1 en1 r1 q1 => ?_
  split at q1
  · rw [rep_bl] at r1
    exact ⟨_, r1, q1 H1 B1 φ1 Xt.refl w1⟩
  · exact q1.elim
theorem dt_cmp {o : CmpOp} {r : R2} {op : Op2} (ho : OpR X (compareOp o) r) (h : Ok2 G W r op) (ha : PE X a (tD G W f)) (hb : PE X b (tD G W g)) (hm : behindInMarks o b = false) : PT X (.Compare a [o] [b] pos) (tT G W (cVal (dBin op f g))) := by
  refine wkT (pt_cmpR ho ha hb hm) fun σ H Q ⟨ρ, B, φ, S, w, en, q⟩ => ?_
  refine two_t h σ H _ ⟨ρ, B, φ, S, w, en, ?_⟩
  refine (WP.fst q).mono fun x H1 B1 φ1 S1 x1 w1 q1 v r1 => ?_
  split at q1
  · rw [rep_bl] at r1
    exact ⟨_, r1, q1 H1 B1 φ1 Xt.refl w1⟩
  · exact q1.elim
theorem tT.run {σ : L2.St} {H : Hp} {Q : Bool → Hp → Prop} {ρ : Nv} {B : Hp} {φ : List Addr} {S : Sto} {post : Bool → Hp → Hp → List Addr → Sto → Prop} (w : Wd G H B φ S) (en : EnvR G B φ σ ρ) (h : WP G W σ H B φ (c ρ S) post)
    (k : ∀ t H' B' φ' S', Xt H B φ H' B' φ' → Wd G H' B' φ' S' → EnvR G B' φ' σ ρ → post t H' B' φ' S' → Q t H') : tT G W c σ H Q :=
  ⟨ρ, B, φ, S, w, en, h.mono fun t H' B' φ' S' x w' q => k t H' B' φ' S' x w' (en.mono x.b x.p) q⟩
theorem dt_not (ha : PT X a (tT G W c)) : PT X (.UnaryOp .Not a pos) (tT G W (cNot c)) := by
  refine wkT (pt_not ha) fun σ H Q ⟨ρ, B, φ, S, w, en, q⟩ => ?_
  exact tT.run w en (WP.fst q) fun t H1 B1 φ1 S1 x1 w1 en1 q1 => q1 H1 B1 φ1 Xt.refl w1
theorem dw_and1 (ha : PT X a (tT G W c)) : PW X (.BoolOp .And [a] pos) (tT G W c) := pw_and1 ha
theorem dw_or1 (ha : PT X a (tT G W c)) : PW X (.BoolOp .Or [a] pos) (tT G W c) := pw_or1 ha
theorem dw_and {rest : List Expr} (ha : PT X a (tT G W c)) (hb : PW X (.BoolOp .And (b :: rest) pos) (tT G W d)) : PW X (.BoolOp .And (a :: b :: rest) pos) (tT G W (cAnd c d)) := by
  refine wkW (pw_and ha hb) fun σ H Q ⟨ρ, B, φ, S, w, en, q⟩ => ?_
  refine tT.run w en (WP.fst q) fun t H1 B1 φ1 S1 x1 w1 en1 q1 => ?_
  cases t with
  | true => rw [if_pos rfl] at q1 ⊢; exact ⟨ρ, B1, φ1, S1, w1, en1, q1⟩
  | false => rw [if_neg Bool.false_ne_true] at q1 ⊢; exact q1 H1 B1 φ1 Xt.refl w1
theorem dw_or {rest : List Expr} (ha : PT X a (tT G W c)) (hb : PW X (.BoolOp .Or (b :: rest) pos) (tT G W d)) : PW X (.BoolOp .Or (a :: b :: rest) pos) (tT G W (cOr c d)) := by
  refine wkW (pw_or ha hb) fun σ H Q ⟨ρ, B, φ, S, w, en, q⟩ => ?_
  refine tT.run w en (WP.fst q) fun t H1 B1 φ1 S1 x1 w1 en1 q1 => ?_
  cases t with
  | true => rw [if_pos rfl] at q1 ⊢; exact q1 H1 B1 φ1 Xt.refl w1
  | false => rw [if_neg Bool.false_ne_true] at q1 ⊢; exact ⟨ρ, B1, φ1, S1, w1, en1, q1⟩
theorem de_if {cc : Expr} (hc : PT X cc (tT G W c)) (ha : PE X a (tD G W f)) (hb : PE X b (tD G W g)) : PE X (.IfExp cc a b pos) (tD G W (dIf c f g)) := by
  refine wkE (pe_ifExp hc ha hb) fun σ H Q ⟨ρ, B, φ, S, w, en, q⟩ => ?_
  refine tT.run w en (WP.fst q) fun t H1 B1 φ1 S1 x1 w1 en1 q1 => ?_
  cases t with
  | true => rw [if_pos rfl] at q1 ⊢; exact ⟨ρ, B1, φ1, S1, w1, en1, q1⟩
  | false => rw [if_neg Bool.false_ne_true] at q1 ⊢; exact ⟨ρ, B1, φ1, S1, w1, en1, q1⟩
theorem de_one {op} (h : PE X a (tD G W f)) : PE X (.BoolOp op [a] pos) (tD G W f) := pe_one h
theorem de_and {rest : List Expr} (ha : PE X a (tD G W f)) (hb : PE X (.BoolOp .And (b :: rest) pos) (tD G W g)) : PE X (.BoolOp .And (a :: b :: rest) pos) (tD G W (dAnd f g)) := by
  refine wkE (pe_and ha hb) fun σ H Q ⟨ρ, B, φ, S, w, en, q⟩ => ?_
  refine tD.run w en (WP.fst q) fun x v H1 B1 φ1 S1 x1 w1 en1 r1 q1 => ?_
  split at q1
  · rename_i t
    rw [rep_bl] at r1
    refine ⟨t, r1, ?_⟩
    cases t with
    | true => rw [if_pos rfl] at q1 ⊢; exact ⟨ρ, B1, φ1, S1, w1, en1, q1⟩
    | false => rw [if_neg Bool.false_ne_true] at q1 ⊢; exact q1 H1 B1 φ1 Xt.refl w1 _ (rep_bl.mpr rfl)
  · exact q1.elim
theorem de_or {rest : List Expr} (ha : PE X a (tD G W f)) (hb : PE X (.BoolOp .Or (b :: rest) pos) (tD G W g)) : PE X (.BoolOp .Or (a :: b :: rest) pos) (tD G W (dOr f g)) := by
  refine wkE (pe_or ha hb) fun σ H Q ⟨ρ, B, φ, S, w, en, q⟩ => ?_
  refine tD.run w en (WP.fst q) fun x v H1 B1 φ1 S1 x1 w1 en1 r1 q1 => ?_
  split at q1
  · rename_i t
    rw [rep_bl] at r1
    refine ⟨t, r1, ?_⟩
    cases t with
    | true => rw [if_pos rfl] at q1 ⊢; exact q1 H1 B1 φ1 Xt.refl w1 _ (rep_bl.mpr rfl)
    | false => rw [if_neg Bool.false_ne_true] at q1 ⊢; exact ⟨ρ, B1, φ1, S1, w1, en1, q1⟩
  · exact q1.elim
theorem de_not (ha : PE X a (tD G W f)) : PE X (.UnaryOp .Not a pos) (tD G W (dNot f)) := by
  refine wkE (pe_not ha) fun σ H Q ⟨ρ, B, φ, S, w, en, q⟩ => ?_
  refine tD.run w en (WP.fst q) fun x v H1 B1 φ1 S1 x1 w1 en1 r1 q1 => ?_
  split at q1
  · rename_i t
    rw [rep_bl] at r1
    exact ⟨t, r1, q1 H1 B1 φ1 Xt.refl w1 _ (rep_bl.mpr rfl)⟩
  · exact q1.elim
theorem de_chain {o o' : CmpOp} {r r' : R2} {op op' : Op2} {kk : Ef} {c3 : Expr} (hq : PE X (.Compare a [o, o'] [b, c3] pos) (tChain r r' (tD G W f) (tD G W g) (tD G W kk))) (h : Ok2 G W r op) (h' : Ok2 G W r' op') :
    PE X (.Compare a [o, o'] [b, c3] pos) (tD G W (dChain op op' f g kk)) := by
  refine wkE hq fun σ H Q ⟨ρ, B, φ, S, w, en, q⟩ => ?_
  refine tD.run w en (WP.fst q) fun x v H1 B1 φ1 S1 x1 w1 en1 r1 q1 => ?_
  refine tD.run w1 en1 (WP.fst q1) fun y u H2 B2 φ2 S2 x2 w2 en2 r2 q2 => ?_
  refine h H2 B2 φ2 S2 σ x y v u _ w2 (RepV.mono x2.b x2.p x r1) r2 ((WP.fst q2).mono fun z H3 B3 φ3 S3 x3 w3 q3 v3 r3 => ?_)
  split at q3
  · rename_i t
    rw [rep_bl] at r3
    refine ⟨t, r3, ?_⟩
    cases t with
    | true =>
      rw [if_pos rfl] at q3
      refine tD.run w3 (en2.mono x3.b x3.p) (WP.fst q3) fun u4 v4 H4 B4 φ4 S4 x4 w4 en4 r4 q4 => ?_
      exact h' H4 B4 φ4 S4 σ y u4 u v4 Q w4 (RepV.mono x4.b x4.p y (RepV.mono x3.b x3.p y r2)) r4 q4
    | false =>
      rw [if_neg Bool.false_ne_true] at q3
      exact q3 H3 B3 φ3 Xt.refl w3 _ (rep_bl.mpr rfl)
  · exact q3.elim
/-! arguments -/
variable {af : Af} {es : List Expr}
theorem da_nil : PA X [] (tA G W aNil) := wkA pa_nil fun σ H Q ⟨ρ, B, φ, S, w, en, q⟩ => q H B φ Xt.refl w [] rfl
theorem tA.run {σ : L2.St} {H : Hp} {Q : List V → Hp → Prop} {ρ : Nv} {B : Hp} {φ : List Addr} {S : Sto} {post : List Dv → Hp → Hp → List Addr → Sto → Prop} (w : Wd G H B φ S) (en : EnvR G B φ σ ρ) (h : WP G W σ H B φ (af ρ S) post)
    (k : ∀ ds vs H' B' φ' S', Xt H B φ H' B' φ' → Wd G H' B' φ' S' → EnvR G B' φ' σ ρ → RepVs G B' φ' ds vs → post ds H' B' φ' S' → Q vs H') : tA G W af σ H Q :=
  ⟨ρ, B, φ, S, w, en, h.mono fun ds H' B' φ' S' x w' q vs r => k ds vs H' B' φ' S' x w' (en.mono x.b x.p) r q⟩
theorem da_cons (ha : PE X e (tD G W f)) (hr : PA X es (tA G W af)) (hs : starEach (e :: es) X.env = (false, eval e X.env) :: starEach es X.env := by rfl) : PA X (e :: es) (tA G W (aCons f af)) := by
  refine wkA (pa_cons ha hr hs) fun σ H Q ⟨ρ, B, φ, S, w, en, q⟩ => ?_
  refine tD.run w en (WP.fst q) fun x v H1 B1 φ1 S1 x1 w1 en1 r1 q1 => ?_
  refine tA.run w1 en1 (WP.fst q1) fun ds vs H2 B2 φ2 S2 x2 w2 en2 r2 q2 => ?_
  exact q2 H2 B2 φ2 Xt.refl w2 _ ⟨v, vs, rfl, RepV.mono x2.b x2.p x r1, r2⟩
/-! displays -/
def allP : List Dv → Option (List D)
  | [] => some []
  | .p d :: r => (allP r).map (d :: ·)
  | .hnd _ :: _ => none
theorem allP_rep {B : Hp} {φ : List Addr} : ∀ {ds : List Dv} {vs : List V} {es : List D}, allP ds = some es → RepVs G B φ ds vs → Reps G B es vs
  | [], _, _, h, r => by
    simp [allP] at h; subst h; rw [show _ = [] from r]; exact Reps.nil
  | .p d :: r, _, _, h, ⟨x, t, e1, h1, h2⟩ => by
    simp only [allP, Option.map_eq_some_iff] at h
    obtain ⟨es, q1, rfl⟩ := h
    subst e1
    exact Reps.cons h1 (allP_rep q1 h2)
  | .hnd _ :: _, _, _, h, _ => by simp [allP] at h
def big : Nat := 16777216
def dTup (a : Af) : Ef := fun ρ S => (a ρ S).bind fun xs S1 => match allP xs with
  | some ds => if ds.length ≤ big then .ok (.p (.tup ds)) S1 else .bad
  | none => .bad
def dLst (a : Af) : Ef := fun ρ S => (a ρ S).bind fun xs S1 => match allP xs with
  | some ds => if ds.length ≤ big then .ok (.p (.lst ds)) S1 else .bad
  | none => .bad
theorem big_eq : big = sizeLine := by rw [sizeLine_eq]; rfl
theorem de_tup {x1} (h : PA X es (tA G W af)) : PE X (.Tuple es x1 pos) (tD G W (dTup af)) := by
  refine wkE (pe_tup h) fun σ H Q ⟨ρ, B, φ, S, w, en, q⟩ => ?_
  refine tA.run w en (WP.fst q) fun xs vs H1 B1 φ1 S1 x1 w1 en1 r1 q1 => ?_
  split at q1
  · rename_i ds hd
    have r2 := allP_rep hd r1
    split at q1
    · rename_i hl
      refine ⟨by rw [← r2.length, ← big_eq]; exact hl, fun p hp => q1 _ _ _ (Xt.alloc w1 hp) (w1.alloc hp) _ ?_⟩
      exact rep_tup.mpr ⟨p, vs, rfl, SqT.of upd_same, Reps.mono (same_upd' (w1.bfree hp)) _ r2⟩
    · exact q1.elim
  · exact q1.elim
theorem de_lst (h : PA X es (tA G W af)) : PE X (.List es pos) (tD G W (dLst af)) := by
  refine wkE (pe_lst h) fun σ H Q ⟨ρ, B, φ, S, w, en, q⟩ => ?_
  refine tA.run w en (WP.fst q) fun xs vs H1 B1 φ1 S1 x1 w1 en1 r1 q1 => ?_
  split at q1
  · rename_i ds hd
    have r2 := allP_rep hd r1
    split at q1
    · rename_i hl
      refine ⟨by rw [← r2.length, ← big_eq]; exact hl, fun p hp => q1 _ _ _ (Xt.alloc w1 hp) (w1.alloc hp) _ ?_⟩
      exact rep_lst.mpr ⟨p, vs, rfl, upd_same, Reps.mono (same_upd' (w1.bfree hp)) _ r2⟩
    · exact q1.elim
  · exact q1.elim
/-- a list that will be changed: a cell -/
def dLstC (a : Af) : Ef := fun ρ S => (a ρ S).bind fun xs S1 => match allP xs with
  | some ds => if ds.length ≤ big then .ok (.hnd S1.length) (S1 ++ [.lst ds]) else .bad
  | none => .bad
def dLstR (a : Af) : Ef := fun ρ S => (a ρ S).bind fun xs S1 => if xs.length ≤ big then .ok (.hnd S1.length) (S1 ++ [.rcd xs]) else .bad
theorem cell_new {H B : Hp} {φ : List Addr} {S : Sto} {p : Addr} {o : HO} {c : Cell} (w : Wd G H B φ S) (hp : H p = none) (hc : CellR G (upd H p o) B (φ ++ [p]) p c) (hs : c.second = none := by rfl) :
    Wd G (upd H p o) B (φ ++ [p]) (S ++ [c]) ∧ Xt H B φ (upd H p o) B (φ ++ [p]) ∧ RepV G B (φ ++ [p]) (.hnd S.length) (.ref p) := by
  have hf := w.fresh hp
  refine ⟨(w.hide hp).cellOf upd_same (w.bfree hp) hf hc hs, ⟨Same.refl _, List.prefix_append _ _, fun a u h1 h2 h3 => ?_⟩, ⟨p, ?_, rfl⟩⟩
  · have na : a ≠ p := ne_of_none h1 hp
    exact ⟨by rw [upd_ne na]; exact h1, h2, fun z => (List.mem_append.mp z).elim h3 fun z => na (by simpa using z)⟩
  · rw [← w.len, List.getElem?_append_right (Nat.le_refl _), Nat.sub_self]; rfl
theorem de_lstC (h : PA X es (tA G W af)) : PE X (.List es pos) (tD G W (dLstC af)) := by
  refine wkE (pe_lst h) fun σ H Q ⟨ρ, B, φ, S, w, en, q⟩ => ?_
  refine tA.run w en (WP.fst q) fun xs vs H1 B1 φ1 S1 x1 w1 en1 r1 q1 => ?_
  split at q1
  · rename_i ds hd
    have r2 := allP_rep hd r1
    split at q1
    · rename_i hl
      refine ⟨by rw [← r2.length, ← big_eq]; exact hl, fun p hp => ?_⟩
      obtain ⟨w2, x2, rr⟩ := cell_new (c := .lst ds) (o := .lst vs) w1 hp ⟨w1.bfree hp, vs, upd_same, r2⟩
      exact q1 _ _ _ x2 w2 _ rr
    · exact q1.elim
  · exact q1.elim
theorem de_lstR (h : PA X es (tA G W af)) : PE X (.List es pos) (tD G W (dLstR af)) := by
  refine wkE (pe_lst h) fun σ H Q ⟨ρ, B, φ, S, w, en, q⟩ => ?_
  refine tA.run w en (WP.fst q) fun xs vs H1 B1 φ1 S1 x1 w1 en1 r1 q1 => ?_
  split at q1
  · rename_i hl
    refine ⟨by rw [← r1.length, ← big_eq]; exact hl, fun p hp => ?_⟩
    obtain ⟨w2, x2, rr⟩ := cell_new (c := .rcd xs) (o := .lst vs) w1 hp ⟨w1.bfree hp, vs, upd_same, RepVs.mono (Same.refl _) (List.prefix_append _ _) _ r1⟩
    exact q1 _ _ _ x2 w2 _ rr
  · exact q1.elim
end
end DL

namespace DL
open PySem L2
open PySem.Spec PyProof.Rows
/-! ### operators on data -/
def vw (S : Sto) : Dv → Option (List D)
  | .p (.lst ds) => some ds
  | .hnd n => match S[n]? with
    | some (.lst ds) => some ds
    | _ => none
  | _ => none
section
variable {X : Cx} {G : Gx} {W : WX}
variable {H B : Hp} {φ : List Addr} {S : Sto} {x : Dv} {v : V}
theorem vw_at {ds : List D} (w : Wd G H B φ S) (r : RepV G B φ x v) (h : vw S x = some ds) : ∃ a xs, v = .ref a ∧ H a = some (.lst xs) ∧ Reps G B ds xs := by
  unfold vw at h
  split at h
  · cases h
    obtain ⟨a, xs, e, h1, h2⟩ := rep_lst.mp r
    exact ⟨a, xs, e, w.sub _ _ h1, h2⟩
  · rename_i n
    split at h
    · rename_i ds' hs
      cases h
      obtain ⟨a, h1, h2⟩ := r
      obtain ⟨_, xs, h3, h4⟩ := w.cell n a _ h1 hs
      exact ⟨a, xs, h2, h3, h4⟩
    · cases h
  · cases h
def oAdd : Op2 := fun x y S => match x, y with
  | .p (.int i), .p (.int j) => .ok (.p (.int (i + j))) S
  | .p (.str x), .p (.str y) => if x.length + y.length ≤ big then .ok (.p (.str (x ++ y))) S else .bad
  | .p (.tup a), .p (.tup b) => if a.isEmpty = false ∧ b.isEmpty = false ∧ a.length + b.length ≤ big then .ok (.p (.tup (a ++ b))) S else .bad
  | x, y => match vw S x, vw S y with
    | some a, some b => if a.length + b.length ≤ big then .ok (.p (.lst (a ++ b))) S else .bad
    | _, _ => .bad
abbrev rStr : R2 := fun x y H Q => ∃ i j, x = .str i ∧ y = .str j ∧ i.length + j.length ≤ sizeLine ∧ Q (.str (i ++ j)) H
abbrev rAddD (K : PySem.W.Frag) : R2 := fun x y H Q => rI0 (fun i j => .int (i + j)) x y H Q ∨ rStr x y H Q ∨ rCat x y H Q ∨ rCatT K x y H Q
theorem oAdd_op : OpR X (binaryOp .Add) (rAddD X.K) := op_add.or (op_add_str.or (op_cat.or op_catT))
theorem oAdd_ok : Ok2 G W (rAddD G.K) oAdd := by
  intro H B φ S σ x y v u Q w r1 r2 h
  unfold oAdd at h
  split at h
  · rw [rep_int] at r1 r2
    exact .inl ⟨_, _, r1, r2, h H B φ Xt.refl w _ (rep_int.mpr rfl)⟩
  · rw [rep_str] at r1 r2
    split at h
    · rename_i hl
      exact .inr (.inl ⟨_, _, r1, r2, by rw [← big_eq]; exact hl, h H B φ Xt.refl w _ (rep_str.mpr rfl)⟩)
    · exact h.elim
  · split at h
    · rename_i a b hl
      obtain ⟨p, xs, rfl, s1, q1⟩ := rep_tup.mp r1
      obtain ⟨p', ys, rfl, s2, q2⟩ := rep_tup.mp r2
      have ne : ∀ {l : List D} {z : List V}, Reps G B l z → l.isEmpty = false → z ≠ [] := fun {l z} q e z0 => by
        have := q.length
        rw [z0] at this
        cases l with
        | nil => simp at e
        | cons _ _ => simp at this
      refine .inr (.inr (.inr ⟨p, p', xs, ys, rfl, rfl, sqT_mono w.sub s1, sqT_mono w.sub s2, ne q1 hl.1, by rw [← big_eq, ← q1.length, ← q2.length]; exact hl.2.2, fun z => absurd z (ne q2 hl.2.1), fun _ t ht => ?_⟩))
      exact h _ _ _ (Xt.alloc w ht) (w.alloc ht) _ (rep_tup.mpr ⟨t, _, rfl, SqT.of upd_same, Reps.mono (same_upd' (w.bfree ht)) _ (q1.append q2)⟩)
    · exact h.elim
  · split at h
    · rename_i a b e1 e2
      split at h
      · rename_i hl
        obtain ⟨p, xs, rfl, s1, q1⟩ := vw_at w r1 e1
        obtain ⟨p', ys, rfl, s2, q2⟩ := vw_at w r2 e2
        refine .inr (.inr (.inl ⟨p, p', xs, ys, rfl, rfl, s1, s2, by rw [← big_eq, ← q1.length, ← q2.length]; exact hl, fun t ht => ?_⟩))
        exact h _ _ _ (Xt.alloc w ht) (w.alloc ht) _ (rep_lst.mpr ⟨t, _, rfl, upd_same, Reps.mono (same_upd' (w.bfree ht)) _ (q1.append q2)⟩)
      · exact h.elim
    · exact h.elim
/-- an operator of two ints -/
def oInt (C : Int → Int → Bool) (g : Int → Int → D) : Op2 := fun x y S => match x, y with
  | .p (.int i), .p (.int j) => if C i j = true then .ok (.p (g i j)) S else .bad
  | _, _ => .bad
theorem oInt_ok {C : Int → Int → Bool} {g : Int → Int → D} {C' : Int → Int → Prop} {g' : Int → Int → V} (hC : ∀ i j, C i j = true → C' i j) (hg : ∀ B i j, Rep G B (g i j) (g' i j)) : Ok2 G W (rI C' g') (oInt C g) := by
  intro H B φ S σ x y v u Q w r1 r2 h
  unfold oInt at h
  split at h
  · rw [rep_int] at r1 r2
    split at h
    · rename_i hc
      exact ⟨_, _, r1, r2, hC _ _ hc, h H B φ Xt.refl w _ (hg B _ _)⟩
    · exact h.elim
  · exact h.elim
theorem oInt0_ok {g : Int → Int → D} {g' : Int → Int → V} (hg : ∀ B i j, Rep G B (g i j) (g' i j)) : Ok2 G W (rI0 g') (oInt (fun _ _ => true) g) := by
  intro H B φ S σ x y v u Q w r1 r2 h
  unfold oInt at h
  split at h
  · rw [rep_int] at r1 r2
    rw [if_pos rfl] at h
    exact ⟨_, _, r1, r2, h H B φ Xt.refl w _ (hg B _ _)⟩
  · exact h.elim
theorem rpi {B : Hp} (i : Int) : Rep G B (.int i) (.int i) := by unfold Rep; rfl
theorem rpb {B : Hp} (b : Bool) : Rep G B (.bl b) (.bl b) := by unfold Rep; rfl
abbrev oSub : Op2 := oInt (fun _ _ => true) fun i j => .int (i - j)
abbrev oLt : Op2 := oInt (fun _ _ => true) fun i j => .bl (decide (i < j))
abbrev oLe : Op2 := oInt (fun _ _ => true) fun i j => .bl (decide (i ≤ j))
abbrev oGt : Op2 := oInt (fun _ _ => true) fun i j => .bl (decide (j < i))
abbrev oGe : Op2 := oInt (fun _ _ => true) fun i j => .bl (decide (j ≤ i))
theorem oSub_ok : Ok2 G W (rI0 fun i j => .int (i - j)) oSub := oInt0_ok fun _ _ _ => rpi _
theorem oLt_ok : Ok2 G W (rI0 fun i j => .bl (decide (i < j))) oLt := oInt0_ok fun _ _ _ => rpb _
theorem oLe_ok : Ok2 G W (rI0 fun i j => .bl (decide (i ≤ j))) oLe := oInt0_ok fun _ _ _ => rpb _
theorem oGt_ok : Ok2 G W (rI0 fun i j => .bl (decide (j < i))) oGt := oInt0_ok fun _ _ _ => rpb _
theorem oGe_ok : Ok2 G W (rI0 fun i j => .bl (decide (j ≤ i))) oGe := oInt0_ok fun _ _ _ => rpb _
def wid : Nat := 2 ^ 250
/-- // by a positive number -/
abbrev oDiv : Op2 := oInt (fun i j => decide (0 < j) && decide (j.natAbs < wid)) fun i j => .int (i / j)
abbrev oMod : Op2 := oInt (fun i j => decide (0 < j)) fun i j => .int (i % j)
abbrev oPow : Op2 := oInt (fun i j => decide (0 ≤ j) && decide (j ≤ 1000000) && decide (i.natAbs < 18446744073709551616)) fun i j => .int (i ^ j.toNat)
theorem oDiv_ok : Ok2 G W (rI CDivW fun i j => .int (i / j)) oDiv := oInt_ok (fun i j h => by
  rw [Bool.and_eq_true, decide_eq_true_eq, decide_eq_true_eq] at h
  exact wide_div (b := 250) h.1 h.2 (by decide) (by decide)) fun _ _ _ => rpi _
theorem oMod_ok : Ok2 G W (rI (fun _ j => 0 < j) fun i j => .int (i % j)) oMod := oInt_ok (fun i j h => of_decide_eq_true h) fun _ _ _ => rpi _
theorem oPow_ok : Ok2 G W (rI CPow fun i j => .int (i ^ j.toNat)) oPow := oInt_ok (fun i j h => by
  rw [Bool.and_eq_true, Bool.and_eq_true, decide_eq_true_eq, decide_eq_true_eq, decide_eq_true_eq] at h
  exact ⟨h.1.1, h.1.2, h.2⟩) fun _ _ _ => rpi _
def mulOk (i j : Int) : Bool := decide (i.natAbs < 18446744073709551616) || decide (j.natAbs < 18446744073709551616) || (decide (i.natAbs < wid) && decide (j.natAbs < wid))
def oMul : Op2 := fun x y S => match x, y with
  | .p (.int i), .p (.int j) => if mulOk i j = true then .ok (.p (.int (i * j))) S else .bad
  | x, .p (.int k) => match vw S x with
    | some ds => if -9223372036854775808 ≤ k ∧ k < 9223372036854775808 ∧ ds.length * k.toNat ≤ big then .ok (.p (.lst (List.replicate k.toNat ds).flatten)) S else .bad
    | none => .bad
  | _, _ => .bad
/-- .. a list that will be changed -/
def oMulC : Op2 := fun x y S => match x, y with
  | x, .p (.int k) => match vw S x with
    | some ds => if -9223372036854775808 ≤ k ∧ k < 9223372036854775808 ∧ ds.length * k.toNat ≤ big then .ok (.hnd S.length) (S ++ [.lst (List.replicate k.toNat ds).flatten]) else .bad
    | none => .bad
  | _, _ => .bad
abbrev rMulD : R2 := fun x y H Q => rI CMul (fun i j => .int (i * j)) x y H Q ∨ rI CMulW (fun i j => .int (i * j)) x y H Q ∨ rRep x y H Q
theorem oMul_op : OpR X (binaryOp .Mult) rMulD := op_mul.or (op_mulW.or op_rep)
theorem abs64 {i : Int} (h : i.natAbs < 18446744073709551616) : -(2 ^ 64) < i ∧ i < 2 ^ 64 := by omega
theorem oMul_ok : Ok2 G W rMulD oMul := by
  intro H B φ S σ x y v u Q w r1 r2 h
  unfold oMul at h
  split at h
  · rw [rep_int] at r1 r2
    split at h
    · rename_i i j hc
      have q := h H B φ Xt.refl w _ (rep_int.mpr rfl)
      unfold mulOk at hc
      rw [Bool.or_eq_true, Bool.or_eq_true, Bool.and_eq_true, decide_eq_true_eq, decide_eq_true_eq, decide_eq_true_eq, decide_eq_true_eq] at hc
      rcases hc with (hc | hc) | ⟨h1, h2⟩
      · exact .inl ⟨_, _, r1, r2, .inl (abs64 hc), q⟩
      · exact .inl ⟨_, _, r1, r2, .inr (abs64 hc), q⟩
      · exact .inr (.inl ⟨_, _, r1, r2, wide_mul (a := 250) (b := 250) h1 h2 (by decide) (by decide) (by decide), q⟩)
    · exact h.elim
  · split at h
    · rename_i k _ ds hd
      split at h
      · rename_i hl
        obtain ⟨p, xs, rfl, s1, q1⟩ := vw_at w r1 hd
        rw [rep_int] at r2
        refine .inr (.inr ⟨p, _, xs, rfl, r2, s1, hl.1, hl.2.1, by rw [← big_eq, ← q1.length]; exact hl.2.2, fun t ht => ?_⟩)
        exact h _ _ _ (Xt.alloc w ht) (w.alloc ht) _ (rep_lst.mpr ⟨t, _, rfl, upd_same, Reps.mono (same_upd' (w.bfree ht)) _ (q1.rep _)⟩)
      · exact h.elim
    · exact h.elim
  · exact h.elim
theorem oMulC_ok : Ok2 G W rMulD oMulC := by
  intro H B φ S σ x y v u Q w r1 r2 h
  unfold oMulC at h
  split at h
  · split at h
    · rename_i _ k _ ds hd
      split at h
      · rename_i hl
        obtain ⟨p, xs, rfl, s1, q1⟩ := vw_at w r1 hd
        rw [rep_int] at r2
        refine .inr (.inr ⟨p, _, xs, rfl, r2, s1, hl.1, hl.2.1, by rw [← big_eq, ← q1.length]; exact hl.2.2, fun t ht => ?_⟩)
        obtain ⟨w2, x2, rr⟩ := cell_new (c := .lst (List.replicate k.toNat ds).flatten) (o := .lst (List.replicate k.toNat xs).flatten) w ht ⟨w.bfree ht, _, upd_same, q1.rep _⟩
        exact h _ _ _ x2 w2 _ rr
      · exact h.elim
    · exact h.elim
  · exact h.elim
def uNeg : Op1 := fun x S => match x with
  | .p (.int i) => .ok (.p (.int (-i))) S
  | _ => .bad
theorem uNeg_ok : Ok1 G W (rU fun i => .int (-i)) uNeg := by
  intro H B φ S σ x v Q w r1 h
  unfold uNeg at h
  split at h
  · rw [rep_int] at r1
    exact ⟨_, r1, h H B φ Xt.refl w _ (rep_int.mpr rfl)⟩
  · exact h.elim
/-! == -/
mutual
def toPy : D → Option PyData
  | .non => some .none
  | .bl b => some (.bool b)
  | .int i => some (.int i)
  | .str x => some (.str x)
  | .tup ds => match toPys ds with
    | some es => some (.tuple es)
    | none => none
  | .lst ds => match toPys ds with
    | some es => some (.list es)
    | none => none
  | .rul _ => none
  | .scr _ => none
  | .dct _ => none
  | .dki _ => none
  | .dsi _ => none
def toPys : List D → Option (List PyData)
  | [] => some []
  | d :: ds => match toPy d, toPys ds with
    | some e, some es => some (e :: es)
    | _, _ => none
end
mutual
theorem toPy_dp {G : Gx} {H B : Hp} (w : Same B H) : ∀ (d : D) {v : V} {e : PyData}, Rep G B d v → toPy d = some e → Dp G.K H v e
  | .non, _, _, r, h => by simp [toPy] at h; subst h; unfold Rep at r; subst r; exact .non
  | .bl b, _, _, r, h => by simp [toPy] at h; subst h; unfold Rep at r; subst r; exact .bl b
  | .int b, _, _, r, h => by simp [toPy] at h; subst h; unfold Rep at r; subst r; exact .int b
  | .str b, _, _, r, h => by simp [toPy] at h; subst h; unfold Rep at r; subst r; exact .str b
  | .tup ds, _, _, r, h => by
    unfold toPy at h
    split at h
    · rename_i es he
      cases h
      unfold Rep at r
      obtain ⟨a, xs, rfl, h1, h2⟩ := r
      exact .tup (sqT_mono w h1) (toPys_dp w ds h2 he)
    · cases h
  | .lst ds, _, _, r, h => by
    unfold toPy at h
    split at h
    · rename_i es he
      cases h
      unfold Rep at r
      obtain ⟨a, xs, rfl, h1, h2⟩ := r
      exact .lst (SqL.of (w _ _ h1)) (toPys_dp w ds h2 he)
    · cases h
  | .rul _, _, _, _, h => by simp [toPy] at h
  | .scr _, _, _, _, h => by simp [toPy] at h
  | .dct _, _, _, _, h => by simp [toPy] at h
  | .dki _, _, _, _, h => by simp [toPy] at h
  | .dsi _, _, _, _, h => by simp [toPy] at h
theorem toPys_dp {G : Gx} {H B : Hp} (w : Same B H) : ∀ (ds : List D) {vs : List V} {es : List PyData}, Reps G B ds vs → toPys ds = some es → DpAll G.K H vs es
  | [], _, _, r, h => by simp [toPys] at h; subst h; unfold Reps at r; subst r; exact .nil
  | d :: ds, _, _, r, h => by
    unfold toPys at h
    split at h
    · rename_i e es he hes
      cases h
      unfold Reps at r
      obtain ⟨x, t, rfl, h1, h2⟩ := r
      exact .cons (toPy_dp w d h1 he) (toPys_dp w ds h2 hes)
    · cases h
end
def vPy (S : Sto) (x : Dv) : Option PyData := match x with
  | .p d => toPy d
  | .hnd n => match S[n]? with
    | some (.lst ds) => toPy (.lst ds)
    | _ => none
theorem vPy_dp {e : PyData} (w : Wd G H B φ S) (r : RepV G B φ x v) (h : vPy S x = some e) : Dp G.K H v e := by
  unfold vPy at h
  split at h
  · exact toPy_dp w.sub _ r h
  · rename_i n
    split at h
    · rename_i ds hs
      obtain ⟨a, h1, rfl⟩ := r
      obtain ⟨_, xs, h3, h4⟩ := w.cell n a _ h1 hs
      unfold toPy at h
      split at h
      · rename_i es he
        cases h
        exact .lst (SqL.of h3) (toPys_dp w.sub ds h4 he)
      · cases h
    · cases h
def oEq : Op2 := fun x y S => match vPy S x, vPy S y with
  | some a, some b => if SeqAt.shaped a = true ∧ SeqAt.shaped b = true then .ok (.p (.bl (PyData.eqv a b))) S else .bad
  | _, _ => .bad
def oNe : Op2 := fun x y S => match vPy S x, vPy S y with
  | some a, some b => if SeqAt.shaped a = true ∧ SeqAt.shaped b = true then .ok (.p (.bl (!PyData.eqv a b))) S else .bad
  | _, _ => .bad
theorem oEq_ok : Ok2 G W (rEqD G.K) oEq := by
  intro H B φ S σ x y v u Q w r1 r2 h
  unfold oEq at h
  split at h
  · rename_i a b ha hb
    split at h
    · rename_i hs
      exact ⟨a, b, vPy_dp w r1 ha, vPy_dp w r2 hb, hs.1, hs.2, h H B φ Xt.refl w _ (rep_bl.mpr rfl)⟩
    · exact h.elim
  · exact h.elim
theorem oNe_ok : Ok2 G W (rNeD G.K) oNe := by
  intro H B φ S σ x y v u Q w r1 r2 h
  unfold oNe at h
  split at h
  · rename_i a b ha hb
    split at h
    · rename_i hs
      exact ⟨a, b, vPy_dp w r1 ha, vPy_dp w r2 hb, hs.1, hs.2, h H B φ Xt.refl w _ (rep_bl.mpr rfl)⟩
    · exact h.elim
  · exact h.elim
/-! in, not in: flat items -/
def flD : D → Option V
  | .non => some .non
  | .bl b => some (.bl b)
  | .int i => some (.int i)
  | .str x => some (.str x)
  | _ => none
def flDs : List D → Option (List V)
  | [] => some []
  | d :: ds => match flD d, flDs ds with
    | some v, some vs => some (v :: vs)
    | _, _ => none
theorem flD_at {d : D} {v u : V} (r : Rep G B d v) (h : flD d = some u) : v = u ∧ flatV u = true := by
  cases d <;> simp [flD] at h <;> subst h <;> unfold Rep at r <;> exact ⟨r, rfl⟩
theorem flDs_at : ∀ {ds : List D} {vs us : List V}, Reps G B ds vs → flDs ds = some us → vs = us ∧ us.all flatV = true
  | [], _, _, r, h => by simp [flDs] at h; subst h; unfold Reps at r; subst r; exact ⟨rfl, rfl⟩
  | d :: ds, _, _, r, h => by
    unfold flDs at h
    split at h
    · rename_i a as ha has
      cases h
      unfold Reps at r
      obtain ⟨x, t, rfl, h1, h2⟩ := r
      obtain ⟨e1, f1⟩ := flD_at h1 ha
      obtain ⟨e2, f2⟩ := flDs_at h2 has
      subst e1 e2
      exact ⟨rfl, by rw [List.all_cons, f1, f2]; rfl⟩
    · cases h
def sqOf (S : Sto) : Dv → Option (List D)
  | .p (.tup ds) => some ds
  | x => vw S x
theorem sq_at {ds : List D} (w : Wd G H B φ S) (r : RepV G B φ x v) (h : sqOf S x = some ds) : ∃ a xs, v = .ref a ∧ (SqL G.K H a xs ∨ SqT G.K H a xs) ∧ Reps G B ds xs := by
  unfold sqOf at h
  split at h
  · cases h
    obtain ⟨a, xs, e, h1, h2⟩ := rep_tup.mp r
    exact ⟨a, xs, e, .inr (sqT_mono w.sub h1), h2⟩
  · obtain ⟨a, xs, e, h1, h2⟩ := vw_at w r h
    exact ⟨a, xs, e, .inl (SqL.of h1), h2⟩
def pOf : Dv → Option D
  | .p d => some d
  | .hnd _ => none
def oInS (neg : Bool) : Op2 := fun x y S => match x, sqOf S y with
  | .p d, some ds => match flD d, flDs ds with
    | some v, some vs => .ok (.p (.bl (if neg = true then !inV v vs else inV v vs))) S
    | _, _ => .bad
  | _, _ => .bad
theorem oInS_ok (neg : Bool) : Ok2 G W (rIn G.K neg) (oInS neg) := by
  intro H B φ S σ x y v u Q w r1 r2 h
  unfold oInS at h
  split at h
  · rename_i d ds hs
    split at h
    · rename_i a as ha has
      obtain ⟨p, xs, rfl, s1, q1⟩ := sq_at w r2 hs
      obtain ⟨e1, f1⟩ := flD_at r1 ha
      obtain ⟨e2, f2⟩ := flDs_at q1 has
      subst e1 e2
      exact ⟨p, _, rfl, s1, f1, f2, h H B φ Xt.refl w _ (rep_bl.mpr rfl)⟩
    · exact h.elim
  · exact h.elim
/-! is None -/
def isN : Dv → Bool
  | .p .non => true
  | _ => false
def oIsN : Op2 := fun x y S => match y with
  | .p .non => .ok (.p (.bl (isN x))) S
  | _ => .bad
def oNotN : Op2 := fun x y S => match y with
  | .p .non => .ok (.p (.bl (!isN x))) S
  | _ => .bad
theorem isN_at (r : RepV G B φ x v) : decide (v = .non) = isN x := by
  cases x with
  | hnd n => obtain ⟨a, _, rfl⟩ := r; rfl
  | p d =>
    cases d with
    | non => rw [rep_non] at r; subst r; rfl
    | bl b => rw [rep_bl] at r; subst r; rfl
    | int b => rw [rep_int] at r; subst r; rfl
    | str b => rw [rep_str] at r; subst r; rfl
    | tup ds => obtain ⟨a, xs, rfl, _⟩ := rep_tup.mp r; rfl
    | lst ds => obtain ⟨a, xs, rfl, _⟩ := rep_lst.mp r; rfl
    | rul ds => obtain ⟨a, xs, _, _, rfl, _⟩ := rep_rul.mp r; rfl
    | scr ds => obtain ⟨a, rfl, _⟩ := rep_scr.mp r; rfl
    | dct ds =>
      have r : Rep G B (.dct ds) v := r
      unfold Rep at r
      obtain ⟨a, rfl, _⟩ := r; rfl
    | dki ds =>
      have r : Rep G B (.dki ds) v := r
      unfold Rep at r
      obtain ⟨a, rfl, _⟩ := r; rfl
    | dsi ds =>
      have r : Rep G B (.dsi ds) v := r
      unfold Rep at r
      obtain ⟨a, rfl, _⟩ := r; rfl
theorem oIsN_ok : Ok2 G W (fun x y H Q => y = .non ∧ Q (.bl (decide (x = .non))) H) oIsN := by
  intro H B φ S σ x y v u Q w r1 r2 h
  unfold oIsN at h
  split at h
  · rw [rep_non] at r2
    exact ⟨r2, by rw [isN_at r1]; exact h H B φ Xt.refl w _ (rep_bl.mpr rfl)⟩
  · exact h.elim
theorem oNotN_ok : Ok2 G W (fun x y H Q => y = .non ∧ Q (.bl (!decide (x = .non))) H) oNotN := by
  intro H B φ S σ x y v u Q w r1 r2 h
  unfold oNotN at h
  split at h
  · rw [rep_non] at r2
    exact ⟨r2, by rw [isN_at r1]; exact h H B φ Xt.refl w _ (rep_bl.mpr rfl)⟩
  · exact h.elim
/-! items -/
theorem atI_rep {ds : List D} {vs : List V} {i : Int} {d : D} (r : Reps G B ds vs) (h : atI ds i = some d) : ∃ v, atI vs i = some v ∧ Rep G B d v := by
  unfold atI at h ⊢
  rw [← r.length]
  cases q : ixN ds.length i with
  | none => rw [q] at h; cases h
  | some j => rw [q] at h; exact r.get h
theorem atI_repV {ds : List Dv} {vs : List V} {i : Int} {d : Dv} (r : RepVs G B φ ds vs) (h : atI ds i = some d) : ∃ v, atI vs i = some v ∧ RepV G B φ d v := by
  unfold atI at h ⊢
  rw [← r.length]
  cases q : ixN ds.length i with
  | none => rw [q] at h; cases h
  | some j => rw [q] at h; exact r.get h
def oIx : Op2 := fun x y S => match y with
  | .p (.int i) => match sqOf S x with
    | some ds => match atI ds i with
      | some d => .ok (.p d) S
      | none => .bad
    | none => match x with
      | .hnd n => match S[n]? with
        | some (.rcd ds) => match atI ds i with
          | some d => .ok d S
          | none => .bad
        | _ => .bad
      | _ => .bad
  | _ => .bad
theorem oIx_op : IxR X (fun x y H Q => rIxL X.K x y H Q ∨ rIxT X.K x y H Q) := ix_list.or ix_tup
theorem oIx_ok : Ok2 G W (fun x y H Q => rIxL G.K x y H Q ∨ rIxT G.K x y H Q) oIx := by
  intro H B φ S σ x y v u Q w r1 r2 h
  unfold oIx at h
  split at h
  · rename_i i
    rw [rep_int] at r2
    subst r2
    split at h
    · rename_i ds hs
      split at h
      · rename_i d hd
        obtain ⟨p, xs, rfl, s1, q1⟩ := sq_at w r1 hs
        obtain ⟨z, hz, rz⟩ := atI_rep q1 hd
        rcases s1 with s1 | s1
        · exact .inl ⟨p, xs, i, z, rfl, rfl, s1, hz, h H B φ Xt.refl w _ rz⟩
        · exact .inr ⟨p, xs, i, z, rfl, rfl, s1, hz, h H B φ Xt.refl w _ rz⟩
      · exact h.elim
    · split at h
      · rename_i n
        split at h
        · rename_i ds hs
          split at h
          · rename_i d hd
            obtain ⟨a, h1, rfl⟩ := r1
            obtain ⟨_, xs, h3, h4⟩ := w.cell _ a _ h1 hs
            obtain ⟨z, hz, rz⟩ := atI_repV h4 hd
            exact .inl ⟨a, xs, i, z, rfl, rfl, SqL.of h3, hz, h H B φ Xt.refl w _ rz⟩
          · exact h.elim
        · exact h.elim
      · exact h.elim
  · exact h.elim
end
end DL

namespace DL
open PySem L2
open PySem.Spec PyProof.Rows
/-! ### statements -/
inductive Fl where
  | nx (ρ : Nv) | rt (d : Dv) | bk (ρ : Nv) | ct (ρ : Nv)
inductive OS where
  | ok (fl : Fl) (S : Sto) | exc (x : Ex) (ρ : Nv) (S : Sto) | bad
abbrev Sf := Nv → Sto → OS
def Out.toS {α : Type} (o : Out α) (ρ : Nv) (k : α → Sto → OS) : OS := match o with
  | .ok a S => k a S
  | .exc x S => .exc x ρ S
  | .bad => .bad
def FlR (G : Gx) (D : Ends) (H B : Hp) (φ : List Addr) : Fl → Prop
  | .nx ρ => ∀ σ, EnvR G B φ σ ρ → D.nx σ H
  | .rt d => ∀ v, RepV G B φ d v → D.rt v H
  | .bk ρ => ∀ σ, EnvR G B φ σ ρ → D.bk σ H
  | .ct ρ => ∀ σ, EnvR G B φ σ ρ → D.ct σ H
def WPS (G : Gx) (W : WX) (D : Ends) (H B : Hp) (φ : List Addr) (o : OS) : Prop := match o with
  | .ok fl S => ∀ H' B' φ', Xt H B φ H' B' φ' → Wd G H' B' φ' S → FlR G D H' B' φ' fl
  | .exc x ρ S => ∀ H' B' φ' c dd σ, Xt H B φ H' B' φ' → Wd G H' B' φ' S → XRep G B' x c dd → EnvR G B' φ' σ ρ → W c dd σ H'
  | .bad => False
def tS (G : Gx) (W : WX) (f : Sf) : TS := fun D σ H => ∃ ρ B φ S, Wd G H B φ S ∧ EnvR G B φ σ ρ ∧ WPS G W D H B φ (f ρ S)
section
variable {X : Cx} {G : Gx} {W : WX} {Z : Ends} {H B H1 B1 : Hp} {φ φ1 : List Addr} {S : Sto} {σ : L2.St} {ρ : Nv}
theorem WPS.rebase {o : OS} (x : Xt H B φ H1 B1 φ1) (h : WPS G W Z H B φ o) : WPS G W Z H1 B1 φ1 o := by
  cases o with
  | ok fl S => exact fun H' B' φ' y w => h H' B' φ' (x.trans y) w
  | exc e ρ S => exact fun H' B' φ' c dd σ y w r => h H' B' φ' c dd σ (x.trans y) w r
  | bad => exact h
theorem WPS.fst {α : Type} {o : Out α} {k : α → Sto → OS} (en : EnvR G B φ σ ρ) (h : WPS G W Z H B φ (o.toS ρ k)) :
    WP G W σ H B φ o fun a H' B' φ' S' => WPS G W Z H' B' φ' (k a S') := by
  cases o with
  | ok a S => exact fun H' B' φ' x w => WPS.rebase x h
  | exc x S => exact fun H' B' φ' c dd y w r => h H' B' φ' c dd σ y w r (en.mono y.b y.p)
  | bad => exact h
theorem WPS.here {fl : Fl} (w : Wd G H B φ S) (h : WPS G W Z H B φ (.ok fl S)) : FlR G Z H B φ fl := h H B φ Xt.refl w
theorem wkS {st : Stmt} {t t' : TS} (h : PS X st t) (k : ∀ D σ H, t' D σ H → t D σ H) : PS X st t' :=
  ⟨fun pins s σ H D I q => h.run pins s σ H D I (k D σ H q)⟩
theorem wkSs {st : List Stmt} {t t' : TS} (h : PSs X st t) (k : ∀ D σ H, t' D σ H → t D σ H) : PSs X st t' :=
  ⟨fun pins s σ H D I q => h.run pins s σ H D I (k D σ H q)⟩
theorem wkG {e : Expr} {t t' : TG} (h : PG X e t) (k : ∀ v σ H Q, t' v σ H Q → t v σ H Q) : PG X e t' :=
  ⟨fun pins s σ H v u Q I r q => h.run pins s σ H v u Q I r (k v σ H Q q)⟩
theorem wkGs {e : List Expr} {t t' : TGs} (h : PGs X e t) (k : ∀ v σ H Q, t' v σ H Q → t v σ H Q) : PGs X e t' :=
  ⟨fun pins s σ H v u Q I r q => h.run pins s σ H v u Q I r (k v σ H Q q)⟩
theorem wkI {tg e : Expr} {t t' : TI} (h : PI X tg e t) (k : ∀ σ H R, t' σ H R → t σ H R) : PI X tg e t' :=
  ⟨fun pins s σ H R I q => h.run pins s σ H R I (k σ H R q)⟩
def sNil : Sf := fun ρ S => .ok (.nx ρ) S
def sSeq (f g : Sf) : Sf := fun ρ S => match f ρ S with
  | .ok (.nx ρ') S' => g ρ' S'
  | .ok (.rt d) S' => .ok (.rt d) S'
  | .ok (.bk d) S' => .ok (.bk d) S'
  | .ok (.ct d) S' => .ok (.ct d) S'
  | .exc x ρ' S' => .exc x ρ' S'
  | .bad => .bad
def sExpr (f : Ef) : Sf := fun ρ S => (f ρ S).toS ρ fun _ S' => .ok (.nx ρ) S'
def sRet (f : Ef) : Sf := fun ρ S => (f ρ S).toS ρ fun d S' => .ok (.rt d) S'
def sRetN : Sf := fun _ S => .ok (.rt (.p .non)) S
def sIf (c : Tf) (f g : Sf) : Sf := fun ρ S => (c ρ S).toS ρ fun b S' => if b = true then f ρ S' else g ρ S'
variable {f g : Sf} {st : Stmt} {rest : List Stmt} {e : Expr} {ef : Ef} {c : Tf} {pos : Pos}
theorem ds_nil : PSs X [] (tS G W sNil) := wkSs pss_nil fun D σ H ⟨ρ, B, φ, S, w, en, h⟩ => h.here w σ en
theorem ds_cons (h1 : PS X st (tS G W f)) (h2 : PSs X rest (tS G W g)) : PSs X (st :: rest) (tS G W (sSeq f g)) := by
  refine wkSs (pss_cons h1 h2) fun D σ H ⟨ρ, B, φ, S, w, en, h⟩ => ⟨ρ, B, φ, S, w, en, ?_⟩
  unfold sSeq at h
  cases q : f ρ S with
  | bad => rw [q] at h; exact h
  | exc x ρ' S' => rw [q] at h; exact h
  | ok fl S' =>
    rw [q] at h
    cases fl with
    | nx ρ' => exact fun H' B' φ' x w' σ' en' => ⟨ρ', B', φ', S', w', en', WPS.rebase x h⟩
    | rt d => exact h
    | bk d => exact h
    | ct d => exact h
theorem ds_one (h1 : PS X st (tS G W f)) : PSs X [st] (tS G W f) := pss_one h1
theorem dp_pass : PS X (.Pass pos) (tS G W sNil) := wkS ps_pass fun D σ H ⟨ρ, B, φ, S, w, en, h⟩ => h.here w σ en
theorem dp_expr (he : PE X e (tD G W ef)) (hs : swapsWith e none pos.line X.env = pure false := by rfl) : PS X (.Expr e pos) (tS G W (sExpr ef)) :=
  wkS (ps_expr he hs) fun D σ H ⟨ρ, B, φ, S, w, en, h⟩ => tD.run w en (WPS.fst en h) fun d v H1 B1 φ1 S1 x1 w1 en1 r1 q1 => WPS.here w1 q1 σ en1
theorem dp_ret (he : PE X e (tD G W ef)) : PS X (.Return (some e) pos) (tS G W (sRet ef)) :=
  wkS (ps_ret he) fun D σ H ⟨ρ, B, φ, S, w, en, h⟩ => tD.run w en (WPS.fst en h) fun d v H1 B1 φ1 S1 x1 w1 en1 r1 q1 => WPS.here w1 q1 v r1
theorem dp_retN : PS X (.Return none pos) (tS G W sRetN) := wkS ps_retN fun D σ H ⟨ρ, B, φ, S, w, en, h⟩ => h.here w _ (rep_non.mpr rfl)
theorem dp_if {cc : Expr} {a b : List Stmt} (hc : PT X cc (tT G W c)) (ha : PSs X a (tS G W f)) (hb : PSs X b (tS G W g)) : PS X (.If cc a b pos) (tS G W (sIf c f g)) := by
  refine wkS (ps_if hc ha hb) fun D σ H ⟨ρ, B, φ, S, w, en, h⟩ => tT.run w en (WPS.fst en h) fun t H1 B1 φ1 S1 x1 w1 en1 q1 => ?_
  cases t with
  | true => rw [if_pos rfl] at q1 ⊢; exact ⟨ρ, B1, φ1, S1, w1, en1, q1⟩
  | false => rw [if_neg Bool.false_ne_true] at q1 ⊢; exact ⟨ρ, B1, φ1, S1, w1, en1, q1⟩
/-! targets -/
abbrev Tgt := Dv → Nv → Option Nv
abbrev Tgts := List D → Nv → Option Nv
def kept (ts : List Nat) (σ σ' : L2.St) : Prop := ∀ vs : List Nat, (∀ i ∈ ts, i ∈ vs) → wipe σ' vs = wipe σ vs
def tG (G : Gx) (ts : List Nat) (t : Tgt) : TG := fun v σ H Q => ∃ ρ B φ S d, Wd G H B φ S ∧ EnvR G B φ σ ρ ∧ RepV G B φ d v ∧ match t d ρ with
  | some ρ' => ∀ σ', EnvR G B φ σ' ρ' → kept ts σ σ' → Q σ' H
  | none => False
def tGs (G : Gx) (ts : List Nat) (t : Tgts) : TGs := fun vs σ H Q => ∃ ρ B φ S ds, Wd G H B φ S ∧ EnvR G B φ σ ρ ∧ Reps G B ds vs ∧ match t ds ρ with
  | some ρ' => ∀ σ', EnvR G B φ σ' ρ' → kept ts σ σ' → Q σ' H
  | none => False
def gN (i : Nat) : Tgt := fun d ρ => some (ρ.set i (some d))
def gsNil : Tgts := fun ds ρ => match ds with
  | [] => some ρ
  | _ :: _ => none
def gsCons (t : Tgt) (r : Tgts) : Tgts := fun ds ρ => match ds with
  | [] => none
  | d :: ds => match t (.p d) ρ with
    | some ρ1 => r ds ρ1
    | none => none
def gT (n : Nat) (t : Tgts) : Tgt := fun d ρ => match d with
  | .p (.tup ds) => if ds.length = n then t ds ρ else none
  | _ => none
theorem wipe_set {i : Nat} {o : Option V} : ∀ {vs : List Nat}, i ∈ vs → wipe (σ.set i o) vs = wipe σ vs
  | v :: vs, h => by
    unfold wipe
    by_cases e : i ∈ vs
    · rw [wipe_set e]
    · have : i = v := (List.mem_cons.mp h).resolve_right e
      subst this
      have aux : ∀ ws : List Nat, (wipe (σ.set i o) ws).set i none = (wipe σ ws).set i none := by
        intro ws
        induction ws with
        | nil => unfold wipe; rw [List.set_set]
        | cons z zs ih =>
          unfold wipe
          by_cases ez : z = i
          · subst ez; rw [ih]
          · rw [List.set_comm _ _ ez, ih, List.set_comm _ _ ez]
      exact aux vs
theorem kept.refl {ts : List Nat} : kept ts σ σ := fun _ _ => rfl
theorem dg_name {i : Nat} {x : Str} (hN : X.N.Nodup) (hi : X.N[i]? = some x) (hx : Loc X.env.scope x) (hf : X.fn x = true ∨ X.env.scope.names.lookup x = some .local := by first | exact .inl rfl | exact .inr rfl | assumption) :
    PG X (.Name x pos) (tG G [i] (gN i)) :=
  wkG (pg_name hN hi hx hf) fun v σ H Q ⟨ρ, B, φ, S, d, w, en, r, h⟩ => h _ (en.set i r) fun vs hv => wipe_set (hv i (by simp))
theorem dgs_nil : PGs X [] (tGs G [] gsNil) := by
  refine wkGs pgs_nil fun vs σ H Q ⟨ρ, B, φ, S, ds, w, en, r, h⟩ => ?_
  unfold gsNil at h
  cases ds with
  | nil => exact ⟨by unfold Reps at r; exact r, h σ en kept.refl⟩
  | cons _ _ => exact h.elim
theorem dgs_cons {es : List Expr} {ts us : List Nat} {t : Tgt} {r : Tgts} (h1 : PG X e (tG G ts t)) (h2 : PGs X es (tGs G us r)) (hs : (assignEach (e :: es) X.env).map (·.2) = assign e X.env :: (assignEach es X.env).map (·.2) := by rfl) :
    PGs X (e :: es) (tGs G (ts ++ us) (gsCons t r)) := by
  refine wkGs (pgs_cons h1 h2 hs) fun vs σ H Q ⟨ρ, B, φ, S, ds, w, en, rr, h⟩ => ?_
  cases ds with
  | nil => exact (show False from h).elim
  | cons d ds =>
    unfold Reps at rr
    obtain ⟨x, t', rfl, q1, q2⟩ := rr
    refine ⟨x, t', rfl, ρ, B, φ, S, .p d, w, en, q1, ?_⟩
    rw [show gsCons t r (d :: ds) ρ = (match t (.p d) ρ with | some ρ1 => r ds ρ1 | none => none) from rfl] at h
    cases q : t (.p d) ρ with
    | none => rw [q] at h; exact h.elim
    | some ρ1 =>
      rw [q] at h
      have h : (match r ds ρ1 with | some ρ' => ∀ σ', EnvR G B φ σ' ρ' → kept (ts ++ us) σ σ' → Q σ' H | none => False) := h
      refine fun σ' en' k' => ⟨ρ1, B, φ, S, ds, w, en', q2, ?_⟩
      cases q' : r ds ρ1 with
      | none => rw [q'] at h; exact h.elim
      | some ρ2 =>
        rw [q'] at h
        exact fun σ'' en'' k'' => h σ'' en'' fun ws hw => (k'' ws fun i hi => hw i (List.mem_append_right _ hi)).trans (k' ws fun i hi => hw i (List.mem_append_left _ hi))
theorem dg_tup {es : List Expr} {k n : Nat} {ts : List Nat} {t : Tgts} (hK : X.K = G.K) (hc : X.calm = true) (h : PGs X es (tGs G ts t)) (hn : (assignEach es X.env).length = n := by rfl) (hst : (assignEach es X.env).findIdx? (·.1) = none := by rfl) :
    PG X (.Tuple es k pos) (tG G ts (gT n t)) := by
  refine wkG (pg_tup hc h hn hst) fun v σ H Q ⟨ρ, B, φ, S, d, w, en, r, h⟩ => ?_
  unfold gT at h
  split at h
  · rename_i ρ' he
    split at he
    · split at he
      · rename_i ds hl
        obtain ⟨a, xs, rfl, s1, q1⟩ := rep_tup.mp r
        exact ⟨a, xs, rfl, hK ▸ sqT_mono w.sub s1, by rw [← q1.length]; exact hl, ρ, B, φ, S, ds, w, en, q1, by rw [he]; exact h⟩
      · cases he
    · cases he
  · exact h.elim
def sAsg (ef : Ef) (t : Tgt) : Sf := fun ρ S => (ef ρ S).toS ρ fun d S' => match t d ρ with
  | some ρ' => .ok (.nx ρ') S'
  | none => .bad
theorem dp_asg {tg : Expr} {ts : List Nat} {t : Tgt} (he : PE X e (tD G W ef)) (hg : PG X tg (tG G ts t)) (hs : swapsWithSole [tg] e pos.line X.env = pure false := by rfl) (hw : swappedStores [tg] e X.env = pure none := by rfl)
    (h1 : (assignEach [tg] X.env).map (·.2) = [assign tg X.env] := by rfl) : PS X (.Assign [tg] e pos) (tS G W (sAsg ef t)) := by
  refine wkS (ps_asg he hg hs hw h1) fun D σ H ⟨ρ, B, φ, S, w, en, h⟩ => tD.run w en (WPS.fst en h) fun d v H1 B1 φ1 S1 x1 w1 en1 r1 q1 => ?_
  refine ⟨ρ, B1, φ1, S1, d, w1, en1, r1, ?_⟩
  cases q : t d ρ with
  | none => rw [q] at q1; exact q1
  | some ρ' => rw [q] at q1; exact fun σ' en' _ => WPS.here w1 q1 σ' en'
/-- name = value -/
def sSet (i : Nat) (ef : Ef) : Sf := fun ρ S => (ef ρ S).toS ρ fun d S' => .ok (.nx (ρ.set i (some d))) S'
theorem dp_set {i : Nat} {x : Str} {pos' : Pos} (hN : X.N.Nodup) (hi : X.N[i]? = some x) (hx : Loc X.env.scope x) (he : PE X e (tD G W ef)) (hs : swapsWith e (some (.Name x pos')) pos.line X.env = pure false := by rfl)
    (hf : X.fn x = true ∨ X.env.scope.names.lookup x = some .local := by first | exact .inl rfl | exact .inr rfl | assumption) : PS X (.Assign [.Name x pos'] e pos) (tS G W (sSet i ef)) := by
  refine wkS (ps_set hN hi hx he hs hf) fun D σ H ⟨ρ, B, φ, S, w, en, h⟩ => tD.run w en (WPS.fst en h) fun d v H1 B1 φ1 S1 x1 w1 en1 r1 q1 => ?_
  exact WPS.here w1 q1 _ (en1.set i r1)
/-- a, b = x, y -/
def sPar (i j : Nat) (af : Af) : Sf := fun ρ S => (af ρ S).toS ρ fun ds S' => match ds with
  | [d, e] => .ok (.nx ((ρ.set i (some d)).set j (some e))) S'
  | _ => .bad
theorem dp_par {i j : Nat} {x y : Str} {a b : Expr} {af : Af} {px py pt : Pos} {kt k2 pt2} (hc : X.calm = true) (hN : X.N.Nodup) (hi : X.N[i]? = some x) (hj : X.N[j]? = some y) (hij : i ≠ j)
    (hx : X.env.scope.names.lookup x = some .local) (hy : X.env.scope.names.lookup y = some .local) (ha : PA X [a, b] (tA G W af))
    (hw : swappedStores [.Tuple [.Name x px, .Name y py] kt pt] (.Tuple [a, b] k2 pt2) X.env = pure (some [x, y]))
    (hs : swapsWithSole [.Tuple [.Name x px, .Name y py] kt pt] (.Tuple [a, b] k2 pt2) pos.line X.env = pure false := by rfl) :
    PS X (.Assign [.Tuple [.Name x px, .Name y py] kt pt] (.Tuple [a, b] k2 pt2) pos) (tS G W (sPar i j af)) := by
  refine wkS (ps_par hc hN hi hj hij hx hy ha hw hs) fun D σ H ⟨ρ, B, φ, S, w, en, h⟩ => tA.run w en (WPS.fst en h) fun ds vs H1 B1 φ1 S1 x1 w1 en1 r1 q1 => ?_
  match ds, r1, q1 with
  | [], _, q1 => exact q1.elim
  | [_], _, q1 => exact q1.elim
  | [d, e], ⟨v, t, e1, rv, u, t2, e2, ru, e3⟩, q1 =>
    subst e1
    subst e2
    rw [show t2 = [] from e3]
    exact ⟨v, u, rfl, WPS.here w1 q1 _ ((en1.set i rv).set j ru)⟩
  | _ :: _ :: _ :: _, _, q1 => exact q1.elim
/-! what is walked -/
def Yl (G : Gx) (J : It) (ds : List D) (B1 : Hp) : Prop := ∀ i H B φ S, Wd G H B φ S → Same B1 B →
  (i < ds.length → J.go i H ∧ ∀ x H', J.yld i H x H' → ∃ d B', ds[i]? = some d ∧ Xt H B φ H' B' φ ∧ Wd G H' B' φ S ∧ Rep G B' d x) ∧ (i = ds.length → J.stop i H)
abbrev If := Nv → Sto → Out (List D)
def tI (G : Gx) (W : WX) (f : If) : TI := fun σ H R => ∃ ρ B φ S, Wd G H B φ S ∧ EnvR G B φ σ ρ ∧ WP G W σ H B φ (f ρ S) fun ds H' B' _ _ => ∀ J, Yl G J ds B' → R J H'
theorem yl_list {a : Addr} {xs : List V} {ds : List D} (h : SqL G.K B a xs) (r : Reps G B ds xs) : Yl G (Itl G.K a) ds B := by
  intro i H B1 φ S w sb
  have hq : SqL G.K H a xs := w.sub.seq (sb.seq h)
  have hl := r.length
  refine ⟨fun hi => ?_, fun hi => ⟨xs, hq, by omega⟩⟩
  obtain ⟨v, hv, rv⟩ := r.get (List.getElem?_eq_getElem hi)
  refine ⟨⟨xs, v, hq, hv⟩, fun x H' ⟨e, y⟩ => ?_⟩
  subst e
  have ex : x = v := Option.some.inj ((y xs hq).symm.trans hv)
  subst ex
  exact ⟨_, B1, List.getElem?_eq_getElem hi, Xt.refl, w, Rep.mono sb _ rv⟩
theorem yl_tup {a : Addr} {xs : List V} {ds : List D} (h : SqT G.K B a xs) (r : Reps G B ds xs) : Yl G (Itt G.K a) ds B := by
  intro i H B1 φ S w sb
  have hq : SqT G.K H a xs := sqT_mono w.sub (sqT_mono sb h)
  have hl := r.length
  refine ⟨fun hi => ?_, fun hi => ⟨xs, hq, by omega⟩⟩
  obtain ⟨v, hv, rv⟩ := r.get (List.getElem?_eq_getElem hi)
  refine ⟨⟨xs, v, hq, hv⟩, fun x H' ⟨e, y⟩ => ?_⟩
  subst e
  have ex : x = v := Option.some.inj ((y xs hq).symm.trans hv)
  subst ex
  exact ⟨_, B1, List.getElem?_eq_getElem hi, Xt.refl, w, Rep.mono sb _ rv⟩
def rngD (lo : Int) (n : Nat) : List D := (List.range n).map fun i => .int (lo + (i : Nat))
theorem yl_rng (lo : Int) (n : Nat) : Yl G (Itr lo n) (rngD lo n) B := by
  intro i H B1 φ S w sb
  have hl : (rngD lo n).length = n := by unfold rngD; rw [List.length_map, List.length_range]
  rw [hl]
  refine ⟨fun hi => ⟨hi, fun x H' ⟨e, y⟩ => ?_⟩, fun hi => by subst hi; exact Nat.le_refl _⟩
  subst e y
  refine ⟨.int (lo + (i : Nat)), B1, ?_, Xt.refl, w, rpi _⟩
  unfold rngD
  rw [List.getElem?_map, List.getElem?_range hi]; rfl
theorem PI.or' {tg e : Expr} {t t' : TI} (h : PI X tg e t) (h' : PI X tg e t') : PI X tg e (fun σ H R => t σ H R ∨ t' σ H R) :=
  ⟨fun pins s σ H R I q => q.elim (h.run pins s σ H R I) (h'.run pins s σ H R I)⟩
def iSeq (f : Ef) : If := fun ρ S => (f ρ S).bind fun d S1 => match d with
  | .p (.lst ds) => .ok ds S1
  | .p (.tup ds) => .ok ds S1
  | .p (.scr ns) => .ok (ns.map D.int) S1
  | _ => .bad
theorem di_seq {tg : Expr} (hK : X.K = G.K) (he : PE X e (tD G W ef)) : PI X tg e (tI G W (iSeq ef)) := by
  refine wkI (PI.or' (pi_list he) (pi_tup he)) fun σ H R ⟨ρ, B, φ, S, w, en, h⟩ => ?_
  have h2 := WP.fst h
  have core : ∀ {t : V → Hp → Prop}, WP G W σ H B φ (ef ρ S) (fun a H' B' φ' S' => ∀ v, RepV G B' φ' a v → t v H') → tD G W ef σ H t := fun {t} q => ⟨ρ, B, φ, S, w, en, q⟩
  rw [hK]
  have left : (WP G W σ H B φ (ef ρ S) fun a H' B' φ' S' => ∀ v, RepV G B' φ' a v → ∃ p, v = .ref p ∧ (∃ xs, SqL G.K H' p xs) ∧ R (Itl G.K p) H') → iList G.K (tD G W ef) σ H R ∨ iTup G.K (tD G W ef) σ H R := fun q => .inl (core q)
  have right : (WP G W σ H B φ (ef ρ S) fun a H' B' φ' S' => ∀ v, RepV G B' φ' a v → ∃ p, v = .ref p ∧ (∃ xs, SqT G.K H' p xs) ∧ R (Itt G.K p) H') → iList G.K (tD G W ef) σ H R ∨ iTup G.K (tD G W ef) σ H R := fun q => .inr (core q)
  cases q : ef ρ S with
  | bad => rw [q] at h2; exact h2.elim
  | exc x S1 => exact left (by rw [q] at h2 ⊢; exact h2)
  | ok d S1 =>
    rw [q] at h2 left right
    cases d with
    | hnd n => exact left fun H' B' φ' x w' v r => (h2 H' B' φ' x w').elim
    | p d =>
      cases d with
      | lst ds =>
        refine left fun H' B' φ' x w' v r => ?_
        obtain ⟨a, xs, rfl, s1, q1⟩ := rep_lst.mp r
        have sq : SqL G.K B' a xs := SqL.of s1
        exact ⟨a, rfl, ⟨xs, w'.sub.seq sq⟩, h2 H' B' φ' x w' H' B' φ' Xt.refl w' _ (yl_list sq q1)⟩
      | tup ds =>
        refine right fun H' B' φ' x w' v r => ?_
        obtain ⟨a, xs, rfl, s1, q1⟩ := rep_tup.mp r
        exact ⟨a, rfl, ⟨xs, sqT_mono w'.sub s1⟩, h2 H' B' φ' x w' H' B' φ' Xt.refl w' _ (yl_tup s1 q1)⟩
      | scr ns =>
        refine left fun H' B' φ' x w' v r => ?_
        obtain ⟨a, rfl, s1⟩ := rep_scr.mp r
        exact ⟨a, rfl, ⟨_, w'.sub.seq s1⟩, h2 H' B' φ' x w' H' B' φ' Xt.refl w' _ (yl_list s1 (Reps.ints ns))⟩
      | non => exact left fun H' B' φ' x w' v r => (h2 H' B' φ' x w').elim
      | bl _ => exact left fun H' B' φ' x w' v r => (h2 H' B' φ' x w').elim
      | dct _ => exact left fun H' B' φ' x w' v r => (h2 H' B' φ' x w').elim
      | dki _ => exact left fun H' B' φ' x w' v r => (h2 H' B' φ' x w').elim
      | dsi _ => exact left fun H' B' φ' x w' v r => (h2 H' B' φ' x w').elim
      | int _ => exact left fun H' B' φ' x w' v r => (h2 H' B' φ' x w').elim
      | str _ => exact left fun H' B' φ' x w' v r => (h2 H' B' φ' x w').elim
      | rul _ => exact left fun H' B' φ' x w' v r => (h2 H' B' φ' x w').elim
end
end DL

namespace DL
open PySem L2
open PySem.Spec PyProof.Rows
section
variable {X : Cx} {G : Gx} {W : WX} {Z : Ends} {H B H1 B1 : Hp} {φ φ1 : List Addr} {S : Sto} {σ : L2.St} {ρ : Nv} {e : Expr} {ef eg : Ef} {pos : Pos} {af : Af}
/-! range -/
def rngOk (i j : Int) : Bool := decide (-4611686018427387904 ≤ i) && decide (i < 4611686018427387904) && decide (-4611686018427387904 ≤ j) && decide (j < 4611686018427387904)
theorem rngOk_at {i j : Int} (h : rngOk i j = true) : -(2 ^ 62) ≤ i ∧ i < 2 ^ 62 ∧ -(2 ^ 62) ≤ j ∧ j < 2 ^ 62 := by
  unfold rngOk at h
  simp only [Bool.and_eq_true, decide_eq_true_eq] at h
  omega
def iRng1 (f : Ef) : If := fun ρ S => (f ρ S).bind fun d S1 => match d with
  | .p (.int j) => if rngOk 0 j = true then .ok (rngD 0 j.toNat) S1 else .bad
  | _ => .bad
def iRng2 (f g : Ef) : If := fun ρ S => (f ρ S).bind fun d S1 => (g ρ S1).bind fun d' S2 => match d, d' with
  | .p (.int i), .p (.int j) => if rngOk i j = true then .ok (rngD i (j - i).toNat) S2 else .bad
  | _, _ => .bad
theorem aOne {ds : List Dv} {f : Ef} (hf : aCons f aNil = af) : True := trivial
theorem di_rng1 {tg a : Expr} {p : Pos} (hg : Gl X "range") (hm : X.mg "range" = none) (ha : PE X a (tD G W ef)) (hs : starEach [a] X.env = [(false, eval a X.env)] := by rfl) :
    PI X tg (.Call (.Name "range" p) [a] [] pos) (tI G W (iRng1 ef)) := by
  refine wkI (pi_range1 hg hm (pa_cons ha pa_nil hs) hs) fun σ H R ⟨ρ, B, φ, S, w, en, h⟩ => tD.run w en (WP.fst h) fun d v H1 B1 φ1 S1 x1 w1 en1 r1 q1 => ?_
  split at q1
  · split at q1
    · rename_i j hk
      obtain ⟨_, _, h3, h4⟩ := rngOk_at hk
      exact ⟨j, by rw [rep_int.mp r1], h3, h4, q1 H1 B1 φ1 Xt.refl w1 _ (yl_rng 0 _)⟩
    · exact q1.elim
  · exact q1.elim
theorem di_rng2 {tg a b : Expr} {p : Pos} (hg : Gl X "range") (hm : X.mg "range" = none) (ha : PE X a (tD G W ef)) (hb : PE X b (tD G W eg)) (hs : starEach [a, b] X.env = [(false, eval a X.env), (false, eval b X.env)] := by rfl)
    (hs2 : starEach [b] X.env = [(false, eval b X.env)] := by rfl) : PI X tg (.Call (.Name "range" p) [a, b] [] pos) (tI G W (iRng2 ef eg)) := by
  refine wkI (pi_range2 hg hm (pa_cons ha (pa_cons hb pa_nil hs2) (by rw [hs, hs2])) hs hs2) fun σ H R ⟨ρ, B, φ, S, w, en, h⟩ => tD.run w en (WP.fst h) fun d v H1 B1 φ1 S1 x1 w1 en1 r1 q1 => ?_
  refine tD.run w1 en1 (WP.fst q1) fun d2 v2 H2 B2 φ2 S2 x2 w2 en2 r2 q2 => ?_
  split at q2
  · split at q2
    · rename_i i j hk
      obtain ⟨h1, h2, h3, h4⟩ := rngOk_at hk
      exact ⟨i, j, by rw [rep_int.mp r1, rep_int.mp r2], ⟨h1, h2, h3, h4⟩, q2 H2 B2 φ2 Xt.refl w2 _ (yl_rng i _)⟩
    · exact q2.elim
  · exact q2.elim
/-! for -/
def forL (t : Tgt) (body : Sf) : List D → Nv → Sto → OS
  | [], ρ, S => .ok (.nx ρ) S
  | d :: ds, ρ, S => match t (.p d) ρ with
    | none => .bad
    | some ρ1 => match body ρ1 S with
      | .ok (.nx ρ') S' => forL t body ds ρ' S'
      | .ok (.ct ρ') S' => forL t body ds ρ' S'
      | .ok (.bk ρ') S' => .ok (.nx ρ') S'
      | .ok (.rt d) S' => .ok (.rt d) S'
      | .exc x ρ' S' => .exc x ρ' S'
      | .bad => .bad
def sFor (it : If) (t : Tgt) (body : Sf) : Sf := fun ρ S => (it ρ S).toS ρ fun ds S' => forL t body ds ρ S'
theorem dp_for {tg iter : Expr} {body : List Stmt} {it : If} {ts : List Nat} {t : Tgt} {bf : Sf} (hp : PassesOwn (model X.prog X.w) X.A X.env X.xe) (hc : X.calm = true) (hi : PI X tg iter (tI G W it)) (hg : PG X tg (tG G ts t)) (hb : PSs X body (tS G W bf))
    (hs : ∀ x, foldedSetIterable iter X.env x = pure x := by intro _; rfl) : PS X (.For tg iter body [] pos) (tS G W (sFor it t bf)) := by
  refine wkS (ps_for hp hc hi hg hb hs) fun Z σ H ⟨ρ, B, φ, S, w, en, h⟩ => ?_
  refine ⟨ρ, B, φ, S, w, en, (WPS.fst en h).mono fun ds H1 B1 φ1 S1 x1 w1 q1 J yl => ?_⟩
  have en1 := en.mono x1.b x1.p
  refine ⟨fun i m σ H => ∃ ρ B φ S, Wd G H B φ S ∧ EnvR G B φ σ ρ ∧ Same B1 B ∧ i ≤ ds.length ∧ m = ds.length - i ∧ WPS G W Z H B φ (forL t bf (ds.drop i) ρ S),
    ⟨_, ρ, B1, φ1, S1, w1, en1, Same.refl _, Nat.zero_le _, rfl, q1⟩, ?_⟩
  rintro i m σ H ⟨ρ, B, φ, S, w, en, sb, hi, rfl, q⟩
  obtain ⟨y1, y2⟩ := yl i H B φ S w sb
  by_cases hlt : i < ds.length
  · obtain ⟨go, y1⟩ := y1 hlt
    refine .inr ⟨go, fun σ' H' => ∃ ρ B φ S, Wd G H' B φ S ∧ EnvR G B φ σ' ρ ∧ Same B1 B ∧ WPS G W Z H' B φ (forL t bf (ds.drop (i + 1)) ρ S), ?_, ?_⟩
    · rintro σ' H' ⟨ρ', B', φ', S', w', en', sb', q'⟩
      exact ⟨ds.length - (i + 1), by omega, ρ', B', φ', S', w', en', sb', hlt, rfl, q'⟩
    · intro x H' hy
      obtain ⟨d, B', hd, xx, w', r⟩ := y1 x H' hy
      rw [List.drop_eq_getElem_cons hlt] at q
      have ed : ds[i] = d := by rw [List.getElem?_eq_getElem hlt] at hd; exact Option.some.inj hd
      rw [ed] at q
      unfold forL at q
      refine ⟨ρ, B', φ, S, .p d, w', en.mono xx.b xx.p, r, ?_⟩
      cases e1 : t (.p d) ρ with
      | none => rw [e1] at q; exact q.elim
      | some ρ1 =>
        rw [e1] at q
        refine fun σ2 en2 _ => ⟨ρ1, B', φ, S, w', en2, ?_⟩
        have q := WPS.rebase xx q
        dsimp only at q
        cases e2 : bf ρ1 S with
        | bad => rw [e2] at q; exact q.elim
        | exc x ρ' S' => rw [e2] at q; exact q
        | ok fl S' =>
          rw [e2] at q
          cases fl with
          | nx ρ' => exact fun H3 B3 φ3 x3 w3 σ3 en3 => ⟨ρ', B3, φ3, S', w3, en3, sb.trans (xx.b.trans x3.b), WPS.rebase x3 q⟩
          | ct ρ' => exact fun H3 B3 φ3 x3 w3 σ3 en3 => ⟨ρ', B3, φ3, S', w3, en3, sb.trans (xx.b.trans x3.b), WPS.rebase x3 q⟩
          | bk ρ' => exact q
          | rt d => exact q
  · have e : i = ds.length := by omega
    subst e
    rw [List.drop_length] at q
    exact .inl ⟨y2 rfl, WPS.here w q σ en⟩
/-! while, at most n turns -/
def whileL (c : Tf) (body : Sf) : Nat → Nv → Sto → OS
  | 0, _, _ => .bad
  | n + 1, ρ, S => (c ρ S).toS ρ fun b S1 => if b = true then (match body ρ S1 with
      | .ok (.nx ρ') S' => whileL c body n ρ' S'
      | .ok (.ct ρ') S' => whileL c body n ρ' S'
      | .ok (.bk ρ') S' => .ok (.nx ρ') S'
      | .ok (.rt d) S' => .ok (.rt d) S'
      | .exc x ρ' S' => .exc x ρ' S'
      | .bad => .bad) else .ok (.nx ρ) S1
def sWhile (n : Nat) (c : Tf) (body : Sf) : Sf := whileL c body n
theorem dp_while {cc : Expr} {body : List Stmt} {c : Tf} {bf : Sf} (n : Nat) (hp : PassesOwn (model X.prog X.w) X.A X.env X.xe) (hc : PT X cc (tT G W c)) (hb : PSs X body (tS G W bf)) : PS X (.While cc body [] pos) (tS G W (sWhile n c bf)) := by
  refine wkS (ps_while hp hc hb) fun Z σ H ⟨ρ, B, φ, S, w, en, h⟩ => ?_
  refine ⟨fun m σ H => ∃ ρ B φ S, Wd G H B φ S ∧ EnvR G B φ σ ρ ∧ WPS G W Z H B φ (whileL c bf m ρ S), ⟨n, ρ, B, φ, S, w, en, h⟩, ?_⟩
  rintro m σ H ⟨ρ, B, φ, S, w, en, q⟩
  cases m with
  | zero => exact q.elim
  | succ m =>
    unfold whileL at q
    refine tT.run w en (WPS.fst en q) fun b H1 B1 φ1 S1 x1 w1 en1 q1 => ?_
    cases b with
    | false => rw [if_neg Bool.false_ne_true] at q1 ⊢; exact WPS.here w1 q1 σ en1
    | true =>
      rw [if_pos rfl] at q1 ⊢
      refine ⟨fun σ' H' => ∃ ρ B φ S, Wd G H' B φ S ∧ EnvR G B φ σ' ρ ∧ WPS G W Z H' B φ (whileL c bf m ρ S), fun σ' H' k => ⟨m, Nat.lt_succ_self _, k⟩, ρ, B1, φ1, S1, w1, en1, ?_⟩
      cases e2 : bf ρ S1 with
      | bad => rw [e2] at q1; exact q1.elim
      | exc x ρ' S' => rw [e2] at q1; exact q1
      | ok fl S' =>
        rw [e2] at q1
        cases fl with
        | nx ρ' => exact fun H3 B3 φ3 x3 w3 σ3 en3 => ⟨ρ', B3, φ3, S', w3, en3, WPS.rebase x3 q1⟩
        | ct ρ' => exact fun H3 B3 φ3 x3 w3 σ3 en3 => ⟨ρ', B3, φ3, S', w3, en3, WPS.rebase x3 q1⟩
        | bk ρ' => exact q1
        | rt d => exact q1
/-! comprehensions -/
def Out.nox {α : Type} (o : Out α) : Out α := match o with
  | .ok a S => .ok a S
  | .exc _ _ => .bad
  | .bad => .bad
abbrev noW : WX := fun _ _ _ _ => False
theorem WP.nox {α : Type} {W' : WX} {o : Out α} {post : α → Hp → Hp → List Addr → Sto → Prop} (h : WP G W σ H B φ o.nox post) : WP G W' σ H B φ o post := by
  cases o with
  | ok a S => exact h
  | exc x S => exact h.elim
  | bad => exact h.elim
def cYes : Tf := fun _ S => .ok true S
def compL (t : Tgt) (ifs : Tf) (el : Ef) (ρ : Nv) : List D → Sto → Out (List D)
  | [], S => .ok [] S
  | d :: ds, S => match t (.p d) ρ with
    | none => .bad
    | some ρ1 => (ifs ρ1 S).nox.bind fun b S1 => if b = true then (el ρ1 S1).nox.bind (fun x S2 => match x with
        | .p d' => (compL t ifs el ρ ds S2).bind fun r S3 => Out.ok (d' :: r) S3
        | .hnd _ => .bad) else compL t ifs el ρ ds S1
def dComp (vs : List Nat) (it : If) (t : Tgt) (ifs : Tf) (el : Ef) : Ef := fun ρ S => (it ρ S).bind fun ds S1 => if ds.length ≤ big then (compL t ifs el (wipeN ρ vs) ds S1).bind (fun r S2 => .ok (.p (.lst r)) S2) else .bad
theorem dts_nil : PTs X [] (tT G W cYes) := ⟨fun pins s σ H Q I ⟨ρ, B, φ, S, w, en, h⟩ => pts_nil.run pins s σ H Q I (h H B φ Xt.refl w)⟩
theorem dts_one {c : Expr} {cf : Tf} (h : PT X c (tT G W cf)) : PTs X [c] (tT G W cf) := pts_one h
theorem Out.bind_assoc {α β γ : Type} (o : Out α) (k : α → Sto → Out β) (l : β → Sto → Out γ) : (o.bind k).bind l = o.bind fun a S => (k a S).bind l := by
  cases o <;> rfl
theorem wipe_wipe {vs : List Nat} : ∀ ws : List Nat, (∀ i ∈ ws, i ∈ vs) → wipe (wipe σ ws) vs = wipe σ vs
  | [], _ => rfl
  | w :: ws, h => by
    show wipe ((wipe σ ws).set w none) vs = _
    rw [wipe_set (h w List.mem_cons_self), wipe_wipe ws fun i hi => h i (List.mem_cons_of_mem _ hi)]
/-- a private thing is written -/
theorem Wd.priv {p : Addr} {o : HO} (w : Wd G H B φ S) (hb : B p = none) (hp : p ∉ φ) : Wd G (upd H p o) B φ S := by
  refine ⟨fun b x e => ?_, w.nd, w.len, fun i a c h1 h2 => ?_, w.sec⟩
  · have nb : b ≠ p := fun z => by subst z; rw [hb] at e; cases e
    rw [upd_ne nb]; exact w.sub _ _ e
  · have na : a ≠ p := fun z => hp (by subst z; exact List.mem_of_getElem? h1)
    refine CellR.stay (w.cell i a c h1 h2) (Same.refl _) (List.prefix_refl _) (upd_ne na) (fun _ q => q) fun j dx q0 _ _ q2 => ⟨upd_ne fun z => hp (by subst z; exact List.mem_of_getElem? q0), q2⟩
/-- a private list becomes data -/
theorem Wd.adopt {p : Addr} {av : List V} (w : Wd G H B φ S) (hh : H p = some (.lst av)) (hb : B p = none) (hp : p ∉ φ) : Wd G H (upd B p (.lst av)) φ S := by
  have sb : Same B (upd B p (.lst av)) := same_upd' hb
  refine ⟨fun b x e => ?_, w.nd, w.len, fun i a c h1 h2 => ?_, w.sec⟩
  · by_cases q : b = p
    · subst q; rw [upd_same] at e; rw [← e]; exact hh
    · rw [upd_ne q] at e; exact w.sub _ _ e
  · have na : a ≠ p := fun z => hp (by subst z; exact List.mem_of_getElem? h1)
    refine CellR.stay (w.cell i a c h1 h2) sb (List.prefix_refl _) rfl (fun _ q => by rw [upd_ne na]; exact q) fun j dx q0 _ _ q2 => ⟨rfl, by rw [upd_ne fun z => hp (by subst z; exact List.mem_of_getElem? q0)]; exact q2⟩
theorem comp_le {own : List (Str × Nat)} {it : If} {ts : List Nat} {t : Tgt} {cf : Tf} {el : Ef} (hts : ∀ i ∈ ts, i ∈ own.map (·.2)) :
    ∀ σ H Q, tD G W (dComp (own.map (·.2)) it t cf el) σ H Q → tLc (tI G W it) (tG G ts t) (tT G noW cf) (tD G noW el) (own.map (·.2)) σ H Q := by
  rintro σ H Q ⟨ρ, B, φ, S, w, en, h⟩
  refine ⟨ρ, B, φ, S, w, en, (WP.fst h).mono fun ds H1 B1 φ1 S1 x1 w1 q1 J yl => ?_⟩
  split at q1
  · rename_i hbig
    intro D hD
    have en1 := (en.mono x1.b x1.p).wipe (own.map (·.2))
    generalize hvs : own.map (·.2) = vs at *
    have nD1 : D ∉ φ1 := w1.fresh hD
    refine ⟨fun i m H => ∃ B φ S acc av, Wd G H B φ S ∧ Xt H1 B1 φ1 H B φ ∧ B D = none ∧ D ∉ φ ∧ H D = some (.lst av) ∧ Reps G B acc av ∧ acc.length ≤ i ∧ i ≤ ds.length ∧ m = ds.length - i ∧
        WP G W σ H1 B1 φ1 ((compL t cf el (wipeN ρ vs) (ds.drop i) S).bind fun r S2 => Out.ok (Dv.p (DL.D.lst (acc ++ r))) S2) (fun d H' B' φ' _ => ∀ v, RepV G B' φ' d v → Q v H'),
      ⟨_, B1, φ1, S1, [], [], w1.hide hD, Xt.hide w1 hD, w1.bfree hD, nD1, upd_same, Reps.nil, Nat.le_refl _, Nat.zero_le _, rfl, q1⟩, ?_⟩
    rintro i m H ⟨B, φ, S, acc, av, w, x, hb, hf, hh, rr, hai, hi, rfl, q⟩
    obtain ⟨y1, y2⟩ := yl i H B φ S w x.b
    by_cases hlt : i < ds.length
    · obtain ⟨go, y1⟩ := y1 hlt
      refine .inr ⟨go, fun H' => ∃ B φ S acc av, Wd G H' B φ S ∧ Xt H1 B1 φ1 H' B φ ∧ B D = none ∧ D ∉ φ ∧ H' D = some (.lst av) ∧ Reps G B acc av ∧ acc.length ≤ i + 1 ∧
        WP G W σ H1 B1 φ1 ((compL t cf el (wipeN ρ vs) (ds.drop (i + 1)) S).bind fun r S2 => Out.ok (Dv.p (DL.D.lst (acc ++ r))) S2) (fun d H' B' φ' _ => ∀ v, RepV G B' φ' d v → Q v H'), ?_, ?_⟩
      · rintro H' ⟨B', φ', S', acc', av', w', x', hb', hf', hh', rr', hai', q'⟩
        exact ⟨ds.length - (i + 1), by omega, B', φ', S', acc', av', w', x', hb', hf', hh', rr', hai', hlt, rfl, q'⟩
      · intro y H' hy
        obtain ⟨d, B', hd, xx, w', r⟩ := y1 y H' hy
        rw [List.drop_eq_getElem_cons hlt] at q
        have ed : ds[i] = d := by rw [List.getElem?_eq_getElem hlt] at hd; exact Option.some.inj hd
        rw [ed] at q
        unfold compL at q
        have x' := x.trans xx
        obtain ⟨hh', hb', hf'⟩ := xx.out D _ hh hb hf
        refine ⟨wipeN ρ vs, B', φ, S, .p d, w', en1.mono x'.b x'.p, r, ?_⟩
        cases e1 : t (.p d) (wipeN ρ vs) with
        | none => rw [e1] at q; exact q.elim
        | some ρ1 =>
          rw [e1] at q
          dsimp only at q
          refine fun σ2 en2 k2 => ⟨(k2 vs hts).trans (wipe_wipe vs fun _ z => z), ρ1, B', φ, S, w', en2, ?_⟩
          cases e2 : cf ρ1 S with
          | bad => rw [e2] at q; exact q.elim
          | exc e' S' => rw [e2] at q; exact q.elim
          | ok b S2 =>
            rw [e2] at q
            have q : WP G W σ H1 B1 φ1 ((if b = true then (el ρ1 S2).nox.bind (fun x S2 => match x with
              | .p d' => (compL t cf el (wipeN ρ vs) (ds.drop (i + 1)) S2).bind fun r S3 => Out.ok (d' :: r) S3
              | .hnd _ => .bad) else compL t cf el (wipeN ρ vs) (ds.drop (i + 1)) S2).bind fun r S2 => Out.ok (Dv.p (DL.D.lst (acc ++ r))) S2) (fun d H' B' φ' _ => ∀ v, RepV G B' φ' d v → Q v H') := q
            intro H3 B3 φ3 x3 w3
            obtain ⟨hh3, hb3, hf3⟩ := x3.out D _ hh' hb' hf'
            have x03 := x'.trans x3
            cases b with
            | false =>
              rw [if_neg Bool.false_ne_true] at q ⊢
              exact ⟨B3, φ3, S2, acc, av, w3, x03, hb3, hf3, hh3, Reps.mono (xx.b.trans x3.b) _ rr, Nat.le_succ_of_le hai, q⟩
            | true =>
              rw [if_pos rfl] at q ⊢
              refine ⟨ρ1, B3, φ3, S2, w3, en2.mono x3.b x3.p, ?_⟩
              cases e3 : el ρ1 S2 with
              | bad => rw [e3] at q; exact q.elim
              | exc e' S' => rw [e3] at q; exact q.elim
              | ok dv S4 =>
                rw [e3] at q
                cases dv with
                | hnd n => exact q.elim
                | p d' =>
                  have q : WP G W σ H1 B1 φ1 (((compL t cf el (wipeN ρ vs) (ds.drop (i + 1)) S4).bind fun r S3 => Out.ok (d' :: r) S3).bind fun r S2 => Out.ok (Dv.p (DL.D.lst (acc ++ r))) S2) (fun d H' B' φ' _ => ∀ v, RepV G B' φ' d v → Q v H') := q
                  rw [Out.bind_assoc] at q
                  intro H4 B4 φ4 x4 w4 v4 r4
                  obtain ⟨hh4, hb4, hf4⟩ := x4.out D _ hh3 hb3 hf3
                  have x04 := x03.trans x4
                  have rr4 : Reps G B4 acc av := Reps.mono (xx.b.trans (x3.b.trans x4.b)) _ rr
                  refine ⟨av, hh4, ?_, B4, φ4, S4, acc ++ [d'], av ++ [v4], w4.priv hb4 hf4, ⟨x04.b, x04.p, fun a u h1 h2 h3 => ?_⟩, hb4, hf4, upd_same, rr4.append (Reps.cons r4 Reps.nil), by rw [List.length_append]; show acc.length + 1 ≤ _; omega, ?_⟩
                  · rw [← rr4.length, ← big_eq]; omega
                  · have na : a ≠ D := ne_of_none h1 hD
                    rw [upd_ne na]
                    exact x04.out a u h1 h2 h3
                  · have e5 : (fun (r : List DL.D) (S2 : Sto) => (Out.ok (d' :: r) S2).bind fun r S2 => Out.ok (Dv.p (.lst (acc ++ r))) S2) = fun r S2 => Out.ok (Dv.p (.lst ((acc ++ [d']) ++ r))) S2 := by
                      funext r S2
                      show Out.ok (Dv.p (.lst (acc ++ (d' :: r)))) S2 = _
                      rw [List.append_assoc]; rfl
                    rw [← e5]
                    exact q
    · have e : i = ds.length := by omega
      subst e
      rw [List.drop_length] at q
      refine .inl ⟨y2 rfl, ?_⟩
      have q : WP G W σ H1 B1 φ1 (.ok (.p (.lst (acc ++ []))) S) (fun d H' B' φ' _ => ∀ v, RepV G B' φ' d v → Q v H') := q
      rw [List.append_nil] at q
      have sb : Same B (upd B D (.lst av)) := same_upd' hb
      refine q H (upd B D (.lst av)) φ ⟨x.b.trans sb, x.p, fun a u h1 h2 h3 => ?_⟩ (w.adopt hh hb hf) _ (rep_lst.mpr ⟨D, av, rfl, upd_same, Reps.mono sb _ rr⟩)
      have na : a ≠ D := ne_of_none h1 hD
      rw [upd_ne na]
      exact x.out a u h1 h2 h3
  · exact q1.elim
theorem de_comp {elt tg iter : Expr} {ifs : List Expr} {scope : Scope} {own : List (Str × Nat)} {it : If} {ts : List Nat} {t : Tgt} {cf : Tf} {el : Ef} (hc : X.calm = true) (hN : X.N.Nodup) (hi : PI X tg iter (tI G W it)) (ok : BlkOk X.N X.env.scope scope own)
    (hts : ∀ i ∈ ts, i ∈ own.map (·.2))
    (hg : ∀ (s : Shared) (H : Hp) (C : Addr) (cl : List (Str × Addr)) (fp : List Addr), PG (X.blk s H scope (compEnvC scope cl C X.env) fp) tg (tG G ts t))
    (ht : ∀ (s : Shared) (H : Hp) (C : Addr) (cl : List (Str × Addr)) (fp : List Addr), PTs (X.blk s H scope (compEnvC scope cl C X.env) fp) ifs (tT G noW cf))
    (he : ∀ (s : Shared) (H : Hp) (C : Addr) (cl : List (Str × Addr)) (fp : List Addr), PE (X.blk s H scope (compEnvC scope cl C X.env) fp) elt (tD G noW el))
    (hs : ∀ x, foldedSetIterable iter X.env x = pure x := by intro _; rfl) :
    PE X (.ListComp elt [⟨tg, iter, ifs, 0⟩] scope pos) (tD G W (dComp (own.map (·.2)) it t cf el)) :=
  wkE (pe_lc hc hN hi ok hg ht he hs) (comp_le hts)
theorem dp_setLc {i : Nat} {y : Str} {py spos : Pos} {elt tg iter : Expr} {ifs : List Expr} {scope : Scope} {own : List (Str × Nat)} {it : If} {ts : List Nat} {t : Tgt} {cf : Tf} {el : Ef} (hc : X.calm = true) (hN : X.N.Nodup) (hy : X.N[i]? = some y) (hyl : X.env.scope.names.lookup y = some .local) (hk : X.env.scope.kind = .function) (hl : (py.line == pos.line) = true) (hna : (scope.names.any fun (n, k) => n == y && (k == .local || k == .cell)) = false) (hi : PI X tg iter (tI G W it)) (ok : BlkOk X.N X.env.scope scope own)
    (hts : ∀ i ∈ ts, i ∈ own.map (·.2))
    (hg : ∀ (s : Shared) (H : Hp) (C : Addr) (cl : List (Str × Addr)) (fp : List Addr), PG (X.blk s H scope (compEnvC scope cl C X.env) fp) tg (tG G ts t))
    (ht : ∀ (s : Shared) (H : Hp) (C : Addr) (cl : List (Str × Addr)) (fp : List Addr), PTs (X.blk s H scope (compEnvC scope cl C X.env) fp) ifs (tT G noW cf))
    (he : ∀ (s : Shared) (H : Hp) (C : Addr) (cl : List (Str × Addr)) (fp : List Addr), PE (X.blk s H scope (compEnvC scope cl C X.env) fp) elt (tD G noW el))
    (hs : ∀ x, foldedSetIterable iter X.env x = pure x := by intro _; rfl) :
    PS X (.Assign [.Name y py] (.ListComp elt [⟨tg, iter, ifs, 0⟩] scope pos) spos) (tS G W (sSet i (dComp (own.map (·.2)) it t cf el))) := by
  refine wkS (ps_setLc hc hN hy hyl (sw_true hk hyl hl hna) hi ok hg ht he hs) fun D σ H ⟨ρ, B, φ, S, w, en, h⟩ => ?_
  refine comp_le hts σ H _ ⟨ρ, B, φ, S, w, en, (WPS.fst en h).mono fun a H1 B1 φ1 S1 x1 w1 q1 v r1 => ?_⟩
  exact WPS.here w1 q1 _ ((en.mono x1.b x1.p).set i r1)
end
end DL

namespace DL
open PySem L2
open PySem.Spec PyProof.Rows
/-! ### defs of data alone -/
inductive PO where
  | ok (d : D) | exc (x : Ex) | bad
def spP (G : Gx) (n : Nat) (m : List D → PO) : Sp := fun vs H Q E => ∃ B ds, Same B H ∧ Reps G B ds vs ∧ ds.length = n ∧ match m ds with
  | .ok d => ∀ H' B' v, Xt H B [] H' B' [] → Same B' H' → Rep G B' d v → Q v H'
  | .exc x => ∀ H' B' c dd, Xt H B [] H' B' [] → Same B' H' → XRep G B' x c dd → E c dd H'
  | .bad => False
def init (n : Nat) (ds : List Dv) : Nv := ds.map some ++ List.replicate n none
def runP (n : Nat) (body : Sf) (ds : List D) : PO := match body (init n (ds.map Dv.p)) [] with
  | .ok (.rt (.p d)) _ => .ok d
  | .ok (.rt (.hnd i)) S => match S[i]? with
    | some (.lst es) => .ok (.lst es)
    | _ => .bad
  | .ok (.nx _) _ => .ok .non
  | .ok _ _ => .bad
  | .exc x _ _ => .exc x
  | .bad => .bad
/-- defs that change cells -/
def spE (G : Gx) (n : Nat) (m : List Dv → Sto → Out Dv) : Sp := fun vs H Q E => ∃ B φ S ds, Wd G H B φ S ∧ RepVs G B φ ds vs ∧ ds.length = n ∧
  WP G (fun c dd _ H' => E c dd H') [] H B φ (m ds S) fun d H' B' φ' _ => ∀ v, RepV G B' φ' d v → Q v H'
def runE (n : Nat) (body : Sf) (ds : List Dv) (S : Sto) : Out Dv := match body (init n ds) S with
  | .ok (.rt d) S' => .ok d S'
  | .ok (.nx _) S' => .ok (.p .non) S'
  | .ok _ _ => .bad
  | .exc x _ S' => .exc x S'
  | .bad => .bad
section
variable {G : Gx} {H B H' B' : Hp} {φ φ' : List Addr} {S S' : Sto}
theorem Wd.none (s : Same B H) : Wd G H B [] [] := ⟨s, List.nodup_nil, rfl, fun i a c h => by simp at h, fun i j c h => by simp at h⟩
theorem Xt.bare (x : Xt H B [] H' B' φ') : Xt H B [] H' B' [] := ⟨x.b, List.prefix_refl _, fun a o h1 h2 h3 => let ⟨q1, q2, _⟩ := x.out a o h1 h2 h3; ⟨q1, q2, h3⟩⟩
/-- behind a call of a def of data -/
theorem Wd.call (w : Wd G H B φ S) (x : Xt H B [] H' B' []) (s : Same B' H') : Wd G H' B' φ S ∧ Xt H B φ H' B' φ := by
  have out : ∀ a o, H a = some o → B a = .none → H' a = some o ∧ B' a = .none := fun a o h1 h2 => let ⟨q1, q2, _⟩ := x.out a o h1 h2 (by simp); ⟨q1, q2⟩
  refine ⟨⟨s, w.nd, w.len, fun i a c h1 h2 => ?_, w.sec⟩, ⟨x.b, List.prefix_refl _, fun a o h1 h2 h3 => let ⟨q1, q2⟩ := out a o h1 h2; ⟨q1, q2, h3⟩⟩⟩
  have r := w.cell i a c h1 h2
  obtain ⟨o, ho⟩ := r.there
  cases e : B a with
  | none => exact CellR.stay r x.b (List.prefix_refl _) ((out a o ho e).1.trans ho.symm) (fun _ _ => (out a o ho e).2) fun j dx q1 q2 ⟨u, q3⟩ q4 => ⟨(out dx u q3 q4).1.trans q3.symm, (out dx u q3 q4).2⟩
  | some u =>
    have e2 : H a = some u := w.sub _ _ e
    have e3 : H' a = some u := s _ _ (x.b _ _ e)
    exact CellR.stay r x.b (List.prefix_refl _) (e3.trans e2.symm) (fun _ q => by rw [e] at q; cases q) fun j dx q1 q2 ⟨u, q3⟩ q4 => ⟨(out dx u q3 q4).1.trans q3.symm, (out dx u q3 q4).2⟩
theorem reps_vs : ∀ {ds : List D} {vs : List V}, Reps G B ds vs → RepVs G B φ (ds.map Dv.p) vs
  | [], _, h => by unfold Reps at h; exact h
  | d :: ds, _, h => by
    unfold Reps at h
    obtain ⟨x, r, e, h1, h2⟩ := h
    exact ⟨x, r, e, h1, reps_vs h2⟩
theorem envR_init {N : List Str} {ds : List Dv} {vs : List V} (r : RepVs G B φ ds vs) (hl : N.length = ds.length + n) : EnvR G B φ (L2.start N vs) (init n ds) := by
  have e := r.length
  unfold L2.start init
  refine ⟨by simp; omega, fun i d h => ?_⟩
  by_cases hi : i < ds.length
  · rw [List.getElem?_append_left (by simpa using hi), List.getElem?_map] at h
    cases q : ds[i]? with
    | none => rw [q] at h; cases h
    | some d' =>
      rw [q] at h
      have : d' = d := by simpa using h
      subst this
      obtain ⟨v, h1, h2⟩ := r.get q
      exact ⟨v, by rw [List.getElem?_append_left (by simpa [← e] using hi), List.getElem?_map, h1]; rfl, h2⟩
  · rw [List.getElem?_append_right (by simpa using hi), List.getElem?_replicate] at h
    split at h <;> cases h
end
section
variable {P : Program} {w : World} {K : PySem.W.Frag} {mg : Str → Option Value} {base : Heap} {G : Gx}
/-- the context of a def's body, and what it knows -/
abbrev cxF (P : Program) (w : World) (K : PySem.W.Frag) (mg : Str → Option Value) (base : Heap) (N : List Str) (qual : Str) (scope : Scope) (f : Addr) (cd : Value) (A : Around) (outer : List Env) (s : Shared) (H : Hp) (E : XK) : Cx :=
  cxOf (L2.CX P w) P w K mg base N qual scope f cd A outer s H E
abbrev wF (E : XK) : WX := fun cls d _ H => E cls d H
theorem takesF {N : List Str} {qual : Str} {scope : Scope} {f : Addr} {cd : Value} {A : Around} {outer : List Env} {s : Shared} {H : Hp} {E : XK} : Takes (cxF P w K mg base N qual scope f cd A outer s H E) (wF E) := takes_of rfl rfl rfl rfl
theorem passesF {N : List Str} {qual : Str} {scope : Scope} {f : Addr} {cd : Value} {A : Around} {outer : List Env} {s : Shared} {H : Hp} {E : XK} :
    PassesOwn (model P w) (cxF P w K mg base N qual scope f cd A outer s H E).A (cxF P w K mg base N qual scope f cd A outer s H E).env (cxF P w K mg base N qual scope f cd A outer s H E).xe :=
  passes_of (X := cxF P w K mg base N qual scope f cd A outer s H E) rfl
theorem ok_P {x qual : Str} {st : Stmt} {f : Addr} {fd : FuncData} {N ps : List Str} {k n : Nat} {body : Sf} (F : Fun K x qual st f fd) (Sc : FnScope N ps (defScope st)) (hN : N.length = ps.length + n)
    (der : ∀ (cd : Value) (A : Around) (outer : List Env) (s : Shared) (H : Hp) (E : XK), Room k (cxF P w K mg base N qual (defScope st) f cd A outer s H E).A →
      PSs (cxF P w K mg base N qual (defScope st) f cd A outer s H E) (defBody st) (tS G (wF E) body)) : FnOk P w K mg base (L2.CX P w) (k + 1) f fd ps (spP G ps.length (runP n body)) := by
  refine F.okX Sc (fun vs H Q E h => ?_) (fun cd A outer s H vs Q E hr h => ?_)
  · obtain ⟨B, ds, _, r, hl, _⟩ := h
    rw [← r.length, hl]
  · obtain ⟨B, ds, sb, r, hl, h⟩ := h
    refine ⟨_, der cd A outer s H E hr, init n (ds.map Dv.p), B, [], [], Wd.none sb, envR_init (reps_vs r) (by rw [List.length_map, hl, hN]), ?_⟩
    unfold runP at h
    cases q : body (init n (ds.map Dv.p)) [] with
    | bad => rw [q] at h; exact h.elim
    | exc e ρ S => rw [q] at h; exact fun H' B' φ' c dd σ xx w' r' _ => h H' B' c dd xx.bare w'.sub r'
    | ok fl S =>
      rw [q] at h
      cases fl with
      | nx ρ => exact fun H' B' φ' xx w' σ _ => h H' B' _ xx.bare w'.sub (by unfold Rep; rfl)
      | bk ρ => exact h.elim
      | ct ρ => exact h.elim
      | rt d =>
        cases d with
        | p d => exact fun H' B' φ' xx w' v r' => h H' B' v xx.bare w'.sub r'
        | hnd i =>
          dsimp only at h
          cases qi : S[i]? with
          | none => rw [qi] at h; exact h.elim
          | some c =>
            rw [qi] at h
            cases c with
            | lst es =>
              intro H' B' φ' xx w' v r'
              obtain ⟨a, ha, rfl⟩ := r'
              obtain ⟨xs, h1, h2, h3, w2, x2⟩ := w'.thaw ha qi
              exact h H' _ _ (xx.trans x2).bare w2.sub (rep_lst (φ := []).mpr ⟨a, xs, rfl, upd_same, Reps.mono x2.b _ h3⟩)
            | rcd _ => exact h.elim
            | ins _ _ => exact h.elim
            | dead => exact h.elim
            | raw _ => exact h.elim
            | slt _ _ => exact h.elim
theorem ok_E {x qual : Str} {st : Stmt} {f : Addr} {fd : FuncData} {N ps : List Str} {k n : Nat} {body : Sf} (F : Fun K x qual st f fd) (Sc : FnScope N ps (defScope st)) (hN : N.length = ps.length + n)
    (der : ∀ (cd : Value) (A : Around) (outer : List Env) (s : Shared) (H : Hp) (E : XK), Room k (cxF P w K mg base N qual (defScope st) f cd A outer s H E).A →
      PSs (cxF P w K mg base N qual (defScope st) f cd A outer s H E) (defBody st) (tS G (wF E) body)) : FnOk P w K mg base (L2.CX P w) (k + 1) f fd ps (spE G ps.length (runE n body)) := by
  refine F.okX Sc (fun vs H Q E h => ?_) (fun cd A outer s H vs Q E hr h => ?_)
  · obtain ⟨B, φ, S, ds, _, r, hl, _⟩ := h
    rw [← r.length, hl]
  · obtain ⟨B, φ, S, ds, w0, r, hl, h⟩ := h
    refine ⟨_, der cd A outer s H E hr, init n ds, B, φ, S, w0, envR_init r (by rw [hl, hN]), ?_⟩
    unfold runE at h
    cases q : body (init n ds) S with
    | bad => rw [q] at h; exact h.elim
    | exc e ρ S => rw [q] at h; exact fun H' B' φ' c dd σ xx w' r' _ => h H' B' φ' c dd xx w' r'
    | ok fl S =>
      rw [q] at h
      cases fl with
      | nx ρ => exact fun H' B' φ' xx w' σ _ => h H' B' φ' xx w' _ (rep_non.mpr rfl)
      | bk ρ => exact h.elim
      | ct ρ => exact h.elim
      | rt d => exact fun H' B' φ' xx w' v r' => h H' B' φ' xx w' v r'
end
/-! calls -/
def dCallP (m : List D → PO) (a : Af) : Ef := fun ρ S => (a ρ S).bind fun xs S1 => match allP xs with
  | some ds => match m ds with
    | .ok d => .ok (.p d) S1
    | .exc x => .exc x S1
    | .bad => .bad
  | none => .bad
def dCallE (m : List Dv → Sto → Out Dv) (a : Af) : Ef := fun ρ S => (a ρ S).bind fun xs S1 => m xs S1
section
variable {X : Cx} {G : Gx} {W : WX} {k n : Nat} {f : Addr} {fd : FuncData} {ps : List Str} {x : Str} {p pos : Pos} {e : Expr} {es : List Expr} {af : Af} {H B : Hp} {φ : List Addr} {S : Sto} {σ : L2.St} {Q : VK}
/-- the callee's promise at the arguments -/
theorem spP_of {m : List D → PO} {xs : List Dv} {vs : List V} {ds : List D} (hn : ds.length = n) (w : Wd G H B φ S) (r : RepVs G B φ xs vs) (ha : allP xs = some ds)
    (h : WP G W σ H B φ (match m ds with
      | .ok d => .ok (.p d) S
      | .exc x => .exc x S
      | .bad => .bad : Out Dv) fun d H' B' φ' _ => ∀ v, RepV G B' φ' d v → Q v H') : spP G n m vs H Q (WE W σ) := by
  refine ⟨B, ds, w.sub, allP_rep ha r, hn, ?_⟩
  cases q : m ds with
  | bad => rw [q] at h; exact h
  | ok d =>
    rw [q] at h
    intro H' B' v xx s r'
    obtain ⟨w', x'⟩ := w.call xx s
    exact h H' B' φ x' w' v r'
  | exc x =>
    rw [q] at h
    intro H' B' c dd xx s r'
    obtain ⟨w', x'⟩ := w.call xx s
    exact h H' B' φ c dd x' w' r'
theorem de_callP {m : List D → PO} (tk : Takes X W) (F : FnOk X.prog X.w X.K X.mg X.base (L2.CX X.prog X.w) k f fd ps (spP G n m)) (hr : Room k X.A) (hg : Gl X x) (hm : X.mg x = some (.ref f)) (hk : PySem.W.keepIn X.K (.ref f) = true) (hb : Binds X.K fd ps [])
    (hn : ∀ ρ S xs S', af ρ S = .ok xs S' → xs.length = n)
    (ha : PA X (e :: es) (tA G W af)) (hdb : (x == ("__debug__" : Str)) = false := by decide) (he : starEach (e :: es) X.env = (false, eval e X.env) :: starEach es X.env := by rfl) (hpl : (backTo pos (starEach es X.env)).any (·.1) = false := by rfl) :
    PE X (.Call (.Name x p) (e :: es) [] pos) (tD G W (dCallP m af)) := by
  refine wkE (pe_callS F hr hg hm hk hb (fun σ => passAt tk σ) ha hdb he hpl) fun σ H Q ⟨ρ, B, φ, S, w, en, q⟩ => ?_
  have hlen : ∀ xs S', af ρ S = .ok xs S' → xs.length = n := hn ρ S
  cases qa : af ρ S with
  | bad => unfold dCallP at q; rw [qa] at q; exact q.elim
  | exc x0 S0 => unfold dCallP at q; rw [qa] at q; exact ⟨ρ, B, φ, S, w, en, by rw [qa]; exact q⟩
  | ok xs0 S0 =>
    have l0 := hlen xs0 S0 qa
    refine ⟨ρ, B, φ, S, w, en, ?_⟩
    unfold dCallP at q
    rw [qa] at q ⊢
    intro H1 B1 φ1 x1 w1 vs r1
    have q1 := WP.rebase x1 q
    have q1 : WP G W σ H1 B1 φ1 (match allP xs0 with
      | some ds => match m ds with
        | .ok d => .ok (.p d) S0
        | .exc x => .exc x S0
        | .bad => .bad
      | none => .bad : Out Dv) (fun d H' B' φ' _ => ∀ v, RepV G B' φ' d v → Q v H') := q1
    cases qp : allP xs0 with
    | none => rw [qp] at q1; exact q1.elim
    | some ds =>
      rw [qp] at q1
      have l1 : ds.length = n := by rw [(allP_rep qp r1).length, ← r1.length, l0]
      exact spP_of l1 w1 r1 qp q1
theorem de_callE {m : List Dv → Sto → Out Dv} (tk : Takes X W) (F : FnOk X.prog X.w X.K X.mg X.base (L2.CX X.prog X.w) k f fd ps (spE G n m)) (hr : Room k X.A) (hg : Gl X x) (hm : X.mg x = some (.ref f)) (hk : PySem.W.keepIn X.K (.ref f) = true) (hb : Binds X.K fd ps [])
    (hn : ∀ ρ S xs S', af ρ S = .ok xs S' → xs.length = n)
    (ha : PA X (e :: es) (tA G W af)) (hdb : (x == ("__debug__" : Str)) = false := by decide) (he : starEach (e :: es) X.env = (false, eval e X.env) :: starEach es X.env := by rfl) (hpl : (backTo pos (starEach es X.env)).any (·.1) = false := by rfl) :
    PE X (.Call (.Name x p) (e :: es) [] pos) (tD G W (dCallE m af)) := by
  refine wkE (pe_callS F hr hg hm hk hb (fun σ => passAt tk σ) ha hdb he hpl) fun σ H Q ⟨ρ, B, φ, S, w, en, q⟩ => ?_
  cases qa : af ρ S with
  | bad => unfold dCallE at q; rw [qa] at q; exact q.elim
  | exc x0 S0 => unfold dCallE at q; rw [qa] at q; exact ⟨ρ, B, φ, S, w, en, by rw [qa]; exact q⟩
  | ok xs0 S0 =>
    have l0 := hn ρ S xs0 S0 qa
    refine ⟨ρ, B, φ, S, w, en, ?_⟩
    unfold dCallE at q
    rw [qa] at q ⊢
    intro H1 B1 φ1 x1 w1 vs r1
    have q1 : WP G W σ H1 B1 φ1 (m xs0 S0) (fun d H' B' φ' _ => ∀ v, RepV G B' φ' d v → Q v H') := WP.rebase x1 q
    refine ⟨B1, φ1, S0, xs0, w1, r1, l0, ?_⟩
    cases qm : m xs0 S0 with
    | bad => rw [qm] at q1; exact q1
    | ok d S' => rw [qm] at q1; exact q1
    | exc x S' => rw [qm] at q1; exact q1
/-- argument lists have their length -/
theorem aNil_len {ρ : Nv} {S S' : Sto} {xs : List Dv} (h : aNil ρ S = .ok xs S') : xs.length = 0 := by
  unfold aNil at h; cases h; rfl
theorem aCons_len {ff : Ef} {m : Nat} (h : ∀ ρ S xs S', af ρ S = .ok xs S' → xs.length = m) (ρ : Nv) (S : Sto) (xs : List Dv) (S' : Sto) (q : aCons ff af ρ S = .ok xs S') : xs.length = m + 1 := by
  unfold aCons at q
  cases q1 : ff ρ S with
  | bad => rw [q1] at q; cases q
  | exc _ _ => rw [q1] at q; cases q
  | ok d S1 =>
    rw [q1] at q
    have q : ((af ρ S1).bind fun xs S2 => Out.ok (d :: xs) S2) = .ok xs S' := q
    cases q2 : af ρ S1 with
    | bad => rw [q2] at q; cases q
    | exc _ _ => rw [q2] at q; cases q
    | ok ys S2 =>
      rw [q2] at q
      have q : Out.ok (d :: ys) S2 = .ok xs S' := q
      cases q
      rw [List.length_cons, h _ _ _ _ q2]
/-! built-ins -/
theorem de_callB {id : String} {r : List V → Hp → VK → Prop} {op : OpN} (hc : CallR X (.builtin id) r) (ok : OkN G W r op) (hg : Gl X x) (hm : X.mg x = none) (hv : bootBuiltins x = some (.builtin id)) (ha : PA X (e :: es) (tA G W af)) (hn : x ≠ "__name__" := by decide) (hdb : (x == ("__debug__" : Str)) = false := by decide)
    (he : starEach (e :: es) X.env = (false, eval e X.env) :: starEach es X.env := by rfl) (hpl : (backTo pos (starEach es X.env)).any (·.1) = false := by rfl) : PE X (.Call (.Name x p) (e :: es) [] pos) (tD G W (dCall op af)) :=
  wkE (pe_callB hc hg hm hv ha hn hdb he hpl) fun σ H Q ⟨ρ, B, φ, S, w, en, q⟩ => tA.run w en (WP.fst q) fun ds vs H1 B1 φ1 S1 x1 w1 en1 r1 q1 => ok H1 B1 φ1 S1 σ ds vs Q w1 r1 q1
theorem de_callTy {T : String} {r : List V → Hp → VK → Prop} {op : OpN} (hc : CallR X (.type T) r) (ok : OkN G W r op) (hg : Gl X x) (hm : X.mg x = none) (hv : bootBuiltins x = some (.type T)) (ha : PA X (e :: es) (tA G W af)) (hn : x ≠ "__name__" := by decide) (hdb : (x == ("__debug__" : Str)) = false := by decide)
    (he : starEach (e :: es) X.env = (false, eval e X.env) :: starEach es X.env := by rfl) (hpl : (backTo pos (starEach es X.env)).any (·.1) = false := by rfl) : PE X (.Call (.Name x p) (e :: es) [] pos) (tD G W (dCall op af)) :=
  wkE (pe_callTy hc hg hm hv ha hn hdb he hpl) fun σ H Q ⟨ρ, B, φ, S, w, en, q⟩ => tA.run w en (WP.fst q) fun ds vs H1 B1 φ1 S1 x1 w1 en1 r1 q1 => ok H1 B1 φ1 S1 σ ds vs Q w1 r1 q1
theorem rvs1 {d : Dv} {vs : List V} (r : RepVs G B φ [d] vs) : ∃ v, vs = [v] ∧ RepV G B φ d v := by
  obtain ⟨v, t, rfl, h, e⟩ := r
  rw [show t = [] from e]; exact ⟨v, rfl, h⟩
theorem rvs2 {d d' : Dv} {vs : List V} (r : RepVs G B φ [d, d'] vs) : ∃ v u, vs = [v, u] ∧ RepV G B φ d v ∧ RepV G B φ d' u := by
  obtain ⟨v, t, rfl, h, u, t2, rfl, h2, e⟩ := r
  rw [show t2 = [] from e]; exact ⟨v, u, rfl, h, h2⟩
/-- int(n) -/
def nInt : OpN := fun xs S => match xs with
  | [.p (.int i)] => .ok (.p (.int i)) S
  | [.p (.bl b)] => .ok (.p (.int (if b then 1 else 0))) S
  | _ => .bad
theorem nInt_ok : OkN G W (fun xs H Q => (∃ i, xs = [.int i] ∧ Q (.int i) H) ∨ ∃ k, xs = [.bl k] ∧ Q (.int (if k then 1 else 0)) H) nInt := by
  intro H B φ S σ xs vs Q w r h
  unfold nInt at h
  split at h
  · obtain ⟨v, rfl, rv⟩ := rvs1 r
    exact .inl ⟨_, by rw [rep_int.mp rv], h H B φ Xt.refl w _ (rep_int.mpr rfl)⟩
  · obtain ⟨v, rfl, rv⟩ := rvs1 r
    exact .inr ⟨_, by rw [rep_bl.mp rv], h H B φ Xt.refl w _ (rep_int.mpr rfl)⟩
  · exact h.elim
/-- len -/
def nLen : OpN := fun xs S => match xs with
  | [.p (.scr ns)] => .ok (.p (.int ns.length)) S
  | [x] => match sqOf S x with
    | some ds => .ok (.p (.int ds.length)) S
    | none => .bad
  | _ => .bad
theorem nLen_ok : OkN G W (fun xs H Q => ∃ p ys, xs = [.ref p] ∧ (SqL G.K H p ys ∨ SqT G.K H p ys) ∧ Q (.int ys.length) H) nLen := by
  intro H B φ S σ xs vs Q w r h
  unfold nLen at h
  split at h
  · obtain ⟨v, rfl, rv⟩ := rvs1 r
    obtain ⟨a, rfl, s1⟩ := rep_scr.mp rv
    exact ⟨a, _, rfl, .inl (w.sub.seq s1), by rw [List.length_map]; exact h H B φ Xt.refl w _ (rep_int.mpr rfl)⟩
  · split at h
    · rename_i ds hs
      obtain ⟨v, rfl, rv⟩ := rvs1 r
      obtain ⟨a, ys, rfl, s1, q1⟩ := sq_at w rv hs
      exact ⟨a, ys, rfl, s1, by rw [← q1.length]; exact h H B φ Xt.refl w _ (rep_int.mpr rfl)⟩
    · exact h.elim
  · exact h.elim
/-- max, min of two -/
def nMax2 : OpN := fun xs S => match xs with
  | [.p (.int i), .p (.int j)] => .ok (.p (.int (if j > i then j else i))) S
  | _ => .bad
def nMin2 : OpN := fun xs S => match xs with
  | [.p (.int i), .p (.int j)] => .ok (.p (.int (if j < i then j else i))) S
  | _ => .bad
theorem nMax2_ok : OkN G W (fun xs H Q => ∃ i j, xs = [.int i, .int j] ∧ Q (.int (if j > i then j else i)) H) nMax2 := by
  intro H B φ S σ xs vs Q w r h
  unfold nMax2 at h
  split at h
  · obtain ⟨v, u, rfl, rv, ru⟩ := rvs2 r
    exact ⟨_, _, by rw [rep_int.mp rv, rep_int.mp ru], h H B φ Xt.refl w _ (rep_int.mpr rfl)⟩
  · exact h.elim
theorem nMin2_ok : OkN G W (fun xs H Q => ∃ i j, xs = [.int i, .int j] ∧ Q (.int (if j < i then j else i)) H) nMin2 := by
  intro H B φ S σ xs vs Q w r h
  unfold nMin2 at h
  split at h
  · obtain ⟨v, u, rfl, rv, ru⟩ := rvs2 r
    exact ⟨_, _, by rw [rep_int.mp rv, rep_int.mp ru], h H B φ Xt.refl w _ (rep_int.mpr rfl)⟩
  · exact h.elim
/-- list(x): data, or a cell -/
def lsOf (S : Sto) : Dv → Option (List D)
  | .p (.scr ns) => some (ns.map D.int)
  | x => sqOf S x
theorem ls_at {x : Dv} {v : V} {ds : List D} (w : Wd G H B φ S) (r : RepV G B φ x v) (h : lsOf S x = some ds) : ∃ a xs, v = .ref a ∧ (SqL G.K H a xs ∨ SqT G.K H a xs) ∧ Reps G B ds xs := by
  unfold lsOf at h
  split at h
  · rename_i ns
    cases h
    obtain ⟨a, rfl, s1⟩ := rep_scr.mp r
    exact ⟨a, _, rfl, .inl (w.sub.seq s1), Reps.ints ns⟩
  · exact sq_at w r h
def nList : OpN := fun xs S => match xs with
  | [x] => match lsOf S x with
    | some ds => .ok (.p (.lst ds)) S
    | none => .bad
  | _ => .bad
def nListC : OpN := fun xs S => match xs with
  | [x] => match lsOf S x with
    | some ds => .ok (.hnd S.length) (S ++ [.lst ds])
    | none => .bad
  | _ => .bad
theorem nList_ok : OkN G W (fun xs H Q => ∃ p ys, xs = [.ref p] ∧ (SqL G.K H p ys ∨ SqT G.K H p ys) ∧ ∀ l, H l = none → Q (.ref l) (upd H l (.lst ys))) nList := by
  intro H B φ S σ xs vs Q w r h
  unfold nList at h
  split at h
  · split at h
    · rename_i ds hs
      obtain ⟨v, rfl, rv⟩ := rvs1 r
      obtain ⟨a, ys, rfl, s1, q1⟩ := ls_at w rv hs
      exact ⟨a, ys, rfl, s1, fun l hl => h _ _ _ (Xt.alloc w hl) (w.alloc hl) _ (rep_lst.mpr ⟨l, _, rfl, upd_same, Reps.mono (same_upd' (w.bfree hl)) _ q1⟩)⟩
    · exact h.elim
  · exact h.elim
theorem nListC_ok : OkN G W (fun xs H Q => ∃ p ys, xs = [.ref p] ∧ (SqL G.K H p ys ∨ SqT G.K H p ys) ∧ ∀ l, H l = none → Q (.ref l) (upd H l (.lst ys))) nListC := by
  intro H B φ S σ xs vs Q w r h
  unfold nListC at h
  split at h
  · split at h
    · rename_i ds hs
      obtain ⟨v, rfl, rv⟩ := rvs1 r
      obtain ⟨a, ys, rfl, s1, q1⟩ := ls_at w rv hs
      refine ⟨a, ys, rfl, s1, fun l hl => ?_⟩
      obtain ⟨w2, x2, rr⟩ := cell_new (c := .lst ds) (o := .lst ys) w hl ⟨w.bfree hl, ys, upd_same, q1⟩
      exact h _ _ _ x2 w2 _ rr
    · exact h.elim
  · exact h.elim
/-! all -/
def blsOf : List D → Option (List Bool)
  | [] => some []
  | .bl b :: r => (blsOf r).map (b :: ·)
  | _ :: _ => none
theorem bls_at : ∀ {ds : List D} {bs : List Bool} {vs : List V}, blsOf ds = some bs → Reps G B ds vs → vs = bs.map V.bl
  | [], bs, _, h, r => by simp [blsOf] at h; subst h; unfold Reps at r; rw [r]; rfl
  | .bl b :: ds, bs, _, h, r => by
    simp only [blsOf, Option.map_eq_some_iff] at h
    obtain ⟨t, h1, rfl⟩ := h
    unfold Reps at r
    obtain ⟨x, u, rfl, r1, r2⟩ := r
    unfold Rep at r1
    rw [r1, bls_at h1 r2]; rfl
  | .non :: _, _, _, h, _ => by simp [blsOf] at h
  | .int _ :: _, _, _, h, _ => by simp [blsOf] at h
  | .str _ :: _, _, _, h, _ => by simp [blsOf] at h
  | .tup _ :: _, _, _, h, _ => by simp [blsOf] at h
  | .lst _ :: _, _, _, h, _ => by simp [blsOf] at h
  | .rul _ :: _, _, _, h, _ => by simp [blsOf] at h
  | .scr _ :: _, _, _, h, _ => by simp [blsOf] at h
def nAll : OpN := fun xs S => match xs with
  | [x] => match vw S x with
    | some ds => match blsOf ds with
      | some bs => .ok (.p (.bl (bs.all id))) S
      | none => .bad
    | none => .bad
  | _ => .bad
theorem nAll_ok : OkN G W (rAll G.K) nAll := by
  intro H B φ S σ xs vs Q w r h
  unfold nAll at h
  split at h
  · split at h
    · rename_i ds hs
      split at h
      · rename_i bs hb
        obtain ⟨v, rfl, rv⟩ := rvs1 r
        obtain ⟨a, ys, rfl, s1, q1⟩ := vw_at w rv hs
        exact ⟨a, bs, rfl, by rw [← bls_at hb q1]; exact SqL.of s1, h H B φ Xt.refl w _ (rep_bl.mpr rfl)⟩
      · exact h.elim
    · exact h.elim
  · exact h.elim
/-! max, min of a list of ints -/
def intsOf : List D → Option (List Int)
  | [] => some []
  | .int b :: r => (intsOf r).map (b :: ·)
  | _ :: _ => none
theorem ints_at' : ∀ {ds : List D} {bs : List Int} {vs : List V}, intsOf ds = some bs → Reps G B ds vs → vs = bs.map V.int
  | [], bs, _, h, r => by simp [intsOf] at h; subst h; unfold Reps at r; rw [r]; rfl
  | .int b :: ds, bs, _, h, r => by
    simp only [intsOf, Option.map_eq_some_iff] at h
    obtain ⟨t, h1, rfl⟩ := h
    unfold Reps at r
    obtain ⟨x, u, rfl, r1, r2⟩ := r
    unfold Rep at r1
    rw [r1, ints_at' h1 r2]; rfl
  | .non :: _, _, _, h, _ => by simp [intsOf] at h
  | .bl _ :: _, _, _, h, _ => by simp [intsOf] at h
  | .str _ :: _, _, _, h, _ => by simp [intsOf] at h
  | .tup _ :: _, _, _, h, _ => by simp [intsOf] at h
  | .lst _ :: _, _, _, h, _ => by simp [intsOf] at h
  | .rul _ :: _, _, _, h, _ => by simp [intsOf] at h
  | .scr _ :: _, _, _, h, _ => by simp [intsOf] at h
def maxI : Int → List Int → Int
  | m, [] => m
  | m, x :: r => maxI (if m < x then x else m) r
def minI : Int → List Int → Int
  | m, [] => m
  | m, x :: r => minI (if x < m then x else m) r
theorem maxI_mem : ∀ (r : List Int) (m : Int), (maxI m r = m ∨ maxI m r ∈ r) ∧ m ≤ maxI m r ∧ ∀ y ∈ r, y ≤ maxI m r
  | [], m => ⟨.inl rfl, Int.le_refl _, fun _ h => nomatch h⟩
  | x :: r, m => by
    obtain ⟨h1, h2, h3⟩ := maxI_mem r (if m < x then x else m)
    unfold maxI
    by_cases e : m < x
    · rw [if_pos e] at h1 h2 h3 ⊢
      refine ⟨.inr (h1.elim (fun z => by rw [z]; exact List.mem_cons_self) fun z => List.mem_cons_of_mem _ z), by omega, fun y hy => (List.mem_cons.mp hy).elim (fun z => by rw [z]; exact h2) (h3 y)⟩
    · rw [if_neg e] at h1 h2 h3 ⊢
      refine ⟨h1.imp id fun z => List.mem_cons_of_mem _ z, h2, fun y hy => (List.mem_cons.mp hy).elim (fun z => by rw [z]; omega) (h3 y)⟩
theorem minI_mem : ∀ (r : List Int) (m : Int), (minI m r = m ∨ minI m r ∈ r) ∧ minI m r ≤ m ∧ ∀ y ∈ r, minI m r ≤ y
  | [], m => ⟨.inl rfl, Int.le_refl _, fun _ h => nomatch h⟩
  | x :: r, m => by
    obtain ⟨h1, h2, h3⟩ := minI_mem r (if x < m then x else m)
    unfold minI
    by_cases e : x < m
    · rw [if_pos e] at h1 h2 h3 ⊢
      refine ⟨.inr (h1.elim (fun z => by rw [z]; exact List.mem_cons_self) fun z => List.mem_cons_of_mem _ z), by omega, fun y hy => (List.mem_cons.mp hy).elim (fun z => by rw [z]; exact h2) (h3 y)⟩
    · rw [if_neg e] at h1 h2 h3 ⊢
      refine ⟨h1.imp id fun z => List.mem_cons_of_mem _ z, h2, fun y hy => (List.mem_cons.mp hy).elim (fun z => by rw [z]; omega) (h3 y)⟩
def nMaxL : OpN := fun xs S => match xs with
  | [x] => match vw S x with
    | some ds => match intsOf ds with
      | some (m :: r) => .ok (.p (.int (maxI m r))) S
      | _ => .bad
    | none => .bad
  | _ => .bad
def nMinL : OpN := fun xs S => match xs with
  | [x] => match vw S x with
    | some ds => match intsOf ds with
      | some (m :: r) => .ok (.p (.int (minI m r))) S
      | _ => .bad
    | none => .bad
  | _ => .bad
theorem nMaxL_ok : OkN G W (rMax G.K) nMaxL := by
  intro H B φ S σ xs vs Q w r h
  unfold nMaxL at h
  split at h
  · split at h
    · rename_i ds hs
      split at h
      · rename_i m t hb
        obtain ⟨v, rfl, rv⟩ := rvs1 r
        obtain ⟨a, ys, rfl, s1, q1⟩ := vw_at w rv hs
        refine ⟨a, m :: t, rfl, by rw [← ints_at' hb q1]; exact SqL.of s1, Nat.succ_pos _, fun z hz hm => ?_⟩
        obtain ⟨h1, h2, h3⟩ := maxI_mem t m
        have e : z = maxI m t := by
          have a1 : maxI m t ≤ z := hm _ (h1.elim (fun q => by rw [q]; exact List.mem_cons_self) fun q => List.mem_cons_of_mem _ q)
          have a2 : z ≤ maxI m t := (List.mem_cons.mp hz).elim (fun q => by rw [q]; exact h2) (h3 z)
          omega
        rw [e]
        exact h H B φ Xt.refl w _ (rep_int.mpr rfl)
      · exact h.elim
    · exact h.elim
  · exact h.elim
theorem nMinL_ok : OkN G W (rMin G.K) nMinL := by
  intro H B φ S σ xs vs Q w r h
  unfold nMinL at h
  split at h
  · split at h
    · rename_i ds hs
      split at h
      · rename_i m t hb
        obtain ⟨v, rfl, rv⟩ := rvs1 r
        obtain ⟨a, ys, rfl, s1, q1⟩ := vw_at w rv hs
        refine ⟨a, m :: t, rfl, by rw [← ints_at' hb q1]; exact SqL.of s1, Nat.succ_pos _, fun z hz hm => ?_⟩
        obtain ⟨h1, h2, h3⟩ := minI_mem t m
        have e : z = minI m t := by
          have a1 : z ≤ minI m t := hm _ (h1.elim (fun q => by rw [q]; exact List.mem_cons_self) fun q => List.mem_cons_of_mem _ q)
          have a2 : minI m t ≤ z := (List.mem_cons.mp hz).elim (fun q => by rw [q]; exact h2) (h3 z)
          omega
        rw [e]
        exact h H B φ Xt.refl w _ (rep_int.mpr rfl)
      · exact h.elim
    · exact h.elim
  · exact h.elim
end
end DL

namespace DL
open PySem L2
open PySem.Spec PyProof.Rows
section
variable {X : Cx} {G : Gx} {W : WX} {k n : Nat} {f : Addr} {fd : FuncData} {ps : List Str} {x : Str} {p pos : Pos} {e : Expr} {es : List Expr} {af : Af} {ef eg eh : Ef} {H B H' B' : Hp} {φ φ' : List Addr} {S : Sto} {σ : L2.St} {Q : VK}
/-! ### C(..) of the class of rules -/
def dMake (m : List Dv → Sto → Out Dv) (a : Af) : Ef := fun ρ S => (a ρ S).bind fun xs S1 => match allP xs with
  | some ds => match m (.hnd 0 :: ds.map Dv.p) [.raw 1, .dead] with
    | .ok (.p .non) [.slt 1 es, .dead] => .ok (.p (.rul es)) S1
    | _ => .bad
  | none => .bad
theorem made_wd {x dx : Addr} (s : Same B H) (h1 : H x = none) (h2 : H dx = none) (hn : dx ≠ x) : Wd G (upd (upd H dx (.own x)) x (.ins G.rc dx [])) B [x, dx] [.raw 1, .dead] := by
  have b1 := s.free h1
  have b2 := s.free h2
  have e1 : upd (upd H dx (.own x)) x (.ins G.rc dx []) dx = some (.own x) := by rw [upd_ne hn, upd_same]
  refine ⟨fun b o q => ?_, ?_, rfl, fun i a c q1 q2 => ?_, fun i j c q1 q2 => ?_⟩
  · have n1 : b ≠ x := fun z => by subst z; rw [b1] at q; cases q
    have n2 : b ≠ dx := fun z => by subst z; rw [b2] at q; cases q
    rw [upd_ne n1, upd_ne n2]; exact s _ _ q
  · rw [List.nodup_cons]
    exact ⟨by simpa using Ne.symm hn, by simp⟩
  · match i, q1, q2 with
    | 0, q1, q2 =>
      cases q1
      cases q2
      exact ⟨b1, dx, rfl, b2, hn, upd_same, _, e1⟩
    | 1, q1, q2 =>
      cases q1
      cases q2
      exact ⟨_, e1⟩
    | i + 2, q1, _ => simp at q1
  · match i, q1 with
    | 0, q1 =>
      cases q1
      cases q2
      rfl
    | 1, q1 =>
      cases q1
      cases q2
    | i + 2, q1 => simp at q1
theorem de_make {fI : Addr} {m : List Dv → Sto → Out Dv} (M : Mk X.K G.rc fI) (F : FnOk X.prog X.w X.K X.mg X.base (L2.CX X.prog X.w) k fI fd ps (spE G (n + 1) m)) (hr : Room (k + 1) X.A) (hg : Gl X x) (hm : X.mg x = some (.ref G.rc)) (hb : Binds X.K fd ps [])
    (hn : ∀ ρ S xs S', af ρ S = .ok xs S' → xs.length = n)
    (ha : PA X (e :: es) (tA G W af)) (hdb : (x == ("__debug__" : Str)) = false := by decide) (he : starEach (e :: es) X.env = (false, eval e X.env) :: starEach es X.env := by rfl) (hpl : (backTo pos (starEach es X.env)).any (·.1) = false := by rfl) :
    PE X (.Call (.Name x p) (e :: es) [] pos) (tD G W (dMake m af)) := by
  refine wkE (pe_make M F hr hg hm hb .nil passL ha hdb he hpl) fun σ H Q ⟨ρ, B, φ, S, w, en, q⟩ => ?_
  cases qa : af ρ S with
  | bad => unfold dMake at q; rw [qa] at q; exact q.elim
  | exc x0 S0 => unfold dMake at q; rw [qa] at q; exact ⟨ρ, B, φ, S, w, en, by rw [qa]; exact q⟩
  | ok xs0 S0 =>
    have l0 := hn ρ S xs0 S0 qa
    refine ⟨ρ, B, φ, S, w, en, ?_⟩
    unfold dMake at q
    rw [qa] at q ⊢
    intro H1 B1 φ1 x1 w1 vs r1
    have q1 := WP.rebase x1 q
    have q1 : WP G W σ H1 B1 φ1 (match allP xs0 with
      | some ds => match m (.hnd 0 :: ds.map Dv.p) [.raw 1, .dead] with
        | .ok (.p .non) [.slt 1 es, .dead] => .ok (.p (.rul es)) S0
        | _ => .bad
      | none => .bad : Out Dv) (fun d H' B' φ' _ => ∀ v, RepV G B' φ' d v → Q v H') := q1
    cases qp : allP xs0 with
    | none => rw [qp] at q1; exact q1.elim
    | some ds =>
      rw [qp] at q1
      dsimp only at q1
      have rr := allP_rep qp r1
      have l1 : ds.length = n := by rw [rr.length, ← r1.length, l0]
      intro xx dx hx hdx hne
      rw [List.append_nil]
      refine ⟨B1, [xx, dx], [.raw 1, .dead], .hnd 0 :: ds.map Dv.p, made_wd w1.sub hx hdx hne, ⟨_, _, rfl, ⟨xx, rfl, rfl⟩, reps_vs rr⟩, by rw [List.length_cons, List.length_map, l1], ?_⟩
      cases qm : m (.hnd 0 :: ds.map Dv.p) [.raw 1, .dead] with
      | bad => rw [qm] at q1; exact q1.elim
      | exc e' S' => rw [qm] at q1; exact q1.elim
      | ok d S' =>
        rw [qm] at q1
        split at q1
        · rename_i es0 heq
          cases heq
          intro H2 B2 φ2 x2 w2 v rv
          refine ⟨rep_non.mp rv, ?_⟩
          have hφ : φ2 = [xx, dx] := by
            obtain ⟨t, e1⟩ := x2.p
            have := w2.len
            rw [← e1] at this ⊢
            simp at this
            subst this
            rfl
          subst hφ
          obtain ⟨b1, dx', t, ys, e1, b2, _, h1, h2, s1, rs⟩ : CellR G H2 B2 [xx, dx] xx (.slt 1 es0) := w2.cell 0 xx _ rfl rfl
          cases e1
          have sb : Same B2 (upd (upd B2 dx (.xd [])) xx (SlX.SlO xx G.rc dx [some (.ref t)])) := fun b o q => by
            have n1 : b ≠ xx := fun z => by subst z; rw [b1] at q; cases q
            have n2 : b ≠ dx := fun z => by subst z; rw [b2] at q; cases q
            rw [upd_ne n1, upd_ne n2]; exact q
          have e2 : upd (upd B2 dx (.xd [])) xx (SlX.SlO xx G.rc dx [some (.ref t)]) dx = some (.xd []) := by rw [upd_ne hne, upd_same]
          have s2 : Same (upd (upd B2 dx (.xd [])) xx (SlX.SlO xx G.rc dx [some (.ref t)])) H2 := fun b o q => by
            by_cases n1 : b = xx
            · subst n1; rw [upd_same] at q; rw [← q]; exact h1
            · by_cases n2 : b = dx
              · subst n2; rw [e2] at q; rw [← q]; exact h2
              · rw [upd_ne n1, upd_ne n2] at q; exact w2.sub _ _ q
          have xc : Xt H1 B1 [] H2 (upd (upd B2 dx (.xd [])) xx (SlX.SlO xx G.rc dx [some (.ref t)])) [] := by
            refine ⟨x2.b.trans sb, List.prefix_refl _, fun a o a1 a2 _ => ?_⟩
            have n1 : a ≠ xx := ne_of_none a1 hx
            have n2 : a ≠ dx := ne_of_none a1 hdx
            obtain ⟨a3, a4, _⟩ := x2.out a o (by rw [upd_ne n1, upd_ne n2]; exact a1) a2 (by simp [n1, n2])
            exact ⟨a3, by rw [upd_ne n1, upd_ne n2]; exact a4, by simp⟩
          obtain ⟨w3, x3⟩ := w1.call xc s2
          exact q1 H2 _ φ1 x3 w3 _ (rep_rul.mpr ⟨xx, dx, t, ys, rfl, upd_same, e2, sqT_mono sb s1, Reps.mono sb _ rs⟩)
        · exact q1.elim
/-- rule.parts -/
def dParts (f : Ef) : Ef := fun ρ S => (f ρ S).bind fun d S1 => match d with
  | .p (.rul ds) => .ok (.p (.tup ds)) S1
  | _ => .bad
theorem de_parts {a : Str} {q : Addr} (c : SlX.SCls X.K G.rc) (s : SlX.Slot1 X.K G.rc a q 0) (hK : X.K = G.K) (he : PE X e (tD G W ef)) (hb : attributeBase e a X.env (eval e X.env) = eval e X.env := by rfl) : PE X (.Attribute e a pos) (tD G W (dParts ef)) := by
  refine wkE (SlX.pe_sl he hb) fun σ H Q ⟨ρ, B, φ, S, w, en, h⟩ => tD.run w en (WP.fst h) fun d v H1 B1 φ1 S1 x1 w1 en1 r1 q1 => ?_
  split at q1
  · rename_i ds
    obtain ⟨p, dx, t, xs, rfl, h1, h2, h3, h4⟩ := rep_rul.mp r1
    exact ⟨p, G.rc, dx, q, [some (.ref t)], 0, .ref t, rfl, .inr ⟨w1.sub _ _ h1, w1.sub _ _ h2⟩, c, s, rfl, q1 H1 B1 φ1 Xt.refl w1 _ (rep_tup.mpr ⟨t, xs, rfl, h3, h4⟩)⟩
  · exact q1.elim
/-- self.parts = e, in __init__ -/
def sParts (i : Nat) (f : Ef) : Sf := fun ρ S => (f ρ S).toS ρ fun d S1 => match d, ρ[i]?, S1 with
  | .p (.tup ds), some (some (.hnd 0)), [.raw 1, .dead] => .ok (.nx ρ) [.slt 1 ds, .dead]
  | _, _, _ => .bad
theorem dp_parts {i : Nat} {y : Str} {a : Str} {q : Addr} {pos' py : Pos} (c : SlX.SCls X.K G.rc) (s : SlX.Slot1 X.K G.rc a q 0) (hN : X.N[i]? = some y) (hv : Vis X.env.scope y) (he : PE X e (tD G W ef))
    (hs : swapsWith e (some (.Attribute (.Name y py) a pos')) pos.line X.env = pure false := by rfl) (hd : (y == ("__debug__" : Str)) = false := by decide) (hcd : (y == ("__classdict__" : Str)) = false := by decide) :
    PS X (.Assign [.Attribute (.Name y py) a pos'] e pos) (tS G W (sParts i ef)) := by
  refine wkS (SlX.ps_sl (pe_var hN hv hd hcd) he hs) fun D σ H ⟨ρ, B, φ, S, w, en, h⟩ => tD.run w en (WPS.fst en h) fun d v H1 B1 φ1 S1 x1 w1 en1 r1 q1 => ?_
  split at q1
  · rename_i ds hi
    obtain ⟨v0, hσ, a0, hφ, rfl⟩ := en1.at_ i _ hi
    obtain ⟨b1, dx, e1, b2, hne, h1, o, h2⟩ : CellR G H1 B1 φ1 a0 (.raw 1) := w1.cell 0 a0 _ hφ rfl
    obtain ⟨t, xs, rfl, s1, rs⟩ := rep_tup.mp r1
    have hl : φ1.length = 2 := w1.len
    have e1 : φ1[1]? = some dx := e1
    have hφ : φ1[0]? = some a0 := hφ
    have eφ : φ1 = [a0, dx] := by
      match φ1, hl, hφ, e1 with
      | [u1, u2], _, hφ, e1 => cases hφ; cases e1; rfl
    subst eφ
    refine ⟨.ref a0, hσ, a0, G.rc, dx, q, [], 0, rfl, .inl ⟨h1, rfl⟩, c, s, ?_⟩
    have eH : SlX.slH H1 a0 G.rc dx (SlX.putS 0 (V.ref t) []) = upd (upd H1 dx (.xd [])) a0 (SlX.SlO a0 G.rc dx [some (.ref t)]) := rfl
    rw [eH]
    have e2 : upd (upd H1 dx (.xd [])) a0 (SlX.SlO a0 G.rc dx [some (.ref t)]) dx = some (.xd []) := by rw [upd_ne hne, upd_same]
    refine q1 _ B1 [a0, dx] ⟨Same.refl _, List.prefix_refl _, fun b u z1 z2 z3 => ?_⟩ ⟨fun b u z => ?_, w1.nd, rfl, fun i' a' c' z1 z2 => ?_, fun i' j' c' z1 z2 => ?_⟩ σ en1
    · have n1 : b ≠ a0 := fun z => z3 (by simp [z])
      have n2 : b ≠ dx := fun z => z3 (by simp [z])
      exact ⟨by rw [upd_ne n1, upd_ne n2]; exact z1, z2, z3⟩
    · have n1 : b ≠ a0 := fun y => by subst y; rw [b1] at z; cases z
      have n2 : b ≠ dx := fun y => by subst y; rw [b2] at z; cases z
      rw [upd_ne n1, upd_ne n2]; exact w1.sub _ _ z
    · match i', z1, z2 with
      | 0, z1, z2 =>
        cases z1
        cases z2
        exact ⟨b1, dx, t, xs, rfl, b2, hne, upd_same, e2, s1, rs⟩
      | 1, z1, z2 =>
        cases z1
        cases z2
        exact ⟨_, e2⟩
      | i' + 2, z1, _ => simp at z1
    · match i', z1 with
      | 0, z1 =>
        cases z1
        cases z2
        rfl
      | 1, z1 =>
        cases z1
        cases z2
      | i' + 2, z1 => simp at z1
  · exact q1.elim
/-! ### a tuple of the written part, a dict of it -/
theorem de_globT {a : Addr} {ds : List D} {xs : List V} (hg : Gl X x) (hm : X.mg x = some (.ref a)) (hq : SqT G.K (fun _ => none) a xs) (hr : ∀ B, Reps G B ds xs) (hd : (x == ("__debug__" : Str)) = false := by decide) : PE X (.Name x pos) (tD G W (dC (.tup ds))) :=
  wkE (pe_glob hg hm (v := .ref a) rfl hd) fun σ H Q ⟨ρ, B, φ, S, w, en, h⟩ => h H B φ Xt.refl w _ (rep_tup.mpr ⟨a, xs, rfl, sqT_mono (fun _ _ z => by cases z) hq, hr B⟩)
theorem de_globI {i : Int} {t : Tok} (hg : Gl X x) (hm : X.mg x = some (.int i t)) (hd : (x == ("__debug__" : Str)) = false := by decide) : PE X (.Name x pos) (tD G W (dC (.int i))) :=
  wkE (pe_glob hg hm (v := .int i) ⟨_, rfl⟩ hd) fun σ H Q ⟨ρ, B, φ, S, w, en, h⟩ => h H B φ Xt.refl w _ (rep_int.mpr rfl)
/-- T[e], T a written dict of texts to tuples -/
def dTab (tab : List (Str × List D)) (f : Ef) : Ef := fun ρ S => (f ρ S).bind fun d S1 => match d with
  | .p (.str z) => match tab.lookup z with
    | some ds => .ok (.p (.tup ds)) S1
    | none => .bad
  | _ => .bad
theorem de_tab {a : Addr} {tab : List (Str × List D)} (hK : X.K = G.K) (hg : Gl X x) (hm : X.mg x = some (.ref a)) (ht : ∀ z ds, tab.lookup z = some ds → ∃ b xs, KDct X.K X.w a z (.ref b) ∧ SqT G.K (fun _ => none) b xs ∧ ∀ B, Reps G B ds xs)
    (he : PE X e (tD G W ef)) (hs : PlainIx e) (hd : (x == ("__debug__" : Str)) = false := by decide) : PE X (.Subscript (.Name x p) e pos) (tD G W (dTab tab ef)) := by
  refine wkE (pe_ix ix_kdict (pe_glob hg hm (v := .ref a) rfl hd) he hs) fun σ H Q ⟨ρ, B, φ, S, w, en, h⟩ => ?_
  show tD G W ef σ H _
  refine tD.run w en (WP.fst h) fun d v H1 B1 φ1 S1 x1 w1 en1 r1 q1 => ?_
  split at q1
  · rename_i z
    split at q1
    · rename_i ds hl
      obtain ⟨b, xs, k1, k2, k3⟩ := ht z ds hl
      exact ⟨a, z, .ref b, rfl, rep_str.mp r1, k1, q1 H1 B1 φ1 Xt.refl w1 _ (rep_tup.mpr ⟨b, xs, rfl, sqT_mono (fun _ _ z => by cases z) k2, k3 B1⟩)⟩
    · exact q1.elim
  · exact q1.elim
end
end DL

namespace DL
open PySem L2
open PySem.Spec PyProof.Rows
section
variable {X : Cx} {G : Gx} {W : WX} {k n : Nat} {f : Addr} {fd : FuncData} {ps : List Str} {x : Str} {p pos : Pos} {e : Expr} {es : List Expr} {af : Af} {ef eg eh : Ef} {H B H' B' : Hp} {φ φ' : List Addr} {S : Sto} {σ : L2.St} {Q : VK}
/-! ### isinstance with built-in classes -/
def tyOf (S : Sto) : Dv → Option String
  | .p .non => some "NoneType"
  | .p (.bl _) => some "bool"
  | .p (.int _) => some "int"
  | .p (.str _) => some "str"
  | .p (.tup _) => some "tuple"
  | .p (.lst _) => some "list"
  | .p (.dki _) => some "dict"
  | .hnd n => match S[n]? with
    | some (.lst _) => some "list"
    | _ => none
  | _ => none
theorem tyOf_at {d : Dv} {v : V} {t : String} (w : Wd G H B φ S) (r : RepV G B φ d v) (h : tyOf S d = some t) : TyX G.K H v (.type t) := by
  unfold tyOf at h
  split at h
  · cases h; rw [rep_non.mp r]; exact .base .non
  · cases h; rw [rep_bl.mp r]; exact .base (.bl _)
  · cases h; rw [rep_int.mp r]; exact .base (.int _)
  · cases h; rw [rep_str.mp r]; exact .base (.str _)
  · cases h
    obtain ⟨a, xs, rfl, h1, _⟩ := rep_tup.mp r
    rcases h1 with (h1 | ⟨o, h1⟩) | ⟨o, its, n, h1, h2, _⟩
    · exact .base (.tup (w.sub _ _ h1))
    · exact .fTuple (w.sub _ _ h1)
    · exact .kTuple h1 h2
  · cases h
    obtain ⟨a, xs, rfl, h1, _⟩ := rep_lst.mp r
    exact .base (.lst (w.sub _ _ h1))
  · cases h
    have r : Rep G B (.dki _) v := r
    unfold Rep at r
    obtain ⟨a, rfl, h1⟩ := r
    exact .base (.dK (w.sub _ _ h1))
  · split at h
    · rename_i ds hs
      cases h
      obtain ⟨a, h1, rfl⟩ := r
      obtain ⟨_, xs, h3, _⟩ := w.cell _ a _ h1 hs
      exact .base (.lst h3)
    · cases h
  · cases h
def dIs (T : String) (f : Ef) : Ef := fun ρ S => (f ρ S).bind fun d S1 => match tyOf S1 d with
  | some t => match kitB t T with
    | some b => .ok (.p (.bl b)) S1
    | none => .bad
  | none => .bad
theorem de_is {T : Str} {Ts : String} {pT : Pos} (hK : X.K = G.K) (he : PE X e (tD G W ef)) (hg : Gl X "isinstance") (hm : X.mg "isinstance" = none) (hgT : Gl X T) (hmT : X.mg T = none) (hvT : bootBuiltins T = some (.type Ts)) (hnT : T ≠ "__name__") (hdT : (T == ("__debug__" : Str)) = false)
    (h1 : starEach [e, .Name T pT] X.env = (false, eval e X.env) :: starEach [.Name T pT] X.env := by rfl) (h2 : starEach [.Name T pT] X.env = (false, eval (.Name T pT) X.env) :: starEach [] X.env := by rfl) (hpl : (backTo pos (starEach [.Name T pT] X.env)).any (·.1) = false := by rfl) :
    PE X (.Call (.Name "isinstance" p) [e, .Name T pT] [] pos) (tD G W (dIs Ts ef)) := by
  refine wkE (pe_callB call_isi hg hm boot_isinstance (pa_cons he (pa_cons (pe_bltn hgT hmT hvT (v := .ty Ts) rfl hnT hdT) pa_nil h2) h1) (by decide) (by decide) h1 hpl) fun σ H Q ⟨ρ, B, φ, S, w, en, h⟩ => tD.run w en (WP.fst h) fun d v H1 B1 φ1 S1 x1 w1 en1 r1 q1 => ?_
  split at q1
  · rename_i t ht
    split at q1
    · rename_i b hb
      exact ⟨v, .ty Ts, .type t, .type Ts, b, rfl, .ty Ts, hK ▸ tyOf_at w1 r1 ht, kit_ty hb, q1 H1 B1 φ1 Xt.refl w1 _ (rep_bl.mpr rfl)⟩
    · exact q1.elim
  · exact q1.elim
end
end DL

namespace DL
open PySem L2
open PySem.Spec PyProof.Rows
section
variable {X : Cx} {G : Gx} {W : WX} {k n : Nat} {f : Addr} {fd : FuncData} {ps : List Str} {x : Str} {p pos : Pos} {e : Expr} {es : List Expr} {af : Af} {ef eg eh : Ef} {H B H' B' : Hp} {φ φ' : List Addr} {S : Sto} {σ : L2.St} {Q : VK}
/-! ### o[i] = e, o.append(e), slices -/
def sSetI (fo fi fe : Ef) : Sf := fun ρ S => (fe ρ S).toS ρ fun d S1 => (fo ρ S1).toS ρ fun o S2 => (fi ρ S2).toS ρ fun i S3 => match o, i with
  | .hnd n, .p (.int k) => match S3[n]? with
    | some (.lst ds) => match ixN ds.length k, d with
      | some j, .p d' => .ok (.nx ρ) (S3.set n (.lst (ds.set j d')))
      | _, _ => .bad
    | some (.rcd ds) => match ixN ds.length k with
      | some j => .ok (.nx ρ) (S3.set n (.rcd (ds.set j d)))
      | none => .bad
    | _ => .bad
  | _, _ => .bad
theorem dp_setI {o i : Expr} {pt : Pos} (he : PE X e (tD G W eh)) (ho : PE X o (tD G W ef)) (hi : PE X i (tD G W eg))
    (ha : ∀ v, assign (.Subscript o i pt) X.env v = (do
      let ov ← holding [v] (eval o X.env)
      let iv ← holding [v, ov] (eval i X.env)
      standAt pt
      holding [v, ov, iv] (setItem ov iv v)
      release [v, ov, iv] []) := by intro _; rfl)
    (hs : swapsWithSole [.Subscript o i pt] e pos.line X.env = pure false := by rfl) (hw : swappedStores [.Subscript o i pt] e X.env = pure none := by rfl)
    (h1 : (assignEach [.Subscript o i pt] X.env).map (·.2) = [assign (.Subscript o i pt) X.env] := by rfl) : PS X (.Assign [.Subscript o i pt] e pos) (tS G W (sSetI ef eg eh)) := by
  refine wkS (ps_asg he (pg_sub ho hi set_list ha) hs hw h1) fun D σ H ⟨ρ, B, φ, S, w, en, h⟩ => tD.run w en (WPS.fst en h) fun d v H1 B1 φ1 S1 x1 w1 en1 r1 q1 => ?_
  refine tD.run w1 en1 (WPS.fst en1 q1) fun o v2 H2 B2 φ2 S2 x2 w2 en2 r2 q2 => ?_
  refine tD.run w2 en2 (WPS.fst en2 q2) fun i v3 H3 B3 φ3 S3 x3 w3 en3 r3 q3 => ?_
  have r1' := RepV.mono (x2.b.trans x3.b) (x2.p.trans x3.p) _ r1
  have r2' := RepV.mono x3.b x3.p _ r2
  split at q3
  · rename_i n kk
    obtain ⟨a, hφ, rfl⟩ := r2'
    have e3 := rep_int.mp r3
    subst e3
    split at q3
    · rename_i ds hs
      split at q3
      · rename_i j d' hj
        obtain ⟨hb, xs, hx, rr⟩ : CellR G H3 B3 φ3 a (.lst ds) := w3.cell n a _ hφ hs
        refine ⟨a, xs, kk, j, rfl, rfl, hx, by rw [← rr.length]; exact hj, ?_⟩
        have r1'' : Rep G B3 d' v := r1'
        exact q3 _ B3 φ3 (Xt.set hφ) (w3.set hφ hs (fun z => nomatch z) hb ⟨hb, _, upd_same, rr.set j r1''⟩ rfl) σ en3
      · exact q3.elim
    · rename_i ds hs
      split at q3
      · rename_i j hj
        obtain ⟨hb, xs, hx, rr⟩ : CellR G H3 B3 φ3 a (.rcd ds) := w3.cell n a _ hφ hs
        refine ⟨a, xs, kk, j, rfl, rfl, hx, by rw [← rr.length]; exact hj, ?_⟩
        exact q3 _ B3 φ3 (Xt.set hφ) (w3.set hφ hs (fun z => nomatch z) hb ⟨hb, _, upd_same, rr.set j r1'⟩ rfl) σ en3
      · exact q3.elim
    · exact q3.elim
  · exact q3.elim
def dApp (fo fe : Ef) : Ef := fun ρ S => (fo ρ S).bind fun o S1 => match o with
  | .hnd n => match S1[n]? with
    | some (.lst _) => (fe ρ S1).bind fun d S2 => match d, S2[n]? with
      | .p d', some (.lst ds) => if ds.length < big then .ok (.p .non) (S2.set n (.lst (ds ++ [d']))) else .bad
      | _, _ => .bad
    | _ => .bad
  | _ => .bad
theorem de_app {o : Expr} {apos : Pos} (ho : PE X o (tD G W ef)) (he : PE X e (tD G W eg))
    (hbase : attributeBase o "append" X.env (eval o X.env) = eval o X.env := by rfl)
    (hfew : ((backTo pos (starEach [e] X.env)).all (fun x => !x.1) && (backToKw pos (keywordEach [] X.env)).all (fun x => x.1.isSome) && decide ([e].length + ([] : List Keyword).length + (if ([] : List Keyword).isEmpty then 0 else 1) < 30)) = true := by rfl)
    (hline : (apos.endLine == pos.line) = true := by rfl) (hs : starEach [e] X.env = (false, eval e X.env) :: starEach [] X.env := by rfl) (hpl : (backTo pos (starEach [] X.env)).any (·.1) = false := by rfl) :
    PE X (.Call (.Attribute o "append" apos) [e] [] pos) (tD G W (dApp ef eg)) := by
  refine wkE (pe_bm PySem.F.plainAttrs_list PySem.F.slot_list_append PySem.F.type_list_append mt_append ho (pa_cons he pa_nil hs) hbase hfew hline hs hpl) fun σ H Q ⟨ρ, B, φ, S, w, en, h⟩ => tD.run w en (WP.fst h) fun o v H1 B1 φ1 S1 x1 w1 en1 r1 q1 => ?_
  split at q1
  · rename_i n
    split at q1
    · rename_i ds0 hs0
      have r1 : ∃ a, φ1[n]? = some a ∧ v = .ref a := r1
      obtain ⟨a, hφ, rfl⟩ := r1
      have c0 : CellR G H1 B1 φ1 a (.lst ds0) := w1.cell n a _ hφ hs0
      obtain ⟨_, xs0, hx0, _⟩ := c0
      refine ⟨.inl ⟨rfl, xs0, SqL.of hx0⟩, ?_⟩
      show tD G W eg σ H1 _
      refine tD.run w1 en1 (WP.fst q1) fun d v2 H2 B2 φ2 S2 x2 w2 en2 r2 q2 => ?_
      split at q2
      · rename_i d' ds hs
        split at q2
        · rename_i hl
          have hφ2 : φ2[n]? = some a := by
            obtain ⟨t, rfl⟩ := x2.p
            rw [List.getElem?_append_left (List.getElem?_eq_some_iff.mp hφ).1]; exact hφ
          have c2 : CellR G H2 B2 φ2 a (.lst ds) := w2.cell n a _ hφ2 hs
          obtain ⟨hb, xs, hx, rr⟩ := c2
          refine ⟨a, xs, v2, rfl, rfl, hx, by rw [← rr.length, ← big_eq]; exact hl, ?_⟩
          have r2 : Rep G B2 d' v2 := r2
          exact q2 _ B2 φ2 (Xt.set hφ2) (w2.set hφ2 hs (fun z => nomatch z) hb ⟨hb, _, upd_same, rr.append (Reps.cons r2 Reps.nil)⟩ rfl) _ (rep_non.mpr rfl)
        · exact q2.elim
      · exact q2.elim
    · exact q1.elim
  · exact q1.elim
/-! slices -/
def cutD (ds : List D) (lo hi : Option Int) : List D := (ds.drop (HT.sIx ds.length 0 lo)).take (HT.sIx ds.length ds.length hi - HT.sIx ds.length 0 lo)
theorem cut_rep {ds : List D} {vs : List V} {lo hi : Option Int} (r : Reps G B ds vs) : Reps G B (cutD ds lo hi) (cutV vs lo hi) := by
  unfold cutD cutV
  rw [← r.length]
  exact (r.drop _).take _
abbrev Pf := Nv → Sto → Out (Option Int)
def pNo : Pf := fun _ S => .ok none S
def pAt (f : Ef) : Pf := fun ρ S => (f ρ S).bind fun d S1 => match d with
  | .p (.int i) => .ok (some i) S1
  | _ => .bad
def tP (G : Gx) (W : WX) (f : Pf) : TO := fun σ H Q => ∃ ρ B φ S, Wd G H B φ S ∧ EnvR G B φ σ ρ ∧ WP G W σ H B φ (f ρ S) fun o H' _ _ _ => Q o H'
theorem wkO {e : Option Expr} {t t' : TO} (h : L2.PO X e t) (k : ∀ σ H Q, t' σ H Q → t σ H Q) : L2.PO X e t' := ⟨fun pins s σ H Q I q => h.run pins s σ H Q I (k σ H Q q)⟩
theorem do_no : L2.PO X none (tP G W pNo) := wkO po_none fun σ H Q ⟨ρ, B, φ, S, w, en, h⟩ => h H B φ Xt.refl w
theorem do_at (he : PE X e (tD G W ef)) : L2.PO X (some e) (tP G W (pAt ef)) := by
  refine wkO (po_some he) fun σ H Q ⟨ρ, B, φ, S, w, en, h⟩ => tD.run w en (WP.fst h) fun d v H1 B1 φ1 S1 x1 w1 en1 r1 q1 => ?_
  split at q1
  · exact ⟨_, rep_int.mp r1, q1 H1 B1 φ1 Xt.refl w1⟩
  · exact q1.elim
def dSl (f : Ef) (l h : Pf) : Ef := fun ρ S => (f ρ S).bind fun d S1 => (l ρ S1).bind fun lo S2 => (h ρ S2).bind fun hi S3 => match d with
  | .p (.tup ds) => if HT.sIx ds.length 0 lo = 0 ∧ HT.sIx ds.length ds.length hi = ds.length then .bad else .ok (.p (.tup (cutD ds lo hi))) S3
  | x => match vw S3 x with
    | some ds => .ok (.p (.lst (cutD ds lo hi))) S3
    | none => .bad
theorem de_slice {lo hi : Option Expr} {lf hf : Pf} {p2 : Pos} (hK : X.K = G.K) (he : PE X e (tD G W ef)) (hl : L2.PO X lo (tP G W lf)) (hh : L2.PO X hi (tP G W hf)) : PE X (.Subscript e (.Slice lo hi none p2) pos) (tD G W (dSl ef lf hf)) := by
  refine wkE (pe_slice (sl_list.or sl_tup) he hl hh) fun σ H Q ⟨ρ, B, φ, S, w, en, h⟩ => tD.run w en (WP.fst h) fun d v H1 B1 φ1 S1 x1 w1 en1 r1 q1 => ?_
  refine ⟨ρ, B1, φ1, S1, w1, en1, (WP.fst q1).mono fun lo H2 B2 φ2 S2 x2 w2 q2 => ?_⟩
  refine ⟨ρ, B2, φ2, S2, w2, en1.mono x2.b x2.p, (WP.fst q2).mono fun hi H3 B3 φ3 S3 x3 w3 q3 => ?_⟩
  have r3 := RepV.mono (x2.b.trans x3.b) (x2.p.trans x3.p) _ r1
  split at q3
  · split at q3
    · exact q3.elim
    · rename_i ds hw
      obtain ⟨a, xs, rfl, s1, rr⟩ := rep_tup.mp r3
      refine .inr ⟨a, xs, rfl, hK ▸ sqT_mono w3.sub s1, by rw [← rr.length]; exact hw, fun p hp => ?_⟩
      exact q3 _ _ _ (Xt.alloc w3 hp) (w3.alloc hp) _ (rep_tup.mpr ⟨p, _, rfl, SqT.of upd_same, Reps.mono (same_upd' (w3.bfree hp)) _ (cut_rep rr)⟩)
  · split at q3
    · rename_i ds hs
      obtain ⟨a, xs, rfl, s1, rr⟩ := vw_at w3 r3 hs
      refine .inl ⟨a, xs, rfl, SqL.of s1, fun p hp => ?_⟩
      exact q3 _ _ _ (Xt.alloc w3 hp) (w3.alloc hp) _ (rep_lst.mpr ⟨p, _, rfl, upd_same, Reps.mono (same_upd' (w3.bfree hp)) _ (cut_rep rr)⟩)
    · exact q3.elim
end
end DL

namespace DL
open PySem L2
open PySem.Spec PyProof.Rows
def sBad : Sf := fun _ _ => .bad
section
variable {X : Cx} {G : Gx} {W : WX} {e e2 : Expr} {ef eg : Ef} {pos p : Pos} {B : Hp} {st : Stmt} {sts : List Stmt}
/-- code that is never come to -/
theorem dp_never : PS X st (tS G W sBad) := wkS ps_never fun D σ H ⟨ρ, B, φ, S, w, en, h⟩ => h
theorem ds_never : PSs X sts (tS G W sBad) := wkSs pss_never fun D σ H ⟨ρ, B, φ, S, w, en, h⟩ => h
/-! zip, enumerate -/
def zipD : List D → List D → List D
  | x :: xs, y :: ys => .tup [x, y] :: zipD xs ys
  | _, _ => []
theorem zipD_get : ∀ (xs ys : List D) (i : Nat), (zipD xs ys)[i]? = match xs[i]?, ys[i]? with
    | some x, some y => some (.tup [x, y])
    | _, _ => none
  | [], ys, i => by unfold zipD; simp
  | x :: xs, [], i => by unfold zipD; cases (x :: xs)[i]? <;> simp
  | x :: xs, y :: ys, 0 => by unfold zipD; simp
  | x :: xs, y :: ys, i + 1 => by
    unfold zipD
    simp only [List.getElem?_cons_succ]
    exact zipD_get xs ys i
theorem zipD_len : ∀ (xs ys : List D), (zipD xs ys).length = min xs.length ys.length
  | [], ys => by unfold zipD; simp
  | x :: xs, [] => by unfold zipD; simp
  | x :: xs, y :: ys => by
    unfold zipD
    rw [List.length_cons, zipD_len xs ys, List.length_cons, List.length_cons]
    omega
/-- a new pair at each turn -/
theorem pair_new {H B : Hp} {φ : List Addr} {S : Sto} {T : Addr} {x y : V} {d d' : D} (w : Wd G H B φ S) (hT : H T = none) (r : Rep G B d x) (r' : Rep G B d' y) :
    Xt H B φ (upd H T (.tup [x, y])) (upd B T (.tup [x, y])) φ ∧ Wd G (upd H T (.tup [x, y])) (upd B T (.tup [x, y])) φ S ∧ Rep G (upd B T (.tup [x, y])) (.tup [d, d']) (.ref T) :=
  ⟨Xt.alloc w hT, w.alloc hT, (rep_tup (φ := [])).mpr ⟨T, _, rfl, SqT.of upd_same, Reps.mono (same_upd' (w.bfree hT)) _ (Reps.cons r (Reps.cons r' Reps.nil))⟩⟩
theorem yl_zipT {a b : Addr} {xs ys : List V} {ds es : List D} (h : SqT G.K B a xs) (r : Reps G B ds xs) (h' : SqT G.K B b ys) (r' : Reps G B es ys) : Yl G (RZ.ItzT G.K a b) (zipD ds es) B := by
  intro i H B1 φ S w sb
  have hq : SqT G.K H a xs := sqT_mono w.sub (sqT_mono sb h)
  have hq' : SqT G.K H b ys := sqT_mono w.sub (sqT_mono sb h')
  have l1 := r.length
  have l2 := r'.length
  rw [zipD_len]
  refine ⟨fun hi => ?_, fun hi => ⟨xs, ys, hq, hq', by omega⟩⟩
  have i1 : i < ds.length := by omega
  have i2 : i < es.length := by omega
  obtain ⟨v, hv, rv⟩ := r.get (List.getElem?_eq_getElem i1)
  obtain ⟨u, hu, ru⟩ := r'.get (List.getElem?_eq_getElem i2)
  refine ⟨⟨xs, ys, v, u, hq, hq', hv, hu⟩, fun z H' ⟨T, x, y, e1, hT, e2, q1, q2⟩ => ?_⟩
  subst e1 e2
  have ex : x = v := Option.some.inj ((q1 xs hq).symm.trans hv)
  have ey : y = u := Option.some.inj ((q2 ys hq').symm.trans hu)
  subst ex ey
  obtain ⟨x3, w3, r3⟩ := pair_new w hT (Rep.mono sb _ rv) (Rep.mono sb _ ru)
  exact ⟨_, _, by rw [zipD_get, List.getElem?_eq_getElem i1, List.getElem?_eq_getElem i2], x3, w3, r3⟩
def iZip (f g : Ef) : If := fun ρ S => (f ρ S).bind fun x S1 => (g ρ S1).bind fun y S2 => match x, y with
  | .p (.tup ds), .p (.tup es) => .ok (zipD ds es) S2
  | _, _ => .bad
theorem di_zip {elts : List Expr} {kk : Nat} {tpos : Pos} (hK : X.K = G.K) (hg : Gl X "zip") (hm : X.mg "zip" = none) (ha : PE X e (tD G W ef)) (hb : PE X e2 (tD G W eg))
    (hs : starEach [e, e2] X.env = (false, eval e X.env) :: starEach [e2] X.env := by rfl) (hs2 : starEach [e2] X.env = (false, eval e2 X.env) :: starEach [] X.env := by rfl) (hpl : (backTo pos (starEach [e2] X.env)).any (·.1) = false := by rfl) :
    PI X (.Tuple elts kk tpos) (.Call (.Name "zip" p) [e, e2] [] pos) (tI G W (iZip ef eg)) := by
  refine wkI (RZ.pi_zipA hg hm (pa_cons ha (pa_cons hb pa_nil hs2) hs) hs hpl) fun σ H R ⟨ρ, B, φ, S, w, en, h⟩ => tD.run w en (WP.fst h) fun d v H1 B1 φ1 S1 x1 w1 en1 r1 q1 => ?_
  refine tD.run w1 en1 (WP.fst q1) fun d2 v2 H2 B2 φ2 S2 x2 w2 en2 r2 q2 => ?_
  have r1 := RepV.mono x2.b x2.p _ r1
  split at q2
  · obtain ⟨a, xs, rfl, s1, q3⟩ := rep_tup.mp r1
    obtain ⟨b, ys, rfl, s2, q4⟩ := rep_tup.mp r2
    rw [hK]
    exact ⟨a, b, xs, ys, rfl, .inr ⟨sqT_mono w2.sub s1, sqT_mono w2.sub s2, q2 H2 B2 φ2 Xt.refl w2 _ (yl_zipT s1 q3 s2 q4)⟩⟩
  · exact q2.elim
def enumD : Nat → List D → List D
  | _, [] => []
  | n, d :: ds => .tup [.int (n : Nat), d] :: enumD (n + 1) ds
theorem enumD_len : ∀ (n : Nat) (ds : List D), (enumD n ds).length = ds.length
  | _, [] => rfl
  | n, d :: ds => by unfold enumD; rw [List.length_cons, List.length_cons, enumD_len]
theorem enumD_get : ∀ (n : Nat) (ds : List D) (i : Nat) (d : D), ds[i]? = some d → (enumD n ds)[i]? = some (.tup [.int ((n + i : Nat) : Int), d])
  | _, [], _, _, h => by simp at h
  | n, d :: ds, 0, _, h => by simp at h; subst h; unfold enumD; rfl
  | n, d :: ds, i + 1, _, h => by
    unfold enumD
    rw [List.getElem?_cons_succ, enumD_get (n + 1) ds i _ (by simpa using h), show n + 1 + i = n + (i + 1) by omega]
theorem yl_enum {a : Addr} {xs : List V} {ds : List D} (h : SqL G.K B a xs) (r : Reps G B ds xs) : Yl G (Ite G.K a) (enumD 0 ds) B := by
  intro i H B1 φ S w sb
  have hq : SqL G.K H a xs := w.sub.seq (sb.seq h)
  have l1 := r.length
  rw [enumD_len]
  refine ⟨fun hi => ?_, fun hi => ⟨xs, hq, by omega⟩⟩
  obtain ⟨v, hv, rv⟩ := r.get (List.getElem?_eq_getElem hi)
  refine ⟨⟨xs, v, hq, hv⟩, fun z H' ⟨T, x, e1, hT, e2, q1⟩ => ?_⟩
  subst e1 e2
  have ex : x = v := Option.some.inj ((q1 xs hq).symm.trans hv)
  subst ex
  obtain ⟨x3, w3, r3⟩ := pair_new w hT (rpi (i : Nat)) (Rep.mono sb _ rv)
  exact ⟨_, _, by rw [enumD_get 0 ds i _ (List.getElem?_eq_getElem hi), Nat.zero_add], x3, w3, r3⟩
def iEnumL (f : Ef) : If := fun ρ S => (f ρ S).bind fun x S1 => match x with
  | .p (.lst ds) => .ok (enumD 0 ds) S1
  | _ => .bad
theorem di_enum {elts : List Expr} {kk : Nat} {tpos : Pos} (hK : X.K = G.K) (hg : Gl X "enumerate") (hm : X.mg "enumerate" = none) (ha : PE X e (tD G W ef))
    (hs : starEach [e] X.env = [(false, eval e X.env)] := by rfl) : PI X (.Tuple elts kk tpos) (.Call (.Name "enumerate" p) [e] [] pos) (tI G W (iEnumL ef)) := by
  refine wkI (pi_enum hg hm (pa_cons ha pa_nil hs) hs) fun σ H R ⟨ρ, B, φ, S, w, en, h⟩ => tD.run w en (WP.fst h) fun d v H1 B1 φ1 S1 x1 w1 en1 r1 q1 => ?_
  split at q1
  · obtain ⟨a, xs, rfl, s1, q3⟩ := rep_lst.mp r1
    have s2 : SqL G.K B1 a xs := SqL.of s1
    rw [hK]
    exact ⟨a, xs, rfl, w1.sub.seq s2, q1 H1 B1 φ1 Xt.refl w1 _ (yl_enum s2 q3)⟩
  · exact q1.elim
end
/-! ### the law's end -/
theorem law_end {G : Gx} {K : PySem.W.Frag} {m : List Dv → Sto → Out Dv} (hK : G.K = K) (hm : ∀ ns : List Int, ns.length ≤ 63 → ∃ S, m [.p (.scr ns)] [] = .ok (.p (.bl true)) S)
    {H : Hp} {a : Addr} {ns : List Int} (hl : ns.length ≤ 63) (hs : SqL K H a (ns.map V.int)) : spE G 1 m [.ref a] H (fun v _ => v = .bl true) fun _ _ _ => False := by
  obtain ⟨S, e⟩ := hm ns hl
  refine ⟨H, [], [], [.p (.scr ns)], Wd.none (Same.refl _), ⟨_, _, rfl, rep_scr.mpr ⟨a, rfl, hK ▸ hs⟩, rfl⟩, rfl, ?_⟩
  rw [e]
  exact fun H' B' φ' _ _ v r => rep_bl.mp r
end DL

namespace DL
open PySem L2
open PySem.Spec PyProof.Rows
section
variable {X : Cx} {G : Gx} {W : WX} {e e2 : Expr} {ef eg eh : Ef} {pos p p2 : Pos} {H B : Hp} {φ : List Addr} {S : Sto} {σ : L2.St} {ρ : Nv} {sts : List Stmt} {g : Sf}
/-! a cell's list is given up -/
def sFz (i : Nat) (g : Sf) : Sf := fun ρ S => match ρ[i]? with
  | some (some (.hnd n)) => match S[n]? with
    | some (.lst ds) => g (ρ.set i (some (.p (.lst ds)))) (S.set n .dead)
    | _ => g ρ S
  | _ => g ρ S
theorem ds_fz {i : Nat} (h : PSs X sts (tS G W g)) : PSs X sts (tS G W (sFz i g)) := by
  refine wkSs h fun D σ H ⟨ρ, B, φ, S, w, en, q⟩ => ?_
  unfold sFz at q
  split at q
  · rename_i n hi
    split at q
    · rename_i ds hs
      obtain ⟨v, hσ, a, hφ, rfl⟩ := en.at_ i _ hi
      obtain ⟨xs, h1, h2, h3, w2, x2⟩ := w.thaw hφ hs
      refine ⟨_, _, φ, _, w2, ⟨by rw [List.length_set]; exact en.len, fun j d hj => ?_⟩, WPS.rebase x2 q⟩
      by_cases hij : j = i
      · subst hij
        rw [List.getElem?_set_self (by
          have := (List.getElem?_eq_some_iff.mp hi).1
          exact this)] at hj
        cases hj
        exact ⟨.ref a, hσ, rep_lst.mpr ⟨a, xs, rfl, upd_same, Reps.mono x2.b _ h3⟩⟩
      · rw [List.getElem?_set_ne (Ne.symm hij)] at hj
        obtain ⟨u, u1, u2⟩ := en.at_ j d hj
        exact ⟨u, u1, RepV.mono x2.b x2.p d u2⟩
    · exact ⟨ρ, B, φ, S, w, en, q⟩
  · exact ⟨ρ, B, φ, S, w, en, q⟩
/-! list(range(..)), tuple(x), a chain as a test -/
def lrngOk (i j : Int) : Bool := rngOk i j && decide ((j - i).toNat ≤ 16777216)
theorem lrngOk_at {i j : Int} (h : lrngOk i j = true) : RgOk i j := by
  unfold lrngOk at h
  rw [Bool.and_eq_true, decide_eq_true_eq] at h
  obtain ⟨h1, h2, h3, h4⟩ := rngOk_at h.1
  exact ⟨h1, h2, h3, h4, h.2⟩
theorem reps_rng (i j : Int) : Reps G B (rngD i (j - i).toNat) (rgV i j) := by
  unfold rngD rgV
  have : ∀ l : List Nat, Reps G B (l.map fun k => D.int (i + (k : Nat))) (l.map fun k => V.int (i + (k : Nat))) := by
    intro l
    induction l with
    | nil => exact Reps.nil
    | cons a r ih => exact Reps.cons (rpi _) ih
  exact this _
def dLRng1 (f : Ef) : Ef := fun ρ S => (f ρ S).bind fun d S1 => match d with
  | .p (.int j) => if lrngOk 0 j = true then .ok (.p (.lst (rngD 0 j.toNat))) S1 else .bad
  | _ => .bad
def dLRng2 (f g : Ef) : Ef := fun ρ S => (f ρ S).bind fun d S1 => (g ρ S1).bind fun d2 S2 => match d, d2 with
  | .p (.int i), .p (.int j) => if lrngOk i j = true then .ok (.p (.lst (rngD i (j - i).toNat))) S2 else .bad
  | _, _ => .bad
theorem de_lrng1 {pl : Pos} (hc : X.calm = true) (hgl : Gl X "list") (hml : X.mg "list" = none) (hg : Gl X "range") (hm : X.mg "range" = none) (ha : PE X e (tD G W ef))
    (na : starEach [e] X.env = (false, eval e X.env) :: starEach [] X.env := by rfl) (na2 : starEach [Expr.Call (.Name "range" p) [e] [] p2] X.env = (false, eval (.Call (.Name "range" p) [e] [] p2) X.env) :: starEach [] X.env := by rfl) :
    PE X (.Call (.Name "list" pl) [.Call (.Name "range" p) [e] [] p2] [] pos) (tD G W (dLRng1 ef)) := by
  refine wkE (pe_listRg hc hgl hml (prg_1 hg hm ha na) na2) fun σ H Q ⟨ρ, B, φ, S, w, en, h⟩ => tD.run w en (WP.fst h) fun d v H1 B1 φ1 S1 x1 w1 en1 r1 q1 => ?_
  split at q1
  · rename_i j
    split at q1
    · rename_i hl
      refine ⟨j, rep_int.mp r1, lrngOk_at hl, fun q hq => ?_⟩
      have e0 : rngD 0 j.toNat = rngD 0 (j - 0).toNat := by rw [Int.sub_zero]
      exact q1 _ _ _ (Xt.alloc w1 hq) (w1.alloc hq) _ (rep_lst.mpr ⟨q, _, rfl, upd_same, by rw [e0]; exact reps_rng 0 j⟩)
    · exact q1.elim
  · exact q1.elim
theorem de_lrng2 {pl : Pos} (hc : X.calm = true) (hgl : Gl X "list") (hml : X.mg "list" = none) (hg : Gl X "range") (hm : X.mg "range" = none) (ha : PE X e (tD G W ef)) (hb : PE X e2 (tD G W eg))
    (na : starEach [e, e2] X.env = (false, eval e X.env) :: starEach [e2] X.env := by rfl) (nb : starEach [e2] X.env = (false, eval e2 X.env) :: starEach [] X.env := by rfl) (na2 : starEach [Expr.Call (.Name "range" p) [e, e2] [] p2] X.env = (false, eval (.Call (.Name "range" p) [e, e2] [] p2) X.env) :: starEach [] X.env := by rfl) (hpl : (backTo p2 (starEach [e2] X.env)).any (·.1) = false := by rfl) :
    PE X (.Call (.Name "list" pl) [.Call (.Name "range" p) [e, e2] [] p2] [] pos) (tD G W (dLRng2 ef eg)) := by
  refine wkE (pe_listRg hc hgl hml (prg_2 hg hm ha hb na nb (hp := hpl)) na2) fun σ H Q ⟨ρ, B, φ, S, w, en, h⟩ => tD.run w en (WP.fst h) fun d v H1 B1 φ1 S1 x1 w1 en1 r1 q1 => ?_
  refine tD.run w1 en1 (WP.fst q1) fun d2 v2 H2 B2 φ2 S2 x2 w2 en2 r2 q2 => ?_
  split at q2
  · rename_i i j
    split at q2
    · rename_i hl
      refine ⟨i, j, rep_int.mp r1, rep_int.mp r2, lrngOk_at hl, fun q hq => ?_⟩
      exact q2 _ _ _ (Xt.alloc w2 hq) (w2.alloc hq) _ (rep_lst.mpr ⟨q, _, rfl, upd_same, reps_rng i j⟩)
    · exact q2.elim
  · exact q2.elim
def nTuple : OpN := fun xs S => match xs with
  | [.p (.tup ds)] => .ok (.p (.tup ds)) S
  | [x] => match vw S x with
    | some ds => .ok (.p (.tup ds)) S
    | none => .bad
  | _ => .bad
theorem nTuple_ok : OkN G W (fun xs H Q => ∃ p ys, xs = [.ref p] ∧ ((SqL G.K H p ys ∧ ∀ l, H l = none → Q (.ref l) (upd H l (.tup ys))) ∨ (SqT G.K H p ys ∧ Q (.ref p) H))) nTuple := by
  intro H B φ S σ xs vs Q w r h
  unfold nTuple at h
  split at h
  · obtain ⟨v, rfl, rv⟩ := rvs1 r
    obtain ⟨a, ys, rfl, s1, q1⟩ := rep_tup.mp rv
    exact ⟨a, ys, rfl, .inr ⟨sqT_mono w.sub s1, h H B φ Xt.refl w _ rv⟩⟩
  · split at h
    · rename_i ds hs
      obtain ⟨v, rfl, rv⟩ := rvs1 r
      obtain ⟨a, ys, rfl, s1, q1⟩ := vw_at w rv hs
      exact ⟨a, ys, rfl, .inl ⟨SqL.of s1, fun l hl => h _ _ _ (Xt.alloc w hl) (w.alloc hl) _ (rep_tup.mpr ⟨l, _, rfl, SqT.of upd_same, Reps.mono (same_upd' (w.bfree hl)) _ q1⟩)⟩⟩
    · exact h.elim
  · exact h.elim
theorem dt_chain {a b c3 : Expr} {o o' : CmpOp} {r r' : R2} {op op' : Op2} (hq : PT X (.Compare a [o, o'] [b, c3] pos) (tTest (tChain r r' (tD G W ef) (tD G W eg) (tD G W eh)))) (h : Ok2 G W r op) (h' : Ok2 G W r' op') :
    PT X (.Compare a [o, o'] [b, c3] pos) (tT G W (cVal (dChain op op' ef eg eh))) := by
  refine wkT hq fun σ H Q ⟨ρ, B, φ, S, w, en, q⟩ => ?_
  have q := WP.fst q
  have fin : ∀ {H' B' φ' S'} (d : Dv) (v : V), Wd G H' B' φ' S' → RepV G B' φ' d v → WP G W σ H' B' φ' (match d with
    | .p (.bl b) => .ok b S'
    | _ => .bad : Out Bool) (fun b H' _ _ _ => Q b H') → ∃ k, v = .bl k ∧ Q k H' := by
    intro H' B' φ' S' d v w' r q
    split at q
    · exact ⟨_, rep_bl.mp r, q H' B' φ' Xt.refl w'⟩
    · exact q.elim
  show tChain r r' (tD G W ef) (tD G W eg) (tD G W eh) σ H fun x H' => ∃ k, x = .bl k ∧ Q k H'
  refine tD.run w en (WP.fst q) fun x v H1 B1 φ1 S1 x1 w1 en1 r1 q1 => ?_
  refine tD.run w1 en1 (WP.fst q1) fun y u H2 B2 φ2 S2 x2 w2 en2 r2 q2 => ?_
  refine h H2 B2 φ2 S2 σ x y v u _ w2 (RepV.mono x2.b x2.p x r1) r2 ((WP.fst q2).mono fun z H3 B3 φ3 S3 x3 w3 q3 v3 r3 => ?_)
  split at q3
  · rename_i t
    rw [rep_bl] at r3
    refine ⟨t, r3, ?_⟩
    cases t with
    | true =>
      rw [if_pos rfl] at q3
      rw [if_pos rfl]
      refine tD.run w3 (en2.mono x3.b x3.p) (WP.fst q3) fun u4 v4 H4 B4 φ4 S4 x4 w4 en4 r4 q4 => ?_
      refine h' H4 B4 φ4 S4 σ y u4 u v4 _ w4 (RepV.mono x4.b x4.p y (RepV.mono x3.b x3.p y r2)) r4 (q4.mono fun d H5 B5 φ5 S5 x5 w5 q5 v5 r5 => fin d v5 w5 r5 q5)
    | false =>
      rw [if_neg Bool.false_ne_true] at q3
      rw [if_neg Bool.false_ne_true]
      exact fin _ _ w3 (rep_bl.mpr rfl) (q3 H3 B3 φ3 Xt.refl w3)
  · exact q3.elim
/-! xs[::-1] -/
def dRev (f : Ef) : Ef := fun ρ S => (f ρ S).bind fun d S1 => match vw S1 d with
  | some ds => .ok (.p (.lst ds.reverse)) S1
  | none => .bad
theorem de_rev {k : Nat} {p1 p3 : Pos} (he : PE X e (tD G W ef)) : PE X (.Subscript e (.Slice none none (some (.UnaryOp .USub (.Constant (.int 1) k p1) p2)) p3) pos) (tD G W (dRev ef)) := by
  refine wkE (pe_revL he) fun σ H Q ⟨ρ, B, φ, S, w, en, h⟩ => tD.run w en (WP.fst h) fun d v H1 B1 φ1 S1 x1 w1 en1 r1 q1 => ?_
  split at q1
  · rename_i ds hs
    obtain ⟨a, xs, rfl, s1, rr⟩ := vw_at w1 r1 hs
    exact ⟨a, xs, rfl, SqL.of s1, fun l hl => q1 _ _ _ (Xt.alloc w1 hl) (w1.alloc hl) _ (rep_lst.mpr ⟨l, _, rfl, upd_same, Reps.mono (same_upd' (w1.bfree hl)) _ rr.reverse⟩)⟩
  · exact q1.elim
end
/-! ### ends -/
theorem tabL {α : Type} : ∀ {l : List (Str × α)} {z : Str} {d : α}, l.lookup z = some d → (z, d) ∈ l
  | (k, v) :: r, z, d, h => by
    rw [List.lookup_cons] at h
    cases hb : z == k with
    | true =>
      rw [hb] at h
      have := eq_of_beq hb
      subst this
      cases h
      exact List.mem_cons_self
    | false =>
      rw [hb] at h
      exact List.mem_cons_of_mem _ (tabL h)
def spS (K : PySem.W.Frag) : Sp := fun vs H Q E => ∃ (a : Addr) (ns : List Int), vs = [.ref a] ∧ ns.length ≤ 63 ∧ SqL K H a (ns.map V.int) ∧ Q = (fun v _ => v = .bl true) ∧ E = fun _ _ _ => False
theorem spS_to {G : Gx} {K : PySem.W.Frag} {m : List Dv → Sto → Out Dv} (hK : G.K = K) (hm : ∀ ns : List Int, ns.length ≤ 63 → ∃ S, m [.p (.scr ns)] [] = .ok (.p (.bl true)) S) {vs : List V} {H : Hp} {Q : VK} {E : XK} (h : spS K vs H Q E) : spE G 1 m vs H Q E := by
  obtain ⟨a, ns, rfl, hl, hs, rfl, rfl⟩ := h
  exact law_end hK hm hl hs
theorem cx_none {P : Program} {w : World} {H : Hp} {s : Shared} {e : Value} {s' : Shared} (h : L2.CX P w [] H s (fun _ _ _ => False) e s') : False := by
  obtain ⟨_, _, _, _, _, _, _, _, _, _, _, _, z⟩ := h
  exact z.elim
end DL

namespace DL
open PySem L2
open PySem.Spec PyProof.Rows
section
variable {X : Cx} {G : Gx} {W : WX} {e e2 : Expr} {ef eg eh : Ef} {p p2 pos : Pos} {H B : Hp} {φ : List Addr} {S : Sto} {σ : L2.St} {ρ : Nv} {sts : List Stmt} {f g : Sf}
/-! ### raise -/
theorem pmk_bare {x : Str} {C : Addr} {bmB : List Value} {bn newId initId : String} (F : ExcBaseFacts bn newId initId bmB) (q : PySem.W.excIn X.K C bmB newId = true) (gC : X.mg x = some (.ref C)) (kC : PySem.W.keepIn X.K (.ref C) = true) (r : Raises X (.ref C)) (hg : Gl X x)
    (hdb : (x == ("__debug__" : Str)) = false := by decide) : PMk X (.Call (.Name x p) [] [] pos) (fun _ H Q => Q (.ref C) none H) := by
  intro pins s σ H Q I h
  refine wpAny_Call_Name_kw (ld_glob I hg gC ?_ hdb)
  refine PySem.W.callWith_K0 I.kIn kC ?_
  show wpAny _ _ (call (.ref C) []) _ _ _
  obtain ⟨bm, N, nm, qn, bs, hdct, sn, sub, ab, col, dd, k0, k1, k2, k3, k5, mN, hC, hN, hni, T⟩ := exc_obj I.kIn q
  exact wpAny_call_exc_subT F T hC hN hni (fun h' e hm => mk_of I hm r h (I.hok.gone hm.new)) (by show 0 ≤ sizeLine; omega)
def sRaise (n : Nat) : Sf := fun ρ S => .exc ⟨n, []⟩ ρ S
/-- what the written part says of an own class of errors that has no __init__ -/
structure XCls (K : PySem.W.Frag) (mg : Str → Option Value) (x : Str) (C : Addr) : Prop where
  q : PySem.W.excIn K C [.type "ValueError", .type "Exception", .type "BaseException", .type "object"] "ValueError.__new__" = true
  g : mg x = some (.ref C)
  k : PySem.W.keepIn K (.ref C) = true
  b : PySem.W.subIn K (.ref C) (.type "BaseException") = some true
  t : PySem.W.typeIn K (.ref C) = some (.type "type")
theorem dp_raise0 {x : Str} {n : Nat} {q : Pos} (tk : Takes X W) (hc : X.calm = true) (T : XCls X.K X.mg x (G.xc n)) (hg : Gl X x) (hdb : (x == ("__debug__" : Str)) = false := by decide) : PS X (.Raise (some (.Call (.Name x p) [] [] pos)) none q) (tS G W (sRaise n)) := by
  refine wkS (ps_raise hc tk (pmk_bare PySem.F.excBase_ValueError T.q T.g T.k (raises_own T.b T.t) hg hdb)) fun D σ H ⟨ρ, B, φ, S, w, en, h⟩ => ?_
  exact h H B φ _ _ σ Xt.refl w ⟨rfl, rfl⟩ en
/-! ### try, with clauses that have no name -/
/-- the clauses: which errors each takes, and its suite -/
def sHs : List ((Nat → Option Bool) × Sf) → Ex → Sf
  | [], x => fun ρ S => .exc x ρ S
  | (mt, g) :: r, x => fun ρ S => match mt x.cls with
    | some true => g ρ S
    | some false => sHs r x ρ S
    | none => .bad
def sTry (f : Sf) (l : List ((Nat → Option Bool) × Sf)) : Sf := fun ρ S => match f ρ S with
  | .exc x ρ' S' => sHs l x ρ' S'
  | .ok fl S' => .ok fl S'
  | .bad => .bad
/-- one class, of n that the program has -/
def mtOne (n j : Nat) : Nat → Option Bool := fun m => if m < n then some (m == j) else none
inductive HdsD (X : Cx) (G : Gx) : List ExceptHandler → List ((Nat → Option Bool) × Sf) → Prop
  | nil : HdsD X G [] []
  | cons {x : Str} {c : Value} {b₀ : Stmt} {suite : List Stmt} {np pos' : Pos} {hds : List ExceptHandler} {l : List ((Nat → Option Bool) × Sf)} {mt : Nat → Option Bool} {g : Sf} (hc : Names X x c) (hm : ∀ m b, mt m = some b → PySem.W.exmOne X.K (.ref (G.xc m)) c = some b)
      (hs : ∀ (a : Addr) (pn : List (Addr × Obj)), PSs (X.suite a pn) (b₀ :: suite) (tS G (fun _ _ _ _ => False) g)) (r : HdsD X G hds l) :
      HdsD X G (.ExceptHandler (some (.Name x np)) none (b₀ :: suite) pos' :: hds) ((mt, g) :: l)
theorem WPS.nox {Z : Ends} {o : OS} {W' : WX} (h : WPS G W Z H B φ o) (k : ∀ x ρ S, o ≠ .exc x ρ S) : WPS G W' Z H B φ o := by
  cases o with
  | ok fl S => exact h
  | exc x ρ S => exact absurd rfl (k x ρ S)
  | bad => exact h
theorem hds_ok {hds : List ExceptHandler} {l : List ((Nat → Option Bool) × Sf)} (h : HdsD X G hds l) : ∃ l', HdsOk X hds l' ∧ ∀ (D : Ends) (x : Ex) (c : Value) (dd : Option Addr) (σ : L2.St) (H : Hp), (∃ ρ B φ S, Wd G H B φ S ∧ EnvR G B φ σ ρ ∧ XRep G B x c dd ∧ WPS G W D H B φ (sHs l x ρ S) ∧
    ∀ x' ρ' S', sHs l x ρ S = .exc x' ρ' S' → x' = x ∧ ρ' = ρ ∧ S' = S ∧ ∀ m ∈ l, m.1 x.cls = some false) → wMany X.K W D l' c dd σ H := by
  induction h with
  | nil =>
    refine ⟨[], .nil, fun D x c dd σ H ⟨ρ, B, φ, S, w, en, xr, q, _⟩ => ?_⟩
    exact q H B φ c dd σ Xt.refl w xr en
  | @cons x c b₀ suite np pos' hds l mt g hc hm hs r ih =>
    obtain ⟨l', k1, k2⟩ := ih
    refine ⟨(c, fun _ _ _ => tS G (fun _ _ _ _ => False) g) :: l', .cons hc (fun a oe cls d pn _ _ => hs a _) k1, fun D x c' dd σ H ⟨ρ, B, φ, S, w, en, xr, q, nx⟩ => ?_⟩
    unfold sHs at q nx
    cases hb : mt x.cls with
    | none => rw [hb] at q; exact q.elim
    | some b =>
      rw [hb] at q nx
      refine ⟨b, ?_, fun e a _ => ?_, fun e => ?_⟩
      · rw [xr.1]; exact hm _ _ hb
      · subst e
        dsimp only at q nx
        refine ⟨ρ, B, φ, S, w, en, WPS.nox q fun x' ρ' S' e => ?_⟩
        have := (nx x' ρ' S' e).2.2.2 (mt, g) List.mem_cons_self
        have this : mt x.cls = some false := this
        rw [hb] at this; cases this
      · subst e
        dsimp only at q nx
        refine k2 D x c' dd σ H ⟨ρ, B, φ, S, w, en, xr, q, fun x' ρ' S' e => ?_⟩
        obtain ⟨z1, z2, z3, z4⟩ := nx x' ρ' S' e
        exact ⟨z1, z2, z3, fun m hm' => z4 m (List.mem_cons_of_mem _ hm')⟩
/-- a suite that lets nothing out -/
def Mild (g : Sf) : Prop := ∀ ρ S x ρ' S', g ρ S ≠ .exc x ρ' S'
theorem hs_mild {x : Ex} {ρ : Nv} {S : Sto} : ∀ {l : List ((Nat → Option Bool) × Sf)}, (∀ m ∈ l, Mild m.2) → ∀ x' ρ' S', sHs l x ρ S = .exc x' ρ' S' → x' = x ∧ ρ' = ρ ∧ S' = S ∧ ∀ m ∈ l, m.1 x.cls = some false
  | [], _, x', ρ', S', e => by
    unfold sHs at e
    cases e
    exact ⟨rfl, rfl, rfl, fun m hm => by cases hm⟩
  | (mt, g) :: l, hl, x', ρ', S', e => by
    unfold sHs at e
    cases hb : mt x.cls with
    | none => rw [hb] at e; cases e
    | some b =>
      rw [hb] at e
      cases b with
      | true => exact absurd e (hl (mt, g) List.mem_cons_self ρ S x' ρ' S')
      | false =>
        obtain ⟨z1, z2, z3, z4⟩ := hs_mild (l := l) (fun m hm => hl m (List.mem_cons_of_mem _ hm)) x' ρ' S' e
        exact ⟨z1, z2, z3, fun m hm => by
          rcases List.mem_cons.mp hm with rfl | hm
          · exact hb
          · exact z4 m hm⟩
theorem dp_try {body : List Stmt} {h₀ : ExceptHandler} {hds : List ExceptHandler} {l : List ((Nat → Option Bool) × Sf)} (hs : X.stack = X.env :: X.outer) (hf : X.env.frame = some X.env.locals) (tk : Takes X W)
    (hb : ∀ (W' : WX) (pn : List (Addr × Obj)) (xe : Value → Shared → Prop), Takes (X.tr pn xe) W' → PassesOwn (model X.prog X.w) X.A X.env xe → PSs (X.tr pn xe) body (tS G W' f))
    (hh : HdsD X G (h₀ :: hds) l) (ml : ∀ m ∈ l, Mild m.2) : PS X (.Try body (h₀ :: hds) [] [] pos) (tS G W (sTry f l)) := by
  obtain ⟨l', k1, k2⟩ := hds_ok (W := W) hh
  refine wkS (ps_try_many hs hf tk (tb := fun W' => tS G W' f) hb k1) fun D σ H ⟨ρ, B, φ, S, w, en, q⟩ => ⟨ρ, B, φ, S, w, en, ?_⟩
  unfold sTry at q
  cases e : f ρ S with
  | bad => rw [e] at q; exact q
  | ok fl S' => rw [e] at q; exact q
  | exc x ρ' S' =>
    rw [e] at q
    dsimp only at q
    exact fun H' B' φ' c dd σ' x1 w1 xr en1 => k2 D x c dd σ' H' ⟨ρ', B', φ', S', w1, en1, xr, WPS.rebase x1 q, hs_mild ml⟩
theorem exm_own {K : PySem.W.Frag} {C m : Addr} {b : Bool} (h1 : PySem.W.subIn K (.ref C) (.type "BaseException") = some true) (h2 : PySem.W.isClsIn K C = true) (h3 : PySem.W.typeIn K (.ref C) = some (.type "type")) (h4 : PySem.W.subIn K (.ref m) (.ref C) = some b) : PySem.W.exmOne K (.ref m) (.ref C) = some b := by
  unfold PySem.W.exmOne
  rw [h1]
  rw [if_pos (show (some true == some true) = true from rfl)]
  unfold PySem.W.kitCls
  have e : ((PySem.W.clsIn K C).isSome && PySem.W.typeIn K (.ref C) == some (.type "type")) = true := by
    rw [h3, Bool.and_eq_true]
    exact ⟨h2, beq_self_eq_true _⟩
  dsimp only
  rw [if_pos e, h4]
theorem mt_of {K : PySem.W.Frag} {n j : Nat} {xc : Nat → Addr} (h : ∀ m, m < n → PySem.W.exmOne K (.ref (xc m)) (.ref (xc j)) = some (m == j)) : ∀ m b, mtOne n j m = some b → PySem.W.exmOne K (.ref (xc m)) (.ref (xc j)) = some b := fun m b e => by
  unfold mtOne at e
  split at e
  · rename_i hm
    rw [h m hm, e]
  · cases e
theorem mild_set {i : Nat} {d : D} : Mild (sSet i (dC d)) := fun ρ S x ρ' S' h => by cases h
theorem mild_inc {i j : Nat} {d : D} : Mild (sSet i (dBin oAdd (dName j) (dC d))) := fun ρ S x ρ' S' h => by
  unfold sSet dBin dName at h
  cases e : ρ[j]? with
  | none => rw [e] at h; cases h
  | some o =>
    rw [e] at h
    cases o with
    | none => cases h
    | some v =>
      dsimp only [Out.bind, dC] at h
      cases e2 : oAdd v (.p d) S with
      | ok a S2 => rw [e2] at h; cases h
      | bad => rw [e2] at h; cases h
      | exc x2 S2 =>
        exfalso
        revert e2
        unfold oAdd
        repeat' split
        all_goals exact fun z => by cases z
end
end DL

namespace DL
open PySem L2
open PySem.Spec PyProof.Rows
section
variable {X : Cx} {G : Gx} {W : WX} {e e2 : Expr} {ef eg eh : Ef} {p p2 pos q1 q2 tpos : Pos} {H B : Hp} {φ : List Addr} {S : Sto} {σ : L2.St} {ρ : Nv}
/-! ### isinstance(x, (list, tuple)) -/
def ltB (t : String) : Option Bool := match kitB t "list", kitB t "tuple" with
  | some a, some b => some (a || b)
  | _, _ => none
theorem ltB_at {K : PySem.W.Frag} {t : String} {b : Bool} (h : ltB t = some b) : PySem.W.kitAny K (.type t) [.type "list", .type "tuple"] = some b := by
  unfold ltB at h
  split at h
  · rename_i x y hx hy
    cases h
    refine kitAny_cons (kit_ty hx) (fun e => ?_) (fun e => by rw [e]; rfl)
    rw [e, Bool.false_or]
    exact kitAny_cons (kit_ty hy) (fun e => by rw [e]; exact kitAny_nil) (fun e => e)
  · cases h
def dIsLT (f : Ef) : Ef := fun ρ S => (f ρ S).bind fun d S1 => match tyOf S1 d with
  | some t => match ltB t with
    | some b => .ok (.p (.bl b)) S1
    | none => .bad
  | none => .bad
theorem de_isLT {x1 : Nat} (hK : X.K = G.K) (he : PE X e (tD G W ef)) (hg : Gl X "isinstance") (hm : X.mg "isinstance" = none) (gl : Gl X "list") (ml : X.mg "list" = none) (gt : Gl X "tuple") (mt : X.mg "tuple" = none)
    (h1 : starEach [e, .Tuple [.Name "list" q1, .Name "tuple" q2] x1 tpos] X.env = (false, eval e X.env) :: starEach [.Tuple [.Name "list" q1, .Name "tuple" q2] x1 tpos] X.env := by rfl)
    (h2 : starEach [.Tuple [.Name "list" q1, .Name "tuple" q2] x1 tpos] X.env = (false, eval (.Tuple [.Name "list" q1, .Name "tuple" q2] x1 tpos) X.env) :: starEach [] X.env := by rfl)
    (h3 : starEach [.Name "list" q1, .Name "tuple" q2] X.env = (false, eval (.Name "list" q1) X.env) :: starEach [.Name "tuple" q2] X.env := by rfl) (h4 : starEach [.Name "tuple" q2] X.env = (false, eval (.Name "tuple" q2) X.env) :: starEach [] X.env := by rfl)
    (hpl : (backTo pos (starEach [.Tuple [.Name "list" q1, .Name "tuple" q2] x1 tpos] X.env)).any (·.1) = false := by rfl) :
    PE X (.Call (.Name "isinstance" p) [e, .Tuple [.Name "list" q1, .Name "tuple" q2] x1 tpos] [] pos) (tD G W (dIsLT ef)) := by
  refine wkE (pe_callB call_isiT hg hm boot_isinstance (pa_cons he (pa_cons (pe_tup (pa_cons (pe_bltn gl ml PyProof.Rows.boot_list (v := .ty "list") rfl) (pa_cons (pe_bltn gt mt PyProof.Rows.boot_tuple (v := .ty "tuple") rfl) pa_nil h4) h3)) pa_nil h2) h1) (by decide) (by decide) h1 hpl) fun σ H Q ⟨ρ, B, φ, S, w, en, h⟩ => tD.run w en (WP.fst h) fun d v H1 B1 φ1 S1 x1 w1 en1 r1 q => ?_
  split at q
  · rename_i t ht
    split at q
    · rename_i b hb
      refine ⟨by show 2 ≤ sizeLine; rw [sizeLine_eq]; omega, fun a ha => ?_⟩
      have w2 := w1.alloc (o := .tup [.ty "list", .ty "tuple"]) ha
      have x2 := Xt.alloc (o := .tup [.ty "list", .ty "tuple"]) w1 ha
      exact ⟨v, a, [.ty "list", .ty "tuple"], .type t, [.type "list", .type "tuple"], b, rfl, upd_same, .cons (.ty "list") (.cons (.ty "tuple") .nil), hK ▸ tyOf_at w2 (RepV.mono x2.b x2.p _ r1) ht, ltB_at hb, q _ _ _ x2 w2 _ (rep_bl.mpr rfl)⟩
    · exact q.elim
  · exact q.elim
/-! ### len(set(xs)), numbers -/
def dd (ns : List Int) : List Int := ns.foldl PyProof.Rows.step_dedup []
theorem dd_met (ns : List Int) : PyProof.Rows.firstMet (fun i => ns.getD i 0) ns.length = dd ns := by
  unfold PyProof.Rows.firstMet dd
  congr 1
  refine List.ext_getElem (by rw [List.length_map, List.length_range]) fun i h1 h2 => ?_
  rw [List.getElem_map, List.getElem_range]
  show ns.getD i 0 = _
  rw [List.getD_eq_getElem?_getD, List.getElem?_eq_getElem h2]; rfl
def nLenSet : OpN := fun xs S => match xs with
  | [x] => match vw S x with
    | some ds => match intsOf ds with
      | some ns => if ns.length ≤ 4000 then .ok (.p (.int (dd ns).length)) S else .bad
      | none => .bad
    | none => .bad
  | _ => .bad
theorem len_set_of {P pp : Pos} {ta : TE} (lG : Gl X "len") (lM : X.mg "len" = none) (sG : Gl X "set") (sM : X.mg "set" = none) (he : PE X e ta) (cm : X.calm = true) (st : starEach [e] X.env = (false, eval e X.env) :: starEach [] X.env := by rfl) :
    PE X (.Call (.Name "len" p) [.Call (.Name "set" p2) [e] [] P] [] pp) (fun σ H Q => ta σ H fun x H1 => ∃ (l : Addr) (ns : List Int), x = .ref l ∧ SqL X.K H1 l (ns.map V.int) ∧ ns.length ≤ 4000 ∧ Q (.int ((dd ns).length : Nat)) H1) := by
  constructor
  intro pins s σ H Q I h
  refine Call_ (ld_blt I lG lM boot_len (PyProof.Rows.callWith_builtin1 (PyProof.Rows.args_cons ?_ rfl) rfl rfl))
  refine Call_ (ld_blt I sG sM boot_set (PyProof.Rows.callWith_type1 (PyProof.Rows.args_cons (thn (he.run pins s σ H _ I h) fun v s1 ⟨x, H1, I1, r1, k⟩ => PyProof.Rows.args_nil ?_) st) st rfl))
  obtain ⟨l, ns, rfl, sq, len, k⟩ := k
  cases r1
  obtain ⟨its, r, pl, hz⟩ := I1.list sq
  have eL : its.toArray.size = ns.length := (List.size_toArray ..).trans (r.length.symm.trans (List.length_map ..))
  refine call_set_list (ns := ns) (I1.ok.hd cm) pl.isList (RZ.intsAre_vals (by simpa using r)) (by unfold scanBound; omega) fun hp t made kept => PyProof.Rows.args_nil ?_
  rw [eL, dd_met] at made
  obtain ⟨o, es, ep, tb, ho, hex, hd, _, _, _, hf, hn⟩ := made
  have bnd : (dd ns).length ≤ ns.length := by rw [← dd_met]; exact PyProof.Rows.firstMet_length_le _ _
  have J : Inv X pins σ H1 { s1 with heap := hp, toks := t } := I1.kept fun b o e => kept b o (Heap.lt_size e) e
  exact call_len_set ho hex hd hf (by omega) ⟨.int (dd ns).length, H1, J.tok _, ⟨_, by rw [hn]⟩, k⟩
theorem de_lenSet {P pp : Pos} (hK : X.K = G.K) (cm : X.calm = true) (lG : Gl X "len") (lM : X.mg "len" = none) (sG : Gl X "set") (sM : X.mg "set" = none) (he : PE X e (tD G W ef)) (st : starEach [e] X.env = (false, eval e X.env) :: starEach [] X.env := by rfl) :
    PE X (.Call (.Name "len" p) [.Call (.Name "set" p2) [e] [] P] [] pp) (tD G W (dCall nLenSet (aCons ef aNil))) := by
  refine wkE (len_set_of lG lM sG sM he cm st) fun σ H Q ⟨ρ, B, φ, S, w, en, h⟩ => ?_
  have h : WP G W σ H B φ ((ef ρ S).bind fun x S1 => nLenSet [x] S1) fun d H' B' φ' S' => ∀ v, RepV G B' φ' d v → Q v H' := by
    have e : dCall nLenSet (aCons ef aNil) ρ S = (ef ρ S).bind fun x S1 => nLenSet [x] S1 := by
      unfold dCall aCons aNil
      cases ef ρ S <;> rfl
    rw [e] at h; exact h
  refine tD.run w en (WP.fst h) fun d v H1 B1 φ1 S1 x1 w1 en1 r1 k => ?_
  unfold nLenSet at k
  dsimp only at k
  split at k
  · rename_i ds hv
    split at k
    · rename_i ns hn
      split at k
      · rename_i hl
        obtain ⟨a, xs, rfl, s1, r2⟩ := vw_at w1 r1 hv
        refine ⟨a, ns, rfl, ?_, hl, k H1 B1 φ1 Xt.refl w1 _ (rep_int.mpr rfl)⟩
        rw [hK, ← ints_at' hn r2]
        exact SqL.of s1
      · exact k.elim
    · exact k.elim
  · exact k.elim
end
end DL

namespace DL
open PySem L2
open PySem.Spec PyProof.Rows
section
variable {X : Cx} {G : Gx} {W : WX} {e e2 : Expr} {ef eg eh : Ef} {p p2 pos q1 q2 tpos : Pos} {H B : Hp} {φ : List Addr} {S : Sto} {σ : L2.St} {ρ : Nv}
/-! ### xs.index(y), y among flat items -/
def idV (y : V) : List V → Option Nat
  | [] => none
  | z :: r => if eqV z y = true then some 0 else (idV y r).map (· + 1)
theorem idV_at {y : V} : ∀ {vs : List V} {j : Nat}, idV y vs = some j → (∃ z, vs[j]? = some z ∧ eqV z y = true) ∧ ∀ m z', m < j → vs[m]? = some z' → eqV z' y = false
  | [], _, h => by cases h
  | z :: r, j, h => by
    unfold idV at h
    split at h
    · rename_i hz
      cases h
      exact ⟨⟨z, rfl, hz⟩, fun m z' hm _ => absurd hm (Nat.not_lt_zero _)⟩
    · rename_i hz
      cases q : idV y r with
      | none => rw [q] at h; cases h
      | some i =>
        rw [q] at h
        cases h
        obtain ⟨⟨z2, a1, a2⟩, a3⟩ := idV_at q
        refine ⟨⟨z2, by simpa using a1, a2⟩, fun m z' hm hz' => ?_⟩
        cases m with
        | zero =>
          simp at hz'
          subst hz'
          cases b : eqV z y with
          | true => exact absurd b hz
          | false => rfl
        | succ m =>
          have hm : m + 1 < i + 1 := hm
          exact a3 m z' (by omega) (by simpa using hz')
def dIndex (fo fe : Ef) : Ef := fun ρ S => (fo ρ S).bind fun o S1 => match vw S1 o with
  | some ds0 => (fe ρ S1).bind fun d S2 => match d, vw S2 o with
    | .p d', some ds => match flD d', flDs ds with
      | some v, some vs => match idV v vs with
        | some j => .ok (.p (.int (j : Nat))) S2
        | none => .bad
      | _, _ => .bad
    | _, _ => .bad
  | none => .bad
theorem de_index {o : Expr} {apos : Pos} (hK : X.K = G.K) (ho : PE X o (tD G W ef)) (he : PE X e (tD G W eg))
    (hbase : attributeBase o "index" X.env (eval o X.env) = eval o X.env := by rfl)
    (hfew : ((backTo pos (starEach [e] X.env)).all (fun x => !x.1) && (backToKw pos (keywordEach [] X.env)).all (fun x => x.1.isSome) && decide ([e].length + ([] : List Keyword).length + (if ([] : List Keyword).isEmpty then 0 else 1) < 30)) = true := by rfl)
    (hline : (apos.endLine == pos.line) = true := by rfl) (hs : starEach [e] X.env = (false, eval e X.env) :: starEach [] X.env := by rfl) (hpl : (backTo pos (starEach [] X.env)).any (·.1) = false := by rfl) :
    PE X (.Call (.Attribute o "index" apos) [e] [] pos) (tD G W (dIndex ef eg)) := by
  refine wkE (pe_bm PySem.F.plainAttrs_list PySem.F.slot_list_index PySem.F.type_list_index mt_index ho (pa_cons he pa_nil hs) hbase hfew hline hs hpl) fun σ H Q ⟨ρ, B, φ, S, w, en, h⟩ => tD.run w en (WP.fst h) fun o v H1 B1 φ1 S1 x1 w1 en1 r1 k1 => ?_
  split at k1
  · rename_i ds0 hs0
    obtain ⟨a, xs0, rfl, hx0, _⟩ := vw_at w1 r1 hs0
    refine ⟨.inl ⟨rfl, xs0, SqL.of hx0⟩, ?_⟩
    show tD G W eg σ H1 _
    refine tD.run w1 en1 (WP.fst k1) fun d v2 H2 B2 φ2 S2 x2 w2 en2 r2 k2 => ?_
    split at k2
    · rename_i d' ds hs
      split at k2
      · rename_i y ys hy hys
        split at k2
        · rename_i j hj
          have r1' := RepV.mono x2.b x2.p _ r1
          obtain ⟨a', xs, ea, hx, rr⟩ := vw_at w2 r1' hs
          cases ea
          obtain ⟨rfl, f1⟩ := flD_at r2 hy
          obtain ⟨rfl, f2⟩ := flDs_at rr hys
          obtain ⟨⟨z, z1, z2⟩, z3⟩ := idV_at hj
          exact ⟨a, xs, v2, j, z, rfl, rfl, SqL.of hx, f1, f2, z1, z2, z3, k2 H2 B2 φ2 Xt.refl w2 _ (rep_int.mpr rfl)⟩
        · exact k2.elim
      · exact k2.elim
    · exact k2.elim
  · exact k1.elim
end
end DL

namespace DL
open PySem L2
open PySem.Spec PyProof.Rows
section
variable {X : Cx} {G : Gx} {W : WX} {e e2 o : Expr} {ef eg eh : Ef} {p p2 pos q1 q2 tpos : Pos} {H B : Hp} {φ : List Addr} {S : Sto} {σ : L2.St} {ρ : Nv}
/-! ### a written dict of texts; d.get(x, y) -/
theorem de_dct2 {k1 k2 v1 v2 : Str} {j1 j2 j3 j4 : Nat} {p1 p2 p3 p4 : Pos} (hk : k1 ≠ k2) (hl : [some (Expr.Constant (.str k1) j1 p1), some (.Constant (.str k2) j2 p2)].length = [Expr.Constant (.str v1) j3 p3, .Constant (.str v2) j4 p4].length := by rfl) :
    PE X (.Dict [some (.Constant (.str k1) j1 p1), some (.Constant (.str k2) j2 p2)] [.Constant (.str v1) j3 p3, .Constant (.str v2) j4 p4] pos) (tD G W (dC (.dct [(k1, v1), (k2, v2)]))) := by
  refine wkE (pe_disp (pps_cons pe_str pe_str (pps_cons pe_str pe_str pps_nil)) (by rfl) hl (fun z => by cases z) (by show 2 ≤ 15; omega)) fun σ H Q ⟨ρ, B, φ, S, w, en, h⟩ => ?_
  intro a ha
  refine ⟨upd_same, [(Sum.inr k1, V.str v1), (Sum.inr k2, V.str v2)], rfl, by show 2 ≤ 15; omega, ?_⟩
  have em : mergeK [] [((Sum.inr k1 : Key), V.str v1), (Sum.inr k2, V.str v2)] = [(Sum.inr k1, V.str v1), (Sum.inr k2, V.str v2)] := by
    unfold mergeK
    rw [List.foldl_cons, List.foldl_cons, List.foldl_nil]
    have e1 : putK [] (Sum.inr k1 : Key) (V.str v1) = [(Sum.inr k1, V.str v1)] := rfl
    rw [e1]
    unfold putK
    rw [if_neg (by simp [hk])]; rfl
  rw [em]
  have hu : upd (upd H a (.dK [])) a (.dK [(Sum.inr k1, V.str v1), (Sum.inr k2, V.str v2)]) = upd H a (.dK [(Sum.inr k1, V.str v1), (Sum.inr k2, V.str v2)]) := by
    funext b
    unfold upd
    split <;> rfl
  rw [hu]
  have h : ∀ H' B' φ', Xt H B φ H' B' φ' → Wd G H' B' φ' S → ∀ v, RepV G B' φ' (.p (.dct [(k1, v1), (k2, v2)])) v → Q v H' := h
  refine h _ _ _ (Xt.alloc w ha) (w.alloc ha) _ ?_
  show Rep G _ (.dct _) _
  unfold Rep
  exact ⟨a, rfl, upd_same⟩
def kvGet (kvs : List (Str × Str)) (x : Str) : Option Str := (kvs.find? fun p => decide (p.1 = x)).map (·.2)
theorem kvGet_at {x : Str} : ∀ kvs : List (Str × Str), valV (kvs.map fun p => ((Sum.inr p.1 : Key), V.str p.2)) (Sum.inr x) = (kvGet kvs x).map V.str
  | [] => rfl
  | p :: r => by
    have ih := kvGet_at (x := x) r
    unfold valV kvGet at *
    rw [List.map_cons, List.find?_cons, List.find?_cons]
    by_cases h : p.1 = x
    · have h1 : decide ((Sum.inr p.1 : Key) = Sum.inr x) = true := by simp [h]
      rw [h1, decide_eq_true h]; rfl
    · have h1 : decide ((Sum.inr p.1 : Key) = Sum.inr x) = false := by simp [h]
      rw [h1, decide_eq_false h]
      exact ih
def dGet2 (fo fe fx : Ef) : Ef := fun ρ S => (fo ρ S).bind fun d S1 => match d with
  | .p (.dct kvs) => (fe ρ S1).bind fun y S2 => match y with
    | .p (.str x) => (fx ρ S2).bind fun z S3 => match kvGet kvs x with
      | some u => .ok (.p (.str u)) S3
      | none => .ok z S3
    | _ => .bad
  | _ => .bad
theorem de_get2 {apos : Pos} {f : Expr} (hu : X.A.units + 1 < cLine) (ho : PE X o (tD G W ef)) (he : PE X e (tD G W eg)) (hf : PE X f (tD G W eh)) (m : M2 X o "get" apos e f pos) : PE X (.Call (.Attribute o "get" apos) [e, f] [] pos) (tD G W (dGet2 ef eg eh)) := by
  refine wkE (pe_dget2 hu ho he hf m) fun σ H Q ⟨ρ, B, φ, S, w, en, h⟩ => tD.run w en (WP.fst h) fun d v H1 B1 φ1 S1 x1 w1 en1 r1 k1 => ?_
  split at k1
  · rename_i kvs
    have r1' : Rep G B1 (.dct kvs) v := r1
    unfold Rep at r1'
    obtain ⟨a, rfl, ha⟩ := r1'
    refine ⟨a, rfl, .inl ⟨_, .inl (w1.sub _ _ ha)⟩, ?_⟩
    refine tD.run w1 en1 (WP.fst k1) fun y v2 H2 B2 φ2 S2 x2 w2 en2 r2 k2 => ?_
    split at k2
    · rename_i x
      have ev := rep_str.mp r2
      subst ev
      refine tD.run w2 en2 (WP.fst k2) fun z v3 H3 B3 φ3 S3 x3 w3 en3 r3 k3 => ?_
      have ha3 := w3.sub _ _ (x3.b _ _ (x2.b _ _ ha))
      refine ⟨_, DGet.k (k := Sum.inr x) ha3, ?_⟩
      rw [kvGet_at]
      split at k3
      · rename_i u hq
        rw [hq]
        exact k3 H3 B3 φ3 Xt.refl w3 _ (rep_str.mpr rfl)
      · rename_i hq
        rw [hq]
        exact k3 H3 B3 φ3 Xt.refl w3 _ r3
    · exact k2.elim
  · exact k1.elim
end
end DL

set_option maxHeartbeats 4000000
namespace DL
open PySem L2
open PySem.Spec PyProof.Rows
/-! ### several clauses, some of which name the error -/
abbrev Clause := Value × Option Nat × (Addr → Value → Option Addr → TS)
def without (i : Nat) (Z : Ends) : Ends := ⟨fun t h => Z.nx (t.set i none) h, fun v h => Z.rt v h, fun t h => Z.bk (t.set i none) h, fun t h => Z.ct (t.set i none) h⟩
/-- what the clauses ask, one behind the other -/
def askC (K : PySem.W.Frag) (Out : WX) (Z : Ends) : List Clause → WX
  | [], cls, d, t, h => Out cls d t h
  | (c, none, ts) :: r, cls, d, t, h => ∃ b, PySem.W.exmOne K cls c = some b ∧ (b = true → ∀ a, h a = none → ts a cls d Z t h) ∧ (b = false → askC K Out Z r cls d t h)
  | (c, some i, ts) :: r, cls, d, t, h => ∃ b, PySem.W.exmOne K cls c = some b ∧ (b = true → ∀ a, h a = none → ts a cls d (without i Z) (t.set i (some (.ref a))) h) ∧ (b = false → askC K Out Z r cls d t h)
inductive ClOk (X : Cx) : List ExceptHandler → List Clause → Prop
  | nil : ClOk X [] []
  | bare {x : Str} {c : Value} {ts : Addr → Value → Option Addr → TS} {b : Stmt} {su : List Stmt} {q q' : Pos} {hs : List ExceptHandler} {l : List Clause} (hc : Names X x c)
      (k : ∀ (a : Addr) (ob : Obj) (cls : Value) (d : Option Addr) (pn : List (Addr × Obj)), Zc cls d ob → (∃ vs, ob.data = .fields vs) → PSs (X.suite a ((a, ob) :: pn)) (b :: su) (ts a cls d)) (r : ClOk X hs l) :
      ClOk X (.ExceptHandler (some (.Name x q)) none (b :: su) q' :: hs) ((c, none, ts) :: l)
  | named {x n : Str} {i : Nat} {c : Value} {ts : Addr → Value → Option Addr → TS} {b : Stmt} {su : List Stmt} {q q' : Pos} {hs : List ExceptHandler} {l : List Clause} (hc : Names X x c) (hN : X.N.Nodup) (hi : X.N[i]? = some n) (hk : X.env.kindOf n = some .local)
      (k : ∀ (a : Addr) (ob : Obj) (cls : Value) (d : Option Addr) (pn : List (Addr × Obj)), Zc cls d ob → (∃ vs, ob.data = .fields vs) → PSs (X.suite a ((a, ob) :: pn)) (b :: su) (ts a cls d)) (r : ClOk X hs l) :
      ClOk X (.ExceptHandler (some (.Name x q)) (some n) (b :: su) q' :: hs) ((c, some i, ts) :: l)
section
variable {X : Cx} {body : List Stmt} {e0 : ExceptHandler} {es : List ExceptHandler} {l : List Clause} {pos : Pos} {tb : WX → TS} {Out : WX}
theorem try_rule (hst : X.stack = X.env :: X.outer) (hfr0 : X.env.frame = some X.env.locals) (tk : Takes X Out)
    (hb : ∀ (W : WX) (pn : List (Addr × Obj)) (xe : Value → Shared → Prop), Takes (X.tr pn xe) W → PassesOwn (model X.prog X.w) X.A X.env xe → PSs (X.tr pn xe) body (tb W))
    (hh : ClOk X (e0 :: es) l) : PS X (.Try body (e0 :: es) [] [] pos) (fun Z t h => tb (askC X.K Out Z l) Z t h) := by
  refine ⟨fun pins s t h Z I hy => ?_⟩
  have okI := I.ok
  have hfrm : X.A.frames = some (X.env :: X.outer) := by rw [okI.frames, hst]
  have start := (hb (askC X.K Out Z l) (X.pn ++ pins) (fun er s1 => wpAny (model X.prog X.w) X.A (noteFrame er X.env) (fun _ s2 => wpAny (model X.prog X.w) X.A (setFlight er none) (fun _ s3 =>
    wpAny (model X.prog X.w) X.A (handleBy er X.env (e0 :: es)) (SP X pins Z) X.xe s3) X.xe s2) X.xe s1) ?caught PassesOwn.looking).run [] s t h Z (I.toTry _) hy
  case caught =>
    intro u s' xx
    obtain ⟨a, B, sI, pins', t', h', cls, d, rfl, J', nb, up, sky, na, os, ag, w⟩ := xx
    have J : Inv X pins t' h' sI := J'.ofTry okI
    have sky2 : Sky B (X.env :: X.outer) a (Zc cls d) X.env.locals s'.heap := by rw [← hst]; exact sky
    show wpAny (model X.prog X.w) X.A (noteFrame (.ref a) X.env) _ _ _
    refine Sky.land Zc.steady hfrm hfr0 sky2 fun hp3 fl up3 => ?_
    have J3 : Inv X pins t' h' { s' with heap := hp3 } := J.landed nb fl.1 (up.trans up3) os ag
    obtain ⟨ob3, vs3, g3, z3, d3⟩ := fl.there
    have notIn : a ∉ frs (X.env :: X.outer) := fun hm => by
      obtain ⟨_, o', e', hnf⟩ := fl.2.2.1.mem hm
      rw [g3] at e'; cases e'
      exact hnf _ d3
    have nL : a ≠ X.env.locals := fun z => notIn (List.mem_filterMap.mpr ⟨X.env, List.mem_cons_self, by rw [hfr0, z]⟩)
    have nF : a ∉ X.fs := fun hm => by
      obtain ⟨en, he, q⟩ := List.mem_filterMap.mp hm
      exact notIn (List.mem_filterMap.mpr ⟨en, List.mem_cons_of_mem _ he, q⟩)
    have S3 := J3.suite g3 d3 na nL nF
    have LT : PySem.W.Looks (model X.prog X.w) hp3 (typeOf (.ref a)) cls := fun A Q E s k q => wpAny_typeOf_ref (k _ _ g3) (by rw [z3.1]; exact q)
    have asks : ∀ {x : Str} {c : Value} {q : Pos}, Names X x c → ∀ {Q : Value → Shared → Prop} {E : Value → Shared → Prop}, Q c { s' with heap := hp3 } → wpAny (model X.prog X.w) (X.A.mark (some (.ref a))) (eval (.Name x q) X.env) Q E { s' with heap := hp3 } := fun {x c q} hc {Q E} y => by
      obtain ⟨hg, hdb, hm | ⟨hm, hv, hnn⟩⟩ := hc
      · exact ld_glob (X := X.suite a ((a, ob3) :: (X.pn ++ pins))) S3 hg hm y hdb
      · exact ld_blt (X := X.suite a ((a, ob3) :: (X.pn ++ pins))) S3 hg hm hv y hnn hdb
    have away : askC X.K Out Z [] cls d t' h' → wpAny (model X.prog X.w) X.A (handleBy (.ref a) X.env []) (SP X pins Z) X.xe { s' with heap := hp3 } := fun w => by
      refine wpAny_handleBy_nil ?_
      obtain ⟨k1, k2, k3, ob, vs, T, oT, ts', g4, z4, d4, h1, hr⟩ := id fl
      unfold PySem.passOn
      refine wpAny_bind (wpAny_field g4 d4 h1 ?_)
      rw [if_neg (by simp : ¬ ((Value.ref T == Value.none) = true))]
      have last : wpAny (model X.prog X.w) X.A (setFlight (.ref a) X.env.frame) (fun _ s4 => wpAny (model X.prog X.w) X.A (throw (.ref a) : Sem Flow) (SP X pins Z) X.xe s4) X.xe { s' with heap := hp3 } := by
        rw [hfr0]
        refine HandSPX.setFlight_upZ fl fun hp4 k4 up4 => wpAny_throw (tk _ _ ?_)
        exact ⟨a, B, sI, pins, t', h', cls, d, rfl, J, nb, (up.trans up3).trans up4, .inr (.inr (by rw [hst]; exact k4)), na, os, ag, w⟩
      first
        | exact wpAny_bind (wpAny_pure (wpAny_bind last))
        | exact wpAny_bind last
    have go : ∀ {hs' : List ExceptHandler} {l' : List Clause}, ClOk X hs' l' → askC X.K Out Z l' cls d t' h' →
        wpAny (model X.prog X.w) X.A (handleBy (.ref a) X.env hs') (SP X pins Z) X.xe { s' with heap := hp3 } := by
      intro hs' l' hk
      induction hk with
      | nil => exact away
      | @bare x c ts b su q q' hs2 l2 hc k r ih =>
        intro w
        obtain ⟨bb, hb1, yes, no⟩ := w
        have LM := PySem.W.exm_one (M := model X.prog X.w) (J3.kIn) LT hb1
        refine wpAny_handleBy_cons (codeAny_handlers_test ?_) (by intro z; cases z)
        refine asks hc (LM.here ?_)
        cases bb with
        | false =>
          show wpAny _ X.A (handleBy (.ref a) X.env hs2) _ _ _
          exact ih (no rfl)
        | true =>
          refine codeAny_handlers_suite ?_
          refine HandSPX.lands_againZ fl fun hp4 fl4 up4 => ?_
          have J4 : Inv X pins t' h' { s' with heap := hp4 } := J.landed nb fl4.1 ((up.trans up3).trans up4) os ag
          obtain ⟨ob4, vs4, g4, z4, d4⟩ := fl4.there
          refine wpAny_mono ((k a ob4 cls d (X.pn ++ pins) z4 ⟨_, d4⟩).run [] _ _ h' _ (J4.suite g4 d4 na nL nF) (yes rfl a na)) (fun f s6 hsp => ?_) (fun _ _ z => z.elim)
          cases f with
          | next => exact let ⟨t6, h6, S6, q6⟩ := hsp; ⟨_, _, S6.unsuite okI, q6⟩
          | brk => exact let ⟨t6, h6, S6, q6⟩ := hsp; ⟨_, _, S6.unsuite okI, q6⟩
          | cont => exact let ⟨t6, h6, S6, q6⟩ := hsp; ⟨_, _, S6.unsuite okI, q6⟩
          | ret u => exact let ⟨v6, t6, h6, S6, r6, q6⟩ := hsp; ⟨_, _, _, S6.unsuite okI, r6, q6⟩
      | @named x n i c ts b su q q' hs2 l2 hc hN hi hkn k r ih =>
        intro w
        obtain ⟨bb, hb1, yes, no⟩ := w
        have LM := PySem.W.exm_one (M := model X.prog X.w) (J3.kIn) LT hb1
        have hloc : Loc X.env.scope n := .inl hkn
        refine wpAny_handleBy_cons (codeAny_handlers_test ?_) (by intro z; cases z)
        refine asks hc (LM.here ?_)
        cases bb with
        | false =>
          show wpAny _ X.A (handleBy (.ref a) X.env hs2) _ _ _
          exact ih (no rfl)
        | true =>
          refine codeAny_handlers_suite_as ?_
          refine HandSPX.lands_againZ fl fun hp4 fl4 up4 => ?_
          have J4 : Inv X pins t' h' { s' with heap := hp4 } := J.landed nb fl4.1 ((up.trans up3).trans up4) os ag
          obtain ⟨ob4, vs4, g4, z4, d4⟩ := fl4.there
          refine store_ok (X := X.suite a ((a, ob4) :: (X.pn ++ pins))) (v := .ref a) (J4.suite g4 d4 na nL nF) hN hi hloc rfl (fun s5 S5 => ?_) (.inr hkn)
          have fin : ∀ {t6 : L2.St} {h6 : Hp} {s6 : Shared} {Q : Shared → Prop}, Inv (X.suite a ((a, ob4) :: (X.pn ++ pins))) [] t6 h6 s6 → (∀ s7, Inv X pins (t6.set i none) h6 s7 → Q s7) →
              wpAny (model X.prog X.w) X.A (do bindName X.env n .none; unbindBehindTheSuite X.env n q') (fun _ s7 => Q s7) X.xe s6 := fun {t6 h6 s6 Q} S6 hq => gone_ok (S6.unsuite okI) hN hi hkn hq
          refine wpAny_mono ((k a ob4 cls d (X.pn ++ pins) z4 ⟨_, d4⟩).run [] s5 _ h' _ S5 (yes rfl a na)) (fun f s6 hsp => ?_) (fun _ _ z => z.elim)
          cases f with
          | next => exact let ⟨t6, h6, S6, q6⟩ := hsp; fin S6 fun s7 J7 => ⟨_, _, J7, q6⟩
          | brk => exact let ⟨t6, h6, S6, q6⟩ := hsp; fin S6 fun s7 J7 => ⟨_, _, J7, q6⟩
          | cont => exact let ⟨t6, h6, S6, q6⟩ := hsp; fin S6 fun s7 J7 => ⟨_, _, J7, q6⟩
          | ret u => exact let ⟨v6, t6, h6, S6, r6, q6⟩ := hsp; fin S6 fun s7 J7 => ⟨_, _, _, J7, r6, q6⟩
    exact go hh w
  refine wpAny_Try_except (wpAny_mono start (fun f s1 hsp => ?_) fun er s1 he => he)
  cases f with
  | next => exact let ⟨t', h', J', q⟩ := hsp; wpAny_execs_nil ⟨t', h', J'.ofTry okI, q⟩
  | brk => exact let ⟨t', h', J', q⟩ := hsp; ⟨t', h', J'.ofTry okI, q⟩
  | cont => exact let ⟨t', h', J', q⟩ := hsp; ⟨t', h', J'.ofTry okI, q⟩
  | ret u => exact let ⟨v, t', h', J', r, q⟩ := hsp; ⟨v, t', h', J'.ofTry okI, r, q⟩
end
/-! ### the clauses over data -/
inductive Hc where
  | bare (mt : Nat → Option Bool) (g : Sf)
  | named (mt : Nat → Option Bool) (i : Nat) (g : Ex → Sf)
def OS.away (i : Nat) : OS → OS
  | .ok (.nx ρ) S => .ok (.nx (ρ.set i none)) S
  | .ok (.bk ρ) S => .ok (.bk (ρ.set i none)) S
  | .ok (.ct ρ) S => .ok (.ct (ρ.set i none)) S
  | .ok (.rt d) S => .ok (.rt d) S
  | _ => .bad
def OS.still : OS → OS
  | .ok fl S => .ok fl S
  | _ => .bad
def sHc : List Hc → Ex → Sf
  | [], x => fun ρ S => .exc x ρ S
  | .bare mt g :: r, x => fun ρ S => match mt x.cls with
    | some true => (g ρ S).still
    | some false => sHc r x ρ S
    | none => .bad
  | .named mt i g :: r, x => fun ρ S => match mt x.cls with
    | some true => if i < ρ.length then (g x (ρ.set i none) S).away i else .bad
    | some false => sHc r x ρ S
    | none => .bad
def sTryC (f : Sf) (l : List Hc) : Sf := fun ρ S => match f ρ S with
  | .exc x ρ' S' => sHc l x ρ' S'
  | .ok fl S' => .ok fl S'
  | .bad => .bad
/-- a suite's reading where slot i holds the error at a -/
def tX (G : Gx) (i : Nat) (a : Addr) (cls : Value) (dd : Option Addr) (g : Ex → Sf) : TS := fun D σ H => ∃ x ρ B φ S, Wd G H B φ S ∧ EnvR G B φ σ ρ ∧ σ[i]? = some (some (.ref a)) ∧ XRep G B x cls dd ∧ WPS G noW D H B φ (g x ρ S)
def xD (G : Gx) (i : Nat) (a : Addr) (cls : Value) (dd : Option Addr) (f : Ex → Ef) : TE := fun σ H Q => ∃ x ρ B φ S, Wd G H B φ S ∧ EnvR G B φ σ ρ ∧ σ[i]? = some (some (.ref a)) ∧ XRep G B x cls dd ∧
  WP G noW σ H B φ (f x ρ S) fun d H' B' φ' _ => ∀ v, RepV G B' φ' d v → Q v H'
def xT (G : Gx) (i : Nat) (a : Addr) (cls : Value) (dd : Option Addr) (f : Ex → Tf) : TT := fun σ H Q => ∃ x ρ B φ S, Wd G H B φ S ∧ EnvR G B φ σ ρ ∧ σ[i]? = some (some (.ref a)) ∧ XRep G B x cls dd ∧
  WP G noW σ H B φ (f x ρ S) fun b H' _ _ _ => Q b H'
inductive HcD (X : Cx) (G : Gx) : List ExceptHandler → List Hc → Prop
  | nil : HcD X G [] []
  | bare {x : Str} {c : Value} {b : Stmt} {su : List Stmt} {q q' : Pos} {hs : List ExceptHandler} {l : List Hc} {mt : Nat → Option Bool} {g : Sf} (hc : Names X x c) (hm : ∀ m b, mt m = some b → PySem.W.exmOne X.K (.ref (G.xc m)) c = some b)
      (k : ∀ (a : Addr) (pn : List (Addr × Obj)), PSs (X.suite a pn) (b :: su) (tS G noW g)) (r : HcD X G hs l) :
      HcD X G (.ExceptHandler (some (.Name x q)) none (b :: su) q' :: hs) (.bare mt g :: l)
  | named {x n : Str} {i : Nat} {c : Value} {b : Stmt} {su : List Stmt} {q q' : Pos} {hs : List ExceptHandler} {l : List Hc} {mt : Nat → Option Bool} {g : Ex → Sf} (hc : Names X x c) (hN : X.N.Nodup) (hi : X.N[i]? = some n) (hk : X.env.kindOf n = some .local)
      (hm : ∀ m b, mt m = some b → PySem.W.exmOne X.K (.ref (G.xc m)) c = some b)
      (k : ∀ (a : Addr) (ob : Obj) (cls : Value) (d : Option Addr) (pn : List (Addr × Obj)), Zc cls d ob → (∃ vs, ob.data = .fields vs) → PSs (X.suite a ((a, ob) :: pn)) (b :: su) (tX G i a cls d g)) (r : HcD X G hs l) :
      HcD X G (.ExceptHandler (some (.Name x q)) (some n) (b :: su) q' :: hs) (.named mt i g :: l)
section
variable {X : Cx} {G : Gx} {W : WX} {H B : Hp} {φ : List Addr} {S : Sto} {σ : L2.St} {ρ : Nv}
theorem still_wps {Z : Ends} {o : OS} (h : WPS G W Z H B φ o.still) : WPS G noW Z H B φ o := by
  cases o with
  | ok fl S => exact h
  | exc x ρ S => exact h.elim
  | bad => exact h
theorem away_wps {Z : Ends} {o : OS} {i : Nat} (h : WPS G W Z H B φ (o.away i)) : WPS G noW (without i Z) H B φ o := by
  cases o with
  | ok fl S =>
    cases fl with
    | nx ρ => exact fun H' B' φ' x w σ en => h H' B' φ' x w _ (en.drop1 i none)
    | bk ρ => exact fun H' B' φ' x w σ en => h H' B' φ' x w _ (en.drop1 i none)
    | ct ρ => exact fun H' B' φ' x w σ en => h H' B' φ' x w _ (en.drop1 i none)
    | rt d => exact h
  | exc x ρ S => exact h.elim
  | bad => exact h
theorem hc_ok {hds : List ExceptHandler} {l : List Hc} (h : HcD X G hds l) : ∃ l', ClOk X hds l' ∧ ∀ (D : Ends) (x : Ex) (c : Value) (dd : Option Addr) (σ : L2.St) (H : Hp), (∃ ρ B φ S, Wd G H B φ S ∧ EnvR G B φ σ ρ ∧ XRep G B x c dd ∧ WPS G W D H B φ (sHc l x ρ S)) → askC X.K W D l' c dd σ H := by
  induction h with
  | nil => exact ⟨[], .nil, fun D x c dd σ H ⟨ρ, B, φ, S, w, en, xr, q⟩ => q H B φ c dd σ Xt.refl w xr en⟩
  | @bare x c b su q q' hs l mt g hc hm k r ih =>
    obtain ⟨l', k1, k2⟩ := ih
    refine ⟨(c, none, fun _ _ _ => tS G noW g) :: l', .bare hc (fun a ob cls d pn _ _ => k a _) k1, fun D x c' dd σ H ⟨ρ, B, φ, S, w, en, xr, q⟩ => ?_⟩
    unfold sHc at q
    cases hb : mt x.cls with
    | none => rw [hb] at q; exact q.elim
    | some t =>
      rw [hb] at q
      refine ⟨t, by rw [xr.1]; exact hm _ _ hb, fun e a _ => ?_, fun e => ?_⟩
      · subst e
        exact ⟨ρ, B, φ, S, w, en, still_wps q⟩
      · subst e
        exact k2 D x c' dd σ H ⟨ρ, B, φ, S, w, en, xr, q⟩
  | @named x n i c b su q q' hs l mt g hc hN hi hk hm k r ih =>
    obtain ⟨l', k1, k2⟩ := ih
    refine ⟨(c, some i, fun a cls d => tX G i a cls d g) :: l', .named hc hN hi hk k k1, fun D x c' dd σ H ⟨ρ, B, φ, S, w, en, xr, q⟩ => ?_⟩
    unfold sHc at q
    cases hb : mt x.cls with
    | none => rw [hb] at q; exact q.elim
    | some t =>
      rw [hb] at q
      refine ⟨t, by rw [xr.1]; exact hm _ _ hb, fun e a _ => ?_, fun e => ?_⟩
      · subst e
        dsimp only at q
        split at q
        · rename_i hl
          exact ⟨x, ρ.set i none, B, φ, S, w, en.drop1 i _, List.getElem?_set_self (by rw [← en.len]; exact hl), xr, away_wps q⟩
        · exact q.elim
      · subst e
        exact k2 D x c' dd σ H ⟨ρ, B, φ, S, w, en, xr, q⟩
theorem dp_tryC {f : Sf} {body : List Stmt} {h0 : ExceptHandler} {hds : List ExceptHandler} {l : List Hc} {pos : Pos} (hs : X.stack = X.env :: X.outer) (hf : X.env.frame = some X.env.locals) (tk : Takes X W)
    (hb : ∀ (W' : WX) (pn : List (Addr × Obj)) (xe : Value → Shared → Prop), Takes (X.tr pn xe) W' → PassesOwn (model X.prog X.w) X.A X.env xe → PSs (X.tr pn xe) body (tS G W' f))
    (hh : HcD X G (h0 :: hds) l) : PS X (.Try body (h0 :: hds) [] [] pos) (tS G W (sTryC f l)) := by
  obtain ⟨l', k1, k2⟩ := hc_ok (W := W) hh
  refine wkS (try_rule hs hf tk (tb := fun W' => tS G W' f) hb k1) fun D σ H ⟨ρ, B, φ, S, w, en, q⟩ => ⟨ρ, B, φ, S, w, en, ?_⟩
  unfold sTryC at q
  cases e : f ρ S with
  | bad => rw [e] at q; exact q
  | ok fl S' => rw [e] at q; exact q
  | exc x ρ' S' =>
    rw [e] at q
    dsimp only at q
    exact fun H' B' φ' c dd σ' x1 w1 xr en1 => k2 D x c dd σ' H' ⟨ρ', B', φ', S', w1, en1, xr, WPS.rebase x1 q⟩
end
/-! ### what a suite does with its error -/
section
variable {X : Cx} {G : Gx} {a : Addr} {ob : Obj} {cls : Value} {dd : Option Addr} {pn : List (Addr × Obj)} {i : Nat} {e e2 : Expr} {f g : Ex → Ef} {c : Ex → Tf} {pos p p2 : Pos} {n : Str}
theorem dpx_set {j : Nat} {y : Str} (hN : X.N.Nodup) (hj : X.N[j]? = some y) (hy : Loc X.env.scope y) (he : PE (X.suite a ((a, ob) :: pn)) e (xD G i a cls dd f)) (hs : swapsWith e (some (.Name y p)) pos.line X.env = pure false := by rfl)
    (hf : X.fn y = true ∨ X.env.scope.names.lookup y = some .local := by first | exact .inl rfl | exact .inr rfl | assumption) : PS (X.suite a ((a, ob) :: pn)) (.Assign [.Name y p] e pos) (tX G i a cls dd fun x => sSet j (f x)) :=
  wkS (ps_set (X := X.suite a ((a, ob) :: pn)) hN hj hy he hs hf) fun D σ H ⟨x, ρ, B, φ, S, w, en, hx, xr, h⟩ => ⟨x, ρ, B, φ, S, w, en, hx, xr, (WPS.fst en h).mono fun d H1 B1 φ1 S1 x1 w1 q1 v r1 => WPS.here w1 q1 _ ((en.mono x1.b x1.p).set j r1)⟩
theorem dpx_one {st : Stmt} {s : Ex → Sf} (h : PS X st (tX G i a cls dd s)) : PSs X [st] (tX G i a cls dd s) := pss_one h
theorem xe_str {z : Str} {j} : PE X (.Constant (.str z) j pos) (xD G i a cls dd fun _ => dC (.str z)) := wkE pe_str fun σ H Q ⟨x, ρ, B, φ, S, w, en, hx, xr, h⟩ => h H B φ Xt.refl w _ (rep_str.mpr rfl)
theorem xe_if {cc : Expr} (hc : PT X cc (xT G i a cls dd c)) (h1 : PE X e (xD G i a cls dd f)) (h2 : PE X e2 (xD G i a cls dd g)) : PE X (.IfExp cc e e2 pos) (xD G i a cls dd fun x => dIf (c x) (f x) (g x)) := by
  refine wkE (pe_ifExp hc h1 h2) fun σ H Q ⟨x, ρ, B, φ, S, w, en, hx, xr, h⟩ => ⟨x, ρ, B, φ, S, w, en, hx, xr, (WP.fst h).mono fun t H1 B1 φ1 S1 x1 w1 q1 => ?_⟩
  cases t with
  | true => exact ⟨x, ρ, B1, φ1, S1, w1, en.mono x1.b x1.p, hx, xr.mono x1.b, q1⟩
  | false => exact ⟨x, ρ, B1, φ1, S1, w1, en.mono x1.b x1.p, hx, xr.mono x1.b, q1⟩
/-- e.f: the k-th field of class j -/
def xFld (j k : Nat) : Ex → Ef := fun x ρ S => if x.cls = j then match x.args[k]? with
  | some d => .ok (.p d) S
  | none => .bad else .bad
theorem zip_at {f : Str} : ∀ {ns : List Str} {vs : List V} {k : Nat} {v : V}, ns.Nodup → ns[k]? = some f → vs[k]? = some v → (ns.zip vs).lookup f = some v
  | [], _, k, _, _, h, _ => by simp at h
  | m :: ns, [], k, v, _, _, h => by simp at h
  | m :: ns, u :: vs, 0, v, nd, h, h2 => by
    simp at h h2
    subst h h2
    simp [List.lookup]
  | m :: ns, u :: vs, k + 1, v, nd, h, h2 => by
    have h' : ns[k]? = some f := by simpa using h
    have ne : (f == m) = false := beq_eq_false_iff_ne.mpr fun z => (List.nodup_cons.mp nd).1 (z ▸ List.mem_of_getElem? h')
    rw [List.zip_cons_cons]
    unfold List.lookup
    rw [ne]
    exact zip_at (List.nodup_cons.mp nd).2 h' (by simpa using h2)
theorem xe_fld {f : Str} {j k : Nat} (T : XfC X.K (G.xc j)) (hno : PySem.W.findIn X.K (.ref (G.xc j)) f = some none) (nd : (G.xf j).Nodup) (hk : (G.xf j)[k]? = some f) (hz : Zc cls dd ob) (hf : ∃ vs, ob.data = .fields vs) (hN : X.N[i]? = some n)
    (hv : Vis X.env.scope n := by first | exact Or.inl rfl | exact Or.inr (Or.inl rfl) | exact Or.inr (Or.inr rfl)) (hd : (n == ("__debug__" : Str)) = false := by decide) (hcd : (n == ("__classdict__" : Str)) = false := by decide)
    (hb : attributeBase (.Name n p) f X.env (eval (.Name n p) X.env) = eval (.Name n p) X.env := by rfl) :
    PE (X.suite a ((a, ob) :: pn)) (.Attribute (.Name n p) f pos) (xD G i a cls dd (xFld j k)) := by
  refine ⟨fun pins s σ H Q I ⟨x, ρ, B, φ, S, w, en, hx, xr, h⟩ => ?_⟩
  unfold xFld at h
  split at h
  · rename_i hj
    subst hj
    split at h
    · rename_i d ha
      obtain ⟨e1, e2⟩ := xr
      cases hl : x.args with
      | nil => rw [hl] at ha; simp at ha
      | cons d0 dr =>
        rw [hl] at e2
        obtain ⟨da, vs, rfl, hd1, r, hlen⟩ := e2
        rw [hl] at ha
        obtain ⟨v, hv1, rv⟩ := r.get ha
        have base := pe_xf (X := X) (a := a) (C := G.xc x.cls) (oe := ob) (pn := pn) (pos := pos) T hno hz hf (pe_var (X := X.suite a ((a, ob) :: pn)) (pos := p) hN hv hd hcd) hb
        refine base.run pins s σ H Q I ?_
        exact ⟨_, hx, rfl, e1, da, _, v, rfl, w.sub _ _ hd1, zip_at nd hk hv1, h H B φ Xt.refl w v rv⟩
    · exact h.elim
  · exact h.elim
end
/-! isinstance(e, C) -/
section
variable {prog : Program} {w : World} {A : Around} {E : Value → Shared → Prop} {s : Shared} {K : PySem.W.Frag} {x D : Addr} {ox : Obj} {od : Option Obj}
theorem exc_class {Q : Option Value → Shared → Prop} (T : ExcC K D) (Y : K.In s.heap) (I : PySem.W.InstAt s.heap x ox D od) (h : Q (some (.ref D)) { s with toks := s.toks + 1 }) :
    wpAny (model prog w) A (getAttr? (.ref x) "__class__") Q E s := by
  have hf : PySem.W.findObj K D od "__class__" = some (.bind (.builtin "getset_descriptor.__get__") (.builtin "object.__class__")) := by
    obtain ⟨cd, hc, _⟩ := PySem.W.any_some T.hd
    unfold PySem.W.findObj
    rw [hc, Option.bind_some, T.ha, Option.bind_some]
    simp [T.hn, T.ht]
  obtain ⟨hp, g, d, t, os⟩ := s
  have L0 := I.type (M := model prog w)
  have L1 := PySem.W.looks_findIn (M := model prog w) Y T.hg
  have L2 := PySem.W.looks_findIn (M := model prog w) Y T.hk
  have L3 := PySem.W.looks_find (M := model prog w) Y I hf
  have sub : PySem.W.Looks (model prog w) hp (isInstance (.ref x) (.type "BaseException")) true := L0.andThen (PySem.W.looks_subIn Y T.hs)
  have z0 : (false && onTheHeap (Value.builtin "BaseException.__getattribute__")) = false := rfl
  have z2 : (Value.builtin "BaseException.__getattribute__" == Value.builtin "object.__getattribute__") = false := by decide +kernel
  have z1 : (onTheHeap (Value.ref D) && Value.builtin "BaseException.__getattribute__" == Value.builtin "object.__getattribute__") = false := by rw [z2]; rfl
  unfold getAttr? getAttrBy? getAttrBy
  refine wpAny_bind (wpAny_mkText (wpAny_bind (wpAny_attempt (wpAny_holding (wpAny_bind (L0.at (wpAny_bind (L1.at ?_))))))))
  show wpAny _ _ (if (onTheHeap (Value.ref D) && Value.builtin "BaseException.__getattribute__" == Value.builtin "object.__getattribute__") = true then _ else _) _ _ _
  rw [z1, if_neg Bool.false_ne_true]
  unfold getAttrByItsOwn hookBefore
  refine wpAny_bind ?_
  rw [if_pos (by rfl : onTheHeap (Value.ref D) = true)]
  refine L2.at (wpAny_bind (wpAny_attempt (wpAny_holding ?_)))
  unfold callGetattribute
  rw [z0, if_neg Bool.false_ne_true]
  unfold boundAndCalled
  rw [PySem.F.excAttr_ValueError.ga.bind (.ref x)]
  refine wpAny_bind (wpAny_pure ?_)
  show wpAny _ _ (call (.builtin "BaseException.__getattribute__") [.ref x, .str "__class__" t]) _ _ _
  refine wpAny_call (codeAny_call_builtin PySem.F.excAttr_ValueError.ga.plain PySem.F.entry_bexc_ga ?_)
  refine @PySem.W.check_slot (model prog w) _ _ ⟨hp, g, d, t + 1, os⟩ "BaseException.__getattribute__" "BaseException" "__getattribute__" (.ref x) [.str "__class__" t] [] _ (by decide +kernel) (by decide +kernel) sub (PySem.F.args_bexc_ga (.ref x) (.str "__class__" t)) ?_
  unfold Builtin.«object.__getattribute__»
  refine wpAny_bind (wpAny_of_eq (a := ((Value.ref x : Value), [Value.str "__class__" t])) (by first | rfl | (simp only [slotArgs]; rfl)) (wpAny_bind (wpAny_pure (wpAny_bind (L0.at (wpAny_bind (L3.at ?_)))))))
  show wpAny _ _ (holding [Value.builtin "object.__class__"] (call (.builtin "getset_descriptor.__get__") [.builtin "object.__class__", .ref x, .ref D]) >>= ret) _ _ _
  refine wpAny_bind (wpAny_holding (wpAny_call (PySem.W.class_get (s := ⟨hp, g, d, t + 1, os⟩) (ox := ox) (od := od) Y I T.hm (wpAny_pure ?_))))
  show wpAny _ _ (handedOut (.ref D)) _ _ _
  rw [PySem.W.handedOut_of (v := .ref D) rfl]
  first
    | exact wpAny_pure (wpAny_pure h)
    | exact wpAny_pure h
    | exact wpAny_pure (wpAny_bind (wpAny_pure (wpAny_pure h)))
theorem exc_kit (T : ExcC K D) : PySem.W.KitX K (.ref x) (.ref D) (fun h => PySem.W.InstAt h x ox D od) := by
  obtain ⟨cdD, hcD, _⟩ := PySem.W.any_some T.hd
  unfold PySem.W.clsIn at hcD
  split at hcD
  · rename_i c' d' cd' sl' ho
    refine ⟨fun _ _ _ I => I.type, fun _ _ Y _ A' Q' E' s' k q => ?_, fun h tp dd its n sl Y htp => Bool.eq_false_iff.mpr fun q => ?_, fun Y I k => exc_class T Y I k⟩
    · unfold isType loadHead
      exact wpAny_bind (wpAny_loadPart (k _ _ (Y _ _ ho)) (wpAny_pure q))
    · have e : D = tp := Value.ref.inj (beq_iff_eq.mp q)
      subst e
      have z := (Y _ _ ho).symm.trans htp
      cases z
  · cases hcD
end
section
variable {X : Cx} {G : Gx} {a : Addr} {ob : Obj} {cls : Value} {dd : Option Addr} {pn : List (Addr × Obj)} {i : Nat} {e e2 : Expr} {f g : Ex → Ef} {c : Ex → Tf} {pos p p2 p3 : Pos} {n m : Str}
/-- isinstance(e, C) by the error's class -/
def xIs (f : Nat → Option Bool) : Ex → Tf := fun x _ S => match f x.cls with
  | some b => .ok b S
  | none => .bad
theorem xt_is {C : Addr} {f : Nat → Option Bool} (hF : ∀ j b, f j = some b → ExcC X.K (G.xc j) ∧ PySem.W.kitOne X.K (.ref (G.xc j)) (.ref C) = some b) (hz : Zc cls dd ob) (hf : ∃ vs, ob.data = .fields vs) (hN : X.N[i]? = some n)
    (hg : Gl X "isinstance") (hm : X.mg "isinstance" = none) (hgC : Gl X m) (hmC : X.mg m = some (.ref C))
    (hv : Vis X.env.scope n := by first | exact Or.inl rfl | exact Or.inr (Or.inl rfl) | exact Or.inr (Or.inr rfl)) (hd : (n == ("__debug__" : Str)) = false := by decide) (hcd : (n == ("__classdict__" : Str)) = false := by decide) (hdC : (m == ("__debug__" : Str)) = false := by decide)
    (s1 : starEach [.Name n p, .Name m p2] X.env = [(false, eval (.Name n p) X.env), (false, eval (.Name m p2) X.env)] := by rfl) (he : ∀ whole, isTrue (.Call (.Name "isinstance" p3) [.Name n p, .Name m p2] [] pos) X.env whole = (do let v ← whole; standAt (Expr.Call (.Name "isinstance" p3) [.Name n p, .Name m p2] [] pos).pos; holding [v] (truthy v)) := by intro _; rfl) :
    PT (X.suite a ((a, ob) :: pn)) (.Call (.Name "isinstance" p3) [.Name n p, .Name m p2] [] pos) (xT G i a cls dd (xIs f)) := by
  refine ⟨fun pins s σ H Q I ⟨x, ρ, B, φ, S, w, en, hx, xr, h⟩ => ?_⟩
  unfold xIs at h
  cases hb : f x.cls with
  | none => rw [hb] at h; exact h.elim
  | some b =>
    rw [hb] at h
    obtain ⟨T, kit⟩ := hF _ _ hb
    obtain ⟨e1, e2⟩ := xr
    subst e1
    have hcall : CallR (X.suite a ((a, ob) :: pn)) (.builtin "isinstance") (fun xs H Q => xs = [.ref a, .ref C] ∧ (dd = none ∨ ∃ d fs, dd = some d ∧ H d = some (.xd fs)) ∧ Q (.bl b) H) := by
      intro pins s σ H xs us Q I r ⟨hxs, hdd, q⟩
      subst hxs
      cases r with
      | cons rx rr =>
        cases rr with
        | cons rt rr =>
          cases rr
          cases rx
          cases rt
          obtain ⟨hget, _⟩ := I.pin (a, ob) (List.mem_append.mpr (.inl List.mem_cons_self))
          obtain ⟨vs, hvs⟩ := hf
          have J : ∃ od, PySem.W.InstAt s.heap a ob (G.xc x.cls) od := by
            obtain ⟨oc, oda, odt, osl⟩ := ob
            obtain ⟨z1, z2⟩ := hz
            dsimp only at z1 z2 hvs
            subst z1 z2 hvs
            rcases hdd with rfl | ⟨d, fs, rfl, hd⟩
            · exact ⟨none, hget, rfl, rfl, trivial⟩
            · obtain ⟨mA, hns, hr⟩ : ObjOk X.prog X.w H s.heap d (.xd fs) := I.hok d _ hd
              obtain ⟨od, ho, hl⟩ := lookIn_ns hns
              exact ⟨some od, hget, rfl, rfl, ho⟩
          obtain ⟨od, J⟩ := J
          exact PySem.W.kia_one (exc_kit T) I.kIn J kit (fun z => nomatch z) fun tk => ⟨.bl b, H, I.kept (t' := tk) fun _ _ z => z, rfl, q⟩
    have base := pt_val (X := X.suite a ((a, ob) :: pn)) (pe_callB (pos := pos) (p := p3) hcall hg hm PyProof.Rows.boot_isinstance (pa_cons (pe_var (pos := p) hN hv hd hcd) (pa_cons (pe_glob (pos := p2) hgC hmC (v := .ref C) rfl hdC) pa_nil (by rfl)) s1)) he
    refine base.run pins s σ H Q I ?_
    refine ⟨_, hx, rfl, ?_, ⟨b, rfl, h H B φ Xt.refl w⟩⟩
    cases hl : x.args with
    | nil => rw [hl] at e2; exact .inl e2
    | cons d0 dr =>
      rw [hl] at e2
      obtain ⟨da, vs, q1, hd1, r, hlen⟩ := e2
      exact .inr ⟨da, _, q1, w.sub _ _ hd1⟩
end
def isOf (n : Nat) (b : Bool) : Nat → Option Bool := fun m => if m < n then some b else none
theorem is_of {n : Nat} {b : Bool} {P : Nat → Bool → Prop} (h : ∀ m, m < n → P m b) : ∀ m c, isOf n b m = some c → P m c := fun m c e => by
  unfold isOf at e
  split at e
  · rename_i hm
    cases e
    exact h m hm
  · cases e
theorem kit_own {K : PySem.W.Frag} {C : Addr} {t : Value} (h1 : PySem.W.isClsIn K C = true) (h2 : PySem.W.typeIn K (.ref C) = some (.type "type")) (h3 : PySem.W.subIn K t (.ref C) = some true) : PySem.W.kitOne K t (.ref C) = some true := by
  unfold PySem.W.kitOne
  split
  · rfl
  · unfold PySem.W.kitCls
    have e : ((PySem.W.clsIn K C).isSome && PySem.W.typeIn K (.ref C) == some (.type "type")) = true := by
      rw [h2, Bool.and_eq_true]
      exact ⟨h1, beq_self_eq_true _⟩
    dsimp only
    rw [if_pos e, h3]
end DL

set_option maxHeartbeats 4000000
namespace DL
open PySem L2
open PySem.Spec PyProof.Rows
/-! ### errors with fields -/
/-- an error's __init__: the given names are stored, one behind the other -/
def spX (K : PySem.W.Frag) (fs : List Str) : Sp := fun vs H Q _ => ∃ a C ws, vs = .ref a :: ws ∧ OexC K C ∧ ws.length = fs.length ∧ (∀ f ∈ fs, PySem.W.findIn K (.ref C) f = some none) ∧ H a = some (exo a C none) ∧
  ∀ d, H d = none → d ≠ a → Q .non (upd (upd H d (exd d (fs.zip ws).reverse)) a (exo a C (some d)))
section
variable {P : Program} {w : World} {K : PySem.W.Frag} {mg : Str → Option Value} {base : Heap}
theorem ok_x1 {x qual : Str} {st : Stmt} {f : Addr} {fd : FuncData} {s1 n1 : Str} (F : Fun K x qual st f fd) (Sc : FnScope [s1, n1] [s1, n1] (defScope st))
    (der : ∀ (cd : Value) (A : Around) (outer : List Env) (s : Shared) (H : Hp) (E : XK), PSs (cxF P w K mg base [s1, n1] qual (defScope st) f cd A outer s H E) (defBody st) (tOst K n1 (fun σ H Q => ∃ v, σ[0]? = some (some v) ∧ Q v H) (fun σ H Q => ∃ v, σ[1]? = some (some v) ∧ Q v H))) :
    FnOk P w K mg base (L2.CX P w) 1 f fd [s1, n1] (spX K [n1]) := by
  refine F.okX Sc (fun vs H Q E h => ?_) (fun cd A outer s H vs Q E hr h => ?_)
  · obtain ⟨a, C, ws, rfl, _, hl, _⟩ := h
    rw [List.length_cons, hl]; rfl
  · obtain ⟨a, C, ws, rfl, T, hl, hn, ha, q⟩ := h
    match ws, hl, q with
    | [y], _, q =>
      refine ⟨_, der cd A outer s H E, y, rfl, .ref a, rfl, a, C, rfl, T, hn n1 (by simp), .inl ⟨ha, fun d h1 h2 => q d h1 h2⟩⟩
theorem ok_x2 {x qual : Str} {st : Stmt} {f : Addr} {fd : FuncData} {s1 n1 n2 : Str} (F : Fun K x qual st f fd) (Sc : FnScope [s1, n1, n2] [s1, n1, n2] (defScope st))
    (der : ∀ (cd : Value) (A : Around) (outer : List Env) (s : Shared) (H : Hp) (E : XK), PSs (cxF P w K mg base [s1, n1, n2] qual (defScope st) f cd A outer s H E) (defBody st)
      (fun D σ H => tOst K n1 (fun σ H Q => ∃ v, σ[0]? = some (some v) ∧ Q v H) (fun σ H Q => ∃ v, σ[1]? = some (some v) ∧ Q v H) { D with nx := fun σ H => tOst K n2 (fun σ H Q => ∃ v, σ[0]? = some (some v) ∧ Q v H) (fun σ H Q => ∃ v, σ[2]? = some (some v) ∧ Q v H) D σ H } σ H)) :
    FnOk P w K mg base (L2.CX P w) 1 f fd [s1, n1, n2] (spX K [n1, n2]) := by
  refine F.okX Sc (fun vs H Q E h => ?_) (fun cd A outer s H vs Q E hr h => ?_)
  · obtain ⟨a, C, ws, rfl, _, hl, _⟩ := h
    rw [List.length_cons, hl]; rfl
  · obtain ⟨a, C, ws, rfl, T, hl, hn, ha, q⟩ := h
    match ws, hl, q with
    | [y, z], _, q =>
      refine ⟨_, der cd A outer s H E, y, rfl, .ref a, rfl, a, C, rfl, T, hn n1 (by simp), .inl ⟨ha, fun d h1 h2 => ?_⟩⟩
      refine ⟨z, rfl, .ref a, rfl, a, C, rfl, T, hn n2 (by simp), .inr ⟨d, [(n1, y)], upd_same, by rw [upd_ne h2, upd_same], by show 1 ≤ 900; omega, ?_⟩⟩
      have e : upd (upd (upd H d (exd d [(n1, y)])) a (exo a C (some d))) d (exd d [(n2, z), (n1, y)]) = upd (upd H d (exd d [(n2, z), (n1, y)])) a (exo a C (some d)) := by
        funext b
        by_cases hb : b = d
        · subst hb
          rw [upd_same, upd_ne h2, upd_same]
        · rw [upd_ne hb]
          by_cases hb2 : b = a
          · subst hb2; rw [upd_same, upd_same]
          · rw [upd_ne hb2, upd_ne hb2, upd_ne hb, upd_ne hb]
      rw [e]
      exact q d h1 h2
end
/-- raise C(..) -/
def sRaiseA (j n : Nat) (af : Af) : Sf := fun ρ S => (af ρ S).toS ρ fun xs S' => match allP xs with
  | some ds => if ds.length = n then .exc ⟨j, ds.reverse⟩ ρ S' else .bad
  | none => .bad
theorem zip_rev {α β : Type} : ∀ {l : List α} {m : List β}, l.length = m.length → (l.zip m).reverse = l.reverse.zip m.reverse
  | [], [], _ => rfl
  | x :: l, y :: m, h => by
    have h' : l.length = m.length := by simpa using h
    rw [List.zip_cons_cons, List.reverse_cons, List.reverse_cons, List.reverse_cons, zip_rev h', List.zip_append (by rw [List.length_reverse, List.length_reverse, h'])]
    rfl
section
variable {X : Cx} {G : Gx} {W : WX} {k n j : Nat} {f fI : Addr} {fd : FuncData} {ps fs : List Str} {x : Str} {p q pos : Pos} {e : Expr} {es : List Expr} {af : Af}
theorem dp_raiseA (T : OexC X.K (G.xc j)) (iC : PySem.W.findIn X.K (.ref (G.xc j)) "__init__" = some (some (.ref fI))) (tI : PySem.W.typeIn X.K (.ref fI) = some (.type "function")) (F : FnOk X.prog X.w X.K X.mg X.base (L2.CX X.prog X.w) k fI fd ps (spX X.K fs)) (hr : Room (k + 1) X.A)
    (hb : Binds X.K fd ps []) (hno : ∀ f ∈ fs, PySem.W.findIn X.K (.ref (G.xc j)) f = some none) (hx : G.xf j = fs.reverse) (hn : fs.length = n) (h0 : 0 < n) (h1 : n ≤ 1000) (hK : X.K = G.K) (tk : Takes X W) (hc : X.calm = true) (hg : Gl X x) (hm : X.mg x = some (.ref (G.xc j))) (ha : PA X (e :: es) (tA G W af))
    (hdb : (x == ("__debug__" : Str)) = false := by decide) (he : starEach (e :: es) X.env = (false, eval e X.env) :: starEach es X.env := by rfl) (hpl : (backTo pos (starEach es X.env)).any (·.1) = false := by rfl) :
    PS X (.Raise (some (.Call (.Name x p) (e :: es) [] pos)) none q) (tS G W (sRaiseA j n af)) := by
  refine wkS (ps_raise hc tk (pmk_oex T iC tI F hr hb (ds := []) (dvs := []) .nil passL hg hm ha hdb he hpl)) fun D σ H ⟨ρ, B, φ, S, w, en, h⟩ => ?_
  refine tA.run w en (WPS.fst en h) fun ds vs H1 B1 φ1 S1 x1 w1 en1 r1 q1 => ?_
  split at q1
  · rename_i es0 hd
    split at q1
    · rename_i hl
      have rr := allP_rep hd r1
      have lv : vs.length = n := by rw [← rr.length]; exact hl
      refine ⟨by omega, fun a na => ?_⟩
      refine ⟨a, G.xc j, vs, by rw [List.append_nil], T, by rw [lv, hn], hno, upd_same, fun d nd hda => ⟨rfl, d, (fs.zip vs).reverse, upd_same, by rw [upd_ne hda, upd_same], by rw [upd_ne hda] at nd; exact nd, ?_⟩⟩
      have nd1 : H1 d = none := by rw [upd_ne hda] at nd; exact nd
      have e1 : upd (del (upd (upd (upd H1 a (exo a (G.xc j) none)) d (exd d (fs.zip vs).reverse)) a (exo a (G.xc j) (some d))) a) d (.xd (fs.zip vs).reverse) = upd H1 d (.xd (fs.zip vs).reverse) := by
        funext b
        by_cases hb1 : b = d
        · subst hb1; rw [upd_same, upd_same]
        · rw [upd_ne hb1, upd_ne hb1]
          by_cases hb2 : b = a
          · subst hb2; rw [del_same, na]
          · rw [del_ne hb2, upd_ne hb2, upd_ne hb1, upd_ne hb2]
      rw [e1]
      refine q1 _ _ φ1 _ (some d) σ (Xt.alloc w1 nd1) (w1.alloc nd1) ⟨rfl, ?_⟩ (en1.mono (Xt.alloc w1 nd1).b (List.prefix_refl _))
      have rv : Reps G (upd B1 d (.xd (fs.zip vs).reverse)) es0.reverse vs.reverse := Reps.mono (same_upd' (w1.bfree nd1)) _ rr.reverse
      have hne : es0.reverse ≠ [] := fun z => by
        have : es0.reverse.length = 0 := by rw [z]; rfl
        rw [List.length_reverse] at this
        omega
      cases hq : es0.reverse with
      | nil => exact absurd hq hne
      | cons d0 dr =>
        rw [hq] at rv
        refine ⟨d, vs.reverse, rfl, ?_, rv, ?_⟩
        · rw [upd_same, hx, zip_rev (by rw [hn, lv])]
        · rw [← hq, List.length_reverse, hl, hx, List.length_reverse, hn]
    · exact q1.elim
  · exact q1.elim
/-! ### a class of rules whose __init__ may raise -/
def tMakeR (C : Addr) (sp : Sp) (E : L2.St → XK) (t : TA) : TE := fun σ H Q => t σ H fun vs H1 => ∀ x dx, H1 x = none → H1 dx = none → dx ≠ x → sp (.ref x :: vs) (upd (upd H1 dx (.own x)) x (.ins C dx [])) (fun v H2 => v = .non ∧ Q (.ref x) H2) (E σ)
theorem make_run {C : Addr} {sp : Sp} {E : XK} {pins : List (Addr × Obj)} {σ : L2.St} {H1 : Hp} {s1 : Shared} {Q : VK} {us : List Value} {vs : List V} (M : Mk X.K C f) (F : FnOk X.prog X.w X.K X.mg X.base (L2.CX X.prog X.w) k f fd ps sp) (hr : Room (k + 1) X.A) (hb : Binds X.K fd ps [])
    (hx : PassesAt (L2.CX X.prog X.w) X σ E) (I1 : Inv X pins σ H1 s1) (r : Vals vs us) (q : ∀ x dx, H1 x = none → H1 dx = none → dx ≠ x → sp (.ref x :: vs) (upd (upd H1 dx (.own x)) x (.ins C dx [])) (fun v H2 => v = .non ∧ Q (.ref x) H2) E) :
    wpAny (model X.prog X.w) X.A (call (.ref C) us) (EP X pins σ Q) X.xe s1 := by
  have hq := q (s1.heap.objs.size + 1) s1.heap.objs.size (I1.hok.fresh (Nat.le_succ _)) (I1.hok.fresh (Nat.le_refl _)) (Nat.ne_of_lt (Nat.lt_succ_self _))
  have I2 := Inv.made (C := C) I1
  have r2 : Vals (V.ref (s1.heap.objs.size + 1) :: vs) (Value.ref (s1.heap.objs.size + 1) :: us) := .cons rfl r
  have hl : (Value.ref (s1.heap.objs.size + 1) :: us).length = ps.length := by
    rw [← r2.length]
    exact F.len _ _ _ _ hq
  have bb := hb ((⟨(s1.heap.push _).push _, _, _, _, _⟩ : Shared)) (Value.ref (s1.heap.objs.size + 1) :: us) I2.kIn (by rw [List.append_nil]; exact hl)
  rw [List.append_nil] at bb
  refine wpAny_call (make_map (f := f) I1.kIn M.makes M.init (beq_iff_eq.mp M.fn) (codeAny_mono (F.run _ X.stack _ _ ⟨Value.ref (s1.heap.objs.size + 1) :: us, []⟩ (Value.ref (s1.heap.objs.size + 1) :: us) _ _ E (hr.make C us []) (I2.env0.make C us []) bb r2 hq) fun rr s' hq' => ?_))
  cases rr with
  | error er => exact hx pins _ _ er s' I2 hq'
  | ok fl =>
    cases fl with
    | next => exact hq'.elim
    | brk => exact hq'.elim
    | cont => exact hq'.elim
    | ret u =>
      obtain ⟨v, H', I3, rv, ev, q3⟩ := I2.after hq'
      subst ev
      exact ⟨rv, ⟨V.ref (s1.heap.objs.size + 1), H', I3, rfl, q3⟩⟩
theorem pe_makeR {C : Addr} {sp : Sp} {E : L2.St → XK} {t : TA} (M : Mk X.K C f) (F : FnOk X.prog X.w X.K X.mg X.base (L2.CX X.prog X.w) k f fd ps sp) (hr : Room (k + 1) X.A) (hg : Gl X x) (hm : X.mg x = some (.ref C)) (hb : Binds X.K fd ps []) (hx : ∀ σ, PassesAt (L2.CX X.prog X.w) X σ (E σ))
    (ha : PA X (e :: es) t) (hdb : (x == ("__debug__" : Str)) = false := by decide) (he : starEach (e :: es) X.env = (false, eval e X.env) :: starEach es X.env := by rfl) (hpl : (backTo pos (starEach es X.env)).any (·.1) = false := by rfl) :
    PE X (.Call (.Name x p) (e :: es) [] pos) (tMakeR C sp E t) := by
  refine ⟨fun pins s σ H Q I h => wpAny_Call_Name_kw (ld_glob I hg hm ?_ hdb)⟩
  refine PySem.W.callWith_K (h₀ := X.base) I.ok.mod.kin M.kp (thn (ha.run pos pins s σ H _ I h) fun us s1 ⟨vs, H1, I1, r, q⟩ => ⟨I1.kIn, ?_⟩) he hpl
  exact make_run M F hr hb (hx σ) I1 r q
def makeOf (m : List Dv → Sto → Out Dv) (ds : List D) (S1 : Sto) : Out Dv := match m (.hnd 0 :: ds.map Dv.p) [.raw 1, .dead] with
  | .ok (.p .non) [.slt 1 es, .dead] => .ok (.p (.rul es)) S1
  | .exc x _ => .exc x S1
  | _ => .bad
theorem make_core {m : List Dv → Sto → Out Dv} {H1 B1 : Hp} {φ1 : List Addr} {S0 : Sto} {ds : List D} {vs : List V} {σ : L2.St} {Q : VK} (w1 : Wd G H1 B1 φ1 S0) (rr : Reps G B1 ds vs) (l1 : ds.length = n)
    (q1 : WP G W σ H1 B1 φ1 (makeOf m ds S0) (fun d H' B' φ' _ => ∀ v, RepV G B' φ' d v → Q v H')) (xx dx : Addr) (hx : H1 xx = none) (hdx : H1 dx = none) (hne : dx ≠ xx) :
    spE G (n + 1) m (.ref xx :: vs) (upd (upd H1 dx (.own xx)) xx (.ins G.rc dx [])) (fun v H2 => v = .non ∧ Q (.ref xx) H2) (WE W σ) := by
  refine ⟨B1, [xx, dx], [.raw 1, .dead], .hnd 0 :: ds.map Dv.p, made_wd w1.sub hx hdx hne, ⟨_, _, rfl, ⟨xx, rfl, rfl⟩, reps_vs rr⟩, by rw [List.length_cons, List.length_map, l1], ?_⟩
  have far : ∀ {H2 B2 : Hp} {φ2 : List Addr}, Xt (upd (upd H1 dx (.own xx)) xx (.ins G.rc dx [])) B1 [xx, dx] H2 B2 φ2 → ∀ a o, H1 a = some o → B1 a = none → H2 a = some o ∧ B2 a = none := fun {H2 B2 φ2} x2 a o a1 a2 => by
    have n1 : a ≠ xx := ne_of_none a1 hx
    have n2 : a ≠ dx := ne_of_none a1 hdx
    obtain ⟨a3, a4, _⟩ := x2.out a o (by rw [upd_ne n1, upd_ne n2]; exact a1) a2 (by simp [n1, n2])
    exact ⟨a3, a4⟩
  unfold makeOf at q1
  cases qm : m (.hnd 0 :: ds.map Dv.p) [.raw 1, .dead] with
  | bad => rw [qm] at q1; exact q1.elim
  | exc e' S' =>
    rw [qm] at q1
    dsimp only at q1
    intro H2 B2 φ2 c dd x2 w2 xr
    have xc : Xt H1 B1 [] H2 B2 [] := ⟨x2.b, List.prefix_refl _, fun a o a1 a2 _ => ⟨(far x2 a o a1 a2).1, (far x2 a o a1 a2).2, by simp⟩⟩
    obtain ⟨w3, x3⟩ := w1.call xc w2.sub
    exact q1 H2 B2 φ1 c dd x3 w3 xr
  | ok d S' =>
    rw [qm] at q1
    split at q1
    · rename_i es0 heq
      cases heq
      intro H2 B2 φ2 x2 w2 v rv
      refine ⟨rep_non.mp rv, ?_⟩
      have hφ : φ2 = [xx, dx] := by
        obtain ⟨t, e1⟩ := x2.p
        have := w2.len
        rw [← e1] at this ⊢
        simp at this
        subst this
        rfl
      subst hφ
      obtain ⟨b1, dx', t, ys, e1, b2, _, h1, h2, s1, rs⟩ : CellR G H2 B2 [xx, dx] xx (.slt 1 es0) := w2.cell 0 xx _ rfl rfl
      cases e1
      have sb : Same B2 (upd (upd B2 dx (.xd [])) xx (SlX.SlO xx G.rc dx [some (.ref t)])) := fun b o q => by
        have n1 : b ≠ xx := fun z => by subst z; rw [b1] at q; cases q
        have n2 : b ≠ dx := fun z => by subst z; rw [b2] at q; cases q
        rw [upd_ne n1, upd_ne n2]; exact q
      have e2 : upd (upd B2 dx (.xd [])) xx (SlX.SlO xx G.rc dx [some (.ref t)]) dx = some (.xd []) := by rw [upd_ne hne, upd_same]
      have s2 : Same (upd (upd B2 dx (.xd [])) xx (SlX.SlO xx G.rc dx [some (.ref t)])) H2 := fun b o q => by
        by_cases n1 : b = xx
        · subst n1; rw [upd_same] at q; rw [← q]; exact h1
        · by_cases n2 : b = dx
          · subst n2; rw [e2] at q; rw [← q]; exact h2
          · rw [upd_ne n1, upd_ne n2] at q; exact w2.sub _ _ q
      have xc : Xt H1 B1 [] H2 (upd (upd B2 dx (.xd [])) xx (SlX.SlO xx G.rc dx [some (.ref t)])) [] := by
        refine ⟨x2.b.trans sb, List.prefix_refl _, fun a o a1 a2 _ => ?_⟩
        obtain ⟨a3, a4⟩ := far x2 a o a1 a2
        exact ⟨a3, by rw [upd_ne (ne_of_none a1 hx), upd_ne (ne_of_none a1 hdx)]; exact a4, by simp⟩
      obtain ⟨w3, x3⟩ := w1.call xc s2
      exact q1 H2 _ φ1 x3 w3 _ (rep_rul.mpr ⟨xx, dx, t, ys, rfl, upd_same, e2, sqT_mono sb s1, Reps.mono sb _ rs⟩)
    · rename_i z
      exact nomatch z
    · exact q1.elim
def dMakeX (m : List Dv → Sto → Out Dv) (a : Af) : Ef := fun ρ S => (a ρ S).bind fun xs S1 => match allP xs with
  | some ds => makeOf m ds S1
  | none => .bad
theorem de_makeX {fI : Addr} {m : List Dv → Sto → Out Dv} (tk : Takes X W) (M : Mk X.K G.rc fI) (F : FnOk X.prog X.w X.K X.mg X.base (L2.CX X.prog X.w) k fI fd ps (spE G (n + 1) m)) (hr : Room (k + 1) X.A) (hg : Gl X x) (hm : X.mg x = some (.ref G.rc)) (hb : Binds X.K fd ps [])
    (hn : ∀ ρ S xs S', af ρ S = .ok xs S' → xs.length = n)
    (ha : PA X (e :: es) (tA G W af)) (hdb : (x == ("__debug__" : Str)) = false := by decide) (he : starEach (e :: es) X.env = (false, eval e X.env) :: starEach es X.env := by rfl) (hpl : (backTo pos (starEach es X.env)).any (·.1) = false := by rfl) :
    PE X (.Call (.Name x p) (e :: es) [] pos) (tD G W (dMakeX m af)) := by
  refine wkE (pe_makeR M F hr hg hm hb (passAt tk) ha hdb he hpl) fun σ H Q ⟨ρ, B, φ, S, w, en, q⟩ => ?_
  have q' := WP.fst q
  cases qa : af ρ S with
  | bad => rw [qa] at q'; exact q'.elim
  | exc x0 S0 => exact ⟨ρ, B, φ, S, w, en, by rw [qa] at q' ⊢; exact q'⟩
  | ok xs0 S0 =>
    have l0 := hn ρ S xs0 S0 qa
    refine ⟨ρ, B, φ, S, w, en, ?_⟩
    rw [qa] at q' ⊢
    intro H1 B1 φ1 x1 w1 vs r1
    have q1 := q' H1 B1 φ1 x1 w1
    dsimp only at q1
    cases qp : allP xs0 with
    | none => rw [qp] at q1; exact q1.elim
    | some ds =>
      rw [qp] at q1
      have rr := allP_rep qp r1
      exact make_core w1 rr (by rw [rr.length, ← r1.length, l0]) q1
/-- C(*e) -/
def dMakeS (n : Nat) (m : List Dv → Sto → Out Dv) (f : Ef) : Ef := fun ρ S => (f ρ S).bind fun d S1 => match sqOf S1 d with
  | some ds => if ds.length = n then makeOf m ds S1 else .bad
  | none => .bad
theorem de_makeS {fI : Addr} {m : List Dv → Sto → Out Dv} {sp_ : Pos} {ef : Ef} (hK : X.K = G.K) (tk : Takes X W) (M : Mk X.K G.rc fI) (F : FnOk X.prog X.w X.K X.mg X.base (L2.CX X.prog X.w) k fI fd ps (spE G (n + 1) m)) (hr : Room (k + 1) X.A) (hg : Gl X x) (hm : X.mg x = some (.ref G.rc)) (hb : Binds X.K fd ps [])
    (he : PE X e (tD G W ef)) (hdb : (x == ("__debug__" : Str)) = false := by decide) (hst : starEach [.Starred e sp_] X.env = [(true, eval e X.env)] := by rfl) :
    PE X (.Call (.Name x p) [.Starred e sp_] [] pos) (tD G W (dMakeS n m ef)) := by
  refine ⟨fun pins s σ H Q I h => wpAny_Call_Name_kw (ld_glob I hg hm ?_ hdb)⟩
  obtain ⟨ρ, B, φ, S, w, en, h⟩ := h
  have start : tD G W ef σ H (fun y H1 => ∃ a xs, y = .ref a ∧ (SqL G.K H1 a xs ∨ SqT G.K H1 a xs) ∧ ∀ xx dx, H1 xx = none → H1 dx = none → dx ≠ xx → spE G (n + 1) m (.ref xx :: xs) (upd (upd H1 dx (.own xx)) xx (.ins G.rc dx [])) (fun v H2 => v = .non ∧ Q (.ref xx) H2) (WE W σ)) := by
    refine tD.run w en (WP.fst h) fun d v H1 B1 φ1 S1 x1 w1 en1 r1 q1 => ?_
    split at q1
    · rename_i ds hs
      split at q1
      · rename_i hl
        obtain ⟨a, xs, rfl, s1, rr⟩ := sq_at w1 r1 hs
        exact ⟨a, xs, rfl, s1, fun xx dx h1 h2 h3 => make_core w1 rr hl q1 xx dx h1 h2 h3⟩
      · exact q1.elim
    · exact q1.elim
  refine PySem.W.callWith_S (h₀ := X.base) I.ok.mod.kin M.kp (thn (he.run pins s σ H _ I start) fun v s1 ⟨y, H1, I1, ry, a, xs, ey, hxs, q⟩ => ?_) hst
  subst ey
  obtain rfl : v = Value.ref a := ry
  rw [← hK] at hxs
  refine StX.star_any I1 (hxs.elim .inr .inl) fun us s2 I2 rv => ⟨I2.kIn, ?_⟩
  exact make_run M F hr hb (passAt tk σ) I2 rv q
end
end DL

set_option maxHeartbeats 4000000
namespace DL
open PySem L2
open PySem.Spec PyProof.Rows
section
variable {X : Cx} {G : Gx} {W : WX} {k n j : Nat} {f g : Addr} {fd : FuncData} {ps : List Str} {x : Str} {p q pos : Pos} {e e2 : Expr} {es : List Expr} {af : Af} {ef eg : Ef} {H B : Hp} {φ : List Addr} {S : Sto} {σ : L2.St} {Q : VK}
theorem rul_slt {ds : List D} {v : V} (w : Wd G H B φ S) (r : RepV G B φ (.p (.rul ds)) v) : ∃ a dx t, v = .ref a ∧ SlX.Slt H a G.rc dx [some (.ref t)] := by
  obtain ⟨a, dx, t, xs, rfl, h1, h2, _, _⟩ := rep_rul.mp r
  exact ⟨a, dx, t, rfl, .inr ⟨w.sub _ _ h1, w.sub _ _ h2⟩⟩
theorem cx_no {H : Hp} {s : Shared} {e : Value} {s' : Shared} {l : List Env} (h : L2.CX X.prog X.w l H s E0 e s') : False := by
  obtain ⟨_, _, _, _, _, _, _, _, _, _, _, _, z⟩ := h
  exact z.elim
/-- a promise that lets nothing out, at arguments as they stand -/
theorem raw_P {m : List D → PO} (F : FnOk X.prog X.w X.K X.mg X.base (L2.CX X.prog X.w) k f fd ps (spP G n m)) (hb : Binds X.K fd ps []) : FnR X.prog X.w X.K X.mg X.base (L2.CX X.prog X.w) k f (spP G n m) := by
  have h := F.raw hb (dvs := []) .nil
  exact h.imp fun vs H Q E z => by rw [List.append_nil]; exact z
theorem raw_E {m : List Dv → Sto → Out Dv} (F : FnOk X.prog X.w X.K X.mg X.base (L2.CX X.prog X.w) k f fd ps (spE G n m)) (hb : Binds X.K fd ps []) : FnR X.prog X.w X.K X.mg X.base (L2.CX X.prog X.w) k f (spE G n m) := by
  have h := F.raw hb (dvs := []) .nil
  exact h.imp fun vs H Q E z => by rw [List.append_nil]; exact z
def PO.out (o : PO) (S : Sto) : Out Dv := match o with
  | .ok d => .ok (.p d) S
  | _ => .bad
theorem spP_ok {m : List D → PO} {ds : List D} {vs : List V} {E : XK} (hn : ds.length = n) (w : Wd G H B φ S) (r : Reps G B ds vs) (h : WP G W σ H B φ ((m ds).out S) fun d H' B' φ' _ => ∀ v, RepV G B' φ' d v → Q v H') : spP G n m vs H Q E := by
  refine ⟨B, ds, w.sub, r, hn, ?_⟩
  unfold PO.out at h
  cases q : m ds with
  | bad => rw [q] at h; exact h
  | exc x => rw [q] at h; exact h.elim
  | ok d =>
    rw [q] at h
    intro H' B' v xx s r'
    obtain ⟨w', x'⟩ := w.call xx s
    exact h H' B' φ x' w' v r'
/-! ### properties -/
structure PropR (K : PySem.W.Frag) (C : Addr) (a : Str) (p g : Addr) : Prop where
  at_ : PySem.W.findIn K (.ref C) a = some (some (.ref p))
  get : PySem.W.specialIn K (.ref p) "__get__" = some (some (.builtin "property.__get__"))
  tk : PySem.W.takesIn K (.ref p) = some true
  rc : ∃ rest, PySem.W.recIn K p "property" = some (.ref g :: rest)
def dProp (m : List D → PO) (f : Ef) : Ef := fun ρ S => (f ρ S).bind fun d S1 => match d with
  | .p (.rul ds) => (m [.rul ds]).out S1
  | _ => .bad
theorem de_prop {a : Str} {pa : Addr} {m : List D → PO} (c : SlX.SCls X.K G.rc) (T : PropR X.K G.rc a pa g) (F : FnOk X.prog X.w X.K X.mg X.base (L2.CX X.prog X.w) k g fd ps (spP G 1 m)) (hb : Binds X.K fd ps []) (hr : Room (k + 1) X.A) (he : PE X e (tD G W ef))
    (hba : attributeBase e a X.env (eval e X.env) = eval e X.env := by rfl) : PE X (.Attribute e a pos) (tD G W (dProp m ef)) := by
  refine wkE (SlX.pe_propSl he c T.at_ T.get T.tk T.rc (raw_P F hb) hr (E := E0) (fun _ _ _ _ => cx_no) hba) fun σ H Q ⟨ρ, B, φ, S, w, en, h⟩ => tD.run w en (WP.fst h) fun d v H1 B1 φ1 S1 x1 w1 en1 r1 q1 => ?_
  split at q1
  · rename_i ds
    obtain ⟨a, dx, t, rfl, hs⟩ := rul_slt w1 r1
    have rr : Rep G B1 (.rul ds) (.ref a) := r1
    exact ⟨a, dx, _, rfl, hs, spP_ok rfl w1 (Reps.cons rr Reps.nil) q1⟩
  · exact q1.elim
/-! ### methods that may raise -/
def tMethR (C : Addr) (sp : Sp) (E : L2.St → XK) (ta : TE) (t : TA) : TE := fun σ H Q => ta σ H fun x H1 => ∃ a dx vs, x = .ref a ∧ SlX.Slt H1 a C dx vs ∧ t σ H1 fun ws H2 => sp (x :: ws) H2 Q (E σ)
theorem pe_methR {CX : CXT} {C : Addr} {o : Expr} {m : Str} {sp : Sp} {E : L2.St → XK} {pl : Sem Bool} {ta : TE} {t : TA} {apos : Pos} (he : PE X o ta) (c : SlX.SCls X.K C) (hm : Meth X.K C m g) (F : FnR X.prog X.w X.K X.mg X.base CX k g sp) (hr : Room k X.A) (hx : ∀ σ, PassesAt CX X σ (E σ)) (ha : PA X (e :: es) t)
    (hst : starEach (e :: es) X.env = (false, eval e X.env) :: starEach es X.env := by rfl) (hpl : (backTo pos (starEach es X.env)).any (·.1) = false := by rfl)
    (ht : eval (.Call (.Attribute o m apos) (e :: es) [] pos) X.env = (do
      let ov ← eval o X.env
      standAt apos.atName
      let (f, first) ← holding [ov] (getMethod ov m pl)
      callWith pos f first (backTo pos (starEach (e :: es) X.env)) (backToKw pos (keywordEach [] X.env))) := by rfl) :
    PE X (.Call (.Attribute o m apos) (e :: es) [] pos) (tMethR C sp E ta t) := by
  refine ⟨fun pins s σ H Q I h => PySem.W.methodCall_KW (pl := pl) (thn (he.run pins s σ H _ I h) fun u s1 ⟨x, H1, I1, rx, a, dx, vs, ex, hsl, q⟩ => ?_) ht⟩
  subst ex
  obtain rfl : u = Value.ref a := rx
  refine SlX.getmethsl_ok I1 hsl c hm (PySem.W.callWith_K (first := [.ref a]) (h₀ := X.base) I.ok.mod.kin hm.kp (thn (ha.run pos pins s1 σ H1 _ I1 q) fun us s2 ⟨ws, H2, I2, r, q2⟩ => ⟨I2.kIn, ?_⟩) hst hpl)
  refine wpAny_call (codeAny_mono (F X.A X.stack s2 H2 (.ref a :: us) (.ref a :: ws) Q (E σ) hr I2.env0 (.cons rfl r) q2) fun rr s' hq => ?_)
  cases rr with
  | error er => exact hx σ pins H2 s2 er s' I2 hq
  | ok fl =>
    cases fl with
    | ret u => exact I2.after hq
    | next => exact hq.elim
    | brk => exact hq.elim
    | cont => exact hq.elim
def dMethR (m : List D → PO) (f : Ef) (a : Af) : Ef := fun ρ S => (f ρ S).bind fun d S1 => match d with
  | .p (.rul ds) => (a ρ S1).bind fun xs S2 => match allP xs with
    | some es => match m (.rul ds :: es) with
      | .ok d => .ok (.p d) S2
      | .exc x => .exc x S2
      | .bad => .bad
    | none => .bad
  | _ => .bad
theorem de_methR {o : Expr} {mn : Str} {m : List D → PO} {pl : Sem Bool} {apos : Pos} (c : SlX.SCls X.K G.rc) (tk : Takes X W) (hm : Meth X.K G.rc mn g) (F : FnOk X.prog X.w X.K X.mg X.base (L2.CX X.prog X.w) k g fd ps (spP G (n + 1) m)) (hb : Binds X.K fd ps []) (hr : Room k X.A)
    (hn : ∀ ρ S xs S', af ρ S = .ok xs S' → xs.length = n) (he : PE X o (tD G W ef)) (ha : PA X (e :: es) (tA G W af))
    (hst : starEach (e :: es) X.env = (false, eval e X.env) :: starEach es X.env := by rfl) (hpl : (backTo pos (starEach es X.env)).any (·.1) = false := by rfl)
    (ht : eval (.Call (.Attribute o mn apos) (e :: es) [] pos) X.env = (do
      let ov ← eval o X.env
      standAt apos.atName
      let (f, first) ← holding [ov] (getMethod ov mn pl)
      callWith pos f first (backTo pos (starEach (e :: es) X.env)) (backToKw pos (keywordEach [] X.env))) := by rfl) :
    PE X (.Call (.Attribute o mn apos) (e :: es) [] pos) (tD G W (dMethR m ef af)) := by
  refine wkE (pe_methR he c hm (raw_P F hb) hr (passAt tk) ha hst hpl ht) fun σ H Q ⟨ρ, B, φ, S, w, en, h⟩ => tD.run w en (WP.fst h) fun d v H1 B1 φ1 S1 x1 w1 en1 r1 q1 => ?_
  split at q1
  · rename_i ds
    obtain ⟨a, dx, t, rfl, hs⟩ := rul_slt w1 r1
    refine ⟨a, dx, _, rfl, hs, ?_⟩
    have rr : Rep G B1 (.rul ds) (.ref a) := r1
    cases qa : af ρ S1 with
    | bad => rw [qa] at q1; exact q1.elim
    | exc x0 S0 => exact ⟨ρ, B1, φ1, S1, w1, en1, by rw [qa] at q1 ⊢; exact q1⟩
    | ok xs0 S2 =>
      have l0 := hn ρ S1 xs0 S2 qa
      refine ⟨ρ, B1, φ1, S1, w1, en1, ?_⟩
      rw [qa] at q1 ⊢
      intro H2 B2 φ2 x2 w2 ws r2
      have q2 := WP.rebase x2 q1
      have q2 : WP G W σ H2 B2 φ2 (match allP xs0 with
        | some es => match m (.rul ds :: es) with
          | .ok d => .ok (.p d) S2
          | .exc x => .exc x S2
          | .bad => .bad
        | none => .bad : Out Dv) (fun d H' B' φ' _ => ∀ v, RepV G B' φ' d v → Q v H') := q2
      cases qp : allP xs0 with
      | none => rw [qp] at q2; exact q2.elim
      | some es0 =>
        rw [qp] at q2
        have rs := allP_rep qp r2
        have ll : es0.length = n := by rw [rs.length, ← r2.length, l0]
        have r3 : RepVs G B2 φ2 ((D.rul ds :: es0).map Dv.p) (.ref a :: ws) := reps_vs (Reps.cons (Rep.mono x2.b _ rr) rs)
        have aP : ∀ l : List D, allP (l.map Dv.p) = some l := fun l => by
          induction l with
          | nil => rfl
          | cons d l ih => rw [List.map_cons]; unfold allP; rw [ih]; rfl
        exact spP_of (by rw [List.length_cons, ll]) w2 r3 (aP _) q2
  · exact q1.elim
/-! ### isinstance(e, C), C the class of rules -/
def dIsR (ts : List String) (f : Ef) : Ef := fun ρ S => (f ρ S).bind fun d S1 => match d with
  | .p (.rul _) => .ok (.p (.bl true)) S1
  | d => match tyOf S1 d with
    | some t => if t ∈ ts then .ok (.p (.bl false)) S1 else .bad
    | none => .bad
theorem de_isR {ts : List String} {T : Str} {pT : Pos} (hK : X.K = G.K) (he : PE X e (tD G W ef)) (hg : Gl X "isinstance") (hm : X.mg "isinstance" = none) (hgT : Gl X T) (hmT : X.mg T = some (.ref G.rc)) (c : SlX.SCls X.K G.rc) (si : SlX.SIsi X.K G.rc) (hts : ∀ t ∈ ts, PySem.W.kitOne X.K (.type t) (.ref G.rc) = some false)
    (hdT : (T == ("__debug__" : Str)) = false := by decide)
    (h1 : starEach [e, .Name T pT] X.env = (false, eval e X.env) :: starEach [.Name T pT] X.env := by rfl) (h2 : starEach [.Name T pT] X.env = (false, eval (.Name T pT) X.env) :: starEach [] X.env := by rfl) (hpl : (backTo pos (starEach [.Name T pT] X.env)).any (·.1) = false := by rfl) :
    PE X (.Call (.Name "isinstance" p) [e, .Name T pT] [] pos) (tD G W (dIsR ts ef)) := by
  have both : CallR X (.builtin "isinstance") (fun xs H Q => rIsi X.K xs H Q ∨ SlX.rIsiSl X.K (.ref G.rc) xs H Q) := fun pins s σ H xs us Q I r h => h.elim (call_isi pins s σ H xs us Q I r) (SlX.call_isiSl (.ref G.rc) pins s σ H xs us Q I r)
  refine wkE (pe_callB both hg hm boot_isinstance (pa_cons he (pa_cons (pe_glob hgT hmT (v := .ref G.rc) rfl hdT) pa_nil h2) h1) (by decide) (by decide) h1 hpl) fun σ H Q ⟨ρ, B, φ, S, w, en, h⟩ => tD.run w en (WP.fst h) fun d v H1 B1 φ1 S1 x1 w1 en1 r1 q1 => ?_
  split at q1
  · obtain ⟨a, dx, t, rfl, hs⟩ := rul_slt w1 r1
    refine .inr ⟨a, G.rc, dx, _, .ref G.rc, true, rfl, rfl, fun w hw => hw, hs, c, si, ?_, q1 H1 B1 φ1 Xt.refl w1 _ (rep_bl.mpr rfl)⟩
    unfold PySem.W.kitOne
    rw [if_pos (beq_self_eq_true _)]
  · split at q1
    · rename_i t ht
      split at q1
      · rename_i hm
        exact .inl ⟨v, .ref G.rc, .type t, .ref G.rc, false, rfl, .own G.rc, hK ▸ tyOf_at w1 r1 ht, hts t hm, q1 H1 B1 φ1 Xt.refl w1 _ (rep_bl.mpr rfl)⟩
      · exact q1.elim
    · exact q1.elim
/-! ### == of rules -/
def noX (o : Out Dv) : Out Dv := match o with
  | .ok d S => .ok d S
  | _ => .bad
def oEqR (ts : List String) (m : List Dv → Sto → Out Dv) : Op2 := fun x y S => match x with
  | .p (.rul ds) => match y with
    | .p (.rul es) => noX (m [.p (.rul ds), .p (.rul es)] S)
    | y => match tyOf S y with
      | some t => if t ∈ ts then noX (m [.p (.rul ds), y] S) else .bad
      | none => .bad
  | _ => .bad
def rEqR (K : PySem.W.Frag) (C : Addr) (sp : Sp) : R2 := fun x y H Q => ∃ a dx vs, x = .ref a ∧ SlX.Slt H a C dx vs ∧ ((∃ b C' dy ws, y = .ref b ∧ SlX.Slt H b C' dy ws ∧ PySem.W.notFirst K C (.ref C') = true) ∨ ∃ tb, TyX K H y tb ∧ PySem.W.notFirst K C tb = true) ∧ sp [x, y] H Q E0
theorem op_eqR {C : Addr} {sp : Sp} {CX : CXT} (hs : PySem.W.findIn X.K (.ref C) "__eq__" = some (some (.ref g))) (hf : PySem.W.isFn X.K (.ref g) = true) (F : FnR X.prog X.w X.K X.mg X.base CX n g sp) (hr : Room n X.A) (hx : Passes CX X E0) : OpR X (compareOp .Eq) (rEqR X.K C sp) := by
  intro pins s σ H x y v u Q I rx ry h
  obtain ⟨a, dx, vs, rfl, ha, hy, q⟩ := h
  cases (show v = Value.ref a from rx)
  obtain ⟨sl, od, _, J, _⟩ := SlX.slt_inst I ha
  obtain ⟨m, hF⟩ := I.fr
  have go : ∀ {tb : Value}, PySem.W.Looks (model X.prog X.w) s.heap (typeOf u) tb → PySem.W.notFirst X.K C tb = true → wpAny (model X.prog X.w) X.A (compareOp .Eq (.ref a) u) (EP X pins σ Q) X.xe s := fun {tb} L hn => by
    show wpAny _ _ (richCompare .Eq (.ref a) u) _ _ _
    refine PySem.W.cmp_K (op := .Eq) (tb := tb) hr.units0 hF I.ok.mod.kin J L hn hs hf ?_
    refine wpAny_mono (wpAny_call (run_fnR (us := [.ref a, u]) (vs := [.ref a, y]) F hr hx I (.cons rfl (.cons ry .nil)) q)) (fun w s' z => ?_) fun _ _ x => x
    obtain ⟨z', H', I', rz, qz⟩ := z
    exact SlX.cmpback rz ⟨z', H', I', rz, qz⟩
  rcases hy with ⟨b, C', dy, ws, rfl, hb, hn⟩ | ⟨tb, ty, hn⟩
  · cases (show u = Value.ref b from ry)
    obtain ⟨sl', od', _, J', _⟩ := SlX.slt_inst I hb
    exact go J'.type hn
  · obtain ⟨P, Z, hp, _⟩ := kit_of I ry ty
    exact go (Z.ty _ _ I.kIn hp) hn
theorem spE_ok {m : List Dv → Sto → Out Dv} {ds : List Dv} {vs : List V} {E : XK} (hn : ds.length = n) (w : Wd G H B φ S) (r : RepVs G B φ ds vs) (h : WP G W σ H B φ (noX (m ds S)) fun d H' B' φ' _ => ∀ v, RepV G B' φ' d v → Q v H') : spE G n m vs H Q E := by
  refine ⟨B, φ, S, ds, w, r, hn, ?_⟩
  unfold noX at h
  cases q : m ds S with
  | bad => rw [q] at h; exact h
  | exc x S' => rw [q] at h; exact h.elim
  | ok d S' => rw [q] at h; exact fun H' B' φ' xx w' v r' => h H' B' φ' xx w' v r'
theorem oEqR_ok {ts : List String} {m : List Dv → Sto → Out Dv} (hts : ∀ t ∈ ts, PySem.W.notFirst G.K G.rc (.type t) = true) : Ok2 G W (rEqR G.K G.rc (spE G 2 m)) (oEqR ts m) := by
  intro H B φ S σ x y v u Q w r1 r2 h
  unfold oEqR at h
  split at h
  · rename_i ds
    obtain ⟨a, dx, t, rfl, hs⟩ := rul_slt w r1
    refine ⟨a, dx, _, rfl, hs, ?_⟩
    split at h
    · rename_i es
      obtain ⟨b, dy, t2, rfl, hs2⟩ := rul_slt w r2
      refine ⟨.inl ⟨b, G.rc, dy, _, rfl, hs2, ?_⟩, spE_ok rfl w (show RepVs G B φ [.p (.rul ds), .p (.rul es)] [.ref a, .ref b] from ⟨_, _, rfl, r1, _, _, rfl, r2, rfl⟩) h⟩
      unfold PySem.W.notFirst
      rw [beq_self_eq_true]; rfl
    · split at h
      · rename_i t ht
        split at h
        · rename_i hm
          exact ⟨.inr ⟨.type t, tyOf_at w r2 ht, hts t hm⟩, spE_ok rfl w (show RepVs G B φ [.p (.rul ds), _] [.ref a, u] from ⟨_, _, rfl, r1, _, _, rfl, r2, rfl⟩) h⟩
        · exact h.elim
      · exact h.elim
  · exact h.elim
/-! isinstance(e, T) of a built-in T where e may be a rule -/
def dIsX (T : String) (b : Bool) (f : Ef) : Ef := fun ρ S => (f ρ S).bind fun d S1 => match d with
  | .p (.rul _) => .ok (.p (.bl b)) S1
  | d => match tyOf S1 d with
    | some t => match kitB t T with
      | some b => .ok (.p (.bl b)) S1
      | none => .bad
    | none => .bad
theorem de_isX {T : Str} {Ts : String} {b : Bool} {pT : Pos} (hK : X.K = G.K) (he : PE X e (tD G W ef)) (hg : Gl X "isinstance") (hm : X.mg "isinstance" = none) (hgT : Gl X T) (hmT : X.mg T = none) (hvT : bootBuiltins T = some (.type Ts)) (c : SlX.SCls X.K G.rc) (si : SlX.SIsi X.K G.rc)
    (hb : PySem.W.kitOne X.K (.ref G.rc) (.type Ts) = some b) (hnT : T ≠ "__name__") (hdT : (T == ("__debug__" : Str)) = false)
    (h1 : starEach [e, .Name T pT] X.env = (false, eval e X.env) :: starEach [.Name T pT] X.env := by rfl) (h2 : starEach [.Name T pT] X.env = (false, eval (.Name T pT) X.env) :: starEach [] X.env := by rfl) (hpl : (backTo pos (starEach [.Name T pT] X.env)).any (·.1) = false := by rfl) :
    PE X (.Call (.Name "isinstance" p) [e, .Name T pT] [] pos) (tD G W (dIsX Ts b ef)) := by
  have both : CallR X (.builtin "isinstance") (fun xs H Q => rIsi X.K xs H Q ∨ SlX.rIsiSl X.K (.type Ts) xs H Q) := fun pins s σ H xs us Q I r h => h.elim (call_isi pins s σ H xs us Q I r) (SlX.call_isiSl (.type Ts) pins s σ H xs us Q I r)
  refine wkE (pe_callB both hg hm boot_isinstance (pa_cons he (pa_cons (pe_bltn hgT hmT hvT (v := .ty Ts) rfl hnT hdT) pa_nil h2) h1) (by decide) (by decide) h1 hpl) fun σ H Q ⟨ρ, B, φ, S, w, en, h⟩ => tD.run w en (WP.fst h) fun d v H1 B1 φ1 S1 x1 w1 en1 r1 q1 => ?_
  split at q1
  · obtain ⟨a, dx, t, rfl, hs⟩ := rul_slt w1 r1
    exact .inr ⟨a, G.rc, dx, _, .ty Ts, b, rfl, rfl, fun w hw => hw, hs, c, si, hb, q1 H1 B1 φ1 Xt.refl w1 _ (rep_bl.mpr rfl)⟩
  · split at q1
    · rename_i t ht
      split at q1
      · rename_i b' hb'
        exact .inl ⟨v, .ty Ts, .type t, .type Ts, b', rfl, .ty Ts, hK ▸ tyOf_at w1 r1 ht, kit_ty hb', q1 H1 B1 φ1 Xt.refl w1 _ (rep_bl.mpr rfl)⟩
      · exact q1.elim
    · exact q1.elim
end
structure XCl0 (K : PySem.W.Frag) (mg : Str → Option Value) (x : Str) (C : Addr) : Prop where
  g : mg x = some (.ref C)
  k : PySem.W.keepIn K (.ref C) = true
  b : PySem.W.subIn K (.ref C) (.type "BaseException") = some true
  t : PySem.W.typeIn K (.ref C) = some (.type "type")
theorem notFirst_of {K : PySem.W.Frag} {C : Addr} {t : Value} (h : PySem.W.subIn K t (.ref C) = some false) : PySem.W.notFirst K C t = true := by
  unfold PySem.W.notFirst
  rw [h, beq_self_eq_true, Bool.or_true]
theorem kit_no {K : PySem.W.Frag} {C : Addr} {t : Value} (h1 : PySem.W.isClsIn K C = true) (h2 : PySem.W.typeIn K (.ref C) = some (.type "type")) (hn : (t == .ref C) = false) (h3 : PySem.W.subIn K t (.ref C) = some false) : PySem.W.kitOne K t (.ref C) = some false := by
  unfold PySem.W.kitOne
  rw [hn, if_neg Bool.false_ne_true]
  unfold PySem.W.kitCls
  have e : ((PySem.W.clsIn K C).isSome && PySem.W.typeIn K (.ref C) == some (.type "type")) = true := by
    rw [h2, Bool.and_eq_true]
    exact ⟨h1, beq_self_eq_true _⟩
  dsimp only
  rw [if_pos e, h3]
theorem kit_noT {K : PySem.W.Frag} {t : Value} {T : String} (h1 : PySem.W.kitMeta T = true) (hn : (t == .type T) = false) (h3 : PySem.W.subIn K t (.type T) = some false) : PySem.W.kitOne K t (.type T) = some false := by
  unfold PySem.W.kitOne
  rw [hn, if_neg Bool.false_ne_true]
  unfold PySem.W.kitCls
  dsimp only
  rw [if_pos h1, h3]
end DL

set_option maxHeartbeats 4000000
namespace PySem
open Sem (wp)
open AutoSeq1 (wpAny_loadPart')
theorem dl_enum_tuple (t : Addr) (its : Array Value) (n : Nat) (dc : Option Addr) (sl : Array (Option Value)) :
    Meets (Builtin.«enumerate.__new__» ⟨[.type "enumerate", .ref t], []⟩) (fun _ R s => s.heap.get? t = some { cls := .type "tuple", dict := dc, data := .seq its n, slots := sl } ∧
      R (.ok (.ret (.ref (s.heap.push { cls := .type "tuple_iterator", data := .fields #[.ref t, .int 0 0] }).objs.size)))
        { s with heap := (s.heap.push { cls := .type "tuple_iterator", data := .fields #[.ref t, .int 0 0] }).push { cls := .type "enumerate", data := .fields #[.none, .bool false, .ref s.heap.objs.size, rawInt 0, .none, .none] } }) :=
  .of_wp fun prog w A R s h => by
    obtain ⟨hp, g, d, tk, os⟩ := s
    obtain ⟨hl, h⟩ := h
    have hsub := sub_enumerate
    have hT : Heap.IsTuple (Shared.heap ⟨hp, g, d, tk, os⟩) t its := ⟨_, hl, rfl, n, rfl⟩
    wp_walk using wpAny_loadPart' hl
    refine wpAny_stack_any fun st => wpAny_pure ?_
    split
    · rename_i c _ _ _ _ _
      cases (c == Value.type "enumerate")
      · wp_walk using wpAny_loadPart' hl, wpAny_pyIter_tuple hT
        exact ⟨_, rfl, h⟩
      · wp_walk using wpAny_loadPart' hl, wpAny_pyIter_tuple hT
        exact ⟨_, rfl, h⟩
    · wp_walk using wpAny_loadPart' hl, wpAny_pyIter_tuple hT
      exact ⟨_, rfl, h⟩
theorem dl_call_enumT {prog : Program} {w : World} {A : Around} {E : Value → Shared → Prop} {s : Shared} {t : Addr} {its : Array Value} {Q : Value → Shared → Prop} (hT : s.heap.IsTuple t its)
    (h : ∀ h', IsEnum h' (s.heap.objs.size + 1) s.heap.objs.size 0 .none → h'.IsTupleIter s.heap.objs.size t 0 → h'.objs.size = s.heap.objs.size + 2 → (∀ b o, s.heap.get? b = some o → h'.get? b = some o) → Q (.ref (s.heap.objs.size + 1)) { s with heap := h' }) :
    wpAny (model prog w) A (call (.type "enumerate") [.ref t]) Q E s := by
  obtain ⟨⟨c, dct, dt, sl⟩, hl, hc, n, hd⟩ := hT
  replace hc : c = .type "tuple" := hc
  replace hd : dt = .seq its n := hd
  subst hc hd
  refine callType_new F.called_enumerate (by decide) (F.typeCall_enumerate_1 _) (F.newCall_enumerate_1 _) (fun obj => F.args_object_init_2 obj _) F.entry_enumerate_new (dl_enum_tuple t its n dct sl) ⟨hl, ?_⟩
  have hz : (s.heap.push { cls := .type "tuple_iterator", data := .fields #[.ref t, .int 0 0] }).objs.size = s.heap.objs.size + 1 := Heap.size_push ..
  show _ ∧ _
  rw [hz]
  have he : IsEnum ((s.heap.push { cls := .type "tuple_iterator", data := .fields #[.ref t, .int 0 0] }).push { cls := .type "enumerate", data := .fields #[.none, .bool false, .ref s.heap.objs.size, rawInt 0, .none, .none] }) (s.heap.objs.size + 1) s.heap.objs.size 0 .none := by
    have z := Heap.get?_push_size (s.heap.push { cls := .type "tuple_iterator", data := .fields #[.ref t, .int 0 0] }) (o := { cls := .type "enumerate", data := .fields #[.none, .bool false, .ref s.heap.objs.size, rawInt 0, .none, .none] }) rfl
    rw [hz] at z; exact z
  exact ⟨⟨_, he, rfl⟩, h _ he ⟨_, Heap.get?_push_of_some _ (Heap.get?_push_size _ rfl), rfl, rfl⟩ (by rw [Heap.size_push, hz]) fun b o x => Heap.get?_push_of_some _ (Heap.get?_push_of_some _ x)⟩
end PySem
namespace DL
open PySem L2
open PySem.Spec PyProof.Rows
/-! ### enumerate over a tuple -/
def IteT (K : PySem.W.Frag) (a : Addr) : It :=
  ⟨fun i H => ∃ (xs : List V) (x : V), SqT K H a xs ∧ xs[i]? = some x, fun i H v H' => ∃ T x, v = .ref T ∧ H T = none ∧ H' = upd H T (.tup [.int (i : Nat), x]) ∧ ∀ xs, SqT K H a xs → xs[i]? = some x, fun i H => ∃ xs : List V, SqT K H a xs ∧ xs.length = i⟩
theorem turn_enumT {P : Program} {w : World} {K : PySem.W.Frag} {elts : List Expr} {kk : Nat} {tpos : Pos} (a e it : Addr) :
    Turn P w K (.Tuple elts kk tpos) (IteT K a) [e, it] e (fun i h => (∃ old, IsEnum h e it ((i : Nat) : Int) old) ∧ h.IsTupleIter it a i ∧ e ≠ it) where
  mem := by simp
  obj := fun i h st b hb => by
    obtain ⟨⟨old, he⟩, ⟨o, ho, hc, hd⟩, _⟩ := st
    rcases (by simpa using hb : b = e ∨ b = it) with z | z
    · rw [z]; exact ⟨_, he, fun v q => nomatch q⟩
    · rw [z]; exact ⟨o, ho, fun v q => by rw [hd] at q; cases q⟩
  keep := fun i h h' st k => let ⟨⟨old, he⟩, hi, hne⟩ := st; ⟨⟨old, k e (by simp) _ he⟩, hi.at fun o q => k it (by simp) o q, hne⟩
  item := by
    intro X hP hw hK hc i pins s σ H E I hf st hg
    subst hP hw hK
    obtain ⟨⟨old, he⟩, hit, hne⟩ := st
    obtain ⟨xs, x, hq, hx⟩ := hg
    obtain ⟨its, rv, p, hz⟩ := I.tuple hq
    have p : s.heap.IsTuple a its.toArray := p
    obtain ⟨u, hu, ru⟩ := rv.get hx
    have hel : e < s.heap.objs.size := Heap.lt_size he
    have hil : it < s.heap.objs.size := by obtain ⟨_, q, _⟩ := hit; exact Heap.lt_size q
    have nai : a ≠ it := fun z => by
      obtain ⟨o1, g1, c1, _⟩ := hit
      obtain ⟨o2, g2, c2, _⟩ := p
      rw [z, g1] at g2
      cases g2
      rw [c1] at c2
      exact absurd c2 (by simp)
    have nea : e ≠ a := fun z => by
      obtain ⟨o2, g2, c2, _⟩ := p
      have he' : s.heap.get? e = some _ := he
      rw [z, g2] at he'
      have z2 := Option.some.inj he'
      rw [z2] at c2
      exact absurd c2 (by simp)
    have hlt : i < its.toArray.size := by
      have := (List.getElem?_eq_some_iff.mp hu).1
      simpa using this
    refine wpAny_pyNext_enum_itemD (PySem.Draws.tuple (A := X.A.in1) (by first | exact I.ok.hd hc | (show X.A.handled = none; exact I.ok.hd hc)) it a nai its.toArray) he ⟨hit, p⟩ hlt hne (by simp [hne, nea]) fun y h' tk hy ho hst hT hsz hk => ?_
    have ey : y = u := by
      have hu' : its.toArray[i]? = some u := by simpa using hu
      have : its.toArray[i]? = some y := hy
      rw [hu'] at this
      exact (Option.some.inj this).symm
    subst ey
    refine ⟨_, rfl, wpAny_letOwnedTupleGo_enum (s := { s with heap := h', toks := tk + 1 }) ho fun h'' he' sb => ?_⟩
    have hT2 : h''.get? s.heap.objs.size = some { cls := .type "tuple", data := .seq #[.int i tk, y] } := (sb.2 _ (Nat.ne_of_gt hel)).trans hT
    have new : ObjOk X.prog X.w (upd H s.heap.objs.size (.tup [.int (i : Nat), x])) h'' s.heap.objs.size (.tup [.int (i : Nat), x]) :=
      ⟨by show 2 ≤ sizeLine; decide, [.int i tk, y], .cons ⟨_, rfl⟩ (.cons ru .nil), ⟨_, hT2, rfl, _, rfl⟩⟩
    have I1 : Inv X pins σ (upd H s.heap.objs.size (.tup [.int (i : Nat), x])) { s with heap := h'', toks := tk + 1 } :=
      I.turnedNew (ch := [e, it]) (fun b ob hb q => (sb.2 b (fun z => hb (by simp [z]))).trans (hk b ob (fun z => hb (by simp [z])) (fun z => hb (by simp [z])) q)) hf (Nat.le_refl _) new
    refine ⟨.ref s.heap.objs.size, _, I1, rfl, ⟨_, x, rfl, I.hok.fresh (Nat.le_refl _), rfl, fun ys hy => by rw [I.tuple_inj hy hq]; exact hx⟩, ⟨⟨y, ?_⟩, hst.1.at fun o q => (sb.2 it (Ne.symm hne)).trans q, hne⟩, fun b hb => ?_⟩
    · rw [show ((i + 1 : Nat) : Int) = (i : Int) + 1 by omega]; exact he'
    · have hb' : b < s.heap.objs.size := by
        rcases (by simpa using hb : b = e ∨ b = it) with z | z
        · rw [z]; exact hel
        · rw [z]; exact hil
      rw [upd_ne (Nat.ne_of_lt hb')]
      exact (hf b hb).1
  done := by
    intro X hP hw hK hc i pins s σ H E I hf st hg
    subst hP hw hK
    obtain ⟨⟨old, he⟩, hit, hne⟩ := st
    obtain ⟨xs, hq, hx⟩ := hg
    obtain ⟨its, rv, p, hz⟩ := I.tuple hq
    have p : s.heap.IsTuple a its.toArray := p
    obtain ⟨f0, f1, f2, f3, f4, f5⟩ := hf it (by simp)
    have nai : a ≠ it := fun z => by
      obtain ⟨o1, g1, c1, _⟩ := hit
      obtain ⟨o2, g2, c2, _⟩ := p
      rw [z, g1] at g2
      cases g2
      rw [c1] at c2
      exact absurd c2 (by simp)
    have hl := rv.length
    have hh : X.A.in1.handled = none := by first | exact I.ok.hd hc | (show X.A.handled = none; exact I.ok.hd hc)
    have ei : i = its.toArray.size := by simp; omega
    exact wpAny_pyNext_enum_endD (PySem.Draws.tuple hh it a nai its.toArray) he ⟨by rw [← ei]; exact hit, p⟩ fun h' eb => ⟨rfl, I.turned (t' := s.toks) (fun b o hb q => eb b o hb q) f0 f1 f3 f4 f5⟩
  self := fun A i s Q E st h => let ⟨⟨_, he⟩, _⟩ := st; wpAny_pyIter_enum he h
def iEnT (K : PySem.W.Frag) (ta : TA) : TI := fun σ H R => ta σ H fun vs H1 => ∃ a xs, vs = [.ref a] ∧ SqT K H1 a xs ∧ R (IteT K a) H1
theorem pi_enumT {X : Cx} {e : Expr} {ta : TA} {p pos tpos : Pos} {elts : List Expr} {kk : Nat} (hg : Gl X "enumerate") (hm : X.mg "enumerate" = none) (ha : PA X [e] ta) (hs : starEach [e] X.env = [(false, eval e X.env)] := by rfl) :
    PI X (.Tuple elts kk tpos) (.Call (.Name "enumerate" p) [e] [] pos) (iEnT X.K ta) := by
  refine ⟨fun pins s σ H R I h => Call_ (ld_blt I hg hm boot_enumerate (PyProof.Rows.callWith_type1 (thn (ha.run pos pins s σ H _ I h) fun us s1 ⟨vs, H1, I1, r1, a, xs, ex, hq, q⟩ => ?_) hs rfl))⟩
  subst ex
  cases r1 with
  | cons r rr =>
    cases rr
    cases r
    obtain ⟨its, rv, p', hz⟩ := I1.tuple hq
    have p' : s1.heap.IsTuple a its.toArray := p'
    refine dl_call_enumT p' fun h' he hit hsz hk => wpAny_pyIter_enum he ?_
    have I2 : Inv X pins σ H1 { s1 with heap := h' } := I1.kept (t' := s1.toks) hk
    refine ⟨s1.heap.objs.size + 1, [s1.heap.objs.size + 1, s1.heap.objs.size], _, _, H1, rfl, I2, turn_enumT a (s1.heap.objs.size + 1) s1.heap.objs.size, ⟨⟨.none, he⟩, hit, Nat.succ_ne_self _⟩, fun b hb => ?_, q⟩
    have hle : s1.heap.objs.size ≤ b := by
      rcases (by simpa using hb : b = s1.heap.objs.size + 1 ∨ b = s1.heap.objs.size) with z | z
      · rw [z]; exact Nat.le_add_right _ _
      · rw [z]; exact Nat.le_refl _
    exact I1.fpOk hle (I1.hok.fresh hle)
section
variable {X : Cx} {G : Gx} {W : WX} {e e2 : Expr} {es : List Expr} {ef eg : Ef} {af : Af} {pos p : Pos} {B : Hp}
theorem yl_enumT {a : Addr} {xs : List V} {ds : List D} (h : SqT G.K B a xs) (r : Reps G B ds xs) : Yl G (IteT G.K a) (enumD 0 ds) B := by
  intro i H B1 φ S w sb
  have hq : SqT G.K H a xs := sqT_mono w.sub (sqT_mono sb h)
  have hl := r.length
  rw [enumD_len]
  refine ⟨fun hi => ?_, fun hi => ⟨xs, hq, by omega⟩⟩
  obtain ⟨v, hv, rv⟩ := r.get (List.getElem?_eq_getElem hi)
  refine ⟨⟨xs, v, hq, hv⟩, fun x H' ⟨T, y, e1, hT, e2, hy⟩ => ?_⟩
  subst e1 e2
  have ey : y = v := Option.some.inj ((hy xs hq).symm.trans hv)
  subst ey
  have hd := enumD_get 0 ds i _ (List.getElem?_eq_getElem hi)
  rw [Nat.zero_add] at hd
  refine ⟨_, upd B1 T (.tup [.int (i : Nat), y]), hd, Xt.alloc w hT, w.alloc hT, ?_⟩
  have sb2 : Same B1 (upd B1 T (.tup [.int (i : Nat), y])) := same_upd' (w.bfree hT)
  unfold Rep
  exact ⟨T, _, rfl, SqT.of upd_same, Reps.cons (rpi _) (Reps.cons (Rep.mono sb2 _ (Rep.mono sb _ rv)) Reps.nil)⟩
/-- enumerate(e), e a list or a tuple -/
def iEnumX (f : Ef) : If := fun ρ S => (f ρ S).bind fun x S1 => match x with
  | .p (.lst ds) => .ok (enumD 0 ds) S1
  | .p (.tup ds) => .ok (enumD 0 ds) S1
  | _ => .bad
theorem di_enumX {elts : List Expr} {kk : Nat} {tpos : Pos} (hK : X.K = G.K) (hg : Gl X "enumerate") (hm : X.mg "enumerate" = none) (he : PE X e (tD G W ef)) (hs : starEach [e] X.env = [(false, eval e X.env)] := by rfl) :
    PI X (.Tuple elts kk tpos) (.Call (.Name "enumerate" p) [e] [] pos) (tI G W (iEnumX ef)) := by
  have s1 : starEach (e :: []) X.env = (false, eval e X.env) :: starEach [] X.env := hs
  have ha := da_cons (X := X) (af := aNil) he da_nil s1
  refine wkI (PI.or' (pi_enum hg hm ha hs) (pi_enumT hg hm ha hs)) fun σ H R ⟨ρ, B, φ, S, w, en, h⟩ => ?_
  have h2 := WP.fst h
  rw [hK]
  have step : ∀ {T : List V → Hp → Prop}, WP G W σ H B φ (ef ρ S) (fun a H' B' φ' S' => ∀ v, RepV G B' φ' a v → T [v] H') → tA G W (aCons ef aNil) σ H T := fun {T} q => by
    refine ⟨ρ, B, φ, S, w, en, ?_⟩
    unfold aCons aNil
    cases e1 : ef ρ S with
    | bad => rw [e1] at q; exact q.elim
    | exc x S1 => rw [e1] at q; exact q
    | ok d S1 =>
      rw [e1] at q
      intro H' B' φ' x w' vs ⟨v, t, ev, r, et⟩
      subst ev
      rw [show t = [] from et]
      exact q H' B' φ' x w' v r
  cases q : ef ρ S with
  | bad => rw [q] at h2; exact h2.elim
  | exc x S1 => exact .inl (step (by rw [q] at h2 ⊢; exact h2))
  | ok d S1 =>
    rw [q] at h2
    have no : (∀ H' B' φ', Xt H B φ H' B' φ' → Wd G H' B' φ' S1 → False) → iEnum G.K (tA G W (aCons ef aNil)) σ H R ∨ iEnT G.K (tA G W (aCons ef aNil)) σ H R := fun k => .inl (step (by rw [q]; exact fun H' B' φ' x w' v r => (k H' B' φ' x w').elim))
    cases d with
    | hnd n => exact no fun H' B' φ' x w' => (h2 H' B' φ' x w').elim
    | p d =>
      cases d with
      | lst ds =>
        refine .inl (step (by
          rw [q]
          intro H' B' φ' x w' v r
          obtain ⟨a, xs, rfl, s1, q1⟩ := rep_lst.mp r
          have sq : SqL G.K B' a xs := SqL.of s1
          exact ⟨a, xs, rfl, w'.sub.seq sq, h2 H' B' φ' x w' H' B' φ' Xt.refl w' _ (yl_enum sq q1)⟩))
      | tup ds =>
        refine .inr (step (by
          rw [q]
          intro H' B' φ' x w' v r
          obtain ⟨a, xs, rfl, s1, q1⟩ := rep_tup.mp r
          exact ⟨a, xs, rfl, sqT_mono w'.sub s1, h2 H' B' φ' x w' H' B' φ' Xt.refl w' _ (yl_enumT s1 q1)⟩))
      | _ => exact no fun H' B' φ' x w' => (h2 H' B' φ' x w').elim
/-! ### *e in displays -/
def aStar (f : Ef) (r : Af) : Af := fun ρ S => (f ρ S).bind fun d S1 => match sqOf S1 d with
  | some ds => (r ρ S1).bind fun xs S2 => .ok (ds.map Dv.p ++ xs) S2
  | none => .bad
theorem repsV_append {φ : List Addr} : ∀ {ds : List D} {es : List Dv} {vs us : List V}, Reps G B ds vs → RepVs G B φ es us → RepVs G B φ (ds.map Dv.p ++ es) (vs ++ us)
  | [], _, _, _, h, q => by unfold Reps at h; subst h; exact q
  | d :: ds, es, _, us, h, q => by
    unfold Reps at h
    obtain ⟨x, r, rfl, h1, h2⟩ := h
    exact ⟨x, _, rfl, h1, repsV_append h2 q⟩
theorem da_star (hK : X.K = G.K) (he : PE X e (tD G W ef)) (hr : PA X es (tA G W af)) (hs : starEach (.Starred e p :: es) X.env = (true, eval e X.env) :: starEach es X.env := by rfl) : PA X (.Starred e p :: es) (tA G W (aStar ef af)) := by
  refine wkA (StX.pa_star he hr hs) fun σ H Q ⟨ρ, B, φ, S, w, en, q⟩ => ?_
  refine tD.run w en (WP.fst q) fun d v H1 B1 φ1 S1 x1 w1 en1 r1 q1 => ?_
  split at q1
  · rename_i ds hd
    obtain ⟨a, xs, rfl, s1, rr⟩ := sq_at w1 r1 hd
    rw [← hK] at s1
    refine ⟨a, xs, rfl, s1.elim .inr .inl, ?_⟩
    refine tA.run w1 en1 (WP.fst q1) fun ds2 vs H2 B2 φ2 S2 x2 w2 en2 r2 q2 => ?_
    exact q2 H2 B2 φ2 Xt.refl w2 _ (repsV_append (Reps.mono x2.b _ rr) r2)
  · exact q1.elim
end
end DL

set_option maxHeartbeats 4000000
namespace DL
open PySem L2
open PySem.Spec PyProof.Rows
/-! ### [e for x in xs for y in ys] -/
def comp2L (t : Tgt) (it1 : If) (vs1 : List Nat) (t1 : Tgt) (el : Ef) (ρ : Nv) : Nat → List D → Sto → Out (List D)
  | _, [], S => .ok [] S
  | n, d :: ds, S => match t (.p d) ρ with
    | some ρ1 => (it1 ρ1 S).nox.bind fun ds1 S1 => if n + ds1.length ≤ big then (compL t1 cYes el (wipeN ρ1 vs1) ds1 S1).bind fun r S2 => (comp2L t it1 vs1 t1 el ρ (n + ds1.length) ds S2).bind fun r2 S3 => .ok (r ++ r2) S3 else .bad
    | none => .bad
def dComp2 (vs : List Nat) (it : If) (t : Tgt) (it1 : If) (vs1 : List Nat) (t1 : Tgt) (el : Ef) : Ef := fun ρ S => (it ρ S).bind fun ds S1 => (comp2L t it1 vs1 t1 el (wipeN ρ vs) 0 ds S1).bind fun r S2 => .ok (.p (.lst r)) S2
section
variable {X : Cx} {G : Gx} {W : WX}
theorem bind_id {α : Type} (o : Out (List α)) : (o.bind fun r S => .ok ([] ++ r) S) = o := by cases o <;> rfl
theorem comp2_le {own : List (Str × Nat)} {it it1 : If} {ts ts1 vs1 : List Nat} {t t1 : Tgt} {el : Ef} (hts : ∀ i ∈ ts, i ∈ own.map (·.2)) (hts1 : ∀ i ∈ ts1, i ∈ vs1) :
    ∀ σ H Q, tD G W (dComp2 (own.map (·.2)) it t it1 vs1 t1 el) σ H Q → tLc2 (tI G W it) (tG G ts t) (tT G noW cYes) (tI G noW it1) (tG G ts1 t1) (tT G noW cYes) (tD G noW el) (own.map (·.2)) vs1 σ H Q := by
  rintro σ H Q ⟨ρ, B, φ, S, w, en, h⟩
  refine ⟨ρ, B, φ, S, w, en, (WP.fst h).mono fun ds H1 B1 φ1 S1 x1 w1 q1 J yl => ?_⟩
  intro D hD
  have en1 := (en.mono x1.b x1.p).wipe (own.map (·.2))
  generalize hvs : own.map (·.2) = vs at *
  have nD1 : D ∉ φ1 := w1.fresh hD
  let K : List DL.D → Out (List DL.D) → Prop := fun acc o => WP G W σ H1 B1 φ1 (o.bind fun r S2 => Out.ok (Dv.p (DL.D.lst (acc ++ r))) S2) (fun d H' B' φ' _ => ∀ v, RepV G B' φ' d v → Q v H')
  have away : ∀ {a : Addr} {u o : HO} {H B : Hp} {φ : List Addr}, Xt H1 B1 φ1 H B φ → H1 a = some u → B1 a = none → a ∉ φ1 → upd H D o a = some u ∧ B a = none ∧ a ∉ φ := fun {a u o H B φ} x h1 h2 h3 => by
    have na : a ≠ D := ne_of_none h1 hD
    rw [upd_ne na]
    exact x.out a u h1 h2 h3
  refine ⟨fun i m H => ∃ B φ S acc av n, Wd G H B φ S ∧ Xt H1 B1 φ1 H B φ ∧ B D = none ∧ D ∉ φ ∧ H D = some (.lst av) ∧ Reps G B acc av ∧ acc.length ≤ n ∧ i ≤ ds.length ∧ m = ds.length - i ∧ K acc (comp2L t it1 vs1 t1 el (wipeN ρ vs) n (ds.drop i) S),
    ⟨_, B1, φ1, S1, [], [], 0, w1.hide hD, Xt.hide w1 hD, w1.bfree hD, nD1, upd_same, Reps.nil, Nat.le_refl _, Nat.zero_le _, rfl, q1⟩, ?_⟩
  rintro i m H ⟨B, φ, S, acc, av, n, w, x, hb, hf, hh, rr, hai, hi, rfl, q⟩
  obtain ⟨y1, y2⟩ := yl i H B φ S w x.b
  by_cases hlt : i < ds.length
  · obtain ⟨go, y1⟩ := y1 hlt
    refine .inr ⟨go, fun H' => ∃ B φ S acc av n, Wd G H' B φ S ∧ Xt H1 B1 φ1 H' B φ ∧ B D = none ∧ D ∉ φ ∧ H' D = some (.lst av) ∧ Reps G B acc av ∧ acc.length ≤ n ∧ K acc (comp2L t it1 vs1 t1 el (wipeN ρ vs) n (ds.drop (i + 1)) S), ?_, ?_⟩
    · rintro H' ⟨B', φ', S', acc', av', n', w', x', hb', hf', hh', rr', hai', q'⟩
      exact ⟨ds.length - (i + 1), by omega, B', φ', S', acc', av', n', w', x', hb', hf', hh', rr', hai', hlt, rfl, q'⟩
    · intro y H' hy
      obtain ⟨d, B', hd, xx, w', r⟩ := y1 y H' hy
      rw [List.drop_eq_getElem_cons hlt] at q
      have ed : ds[i] = d := by rw [List.getElem?_eq_getElem hlt] at hd; exact Option.some.inj hd
      rw [ed] at q
      unfold comp2L at q
      have x' := x.trans xx
      obtain ⟨hh', hb', hf'⟩ := xx.out D _ hh hb hf
      refine ⟨wipeN ρ vs, B', φ, S, .p d, w', en1.mono x'.b x'.p, r, ?_⟩
      cases e1 : t (.p d) (wipeN ρ vs) with
      | none => rw [e1] at q; exact q.elim
      | some ρ1 =>
        rw [e1] at q
        dsimp only at q
        refine fun σ2 en2 k2 => ⟨(k2 vs hts).trans (wipe_wipe vs fun _ z => z), ρ1, B', φ, S, w', en2, ?_⟩
        intro H3 B3 φ3 x3 w3
        obtain ⟨hh3, hb3, hf3⟩ := x3.out D _ hh' hb' hf'
        have x03 := x'.trans x3
        rw [if_pos rfl]
        refine ⟨ρ1, B3, φ3, S, w3, en2.mono x3.b x3.p, ?_⟩
        cases e2 : it1 ρ1 S with
        | bad => rw [e2] at q; exact q.elim
        | exc e' S' => rw [e2] at q; exact q.elim
        | ok ds1 S2 =>
          rw [e2] at q
          have q : K acc (if n + ds1.length ≤ big then (compL t1 cYes el (wipeN ρ1 vs1) ds1 S2).bind fun r S2 => (comp2L t it1 vs1 t1 el (wipeN ρ vs) (n + ds1.length) (ds.drop (i + 1)) S2).bind fun r2 S3 => .ok (r ++ r2) S3 else .bad) := q
          split at q
          · rename_i hbig
            intro H4 B4 φ4 x4 w4 J1 yl1
            obtain ⟨hh4, hb4, hf4⟩ := x4.out D _ hh3 hb3 hf3
            have x04 := x03.trans x4
            have sB : Same B B4 := xx.b.trans (x3.b.trans x4.b)
            have en4 := ((en2.mono x3.b x3.p).mono x4.b x4.p).wipe vs1
            refine ⟨fun j k H => ∃ B φ S acc av, Wd G H B φ S ∧ Xt H1 B1 φ1 H B φ ∧ Same B4 B ∧ φ4 <+: φ ∧ B D = none ∧ D ∉ φ ∧ H D = some (.lst av) ∧ Reps G B acc av ∧ acc.length ≤ n + j ∧ j ≤ ds1.length ∧ k = ds1.length - j ∧
                K acc ((compL t1 cYes el (wipeN ρ1 vs1) (ds1.drop j) S).bind fun r S2 => (comp2L t it1 vs1 t1 el (wipeN ρ vs) (n + ds1.length) (ds.drop (i + 1)) S2).bind fun r2 S3 => .ok (r ++ r2) S3),
              ⟨_, B4, φ4, S2, acc, av, w4, x04, Same.refl _, List.prefix_refl _, hb4, hf4, hh4, Reps.mono sB _ rr, hai, Nat.zero_le _, rfl, q⟩, ?_⟩
            rintro j k H5 ⟨B5, φ5, S5, acc5, av5, w5, x5, sB5, pf5, hb5, hf5, hh5, rr5, ha5, hj, rfl, q5⟩
            obtain ⟨z1, z2⟩ := yl1 j H5 B5 φ5 S5 w5 sB5
            by_cases hlt1 : j < ds1.length
            · obtain ⟨go1, z1⟩ := z1 hlt1
              refine .inr ⟨go1, fun H' => ∃ B φ S acc av, Wd G H' B φ S ∧ Xt H1 B1 φ1 H' B φ ∧ Same B4 B ∧ φ4 <+: φ ∧ B D = none ∧ D ∉ φ ∧ H' D = some (.lst av) ∧ Reps G B acc av ∧ acc.length ≤ n + (j + 1) ∧
                K acc ((compL t1 cYes el (wipeN ρ1 vs1) (ds1.drop (j + 1)) S).bind fun r S2 => (comp2L t it1 vs1 t1 el (wipeN ρ vs) (n + ds1.length) (ds.drop (i + 1)) S2).bind fun r2 S3 => .ok (r ++ r2) S3), ?_, ?_⟩
              · rintro H' ⟨B', φ', S', acc', av', w', x', sB', pf', hb', hf', hh', rr', hai', q'⟩
                exact ⟨ds1.length - (j + 1), by omega, B', φ', S', acc', av', w', x', sB', pf', hb', hf', hh', rr', hai', hlt1, rfl, q'⟩
              · intro y1 H6 hy1
                obtain ⟨d1, B6, hd1, xx6, w6, r6⟩ := z1 y1 H6 hy1
                rw [List.drop_eq_getElem_cons hlt1] at q5
                have ed1 : ds1[j] = d1 := by rw [List.getElem?_eq_getElem hlt1] at hd1; exact Option.some.inj hd1
                rw [ed1] at q5
                unfold compL at q5
                have x6 := x5.trans xx6
                obtain ⟨hh6, hb6, hf6⟩ := xx6.out D _ hh5 hb5 hf5
                refine ⟨wipeN ρ1 vs1, B6, φ5, S5, .p d1, w6, (en4.mono sB5 pf5).mono xx6.b xx6.p, r6, ?_⟩
                cases e6 : t1 (.p d1) (wipeN ρ1 vs1) with
                | none => rw [e6] at q5; exact q5.elim
                | some ρ6 =>
                  rw [e6] at q5
                  dsimp only at q5
                  refine fun σ3 en3 k3 => ⟨(k3 vs1 hts1).trans (wipe_wipe vs1 fun _ z => z), ρ6, B6, φ5, S5, w6, en3, ?_⟩
                  intro H7 B7 φ7 x7 w7
                  obtain ⟨hh7, hb7, hf7⟩ := x7.out D _ hh6 hb6 hf6
                  have x07 := x6.trans x7
                  rw [if_pos rfl]
                  refine ⟨ρ6, B7, φ7, S5, w7, en3.mono x7.b x7.p, ?_⟩
                  have q5 : K acc5 (((el ρ6 S5).nox.bind (fun x S2 => match x with
                      | .p d' => (compL t1 cYes el (wipeN ρ1 vs1) (ds1.drop (j + 1)) S2).bind fun r S3 => Out.ok (d' :: r) S3
                      | .hnd _ => .bad)).bind fun r S2 => (comp2L t it1 vs1 t1 el (wipeN ρ vs) (n + ds1.length) (ds.drop (i + 1)) S2).bind fun r2 S3 => .ok (r ++ r2) S3) := q5
                  cases e7 : el ρ6 S5 with
                  | bad => rw [e7] at q5; exact q5.elim
                  | exc e' S' => rw [e7] at q5; exact q5.elim
                  | ok dv S8 =>
                    rw [e7] at q5
                    cases dv with
                    | hnd n => exact q5.elim
                    | p d' =>
                      have q5 : K acc5 (((compL t1 cYes el (wipeN ρ1 vs1) (ds1.drop (j + 1)) S8).bind fun r S3 => Out.ok (d' :: r) S3).bind fun r S2 => (comp2L t it1 vs1 t1 el (wipeN ρ vs) (n + ds1.length) (ds.drop (i + 1)) S2).bind fun r2 S3 => .ok (r ++ r2) S3) := q5
                      intro H8 B8 φ8 x8 w8 v8 r8
                      obtain ⟨hh8, hb8, hf8⟩ := x8.out D _ hh7 hb7 hf7
                      have x08 := x07.trans x8
                      have sB8 : Same B5 B8 := xx6.b.trans (x7.b.trans x8.b)
                      have rr8 : Reps G B8 acc5 av5 := Reps.mono sB8 _ rr5
                      refine ⟨av5, hh8, ?_, B8, φ8, S8, acc5 ++ [d'], av5 ++ [v8], w8.priv hb8 hf8, ⟨x08.b, x08.p, fun a u h1 h2 h3 => away x08 h1 h2 h3⟩, sB5.trans sB8, pf5.trans (xx6.p.trans (x7.p.trans x8.p)), hb8, hf8, upd_same, rr8.append (Reps.cons r8 Reps.nil), by rw [List.length_append]; show acc5.length + 1 ≤ _; omega, ?_⟩
                      · rw [← rr8.length, ← big_eq]; omega
                      · show WP G W σ H1 B1 φ1 _ _
                        have q5 : WP G W σ H1 B1 φ1 ((((compL t1 cYes el (wipeN ρ1 vs1) (ds1.drop (j + 1)) S8).bind fun r S3 => Out.ok (d' :: r) S3).bind fun r S2 => (comp2L t it1 vs1 t1 el (wipeN ρ vs) (n + ds1.length) (ds.drop (i + 1)) S2).bind fun r2 S3 => .ok (r ++ r2) S3).bind fun r S2 => Out.ok (Dv.p (DL.D.lst (acc5 ++ r))) S2) (fun d H' B' φ' _ => ∀ v, RepV G B' φ' d v → Q v H') := q5
                        rw [Out.bind_assoc, Out.bind_assoc] at q5
                        rw [Out.bind_assoc]
                        have e9 : (fun (r : List DL.D) (S : Sto) => (Out.ok (d' :: r) S).bind fun a S => ((comp2L t it1 vs1 t1 el (wipeN ρ vs) (n + ds1.length) (ds.drop (i + 1)) S).bind fun r2 S3 => .ok (a ++ r2) S3).bind fun r S2 => Out.ok (Dv.p (DL.D.lst (acc5 ++ r))) S2)
                            = fun r S => ((comp2L t it1 vs1 t1 el (wipeN ρ vs) (n + ds1.length) (ds.drop (i + 1)) S).bind fun r2 S3 => .ok (r ++ r2) S3).bind fun r S2 => Out.ok (Dv.p (DL.D.lst (acc5 ++ [d'] ++ r))) S2 := by
                          funext r S
                          show ((comp2L t it1 vs1 t1 el (wipeN ρ vs) (n + ds1.length) (ds.drop (i + 1)) S).bind fun r2 S3 => .ok ((d' :: r) ++ r2) S3).bind _ = _
                          rw [Out.bind_assoc, Out.bind_assoc]
                          congr 1
                          funext r2 S3
                          show Out.ok (Dv.p (DL.D.lst (acc5 ++ (d' :: r ++ r2)))) S3 = Out.ok (Dv.p (DL.D.lst (acc5 ++ [d'] ++ (r ++ r2)))) S3
                          rw [List.append_assoc acc5]; rfl
                        rw [← e9]
                        exact q5
            · have ej : j = ds1.length := by omega
              subst ej
              rw [List.drop_length] at q5
              refine .inl ⟨z2 rfl, B5, φ5, S5, acc5, av5, n + ds1.length, w5, x5, hb5, hf5, hh5, rr5, ha5, ?_⟩
              have q5 : K acc5 ((comp2L t it1 vs1 t1 el (wipeN ρ vs) (n + ds1.length) (ds.drop (i + 1)) S5).bind fun r2 S3 => .ok ([] ++ r2) S3) := q5
              rw [bind_id] at q5
              exact q5
          · exact q.elim
  · have e : i = ds.length := by omega
    subst e
    rw [List.drop_length] at q
    refine .inl ⟨y2 rfl, ?_⟩
    have q : WP G W σ H1 B1 φ1 (.ok (.p (.lst (acc ++ []))) S) (fun d H' B' φ' _ => ∀ v, RepV G B' φ' d v → Q v H') := q
    rw [List.append_nil] at q
    have sb : Same B (upd B D (.lst av)) := same_upd' hb
    refine q H (upd B D (.lst av)) φ ⟨x.b.trans sb, x.p, fun a u h1 h2 h3 => ?_⟩ (w.adopt hh hb hf) _ (rep_lst.mpr ⟨D, av, rfl, upd_same, Reps.mono sb _ rr⟩)
    have na : a ≠ D := ne_of_none h1 hD
    rw [upd_ne na]
    exact x.out a u h1 h2 h3
theorem de_comp2 {elt tg iter tg1 iter1 : Expr} {scope : Scope} {own : List (Str × Nat)} {it it1 : If} {ts ts1 vs1 : List Nat} {t t1 : Tgt} {el : Ef} {pos : Pos} (hc : X.calm = true) (hN : X.N.Nodup) (hi : PI X tg iter (tI G W it)) (ok : BlkOk X.N X.env.scope scope own)
    (hts : ∀ i ∈ ts, i ∈ own.map (·.2)) (hts1 : ∀ i ∈ ts1, i ∈ vs1) (hv : ∀ i ∈ vs1, i ∈ own.map (·.2))
    (hg : ∀ (s : Shared) (H : Hp) (C : Addr) (cl : List (Str × Addr)) (fp : List Addr), PG (X.blk s H scope (compEnvC scope cl C X.env) fp) tg (tG G ts t))
    (hi1 : ∀ (s : Shared) (H : Hp) (C : Addr) (cl : List (Str × Addr)) (fp : List Addr), PI (X.blk s H scope (compEnvC scope cl C X.env) fp) tg1 iter1 (tI G noW it1))
    (hg1 : ∀ (s : Shared) (H : Hp) (C : Addr) (cl : List (Str × Addr)) (fp : List Addr), PG (X.blk s H scope (compEnvC scope cl C X.env) fp) tg1 (tG G ts1 t1))
    (he : ∀ (s : Shared) (H : Hp) (C : Addr) (cl : List (Str × Addr)) (fp : List Addr), PE (X.blk s H scope (compEnvC scope cl C X.env) fp) elt (tD G noW el))
    (hs : ∀ x, foldedSetIterable iter X.env x = pure x := by intro _; rfl) (hs1 : ∀ env x, foldedSetIterable iter1 env x = pure x := by intro _ _; rfl) :
    PE X (.ListComp elt [⟨tg, iter, [], 0⟩, ⟨tg1, iter1, [], 0⟩] scope pos) (tD G W (dComp2 (own.map (·.2)) it t it1 vs1 t1 el)) :=
  wkE (pe_lc2 (tt := tT G noW cYes) (tt1 := tT G noW cYes) hc hN hi ok hv hg (fun _ _ _ _ _ => dts_nil) hi1 hg1 (fun _ _ _ _ _ => dts_nil) he hs hs1) (comp2_le hts hts1)
theorem dp_setLc2 {i : Nat} {y : Str} {py spos pos : Pos} {elt tg iter tg1 iter1 : Expr} {scope : Scope} {own : List (Str × Nat)} {it it1 : If} {ts ts1 vs1 : List Nat} {t t1 : Tgt} {el : Ef} (hc : X.calm = true) (hN : X.N.Nodup) (hy : X.N[i]? = some y) (hyl : X.env.scope.names.lookup y = some .local) (hk : X.env.scope.kind = .function) (hl : (py.line == pos.line) = true) (hna : (scope.names.any fun (n, k) => n == y && (k == .local || k == .cell)) = false)
    (hi : PI X tg iter (tI G W it)) (ok : BlkOk X.N X.env.scope scope own)
    (hts : ∀ i ∈ ts, i ∈ own.map (·.2)) (hts1 : ∀ i ∈ ts1, i ∈ vs1) (hv : ∀ i ∈ vs1, i ∈ own.map (·.2))
    (hg : ∀ (s : Shared) (H : Hp) (C : Addr) (cl : List (Str × Addr)) (fp : List Addr), PG (X.blk s H scope (compEnvC scope cl C X.env) fp) tg (tG G ts t))
    (hi1 : ∀ (s : Shared) (H : Hp) (C : Addr) (cl : List (Str × Addr)) (fp : List Addr), PI (X.blk s H scope (compEnvC scope cl C X.env) fp) tg1 iter1 (tI G noW it1))
    (hg1 : ∀ (s : Shared) (H : Hp) (C : Addr) (cl : List (Str × Addr)) (fp : List Addr), PG (X.blk s H scope (compEnvC scope cl C X.env) fp) tg1 (tG G ts1 t1))
    (he : ∀ (s : Shared) (H : Hp) (C : Addr) (cl : List (Str × Addr)) (fp : List Addr), PE (X.blk s H scope (compEnvC scope cl C X.env) fp) elt (tD G noW el))
    (hs : ∀ x, foldedSetIterable iter X.env x = pure x := by intro _; rfl) (hs1 : ∀ env x, foldedSetIterable iter1 env x = pure x := by intro _ _; rfl) :
    PS X (.Assign [.Name y py] (.ListComp elt [⟨tg, iter, [], 0⟩, ⟨tg1, iter1, [], 0⟩] scope pos) spos) (tS G W (sSet i (dComp2 (own.map (·.2)) it t it1 vs1 t1 el))) := by
  refine wkS (ps_setLc2 (tt := tT G noW cYes) (tt1 := tT G noW cYes) hc hN hy hyl (sw_true hk hyl hl hna) hi ok hv hg (fun _ _ _ _ _ => dts_nil) hi1 hg1 (fun _ _ _ _ _ => dts_nil) he hs hs1) fun D σ H ⟨ρ, B, φ, S, w, en, h⟩ => ?_
  refine comp2_le hts hts1 σ H _ ⟨ρ, B, φ, S, w, en, (WPS.fst en h).mono fun a H1 B1 φ1 S1 x1 w1 q1 v r1 => ?_⟩
  exact WPS.here w1 q1 _ ((en.mono x1.b x1.p).set i r1)
/-! f() -/
def dCall0 (m : List D → PO) : Ef := fun _ S => (m []).out S
theorem de_call0 {k : Nat} {f : Addr} {fd : FuncData} {ps : List Str} {x : Str} {p pos : Pos} {m : List D → PO} (F : FnOk X.prog X.w X.K X.mg X.base (L2.CX X.prog X.w) k f fd ps (spP G 0 m)) (hr : Room k X.A) (hg : Gl X x) (hm : X.mg x = some (.ref f)) (hk : PySem.W.keepIn X.K (.ref f) = true) (hb : Binds X.K fd ps [])
    (hdb : (x == ("__debug__" : Str)) = false := by decide) : PE X (.Call (.Name x p) [] [] pos) (tD G W (dCall0 m)) :=
  wkE (pe_call0 F hr hg hm hk hb (dvs := []) .nil passL hdb) fun σ H Q ⟨ρ, B, φ, S, w, en, q⟩ => spP_ok (ds := []) rfl w Reps.nil q
end
end DL

set_option maxHeartbeats 4000000
namespace DL
open PySem L2
open PySem.Spec PyProof.Rows
/-! ### numbers in order -/
def insI (x : Int) : List Int → List Int
  | [] => [x]
  | y :: r => if x ≤ y then x :: y :: r else y :: insI x r
def srtI : List Int → List Int
  | [] => []
  | x :: r => insI x (srtI r)
theorem insI_perm (x : Int) : ∀ l : List Int, (insI x l).Perm (x :: l)
  | [] => .refl _
  | y :: r => by
    unfold insI
    split
    · exact .refl _
    · exact ((insI_perm x r).cons y).trans (.swap x y r)
theorem srtI_perm : ∀ l : List Int, (srtI l).Perm l
  | [] => .refl _
  | x :: r => by
    unfold srtI
    exact (insI_perm x _).trans ((srtI_perm r).cons x)
theorem insI_srt (x : Int) : ∀ {l : List Int}, l.Pairwise (· ≤ ·) → (insI x l).Pairwise (· ≤ ·)
  | [], _ => by unfold insI; exact List.pairwise_singleton _ _
  | y :: r, h => by
    obtain ⟨h1, h2⟩ := List.pairwise_cons.mp h
    unfold insI
    split
    · rename_i hx
      refine List.pairwise_cons.mpr ⟨fun z hz => ?_, h⟩
      rcases List.mem_cons.mp hz with e | e
      · rw [e]; exact hx
      · exact Int.le_trans hx (h1 z e)
    · rename_i hx
      refine List.pairwise_cons.mpr ⟨fun z hz => ?_, insI_srt x h2⟩
      rcases List.mem_cons.mp ((insI_perm x r).mem_iff.mp hz) with e | e
      · rw [e]; omega
      · exact h1 z e
theorem srtI_srt : ∀ l : List Int, (srtI l).Pairwise (· ≤ ·)
  | [] => .nil
  | x :: r => by unfold srtI; exact insI_srt x (srtI_srt r)
theorem srt_one : ∀ {a b : List Int}, a.Perm b → a.Pairwise (· ≤ ·) → b.Pairwise (· ≤ ·) → a = b
  | [], b, p, _, _ => (List.Perm.nil_eq p)
  | x :: r, b, p, ha, hb => by
    cases b with
    | nil => cases List.Perm.eq_nil p
    | cons y t =>
      obtain ⟨a1, a2⟩ := List.pairwise_cons.mp ha
      obtain ⟨b1, b2⟩ := List.pairwise_cons.mp hb
      have e : x = y := by
        have h1 : x ≤ y := by
          rcases List.mem_cons.mp (p.mem_iff.mpr (List.mem_cons_self (a := y) (l := t))) with e | e
          · rw [e]; exact Int.le_refl _
          · exact a1 y e
        have h2 : y ≤ x := by
          rcases List.mem_cons.mp (p.mem_iff.mp (List.mem_cons_self (a := x) (l := r))) with e | e
          · rw [e]; exact Int.le_refl _
          · exact b1 x e
        omega
      subst e
      rw [srt_one (List.Perm.cons_inv p) a2 b2]
section
variable {X : Cx} {G : Gx} {W : WX} {e : Expr} {ef : Ef} {p p2 pos P pp : Pos} {H B : Hp} {φ : List Addr} {S : Sto} {σ : L2.St} {ρ : Nv}
def nSortI : OpN := fun xs S => match xs with
  | [x] => match vw S x with
    | some ds => match intsOf ds with
      | some ns => .ok (.p (.lst ((srtI ns).map D.int))) S
      | none => .bad
    | none => .bad
  | _ => .bad
theorem nSortI_ok : OkN G W (rSortedI G.K) nSortI := by
  intro H B φ S σ xs vs Q w r h
  unfold nSortI at h
  split at h
  · split at h
    · rename_i ds hs
      split at h
      · rename_i ns hb
        obtain ⟨v, rfl, rv⟩ := rvs1 r
        obtain ⟨a, ys, rfl, s1, q1⟩ := vw_at w rv hs
        refine ⟨a, ns, rfl, by rw [← ints_at' hb q1]; exact SqL.of s1, fun ns' l hp hw hl => ?_⟩
        rw [srt_one (hp.trans (srtI_perm ns).symm) hw (srtI_srt ns)]
        exact h _ _ _ (Xt.alloc w hl) (w.alloc hl) _ (rep_lst.mpr ⟨l, _, rfl, upd_same, Reps.ints _⟩)
      · exact h.elim
    · exact h.elim
  · exact h.elim
end
/-! ### sorted(set(xs)), numbers -/
/-- a new set without elements -/
abbrev fso (w : World) : Obj := { cls := .type "set", dict := none, data := .set #[] 0 (.fresh 0 0 (!w.params.followText "set-order")) }
section
variable {P : Program} {w : World} {A : Around} {E : Value → Shared → Prop} {s : Shared}
set_option maxHeartbeats 3200000 in
theorem call_set_lstI {l : Addr} {items : Array Value} (ns : List Int) {Q : Value → Shared → Prop} (hh : A.handled = none) (hl : s.heap.IsList l items) (hit : IntsAre items.toList ns) (hb : ns.length + 1 < scanBound)
    (h : ∀ (h' : Heap) (tk c : Nat), SetR w h' s.heap.objs.size (fun j => decide (j ∈ ns)) c → c ≤ ns.length → (∀ b o, s.heap.get? b = some o → h'.get? b = some o) → Q (.ref s.heap.objs.size) { s with heap := h', toks := tk }) :
    wpAny (model P w) A (call (.type "set") [.ref l]) Q E s := by
  have hisz : items.size = ns.length := by
    have q := IntsAre.length hit
    rw [Array.length_toList] at q
    exact q
  obtain ⟨c, tl, hmro⟩ := F.called_set.mro
  have hmade := F.called_set.made
  have hsub := F.called_set.sub
  refine wpAny_call (codeAny_of_tree ?_)
  show wpAny _ _ (callAny (.type "set") _) _ _ _
  refine wpAny_pure ⟨Code.quiet_builtin _ (by decide +kernel), codeAny_builtin F.entry_type_call ?_⟩
  rw [Around.under_plain (weight_type_call_type "set" [.ref l] []) rfl]
  have h1 := F.called_set.notType
  have h2 := F.called_set.canCreate
  have hct := F.typeCall_set_1 (.ref l)
  repeat (any_goals (first | assumption | wp_step))
  refine codeAny_mono (code_set_led1 (.ref l) (E := E) (Q₁ := fun obj s₁ => obj = .ref s.heap.objs.size ∧ s₁ = { s with heap := s.heap.push (fso w) }) ⟨rfl, rfl⟩) fun r s₁ hr => ?_
  cases r with
  | error e => exact hr
  | ok fl =>
    cases fl with
    | ret obj =>
      obtain ⟨rfl, rfl⟩ := hr
      have hS : (s.heap.push (fso w)).get? s.heap.objs.size = some (fso w) := Heap.get?_push_size _ rfl
      have hT : Shared.TypeIs { s with heap := s.heap.push (fso w) } (.ref s.heap.objs.size) "set" := ⟨_, hS, rfl⟩
      have hli := F.called_set.init.lookup
      have hbi := F.called_set.init.bind (.ref s.heap.objs.size)
      repeat (any_goals (first | assumption | wp_step))
      refine codeAny_mono (codeAny_call_builtin (R := wants (fun r s₂ => r = .none ∧ ∃ h' tk c, s₂ = { s with heap := h', toks := tk } ∧ SetR w h' s.heap.objs.size (fun j => decide (j ∈ ns)) c ∧ c ≤ ns.length ∧
          (∀ b o, s.heap.get? b = some o → h'.get? b = some o)) E) F.called_set.init.plain F.entry_set_init (check_set_init_1 hT ?_)) fun r₂ s₂ hr₂ => ?_
      · obtain ⟨ol, hol, hcl, nl, hdl⟩ := hl
        obtain ⟨ocls, odict, odata, oslots⟩ := ol
        simp only at hcl hdl
        subst hcl; subst hdl
        have hol' : (s.heap.push (fso w)).get? l = some { cls := .type "list", dict := odict, data := .seq items nl, slots := oslots } := Heap.get?_push_of_some _ hol
        have hsls := F.sub_list_set
        have hslf := F.sub_list_frozenset
        have hne : (Value.type "list" == Value.type "dict") = false := by decide
        have hl1 : (s.heap.push (fso w)).IsList l items := ⟨_, hol', rfl, nl, rfl⟩
        unfold Builtin.«set.__init__» noKeywords Builtin.Frozenset.updateFrom
        generalize hPI : pyIter = PI
        wp_walk
        subst hPI
        refine wpAny_pyIter_list hl1 ?_
        refine wpAny_bind (wpAny_runValue ?_)
        have hlS : l < s.heap.objs.size := Heap.lt_size hol
        have hh3 : A.in1.in1.in1.handled = none := by simp [hh]
        have hneI : l ≠ (s.heap.push (fso w)).objs.size := by
          rw [Heap.size_push]; exact Nat.ne_of_lt (Nat.lt_succ_of_lt hlS)
        have hSf : s.heap.objs.size ∉ [(s.heap.push (fso w)).objs.size, l] := by
          rw [Heap.size_push]; simp only [List.mem_cons, List.mem_singleton, List.not_mem_nil, or_false, not_or]
          exact ⟨Nat.ne_of_lt (Nat.lt_succ_self _), Nat.ne_of_gt hlS⟩
        have hval : ∀ (i : Nat) (v : Value), items[i]? = some v → ∃ k t, ns[i]? = some k ∧ v = .int k t := fun i v hv => by
          have hi : i < ns.length := by rw [← hisz]; exact (Array.getElem?_eq_some_iff.mp hv).1
          obtain ⟨t, e⟩ := PyProof.Rows.IntsAre.int_at hit i v (by rw [Array.getElem?_toList]; exact hv)
          refine ⟨ns[i], t, List.getElem?_eq_getElem hi, ?_⟩
          rw [e, List.getD_eq_getElem?_getD, List.getElem?_eq_getElem hi] <;> rfl
        refine set_update_ints ((Walks.list hh3 _ l hneI items).toS) s.heap.objs.size
          hSf ns hisz hb hval (items.size - 0) 0 _ (by omega) (Nat.zero_le _)
          ⟨⟨_, Heap.get?_push_size _ rfl, rfl, rfl⟩, (hl1.push _)⟩ ?hS0 ?hR
        case hS0 =>
          have hget : ((s.heap.push (fso w)).push { cls := .type "list_iterator", data := .fields #[.ref l, .int 0 0] }).get? s.heap.objs.size = some (fso w) := Heap.get?_push_of_some _ hS
          exact ⟨0, Nat.le_refl 0, setR_new_at hget⟩
        case hR =>
          intro s' c' hm hc' hS'
          obtain ⟨h', g2, d', tk', os'⟩ := s'
          have eg : g2 = s.gens := hm.gens
          have ed : d' = s.drawn := hm.drawn
          have eo : os' = s.os := hm.os
          subst eg; subst ed; subst eo
          show wpAny _ _ _ _ _ _
          refine wpAny_pure ?_
          show wpAny _ _ (ret Value.none) _ _ _
          rw [hisz] at hc'
          refine wpAny_pure ⟨rfl, h', tk', c', rfl, hS', hc', fun b o e => ?_⟩
          have hb0 : b < s.heap.objs.size := Heap.lt_size e
          have hb1 : b ≠ s.heap.objs.size := Nat.ne_of_lt hb0
          have hb2 : b ≠ (s.heap.push (fso w)).objs.size := by
            rw [Heap.size_push]; exact Nat.ne_of_lt (Nat.lt_succ_of_lt hb0)
          exact hm.heap b o (by simp only [List.mem_cons, List.mem_singleton, List.not_mem_nil, or_false, not_or]; exact ⟨hb1, hb2⟩) (Heap.get?_push_of_some _ (Heap.get?_push_of_some _ e))
      · cases r₂ with
        | error e => exact hr₂
        | ok fl₂ =>
          cases fl₂ with
          | ret r =>
            obtain ⟨rfl, h', tk, c', rfl, hS', hc', hk'⟩ := hr₂
            repeat (any_goals (first | assumption | wp_step))
            exact h _ _ _ hS' hc' hk'
          | _ => exact hr₂.elim
    | _ => exact hr.elim
end
section
variable {X : Cx} {G : Gx} {W : WX} {e : Expr} {ef : Ef} {p p2 pos P pp : Pos} {H B : Hp} {φ : List Addr} {S : Sto} {σ : L2.St} {ρ : Nv} {ta : TE}
/-- numbers in order, each once -/
def srtS (ns : List Int) : List Int := srtI (dd ns)
theorem dd_memF : ∀ (ns acc : List Int) (k : Int), k ∈ ns.foldl PyProof.Rows.step_dedup acc ↔ k ∈ acc ∨ k ∈ ns
  | [], acc, k => by simp
  | n :: r, acc, k => by
    rw [List.foldl_cons, dd_memF r]
    unfold PyProof.Rows.step_dedup
    split
    · rename_i h
      obtain ⟨y, hy, ey⟩ := List.any_eq_true.mp h
      have ey : y = n := eq_of_beq ey
      subst ey
      constructor
      · rintro (h | h)
        · exact .inl h
        · exact .inr (List.mem_cons_of_mem _ h)
      · rintro (h | h)
        · exact .inl h
        · rcases List.mem_cons.mp h with e | e
          · exact .inl (e ▸ hy)
          · exact .inr e
    · rw [List.mem_append, List.mem_singleton, List.mem_cons, or_assoc]
theorem dd_mem {ns : List Int} {k : Int} : k ∈ dd ns ↔ k ∈ ns := by unfold dd; rw [dd_memF]; simp
theorem dd_ndF : ∀ (ns acc : List Int), acc.Nodup → (ns.foldl PyProof.Rows.step_dedup acc).Nodup
  | [], acc, h => h
  | n :: r, acc, h => by
    rw [List.foldl_cons]
    refine dd_ndF r _ ?_
    unfold PyProof.Rows.step_dedup
    split
    · exact h
    · rename_i q
      refine List.nodup_append.mpr ⟨h, List.nodup_cons.mpr ⟨List.not_mem_nil, List.nodup_nil⟩, fun a ha b hb e => q ?_⟩
      rw [List.mem_singleton] at hb
      subst hb
      subst e
      exact List.any_eq_true.mpr ⟨a, ha, beq_self_eq_true a⟩
theorem dd_nd (ns : List Int) : (dd ns).Nodup := dd_ndF ns [] List.nodup_nil
theorem srtS_mem {ns : List Int} {k : Int} : k ∈ srtS ns ↔ k ∈ ns := (srtI_perm _).mem_iff.trans dd_mem
theorem srtS_len {ns : List Int} : (srtS ns).length = (dd ns).length := (srtI_perm _).length_eq
theorem srtS_lt (ns : List Int) : (srtS ns).Pairwise (· < ·) := by
  have h1 := srtI_srt (dd ns)
  have h2 : (srtI (dd ns)).Nodup := ((srtI_perm _).nodup_iff).mpr (dd_nd ns)
  exact (List.pairwise_and_iff.mpr ⟨h1, h2⟩).imp fun ⟨a, b⟩ => by omega
theorem srtS_one {ns out : List Int} (hp : out.Pairwise (· < ·)) (hm : ∀ k, k ∈ out ↔ k ∈ ns) : out = srtS ns := by
  refine srt_one ?_ (hp.imp fun h => Int.le_of_lt h) ((srtS_lt ns).imp fun h => Int.le_of_lt h)
  refine (List.perm_ext_iff_of_nodup (hp.imp fun h => by omega) ((srtS_lt ns).imp fun h => by omega)).mpr fun k => (hm k).trans srtS_mem.symm
theorem sort_set_of (cm : X.calm = true) (lG : Gl X "sorted") (lM : X.mg "sorted" = none) (sG : Gl X "set") (sM : X.mg "set" = none) (he : PE X e ta) (st : starEach [e] X.env = (false, eval e X.env) :: starEach [] X.env := by rfl) :
    PE X (.Call (.Name "sorted" p) [.Call (.Name "set" p2) [e] [] P] [] pp) (fun σ H Q => ta σ H fun x H1 => ∃ (l : Addr) (ns : List Int), x = .ref l ∧ SqL X.K H1 l (ns.map V.int) ∧ ns.length < 64 ∧ ∀ a o q, H1 a = none → upd H1 a o q = none → Q (.ref q) (upd (upd H1 a o) q (.lst ((srtS ns).map V.int)))) := by
  constructor
  intro pins s σ H Q I h
  refine Call_ (ld_blt I lG lM boot_sorted (PyProof.Rows.callWith_builtin1 (PyProof.Rows.args_cons ?_ rfl) rfl rfl))
  refine Call_ (ld_blt I sG sM boot_set (PyProof.Rows.callWith_type1 (PyProof.Rows.args_cons (thn (he.run pins s σ H _ I h) fun v s1 ⟨x, H1, I1, r1, k⟩ => PyProof.Rows.args_nil ?_) st) st rfl))
  obtain ⟨l, ns, rfl, sq, len, k⟩ := k
  cases r1
  obtain ⟨its, r, pl, hz⟩ := I1.list sq
  refine call_set_lstI ns (I1.ok.hd cm) pl.isList (RZ.intsAre_vals (by simpa using r)) (by unfold scanBound; omega) fun hp t c made hc kept => PyProof.Rows.args_nil ?_
  have hn : H1 s1.heap.objs.size = none := I1.hok.fresh (Nat.le_refl _)
  have I2 : Inv X pins σ (upd H1 s1.heap.objs.size (SetO X.w s1.heap.objs.size (fun j => decide (j ∈ ns)) c)) { s1 with heap := hp, toks := t } :=
    I1.laid (t' := t) (a := s1.heap.objs.size) (fun b u e => kept b u e) (Nat.le_refl _) (setO_new made)
  refine cr_sortedSet cm pins _ σ _ [.ref s1.heap.objs.size] _ Q I2 (.cons rfl .nil) ⟨_, _, _, rfl, upd_same, by omega, fun out q h1 h2 h3 h4 => ?_⟩
  have eo : out = srtS ns := srtS_one h1 fun j => (h2 j).trans decide_eq_true_iff
  rw [eo]
  exact k _ _ _ hn h4
def nSortS : OpN := fun xs S => match xs with
  | [x] => match vw S x with
    | some ds => match intsOf ds with
      | some ns => if ns.length < 64 then .ok (.p (.lst ((srtS ns).map D.int))) S else .bad
      | none => .bad
    | none => .bad
  | _ => .bad
theorem de_sortSet (hK : X.K = G.K) (cm : X.calm = true) (lG : Gl X "sorted") (lM : X.mg "sorted" = none) (sG : Gl X "set") (sM : X.mg "set" = none) (he : PE X e (tD G W ef)) (st : starEach [e] X.env = (false, eval e X.env) :: starEach [] X.env := by rfl) :
    PE X (.Call (.Name "sorted" p) [.Call (.Name "set" p2) [e] [] P] [] pp) (tD G W (dCall nSortS (aCons ef aNil))) := by
  refine wkE (sort_set_of cm lG lM sG sM he st) fun σ H Q ⟨ρ, B, φ, S, w, en, h⟩ => ?_
  have h : WP G W σ H B φ ((ef ρ S).bind fun x S1 => nSortS [x] S1) fun d H' B' φ' S' => ∀ v, RepV G B' φ' d v → Q v H' := by
    have e : dCall nSortS (aCons ef aNil) ρ S = (ef ρ S).bind fun x S1 => nSortS [x] S1 := by
      unfold dCall aCons aNil
      cases ef ρ S <;> rfl
    rw [e] at h; exact h
  refine tD.run w en (WP.fst h) fun d v H1 B1 φ1 S1 x1 w1 en1 r1 k => ?_
  unfold nSortS at k
  dsimp only at k
  split at k
  · rename_i ds hv
    split at k
    · rename_i ns hn
      split at k
      · rename_i hl
        obtain ⟨a, xs, rfl, s1, r2⟩ := vw_at w1 r1 hv
        refine ⟨a, ns, rfl, ?_, hl, fun b o q hb hq => ?_⟩
        · rw [hK, ← ints_at' hn r2]
          exact SqL.of s1
        · have w2 := w1.alloc (o := o) hb
          have x2 := Xt.alloc (o := o) w1 hb
          exact k _ _ _ (x2.trans (Xt.alloc w2 hq)) (w2.alloc hq) _ (rep_lst.mpr ⟨q, _, rfl, upd_same, Reps.ints _⟩)
      · exact k.elim
    · exact k.elim
  · exact k.elim
/-! ### a written dict of two numbers -/
theorem de_dki1 {k v : Int} {j1 j2 : Nat} {p1 p2 : Pos} (hl : [some (Expr.Constant (.int k) j1 p1)].length = [Expr.Constant (.int v) j2 p2].length := by rfl) :
    PE X (.Dict [some (.Constant (.int k) j1 p1)] [.Constant (.int v) j2 p2] pos) (tD G W (dC (.dki [(k, v)]))) := by
  refine wkE (pe_disp (pps_cons pe_int pe_int pps_nil) (by rfl) hl (fun z => by cases z) (by show 1 ≤ 15; omega)) fun σ H Q ⟨ρ, B, φ, S, w, en, h⟩ => ?_
  intro a ha
  refine ⟨upd_same, [(Sum.inl k, V.int v)], rfl, by show 1 ≤ 15; omega, ?_⟩
  have em : mergeK [] [((Sum.inl k : Key), V.int v)] = [(Sum.inl k, V.int v)] := rfl
  rw [em]
  have hu : upd (upd H a (.dK [])) a (.dK [(Sum.inl k, V.int v)]) = upd H a (.dK [(Sum.inl k, V.int v)]) := by
    funext b
    unfold upd
    split <;> rfl
  rw [hu]
  have h : ∀ H' B' φ', Xt H B φ H' B' φ' → Wd G H' B' φ' S → ∀ v', RepV G B' φ' (.p (.dki [(k, v)])) v' → Q v' H' := h
  refine h _ _ _ (Xt.alloc w ha) (w.alloc ha) _ ?_
  show Rep G _ (.dki _) _
  unfold Rep
  exact ⟨a, rfl, upd_same⟩
end
end DL

set_option maxHeartbeats 4000000
namespace DL
open PySem L2
open PySem.Spec PyProof.Rows
/-! ### sorted(t), t a tuple of texts -/
theorem cr_sortT {X : Cx} : CallR X (.builtin "sorted") (fun vs H Q => ∃ (a : Addr) (xs : List Str), vs = [.ref a] ∧ SqT X.K H a (xs.map V.str) ∧ xs.length < 64 ∧ ∀ (ys : List Str) (p : Addr), ys.Perm xs → sortedS ys = true → H p = none → Q (.ref p) (upd H p (.lst (ys.map V.str)))) := by
  intro pins s σ H vs us Q I r h
  obtain ⟨a, xs, rfl, hs, h64, q⟩ := h
  obtain ⟨its, rv, p, hz⟩ := I.tuple hs
  rw [Vals.ref1 r]
  have hlen0 := rv.length
  rw [List.length_map] at hlen0
  have hS := rv.strs
  have p : s.heap.IsTuple a its.toArray := p
  obtain ⟨o, ho, hc, n, hd⟩ := p
  refine PySem.Calls.call_function_entry PyProof.Rows.kind_sorted PyProof.Rows.plain_sorted PyProof.Rows.entry_sorted (PyProof.Rows.args_sorted1 _) ?_
  unfold Builtin.«sorted»
  refine wpAny_bind (m := checkCount "sorted" 1 1 _) (wpAny_pure (wpAny_bind (wpAny_collect_seq a (.inr rfl) ho hc hd (fun h' hk => ?_) (by rw [List.size_toArray, sizeLine_eq]; omega))))
  have et : its.toArray.toList = its := by simp
  rw [et]
  have I1 : Inv X pins σ H { s with heap := h' } := I.kept (t' := s.toks) hk
  refine wpAny_bind (wpAny_newList ?_)
  have hoL : (h'.push (seqObj "list" its.toArray 0)).get? h'.objs.size = some (seqObj "list" its.toArray 0) := Heap.get?_push_size _ rfl
  have hn : H h'.objs.size = none := I1.hok.fresh (Nat.le_refl _)
  have hl0 : (xs.map V.str).length ≤ sizeLine := by rw [List.length_map]; exact small64 h64
  have I2 : Inv X pins σ (upd H h'.objs.size (.lst (xs.map V.str))) { s with heap := h'.push (seqObj "list" its.toArray 0) } :=
    I1.laid (t' := s.toks) (a := h'.objs.size) (fun _ _ e => Heap.get?_push_of_some _ e) (Nat.le_refl _) ⟨hl0, its, 0, rv, hoL⟩
  show wpAny _ _ _ _ _ { s with heap := h'.push (seqObj "list" its.toArray 0) }
  refine wpAny_bind (wpAny_holding (wpAny_call_entry PyProof.Rows.slot_list_sort ⟨_, hoL, rfl⟩ PyProof.Rows.entry_list_sort
    (PyProof.Rows.list_sort_treeK PyProof.Rows.strKind_oneLt hoL hS.keysOf (fun v₁ v₂ rest e => PyProof.Rows.keyKind_strs (by rw [← e]; exact hS)) (by rw [← hlen0]; exact h64) fun st' a1 a2 => ⟨_, rfl, ?_⟩) (PyProof.Rows.args_list_sort _)))
  refine wpAny_pure ⟨_, rfl, ?_⟩
  obtain ⟨ys, h1, h2, h3⟩ := PyProof.Rows.sorted_out_str hS a1 a2
  obtain ⟨ep, he'⟩ := PyProof.Rows.sortedHeap_at (vs := its) (out := (arrOf st').map (·.2)) hoL
  have hlen : (ys.map V.str).length ≤ sizeLine := by rw [List.length_map, h2.length_eq]; exact small64 h64
  have e2 : upd (upd H h'.objs.size (.lst (xs.map V.str))) h'.objs.size (.lst (ys.map V.str)) = upd H h'.objs.size (.lst (ys.map V.str)) := by
    funext b
    by_cases hb : b = h'.objs.size
    · subst hb; rw [upd_same, upd_same]
    · rw [upd_ne hb, upd_ne hb, upd_ne hb]
  refine ⟨.ref h'.objs.size, upd H h'.objs.size (.lst (ys.map V.str)), ?_, rfl, q ys _ h2 h3 hn⟩
  rw [← e2]
  exact I2.write (e := h'.objs.size) (t' := s.toks) (by rw [upd_same]; trivial) (.inl rfl) (fun b u hb hu => by rw [PyProof.Rows.sortedHeap_old hb (Heap.lt_size hu)]; exact hu) ⟨_, he'⟩ ⟨hlen, ((arrOf st').map (·.2)).toList, ep, vals_of_strs h1, he'⟩
/-! ### the names of points, sorted -/
def strsOf : List D → Option (List Str)
  | [] => some []
  | .str x :: r => (strsOf r).map (x :: ·)
  | _ :: _ => none
theorem strs_at {G : Gx} {B : Hp} : ∀ {ds : List D} {ys : List Str} {vs : List V}, strsOf ds = some ys → Reps G B ds vs → vs = ys.map V.str
  | [], ys, vs, h, r => by
    cases h
    unfold Reps at r; exact r
  | d :: ds, ys, vs, h, r => by
    unfold Reps at r
    obtain ⟨x, t, rfl, r1, r2⟩ := r
    cases d with
    | str z =>
      unfold strsOf at h
      cases e : strsOf ds with
      | none => rw [e] at h; cases h
      | some zs =>
        rw [e] at h
        cases h
        unfold Rep at r1
        rw [r1, strs_at e r2]; rfl
    | _ => cases h
def ptsU : List Str := ["start", "rows", "ways", "out", "kind"]
def ptsS : List Str := ["kind", "out", "rows", "start", "ways"]
theorem pts_cases : (ptsU.all fun a => ptsU.all fun b => ptsU.all fun c => ptsU.all fun d => ptsU.all fun e => !(sortedS [a, b, c, d, e]) || !(decide [a, b, c, d, e].Nodup) || ([a, b, c, d, e] == ptsS)) = true := by decide +kernel
theorem pts_nd : ptsU.Nodup := by decide
theorem pts_one {ys : List Str} (p : ys.Perm ptsU) (h : sortedS ys = true) : ys = ptsS := by
  have hl : ys.length = 5 := p.length_eq
  have hn : ys.Nodup := p.nodup_iff.mpr pts_nd
  match ys, hl with
  | [a, b, c, d, e], _ =>
    have m : ∀ z ∈ [a, b, c, d, e], z ∈ ptsU := fun z hz => p.mem_iff.mp hz
    have q := pts_cases
    have q := List.all_eq_true.mp q a (m a (by simp))
    have q := List.all_eq_true.mp q b (m b (by simp))
    have q := List.all_eq_true.mp q c (m c (by simp))
    have q := List.all_eq_true.mp q d (m d (by simp))
    have q := List.all_eq_true.mp q e (m e (by simp))
    rw [h, decide_eq_true hn] at q
    exact eq_of_beq (by simpa using q)
section
variable {X : Cx} {G : Gx} {W : WX} {e o : Expr} {es : List Expr} {ef eg : Ef} {af kf : Af} {p p2 pos P pp : Pos} {H B : Hp} {φ : List Addr} {S : Sto} {σ : L2.St} {ρ : Nv} {ta : TE} {k n : Nat} {f : Addr} {fd : FuncData} {ps : List Str} {x : Str}
/-- sorted(POINTS) -/
def nSortP : OpN := fun xs S => match xs with
  | [.p (.tup ds)] => if strsOf ds = some ptsU then .ok (.p (.lst (ptsS.map D.str))) S else .bad
  | _ => .bad
theorem Reps.strs {G : Gx} {B : Hp} : ∀ ys : List Str, Reps G B (ys.map D.str) (ys.map V.str)
  | [] => Reps.nil
  | y :: ys => Reps.cons (by unfold Rep; rfl) (Reps.strs ys)
theorem nSortP_ok : OkN G W (fun vs H Q => ∃ (a : Addr) (xs : List Str), vs = [.ref a] ∧ SqT G.K H a (xs.map V.str) ∧ xs.length < 64 ∧ ∀ (ys : List Str) (p : Addr), ys.Perm xs → sortedS ys = true → H p = none → Q (.ref p) (upd H p (.lst (ys.map V.str)))) nSortP := by
  intro H B φ S σ xs vs Q w r h
  unfold nSortP at h
  split at h
  · split at h
    · rename_i ds hd
      obtain ⟨v, rfl, rv⟩ := rvs1 r
      obtain ⟨a, ys, rfl, s1, q1⟩ := rep_tup.mp rv
      refine ⟨a, ptsU, rfl, by rw [← strs_at hd q1]; exact sqT_mono w.sub s1, by decide, fun zs l hp hw hl => ?_⟩
      rw [pts_one hp hw]
      exact h _ _ _ (Xt.alloc w hl) (w.alloc hl) _ (rep_lst.mpr ⟨l, _, rfl, upd_same, Reps.strs _⟩)
    · exact h.elim
  · exact h.elim
/-! ### t.index(x), t a tuple of texts -/
def idS (z : Str) : List Str → Option Nat
  | [] => none
  | y :: r => if y = z then some 0 else (idS z r).map (· + 1)
theorem idS_at {z : Str} : ∀ {ys : List Str} {j : Nat}, idS z ys = some j → ys[j]? = some z ∧ ∀ m, m < j → ys[m]? ≠ some z
  | [], j, h => by cases h
  | y :: r, j, h => by
    unfold idS at h
    split at h
    · rename_i e
      cases h
      exact ⟨by rw [e]; rfl, fun m hm => by omega⟩
    · rename_i e
      cases q : idS z r with
      | none => rw [q] at h; cases h
      | some i =>
        rw [q] at h
        cases h
        obtain ⟨h1, h2⟩ := idS_at q
        refine ⟨h1, fun m hm => ?_⟩
        cases m with
        | zero => exact fun w => e (by simpa using w)
        | succ m =>
        have hm : m + 1 < i + 1 := hm
        exact h2 m (by omega)
def dIndexC (ys : List Str) (fe : Ef) : Ef := fun ρ S => (fe ρ S).bind fun d S1 => match d with
  | .p (.str z) => match idS z ys with
    | some j => .ok (.p (.int (j : Nat))) S1
    | none => .bad
  | _ => .bad
theorem de_indexC {c : Str} {cp apos : Pos} {a : Addr} {ys : List Str} (hK : X.K = G.K) (hg : Gl X c) (hm : X.mg c = some (.ref a)) (hT : ∃ ob, G.K.lookup a = some ob ∧ ob.cls = .type "tuple" ∧ ob.dict = none) (hq : SqT G.K (fun _ => none) a (ys.map V.str)) (he : PE X e (tD G W eg)) (hd : (c == ("__debug__" : Str)) = false := by decide)
    (hbase : attributeBase (.Name c cp) "index" X.env (eval (.Name c cp) X.env) = eval (.Name c cp) X.env := by rfl)
    (hfew : ((backTo pos (starEach [e] X.env)).all (fun x => !x.1) && (backToKw pos (keywordEach [] X.env)).all (fun x => x.1.isSome) && decide ([e].length + ([] : List Keyword).length + (if ([] : List Keyword).isEmpty then 0 else 1) < 30)) = true := by rfl)
    (hline : (apos.endLine == pos.line) = true := by rfl) (hs : starEach [e] X.env = (false, eval e X.env) :: starEach [] X.env := by rfl) (hpl : (backTo pos (starEach [] X.env)).any (·.1) = false := by rfl) :
    PE X (.Call (.Attribute (.Name c cp) "index" apos) [e] [] pos) (tD G W (dIndexC ys eg)) := by
  refine wkE (pe_bm PySem.F.plainAttrs_tuple PySem.F.slot_tuple_index PySem.F.type_tuple_index L2.mt_tup_index (pe_glob hg hm (v := .ref a) rfl hd) (pa_cons he pa_nil hs) hbase hfew hline hs hpl) fun σ H Q ⟨ρ, B, φ, S, w, en, h⟩ => ?_
  refine ⟨.inr (.inl ⟨rfl, hK ▸ hT⟩), ?_⟩
  show tD G W eg σ H _
  refine tD.run w en (WP.fst h) fun d v2 H2 B2 φ2 S2 x2 w2 en2 r2 k2 => ?_
  split at k2
  · rename_i z
    split at k2
    · rename_i j hj
      obtain ⟨h1, h2⟩ := idS_at hj
      refine ⟨a, ys, z, j, rfl, by rw [rep_str.mp r2], ?_, h1, h2, k2 H2 B2 φ2 Xt.refl w2 _ (rep_int.mpr rfl)⟩
      rw [hK]
      exact sqT_mono (fun _ _ z => by cases z) hq
    · exact k2.elim
  · exact k2.elim
/-! ### xs.extend(ys), ys a new list -/
def dExt (fo fe : Ef) : Ef := fun ρ S => (fo ρ S).bind fun o S1 => match o with
  | .hnd n => match S1[n]? with
    | some (.lst _) => (fe ρ S1).bind fun d S2 => match d, S2[n]? with
      | .p (.lst es), some (.lst ds) => if ds.length + es.length < big then .ok (.p .non) (S2.set n (.lst (ds ++ es))) else .bad
      | _, _ => .bad
    | _ => .bad
  | _ => .bad
theorem de_ext {apos : Pos} (ho : PE X o (tD G W ef)) (he : PE X e (tD G W eg))
    (hbase : attributeBase o "extend" X.env (eval o X.env) = eval o X.env := by rfl)
    (hfew : ((backTo pos (starEach [e] X.env)).all (fun x => !x.1) && (backToKw pos (keywordEach [] X.env)).all (fun x => x.1.isSome) && decide ([e].length + ([] : List Keyword).length + (if ([] : List Keyword).isEmpty then 0 else 1) < 30)) = true := by rfl)
    (hline : (apos.endLine == pos.line) = true := by rfl) (hs : starEach [e] X.env = (false, eval e X.env) :: starEach [] X.env := by rfl) (hpl : (backTo pos (starEach [] X.env)).any (·.1) = false := by rfl) :
    PE X (.Call (.Attribute o "extend" apos) [e] [] pos) (tD G W (dExt ef eg)) := by
  refine wkE (pe_bm PySem.F.plainAttrs_list PySem.F.slot_list_extend PySem.F.type_list_extend mt_extend ho (pa_cons he pa_nil hs) hbase hfew hline hs hpl) fun σ H Q ⟨ρ, B, φ, S, w, en, h⟩ => tD.run w en (WP.fst h) fun o v H1 B1 φ1 S1 x1 w1 en1 r1 q1 => ?_
  split at q1
  · rename_i n
    split at q1
    · rename_i ds0 hs0
      have r1 : ∃ a, φ1[n]? = some a ∧ v = .ref a := r1
      obtain ⟨a, hφ, rfl⟩ := r1
      have c0 : CellR G H1 B1 φ1 a (.lst ds0) := w1.cell n a _ hφ hs0
      obtain ⟨_, xs0, hx0, _⟩ := c0
      refine ⟨.inl ⟨rfl, xs0, SqL.of hx0⟩, ?_⟩
      show tD G W eg σ H1 _
      refine tD.run w1 en1 (WP.fst q1) fun d v2 H2 B2 φ2 S2 x2 w2 en2 r2 q2 => ?_
      split at q2
      · rename_i es ds hs
        split at q2
        · rename_i hl
          have hφ2 : φ2[n]? = some a := by
            obtain ⟨t, rfl⟩ := x2.p
            rw [List.getElem?_append_left (List.getElem?_eq_some_iff.mp hφ).1]; exact hφ
          have c2 : CellR G H2 B2 φ2 a (.lst ds) := w2.cell n a _ hφ2 hs
          obtain ⟨hb, xs, hx, rr⟩ := c2
          obtain ⟨b, zs, rfl, hz, rz⟩ := rep_lst.mp r2
          refine ⟨a, b, xs, zs, rfl, rfl, hx, w2.sub _ _ hz, by rw [← rr.length, ← rz.length]; have := big_eq; omega, ?_⟩
          exact q2 _ B2 φ2 (Xt.set hφ2) (w2.set hφ2 hs (fun z => nomatch z) hb ⟨hb, _, upd_same, rr.append rz⟩ rfl) _ (rep_non.mpr rfl)
        · exact q2.elim
      · exact q2.elim
    · exact q1.elim
  · exact q1.elim
/-! ### a keyword-only argument with a default: f(a, b) and f(a, b, limit = c) -/
theorem funD_of {K : PySem.W.Frag} {qual nm : Str} {st : Stmt} {oc doc pm cd ct : Value} {od an : Option Addr} {osl : Array (Option Value)} {Dk : Addr} {v : Int} {tk : Tok} (l : K.lookup f = some ⟨oc, od, .func (PySem.W.fnOf x qual (defArgs st) (defBody st) (defScope st) .none (.ref Dk) doc pm an cd ct), osl⟩)
    (c : PySem.W.codeIn K cd qual = true) (k : PySem.W.keepIn K (.ref f) = true) (hn : PySem.W.nsIn K Dk nm = some (some (.int v tk))) :
    FunD K x qual (defArgs st) (defBody st) (defScope st) [] [(nm, V.int v)] f (PySem.W.fnOf x qual (defArgs st) (defBody st) (defScope st) .none (.ref Dk) doc pm an cd ct) :=
  ⟨⟨oc, od, .none, .ref Dk, doc, pm, an, cd, ct, osl, rfl, l, c, .inl ⟨rfl, rfl⟩, .inr ⟨Dk, rfl, fun q hq => by rw [List.mem_singleton.mp hq]; exact ⟨_, hn, _, rfl⟩⟩⟩, k⟩
def aEnd (af : Af) (dds : List D) : Af := fun ρ S => (af ρ S).bind fun xs S1 => .ok (xs ++ dds.map Dv.p) S1
theorem RepVs.app {φ : List Addr} : ∀ {xs ys : List Dv} {vs us : List V}, RepVs G B φ xs vs → RepVs G B φ ys us → RepVs G B φ (xs ++ ys) (vs ++ us)
  | [], ys, vs, us, r, r2 => by
    cases (show vs = [] from r)
    exact r2
  | d :: xs, ys, vs, us, r, r2 => by
    obtain ⟨v, t, rfl, h, k⟩ := r
    exact ⟨v, t ++ us, rfl, h, RepVs.app k r2⟩
theorem de_callD {m : List D → PO} {dds : List D} {dvs : List V} {j : Nat} (tk : Takes X W) (F : FnOk X.prog X.w X.K X.mg X.base (L2.CX X.prog X.w) k f fd ps (spP G n m)) (hr : Room k X.A) (hg : Gl X x) (hm : X.mg x = some (.ref f)) (hk : PySem.W.keepIn X.K (.ref f) = true) (hb : ∃ dsv, Vals dvs dsv ∧ Binds X.K fd ps dsv) (hv : ∀ B, Reps G B dds dvs)
    (hj : j + dds.length = n) (hn : ∀ ρ S xs S', af ρ S = .ok xs S' → xs.length = j)
    (ha : PA X (e :: es) (tA G W af)) (hdb : (x == ("__debug__" : Str)) = false := by decide) (he : starEach (e :: es) X.env = (false, eval e X.env) :: starEach es X.env := by rfl) (hpl : (backTo pos (starEach es X.env)).any (·.1) = false := by rfl) :
    PE X (.Call (.Name x p) (e :: es) [] pos) (tD G W (dCallP m (aEnd af dds))) := by
  obtain ⟨dsv, hvd, hb⟩ := hb
  refine wkE (pe_callSD F hr hg hm hk hb hvd (fun σ => passAt tk σ) ha hdb he hpl) fun σ H Q ⟨ρ, B, φ, S, w, en, q⟩ => ?_
  cases qa : af ρ S with
  | bad => unfold dCallP aEnd at q; rw [qa] at q; exact q.elim
  | exc x0 S0 => unfold dCallP aEnd at q; rw [qa] at q; exact ⟨ρ, B, φ, S, w, en, by rw [qa]; exact q⟩
  | ok xs0 S0 =>
    have l0 := hn ρ S xs0 S0 qa
    refine ⟨ρ, B, φ, S, w, en, ?_⟩
    unfold dCallP aEnd at q
    rw [qa] at q ⊢
    intro H1 B1 φ1 x1 w1 vs r1
    have q1 := WP.rebase x1 q
    have q1 : WP G W σ H1 B1 φ1 (match allP (xs0 ++ dds.map Dv.p) with
      | some ds => match m ds with
        | .ok d => .ok (.p d) S0
        | .exc x => .exc x S0
        | .bad => .bad
      | none => .bad : Out Dv) (fun d H' B' φ' _ => ∀ v, RepV G B' φ' d v → Q v H') := q1
    have r2 : RepVs G B1 φ1 (xs0 ++ dds.map Dv.p) (vs ++ dvs) := r1.app (reps_vs (hv B1))
    cases qp : allP (xs0 ++ dds.map Dv.p) with
    | none => rw [qp] at q1; exact q1.elim
    | some ds =>
      rw [qp] at q1
      have l1 : ds.length = n := by rw [(allP_rep qp r2).length, ← r2.length, List.length_append, List.length_map, l0, hj]
      exact spP_of l1 w1 r2 qp q1
def tCallNS (n m : Nat) (sp : Sp) (gV : List V → List V → List V) (E : L2.St → XK) (t tk : TA) : TE := fun σ H Q => t σ H fun vs H1 => tk σ H1 fun zs H2 => vs.length = n ∧ zs.length = m ∧ sp (gV vs zs) H2 Q (E σ)
theorem pe_callNS {CX : CXT} {sp : Sp} {ks : List Str} {kws : List Keyword} {t tk : TA} {E : L2.St → XK} {g : List Value → List Value → List Value} {gV : List V → List V → List V} (F : FnOk X.prog X.w X.K X.mg X.base CX k f fd ps sp) (hr : Room k X.A) (hg : Gl X x) (hm : X.mg x = some (.ref f)) (hk : PySem.W.keepIn X.K (.ref f) = true) (hb : KBn X.K fd ps n ks g gV) (hx : ∀ σ, PassesAt CX X σ (E σ))
    (ha : PA X (e :: es) t) (hkw : PK X kws tk) (hall : (backToKw pos (keywordEach kws X.env)).all (·.1.isSome) = true := by rfl) (hks : (backToKw pos (keywordEach kws X.env)).filterMap (·.1) = ks := by rfl)
    (hdb : (x == ("__debug__" : Str)) = false := by decide) (he : starEach (e :: es) X.env = (false, eval e X.env) :: starEach es X.env := by rfl)
    (hpl : ((backTo pos (starEach (e :: es) X.env)).any (·.1) || (backToKw pos (keywordEach kws X.env)).any (·.1.isNone)) = false := by rfl) :
    PE X (.Call (.Name x p) (e :: es) kws pos) (tCallNS n ks.length sp gV E t tk) := by
  refine ⟨fun pins s σ H Q I h => ?_⟩
  refine wpAny_Call_Name_kw (ld_glob I hg hm ?_ hdb)
  refine PySem.W.callWith_KW (h₀ := X.base) I.ok.mod.kin hk hall (thn (ha.run pos pins s σ H _ I h) fun us s1 ⟨vs, H1, I1, r, q⟩ => ?_) hpl he
  refine thn (hkw.run pos pins s1 σ H1 _ I1 q) fun ws s2 ⟨zs, H2, I2, rz, l1, l2, q2⟩ => ⟨I2.kIn, ?_⟩
  rw [hks]
  have r2 := hb.rel r rz
  refine wpAny_call (codeAny_mono (F.run X.A X.stack s2 H2 ⟨us, ks.zip ws⟩ (g us ws) (gV vs zs) Q (E σ) hr I2.env0 (hb.to s2 us ws I2.kIn (r.length.symm.trans l1) (rz.length.symm.trans l2)) r2 q2) fun r s' hq => ?_)
  cases r with
  | error e => exact hx σ pins H2 s2 e s' I2 hq
  | ok fl =>
    cases fl with
    | ret u => exact I2.after hq
    | next => exact False.elim hq
    | brk => exact False.elim hq
    | cont => exact False.elim hq
def aKw (af : Af) (kf : Ef) : Af := fun ρ S => (af ρ S).bind fun xs S1 => (kf ρ S1).bind fun y S2 => .ok (xs ++ [y]) S2
theorem de_callK {m : List D → PO} {nm : Str} {ke : Expr} {kpos : Pos} {kf : Ef} {j : Nat} {g : List Value → List Value → List Value} (tk : Takes X W) (F : FnOk X.prog X.w X.K X.mg X.base (L2.CX X.prog X.w) k f fd ps (spP G n m)) (hr : Room k X.A) (hg : Gl X x) (hm : X.mg x = some (.ref f)) (hk : PySem.W.keepIn X.K (.ref f) = true) (hb : KBn X.K fd ps j [nm] g fun vs zs => vs ++ zs)
    (hj : j + 1 = n) (hn : ∀ ρ S xs S', af ρ S = .ok xs S' → xs.length = j)
    (ha : PA X (e :: es) (tA G W af)) (hke : PE X ke (tD G W kf)) (hall : (backToKw pos (keywordEach [⟨some nm, ke, kpos⟩] X.env)).all (·.1.isSome) = true := by rfl) (hks : (backToKw pos (keywordEach [⟨some nm, ke, kpos⟩] X.env)).filterMap (·.1) = [nm] := by rfl)
    (hdb : (x == ("__debug__" : Str)) = false := by decide) (he : starEach (e :: es) X.env = (false, eval e X.env) :: starEach es X.env := by rfl)
    (hpl : ((backTo pos (starEach (e :: es) X.env)).any (·.1) || (backToKw pos (keywordEach [⟨some nm, ke, kpos⟩] X.env)).any (·.1.isNone)) = false := by rfl) :
    PE X (.Call (.Name x p) (e :: es) [⟨some nm, ke, kpos⟩] pos) (tD G W (dCallP m (aKw af kf))) := by
  refine wkE (pe_callNS F hr hg hm hk hb (fun σ => passAt tk σ) ha (pk_cons hke pk_nil) hall hks hdb he hpl) fun σ H Q ⟨ρ, B, φ, S, w, en, q⟩ => ?_
  have q : WP G W σ H B φ ((af ρ S).bind fun xs S1 => (kf ρ S1).bind fun y S2 => match allP (xs ++ [y]) with
      | some ds => match m ds with
        | .ok d => .ok (.p d) S2
        | .exc x => .exc x S2
        | .bad => .bad
      | none => .bad : Out Dv) (fun d H' B' φ' _ => ∀ v, RepV G B' φ' d v → Q v H') := by
    have e : dCallP m (aKw af kf) ρ S = ((af ρ S).bind fun xs S1 => (kf ρ S1).bind fun y S2 => match allP (xs ++ [y]) with
      | some ds => match m ds with
        | .ok d => .ok (.p d) S2
        | .exc x => .exc x S2
        | .bad => .bad
      | none => .bad : Out Dv) := by
      unfold dCallP aKw
      cases af ρ S with
      | bad => rfl
      | exc _ _ => rfl
      | ok xs S1 =>
        show ((kf ρ S1).bind fun y S2 => Out.ok (xs ++ [y]) S2).bind _ = (kf ρ S1).bind _
        cases kf ρ S1 <;> rfl
    rw [← e]; exact q
  show tA G W af σ H _
  have hA : af ρ S = .bad ∨ (∃ x0 S0, af ρ S = .exc x0 S0) ∨ ∃ xs0 S0, af ρ S = .ok xs0 S0 := by
    cases af ρ S with
    | bad => exact .inl rfl
    | exc x0 S0 => exact .inr (.inl ⟨_, _, rfl⟩)
    | ok xs0 S0 => exact .inr (.inr ⟨_, _, rfl⟩)
  rcases hA with qa | ⟨x0, S0, qa⟩ | ⟨xs0, S0, qa⟩
  · rw [qa] at q; exact q.elim
  · rw [qa] at q; exact ⟨ρ, B, φ, S, w, en, by rw [qa]; exact q⟩
  · have l0 := hn ρ S xs0 S0 qa
    refine ⟨ρ, B, φ, S, w, en, ?_⟩
    rw [qa] at q ⊢
    intro H1 B1 φ1 x1 w1 vs r1
    have q1 : WP G W σ H1 B1 φ1 ((kf ρ S0).bind fun y S2 => match allP (xs0 ++ [y]) with
      | some ds => match m ds with
        | .ok d => .ok (.p d) S2
        | .exc x => .exc x S2
        | .bad => .bad
      | none => .bad : Out Dv) (fun d H' B' φ' _ => ∀ v, RepV G B' φ' d v → Q v H') := WP.rebase x1 q
    show tD G W kf σ H1 _
    refine tD.run w1 (en.mono x1.b x1.p) (WP.fst q1) fun y v H2 B2 φ2 S2 x2 w2 en2 r2 k2 => ?_
    refine ⟨by rw [← r1.length, l0], rfl, ?_⟩
    have r3 : RepVs G B2 φ2 (xs0 ++ [y]) (vs ++ [v]) := (RepVs.mono x2.b x2.p _ r1).append ⟨v, [], rfl, r2, rfl⟩
    cases qp : allP (xs0 ++ [y]) with
    | none => rw [qp] at k2; exact k2.elim
    | some ds =>
      rw [qp] at k2
      have l1 : ds.length = n := by rw [(allP_rep qp r3).length, ← r3.length, List.length_append, l0, ← hj]; rfl
      exact spP_of l1 w2 r3 qp k2
theorem ok_bad {Pr : Program} {w : World} {K : PySem.W.Frag} {mg : Str → Option Value} {base : Heap} {CX : CXT} : FnOk Pr w K mg base CX k f fd ps (spP G n fun _ => .bad) :=
  ⟨fun vs H Q E ⟨_, _, _, _, _, h⟩ => h.elim, fun A outer s H args us vs Q E _ _ _ _ ⟨_, _, _, _, _, h⟩ => h.elim⟩
end
end DL

set_option maxHeartbeats 4000000
namespace DL
open PySem L2
open PySem.Spec PyProof.Rows
section
variable {X : Cx} {G : Gx} {W : WX} {e : Expr} {ef : Ef} {p p2 pos P pp : Pos} {H B : Hp} {φ : List Addr} {S : Sto} {σ : L2.St} {ρ : Nv} {ta : TE}
theorem room65 {k : Nat} {A : Around} (r : L2.Room k A) : A.units + 65 < cLine := by have := r.un; omega
/-! ### in, not in: deep items -/
def oInD (neg : Bool) : Op2 := fun x y S => match vPy S x, vPy S y with
  | some d, some (.list ds) => if SeqAt.shaped d = true ∧ SeqAt.shaped (.list ds) = true then .ok (.p (.bl (if neg then !ds.any fun z => PyData.eqv z d else ds.any fun z => PyData.eqv z d))) S else .bad
  | _, _ => .bad
theorem oInD_ok : Ok2 G W (rInD G.K) (oInD false) := by
  intro H B φ S σ x y v u Q w r1 r2 h
  unfold oInD at h
  split at h
  · rename_i d ds ha hb
    split at h
    · rename_i hs
      exact ⟨d, ds, vPy_dp w r1 ha, vPy_dp w r2 hb, hs.1, hs.2, h H B φ Xt.refl w _ (rep_bl.mpr rfl)⟩
    · exact h.elim
  · exact h.elim
theorem oNotInD_ok : Ok2 G W (rNotInD G.K) (oInD true) := by
  intro H B φ S σ x y v u Q w r1 r2 h
  unfold oInD at h
  split at h
  · rename_i d ds ha hb
    split at h
    · rename_i hs
      exact ⟨d, ds, vPy_dp w r1 ha, vPy_dp w r2 hb, hs.1, hs.2, h H B φ Xt.refl w _ (rep_bl.mpr rfl)⟩
    · exact h.elim
  · exact h.elim
/-! ### len(set(xs)), xs tuples of numbers -/
def ddT : List (List Int) → List (List Int)
  | [] => []
  | x :: r => if x ∈ ddT r then ddT r else x :: ddT r
theorem ddT_mem {k : List Int} : ∀ {ns : List (List Int)}, k ∈ ddT ns ↔ k ∈ ns
  | [] => Iff.rfl
  | x :: r => by
    unfold ddT
    split
    · rename_i h
      rw [ddT_mem (ns := r), List.mem_cons]
      exact ⟨.inr, fun q => q.elim (fun e => by rw [e]; exact ddT_mem.mp h) id⟩
    · rw [List.mem_cons, List.mem_cons, ddT_mem (ns := r)]
theorem ddT_nd : ∀ ns : List (List Int), (ddT ns).Nodup
  | [] => List.nodup_nil
  | x :: r => by
    unfold ddT
    split
    · exact ddT_nd r
    · rename_i h
      exact List.nodup_cons.mpr ⟨h, ddT_nd r⟩
theorem ddT_id : ∀ {ns : List (List Int)}, ns.Nodup → ddT ns = ns
  | [], _ => rfl
  | x :: r, h => by
    obtain ⟨h1, h2⟩ := List.nodup_cons.mp h
    unfold ddT
    rw [ddT_id h2, if_neg h1]
theorem ddT_len {l ns : List (List Int)} (h : l.Nodup) (hm : ∀ k, k ∈ l ↔ k ∈ ns) : l.length = (ddT ns).length :=
  ((List.perm_ext_iff_of_nodup h (ddT_nd ns)).mpr fun k => (hm k).trans ddT_mem.symm).length_eq
def tupsOf : List D → Option (List (List Int))
  | [] => some []
  | .tup ds :: r => match intsOf ds, tupsOf r with
    | some ns, some nss => some (ns :: nss)
    | _, _ => none
  | _ :: _ => none
theorem tups_at : ∀ {ds : List D} {nss : List (List Int)} {vs : List V}, tupsOf ds = some nss → Reps G B ds vs → ∃ ks : List (Addr × List Int), ks.map (·.2) = nss ∧ vs = ks.map (fun p => V.ref p.1) ∧ ∀ p ∈ ks, SqT G.K B p.1 (p.2.map V.int)
  | [], nss, vs, h, r => by
    cases h
    unfold Reps at r
    exact ⟨[], rfl, r, fun p hp => by cases hp⟩
  | d :: ds, nss, vs, h, r => by
    unfold Reps at r
    obtain ⟨x, t, rfl, r1, r2⟩ := r
    cases d with
    | tup es =>
      unfold tupsOf at h
      split at h
      · rename_i ns nss' h1 h2
        cases h
        obtain ⟨ks, e1, e2, e3⟩ := tups_at h2 r2
        unfold Rep at r1
        obtain ⟨a, xs, rfl, s1, q1⟩ := r1
        refine ⟨(a, ns) :: ks, by rw [List.map_cons, e1], by rw [List.map_cons, e2], fun p hp => ?_⟩
        rcases List.mem_cons.mp hp with rfl | hp
        · show SqT G.K B a (ns.map V.int)
          rw [← ints_at' h1 q1]; exact s1
        · exact e3 p hp
      · cases h
    | _ => cases h
theorem len_setT_of (cm : X.calm = true) (hu : X.A.units + 3 < cLine) (lG : Gl X "len") (lM : X.mg "len" = none) (sG : Gl X "set") (sM : X.mg "set" = none) (he : PE X e ta) (st : starEach [e] X.env = (false, eval e X.env) :: starEach [] X.env := by rfl) :
    PE X (.Call (.Name "len" p) [.Call (.Name "set" p2) [e] [] P] [] pp) (fun σ H Q => ta σ H fun x H1 => ∃ (l : Addr) (ks : List (Addr × List Int)), x = .ref l ∧ SqL X.K H1 l (ks.map fun p => V.ref p.1) ∧ (∀ p ∈ ks, SqT X.K H1 p.1 (p.2.map V.int)) ∧ ks.length < 64 ∧ Q (.int ((ddT (ks.map (·.2))).length : Nat)) H1) := by
  constructor
  intro pins s σ H Q I h
  refine Call_ (ld_blt I lG lM boot_len (PyProof.Rows.callWith_builtin1 (PyProof.Rows.args_cons ?_ rfl) rfl rfl))
  refine Call_ (ld_blt I sG sM boot_set (PyProof.Rows.callWith_type1 (PyProof.Rows.args_cons (thn (he.run pins s σ H _ I h) fun v s1 ⟨x, H1, I1, r1, k⟩ => PyProof.Rows.args_nil ?_) st) st rfl))
  obtain ⟨l, ks, rfl, sq, hk, len, k⟩ := k
  cases r1
  obtain ⟨its, r, pl, hz⟩ := I1.list sq
  refine call_set_tups (P := X.prog) (w := X.w) ks (I1.ok.hd cm) pl.isList (by simpa using refs_of_vals r) (fun p hp => I1.isT (hk p hp)) len hu fun h' t L es ep tb R g kept => PyProof.Rows.args_nil ?_
  have I2 : Inv X pins σ H1 { s1 with heap := h', toks := t } := I1.kept fun b o e => kept b o e
  have eL : L.length = (ddT (ks.map (·.2))).length := by
    rw [← List.length_map (f := fun p : Addr × List Int => p.2)]
    refine ddT_len R.nd fun k => ?_
    constructor
    · intro hk
      obtain ⟨p, hp, e⟩ := List.mem_map.mp hk
      exact List.mem_map.mpr ⟨p, List.mem_of_mem_take (g.sub p hp), e⟩
    · intro hk
      obtain ⟨p, hp, e⟩ := List.mem_map.mp hk
      rw [← e]
      exact g.all p (by rw [List.take_length]; exact hp)
  have R' : SetTR X.prog X.w ({ s1 with heap := h', toks := t } : Shared).heap s1.heap.objs.size L es ep tb := R
  obtain ⟨o, ho, hex, hd⟩ := R'.ob
  have hsz := R'.size
  have hfew := R'.few
  refine call_len_set ho hex hd R'.fits (by omega) ⟨.int ((ddT (ks.map (·.2))).length : Nat), H1, I2.tok _, ⟨_, by rw [hsz, eL]⟩, k⟩
def nLenSetT : OpN := fun xs S => match xs with
  | [x] => match vw S x with
    | some ds => match tupsOf ds with
      | some nss => if nss.length < 64 then .ok (.p (.int (ddT nss).length)) S else .bad
      | none => .bad
    | none => .bad
  | _ => .bad
theorem de_lenSetT (hK : X.K = G.K) (cm : X.calm = true) (hu : X.A.units + 3 < cLine) (lG : Gl X "len") (lM : X.mg "len" = none) (sG : Gl X "set") (sM : X.mg "set" = none) (he : PE X e (tD G W ef)) (st : starEach [e] X.env = (false, eval e X.env) :: starEach [] X.env := by rfl) :
    PE X (.Call (.Name "len" p) [.Call (.Name "set" p2) [e] [] P] [] pp) (tD G W (dCall nLenSetT (aCons ef aNil))) := by
  refine wkE (len_setT_of cm hu lG lM sG sM he st) fun σ H Q ⟨ρ, B, φ, S, w, en, h⟩ => ?_
  have h : WP G W σ H B φ ((ef ρ S).bind fun x S1 => nLenSetT [x] S1) fun d H' B' φ' S' => ∀ v, RepV G B' φ' d v → Q v H' := by
    have e : dCall nLenSetT (aCons ef aNil) ρ S = (ef ρ S).bind fun x S1 => nLenSetT [x] S1 := by
      unfold dCall aCons aNil
      cases ef ρ S <;> rfl
    rw [e] at h; exact h
  refine tD.run w en (WP.fst h) fun d v H1 B1 φ1 S1 x1 w1 en1 r1 k => ?_
  unfold nLenSetT at k
  dsimp only at k
  split at k
  · rename_i ds hv
    split at k
    · rename_i nss hn
      split at k
      · rename_i hl
        obtain ⟨a, xs, rfl, s1, r2⟩ := vw_at w1 r1 hv
        obtain ⟨ks, e1, e2, e3⟩ := tups_at hn r2
        subst e1
        rw [List.length_map] at hl
        refine ⟨a, ks, rfl, by rw [← e2]; exact SqL.of s1, fun p hp => by rw [hK]; exact sqT_mono w1.sub (e3 p hp), hl, k H1 B1 φ1 Xt.refl w1 _ (rep_int.mpr rfl)⟩
      · exact k.elim
    · exact k.elim
  · exact k.elim
end
end DL

set_option maxHeartbeats 4000000
namespace DL
open PySem L2
open PySem.Spec PyProof.Rows
/-! ### own objects with a dict: fields by name -/
def putD (f : Str) (d : Dv) : List (Str × Dv) → List (Str × Dv)
  | [] => [(f, d)]
  | (g, x) :: r => if g = f then (g, d) :: r else (g, x) :: putD f d r
def FldR (G : Gx) (B : Hp) (φ : List Addr) (fs : List (Str × Dv)) (vs : List (Str × V)) : Prop := vs.map (·.1) = fs.map (·.1) ∧ RepVs G B φ (fs.map (·.2)) (vs.map (·.2))
section
variable {G : Gx} {B H : Hp} {φ : List Addr}
theorem FldR.nil : FldR G B φ [] [] := ⟨rfl, rfl⟩
theorem FldR.cons_inv {g : Str} {x : Dv} {fs : List (Str × Dv)} {vs : List (Str × V)} (h : FldR G B φ ((g, x) :: fs) vs) : ∃ v r, vs = (g, v) :: r ∧ RepV G B φ x v ∧ FldR G B φ fs r := by
  obtain ⟨h1, h2⟩ := h
  cases vs with
  | nil => simp at h1
  | cons p r =>
    obtain ⟨k, v⟩ := p
    simp only [List.map_cons, List.cons.injEq] at h1
    obtain ⟨e, h1⟩ := h1
    subst e
    obtain ⟨v', t, e, r1, r2⟩ := h2
    have e : v :: r.map (·.2) = v' :: t := e
    cases e
    exact ⟨v, r, rfl, r1, h1, r2⟩
theorem FldR.cons {g : Str} {x : Dv} {v : V} {fs : List (Str × Dv)} {vs : List (Str × V)} (h : RepV G B φ x v) (r : FldR G B φ fs vs) : FldR G B φ ((g, x) :: fs) ((g, v) :: vs) :=
  ⟨by rw [List.map_cons, List.map_cons, r.1], ⟨_, _, rfl, h, r.2⟩⟩
theorem FldR.get {f : Str} {d : Dv} : ∀ {fs : List (Str × Dv)} {vs : List (Str × V)}, FldR G B φ fs vs → fs.lookup f = some d → ∃ v, vs.lookup f = some v ∧ RepV G B φ d v
  | [], _, _, h => by cases h
  | (g, x) :: fs, vs, r, h => by
    obtain ⟨v, r', rfl, rv, rr⟩ := r.cons_inv
    rw [List.lookup_cons] at h ⊢
    cases hb : f == g with
    | true =>
      rw [hb] at h
      cases h
      exact ⟨v, rfl, rv⟩
    | false =>
      rw [hb] at h
      exact rr.get h
theorem FldR.no {f : Str} : ∀ {fs : List (Str × Dv)} {vs : List (Str × V)}, FldR G B φ fs vs → fs.lookup f = none → vs.lookup f = none
  | [], vs, r, h => by
    have e : vs.map (·.1) = [] := r.1
    rw [List.map_eq_nil_iff.mp e]; rfl
  | (g, x) :: fs, vs, r, h => by
    obtain ⟨v, r', rfl, rv, rr⟩ := r.cons_inv
    rw [List.lookup_cons] at h ⊢
    cases hb : f == g with
    | true => rw [hb] at h; cases h
    | false => rw [hb] at h; exact rr.no h
theorem FldR.put {f : Str} {d : Dv} {y : V} (q : RepV G B φ d y) : ∀ {fs : List (Str × Dv)} {vs : List (Str × V)}, FldR G B φ fs vs → FldR G B φ (putD f d fs) (putF f y vs)
  | [], vs, r => by
    have e : vs.map (·.1) = [] := r.1
    rw [List.map_eq_nil_iff.mp e]
    exact FldR.nil.cons q
  | (g, x) :: fs, vs, r => by
    obtain ⟨v, r', rfl, rv, rr⟩ := r.cons_inv
    unfold putD putF
    by_cases e : g = f
    · rw [if_pos e, if_pos e]; exact rr.cons q
    · rw [if_neg e, if_neg e]; exact (rr.put q).cons rv
theorem FldR.len {fs : List (Str × Dv)} {vs : List (Str × V)} (r : FldR G B φ fs vs) : vs.length = fs.length := by
  have := congrArg List.length r.1
  simpa using this
end
section
variable {X : Cx} {G : Gx} {W : WX} {k n : Nat} {f g pa : Addr} {fd : FuncData} {ps : List Str} {x fn : Str} {p pos pos' apos : Pos} {e o : Expr} {es : List Expr} {af : Af} {ef eg eh : Ef} {H B : Hp} {φ : List Addr} {S : Sto} {σ : L2.St} {Q : VK}
def insOf (S : Sto) : Dv → Option (Nat × List (Str × Dv))
  | .hnd n => match S[n]? with
    | some (.ins _ fs) => some (n, fs)
    | _ => none
  | _ => none
theorem ins_at {d : Dv} {v : V} {n : Nat} {fs : List (Str × Dv)} (w : Wd G H B φ S) (r : RepV G B φ d v) (h : insOf S d = some (n, fs)) :
    d = .hnd n ∧ ∃ c a dx vs, S[n]? = some (.ins c fs) ∧ φ[n]? = some a ∧ v = .ref a ∧ B a = none ∧ H a = some (.ins G.uc dx vs) ∧ FldR G B φ fs vs := by
  unfold insOf at h
  split at h
  · rename_i m
    split at h
    · rename_i c fs' hs
      cases h
      obtain ⟨a, h1, rfl⟩ := r
      obtain ⟨hb, dx, vs, h2, h3, h4⟩ : CellR G H B φ a (.ins c fs) := w.cell _ a _ h1 hs
      exact ⟨rfl, c, a, dx, vs, hs, h1, rfl, hb, h2, h3, h4⟩
    · cases h
  · cases h
/-! e.f -/
def dFld (fn : Str) (ef : Ef) : Ef := fun ρ S => (ef ρ S).bind fun d S1 => match insOf S1 d with
  | some (_, fs) => match fs.lookup fn with
    | some x => .ok x S1
    | none => .bad
  | none => .bad
theorem de_fld (c : Cls X.K G.uc) (na : NoAttr X.K G.uc fn) (he : PE X e (tD G W ef)) (hb : attributeBase e fn X.env (eval e X.env) = eval e X.env := by rfl) : PE X (.Attribute e fn pos) (tD G W (dFld fn ef)) := by
  refine wkE (pe_fld he hb) fun σ H Q ⟨ρ, B, φ, S, w, en, h⟩ => tD.run w en (WP.fst h) fun d v H1 B1 φ1 S1 x1 w1 en1 r1 q1 => ?_
  split at q1
  · rename_i m fs hi
    split at q1
    · rename_i x hx
      obtain ⟨rfl, c0, a, dx, vs, hs, hφ, rfl, hb, hH, fr⟩ := ins_at w1 r1 hi
      obtain ⟨y, hy, ry⟩ := fr.get hx
      exact ⟨a, G.uc, dx, vs, y, rfl, hH, c, na, hy, q1 H1 B1 φ1 Xt.refl w1 y ry⟩
    · exact q1.elim
  · exact q1.elim
/-! o.f = e -/
def sFldSet (fn : Str) (eo ev : Ef) : Sf := fun ρ S => (ev ρ S).toS ρ fun d S1 => (eo ρ S1).toS ρ fun o S2 => match insOf S2 o with
  | some (n, fs) => if fs.length < 1000 then .ok (.nx ρ) (S2.set n (.ins 0 (putD fn d fs))) else .bad
  | none => .bad
theorem dp_fldSet (c : Cls X.K G.uc) (na : NoAttr X.K G.uc fn) (ho : PE X o (tD G W ef)) (he : PE X e (tD G W eg)) (hs : swapsWith e (some (.Attribute o fn pos')) pos.line X.env = pure false := by rfl) : PS X (.Assign [.Attribute o fn pos'] e pos) (tS G W (sFldSet fn ef eg)) := by
  refine wkS (ps_fld ho he hs) fun D σ H ⟨ρ, B, φ, S, w, en, h⟩ => tD.run w en (WPS.fst en h) fun d v H1 B1 φ1 S1 x1 w1 en1 r1 q1 => ?_
  refine tD.run w1 en1 (WPS.fst en1 q1) fun ov v2 H2 B2 φ2 S2 x2 w2 en2 r2 q2 => ?_
  split at q2
  · rename_i m fs hi
    split at q2
    · rename_i hl
      obtain ⟨rfl, c0, a, dx, vs, hs, hφ, rfl, hb, hH, fr⟩ := ins_at w2 r2 hi
      refine ⟨a, G.uc, dx, vs, rfl, hH, c, na, by rw [fr.len]; exact hl, ?_⟩
      have r1' := RepV.mono x2.b x2.p _ r1
      have fr' := fr.put (f := fn) r1'
      exact q2 _ B2 φ2 (Xt.set hφ) (w2.set hφ hs (fun z => nomatch z) hb ⟨hb, dx, _, upd_same, fr'.1, fr'.2⟩ rfl) σ en2
    · exact q2.elim
  · exact q2.elim
/-! C(..) -/
def dMakeO (m : List Dv → Sto → Out Dv) (a : Af) : Ef := fun ρ S => (a ρ S).bind fun xs S1 => (m (.hnd S1.length :: xs) (S1 ++ [.ins 0 []])).bind fun d S2 => match d with
  | .p .non => .ok (.hnd S1.length) S2
  | _ => .bad
theorem de_makeO {fI : Addr} {m : List Dv → Sto → Out Dv} (tk : Takes X W) (M : Mk X.K G.uc fI) (F : FnOk X.prog X.w X.K X.mg X.base (L2.CX X.prog X.w) k fI fd ps (spE G (n + 1) m)) (hr : Room (k + 1) X.A) (hg : Gl X x) (hm : X.mg x = some (.ref G.uc)) (hb : Binds X.K fd ps [])
    (hn : ∀ ρ S xs S', af ρ S = .ok xs S' → xs.length = n)
    (ha : PA X (e :: es) (tA G W af)) (hdb : (x == ("__debug__" : Str)) = false := by decide) (he : starEach (e :: es) X.env = (false, eval e X.env) :: starEach es X.env := by rfl) (hpl : (backTo pos (starEach es X.env)).any (·.1) = false := by rfl) :
    PE X (.Call (.Name x p) (e :: es) [] pos) (tD G W (dMakeO m af)) := by
  refine wkE (pe_makeR M F hr hg hm hb (passAt tk) ha hdb he hpl) fun σ H Q ⟨ρ, B, φ, S, w, en, q⟩ => ?_
  have q' := WP.fst q
  cases qa : af ρ S with
  | bad => rw [qa] at q'; exact q'.elim
  | exc x0 S0 => exact ⟨ρ, B, φ, S, w, en, by rw [qa] at q' ⊢; exact q'⟩
  | ok xs0 S0 =>
    have l0 := hn ρ S xs0 S0 qa
    refine ⟨ρ, B, φ, S, w, en, ?_⟩
    rw [qa] at q' ⊢
    intro H1 B1 φ1 x1 w1 vs r1
    have q1 := q' H1 B1 φ1 x1 w1
    intro xx dx hx hdx hne
    have w2 := w1.hide (o := .own xx) hdx
    have x2 : Xt H1 B1 φ1 (upd H1 dx (.own xx)) B1 φ1 := Xt.hide w1 hdx
    have hx2 : (upd H1 dx (.own xx)) xx = none := by rw [upd_ne (Ne.symm hne)]; exact hx
    obtain ⟨w3, x3, rr⟩ := cell_new (c := .ins 0 []) (o := .ins G.uc dx []) w2 hx2 ⟨w2.bfree hx2, dx, [], upd_same, rfl, rfl⟩
    have x23 := x2.trans x3
    refine ⟨B1, φ1 ++ [xx], S0 ++ [.ins 0 []], .hnd S0.length :: xs0, w3, ⟨_, _, rfl, rr, RepVs.mono (Same.refl _) (List.prefix_append _ _) _ r1⟩, by rw [List.length_cons, l0], ?_⟩
    have q2 := WP.fst (WP.rebase x23 q1)
    cases qm : m (.hnd S0.length :: xs0) (S0 ++ [.ins 0 []]) with
    | bad => rw [qm] at q2; exact q2.elim
    | exc e' S' => rw [qm] at q2; exact q2
    | ok d S' =>
      rw [qm] at q2
      intro H4 B4 φ4 x4 w4 v rv
      have q4 := q2 H4 B4 φ4 x4 w4
      dsimp only at q4
      split at q4
      · refine ⟨rep_non.mp rv, q4 H4 B4 φ4 Xt.refl w4 _ ?_⟩
        obtain ⟨a, ha1, ha2⟩ := rr
        cases ha2
        obtain ⟨t, et⟩ := x4.p
        refine ⟨xx, ?_, rfl⟩
        rw [← et, List.getElem?_append_left (List.getElem?_eq_some_iff.mp ha1).1]
        exact ha1
      · exact q4.elim
/-! methods -/
def tMethS (C : Addr) (m : Str) (sp : Sp) (E : L2.St → XK) (ta : TE) (t : TA) : TE := fun σ H Q => ta σ H fun x H1 => ∃ a dx fs, x = .ref a ∧ H1 a = some (.ins C dx fs) ∧ fs.lookup m = none ∧ t σ H1 fun vs H2 => sp (x :: vs) H2 Q (E σ)
theorem pe_methS {CX : CXT} {C : Addr} {m : Str} {sp : Sp} {E : L2.St → XK} {pl : Sem Bool} {ta : TE} {t : TA} (he : PE X o ta) (c : Cls X.K C) (hm : Meth X.K C m g) (F : FnR X.prog X.w X.K X.mg X.base CX k g sp) (hr : Room k X.A) (hx : ∀ σ, PassesAt CX X σ (E σ)) (ha : PA X (e :: es) t)
    (hst : starEach (e :: es) X.env = (false, eval e X.env) :: starEach es X.env := by rfl) (hpl : (backTo pos (starEach es X.env)).any (·.1) = false := by rfl)
    (ht : eval (.Call (.Attribute o m apos) (e :: es) [] pos) X.env = (do
      let ov ← eval o X.env
      standAt apos.atName
      let (f, first) ← holding [ov] (getMethod ov m pl)
      callWith pos f first (backTo pos (starEach (e :: es) X.env)) (backToKw pos (keywordEach [] X.env))) := by rfl) :
    PE X (.Call (.Attribute o m apos) (e :: es) [] pos) (tMethS C m sp E ta t) := by
  refine ⟨fun pins s σ H Q I h => PySem.W.methodCall_KW (pl := pl) (thn (he.run pins s σ H _ I h) fun u s1 ⟨x, H1, I1, rx, a, dx, fs, ex, ea, l, q⟩ => ?_) ht⟩
  subst ex
  obtain rfl : u = Value.ref a := rx
  refine getmeth_ok I1 ea c hm l (PySem.W.callWith_K (first := [.ref a]) (h₀ := X.base) I.ok.mod.kin hm.kp (thn (ha.run pos pins s1 σ H1 _ I1 q) fun us s2 ⟨ws, H2, I2, r, q2⟩ => ⟨I2.kIn, ?_⟩) hst hpl)
  refine wpAny_call (codeAny_mono (F X.A X.stack s2 H2 (.ref a :: us) (.ref a :: ws) Q (E σ) hr I2.env0 (.cons rfl r) q2) fun rr s' hq => ?_)
  cases rr with
  | error er => exact hx σ pins H2 s2 er s' I2 hq
  | ok fl =>
    cases fl with
    | ret u => exact I2.after hq
    | next => exact hq.elim
    | brk => exact hq.elim
    | cont => exact hq.elim
theorem pe_methS0 {CX : CXT} {C : Addr} {m : Str} {sp : Sp} {E : L2.St → XK} {pl : Sem Bool} {ta : TE} (he : PE X o ta) (c : Cls X.K C) (hm : Meth X.K C m g) (F : FnR X.prog X.w X.K X.mg X.base CX k g sp) (hr : Room k X.A) (hx : ∀ σ, PassesAt CX X σ (E σ))
    (ht : eval (.Call (.Attribute o m apos) [] [] pos) X.env = (do
      let ov ← eval o X.env
      standAt apos.atName
      let (f, first) ← holding [ov] (getMethod ov m pl)
      callWith pos f first (backTo pos (starEach [] X.env)) (backToKw pos (keywordEach [] X.env))) := by rfl) :
    PE X (.Call (.Attribute o m apos) [] [] pos) (tMethS C m sp E ta tNil) := by
  refine ⟨fun pins s σ H Q I h => PySem.W.methodCall_KW (pl := pl) (thn (he.run pins s σ H _ I h) fun u s1 ⟨x, H1, I1, rx, a, dx, fs, ex, ea, l, q⟩ => ?_) ht⟩
  subst ex
  obtain rfl : u = Value.ref a := rx
  refine getmeth_ok I1 ea c hm l (PySem.W.callWith_K0 (first := [.ref a]) I1.kIn hm.kp ?_)
  refine wpAny_call (codeAny_mono (F X.A X.stack s1 H1 [.ref a] [.ref a] Q (E σ) hr I1.env0 (.cons rfl .nil) q) fun rr s' hq => ?_)
  cases rr with
  | error er => exact hx σ pins H1 s1 er s' I1 hq
  | ok fl =>
    cases fl with
    | ret u => exact I1.after hq
    | next => exact hq.elim
    | brk => exact hq.elim
    | cont => exact hq.elim
def dMethO (mn : Str) (m : List Dv → Sto → Out Dv) (f : Ef) (a : Af) : Ef := fun ρ S => (f ρ S).bind fun d S1 => match insOf S1 d with
  | some (_, fs) => match fs.lookup mn with
    | none => (a ρ S1).bind fun xs S2 => m (d :: xs) S2
    | some _ => .bad
  | none => .bad
theorem spE_of {m : List Dv → Sto → Out Dv} {xs : List Dv} {vs : List V} (hn : xs.length = n) (w : Wd G H B φ S) (r : RepVs G B φ xs vs) (h : WP G W σ H B φ (m xs S) fun d H' B' φ' _ => ∀ v, RepV G B' φ' d v → Q v H') : spE G n m vs H Q (WE W σ) := by
  refine ⟨B, φ, S, xs, w, r, hn, ?_⟩
  cases qm : m xs S with
  | bad => rw [qm] at h; exact h
  | ok d S' => rw [qm] at h; exact h
  | exc x S' => rw [qm] at h; exact h
theorem de_methO {mn : Str} {m : List Dv → Sto → Out Dv} {pl : Sem Bool} (c : Cls X.K G.uc) (tk : Takes X W) (hm : Meth X.K G.uc mn g) (F : FnOk X.prog X.w X.K X.mg X.base (L2.CX X.prog X.w) k g fd ps (spE G (n + 1) m)) (hb : Binds X.K fd ps []) (hr : Room k X.A)
    (hn : ∀ ρ S xs S', af ρ S = .ok xs S' → xs.length = n) (he : PE X o (tD G W ef)) (ha : PA X (e :: es) (tA G W af))
    (hst : starEach (e :: es) X.env = (false, eval e X.env) :: starEach es X.env := by rfl) (hpl : (backTo pos (starEach es X.env)).any (·.1) = false := by rfl)
    (ht : eval (.Call (.Attribute o mn apos) (e :: es) [] pos) X.env = (do
      let ov ← eval o X.env
      standAt apos.atName
      let (f, first) ← holding [ov] (getMethod ov mn pl)
      callWith pos f first (backTo pos (starEach (e :: es) X.env)) (backToKw pos (keywordEach [] X.env))) := by rfl) :
    PE X (.Call (.Attribute o mn apos) (e :: es) [] pos) (tD G W (dMethO mn m ef af)) := by
  refine wkE (pe_methS he c hm (raw_E F hb) hr (passAt tk) ha hst hpl ht) fun σ H Q ⟨ρ, B, φ, S, w, en, h⟩ => tD.run w en (WP.fst h) fun d v H1 B1 φ1 S1 x1 w1 en1 r1 q1 => ?_
  split at q1
  · rename_i m0 fs hi
    split at q1
    · rename_i hl
      obtain ⟨rfl, c0, a, dx, vs, hs, hφ, rfl, hb, hH, fr⟩ := ins_at w1 r1 hi
      refine ⟨a, dx, vs, rfl, hH, fr.no hl, ?_⟩
      cases qa : af ρ S1 with
      | bad => rw [qa] at q1; exact q1.elim
      | exc x0 S0 => exact ⟨ρ, B1, φ1, S1, w1, en1, by rw [qa] at q1 ⊢; exact q1⟩
      | ok xs0 S2 =>
        have l0 := hn ρ S1 xs0 S2 qa
        refine ⟨ρ, B1, φ1, S1, w1, en1, ?_⟩
        rw [qa] at q1 ⊢
        intro H2 B2 φ2 x2 w2 ws r2
        have q2 : WP G W σ H2 B2 φ2 (m (.hnd m0 :: xs0) S2) (fun d H' B' φ' _ => ∀ v, RepV G B' φ' d v → Q v H') := WP.rebase x2 q1
        exact spE_of (by rw [List.length_cons, l0]) w2 (show RepVs G B2 φ2 (.hnd m0 :: xs0) (.ref a :: ws) from ⟨_, _, rfl, RepV.mono x2.b x2.p _ r1, r2⟩) q2
    · exact q1.elim
  · exact q1.elim
theorem de_methO0 {mn : Str} {m : List Dv → Sto → Out Dv} {pl : Sem Bool} (c : Cls X.K G.uc) (tk : Takes X W) (hm : Meth X.K G.uc mn g) (F : FnOk X.prog X.w X.K X.mg X.base (L2.CX X.prog X.w) k g fd ps (spE G 1 m)) (hb : Binds X.K fd ps []) (hr : Room k X.A) (he : PE X o (tD G W ef))
    (ht : eval (.Call (.Attribute o mn apos) [] [] pos) X.env = (do
      let ov ← eval o X.env
      standAt apos.atName
      let (f, first) ← holding [ov] (getMethod ov mn pl)
      callWith pos f first (backTo pos (starEach [] X.env)) (backToKw pos (keywordEach [] X.env))) := by rfl) :
    PE X (.Call (.Attribute o mn apos) [] [] pos) (tD G W (dMethO mn m ef aNil)) := by
  refine wkE (pe_methS0 he c hm (raw_E F hb) hr (passAt tk) ht) fun σ H Q ⟨ρ, B, φ, S, w, en, h⟩ => tD.run w en (WP.fst h) fun d v H1 B1 φ1 S1 x1 w1 en1 r1 q1 => ?_
  split at q1
  · rename_i m0 fs hi
    split at q1
    · rename_i hl
      obtain ⟨rfl, c0, a, dx, vs, hs, hφ, rfl, hb, hH, fr⟩ := ins_at w1 r1 hi
      refine ⟨a, dx, vs, rfl, hH, fr.no hl, ?_⟩
      have q1 : WP G W σ H1 B1 φ1 (m [.hnd m0] S1) (fun d H' B' φ' _ => ∀ v, RepV G B' φ' d v → Q v H') := q1
      exact spE_of rfl w1 (show RepVs G B1 φ1 [.hnd m0] [.ref a] from ⟨_, _, rfl, r1, rfl⟩) q1
    · exact q1.elim
  · exact q1.elim
/-! properties -/
def dPropO (m : List Dv → Sto → Out Dv) (f : Ef) : Ef := fun ρ S => (f ρ S).bind fun d S1 => match insOf S1 d with
  | some _ => noX (m [d] S1)
  | none => .bad
theorem de_propO {a : Str} {m : List Dv → Sto → Out Dv} (c : Cls X.K G.uc) (hp : PropOf X.K G.uc a pa g) (F : FnOk X.prog X.w X.K X.mg X.base (L2.CX X.prog X.w) k g fd ps (spE G 1 m)) (hb : Binds X.K fd ps []) (hr : Room (k + 1) X.A) (he : PE X e (tD G W ef))
    (hab : attributeBase e a X.env (eval e X.env) = eval e X.env := by rfl) : PE X (.Attribute e a pos) (tD G W (dPropO m ef)) := by
  refine wkE (pe_prop he c hp F hr hb .nil (E := E0) (fun _ _ _ _ _ _ _ z => cx_no z) hab) fun σ H Q ⟨ρ, B, φ, S, w, en, h⟩ => tD.run w en (WP.fst h) fun d v H1 B1 φ1 S1 x1 w1 en1 r1 q1 => ?_
  split at q1
  · rename_i z hi
    obtain ⟨m0, fs⟩ := z
    obtain ⟨rfl, c0, a, dx, vs, hs, hφ, rfl, hb, hH, fr⟩ := ins_at w1 r1 hi
    exact ⟨a, dx, vs, rfl, hH, spE_ok rfl w1 (show RepVs G B1 φ1 [.hnd m0] [.ref a] from ⟨_, _, rfl, r1, rfl⟩) q1⟩
  · exact q1.elim
/-! len(o) by an own __len__ -/
def rLenO (C : Addr) (sp : Sp) : List V → Hp → VK → Prop := fun xs H Q => ∃ a dx fs, xs = [.ref a] ∧ H a = some (.ins C dx fs) ∧ sp [.ref a] H (fun v H2 => ∃ n : Int, v = .int n ∧ 0 ≤ n ∧ n < 2 ^ 63 ∧ Q (.int n) H2) E0
theorem ins_inst {pins : List (Addr × Obj)} {s : Shared} {a C dx : Addr} {fs : List (Str × V)} (I : Inv X pins σ H s) (ea : H a = some (.ins C dx fs)) : ∃ ox od, PySem.W.InstAt s.heap a ox C od := by
  obtain ⟨mA, O, _, _, _, _⟩ := ins_get I.hok ea
  obtain ⟨od, J, _⟩ := O.look
  exact ⟨_, _, J⟩
theorem call_lenO {CX : CXT} {C : Addr} {sp : Sp} (hs : PySem.W.findIn X.K (.ref C) "__len__" = some (some (.ref g))) (hf : PySem.W.isFn X.K (.ref g) = true) (F : FnR X.prog X.w X.K X.mg X.base CX k g sp) (hr : Room (k + 1) X.A) (hx : ∀ (H : Hp) (s : Shared) (e : Value) (s' : Shared), CX X.stack H s E0 e s' → False) : CallR X (.builtin "len") (rLenO C sp) := by
  intro pins s σ H xs us Q I r h
  obtain ⟨a, dx, fs, rfl, ea, q⟩ := h
  obtain ⟨u, rfl, ru⟩ := vals1 r
  obtain rfl : u = Value.ref a := ru
  obtain ⟨ox, od, J⟩ := ins_inst I ea
  obtain ⟨m, hF⟩ := I.fr
  refine PySem.W.len_K hF I.ok.mod.kin J hs hf (wpAny_call (codeAny_mono (F X.A.in1 X.stack s H [.ref a] [.ref a] _ E0 hr.in1 I.env0.in1 (.cons rfl .nil) q) fun rr s' hq => ?_))
  cases rr with
  | error er => exact (hx _ _ _ _ hq).elim
  | ok fl =>
    cases fl with
    | ret u =>
      obtain ⟨v, H', I3, rv, n, rfl, h0, h1, q3⟩ := I.after hq
      obtain ⟨t, rfl⟩ := (show ∃ t, u = Value.int n t from rv)
      exact ⟨⟨h0, h1⟩, .int n, H', I3.tok _, ⟨_, rfl⟩, q3⟩
    | next => exact hq.elim
    | brk => exact hq.elim
    | cont => exact hq.elim
def lenBk (o : Out Dv) : Out Dv := match o with
  | .ok (.p (.int i)) S => if 0 ≤ i ∧ i < 9223372036854775808 then .ok (.p (.int i)) S else .bad
  | _ => .bad
def dLenO (m : List Dv → Sto → Out Dv) (f : Ef) : Ef := fun ρ S => (f ρ S).bind fun d S1 => match insOf S1 d with
  | some _ => lenBk (m [d] S1)
  | none => .bad
theorem de_lenO {m : List Dv → Sto → Out Dv} (hs : PySem.W.findIn X.K (.ref G.uc) "__len__" = some (some (.ref g))) (hf : PySem.W.isFn X.K (.ref g) = true) (F : FnOk X.prog X.w X.K X.mg X.base (L2.CX X.prog X.w) k g fd ps (spE G 1 m)) (hb : Binds X.K fd ps []) (hr : Room (k + 1) X.A)
    (hg : Gl X "len") (hm : X.mg "len" = none) (he : PE X e (tD G W ef)) (h1 : starEach [e] X.env = (false, eval e X.env) :: starEach [] X.env := by rfl) :
    PE X (.Call (.Name "len" p) [e] [] pos) (tD G W (dLenO m ef)) := by
  refine wkE (pe_callB (call_lenO hs hf (raw_E F hb) hr (fun _ _ _ _ => cx_no)) hg hm PySem.boot_len (pa_cons he pa_nil h1) (by decide) (by decide) h1 rfl) fun σ H Q ⟨ρ, B, φ, S, w, en, h⟩ => tD.run w en (WP.fst h) fun d v H1 B1 φ1 S1 x1 w1 en1 r1 q1 => ?_
  split at q1
  · rename_i z hi
    obtain ⟨m0, fs⟩ := z
    obtain ⟨rfl, c0, a, dx, vs, hs, hφ, rfl, hb, hH, fr⟩ := ins_at w1 r1 hi
    refine ⟨a, dx, vs, rfl, hH, B1, φ1, S1, [.hnd m0], w1, ⟨_, _, rfl, r1, rfl⟩, rfl, ?_⟩
    cases qm : m [.hnd m0] S1 with
    | bad => rw [qm] at q1; exact q1.elim
    | exc x S' => rw [qm] at q1; exact q1.elim
    | ok d S' =>
      rw [qm] at q1
      intro H2 B2 φ2 x2 w2 v2 r2
      unfold lenBk at q1
      split at q1
      · rename_i i S'' heq
        cases heq
        split at q1
        · rename_i hb2
          have e := rep_int.mp r2
          exact ⟨i, e, hb2.1, hb2.2, q1 H2 B2 φ2 x2 w2 _ (rep_int.mpr rfl)⟩
        · exact q1.elim
      · exact q1.elim
  · exact q1.elim
/-! xs.pop() -/
def dPop (f : Ef) : Ef := fun ρ S => (f ρ S).bind fun d S1 => match d with
  | .hnd n => match S1[n]? with
    | some (.lst ds) => match ds[ds.length - 1]? with
      | some y => .ok (.p y) (S1.set n (.lst ds.dropLast))
      | none => .bad
    | _ => .bad
  | _ => .bad
theorem reps_dropLast : ∀ {ds : List D} {vs : List V}, Reps G B ds vs → Reps G B ds.dropLast vs.dropLast
  | [], _, h => by unfold Reps at h; subst h; exact Reps.nil
  | [d], _, h => by
    unfold Reps at h
    obtain ⟨x, r, rfl, h1, h2⟩ := h
    unfold Reps at h2
    subst h2
    exact Reps.nil
  | d :: d' :: ds, _, h => by
    unfold Reps at h
    obtain ⟨x, r, rfl, h1, h2⟩ := h
    have h3 := h2
    unfold Reps at h3
    obtain ⟨y, t, rfl, _, _⟩ := h3
    rw [List.dropLast_cons_cons, List.dropLast_cons_cons]
    exact Reps.cons h1 (reps_dropLast h2)
theorem de_pop (ho : PE X o (tD G W ef)) (hbase : attributeBase o "pop" X.env (eval o X.env) = eval o X.env := by rfl) (hline : (apos.endLine == pos.line) = true := by rfl) :
    PE X (.Call (.Attribute o "pop" apos) [] [] pos) (tD G W (dPop ef)) := by
  refine wkE (pe_bm0 PySem.F.plainAttrs_list PySem.F.slot_list_pop PySem.F.type_list_pop mt_pop ho hbase hline) fun σ H Q ⟨ρ, B, φ, S, w, en, h⟩ => tD.run w en (WP.fst h) fun d v H1 B1 φ1 S1 x1 w1 en1 r1 q1 => ?_
  split at q1
  · rename_i m
    split at q1
    · rename_i ds hs
      split at q1
      · rename_i y hy
        have r1 : ∃ a, φ1[m]? = some a ∧ v = .ref a := r1
        obtain ⟨a, hφ, rfl⟩ := r1
        obtain ⟨hb, xs, hx, rr⟩ : CellR G H1 B1 φ1 a (.lst ds) := w1.cell m a _ hφ hs
        obtain ⟨z, hz, rz⟩ := rr.get hy
        refine ⟨.inl ⟨rfl, xs, SqL.of hx⟩, a, xs, z, rfl, rfl, hx, by rw [← rr.length]; exact hz, ?_⟩
        exact q1 _ B1 φ1 (Xt.set hφ) (w1.set hφ hs (fun z => nomatch z) hb ⟨hb, _, upd_same, reps_dropLast rr⟩ rfl) _ rz
      · exact q1.elim
    · exact q1.elim
  · exact q1.elim
end
/-! ### x += e, o.f += e -/
section
variable {X : Cx} {G : Gx} {W : WX} {ef eg : Ef} {e o : Expr} {pos pos' : Pos} {fn : Str}
def sAug (i : Nat) (ef : Ef) : Sf := fun ρ S => match ρ[i]? with
  | some (some (.p (.int a))) => (ef ρ S).toS ρ fun d S1 => match d with
    | .p (.int b) => .ok (.nx (ρ.set i (some (.p (.int (a + b)))))) S1
    | _ => .bad
  | _ => .bad
theorem dp_aug {i : Nat} {x : Str} (hN : X.N.Nodup) (hi : X.N[i]? = some x) (hx : Loc X.env.scope x) (he : PE X e (tD G W ef)) (hf : X.fn x = true ∨ X.env.scope.names.lookup x = some .local := by first | exact .inl rfl | exact .inr rfl | assumption) :
    PS X (.AugAssign (.Name x pos') .Add e pos) (tS G W (sAug i ef)) := by
  refine wkS (ps_aug hN hi hx he ip_add hf) fun D σ H ⟨ρ, B, φ, S, w, en, h⟩ => ?_
  unfold sAug at h
  split at h
  · rename_i a ha
    obtain ⟨v, hv, rv⟩ := en.at_ i _ ha
    refine ⟨v, hv, ?_⟩
    refine tD.run w en (WPS.fst en h) fun d u H1 B1 φ1 S1 x1 w1 en1 r1 q1 => ?_
    split at q1
    · rename_i b
      exact ⟨a, b, rep_int.mp rv, rep_int.mp r1, WPS.here w1 q1 _ (en1.set i (rep_int.mpr rfl))⟩
    · exact q1.elim
  · exact h.elim
def sAugF (fn : Str) (eo ev : Ef) : Sf := fun ρ S => (eo ρ S).toS ρ fun o S1 => match insOf S1 o with
  | some (n, fs) => match fs.lookup fn with
    | some (.p (.int a)) => (ev ρ S1).toS ρ fun d S2 => match d, insOf S2 o with
      | .p (.int b), some (_, fs2) => if fs2.length < 1000 then .ok (.nx ρ) (S2.set n (.ins 0 (putD fn (.p (.int (a + b))) fs2))) else .bad
      | _, _ => .bad
    | _ => .bad
  | none => .bad
theorem dp_augF (c : Cls X.K G.uc) (na : NoAttr X.K G.uc fn) (ho : PE X o (tD G W ef)) (he : PE X e (tD G W eg)) : PS X (.AugAssign (.Attribute o fn pos') .Add e pos) (tS G W (sAugF fn ef eg)) := by
  refine wkS (ps_fldaug ho he in_add) fun D σ H ⟨ρ, B, φ, S, w, en, h⟩ => tD.run w en (WPS.fst en h) fun ov v H1 B1 φ1 S1 x1 w1 en1 r1 q1 => ?_
  split at q1
  · rename_i m fs hi
    split at q1
    · rename_i a ha
      obtain ⟨rfl, c0, p, dx, vs, hs, hφ, rfl, hb, hH, fr⟩ := ins_at w1 r1 hi
      obtain ⟨y, hy, ry⟩ := fr.get ha
      refine ⟨p, G.uc, dx, vs, y, rfl, hH, c, na, hy, ?_⟩
      refine tD.run w1 en1 (WPS.fst en1 q1) fun d u H2 B2 φ2 S2 x2 w2 en2 r2 q2 => ?_
      split at q2
      · rename_i b m2 fs2 hi2
        split at q2
        · rename_i hl
          obtain ⟨e1, c1, p2, dx2, vs2, hs2, hφ2, e2, hb2, hH2, fr2⟩ := ins_at w2 (RepV.mono x2.b x2.p _ r1) hi2
          cases e1
          cases e2
          refine ⟨a, b, rep_int.mp ry, rep_int.mp r2, dx2, vs2, hH2, by rw [fr2.len]; exact hl, ?_⟩
          have fr' := fr2.put (f := fn) (y := V.int (a + b)) (d := .p (.int (a + b))) (rep_int.mpr rfl)
          exact q2 _ B2 φ2 (Xt.set hφ2) (w2.set hφ2 hs2 (fun z => nomatch z) hb2 ⟨hb2, dx2, _, upd_same, fr'.1, fr'.2⟩ rfl) σ en2
        · exact q2.elim
      · exact q2.elim
    · exact q1.elim
  · exact q1.elim
end
/-! ### sorted(pairs of numbers) -/
abbrev Pr := Int × Int
def insP (x : Pr) : List Pr → List Pr
  | [] => [x]
  | y :: r => if SrtO.lexB y x = false then x :: y :: r else y :: insP x r
def srtP : List Pr → List Pr
  | [] => []
  | x :: r => insP x (srtP r)
theorem insP_perm (x : Pr) : ∀ l : List Pr, (insP x l).Perm (x :: l)
  | [] => .refl _
  | y :: r => by
    unfold insP
    split
    · exact .refl _
    · exact ((insP_perm x r).cons y).trans (.swap x y r)
theorem srtP_perm : ∀ l : List Pr, (srtP l).Perm l
  | [] => .refl _
  | x :: r => by
    unfold srtP
    exact (insP_perm x _).trans ((srtP_perm r).cons x)
def leP (p q : Pr) : Prop := SrtO.lexB q p = false
theorem leP_iff {p q : Pr} : leP p q ↔ p.1 < q.1 ∨ (p.1 = q.1 ∧ p.2 ≤ q.2) := by
  unfold leP
  rw [SrtO.lexB_no]
  omega
theorem leP_refl (p : Pr) : leP p p := leP_iff.mpr (.inr ⟨rfl, Int.le_refl _⟩)
theorem leP_trans {p q r : Pr} (h : leP p q) (h' : leP q r) : leP p r := by
  rw [leP_iff] at h h' ⊢
  omega
theorem leP_anti {p q : Pr} (h : leP p q) (h' : leP q p) : p = q := by
  rw [leP_iff] at h h'
  exact Prod.ext (by omega) (by omega)
theorem insP_srt (x : Pr) : ∀ {l : List Pr}, l.Pairwise leP → (insP x l).Pairwise leP
  | [], _ => by unfold insP; exact List.pairwise_singleton _ _
  | y :: r, h => by
    obtain ⟨h1, h2⟩ := List.pairwise_cons.mp h
    unfold insP
    split
    · rename_i hx
      refine List.pairwise_cons.mpr ⟨fun z hz => ?_, h⟩
      rcases List.mem_cons.mp hz with e | e
      · rw [e]; exact hx
      · exact leP_trans (q := y) hx (h1 z e)
    · rename_i hx
      refine List.pairwise_cons.mpr ⟨fun z hz => ?_, insP_srt x h2⟩
      rcases List.mem_cons.mp ((insP_perm x r).mem_iff.mp hz) with e | e
      · rw [e, leP_iff]
        have hx : SrtO.lexB y x = true := by simpa using hx
        rw [SrtO.lexB_iff] at hx
        omega
      · exact h1 z e
theorem srtP_srt : ∀ l : List Pr, (srtP l).Pairwise leP
  | [] => .nil
  | x :: r => by unfold srtP; exact insP_srt x (srtP_srt r)
theorem srtP_one : ∀ {a b : List Pr}, a.Perm b → a.Pairwise leP → b.Pairwise leP → a = b
  | [], b, p, _, _ => (List.Perm.nil_eq p)
  | x :: r, b, p, ha, hb => by
    cases b with
    | nil => cases List.Perm.eq_nil p
    | cons y t =>
      obtain ⟨a1, a2⟩ := List.pairwise_cons.mp ha
      obtain ⟨b1, b2⟩ := List.pairwise_cons.mp hb
      have e : x = y := by
        have h1 : leP x y := by
          rcases List.mem_cons.mp (p.mem_iff.mpr (List.mem_cons_self (a := y) (l := t))) with e | e
          · rw [e]; exact leP_refl _
          · exact a1 y e
        have h2 : leP y x := by
          rcases List.mem_cons.mp (p.mem_iff.mp (List.mem_cons_self (a := x) (l := r))) with e | e
          · rw [e]; exact leP_refl _
          · exact b1 x e
        exact leP_anti h1 h2
      subst e
      rw [srtP_one (List.Perm.cons_inv p) a2 b2]
/-- sorted(xs), xs a list of pairs as they stand -/
def rSortedPT (K : PySem.W.Frag) : List V → Hp → VK → Prop := fun vs H Q => ∃ (a : Addr) (zs : List (V × Pr)), vs = [V.ref a] ∧ SqL K H a (zs.map (·.1)) ∧ (∀ z ∈ zs, ∃ t, z.1 = V.ref t ∧ SqT K H t [.int z.2.1, .int z.2.2]) ∧
  ∀ (zs' : List (V × Pr)) p, (∀ z ∈ zs', z ∈ zs) → zs'.map (·.2) = srtP (zs.map (·.2)) → H p = none → Q (.ref p) (upd H p (.lst (zs'.map (·.1))))
section
variable {X : Cx} {G : Gx} {W : WX}
open Classical in
theorem cr_sortedPT : CallR X (.builtin "sorted") (rSortedPT X.K) := by
  intro pins s σ H vs us Q I r h
  obtain ⟨a, zs, rfl, hs, hx, q⟩ := h
  obtain ⟨its, rv, hl, hz⟩ := I.list hs
  obtain ⟨u, rfl, ru⟩ := vals1 r
  obtain rfl : u = Value.ref a := ru
  let k : V → Pr := fun v => if h : ∃ p : Pr, ∃ t, v = V.ref t ∧ SqT X.K H t [.int p.1, .int p.2] then h.choose else (0, 0)
  have hk : ∀ {v : V} {p : Pr} {t : Addr}, v = V.ref t → SqT X.K H t [.int p.1, .int p.2] → k v = p := fun {v p t} e hp => by
    have hh : ∃ p : Pr, ∃ t, v = V.ref t ∧ SqT X.K H t [.int p.1, .int p.2] := ⟨p, t, e, hp⟩
    have e0 : k v = hh.choose := dif_pos hh
    obtain ⟨t', e1, h1⟩ := hh.choose_spec
    rw [e] at e1
    cases e1
    have e2 := I.tuple_inj h1 hp
    simp only [List.cons.injEq, V.int.injEq, and_true] at e2
    rw [e0]
    exact Prod.ext e2.1 e2.2
  obtain ⟨e1, e2⟩ := refs_back rv fun x m => by
    obtain ⟨z, hz1, rfl⟩ := List.mem_map.mp m
    obtain ⟨t, e, _⟩ := hx z hz1
    exact ⟨t, e⟩
  refine SrtO.sorted_pairsO (k := fun u => k (backV u)) hl.isList (by rw [← rv.length]; exact hz) (fun v hv => ?_) fun h' d out h1 h2 kp hd hn => ?_
  · obtain ⟨t, rfl⟩ := e2 v hv
    have hm : V.ref t ∈ zs.map (·.1) := by rw [e1]; exact List.mem_map.mpr ⟨_, hv, rfl⟩
    obtain ⟨z, hz1, ez⟩ := List.mem_map.mp hm
    obtain ⟨t', e, ht⟩ := hx z hz1
    rw [ez] at e
    cases e
    have ek : k (backV (Value.ref t)) = z.2 := hk rfl ht
    obtain ⟨its2, r2, ⟨o, ho, hc, n, hd⟩, hz2⟩ := I.tuple ht
    obtain ⟨u1, u2, rfl, ri, rj⟩ := vals2 r2
    obtain ⟨t1, rfl⟩ := ri
    obtain ⟨t2, rfl⟩ := rj
    show ∃ a o t_1 u n, _ = Value.ref a ∧ s.heap.get? a = some o ∧ o.cls = .type "tuple" ∧ o.data = .seq #[.int (k (backV (Value.ref t))).1 t_1, .int (k (backV (Value.ref t))).2 u] n
    rw [ek]
    exact ⟨t, o, t1, t2, n, rfl, ho, hc, hd⟩
  · have h3 : ∀ u ∈ out, ∃ a, u = Value.ref a := fun u hu => e2 u (h2.perm.mem_iff.mp hu)
    obtain ⟨n, hn⟩ := hn
    have hb : SrtO.Stb (ltP k) (out.map backV) (zs.map (·.1)) := by
      rw [e1]
      exact SrtO.Stb.map (ltP_swo k) backV h2
    have hsrt : SrtO.Srtd (ltP k) (out.map backV) := SrtO.srtd_map h1
    have hlen : (out.map backV).length ≤ sizeLine := by
      rw [hb.len]
      exact hz
    have hmem : ∀ y ∈ out.map backV, (y, k y) ∈ zs := fun y hy => by
      have hy' := hb.perm.mem_iff.mp hy
      obtain ⟨z, hz1, ez⟩ := List.mem_map.mp hy'
      obtain ⟨t', e, ht⟩ := hx z hz1
      have := hk (ez.symm.trans e) ht
      rw [this, ← ez]
      exact hz1
    have hq := q ((out.map backV).map fun y => (y, k y)) d (fun z hz1 => by
      obtain ⟨y, hy, rfl⟩ := List.mem_map.mp hz1
      exact hmem y hy) (by
        rw [List.map_map]
        refine srtP_one ?_ ?_ (srtP_srt _)
        · have p1 : ((out.map backV).map k).Perm ((zs.map (·.1)).map k) := hb.perm.map k
          have e3 : (zs.map (·.1)).map k = zs.map (·.2) := by
            rw [List.map_map]
            refine List.map_congr_left fun z hz1 => ?_
            obtain ⟨t', e, ht⟩ := hx z hz1
            exact hk e ht
          rw [e3] at p1
          exact p1.trans (srtP_perm _).symm
        · refine List.pairwise_map.mpr ?_
          exact hsrt) (I.hok.fresh hd)
    have e4 : ((out.map backV).map fun y => (y, k y)).map (·.1) = out.map backV := by
      rw [List.map_map]
      exact List.map_id _
    rw [e4] at hq
    exact ⟨.ref d, upd H d (.lst (out.map backV)), I.laid (t' := s.toks) kp hd ⟨hlen, out, n, vals_back h3, hn⟩, rfl, hq⟩
def prsOf : List D → Option (List Pr)
  | [] => some []
  | .tup [.int i, .int j] :: r => (prsOf r).map ((i, j) :: ·)
  | _ :: _ => none
def prD (p : Pr) : D := .tup [.int p.1, .int p.2]
theorem prs_at {B H : Hp} (sb : Same B H) : ∀ {ds : List D} {ps : List Pr} {vs : List V}, prsOf ds = some ps → Reps G B ds vs → ∃ zs : List (V × Pr), zs.map (·.1) = vs ∧ zs.map (·.2) = ps ∧ ∀ z ∈ zs, Rep G B (prD z.2) z.1 ∧ ∃ t, z.1 = V.ref t ∧ SqT G.K H t [.int z.2.1, .int z.2.2]
  | [], ps, vs, h, r => by
    cases h
    unfold Reps at r
    subst r
    exact ⟨[], rfl, rfl, fun _ z => nomatch z⟩
  | d :: ds, ps, vs, h, r => by
    unfold Reps at r
    obtain ⟨x, t, rfl, r1, r2⟩ := r
    unfold prsOf at h
    split at h
    · rename_i he
      cases he
    · rename_i i j r0 he
      cases he
      cases e : prsOf ds with
      | none => rw [e] at h; cases h
      | some qs =>
        rw [e] at h
        cases h
        obtain ⟨zs, e1, e2, e3⟩ := prs_at sb e r2
        refine ⟨(x, (i, j)) :: zs, by rw [List.map_cons, e1], by rw [List.map_cons, e2], fun z hz => ?_⟩
        rcases List.mem_cons.mp hz with rfl | hz
        · refine ⟨r1, ?_⟩
          have r1' := r1
          unfold Rep at r1'
          obtain ⟨a, xs, rfl, s1, rs⟩ := r1'
          unfold Reps at rs
          obtain ⟨y1, t1, rfl, p1, rs⟩ := rs
          unfold Reps at rs
          obtain ⟨y2, t2, rfl, p2, rs⟩ := rs
          unfold Reps at rs
          subst rs
          unfold Rep at p1 p2
          subst p1 p2
          exact ⟨a, rfl, sqT_mono sb s1⟩
        · exact e3 z hz
    · cases h
def nSortPr : OpN := fun xs S => match xs with
  | [x] => match vw S x with
    | some ds => match prsOf ds with
      | some ps => .ok (.p (.lst ((srtP ps).map prD))) S
      | none => .bad
    | none => .bad
  | _ => .bad
theorem nSortPr_ok : OkN G W (rSortedPT G.K) nSortPr := by
  intro H B φ S σ xs vs Q w r h
  unfold nSortPr at h
  split at h
  · split at h
    · rename_i ds hs
      split at h
      · rename_i ps hb
        obtain ⟨v, rfl, rv⟩ := rvs1 r
        obtain ⟨a, ys, rfl, s1, q1⟩ := vw_at w rv hs
        obtain ⟨zs, e1, e2, e3⟩ := prs_at w.sub hb q1
        refine ⟨a, zs, rfl, by rw [e1]; exact SqL.of s1, fun z hz => (e3 z hz).2, fun zs' l hm he hl => ?_⟩
        rw [e2] at he
        have rr : Reps G B ((srtP ps).map prD) (zs'.map (·.1)) := by
          rw [← he, List.map_map]
          clear he
          induction zs' with
          | nil => exact Reps.nil
          | cons z t ih => exact Reps.cons (e3 z (hm z List.mem_cons_self)).1 (ih fun y hy => hm y (List.mem_cons_of_mem _ hy))
        exact h _ _ _ (Xt.alloc w hl) (w.alloc hl) _ (rep_lst.mpr ⟨l, _, rfl, upd_same, Reps.mono (same_upd' (w.bfree hl)) _ rr⟩)
      · exact h.elim
    · exact h.elim
  · exact h.elim
end
/-! ### in, not in: a tuple of deep items -/
section
variable {X : Cx} {G : Gx} {W : WX}
def rInT (K : PySem.W.Frag) : R2 := fun x y H Q => ∃ d ds, Dp K H x d ∧ Dp K H y (.tuple ds) ∧ SeqAt.shaped d = true ∧ SeqAt.shaped (.tuple ds) = true ∧ Q (.bl (ds.any fun z => PyData.eqv z d)) H
def rNotInT (K : PySem.W.Frag) : R2 := fun x y H Q => ∃ d ds, Dp K H x d ∧ Dp K H y (.tuple ds) ∧ SeqAt.shaped d = true ∧ SeqAt.shaped (.tuple ds) = true ∧ Q (.bl (!ds.any fun z => PyData.eqv z d)) H
theorem op_inT (hu : X.A.units + 65 < cLine) : OpR X (compareOp .In) (rInT X.K) := by
  intro pins s σ H x y v u Q I rx ry h
  obtain ⟨d, ds, hd, he, sd, se, q⟩ := h
  obtain ⟨as, r1⟩ := Dp.reads I d x v hd rx
  obtain ⟨bs, r2⟩ := Dp.reads I (.tuple ds) y u he ry
  exact SeqAt.in_tuple_reads r2 r1 (SeqAt.canLay_of_shaped se) (SeqAt.canLay_of_shaped sd) (room_in_shaped sd hu) ⟨.bl _, H, I, rfl, q⟩
theorem op_notInT (hu : X.A.units + 65 < cLine) : OpR X (compareOp .NotIn) (rNotInT X.K) := by
  intro pins s σ H x y v u Q I rx ry h
  obtain ⟨d, ds, hd, he, sd, se, q⟩ := h
  obtain ⟨as, r1⟩ := Dp.reads I d x v hd rx
  obtain ⟨bs, r2⟩ := Dp.reads I (.tuple ds) y u he ry
  exact SeqAt.notIn_tuple_reads r2 r1 (SeqAt.canLay_of_shaped se) (SeqAt.canLay_of_shaped sd) (room_in_shaped sd hu) ⟨.bl _, H, I, rfl, q⟩
def oInT (neg : Bool) : Op2 := fun x y S => match vPy S x, vPy S y with
  | some d, some (.tuple ds) => if SeqAt.shaped d = true ∧ SeqAt.shaped (.tuple ds) = true then .ok (.p (.bl (if neg then !ds.any fun z => PyData.eqv z d else ds.any fun z => PyData.eqv z d))) S else .bad
  | _, _ => .bad
theorem oInT_ok : Ok2 G W (rInT G.K) (oInT false) := by
  intro H B φ S σ x y v u Q w r1 r2 h
  unfold oInT at h
  split at h
  · rename_i d ds ha hb
    split at h
    · rename_i hs
      exact ⟨d, ds, vPy_dp w r1 ha, vPy_dp w r2 hb, hs.1, hs.2, h H B φ Xt.refl w _ (rep_bl.mpr rfl)⟩
    · exact h.elim
  · exact h.elim
theorem oNotInT_ok : Ok2 G W (rNotInT G.K) (oInT true) := by
  intro H B φ S σ x y v u Q w r1 r2 h
  unfold oInT at h
  split at h
  · rename_i d ds ha hb
    split at h
    · rename_i hs
      exact ⟨d, ds, vPy_dp w r1 ha, vPy_dp w r2 hb, hs.1, hs.2, h H B φ Xt.refl w _ (rep_bl.mpr rfl)⟩
    · exact h.elim
  · exact h.elim
end
/-! ### [f, g, ..][e](), defs without parameters -/
section
variable {X : Cx} {G : Gx} {W : WX} {ef : Ef} {e : Expr} {es : List Expr} {p1 p2 pos : Pos} {k : Nat}
def tCall0 (S : Addr → Option Sp) (tf : TE) (E : L2.St → XK) : TE := fun σ H Q => tf σ H fun v H1 => ∃ f sp, v = V.ref f ∧ S f = some sp ∧ sp [] H1 Q (E σ)
theorem pe_callF0 {fe : Expr} {tf : TE} {S : Addr → Option Sp} {E : L2.St → XK} (hf : PE X fe tf) (A : ∀ f sp, S f = some sp → PySem.W.keepIn X.K (.ref f) = true ∧ ∃ fd ps, FnOk X.prog X.w X.K X.mg X.base (L2.CX X.prog X.w) k f fd ps sp ∧ Binds X.K fd ps []) (hr : Room k X.A) (hx : ∀ σ, PassesAt (L2.CX X.prog X.w) X σ (E σ))
    (ht : eval (.Call fe [] [] pos) X.env = (do callWith pos (← eval fe X.env) [] (backTo pos (starEach [] X.env)) (backToKw pos (keywordEach [] X.env))) := by rfl) : PE X (.Call fe [] [] pos) (tCall0 S tf E) := by
  refine ⟨fun pins s σ H Q I h => ?_⟩
  refine Call_ (thn (hf.run pins s σ H _ I h) fun u s1 ⟨y, H1, I1, ry, f, sp, ey, hS, q⟩ => ?_) ht
  subst ey
  obtain rfl : u = Value.ref f := ry
  obtain ⟨hk, fd, ps, F, hb⟩ := A f sp hS
  exact PySem.W.callWith_K0 I1.kIn hk (run_fnS (us := []) F hr hb (hx σ) I1 .nil q)
/-- names of defs, as a display's items -/
def tRefs (fs : List Addr) : TA := fun _ H Q => Q (fs.map V.ref) H
theorem pa_refs_nil : PA X [] (tRefs []) := ⟨fun pos pins s σ H Q I h => pa_nil.run pos pins s σ H Q I h⟩
theorem pa_refs {x : Str} {p : Pos} {f : Addr} {fs : List Addr} (hg : Gl X x) (hm : X.mg x = some (.ref f)) (hr : PA X es (tRefs fs)) (hd : (x == ("__debug__" : Str)) = false := by decide) (hs : starEach (.Name x p :: es) X.env = (false, eval (.Name x p) X.env) :: starEach es X.env := by rfl) :
    PA X (.Name x p :: es) (tRefs (f :: fs)) :=
  ⟨fun pos pins s σ H Q I h => (pa_cons (pe_glob hg hm (v := .ref f) rfl hd) hr hs).run pos pins s σ H Q I h⟩
def dPick (ms : List PO) (ef : Ef) : Ef := fun ρ S => (ef ρ S).bind fun d S1 => match d with
  | .p (.int i) => match atI ms i with
    | some (.ok d) => .ok (.p d) S1
    | _ => .bad
  | _ => .bad
def POs (G : Gx) : List (Addr × PO) → Addr → Option Sp
  | [], _ => none
  | (g, o) :: r, f => if f = g then some (spP G 0 fun _ => o) else POs G r f
theorem POs_at {f : Addr} {o : PO} : ∀ {l : List (Addr × PO)}, (l.map (·.1)).Nodup → (f, o) ∈ l → POs G l f = some (spP G 0 fun _ => o)
  | [], _, h => nomatch h
  | (g, o') :: r, hn, h => by
    rw [List.map_cons, List.nodup_cons] at hn
    unfold POs
    rcases List.mem_cons.mp h with e | e
    · cases e
      rw [if_pos rfl]
    · have : f ≠ g := fun z => hn.1 (by rw [← z]; exact List.mem_map.mpr ⟨_, e, rfl⟩)
      rw [if_neg this]
      exact POs_at hn.2 e
theorem POs_mem {f : Addr} {sp : Sp} : ∀ {l : List (Addr × PO)}, POs G l f = some sp → ∃ o, (f, o) ∈ l ∧ sp = spP G 0 fun _ => o
  | [], h => by cases h
  | (g, o') :: r, h => by
    unfold POs at h
    split at h
    · rename_i e
      cases h
      exact ⟨o', by rw [e]; exact List.mem_cons_self, rfl⟩
    · obtain ⟨o, h1, h2⟩ := POs_mem h
      exact ⟨o, List.mem_cons_of_mem _ h1, h2⟩
theorem pick_sp {m : List D → PO} {vs : List V} {H : Hp} {Q : VK} {E : XK} (h : spP G 0 (fun _ => m []) vs H Q E) : spP G 0 m vs H Q E := by
  obtain ⟨B, ds, h1, h2, h3, h4⟩ := h
  have e : ds = [] := List.length_eq_zero_iff.mp h3
  subst e
  exact ⟨B, [], h1, h2, h3, h4⟩
theorem de_pick {l : List (Addr × PO)} (hK : X.K = G.K) (tk : Takes X W) (hn : (l.map (·.1)).Nodup) (hl : l.length ≤ 1000) (ha : PA X es (tRefs (l.map (·.1)))) (hi : PE X e (tD G W ef)) (hs : PlainIx e)
    (A : ∀ f o, (f, o) ∈ l → PySem.W.keepIn X.K (.ref f) = true ∧ ∃ fd ps, FnOk X.prog X.w X.K X.mg X.base (L2.CX X.prog X.w) k f fd ps (spP G 0 fun _ => o) ∧ Binds X.K fd ps []) (hr : Room k X.A)
    (ht : eval (.Call (.Subscript (.List es p1) e p2) [] [] pos) X.env = (do callWith pos (← eval (.Subscript (.List es p1) e p2) X.env) [] (backTo pos (starEach [] X.env)) (backToKw pos (keywordEach [] X.env))) := by rfl) :
    PE X (.Call (.Subscript (.List es p1) e p2) [] [] pos) (tD G W (dPick (l.map (·.2)) ef)) := by
  refine wkE (pe_callF0 (S := POs G l) (E := WE W) (pe_ix ix_list (pe_lst ha) hi hs) (fun f sp h => by
    obtain ⟨o, h1, rfl⟩ := POs_mem h
    exact A f o h1) hr (passAt tk) ht) fun σ H Q ⟨ρ, B, φ, S, w, en, h⟩ => ?_
  refine ⟨by rw [List.length_map, List.length_map, sizeLine_eq]; omega, fun p hp => ?_⟩
  have w1 := w.hide (o := .lst ((l.map (·.1)).map V.ref)) hp
  have x1 : Xt H B φ (upd H p (.lst ((l.map (·.1)).map V.ref))) B φ := Xt.hide w hp
  show tD G W ef σ _ _
  refine tD.run w1 (en.mono x1.b x1.p) (WP.fst (WP.rebase x1 h)) fun d v H2 B2 φ2 S2 x2 w2 en2 r2 q2 => ?_
  split at q2
  · rename_i i
    split at q2
    · rename_i d hd
      obtain ⟨h2, hb2, hf2⟩ := x2.out p _ upd_same (w.bfree hp) (w.fresh hp)
      unfold atI at hd
      rw [List.length_map] at hd
      cases q : ixN l.length i with
      | none => rw [q] at hd; cases hd
      | some j =>
        rw [q] at hd
        have hd : (l.map (·.2))[j]? = some (PO.ok d) := hd
        rw [List.getElem?_map, Option.map_eq_some_iff] at hd
        obtain ⟨z, hz, ez⟩ := hd
        obtain ⟨f, o⟩ := z
        have ez : o = PO.ok d := ez
        subst ez
        have hj : atI ((l.map (·.1)).map V.ref) i = some (V.ref f) := by
          unfold atI
          rw [List.length_map, List.length_map, q]
          show ((l.map (·.1)).map V.ref)[j]? = _
          rw [List.getElem?_map, List.getElem?_map, hz]; rfl
        refine ⟨p, _, i, V.ref f, rfl, rep_int.mp r2, SqL.of h2, hj, f, _, rfl, POs_at hn (List.mem_of_getElem? hz), ?_⟩
        refine ⟨B2, [], w2.sub, Reps.nil, rfl, fun H' B' v' xx s' r' => ?_⟩
        obtain ⟨w3, x3⟩ := w2.call xx s'
        exact q2 H' B' φ2 x3 w3 v' r'
    · exact q2.elim
  · exact q2.elim
end
end DL

set_option maxHeartbeats 4000000
namespace DL
open PySem L2
open PySem.Spec PyProof.Rows
/-! ### texts -/
section
variable {X : Cx} {G : Gx} {W : WX} {e o : Expr} {ef eg : Ef} {pos apos p : Pos} {H B : Hp} {φ : List Addr} {S : Sto} {σ : L2.St} {ρ : Nv}
def nStr : OpN := fun xs S => match xs with
  | [.p (.int i)] => if i.natAbs < wid then .ok (.p (.str (Str.ofString (toString i)))) S else .bad
  | [.p (.str x)] => .ok (.p (.str x)) S
  | _ => .bad
theorem call_strX : CallR X (.type "str") (fun xs H Q => (∃ i : Int, xs = [.int i] ∧ i.natAbs.log2 < 1920 ∧ Q (.str (Str.ofString (toString i))) H) ∨ ∃ a, xs = [.str a] ∧ Q (.str a) H) :=
  fun pins s σ H xs us Q I r h => h.elim (call_str_int pins s σ H xs us Q I r) (SkE.call_str_str pins s σ H xs us Q I r)
theorem nStr_ok : OkN G W (fun xs H Q => (∃ i : Int, xs = [.int i] ∧ i.natAbs.log2 < 1920 ∧ Q (.str (Str.ofString (toString i))) H) ∨ ∃ a, xs = [.str a] ∧ Q (.str a) H) nStr := by
  intro H B φ S σ xs vs Q w r h
  unfold nStr at h
  split at h
  · split at h
    · rename_i i hi
      obtain ⟨v, rfl, rv⟩ := rvs1 r
      refine .inl ⟨i, by rw [rep_int.mp rv], ?_, h H B φ Xt.refl w _ (rep_str.mpr rfl)⟩
      by_cases z : i.natAbs = 0
      · rw [z]; decide
      · have : i.natAbs < 2 ^ 250 := hi
        have := (Nat.log2_lt z).mpr this
        omega
    · exact h.elim
  · obtain ⟨v, rfl, rv⟩ := rvs1 r
    exact .inr ⟨_, by rw [rep_str.mp rv], h H B φ Xt.refl w _ (rep_str.mpr rfl)⟩
  · exact h.elim
/-- int(text) -/
def nIntS : OpN := fun xs S => match xs with
  | [.p (.str a)] => match PySem.intText? a with
    | some n => if a.length ≤ 640 then .ok (.p (.int n)) S else .bad
    | none => .bad
  | _ => .bad
theorem nIntS_ok : OkN G W (fun xs H Q => ∃ a n, xs = [.str a] ∧ PySem.intText? a = some n ∧ a.length ≤ 640 ∧ Q (.int n) H) nIntS := by
  intro H B φ S σ xs vs Q w r h
  unfold nIntS at h
  split at h
  · split at h
    · rename_i n hn
      split at h
      · rename_i hl
        obtain ⟨v, rfl, rv⟩ := rvs1 r
        exact ⟨_, n, by rw [rep_str.mp rv], hn, hl, h H B φ Xt.refl w _ (rep_int.mpr rfl)⟩
      · exact h.elim
    · exact h.elim
  · exact h.elim
/-- len(text) -/
def nLenS : OpN := fun xs S => match xs with
  | [.p (.str a)] => if a.length ≤ big then .ok (.p (.int a.length)) S else .bad
  | _ => .bad
theorem nLenS_ok : OkN G W (fun xs H Q => ∃ z : Str, xs = [.str z] ∧ z.length ≤ sizeLine ∧ Q (.int z.length) H) nLenS := by
  intro H B φ S σ xs vs Q w r h
  unfold nLenS at h
  split at h
  · split at h
    · rename_i hl
      obtain ⟨v, rfl, rv⟩ := rvs1 r
      exact ⟨_, by rw [rep_str.mp rv], by rw [← big_eq]; exact hl, h H B φ Xt.refl w _ (rep_int.mpr rfl)⟩
    · exact h.elim
  · exact h.elim
/-- text * n -/
def oMulS : Op2 := fun x y S => match x, y with
  | .p (.str a), .p (.int n) => if n < 1000 ∧ 0 ≤ n ∧ a.length ≤ 1000 then .ok (.p (.str (Txt.mul a n))) S else .bad
  | _, _ => .bad
abbrev rMulS : R2 := fun x y H Q => ∃ a n, x = .str a ∧ y = .int n ∧ MulOk a n ∧ Q (.str (Txt.mul a n)) H
theorem op_mulS : OpR X (binaryOp .Mult) rMulS := by
  intro pins s σ H x y v u Q I rx ry h
  obtain ⟨a, n, rfl, rfl, hm, q⟩ := h
  obtain ⟨t, rfl⟩ := (show ∃ t, v = Value.str a t from rx)
  obtain ⟨t', rfl⟩ := (show ∃ t', u = Value.int n t' from ry)
  exact PySem.SB.mul hm fun t2 k => ⟨.str (Txt.mul a n), H, I.tok _, ⟨_, rfl⟩, q⟩
theorem oMulS_ok : Ok2 G W rMulS oMulS := by
  intro H B φ S σ x y v u Q w r1 r2 h
  unfold oMulS at h
  split at h
  · split at h
    · rename_i a n hl
      refine ⟨a, n, rep_str.mp r1, rep_int.mp r2, ⟨?_, fun h1 _ => ?_, fun h1 _ => ?_⟩, h H B φ Xt.refl w _ (rep_str.mpr rfl)⟩
      · rw [decide_eq_false (by omega), decide_eq_false (by omega)]; rfl
      · have h2 : (1000 : Int) ≤ (2 ^ 63 - 1) / n := by
          rw [Int.le_ediv_iff_mul_le (by omega)]
          have : (1000 : Int) * n ≤ 1000 * 1000 := by omega
          omega
        omega
      · unfold Builtin.Str.tooLong
        rw [sizeLine_eq]
        refine decide_eq_false fun q => ?_
        have h3 : n.toNat ≤ 1000 := by omega
        have : a.length * n.toNat ≤ 1000 * 1000 := Nat.mul_le_mul hl.2.2 h3
        omega
    · exact h.elim
  · exact h.elim
/-- text[i] -/
def oIxS : Op2 := fun x y S => match x, y with
  | .p (.str z), .p (.int i) => if 0 ≤ i ∧ i < 1000000 then match z.cps[i.toNat]? with
    | some c => .ok (.p (.str ⟨#[c]⟩)) S
    | none => .bad
    else .bad
  | _, _ => .bad
theorem de_ixS {a b : Expr} (ha : PE X a (tD G W ef)) (hb : PE X b (tD G W eg)) (hs : PlainIxT b) : PE X (.Subscript a b pos) (tD G W (dBin oIxS ef eg)) := by
  refine wkE (pe_item_str ha hb hs) fun σ H Q ⟨ρ, B, φ, S, w, en, q⟩ => ?_
  refine tD.run w en (WP.fst q) fun x v H1 B1 φ1 S1 x1 w1 en1 r1 q1 => ?_
  refine tD.run w1 en1 (WP.fst q1) fun y u H2 B2 φ2 S2 x2 w2 en2 r2 q2 => ?_
  unfold oIxS at q2
  split at q2
  · rename_i z i
    split at q2
    · rename_i hl
      split at q2
      · rename_i c hc
        have e1 := rep_str.mp (RepV.mono x2.b x2.p _ r1)
        have hlt : i.toNat < z.cps.size := (Array.getElem?_eq_some_iff.mp hc).1
        refine ⟨z, i, c, e1, rep_int.mp r2, hl.1, by omega, ?_, hc, q2 H2 B2 φ2 Xt.refl w2 _ (rep_str.mpr rfl)⟩
        show i < (z.cps.size : Nat)
        omega
      · exact q2.elim
    · exact q2.elim
  · exact q2.elim
/-- sign in text -/
def oInC (neg : Bool) : Op2 := fun x y S => match x, y with
  | .p (.str ⟨⟨[c]⟩⟩), .p (.str z) => .ok (.p (.bl (if neg = true then !decide (c ∈ z.cps.toList) else decide (c ∈ z.cps.toList)))) S
  | _, _ => .bad
abbrev rInC (neg : Bool) : R2 := fun x y H Q => ∃ (c : Nat) (z : Str), x = .str ⟨#[c]⟩ ∧ y = .str z ∧ Q (.bl (if neg = true then !decide (c ∈ z.cps.toList) else decide (c ∈ z.cps.toList))) H
theorem oInC_ok {neg : Bool} : Ok2 G W (rInC neg) (oInC neg) := by
  intro H B φ S σ x y v u Q w r1 r2 h
  unfold oInC at h
  split at h
  · exact ⟨_, _, rep_str.mp r1, rep_str.mp r2, h H B φ Xt.refl w _ (rep_bl.mpr rfl)⟩
  · exact h.elim
theorem op_inC : OpR X (compareOp .In) (rInC false) := fun pins s σ H x y v u Q I rx ry h => op_in_sign pins s σ H x y v u Q I rx ry h
theorem op_notInC : OpR X (compareOp .NotIn) (rInC true) := fun pins s σ H x y v u Q I rx ry h => op_notIn_sign pins s σ H x y v u Q I rx ry h
/-- sep.join(texts) -/
def dJoin (f g : Ef) : Ef := fun ρ S => (f ρ S).bind fun d S1 => match d with
  | .p (.str a) => (g ρ S1).bind fun d2 S2 => match sqOf S2 d2 with
    | some ds => match strsOf ds with
      | some ys => if (ys.map (·.length)).sum + ys.length * a.length ≤ 16777216 then .ok (.p (.str (Txt.join a ys))) S2 else .bad
      | none => .bad
    | none => .bad
  | _ => .bad
theorem de_join (hK : X.K = G.K) (ho : PE X o (tD G W ef)) (he : PE X e (tD G W eg)) (hs : starEach [e] X.env = [(false, eval e X.env)] := by rfl) (hbase : attributeBase o "join" X.env (eval o X.env) = eval o X.env := by rfl) (hline : (apos.endLine == pos.line) = true := by rfl) :
    PE X (.Call (.Attribute o "join" apos) [e] [] pos) (tD G W (dJoin ef eg)) := by
  refine wkE (pe_join ho he hs hbase hline) fun σ H Q ⟨ρ, B, φ, S, w, en, h⟩ => tD.run w en (WP.fst h) fun d v H1 B1 φ1 S1 x1 w1 en1 r1 q1 => ?_
  split at q1
  · rename_i a
    have e1 := rep_str.mp r1
    refine ⟨⟨a, e1⟩, ?_⟩
    refine tD.run w1 en1 (WP.fst q1) fun d2 v2 H2 B2 φ2 S2 x2 w2 en2 r2 q2 => ?_
    split at q2
    · rename_i ds hd
      split at q2
      · rename_i ys hy
        split at q2
        · rename_i hl
          obtain ⟨b, xs, rfl, s1, rr⟩ := sq_at w2 r2 hd
          have ev := strs_at hy rr
          subst ev
          exact ⟨a, b, ys, e1, rfl, by rw [hK]; exact s1, hl, q2 H2 B2 φ2 Xt.refl w2 _ (rep_str.mpr rfl)⟩
        · exact q2.elim
      · exact q2.elim
    · exact q2.elim
  · exact q1.elim
/-- text.split(sep) -/
def dSplit (f g : Ef) : Ef := fun ρ S => (f ρ S).bind fun d S1 => match d with
  | .p (.str a) => (g ρ S1).bind fun d2 S2 => match d2 with
    | .p (.str b) => if (b.length == 0) = false ∧ a.length + 2 ≤ big then .ok (.p (.lst ((Txt.split a b).map D.str))) S2 else .bad
    | _ => .bad
  | _ => .bad
theorem de_split (ho : PE X o (tD G W ef)) (he : PE X e (tD G W eg)) (hs : starEach [e] X.env = [(false, eval e X.env)] := by rfl) (hbase : attributeBase o "split" X.env (eval o X.env) = eval o X.env := by rfl) (hline : (apos.endLine == pos.line) = true := by rfl) :
    PE X (.Call (.Attribute o "split" apos) [e] [] pos) (tD G W (dSplit ef eg)) := by
  refine wkE (pe_split ho he hs hbase hline) fun σ H Q ⟨ρ, B, φ, S, w, en, h⟩ => tD.run w en (WP.fst h) fun d v H1 B1 φ1 S1 x1 w1 en1 r1 q1 => ?_
  split at q1
  · rename_i a
    have e1 := rep_str.mp r1
    refine ⟨⟨a, e1⟩, ?_⟩
    refine tD.run w1 en1 (WP.fst q1) fun d2 v2 H2 B2 φ2 S2 x2 w2 en2 r2 q2 => ?_
    split at q2
    · rename_i b
      split at q2
      · rename_i hl
        refine ⟨a, b, e1, by rw [rep_str.mp r2], hl.1, by rw [← big_eq]; exact hl.2, fun q hq => ?_⟩
        exact q2 _ _ _ (Xt.alloc w2 hq) (w2.alloc hq) _ (rep_lst.mpr ⟨q, _, rfl, upd_same, Reps.strs _⟩)
      · exact q2.elim
    · exact q2.elim
  · exact q1.elim
theorem de_globS {x : Str} {z : Str} {t : Tok} (hg : Gl X x) (hm : X.mg x = some (.str z t)) (hd : (x == ("__debug__" : Str)) = false := by decide) : PE X (.Name x pos) (tD G W (dC (.str z))) :=
  wkE (pe_glob hg hm (v := .str z) ⟨_, rfl⟩ hd) fun σ H Q ⟨ρ, B, φ, S, w, en, h⟩ => h H B φ Xt.refl w _ (rep_str.mpr rfl)
/-- for sign in text -/
def sgD (x : Str) : List D := x.cps.toList.map fun c => .str ⟨#[c]⟩
theorem yl_str (x : Str) : Yl G (Its x) (sgD x) B := by
  intro i H B1 φ S w sb
  have hl : (sgD x).length = x.cps.size := by unfold sgD; rw [List.length_map, Array.length_toList]
  refine ⟨fun hi => ⟨by show i < x.cps.size; omega, fun y H' ⟨e, c, hc, ey⟩ => ?_⟩, fun hi => by show x.cps.size ≤ i; omega⟩
  subst e
  subst ey
  refine ⟨.str ⟨#[c]⟩, B1, ?_, Xt.refl, w, by unfold Rep; rfl⟩
  unfold sgD
  rw [List.getElem?_map, Array.getElem?_toList, hc]; rfl
def iStrF (f : Ef) : If := fun ρ S => (f ρ S).bind fun d S1 => match d with
  | .p (.str x) => .ok (sgD x) S1
  | _ => .bad
theorem di_str {tg : Expr} (he : PE X e (tD G W ef)) : PI X tg e (tI G W (iStrF ef)) := by
  refine wkI (pi_str he) fun σ H R ⟨ρ, B, φ, S, w, en, h⟩ => tD.run w en (WP.fst h) fun d v H1 B1 φ1 S1 x1 w1 en1 r1 q1 => ?_
  split at q1
  · rename_i x
    exact ⟨x, rep_str.mp r1, q1 H1 B1 φ1 Xt.refl w1 _ (yl_str x)⟩
  · exact q1.elim
end
/-! ### lists of anything: what a comprehension makes -/
def compLV (t : Tgt) (ifs : Tf) (el : Ef) (ρ : Nv) : List D → Sto → Out (List Dv)
  | [], S => .ok [] S
  | d :: ds, S => match t (.p d) ρ with
    | none => .bad
    | some ρ1 => (ifs ρ1 S).nox.bind fun b S1 => if b = true then (el ρ1 S1).nox.bind (fun x S2 => (compLV t ifs el ρ ds S2).bind fun r S3 => Out.ok (x :: r) S3) else compLV t ifs el ρ ds S1
def dCompR (vs : List Nat) (it : If) (t : Tgt) (ifs : Tf) (el : Ef) : Ef := fun ρ S => (it ρ S).bind fun ds S1 => if ds.length ≤ big then (compLV t ifs el (wipeN ρ vs) ds S1).bind (fun r S2 => .ok (.hnd S2.length) (S2 ++ [.rcd r])) else .bad
section
variable {X : Cx} {G : Gx} {W : WX} {H B : Hp} {φ : List Addr} {S : Sto} {σ : L2.St}
theorem RepVs.nil : RepVs G B φ [] [] := rfl
theorem RepVs.one {d : Dv} {v : V} (h : RepV G B φ d v) : RepVs G B φ [d] [v] := ⟨v, [], rfl, h, rfl⟩
theorem Wd.hired {D : Addr} {av : List V} {acc : List Dv} {H1 B1 : Hp} {φ1 : List Addr} (w : Wd G H B φ S) (x : Xt H1 B1 φ1 H B φ) (hD : H1 D = Option.none) (hb : B D = Option.none) (hf : D ∉ φ) (hh : H D = some (.lst av)) (rr : RepVs G B φ acc av) :
    Wd G H B (φ ++ [D]) (S ++ [.rcd acc]) ∧ Xt H1 B1 φ1 H B (φ ++ [D]) ∧ RepV G B (φ ++ [D]) (.hnd S.length) (.ref D) := by
  refine ⟨w.cellOf hh hb hf ⟨hb, av, hh, RepVs.mono (Same.refl _) (List.prefix_append _ _) _ rr⟩ rfl, ⟨x.b, x.p.trans (List.prefix_append _ _), fun a u h1 h2 h3 => ?_⟩, ⟨D, ?_, rfl⟩⟩
  · obtain ⟨q1, q2, q3⟩ := x.out a u h1 h2 h3
    have na : a ≠ D := ne_of_none h1 hD
    exact ⟨q1, q2, fun z => (List.mem_append.mp z).elim q3 fun z => na (by simpa using z)⟩
  · rw [← w.len, List.getElem?_append_right (Nat.le_refl _), Nat.sub_self]; rfl
theorem compR_le {own : List (Str × Nat)} {it : If} {ts : List Nat} {t : Tgt} {cf : Tf} {el : Ef} (hts : ∀ i ∈ ts, i ∈ own.map (·.2)) :
    ∀ σ H Q, tD G W (dCompR (own.map (·.2)) it t cf el) σ H Q → tLc (tI G W it) (tG G ts t) (tT G noW cf) (tD G noW el) (own.map (·.2)) σ H Q := by
  rintro σ H Q ⟨ρ, B, φ, S, w, en, h⟩
  refine ⟨ρ, B, φ, S, w, en, (WP.fst h).mono fun ds H1 B1 φ1 S1 x1 w1 q1 J yl => ?_⟩
  split at q1
  · rename_i hbig
    intro D hD
    have en1 := (en.mono x1.b x1.p).wipe (own.map (·.2))
    generalize hvs : own.map (·.2) = vs at *
    have nD1 : D ∉ φ1 := w1.fresh hD
    let fin : List Dv → List Dv → Sto → Out Dv := fun acc r S2 => .ok (.hnd S2.length) (S2 ++ [.rcd (acc ++ r)])
    refine ⟨fun i m H => ∃ B φ S acc av, Wd G H B φ S ∧ Xt H1 B1 φ1 H B φ ∧ B D = none ∧ D ∉ φ ∧ H D = some (.lst av) ∧ RepVs G B φ acc av ∧ acc.length ≤ i ∧ i ≤ ds.length ∧ m = ds.length - i ∧
        WP G W σ H1 B1 φ1 ((compLV t cf el (wipeN ρ vs) (ds.drop i) S).bind (fin acc)) (fun d H' B' φ' _ => ∀ v, RepV G B' φ' d v → Q v H'),
      ⟨_, B1, φ1, S1, [], [], w1.hide hD, Xt.hide w1 hD, w1.bfree hD, nD1, upd_same, RepVs.nil, Nat.le_refl _, Nat.zero_le _, rfl, q1⟩, ?_⟩
    rintro i m H ⟨B, φ, S, acc, av, w, x, hb, hf, hh, rr, hai, hi, rfl, q⟩
    obtain ⟨y1, y2⟩ := yl i H B φ S w x.b
    by_cases hlt : i < ds.length
    · obtain ⟨go, y1⟩ := y1 hlt
      refine .inr ⟨go, fun H' => ∃ B φ S acc av, Wd G H' B φ S ∧ Xt H1 B1 φ1 H' B φ ∧ B D = none ∧ D ∉ φ ∧ H' D = some (.lst av) ∧ RepVs G B φ acc av ∧ acc.length ≤ i + 1 ∧
        WP G W σ H1 B1 φ1 ((compLV t cf el (wipeN ρ vs) (ds.drop (i + 1)) S).bind (fin acc)) (fun d H' B' φ' _ => ∀ v, RepV G B' φ' d v → Q v H'), ?_, ?_⟩
      · rintro H' ⟨B', φ', S', acc', av', w', x', hb', hf', hh', rr', hai', q'⟩
        exact ⟨ds.length - (i + 1), by omega, B', φ', S', acc', av', w', x', hb', hf', hh', rr', hai', hlt, rfl, q'⟩
      · intro y H' hy
        obtain ⟨d, B', hd, xx, w', r⟩ := y1 y H' hy
        rw [List.drop_eq_getElem_cons hlt] at q
        have ed : ds[i] = d := by rw [List.getElem?_eq_getElem hlt] at hd; exact Option.some.inj hd
        rw [ed] at q
        unfold compLV at q
        have x' := x.trans xx
        obtain ⟨hh', hb', hf'⟩ := xx.out D _ hh hb hf
        refine ⟨wipeN ρ vs, B', φ, S, .p d, w', en1.mono x'.b x'.p, r, ?_⟩
        cases e1 : t (.p d) (wipeN ρ vs) with
        | none => rw [e1] at q; exact q.elim
        | some ρ1 =>
          rw [e1] at q
          dsimp only at q
          refine fun σ2 en2 k2 => ⟨(k2 vs hts).trans (wipe_wipe vs fun _ z => z), ρ1, B', φ, S, w', en2, ?_⟩
          cases e2 : cf ρ1 S with
          | bad => rw [e2] at q; exact q.elim
          | exc e' S' => rw [e2] at q; exact q.elim
          | ok b S2 =>
            rw [e2] at q
            have q : WP G W σ H1 B1 φ1 ((if b = true then (el ρ1 S2).nox.bind (fun x S2 => (compLV t cf el (wipeN ρ vs) (ds.drop (i + 1)) S2).bind fun r S3 => Out.ok (x :: r) S3) else compLV t cf el (wipeN ρ vs) (ds.drop (i + 1)) S2).bind (fin acc)) (fun d H' B' φ' _ => ∀ v, RepV G B' φ' d v → Q v H') := q
            intro H3 B3 φ3 x3 w3
            obtain ⟨hh3, hb3, hf3⟩ := x3.out D _ hh' hb' hf'
            have x03 := x'.trans x3
            cases b with
            | false =>
              rw [if_neg Bool.false_ne_true] at q ⊢
              exact ⟨B3, φ3, S2, acc, av, w3, x03, hb3, hf3, hh3, RepVs.mono (xx.b.trans x3.b) (xx.p.trans x3.p) _ rr, Nat.le_succ_of_le hai, q⟩
            | true =>
              rw [if_pos rfl] at q ⊢
              refine ⟨ρ1, B3, φ3, S2, w3, en2.mono x3.b x3.p, ?_⟩
              cases e3 : el ρ1 S2 with
              | bad => rw [e3] at q; exact q.elim
              | exc e' S' => rw [e3] at q; exact q.elim
              | ok dv S4 =>
                rw [e3] at q
                have q : WP G W σ H1 B1 φ1 (((compLV t cf el (wipeN ρ vs) (ds.drop (i + 1)) S4).bind fun r S3 => Out.ok (dv :: r) S3).bind (fin acc)) (fun d H' B' φ' _ => ∀ v, RepV G B' φ' d v → Q v H') := q
                rw [Out.bind_assoc] at q
                intro H4 B4 φ4 x4 w4 v4 r4
                obtain ⟨hh4, hb4, hf4⟩ := x4.out D _ hh3 hb3 hf3
                have x04 := x03.trans x4
                have rr4 : RepVs G B4 φ4 acc av := RepVs.mono (xx.b.trans (x3.b.trans x4.b)) (xx.p.trans (x3.p.trans x4.p)) _ rr
                refine ⟨av, hh4, ?_, B4, φ4, S4, acc ++ [dv], av ++ [v4], w4.priv hb4 hf4, ⟨x04.b, x04.p, fun a u h1 h2 h3 => ?_⟩, hb4, hf4, upd_same, rr4.append (RepVs.one r4), by rw [List.length_append]; show acc.length + 1 ≤ _; omega, ?_⟩
                · rw [← rr4.length, ← big_eq]; omega
                · have na : a ≠ D := ne_of_none h1 hD
                  rw [upd_ne na]
                  exact x04.out a u h1 h2 h3
                · have e5 : (fun (r : List Dv) (S2 : Sto) => (Out.ok (dv :: r) S2).bind (fin acc)) = fin (acc ++ [dv]) := by
                    funext r S2
                    show Out.ok (Dv.hnd S2.length) (S2 ++ [.rcd (acc ++ (dv :: r))]) = Out.ok (Dv.hnd S2.length) (S2 ++ [.rcd ((acc ++ [dv]) ++ r)])
                    rw [List.append_assoc]; rfl
                  rw [← e5]
                  exact q
    · have e : i = ds.length := by omega
      subst e
      rw [List.drop_length] at q
      refine .inl ⟨y2 rfl, ?_⟩
      have q : WP G W σ H1 B1 φ1 (.ok (.hnd S.length) (S ++ [.rcd (acc ++ [])])) (fun d H' B' φ' _ => ∀ v, RepV G B' φ' d v → Q v H') := q
      rw [List.append_nil] at q
      obtain ⟨z1, z2, z3⟩ := w.hired x hD hb hf hh rr
      exact q H B (φ ++ [D]) z2 z1 _ z3
  · exact q1.elim
theorem de_compR {elt tg iter : Expr} {ifs : List Expr} {scope : Scope} {own : List (Str × Nat)} {it : If} {ts : List Nat} {t : Tgt} {cf : Tf} {el : Ef} {pos : Pos} (hc : X.calm = true) (hN : X.N.Nodup) (hi : PI X tg iter (tI G W it)) (ok : BlkOk X.N X.env.scope scope own)
    (hts : ∀ i ∈ ts, i ∈ own.map (·.2))
    (hg : ∀ (s : Shared) (H : Hp) (C : Addr) (cl : List (Str × Addr)) (fp : List Addr), PG (X.blk s H scope (compEnvC scope cl C X.env) fp) tg (tG G ts t))
    (ht : ∀ (s : Shared) (H : Hp) (C : Addr) (cl : List (Str × Addr)) (fp : List Addr), PTs (X.blk s H scope (compEnvC scope cl C X.env) fp) ifs (tT G noW cf))
    (he : ∀ (s : Shared) (H : Hp) (C : Addr) (cl : List (Str × Addr)) (fp : List Addr), PE (X.blk s H scope (compEnvC scope cl C X.env) fp) elt (tD G noW el))
    (hs : ∀ x, foldedSetIterable iter X.env x = pure x := by intro _; rfl) :
    PE X (.ListComp elt [⟨tg, iter, ifs, 0⟩] scope pos) (tD G W (dCompR (own.map (·.2)) it t cf el)) :=
  wkE (pe_lc hc hN hi ok hg ht he hs) (compR_le hts)
theorem dp_setLcR {i : Nat} {y : Str} {py spos pos : Pos} {elt tg iter : Expr} {ifs : List Expr} {scope : Scope} {own : List (Str × Nat)} {it : If} {ts : List Nat} {t : Tgt} {cf : Tf} {el : Ef} (hc : X.calm = true) (hN : X.N.Nodup) (hy : X.N[i]? = some y) (hyl : X.env.scope.names.lookup y = some .local) (hk : X.env.scope.kind = .function) (hl : (py.line == pos.line) = true) (hna : (scope.names.any fun (n, k) => n == y && (k == .local || k == .cell)) = false) (hi : PI X tg iter (tI G W it)) (ok : BlkOk X.N X.env.scope scope own)
    (hts : ∀ i ∈ ts, i ∈ own.map (·.2))
    (hg : ∀ (s : Shared) (H : Hp) (C : Addr) (cl : List (Str × Addr)) (fp : List Addr), PG (X.blk s H scope (compEnvC scope cl C X.env) fp) tg (tG G ts t))
    (ht : ∀ (s : Shared) (H : Hp) (C : Addr) (cl : List (Str × Addr)) (fp : List Addr), PTs (X.blk s H scope (compEnvC scope cl C X.env) fp) ifs (tT G noW cf))
    (he : ∀ (s : Shared) (H : Hp) (C : Addr) (cl : List (Str × Addr)) (fp : List Addr), PE (X.blk s H scope (compEnvC scope cl C X.env) fp) elt (tD G noW el))
    (hs : ∀ x, foldedSetIterable iter X.env x = pure x := by intro _; rfl) :
    PS X (.Assign [.Name y py] (.ListComp elt [⟨tg, iter, ifs, 0⟩] scope pos) spos) (tS G W (sSet i (dCompR (own.map (·.2)) it t cf el))) := by
  refine wkS (ps_setLc hc hN hy hyl (sw_true hk hyl hl hna) hi ok hg ht he hs) fun D σ H ⟨ρ, B, φ, S, w, en, h⟩ => ?_
  refine compR_le hts σ H _ ⟨ρ, B, φ, S, w, en, (WPS.fst en h).mono fun a H1 B1 φ1 S1 x1 w1 q1 v r1 => ?_⟩
  exact WPS.here w1 q1 _ ((en.mono x1.b x1.p).set i r1)
/-! ### .. over a list of anything -/
def compLS (t : Tgt) (ifs : Tf) (el : Ef) (ρ : Nv) (n : Nat) : Nat → Nat → Sto → Out (List D)
  | 0, i, S => match S[n]? with
    | some (.rcd es) => if es.length = i then .ok [] S else .bad
    | _ => .bad
  | k + 1, i, S => match S[n]? with
    | some (.rcd es) => match es[i]? with
      | some d => match t d ρ with
        | none => .bad
        | some ρ1 => (ifs ρ1 S).nox.bind fun b S1 => if b = true then (el ρ1 S1).nox.bind (fun x S2 => match x with
            | .p d' => (compLS t ifs el ρ n k (i + 1) S2).bind fun r S3 => Out.ok (d' :: r) S3
            | .hnd _ => .bad) else compLS t ifs el ρ n k (i + 1) S1
      | none => .bad
    | _ => .bad
def dCompS (vs : List Nat) (f : Ef) (t : Tgt) (ifs : Tf) (el : Ef) : Ef := fun ρ S => (f ρ S).bind fun d S1 => match d with
  | .hnd n => match S1[n]? with
    | some (.rcd es) => if es.length ≤ big then (compLS t ifs el (wipeN ρ vs) n es.length 0 S1).bind (fun r S2 => .ok (.p (.lst r)) S2) else .bad
    | _ => .bad
  | _ => .bad
theorem compS_le {own : List (Str × Nat)} {f : Ef} {ts : List Nat} {t : Tgt} {cf : Tf} {el : Ef} (hts : ∀ i ∈ ts, i ∈ own.map (·.2)) :
    ∀ σ H Q, tD G W (dCompS (own.map (·.2)) f t cf el) σ H Q → tLc (iList G.K (tD G W f)) (tG G ts t) (tT G noW cf) (tD G noW el) (own.map (·.2)) σ H Q := by
  rintro σ H Q ⟨ρ, B, φ, S, w, en, h⟩
  show tD G W f σ H _
  refine tD.run w en (WP.fst h) fun d v H1 B1 φ1 S1 x1 w1 en0 r1 q1 => ?_
  split at q1
  · rename_i n
    split at q1
    · rename_i es0 hs0
      split at q1
      · rename_i hbig
        obtain ⟨p, hφ, rfl⟩ := r1
        have c0 : CellR G H1 B1 φ1 p (.rcd es0) := w1.cell n p _ hφ hs0
        obtain ⟨_, xs0, hx0, _⟩ := c0
        refine ⟨p, rfl, ⟨xs0, SqL.of hx0⟩, ?_⟩
        generalize hL : es0.length = L at *
        intro D hD
        have en1 := en0.wipe (own.map (·.2))
        generalize hvs : own.map (·.2) = vs at *
        have nD1 : D ∉ φ1 := w1.fresh hD
        refine ⟨fun i m H => ∃ B φ S acc av, Wd G H B φ S ∧ Xt H1 B1 φ1 H B φ ∧ B D = none ∧ D ∉ φ ∧ H D = some (.lst av) ∧ Reps G B acc av ∧ acc.length ≤ i ∧ m + i = L ∧
            WP G W σ H1 B1 φ1 ((compLS t cf el (wipeN ρ vs) n m i S).bind fun r S2 => Out.ok (Dv.p (DL.D.lst (acc ++ r))) S2) (fun d H' B' φ' _ => ∀ v, RepV G B' φ' d v → Q v H'),
          ⟨L, B1, φ1, S1, [], [], w1.hide hD, Xt.hide w1 hD, w1.bfree hD, nD1, upd_same, Reps.nil, Nat.le_refl _, Nat.add_zero _, q1⟩, ?_⟩
        rintro i m H ⟨B, φ, S, acc, av, w, x, hb, hf, hh, rr, hai, hmi, q⟩
        have hφ' : φ[n]? = some p := by
          obtain ⟨tt, rfl⟩ := x.p
          rw [List.getElem?_append_left (List.getElem?_eq_some_iff.mp hφ).1]; exact hφ
        cases m with
        | zero =>
          unfold compLS at q
          split at q
          · rename_i es hs
            split at q
            · rename_i hl
              have c1 : CellR G H B φ p (.rcd es) := w.cell n p _ hφ' hs
              obtain ⟨_, xs, hx, rx⟩ := c1
              refine .inl ⟨⟨xs, SqL.of hx, by rw [← rx.length]; omega⟩, ?_⟩
              have q : WP G W σ H1 B1 φ1 (.ok (.p (.lst (acc ++ []))) S) (fun d H' B' φ' _ => ∀ v, RepV G B' φ' d v → Q v H') := q
              rw [List.append_nil] at q
              have sb : Same B (upd B D (.lst av)) := same_upd' hb
              refine q H (upd B D (.lst av)) φ ⟨x.b.trans sb, x.p, fun a u h1 h2 h3 => ?_⟩ (w.adopt hh hb hf) _ (rep_lst.mpr ⟨D, av, rfl, upd_same, Reps.mono sb _ rr⟩)
              have na : a ≠ D := ne_of_none h1 hD
              rw [upd_ne na]
              exact x.out a u h1 h2 h3
            · exact q.elim
          · exact q.elim
        | succ m =>
          unfold compLS at q
          split at q
          · rename_i es hs
            split at q
            · rename_i d hd
              have c1 : CellR G H B φ p (.rcd es) := w.cell n p _ hφ' hs
              obtain ⟨_, xs, hx, rx⟩ := c1
              obtain ⟨u0, hu0, ru0⟩ := rx.get hd
              refine .inr ⟨⟨xs, u0, SqL.of hx, hu0⟩, fun H' => ∃ B φ S acc av, Wd G H' B φ S ∧ Xt H1 B1 φ1 H' B φ ∧ B D = none ∧ D ∉ φ ∧ H' D = some (.lst av) ∧ Reps G B acc av ∧ acc.length ≤ i + 1 ∧
                WP G W σ H1 B1 φ1 ((compLS t cf el (wipeN ρ vs) n m (i + 1) S).bind fun r S2 => Out.ok (Dv.p (DL.D.lst (acc ++ r))) S2) (fun d H' B' φ' _ => ∀ v, RepV G B' φ' d v → Q v H'), ?_, ?_⟩
              · rintro H' ⟨B', φ', S', acc', av', w', x', hb', hf', hh', rr', hai', q'⟩
                exact ⟨m, Nat.lt_succ_self _, B', φ', S', acc', av', w', x', hb', hf', hh', rr', hai', by omega, q'⟩
              · intro y H' hy
                obtain ⟨eH, hy⟩ := hy
                subst eH
                have ey : y = u0 := Option.some.inj ((hy xs (SqL.of hx)).symm.trans hu0)
                subst ey
                refine ⟨wipeN ρ vs, B, φ, S, d, w, en1.mono x.b x.p, ru0, ?_⟩
                cases e1 : t d (wipeN ρ vs) with
                | none => rw [e1] at q; exact q.elim
                | some ρ1 =>
                  rw [e1] at q
                  dsimp only at q
                  refine fun σ2 en2 k2 => ⟨(k2 vs hts).trans (wipe_wipe vs fun _ z => z), ρ1, B, φ, S, w, en2, ?_⟩
                  cases e2 : cf ρ1 S with
                  | bad => rw [e2] at q; exact q.elim
                  | exc e' S' => rw [e2] at q; exact q.elim
                  | ok b S2 =>
                    rw [e2] at q
                    have q : WP G W σ H1 B1 φ1 ((if b = true then (el ρ1 S2).nox.bind (fun x S2 => match x with
                      | .p d' => (compLS t cf el (wipeN ρ vs) n m (i + 1) S2).bind fun r S3 => Out.ok (d' :: r) S3
                      | .hnd _ => .bad) else compLS t cf el (wipeN ρ vs) n m (i + 1) S2).bind fun r S2 => Out.ok (Dv.p (DL.D.lst (acc ++ r))) S2) (fun d H' B' φ' _ => ∀ v, RepV G B' φ' d v → Q v H') := q
                    intro H3 B3 φ3 x3 w3
                    obtain ⟨hh3, hb3, hf3⟩ := x3.out D _ hh hb hf
                    have x03 := x.trans x3
                    cases b with
                    | false =>
                      rw [if_neg Bool.false_ne_true] at q ⊢
                      exact ⟨B3, φ3, S2, acc, av, w3, x03, hb3, hf3, hh3, Reps.mono x3.b _ rr, Nat.le_succ_of_le hai, q⟩
                    | true =>
                      rw [if_pos rfl] at q ⊢
                      refine ⟨ρ1, B3, φ3, S2, w3, en2.mono x3.b x3.p, ?_⟩
                      cases e3 : el ρ1 S2 with
                      | bad => rw [e3] at q; exact q.elim
                      | exc e' S' => rw [e3] at q; exact q.elim
                      | ok dv S4 =>
                        rw [e3] at q
                        cases dv with
                        | hnd n => exact q.elim
                        | p d' =>
                          have q : WP G W σ H1 B1 φ1 (((compLS t cf el (wipeN ρ vs) n m (i + 1) S4).bind fun r S3 => Out.ok (d' :: r) S3).bind fun r S2 => Out.ok (Dv.p (DL.D.lst (acc ++ r))) S2) (fun d H' B' φ' _ => ∀ v, RepV G B' φ' d v → Q v H') := q
                          rw [Out.bind_assoc] at q
                          intro H4 B4 φ4 x4 w4 v4 r4
                          obtain ⟨hh4, hb4, hf4⟩ := x4.out D _ hh3 hb3 hf3
                          have x04 := x03.trans x4
                          have rr4 : Reps G B4 acc av := Reps.mono (x3.b.trans x4.b) _ rr
                          refine ⟨av, hh4, ?_, B4, φ4, S4, acc ++ [d'], av ++ [v4], w4.priv hb4 hf4, ⟨x04.b, x04.p, fun a u h1 h2 h3 => ?_⟩, hb4, hf4, upd_same, rr4.append (Reps.cons r4 Reps.nil), by rw [List.length_append]; show acc.length + 1 ≤ _; omega, ?_⟩
                          · rw [← rr4.length, ← big_eq]; omega
                          · have na : a ≠ D := ne_of_none h1 hD
                            rw [upd_ne na]
                            exact x04.out a u h1 h2 h3
                          · have e5 : (fun (r : List DL.D) (S2 : Sto) => (Out.ok (d' :: r) S2).bind fun r S2 => Out.ok (Dv.p (.lst (acc ++ r))) S2) = fun r S2 => Out.ok (Dv.p (.lst ((acc ++ [d']) ++ r))) S2 := by
                              funext r S2
                              show Out.ok (Dv.p (.lst (acc ++ (d' :: r)))) S2 = _
                              rw [List.append_assoc]; rfl
                            rw [← e5]
                            exact q
            · exact q.elim
          · exact q.elim
      · exact q1.elim
    · exact q1.elim
  · exact q1.elim
theorem de_compS {elt tg iter : Expr} {ifs : List Expr} {scope : Scope} {own : List (Str × Nat)} {f : Ef} {ts : List Nat} {t : Tgt} {cf : Tf} {el : Ef} {pos : Pos} (hK : X.K = G.K) (hc : X.calm = true) (hN : X.N.Nodup) (hf : PE X iter (tD G W f)) (ok : BlkOk X.N X.env.scope scope own)
    (hts : ∀ i ∈ ts, i ∈ own.map (·.2))
    (hg : ∀ (s : Shared) (H : Hp) (C : Addr) (cl : List (Str × Addr)) (fp : List Addr), PG (X.blk s H scope (compEnvC scope cl C X.env) fp) tg (tG G ts t))
    (ht : ∀ (s : Shared) (H : Hp) (C : Addr) (cl : List (Str × Addr)) (fp : List Addr), PTs (X.blk s H scope (compEnvC scope cl C X.env) fp) ifs (tT G noW cf))
    (he : ∀ (s : Shared) (H : Hp) (C : Addr) (cl : List (Str × Addr)) (fp : List Addr), PE (X.blk s H scope (compEnvC scope cl C X.env) fp) elt (tD G noW el))
    (hs : ∀ x, foldedSetIterable iter X.env x = pure x := by intro _; rfl) :
    PE X (.ListComp elt [⟨tg, iter, ifs, 0⟩] scope pos) (tD G W (dCompS (own.map (·.2)) f t cf el)) :=
  wkE (pe_lc hc hN (pi_list hf) ok hg ht he hs) (by rw [hK]; exact compS_le hts)
/-! ### a slice of a list of anything -/
theorem RepVs.take' : ∀ {ds : List Dv} {vs : List V} (n : Nat), RepVs G B φ ds vs → RepVs G B φ (ds.take n) (vs.take n)
  | ds, vs, 0, _ => by rw [List.take_zero, List.take_zero]; exact RepVs.nil
  | [], _, n + 1, h => by rw [show _ = [] from h]; exact RepVs.nil
  | d :: ds, _, n + 1, ⟨x, r, e, h1, h2⟩ => by
    subst e
    exact ⟨_, _, rfl, h1, h2.take' n⟩
theorem RepVs.drop' : ∀ {ds : List Dv} {vs : List V} (n : Nat), RepVs G B φ ds vs → RepVs G B φ (ds.drop n) (vs.drop n)
  | ds, vs, 0, h => h
  | [], _, n + 1, h => by rw [show _ = [] from h]; exact RepVs.nil
  | d :: ds, _, n + 1, ⟨x, r, e, h1, h2⟩ => by
    subst e
    exact h2.drop' n
def cutV' (ds : List Dv) (lo hi : Option Int) : List Dv := (ds.drop (HT.sIx ds.length 0 lo)).take (HT.sIx ds.length ds.length hi - HT.sIx ds.length 0 lo)
theorem cutV_rep {ds : List Dv} {vs : List V} {lo hi : Option Int} (r : RepVs G B φ ds vs) : RepVs G B φ (cutV' ds lo hi) (cutV vs lo hi) := by
  unfold cutV' cutV
  rw [← r.length]
  exact (r.drop' _).take' _
def dSlR (f : Ef) (l h : Pf) : Ef := fun ρ S => (f ρ S).bind fun d S1 => (l ρ S1).bind fun lo S2 => (h ρ S2).bind fun hi S3 => match d with
  | .hnd n => match S3[n]? with
    | some (.rcd ds) => .ok (.hnd S3.length) (S3 ++ [.rcd (cutV' ds lo hi)])
    | _ => .bad
  | _ => .bad
theorem de_sliceR {lo hi : Option Expr} {lf hf : Pf} {p2 pos : Pos} {e : Expr} {ef : Ef} (he : PE X e (tD G W ef)) (hl : L2.PO X lo (tP G W lf)) (hh : L2.PO X hi (tP G W hf)) : PE X (.Subscript e (.Slice lo hi none p2) pos) (tD G W (dSlR ef lf hf)) := by
  refine wkE (pe_slice sl_list he hl hh) fun σ H Q ⟨ρ, B, φ, S, w, en, h⟩ => tD.run w en (WP.fst h) fun d v H1 B1 φ1 S1 x1 w1 en1 r1 q1 => ?_
  refine ⟨ρ, B1, φ1, S1, w1, en1, (WP.fst q1).mono fun lo H2 B2 φ2 S2 x2 w2 q2 => ?_⟩
  refine ⟨ρ, B2, φ2, S2, w2, en1.mono x2.b x2.p, (WP.fst q2).mono fun hi H3 B3 φ3 S3 x3 w3 q3 => ?_⟩
  have r3 := RepV.mono (x2.b.trans x3.b) (x2.p.trans x3.p) _ r1
  split at q3
  · rename_i n
    split at q3
    · rename_i ds hs
      obtain ⟨a, hφ, rfl⟩ := r3
      obtain ⟨_, xs, hx, rr⟩ : CellR G H3 B3 φ3 a (.rcd ds) := w3.cell n a _ hφ hs
      refine ⟨a, xs, rfl, SqL.of hx, fun p hp => ?_⟩
      obtain ⟨w4, x4, r4⟩ := cell_new (c := .rcd (cutV' ds lo hi)) (o := .lst (cutV xs lo hi)) w3 hp ⟨w3.bfree hp, _, upd_same, RepVs.mono (Same.refl _) (List.prefix_append _ _) _ (cutV_rep rr)⟩
      exact q3 _ _ _ x4 w4 _ r4
    · exact q3.elim
  · exact q3.elim
end
end DL

set_option maxHeartbeats 4000000
namespace DL
open PySem L2
open PySem.Spec PyProof.Rows
/-! ### an error leaves a comprehension -/
theorem note_by_frame {e : Value} {env env' : Env} (h : env.frame = env'.frame) : noteFrame e env = noteFrame e env' := by
  unfold noteFrame PySem.frameOf
  rw [h]
theorem pass_by_frame {α : Type} {what : String} {e : Value} {env env' : Env} (h : env.frame = env'.frame) : (PySem.passOn what e env : Sem α) = PySem.passOn what e env' := by
  unfold PySem.passOn
  rw [h]
theorem frames_cut {B h h' : Heap} {C : Addr} {oC : Obj} (hC : B.get? C = some oC) (k : ∀ b, b ≠ C → h'.get? b = h.get? b) : ∀ {l : List Env}, h.FunFrames B l → h'.FunFrames (PySem.W.hideAll B [C]) l
  | [], _ => trivial
  | env :: l, ⟨m, ⟨L, o, e1, e2, e3, e4⟩, r⟩ => by
    have hL : L ≠ C := fun z => by rw [z, hC] at e2; cases e2
    refine ⟨m, ⟨L, o, e1, ?_, (k L hL).trans e3, e4⟩, frames_cut hC k r⟩
    cases q : (PySem.W.hideAll B [C]).get? L with
    | none => rfl
    | some o' => have := PySem.W.of_hideAll _ q; rw [e2] at this; cases this
theorem hide_gone {B : Heap} {C b : Addr} (h : B.get? b = none) : (PySem.W.hideAll B [C]).get? b = none := by
  cases q : (PySem.W.hideAll B [C]).get? b with
  | none => rfl
  | some o' => have := PySem.W.of_hideAll _ q; rw [h] at this; cases this
theorem hide_some {B : Heap} {C b : Addr} {o : Obj} (h : (PySem.W.hideAll B [C]).get? b = some o) : b ≠ C ∧ B.get? b = some o := by
  refine ⟨fun z => ?_, PySem.W.of_hideAll _ h⟩
  rw [z, PySem.W.hideAll_none [C] (List.mem_singleton.mpr rfl)] at h
  cases h
section
variable {X : Cx} {W : WX} {E : XK} {σ : L2.St} {H : Hp} {s s' : Shared} {pins : List (Addr × Obj)} {C : Addr} {m0 : Str → Option Value} {ce : Env} {u : Value} {E₁ : Value → Shared → Prop}
theorem out_of_block (hst : X.stack = X.env :: X.outer) (hfr : X.env.frame = some X.env.locals) (tk : Takes X W) (I : Inv X pins σ H s) (fC : FpOk X pins H C) (nC : s.heap.Ns C m0) (hW : ∀ cls d H', E cls d H' → W cls d σ H')
    (hce : ce.locals = C) (hcf : ce.frame = X.env.frame) (c : CX X.prog X.w X.stack H s E u s') :
    wpAny (model X.prog X.w) X.A (noteFrame u ce) (fun _ s2 => CompFails (model X.prog X.w) X.A X.xe ce u s2) E₁ s' := by
  obtain ⟨a, B, H', cls, d, rfl, fl, hok, ub, na, os, ag, hE⟩ := c
  have hfrm : X.A.frames = some (X.env :: X.outer) := by rw [I.ok.frames, hst]
  obtain ⟨oC, es, ep, ho, rest⟩ := nC
  obtain ⟨c1, c2, c3, c4, c5, c6⟩ := id fC
  have hC : C ∉ frs X.stack := fun hm => by
    rw [hst] at hm
    obtain ⟨en, he, q⟩ := List.mem_filterMap.mp hm
    rcases List.mem_cons.mp he with rfl | he
    · rw [hfr] at q
      exact c2 (Option.some.inj q).symm
    · exact c3 (List.mem_filterMap.mpr ⟨en, he, q⟩)
  have hB : B.get? C = some oC := ub.keep C oC ho c1 hC
  have nC' : H' C = none := ub.free C oC ho c1
  -- the state without the error and without the block's names
  have Ih : Inv X pins σ H { s with heap := PySem.W.hideAll s.heap [C], toks := s.toks } := I.turned (it := C) (fun b o hb e => PySem.W.hideAll_get [C] e fun z => hb (List.mem_singleton.mp z)) c1 c2 c4 c5 c6
  obtain ⟨G, g1, g2⟩ := restrict s'.heap fun b => ((PySem.W.hideAll B [C]).get? b).isSome || decide (b ∈ frs X.stack)
  have st : B.StaysIn s'.heap := fl.1
  have gB : ∀ b o, (PySem.W.hideAll B [C]).get? b = some o → G.get? b = some o := fun b o e => by
    rw [g1 b (by simp [e])]
    exact st b o (hide_some e).2
  have gB' : ∀ b o, b ≠ C → B.get? b = some o → G.get? b = some o := fun b o hb e => gB b o (PySem.W.hideAll_get [C] e fun z => hb (List.mem_singleton.mp z))
  have gF : ∀ b, b ∈ frs X.stack → G.get? b = s'.heap.get? b := fun b hb => g1 b (by simp [hb])
  have og : ∀ b o, G.get? b = some o → s'.heap.get? b = some o ∧ (((PySem.W.hideAll B [C]).get? b).isSome = true ∨ b ∈ frs X.stack) := fun b o e => by
    cases q : (((PySem.W.hideAll B [C]).get? b).isSome || decide (b ∈ frs X.stack)) with
    | false => rw [g2 b q] at e; cases e
    | true =>
      rw [g1 b q] at e
      exact ⟨e, by simpa [Bool.or_eq_true] using q⟩
  have ogC : ∀ b o, G.get? b = some o → b ≠ C := fun b o e z => by
    subst z
    rcases (og b o e).2 with h | h
    · obtain ⟨o', q⟩ := Option.isSome_iff_exists.mp h
      exact (hide_some q).1 rfl
    · exact hC h
  have hokG : HOk X.prog X.w H' G := fun b v e => (hok b v e).stay (fun k w hk q => gB' k w (fun z => by
      subst z
      rcases hk with hk | hk
      · rw [hk, e] at nC'; cases nC'
      · rw [nC'] at hk; cases hk) q) (fun _ q => q) fun _ _ q => q
  have IG : Inv X pins σ H' { s with heap := G, gens := s'.gens, drawn := s'.drawn, toks := s'.toks } := by
    refine Ih.call' (s' := { s with heap := G, gens := s'.gens, drawn := s'.drawn, toks := s'.toks }) (ch := []) rfl ⟨fun b o e n hb _ => gB' b o (hide_some e).1 (ub.keep b o (hide_some e).2 n hb), fun b o e n hb _ => ?_, fun b o e n _ => ub.free b o (hide_some e).2 n, fun b o e _ => ?_, ub.tups, ub.frzs, ub.tbls⟩ hokG ag (fun _ z => nomatch z)
    · obtain ⟨sl, q⟩ := ub.slot b o (hide_some e).2 hb
      exact ⟨sl, by rw [gF b hb]; exact q⟩
    · by_cases hb : b ∈ frs X.stack
      · obtain ⟨sl, q⟩ := ub.slot b o (hide_some e).2 hb
        exact ⟨_, by rw [gF b hb]; exact q⟩
      · obtain ⟨o', q⟩ := ub.there b o (hide_some e).2 hb
        exact ⟨o', gB' b o' (hide_some e).1 q⟩
  have nb : ∀ b o, G.get? b = some o → b ∉ frs X.stack → (PySem.W.hideAll B [C]).get? b = some o := fun b o e hb => by
    obtain ⟨e', h⟩ := og b o e
    rcases h with h | h
    · obtain ⟨o', q⟩ := Option.isSome_iff_exists.mp h
      have z := st b o' (hide_some q).2
      rw [e'] at z; cases z
      exact q
    · exact absurd h hb
  rw [note_by_frame hcf]
  have fl' : HandSPX.FlyingZ B (X.env :: X.outer) a (Zc cls d) s'.heap := by rw [← hst]; exact fl
  refine HandSPX.looks_onZ Zc.steady hfrm hfr fl' fun h1 hh up1 => ?_
  obtain ⟨k1, k2, k3, oe, vs, T, oT, ts, t1, t2, t3, t4, t5, t6, t7, t8, t9⟩ := hh
  refine ⟨m0, by rw [hce]; exact ⟨oC, es, ep, k1 C oC hB, rest⟩, fun h' m' _ sb => ?_⟩
  rw [hce] at sb
  have aC : a ≠ C := fun z => by rw [z, hB] at k2; cases k2
  have TC : T ≠ C := fun z => by rw [z, hB] at t5; cases t5
  have sA : (PySem.W.hideAll B [C]).StaysIn h' := fun b o e => (sb.2 b (hide_some e).1).trans (k1 b o (hide_some e).2)
  have ff : h'.FunFrames (PySem.W.hideAll B [C]) (X.env :: X.outer) := frames_cut hB (fun b hb => sb.2 b hb) k3
  have tz : HandSPX.TracedZ h' (PySem.W.hideAll B [C]) a (Zc cls d) (rawInt X.env.locals) := ⟨oe, vs, T, oT, ts, (sb.2 a aC).trans t1, t2, t3, t4, hide_gone t5, t6, (sb.2 T TC).trans t7, t8, t9⟩
  rw [pass_by_frame hcf]
  unfold PySem.passOn
  refine wpAny_bind (wpAny_field ((sb.2 a aC).trans t1) t3 t4 ?_)
  rw [if_neg (by simp : ¬ ((Value.ref T == Value.none) = true))]
  have last : wpAny (model X.prog X.w) X.A (setFlight (.ref a) X.env.frame) (fun _ s4 => wpAny (model X.prog X.w) X.A (throw (.ref a) : Sem Value) (fun _ _ => False) X.xe s4) X.xe { s' with heap := h' } := by
    refine HandSPX.setFlight_anyZ sA ff tz fun h4 q1 q2 q3 up4 => wpAny_throw (tk _ _ ?_)
    rw [hfr] at q3
    refine ⟨a, PySem.W.hideAll B [C], { s with heap := G, gens := s'.gens, drawn := s'.drawn, toks := s'.toks }, pins, σ, H', cls, d, rfl, IG, nb, fun b o e hn => ?_, .inr (.inr (by rw [hst]; exact ⟨q1, hide_gone k2, q2, q3⟩)), na, os, ag, hW _ _ _ hE⟩
    obtain ⟨sl1, z1⟩ := up1 b o (og b o e).1 hn
    obtain ⟨sl2, z2⟩ := up4 b _ ((sb.2 b (ogC b o e)).trans z1) hn
    exact ⟨sl2, z2⟩
  first
    | exact wpAny_bind (wpAny_pure (wpAny_bind last))
    | exact wpAny_bind last
end
/-! ### the comprehension whose item may raise -/
abbrev Cx.blkx (X : Cx) (s : Shared) (H : Hp) (scope : Scope) (cenv : Env) (fp : List Addr) (xe : Value → Shared → Prop) : Cx := { X.blk s H scope cenv fp with xe := xe }
theorem wished {X : Cx} {xe : Value → Shared → Prop} {pins : List (Addr × Obj)} {σ : L2.St} {H : Hp} {s : Shared} (I : Inv X pins σ H s) : Inv { X with xe := xe } pins σ H s :=
  ⟨⟨I.ok.mod, I.ok.kind, I.ok.glob, I.ok.blt, I.ok.above, I.ok.inj, I.ok.has, I.ok.cab, I.ok.hd, I.ok.frames, I.ok.stk, I.ok.exf, I.ok.bs, I.ok.bsz, I.ok.noex, I.ok.exfs, I.ok.funs, I.ok.frf⟩, I.os, I.bare, I.base, I.loc, I.cell, I.free, I.freeC, I.pin, I.hok, I.len⟩
def tLcx (wi : TI) (g : TG) (te : L2.St → TE) (vs : List Nat) : TE := fun σ H Q => tLc wi g tYes (te σ) vs σ H Q
section
variable {X : Cx} {W : WX}
theorem pe_lcx {elt tg iter : Expr} {scope : Scope} {own : List (Str × Nat)} {pos : Pos} {wi : TI} {g : TG} {te : L2.St → TE} (hst : X.stack = X.env :: X.outer) (hfr : X.env.frame = some X.env.locals) (tk : Takes X W) (hcm : X.calm = true) (hnd : X.N.Nodup) (hit : PI X tg iter wi) (bo : BlkOk X.N X.env.scope scope own)
    (hpg : ∀ (s : Shared) (H : Hp) (C : Addr) (cl : List (Str × Addr)) (fp : List Addr) (xe : Value → Shared → Prop), PG (Cx.blkx X s H scope (compEnvC scope cl C X.env) fp xe) tg g)
    (hpe : ∀ (σ0 : L2.St) (s : Shared) (H : Hp) (C : Addr) (cl : List (Str × Addr)) (fp : List Addr) (xe : Value → Shared → Prop), (∀ σ', PassesAt (L2.CX X.prog X.w) (Cx.blkx X s H scope (compEnvC scope cl C X.env) fp xe) σ' (fun cls d H' => W cls d σ0 H')) → PE (Cx.blkx X s H scope (compEnvC scope cl C X.env) fp xe) elt (te σ0))
    (hfs : ∀ x, foldedSetIterable iter X.env x = pure x := by intro _; rfl) : PE X (.ListComp elt [⟨tg, iter, [], 0⟩] scope pos) (tLcx wi g te (own.map (·.2))) := by
  refine ⟨fun pins s σ H Q I0 hq => ?_⟩
  rw [eval_ListComp]
  have free0 : ∀ y ∈ scope.names, y.2 = .free → ∃ c, X.env.cells.lookup y.1 = some c := fun y hy e => (bo.free y hy e).elim (fun k => I0.ok.has _ (.inl k)) fun k => I0.ok.has _ (.inr k)
  refine comprehension_at (use := none) rfl hfs (closure_ok free0) bo.kind (fun y hy e => by rw [bo.uniq y hy, e]) ?_
  refine thn (hit.run pins s σ H _ I0 hq) fun xv sa hx => thn hx fun itv sb hb => ?_
  obtain ⟨it, fp, tn, J, Hb, rfl, Ib, T, stb, fb, more⟩ := hb
  refine wpAny_newObj_type (newEnv_comp ?_) (Nat.zero_le _)
  generalize hD : sb.heap.objs.size = D
  have freshD : Hb D = none := Ib.hok.fresh (Nat.le_of_eq hD)
  obtain ⟨V, ⟨m0, v0⟩, step⟩ := more D freshD
  generalize hsc : ({ sb with heap := sb.heap.push { cls := .type "list", data := .seq ([] : List Value).toArray } } : Shared) = sc
  have heapc : sc.heap = sb.heap.push { cls := .type "list", data := .seq ([] : List Value).toArray } := by rw [← hsc]
  have Ic : Inv X pins σ (upd Hb D (.lst [])) sc := by
    rw [← hsc]
    refine Ib.laid (t' := sb.toks) (fun b o e => Heap.get?_push_of_some _ e) (Nat.le_of_eq hD) ⟨Nat.zero_le _, [], 0, .nil, ?_⟩
    rw [← hD]
    exact Heap.get?_push_size _ rfl
  have fc : ∀ b ∈ fp, FpOk X pins (upd Hb D (.lst [])) b ∧ b < sc.heap.objs.size := fun b hb => by
    obtain ⟨o, e, _⟩ := T.obj _ _ stb b hb
    have lt := Heap.lt_size e
    refine ⟨⟨?_, (fb b hb).2⟩, by rw [heapc, Heap.size_push]; exact Nat.lt_succ_of_lt lt⟩
    rw [upd_ne (fun z => absurd (by rw [z, ← hD]) (Nat.ne_of_lt lt))]
    exact (fb b hb).1
  have stc : tn 0 sc.heap := T.keep _ _ _ stb fun b _ o e => by rw [heapc]; exact Heap.get?_push_of_some _ e
  have Id0 := block_start Ic bo hnd fc
  show codeAny _ _ (.compStart (.ListComp elt [⟨tg, iter, [], 0⟩] scope pos) 0 (.ref it) (.ref D) (compEnvC scope (cellsFrom (sc.heap.objs.size + 1) scope.names (cloFrom X.env.cells scope.names [])) sc.heap.objs.size X.env)) (compEnds (model X.prog X.w) X.A X.xe none (fun v s' => ∃ x H', Inv X pins σ H' s' ∧ RelV x v ∧ Q x H') (.ref D) (compEnvC scope (cellsFrom (sc.heap.objs.size + 1) scope.names (cloFrom X.env.cells scope.names [])) sc.heap.objs.size X.env)) { sc with heap := pushCells (sc.heap.push { cls := .type "dict", data := .dict #[] }) scope.names }
  have pg := fun fp xe => hpg sc (upd Hb D (.lst [])) sc.heap.objs.size (cellsFrom (sc.heap.objs.size + 1) scope.names (cloFrom X.env.cells scope.names [])) fp xe
  have pe := fun fp xe => hpe σ sc (upd Hb D (.lst [])) sc.heap.objs.size (cellsFrom (sc.heap.objs.size + 1) scope.names (cloFrom X.env.cells scope.names [])) fp xe
  generalize hce : compEnvC scope (cellsFrom (sc.heap.objs.size + 1) scope.names (cloFrom X.env.cells scope.names [])) sc.heap.objs.size X.env = ce at Id0 pg pe ⊢
  have lce : ce.locals = sc.heap.objs.size := by rw [← hce]; rfl
  have fce : ce.frame = X.env.frame := by rw [← hce]; rfl
  generalize hH : upd Hb D (.lst []) = Hc at Ic Id0 pg pe v0 fc
  generalize hsd : ({ sc with heap := pushCells (sc.heap.push { cls := .type "dict", data := .dict #[] }) scope.names } : Shared) = sd at Id0 ⊢
  have std : tn 0 sd.heap := T.keep _ _ _ stc fun b _ o e => by rw [← hsd]; exact pushCells_keeps _ _ _ _ (Heap.get?_push_of_some _ e)
  have none_fp : ∀ b ∈ fp, Hc b = none := fun b hb => (fc b hb).1.1
  let xe : Value → Shared → Prop := notedBy (model X.prog X.w) X.A ce fun e s' => CompFails (model X.prog X.w) X.A X.xe ce e s'
  have Id : Inv (Cx.blkx X sc Hc scope ce fp xe) [] (wipe σ (own.map (·.2))) Hc sd := wished Id0
  -- the def's own context, at any time in the block
  have around : ∀ {pins' : List (Addr × Obj)} {σ' : L2.St} {H' : Hp} {s' : Shared}, Inv (Cx.blkx X sc Hc scope ce fp xe) pins' σ' H' s' → Inv X pins σ H' s' ∧ FpOk X pins H' sc.heap.objs.size ∧ ∃ m, s'.heap.Ns sc.heap.objs.size m := fun {pins' σ' H' s'} I' => by
    have nC : H' sc.heap.objs.size = none := by
      rw [← lce]
      exact I'.free
    refine ⟨Ic.call' (ch := fp) I'.os I'.base I'.hok I'.bare fun b hb => ⟨(fc b hb).1.2.2.2.1, (fc b hb).1.2.1, (fc b hb).1.2.2.2.2.1, (fc b hb).1.2.2.2.2.2⟩, Ic.fpOk (Nat.le_refl _) nC, ?_⟩
    obtain ⟨m, hm, _⟩ := I'.loc
    rw [← lce]
    exact ⟨m, hm⟩
  have lets : ∀ σ', PassesAt (L2.CX X.prog X.w) (Cx.blkx X sc Hc scope ce fp xe) σ' (fun cls d H' => W cls d σ H') := fun σ' pins' H' s' e s'' I' c => by
    obtain ⟨Io, fC, m, nC⟩ := around I'
    exact out_of_block hst hfr tk Io fC nC (fun _ _ _ w => w) lce fce c
  have pgx := pg fp xe
  have pex := pe fp xe lets
  have stays : ∀ {σ' : L2.St} {H' : Hp} {s' : Shared}, Inv (Cx.blkx X sc Hc scope ce fp xe) [] σ' H' s' → (∀ b ∈ fp, H' b = none) → ∀ b ∈ fp, FpOk (Cx.blkx X sc Hc scope ce fp xe) [] H' b := fun {σ' H' s'} I' hn b hb => by
    obtain ⟨k1, k2⟩ := I'.ok.exf b hb
    exact ⟨hn b hb, k1, I'.ok.exfs b hb, .inl hb, fun x c e => k2 x c e, fun p hp => nomatch (show p ∈ ([] : List (Addr × Obj)) from hp)⟩
  have loop : codeAny (model X.prog X.w) X.A (.compLoop (.ListComp elt [⟨tg, iter, [], 0⟩] scope pos) 0 (.ref it) (.ref D) ce) (compEnds (model X.prog X.w) X.A X.xe none (fun v s' => ∃ x H', Inv X pins σ H' s' ∧ RelV x v ∧ Q x H') (.ref D) ce) sd := by
    refine compLoop_any (fun k z => ∃ i h, Inv (Cx.blkx X sc Hc scope ce fp xe) [] (wipe σ (own.map (·.2))) h z ∧ tn i z.heap ∧ (∀ b ∈ fp, h b = none) ∧ V i k h) ?_ m0 ⟨0, Hc, Id, std, none_fp, v0⟩
    rintro k z ⟨i, h, J1, tz, nz, vz⟩
    rcases step i k h vz with ⟨halt, qq⟩ | ⟨going, Nx, less, body⟩
    · refine thnF (T.done (Cx.blkx X sc Hc scope ce fp xe) rfl rfl rfl hcm i [] z _ h (fun _ _ => False) J1 (stays J1 nz) tz halt) fun r z1 ⟨hr, J2⟩ => ?_
      subst hr
      obtain ⟨J3, ⟨f0, f1, f2, f3, f4, f5⟩, m, nC⟩ := around J2
      refine ⟨m, by rw [lce]; exact nC, fun h' sb => ?_⟩
      rw [lce] at sb
      exact ⟨.ref D, h, J3.turned (t' := z1.toks) (fun b o hb e => (sb.2 b hb).trans e) f0 f1 f3 f4 f5, rfl, qq⟩
    · refine thnF (T.item (Cx.blkx X sc Hc scope ce fp xe) rfl rfl rfl hcm i [] z _ h (fun _ _ => False) J1 (stays J1 nz) tz going) fun r z1 ⟨u, hr, h6⟩ => ?_
      subst hr
      refine thnF h6 fun _ z2 ⟨x, h2, J2, rx, yx, t2, n2⟩ => ?_
      have J2' := J2.pinned (stays J2 n2) (T.obj _ _ t2)
      refine wpAny_mono (pgx.run _ z2 _ h2 x u _ J2' rx (body x h2 yx)) (fun _ z3 ⟨σ3, h3, J3, same3, q3⟩ => ?_) fun _ _ y => y
      refine wpAny_tests_nil ?_
      have q3 : te σ σ3 h3 fun y H4 => ∃ acc, H4 D = some (.lst acc) ∧ acc.length < sizeLine ∧ Nx (upd H4 D (.lst (acc ++ [y]))) := q3
      rw [if_pos rfl]
      refine wpAny_mono (pex.run _ z3 σ3 h3 _ J3 q3) (fun y z4 ⟨yv, h4, J4, ry, acc, hacc, hlt, nx⟩ => ?_) fun _ _ y => y
      refine app_ok (X := Cx.blkx X sc Hc scope ce fp xe) J4 hacc hlt ry fun z5 J5 => ?_
      obtain ⟨k', lt, v'⟩ := less _ nx
      have kept : ∀ b ∈ fp, ∀ o, z2.heap.get? b = some o → z5.heap.get? b = some o ∧ _ = none := fun b hb o e =>
        let p := J5.pin (b, o) (List.mem_append_right _ (List.mem_append_right _ (mem_pinsAt hb e)))
        ⟨p.1, p.2.1⟩
      have len : (wipe σ (own.map (·.2))).length = σ3.length := by rw [← same3, wipe_length]
      refine ⟨k', lt, i + 1, _, (J5.unpinned (pins := [])).weak len (fun j v e => ?_), T.keep _ _ _ t2 fun b hb o e => (kept b hb o e).1, fun b hb => ?_, v'⟩
      · rw [← same3] at e
        exact (wipe_some e).1
      · obtain ⟨o, e, _⟩ := T.obj _ _ t2 b hb
        exact (kept b hb o e).2
  exact codeAny_compStart_list loop (T.self X.A 0 _ _ _ std loop)
end
/-! ### over data -/
def compLX (t : Tgt) (el : Ef) (ρ : Nv) (n : Nat) : Nat → Nat → Sto → Out (List D)
  | 0, i, S => match S[n]? with
    | some (.rcd es) => if es.length = i then .ok [] S else .bad
    | _ => .bad
  | k + 1, i, S => match S[n]? with
    | some (.rcd es) => match es[i]? with
      | some d => match t d ρ with
        | none => .bad
        | some ρ1 => (el ρ1 S).bind (fun x S2 => match x with
            | .p d' => (compLX t el ρ n k (i + 1) S2).bind fun r S3 => Out.ok (d' :: r) S3
            | .hnd _ => .bad)
      | none => .bad
    | _ => .bad
/-- [el for target in list], the list of anything; el may raise -/
def dCompX (vs : List Nat) (f : Ef) (t : Tgt) (el : Ef) : Ef := fun ρ S => (f ρ S).bind fun d S1 => match d with
  | .hnd n => match S1[n]? with
    | some (.rcd es) => if es.length ≤ big then (compLX t el (wipeN ρ vs) n es.length 0 S1).bind (fun r S2 => .ok (.p (.lst r)) S2) else .bad
    | _ => .bad
  | _ => .bad
section
variable {X : Cx} {G : Gx} {W : WX} {e o : Expr} {ef eg : Ef} {pos apos p : Pos} {H B : Hp} {φ : List Addr} {S : Sto} {σ : L2.St} {ρ : Nv}
theorem compX_le {own : List (Str × Nat)} {f : Ef} {ts : List Nat} {t : Tgt} {el : Ef} (hts : ∀ i ∈ ts, i ∈ own.map (·.2)) :
    ∀ σ H Q, tD G W (dCompX (own.map (·.2)) f t el) σ H Q → tLcx (iList G.K (tD G W f)) (tG G ts t) (fun σ0 => tD G (fun cls d _ H' => W cls d σ0 H') el) (own.map (·.2)) σ H Q := by
  rintro σ H Q ⟨ρ, B, φ, S, w, en, h⟩
  show tD G W f σ H _
  refine tD.run w en (WP.fst h) fun d v H1 B1 φ1 S1 x1 w1 en0 r1 q1 => ?_
  split at q1
  · rename_i n
    split at q1
    · rename_i es0 hs0
      split at q1
      · rename_i hbig
        obtain ⟨p, hφ, rfl⟩ := r1
        have c0 : CellR G H1 B1 φ1 p (.rcd es0) := w1.cell n p _ hφ hs0
        obtain ⟨_, xs0, hx0, _⟩ := c0
        refine ⟨p, rfl, ⟨xs0, SqL.of hx0⟩, ?_⟩
        generalize hL : es0.length = L at *
        intro D hD
        have en1 := en0.wipe (own.map (·.2))
        generalize hvs : own.map (·.2) = vs at *
        have nD1 : D ∉ φ1 := w1.fresh hD
        refine ⟨fun i m H => ∃ B φ S acc av, Wd G H B φ S ∧ Xt H1 B1 φ1 H B φ ∧ B D = none ∧ D ∉ φ ∧ H D = some (.lst av) ∧ Reps G B acc av ∧ acc.length ≤ i ∧ m + i = L ∧
            WP G W σ H1 B1 φ1 ((compLX t el (wipeN ρ vs) n m i S).bind fun r S2 => Out.ok (Dv.p (DL.D.lst (acc ++ r))) S2) (fun d H' B' φ' _ => ∀ v, RepV G B' φ' d v → Q v H'),
          ⟨L, B1, φ1, S1, [], [], w1.hide hD, Xt.hide w1 hD, w1.bfree hD, nD1, upd_same, Reps.nil, Nat.le_refl _, Nat.add_zero _, q1⟩, ?_⟩
        rintro i m H ⟨B, φ, S, acc, av, w, x, hb, hf, hh, rr, hai, hmi, q⟩
        have hφ' : φ[n]? = some p := by
          obtain ⟨tt, rfl⟩ := x.p
          rw [List.getElem?_append_left (List.getElem?_eq_some_iff.mp hφ).1]; exact hφ
        cases m with
        | zero =>
          unfold compLX at q
          split at q
          · rename_i es hs
            split at q
            · rename_i hl
              have c1 : CellR G H B φ p (.rcd es) := w.cell n p _ hφ' hs
              obtain ⟨_, xs, hx, rx⟩ := c1
              refine .inl ⟨⟨xs, SqL.of hx, by rw [← rx.length]; omega⟩, ?_⟩
              have q : WP G W σ H1 B1 φ1 (.ok (.p (.lst (acc ++ []))) S) (fun d H' B' φ' _ => ∀ v, RepV G B' φ' d v → Q v H') := q
              rw [List.append_nil] at q
              have sb : Same B (upd B D (.lst av)) := same_upd' hb
              refine q H (upd B D (.lst av)) φ ⟨x.b.trans sb, x.p, fun a u h1 h2 h3 => ?_⟩ (w.adopt hh hb hf) _ (rep_lst.mpr ⟨D, av, rfl, upd_same, Reps.mono sb _ rr⟩)
              have na : a ≠ D := ne_of_none h1 hD
              rw [upd_ne na]
              exact x.out a u h1 h2 h3
            · exact q.elim
          · exact q.elim
        | succ m =>
          unfold compLX at q
          split at q
          · rename_i es hs
            split at q
            · rename_i d hd
              have c1 : CellR G H B φ p (.rcd es) := w.cell n p _ hφ' hs
              obtain ⟨_, xs, hx, rx⟩ := c1
              obtain ⟨u0, hu0, ru0⟩ := rx.get hd
              refine .inr ⟨⟨xs, u0, SqL.of hx, hu0⟩, fun H' => ∃ B φ S acc av, Wd G H' B φ S ∧ Xt H1 B1 φ1 H' B φ ∧ B D = none ∧ D ∉ φ ∧ H' D = some (.lst av) ∧ Reps G B acc av ∧ acc.length ≤ i + 1 ∧
                WP G W σ H1 B1 φ1 ((compLX t el (wipeN ρ vs) n m (i + 1) S).bind fun r S2 => Out.ok (Dv.p (DL.D.lst (acc ++ r))) S2) (fun d H' B' φ' _ => ∀ v, RepV G B' φ' d v → Q v H'), ?_, ?_⟩
              · rintro H' ⟨B', φ', S', acc', av', w', x', hb', hf', hh', rr', hai', q'⟩
                exact ⟨m, Nat.lt_succ_self _, B', φ', S', acc', av', w', x', hb', hf', hh', rr', hai', by omega, q'⟩
              · intro y H' hy
                obtain ⟨eH, hy⟩ := hy
                subst eH
                have ey : y = u0 := Option.some.inj ((hy xs (SqL.of hx)).symm.trans hu0)
                subst ey
                refine ⟨wipeN ρ vs, B, φ, S, d, w, en1.mono x.b x.p, ru0, ?_⟩
                cases e1 : t d (wipeN ρ vs) with
                | none => rw [e1] at q; exact q.elim
                | some ρ1 =>
                  rw [e1] at q
                  dsimp only at q
                  refine fun σ2 en2 k2 => ⟨(k2 vs hts).trans (wipe_wipe vs fun _ z => z), ?_⟩
                  dsimp only [tYes]
                  rw [if_pos rfl]
                  refine ⟨ρ1, B, φ, S, w, en2, ?_⟩
                  cases e3 : el ρ1 S with
                  | bad => rw [e3] at q; exact q.elim
                  | exc e' S' =>
                    rw [e3] at q
                    intro H' B' φ' c dd x' w' r'
                    exact q H' B' φ' c dd (x.trans x') w' r'
                  | ok dv S4 =>
                    rw [e3] at q
                    cases dv with
                    | hnd n => exact q.elim
                    | p d' =>
                      have q : WP G W σ H1 B1 φ1 (((compLX t el (wipeN ρ vs) n m (i + 1) S4).bind fun r S3 => Out.ok (d' :: r) S3).bind fun r S2 => Out.ok (Dv.p (DL.D.lst (acc ++ r))) S2) (fun d H' B' φ' _ => ∀ v, RepV G B' φ' d v → Q v H') := q
                      rw [Out.bind_assoc] at q
                      intro H4 B4 φ4 x4 w4 v4 r4
                      obtain ⟨hh4, hb4, hf4⟩ := x4.out D _ hh hb hf
                      have x04 := x.trans x4
                      have rr4 : Reps G B4 acc av := Reps.mono x4.b _ rr
                      refine ⟨av, hh4, ?_, B4, φ4, S4, acc ++ [d'], av ++ [v4], w4.priv hb4 hf4, ⟨x04.b, x04.p, fun a u h1 h2 h3 => ?_⟩, hb4, hf4, upd_same, rr4.append (Reps.cons r4 Reps.nil), by rw [List.length_append]; show acc.length + 1 ≤ _; omega, ?_⟩
                      · rw [← rr4.length, ← big_eq]; omega
                      · have na : a ≠ D := ne_of_none h1 hD
                        rw [upd_ne na]
                        exact x04.out a u h1 h2 h3
                      · have e5 : (fun (r : List DL.D) (S2 : Sto) => (Out.ok (d' :: r) S2).bind fun r S2 => Out.ok (Dv.p (.lst (acc ++ r))) S2) = fun r S2 => Out.ok (Dv.p (.lst ((acc ++ [d']) ++ r))) S2 := by
                          funext r S2
                          show Out.ok (Dv.p (.lst (acc ++ (d' :: r)))) S2 = _
                          rw [List.append_assoc]; rfl
                        rw [← e5]
                        exact q
            · exact q.elim
          · exact q.elim
      · exact q1.elim
    · exact q1.elim
  · exact q1.elim
theorem de_compX {elt tg iter : Expr} {scope : Scope} {own : List (Str × Nat)} {f : Ef} {ts : List Nat} {t : Tgt} {el : Ef} {pos : Pos} (hst : X.stack = X.env :: X.outer) (hfr : X.env.frame = some X.env.locals) (tk : Takes X W) (hK : X.K = G.K) (hc : X.calm = true) (hN : X.N.Nodup) (hf : PE X iter (tD G W f)) (ok : BlkOk X.N X.env.scope scope own)
    (hts : ∀ i ∈ ts, i ∈ own.map (·.2))
    (hg : ∀ (s : Shared) (H : Hp) (C : Addr) (cl : List (Str × Addr)) (fp : List Addr) (xe : Value → Shared → Prop), PG (Cx.blkx X s H scope (compEnvC scope cl C X.env) fp xe) tg (tG G ts t))
    (he : ∀ (W' : WX) (s : Shared) (H : Hp) (C : Addr) (cl : List (Str × Addr)) (fp : List Addr) (xe : Value → Shared → Prop), (∀ σ', PassesAt (L2.CX X.prog X.w) (Cx.blkx X s H scope (compEnvC scope cl C X.env) fp xe) σ' (WE W' σ')) → PE (Cx.blkx X s H scope (compEnvC scope cl C X.env) fp xe) elt (tD G W' el))
    (hs : ∀ x, foldedSetIterable iter X.env x = pure x := by intro _; rfl) :
    PE X (.ListComp elt [⟨tg, iter, [], 0⟩] scope pos) (tD G W (dCompX (own.map (·.2)) f t el)) :=
  wkE (pe_lcx (te := fun σ0 => tD G (fun cls d _ H' => W cls d σ0 H') el) hst hfr tk hc hN (pi_list hf) ok hg (fun σ0 s H C cl fp xe h => he _ s H C cl fp xe h) hs) (by rw [hK]; exact compX_le hts)
theorem de_callEX {k n : Nat} {f : Addr} {fd : FuncData} {ps : List Str} {x : Str} {es : List Expr} {af : Af} {m : List Dv → Sto → Out Dv} (pa : ∀ σ, PassesAt (L2.CX X.prog X.w) X σ (WE W σ)) (F : FnOk X.prog X.w X.K X.mg X.base (L2.CX X.prog X.w) k f fd ps (spE G n m)) (hr : Room k X.A) (hg : Gl X x) (hm : X.mg x = some (.ref f)) (hk : PySem.W.keepIn X.K (.ref f) = true) (hb : Binds X.K fd ps [])
    (hn : ∀ ρ S xs S', af ρ S = .ok xs S' → xs.length = n)
    (ha : PA X (e :: es) (tA G W af)) (hdb : (x == ("__debug__" : Str)) = false := by decide) (he : starEach (e :: es) X.env = (false, eval e X.env) :: starEach es X.env := by rfl) (hpl : (backTo pos (starEach es X.env)).any (·.1) = false := by rfl) :
    PE X (.Call (.Name x p) (e :: es) [] pos) (tD G W (dCallE m af)) := by
  refine wkE (pe_callS F hr hg hm hk hb pa ha hdb he hpl) fun σ H Q ⟨ρ, B, φ, S, w, en, q⟩ => ?_
  cases qa : af ρ S with
  | bad => unfold dCallE at q; rw [qa] at q; exact q.elim
  | exc x0 S0 => unfold dCallE at q; rw [qa] at q; exact ⟨ρ, B, φ, S, w, en, by rw [qa]; exact q⟩
  | ok xs0 S0 =>
    have l0 := hn ρ S xs0 S0 qa
    refine ⟨ρ, B, φ, S, w, en, ?_⟩
    unfold dCallE at q
    rw [qa] at q ⊢
    intro H1 B1 φ1 x1 w1 vs r1
    have q1 : WP G W σ H1 B1 φ1 (m xs0 S0) (fun d H' B' φ' _ => ∀ v, RepV G B' φ' d v → Q v H') := WP.rebase x1 q
    refine ⟨B1, φ1, S0, xs0, w1, r1, l0, ?_⟩
    cases qm : m xs0 S0 with
    | bad => rw [qm] at q1; exact q1
    | ok d S' => rw [qm] at q1; exact q1
    | exc x S' => rw [qm] at q1; exact q1
end
/-! ### a pair of what a suite reads of its error -/
theorem tup2 (f g : Ef) (ρ : Nv) (S : Sto) : dTup (aCons f (aCons g aNil)) ρ S = (f ρ S).bind fun d S1 => (g ρ S1).bind fun d2 S2 => match allP [d, d2] with
    | some ds => if ds.length ≤ big then .ok (.p (.tup ds)) S2 else .bad
    | none => .bad := by
  unfold dTup aCons
  cases f ρ S with
  | bad => rfl
  | exc _ _ => rfl
  | ok d S1 =>
    show (((aCons g aNil ρ S1).bind fun xs S2 => Out.ok (d :: xs) S2).bind fun xs S1 => _) = _
    unfold aCons
    show ((((g ρ S1).bind fun x S2 => (aNil ρ S2).bind fun xs S2 => Out.ok (x :: xs) S2).bind fun xs S2 => Out.ok (d :: xs) S2).bind fun xs S1 => _) = (g ρ S1).bind fun d2 S2 => match allP [d, d2] with
      | some ds => if ds.length ≤ big then Out.ok (Dv.p (D.tup ds)) S2 else Out.bad
      | none => Out.bad
    cases g ρ S1 with
    | bad => rfl
    | exc _ _ => rfl
    | ok d2 S2 => rfl
section
variable {X : Cx} {G : Gx} {a : Addr} {ob : Obj} {cls : Value} {dd : Option Addr} {pn : List (Addr × Obj)} {i : Nat} {e e2 : Expr} {f g : Ex → Ef} {pos : Pos}
theorem xe_pair {x1} (h1 : PE (X.suite a ((a, ob) :: pn)) e (xD G i a cls dd f)) (h2 : PE (X.suite a ((a, ob) :: pn)) e2 (xD G i a cls dd g)) (s1 : starEach [e, e2] X.env = (false, eval e X.env) :: starEach [e2] X.env := by rfl) (s2 : starEach [e2] X.env = (false, eval e2 X.env) :: starEach [] X.env := by rfl) :
    PE (X.suite a ((a, ob) :: pn)) (.Tuple [e, e2] x1 pos) (xD G i a cls dd fun x => dTup (aCons (f x) (aCons (g x) aNil))) := by
  refine wkE (pe_tup (pa_cons h1 (pa_cons h2 pa_nil s2) s1)) fun σ H Q ⟨x, ρ, B, φ, S, w, en, hx, xr, h⟩ => ?_
  dsimp only at h
  rw [tup2] at h
  refine ⟨x, ρ, B, φ, S, w, en, hx, xr, (WP.fst h).mono fun d1 H1 B1 φ1 S1 y1 w1 q1 v1 r1 => ?_⟩
  refine ⟨x, ρ, B1, φ1, S1, w1, en.mono y1.b y1.p, hx, xr.mono y1.b, (WP.fst q1).mono fun d2 H2 B2 φ2 S2 y2 w2 q2 v2 r2 => ?_⟩
  split at q2
  · rename_i ds hd
    have rr := allP_rep (B := B2) (φ := φ2) (vs := [v1, v2]) hd ⟨v1, [v2], rfl, RepV.mono y2.b y2.p _ r1, v2, [], rfl, r2, rfl⟩
    split at q2
    · rename_i hl
      refine ⟨by rw [← rr.length, ← big_eq]; exact hl, fun p hp => q2 _ _ _ (Xt.alloc w2 hp) (w2.alloc hp) _ ?_⟩
      exact rep_tup.mpr ⟨p, [v1, v2], rfl, SqT.of upd_same, Reps.mono (same_upd' (w2.bfree hp)) _ rr⟩
    · exact q2.elim
  · exact q2.elim
end
end DL

namespace DL
open PySem L2
open PySem.Spec PyProof.Rows
/-! ### evaluation of mirrors, by simp only [..] -/
section
variable {α β : Type} {ρ ρ' : Nv} {S S' : Sto} {f g : Ef} {d e : D} {x y : Dv} {i j : Int} {n : Nat} {b : Bool} {st su : Sf} {c c' : Tf}
def OS.seq (o : OS) (g : Sf) : OS := match o with
  | .ok (.nx ρ') S' => g ρ' S'
  | .ok (.rt d) S' => .ok (.rt d) S'
  | .ok (.bk d) S' => .ok (.bk d) S'
  | .ok (.ct d) S' => .ok (.ct d) S'
  | .exc x ρ' S' => .exc x ρ' S'
  | .bad => .bad
theorem e_seq : sSeq st su ρ S = (st ρ S).seq su := rfl
theorem e_seq_nx : OS.seq (.ok (.nx ρ) S) su = su ρ S := rfl
theorem e_seq_rt : OS.seq (.ok (.rt x) S) su = .ok (.rt x) S := rfl
theorem e_seq_ite {p : Prop} [Decidable p] {o o' : OS} : OS.seq (if p then o else o') su = if p then o.seq su else o'.seq su := by split <;> rfl
theorem e_bind {a : α} {k : α → Sto → Out β} : (Out.ok a S).bind k = k a S := rfl
theorem e_bind_ite {p : Prop} [Decidable p] {o o' : Out α} {k : α → Sto → Out β} : (if p then o else o').bind k = if p then o.bind k else o'.bind k := by split <;> rfl
theorem e_toS {a : α} {k : α → Sto → OS} : (Out.ok a S).toS ρ k = k a S := rfl
theorem e_toS_ite {p : Prop} [Decidable p] {o o' : Out α} {k : α → Sto → OS} : (if p then o else o').toS ρ k = if p then o.toS ρ k else o'.toS ρ k := by split <;> rfl
theorem e_set : sSet n f ρ S = (f ρ S).toS ρ fun d S' => .ok (.nx (ρ.set n (some d))) S' := rfl
theorem e_ret : sRet f ρ S = (f ρ S).toS ρ fun d S' => .ok (.rt d) S' := rfl
theorem e_expr : sExpr f ρ S = (f ρ S).toS ρ fun _ S' => .ok (.nx ρ) S' := rfl
theorem e_nil : sNil ρ S = .ok (.nx ρ) S := rfl
theorem e_if : sIf c st su ρ S = (c ρ S).toS ρ fun b S' => if b = true then st ρ S' else su ρ S' := rfl
theorem e_par {i j : Nat} {a : Af} : sPar i j a ρ S = (a ρ S).toS ρ fun ds S' => match ds with
  | [d, e] => .ok (.nx ((ρ.set i (some d)).set j (some e))) S'
  | _ => .bad := rfl
theorem e_name : dName n ρ S = match ρ[n]? with
  | some (some d) => .ok d S
  | _ => .bad := rfl
theorem e_C : dC d ρ S = .ok (.p d) S := rfl
theorem e_bin {op : Op2} : dBin op f g ρ S = (f ρ S).bind fun x S1 => (g ρ S1).bind fun y S2 => op x y S2 := rfl
theorem e_un {op : Op1} : dUn op f ρ S = (f ρ S).bind op := rfl
theorem e_ifx : dIf c f g ρ S = (c ρ S).bind fun b S1 => if b = true then f ρ S1 else g ρ S1 := rfl
theorem e_aNil : aNil ρ S = .ok [] S := rfl
theorem e_aCons {r : Af} : aCons f r ρ S = (f ρ S).bind fun x S1 => (r ρ S1).bind fun xs S2 => .ok (x :: xs) S2 := rfl
theorem e_call {op : OpN} {a : Af} : dCall op a ρ S = (a ρ S).bind op := rfl
theorem e_cVal : cVal f ρ S = (f ρ S).bind fun d S1 => match d with
  | .p (.bl b) => .ok b S1
  | _ => .bad := rfl
theorem e_cNot : cNot c ρ S = (c ρ S).bind fun b S1 => .ok (!b) S1 := rfl
theorem e_cAnd : cAnd c c' ρ S = (c ρ S).bind fun b S1 => if b = true then c' ρ S1 else .ok false S1 := rfl
theorem e_cOr : cOr c c' ρ S = (c ρ S).bind fun b S1 => if b = true then .ok true S1 else c' ρ S1 := rfl
theorem e_and : dAnd f g ρ S = (f ρ S).bind fun d S1 => match d with
  | .p (.bl b) => if b = true then g ρ S1 else .ok (.p (.bl false)) S1
  | _ => .bad := rfl
theorem e_or : dOr f g ρ S = (f ρ S).bind fun d S1 => match d with
  | .p (.bl b) => if b = true then .ok (.p (.bl true)) S1 else g ρ S1
  | _ => .bad := rfl
theorem e_not : dNot f ρ S = (f ρ S).bind fun d S1 => match d with
  | .p (.bl b) => .ok (.p (.bl (!b))) S1
  | _ => .bad := rfl
theorem e_add : oAdd (.p (.int i)) (.p (.int j)) S = .ok (.p (.int (i + j))) S := rfl
theorem e_sub : oSub (.p (.int i)) (.p (.int j)) S = .ok (.p (.int (i - j))) S := rfl
theorem e_lt : oLt (.p (.int i)) (.p (.int j)) S = .ok (.p (.bl (decide (i < j)))) S := rfl
theorem e_le : oLe (.p (.int i)) (.p (.int j)) S = .ok (.p (.bl (decide (i ≤ j)))) S := rfl
theorem e_gt : oGt (.p (.int i)) (.p (.int j)) S = .ok (.p (.bl (decide (j < i)))) S := rfl
theorem e_ge : oGe (.p (.int i)) (.p (.int j)) S = .ok (.p (.bl (decide (j ≤ i)))) S := rfl
theorem e_mul : oMul (.p (.int i)) (.p (.int j)) S = if mulOk i j = true then .ok (.p (.int (i * j))) S else .bad := rfl
theorem e_mul1 (h : mulOk i j = true) : oMul (.p (.int i)) (.p (.int j)) S = .ok (.p (.int (i * j))) S := by rw [e_mul, if_pos h]
theorem mul_l (h : i.natAbs < 18446744073709551616) : mulOk i j = true := by unfold mulOk; simp [h]
theorem mul_r (h : j.natAbs < 18446744073709551616) : mulOk i j = true := by unfold mulOk; simp [h]
theorem mul_w (h : i.natAbs < wid) (h' : j.natAbs < wid) : mulOk i j = true := by unfold mulOk; simp [h, h']
theorem e_div (h : 0 < j) (h' : j.natAbs < wid) : oDiv (.p (.int i)) (.p (.int j)) S = .ok (.p (.int (i / j))) S := by
  show (if (decide (0 < j) && decide (j.natAbs < wid)) = true then _ else _) = _
  rw [decide_eq_true h, decide_eq_true h']; rfl
theorem e_mod (h : 0 < j) : oMod (.p (.int i)) (.p (.int j)) S = .ok (.p (.int (i % j))) S := by
  show (if decide (0 < j) = true then _ else _) = _
  rw [decide_eq_true h, if_pos rfl]
theorem e_neg : uNeg (.p (.int i)) S = .ok (.p (.int (-i))) S := rfl
theorem e_eqi : oEq (.p (.int i)) (.p (.int j)) S = .ok (.p (.bl (i == j))) S := rfl
theorem e_nei : oNe (.p (.int i)) (.p (.int j)) S = .ok (.p (.bl (!(i == j)))) S := rfl
theorem shaped_str {z : Str} (h : PyData.strOk z = true) : SeqAt.shaped (.str z) = true := by
  unfold SeqAt.shaped PyData.canLay0 PyData.depth
  rw [h]; rfl
theorem e_eqs {z u : Str} (h : PyData.strOk z = true) (h' : PyData.strOk u = true) : oEq (.p (.str z)) (.p (.str u)) S = .ok (.p (.bl (z == u))) S := by
  show (if SeqAt.shaped (.str z) = true ∧ SeqAt.shaped (.str u) = true then _ else _) = _
  rw [if_pos ⟨shaped_str h, shaped_str h'⟩]; rfl
theorem e_isN : oIsN x (.p .non) S = .ok (.p (.bl (isN x))) S := rfl
theorem e_notN : oNotN x (.p .non) S = .ok (.p (.bl (!isN x))) S := rfl
theorem e_isN_p {d : D} : isN (.p d) = match d with
  | .non => true
  | _ => false := by cases d <;> rfl
theorem e_parts {ds : List D} (h : f ρ S = .ok (.p (.rul ds)) S') : dParts f ρ S = .ok (.p (.tup ds)) S' := by unfold dParts; rw [h]; rfl
theorem e_partsE : dParts f ρ S = (f ρ S).bind fun d S1 => match d with
  | .p (.rul ds) => .ok (.p (.tup ds)) S1
  | _ => .bad := rfl
theorem e_ixT {ds : List D} (k : Nat) (h : ds[k]? = some d) : oIx (.p (.tup ds)) (.p (.int (k : Nat))) S = .ok (.p d) S := by
  unfold oIx sqOf
  show (match atI ds (k : Nat) with | some d => _ | none => _) = _
  rw [atI_nat h]
theorem e_ixL {ds : List D} (k : Nat) (h : ds[k]? = some d) : oIx (.p (.lst ds)) (.p (.int (k : Nat))) S = .ok (.p d) S := by
  unfold oIx sqOf
  show (match atI ds (k : Nat) with | some d => _ | none => _) = _
  rw [atI_nat h]
theorem e_ixT0 {a : D} {r : List D} : oIx (.p (.tup (a :: r))) (.p (.int 0)) S = .ok (.p a) S := e_ixT 0 rfl
theorem e_ixT1 {a b : D} {r : List D} : oIx (.p (.tup (a :: b :: r))) (.p (.int 1)) S = .ok (.p b) S := e_ixT 1 rfl
theorem e_ixT2 {a b c : D} {r : List D} : oIx (.p (.tup (a :: b :: c :: r))) (.p (.int 2)) S = .ok (.p c) S := e_ixT 2 rfl
theorem e_ixT3 {a b c d : D} {r : List D} : oIx (.p (.tup (a :: b :: c :: d :: r))) (.p (.int 3)) S = .ok (.p d) S := e_ixT 3 rfl
theorem e_ixT4 {a b c d e : D} {r : List D} : oIx (.p (.tup (a :: b :: c :: d :: e :: r))) (.p (.int 4)) S = .ok (.p e) S := e_ixT 4 rfl
theorem e_ixL0 {a : D} {r : List D} : oIx (.p (.lst (a :: r))) (.p (.int 0)) S = .ok (.p a) S := e_ixL 0 rfl
theorem e_ixL1 {a b : D} {r : List D} : oIx (.p (.lst (a :: b :: r))) (.p (.int 1)) S = .ok (.p b) S := e_ixL 1 rfl
theorem e_ixL2 {a b c : D} {r : List D} : oIx (.p (.lst (a :: b :: c :: r))) (.p (.int 2)) S = .ok (.p c) S := e_ixL 2 rfl
theorem e_ixL3 {a b c d : D} {r : List D} : oIx (.p (.lst (a :: b :: c :: d :: r))) (.p (.int 3)) S = .ok (.p d) S := e_ixL 3 rfl
theorem e_ixL4 {a b c d e : D} {r : List D} : oIx (.p (.lst (a :: b :: c :: d :: e :: r))) (.p (.int 4)) S = .ok (.p e) S := e_ixL 4 rfl
theorem e_callP {m : List D → PO} {a : Af} : dCallP m a ρ S = (a ρ S).bind fun xs S1 => match allP xs with
  | some ds => match m ds with
    | .ok d => .ok (.p d) S1
    | .exc x => .exc x S1
    | .bad => .bad
  | none => .bad := rfl
theorem e_callE {m : List Dv → Sto → Out Dv} {a : Af} : dCallE m a ρ S = (a ρ S).bind fun xs S1 => m xs S1 := rfl
theorem e_allP {xs : List Dv} : allP (.p d :: xs) = (allP xs).map (d :: ·) := rfl
theorem e_allP0 : allP [] = some [] := rfl
theorem e_tup {a : Af} : dTup a ρ S = (a ρ S).bind fun xs S1 => match allP xs with
  | some ds => if ds.length ≤ big then .ok (.p (.tup ds)) S1 else .bad
  | none => .bad := rfl
theorem e_lst {a : Af} : dLst a ρ S = (a ρ S).bind fun xs S1 => match allP xs with
  | some ds => if ds.length ≤ big then .ok (.p (.lst ds)) S1 else .bad
  | none => .bad := rfl
theorem bg0 : (0 ≤ big) = True := by simp [big]
theorem bg1 : (0 + 1 ≤ big) = True := by simp [big]
theorem bg2 : (0 + 1 + 1 ≤ big) = True := by simp [big]
theorem bg3 : (0 + 1 + 1 + 1 ≤ big) = True := by simp [big]
theorem bg4 : (0 + 1 + 1 + 1 + 1 ≤ big) = True := by simp [big]
theorem bg5 : (0 + 1 + 1 + 1 + 1 + 1 ≤ big) = True := by simp [big]
theorem bg6 : (0 + 1 + 1 + 1 + 1 + 1 + 1 ≤ big) = True := by simp [big]
theorem bg7 : (0 + 1 + 1 + 1 + 1 + 1 + 1 + 1 ≤ big) = True := by simp [big]
theorem bg8 : (0 + 1 + 1 + 1 + 1 + 1 + 1 + 1 + 1 ≤ big) = True := by simp [big]
theorem bg9 : (0 + 1 + 1 + 1 + 1 + 1 + 1 + 1 + 1 + 1 ≤ big) = True := by simp [big]
theorem bg10 : (0 + 1 + 1 + 1 + 1 + 1 + 1 + 1 + 1 + 1 + 1 ≤ big) = True := by simp [big]
theorem bg11 : (0 + 1 + 1 + 1 + 1 + 1 + 1 + 1 + 1 + 1 + 1 + 1 ≤ big) = True := by simp [big]
theorem bg12 : (0 + 1 + 1 + 1 + 1 + 1 + 1 + 1 + 1 + 1 + 1 + 1 + 1 ≤ big) = True := by simp [big]
theorem bg13 : (0 + 1 + 1 + 1 + 1 + 1 + 1 + 1 + 1 + 1 + 1 + 1 + 1 + 1 ≤ big) = True := by simp [big]
theorem bg14 : (0 + 1 + 1 + 1 + 1 + 1 + 1 + 1 + 1 + 1 + 1 + 1 + 1 + 1 + 1 ≤ big) = True := by simp [big]
end
/-! texts that are compared -/
section
theorem s_ll : (("left" : Str) == "left") = true := by decide +kernel
theorem s_lr : (("left" : Str) == "right") = false := by decide +kernel
theorem s_lm : (("left" : Str) == "middle") = false := by decide +kernel
theorem s_rl : (("right" : Str) == "left") = false := by decide +kernel
theorem s_rr : (("right" : Str) == "right") = true := by decide +kernel
theorem s_rm : (("right" : Str) == "middle") = false := by decide +kernel
theorem s_ml : (("middle" : Str) == "left") = false := by decide +kernel
theorem s_mr : (("middle" : Str) == "right") = false := by decide +kernel
theorem s_mm : (("middle" : Str) == "middle") = true := by decide +kernel
theorem s_an : (("anew" : Str) == "on") = false := by decide +kernel
theorem s_oo : (("on" : Str) == "on") = true := by decide +kernel
theorem s_aa : (("anew" : Str) == "anew") = true := by decide +kernel
theorem s_oa : (("on" : Str) == "anew") = false := by decide +kernel
theorem s_ff : (("fro" : Str) == "fro") = true := by decide +kernel
theorem s_sf : (("same" : Str) == "fro") = false := by decide +kernel
theorem s_kk : (("once" : Str) == "once") = true := by decide +kernel
theorem s_ka : (("once" : Str) == "always") = false := by decide +kernel
theorem s_ak : (("always" : Str) == "once") = false := by decide +kernel
theorem s_kv : (("always" : Str) == "always") = true := by decide +kernel
theorem s_ko : (("once" : Str) == "always") = false := s_ka
theorem k_l : PyData.strOk ("left" : Str) = true := by decide +kernel
theorem k_r : PyData.strOk ("right" : Str) = true := by decide +kernel
theorem k_m : PyData.strOk ("middle" : Str) = true := by decide +kernel
theorem k_an : PyData.strOk ("anew" : Str) = true := by decide +kernel
theorem k_on : PyData.strOk ("on" : Str) = true := by decide +kernel
theorem k_f : PyData.strOk ("fro" : Str) = true := by decide +kernel
theorem k_s : PyData.strOk ("same" : Str) = true := by decide +kernel
theorem k_o : PyData.strOk ("once" : Str) = true := by decide +kernel
theorem k_al : PyData.strOk ("always" : Str) = true := by decide +kernel
end
end DL

namespace Hn
open PySem L2 DL
open PySem.Spec PyProof.Rows
/-! mirrors of law_k12_whole_texts_refused, printed by gen.py -/
def t_OUTS : List D := [.int 0, .int 2, .int 3, .int 4, .int 5, .int 6, .int 7, .int 8, .int 9, .int 10, .int 11, .int 12, .int 13]
def t_POINTS : List D := [.str "start", .str "rows", .str "ways", .str "out", .str "kind"]
def tab_WORDS : List (Str × List D) := [("start", [.str "left", .str "middle", .str "right"]), ("rows", [.str "anew", .str "on"]), ("ways", [.str "fro", .str "same"]), ("kind", [.str "always", .str "once"])]
/-- 0 _law_script, 1 _law_seed, 2 _law_state, 3 _law_cell -/
def b_law_mix : Sf := (sSeq (sSet 2 (dName 1)) (sSeq (sFor (iSeq (dName 0)) (gN 3) (sSet 2 (dBin oMod (dCall nInt (aCons (dBin oAdd (dBin oAdd (dBin oMul (dName 2) (dC (.int 48271))) (dBin oMod (dCall nInt (aCons (dName 3) aNil)) (dC (.int 2147483629)))) (dC (.int 1))) aNil)) (dC (.int 2147483647))))) (sRet (dLstR (aCons (dName 2) (aCons (dCall nListC (aCons (dName 0) aNil)) (aCons (dC (.int 0)) (aCons (dC (.int 14)) aNil))))))))
def m_law_mix : List Dv → Sto → Out Dv := runE 2 b_law_mix
/-- 0 _law_h, 1 _law_bound, 2 _law_cell -/
def b_law_next : Sf := (sSeq (sSet 2 (dBin oIx (dBin oAdd (dBin oIx (dName 0) (dC (.int 1))) (dLst (aCons (dC (.int 0)) aNil))) (dBin oMod (dCall nInt (aCons (dBin oIx (dName 0) (dC (.int 2))) aNil)) (dCall nMax2 (aCons (dC (.int 1)) (aCons (dCall nLen (aCons (dBin oIx (dName 0) (dC (.int 1))) aNil)) aNil)))))) (sSeq (sIf (cVal (dBin oGe (dName 2) (dBin oPow (dC (.int 10)) (dC (.int 18))))) (sSeq (sSetI (dBin oIx (dName 0) (dC (.int 1))) (dBin oMod (dCall nInt (aCons (dBin oIx (dName 0) (dC (.int 2))) aNil)) (dCall nLen (aCons (dBin oIx (dName 0) (dC (.int 1))) aNil))) (dBin oDiv (dName 2) (dName 1))) (sRet (dBin oMod (dCall nInt (aCons (dName 2) aNil)) (dName 1)))) sNil) (sSeq (sSetI (dName 0) (dC (.int 0)) (dBin oMod (dCall nInt (aCons (dBin oAdd (dBin oAdd (dBin oMul (dBin oIx (dName 0) (dC (.int 0))) (dC (.int 48271))) (dBin oMul (dName 2) (dC (.int 69621)))) (dC (.int 11))) aNil)) (dC (.int 2147483647)))) (sSeq (sSetI (dName 0) (dC (.int 2)) (dBin oAdd (dBin oIx (dName 0) (dC (.int 2))) (dC (.int 1)))) (sRet (dBin oMod (dCall nInt (aCons (dBin oDiv (dBin oIx (dName 0) (dC (.int 0))) (dC (.int 7))) aNil)) (dName 1)))))))
def m_law_next : List Dv → Sto → Out Dv := runE 1 b_law_next
/-- 0 _law_h, 1 _law_start, 2 _law_out, 3 _law_rows, 4 _law_ways -/
def b_law_rule : Sf := (sSeq (sSet 1 (dBin oIx (dLst (aCons (dC (.str "left")) (aCons (dC (.str "right")) (aCons (dC (.str "middle")) aNil)))) (dCallE m_law_next (aCons (dName 0) (aCons (dC (.int 3)) aNil))))) (sSeq (sPar 3 4 (aCons (dBin oIx (dLst (aCons (dC (.str "anew")) (aCons (dC (.str "on")) aNil))) (dCallE m_law_next (aCons (dName 0) (aCons (dC (.int 2)) aNil)))) (aCons (dBin oIx (dLst (aCons (dC (.str "same")) (aCons (dC (.str "fro")) aNil))) (dCallE m_law_next (aCons (dName 0) (aCons (dC (.int 2)) aNil)))) aNil))) (sSeq (sSet 2 (dBin oIx (dLst (aCons (dC (.int 0)) (aCons (dC (.int 2)) (aCons (dC (.int 3)) (aCons (dC (.int 4)) (aCons (dC (.int 5)) (aCons (dC (.int 6)) (aCons (dC (.int 7)) (aCons (dC (.int 8)) (aCons (dC (.int 9)) (aCons (dC (.int 10)) (aCons (dC (.int 11)) (aCons (dC (.int 12)) (aCons (dC (.int 13)) aNil)))))))))))))) (dCallE m_law_next (aCons (dName 0) (aCons (dC (.int 13)) aNil))))) (sRet (dLst (aCons (dName 1) (aCons (dName 3) (aCons (dName 4) (aCons (dName 2) (aCons (dBin oIx (dLst (aCons (dC (.str "once")) (aCons (dC (.str "always")) aNil))) (dCallE m_law_next (aCons (dName 0) (aCons (dC (.int 2)) aNil)))) aNil))))))))))
def m_law_rule : List Dv → Sto → Out Dv := runE 4 b_law_rule
/-- 0 _law_h, 1 _law_rows, 2 _law_k, 3 _law_pick, 4 _law_words, 5 _law_at, 6 _law_more, 7 _law_new -/
def b_law_spoil : Sf := (sSeq (sSet 2 (dCallE m_law_next (aCons (dName 0) (aCons (dCall nLen (aCons (dName 1) aNil)) aNil)))) (sSeq (sSet 3 (dCallE m_law_next (aCons (dName 0) (aCons (dC (.int 7)) aNil)))) (sSeq (sIf (cVal (dBin oEq (dName 3) (dC (.int 0)))) (sRet (dIf (cVal (dBin oGt (dCall nLen (aCons (dName 1) aNil)) (dC (.int 1)))) (dBin oAdd (dSl (dName 1) pNo (pAt (dName 2))) (dSl (dName 1) (pAt (dBin oAdd (dName 2) (dC (.int 1)))) pNo)) (dName 1))) sNil) (sSeq (sIf (cVal (dBin oEq (dName 3) (dC (.int 1)))) (sRet (dBin oAdd (dBin oAdd (dSl (dName 1) pNo (pAt (dName 2))) (dSl (dName 1) (pAt (dName 2)) (pAt (dBin oAdd (dName 2) (dC (.int 1)))))) (dSl (dName 1) (pAt (dName 2)) pNo))) sNil) (sSeq (sIf (cVal (dBin oEq (dName 3) (dC (.int 2)))) (sRet (dBin oAdd (dSl (dName 1) (pAt (dName 2)) pNo) (dSl (dName 1) pNo (pAt (dName 2))))) sNil) (sSeq (sSet 4 (dSplit (dBin oIx (dName 1) (dName 2)) (dC (.str " ")))) (sSeq (sSet 5 (dCallE m_law_next (aCons (dName 0) (aCons (dBin oAdd (dCall nLen (aCons (dName 4) aNil)) (dC (.int 1))) aNil)))) (sSeq (sIf (cVal (dBin oEq (dName 3) (dC (.int 3)))) (sRet (dBin oAdd (dBin oAdd (dSl (dName 1) pNo (pAt (dName 2))) (dLst (aCons (dJoin (dC (.str " ")) (dSl (dName 4) pNo (pAt (dName 5)))) aNil))) (dSl (dName 1) (pAt (dBin oAdd (dName 2) (dC (.int 1)))) pNo))) sNil) (sSeq (sSet 6 (dLst (aCons (dC (.str "0")) (aCons (dC (.str "1")) (aCons (dC (.str "2")) (aCons (dC (.str "13")) (aCons (dC (.str "14")) (aCons (dC (.str "03")) (aCons (dC (.str "-1")) (aCons (dC (.str "1000000")) (aCons (dC (.str "1000001")) (aCons (dC (.str "rule")) (aCons (dC (.str "ticket")) (aCons (dC (.str "on")) (aCons (dC (.str "fro")) (aCons (dC (.str "left")) (aCons (dC (.str "?")) aNil))))))))))))))))) (sSeq (sSet 7 (dBin oAdd (dBin oAdd (dSl (dName 4) pNo (pAt (dName 5))) (dLst (aCons (dBin oIx (dName 6) (dCallE m_law_next (aCons (dName 0) (aCons (dCall nLen (aCons (dName 6) aNil)) aNil)))) aNil))) (dSl (dName 4) (pAt (dBin oAdd (dName 5) (dCall nInt (aCons (dBin oGt (dName 3) (dC (.int 4))) aNil)))) pNo))) (sRet (dBin oAdd (dBin oAdd (dSl (dName 1) pNo (pAt (dName 2))) (dLst (aCons (dJoin (dC (.str " ")) (dName 7)) aNil))) (dSl (dName 1) (pAt (dBin oAdd (dName 2) (dC (.int 1)))) pNo)))))))))))))
def m_law_spoil : List Dv → Sto → Out Dv := runE 6 b_law_spoil
/-- 0 self -/
def b_Line_refuse : Sf := (sRaiseA 1 2 (aCons (dFld "at" (dName 0)) (aCons (dBin oAdd (dFld "spot" (dName 0)) (dC (.int 1))) aNil)))
def m_Line_refuse : List Dv → Sto → Out Dv := runE 0 b_Line_refuse
/-- 0 self, 1 words -/
def b_Line_take : Sf := (sSeq (sIf (cOr (cVal (dBin oEq (dFld "spot" (dName 0)) (dCall nLen (aCons (dFld "pieces" (dName 0)) aNil)))) (cVal (dBin (oInS true) (dBin oIx (dFld "pieces" (dName 0)) (dFld "spot" (dName 0))) (dName 1)))) (sExpr (dMethO "refuse" m_Line_refuse (dName 0) aNil)) sNil) (sSeq (sAugF "spot" (dName 0) (dC (.int 1))) (sRet (dBin oIx (dFld "pieces" (dName 0)) (dBin oSub (dFld "spot" (dName 0)) (dC (.int 1)))))))
def m_Line_take : List Dv → Sto → Out Dv := runE 0 b_Line_take
/-- 0 self -/
def b_Line_finish : Sf := (sIf (cVal (dBin oLt (dFld "spot" (dName 0)) (dCall nLen (aCons (dFld "pieces" (dName 0)) aNil)))) (sExpr (dMethO "refuse" m_Line_refuse (dName 0) aNil)) sNil)
def m_Line_finish : List Dv → Sto → Out Dv := runE 0 b_Line_finish
/-- 0 value, 1 least, 2 most -/
def b_is_integer : Sf := (sRet (dAnd (dIs "int" (dName 0)) (dAnd (dNot (dIs "bool" (dName 0))) (dChain oLe oLe (dName 1) (dName 0) (dName 2)))))
def m_is_integer : List D → DL.PO := runP 0 b_is_integer
/-- 0 point, 1 value -/
def b_is_of : Sf := (sSeq (sIf (cVal (dBin oEq (dName 0) (dC (.str "out")))) (sRet (dAnd (dCallP m_is_integer (aCons (dName 1) (aCons (dC (.int 0)) (aCons (dBin oIx (dC (.tup t_OUTS)) (dUn uNeg (dC (.int 1)))) aNil)))) (dBin (oInS false) (dName 1) (dC (.tup t_OUTS))))) sNil) (sRet (dAnd (dIs "str" (dName 1)) (dBin (oInS false) (dName 1) (dTab tab_WORDS (dName 0))))))
def m_is_of : List D → DL.PO := runP 0 b_is_of
/-- 0 self, 1 start, 2 rows, 3 ways, 4 out, 5 kind, 6 found, 7 point, 8 value -/
def b_Rule_init : Sf := (sSeq (sSet 6 (dTup (aCons (dName 1) (aCons (dName 2) (aCons (dName 3) (aCons (dName 4) (aCons (dName 5) aNil))))))) (sSeq (sFor (iZip (dC (.tup t_POINTS)) (dName 6)) (gT 2 (gsCons (gN 7) (gsCons (gN 8) gsNil))) (sIf (cNot (cVal (dCallP m_is_of (aCons (dName 7) (aCons (dName 8) aNil))))) sBad sNil)) (sParts 0 (dName 6))))
def m_Rule_init : List Dv → Sto → Out Dv := runE 3 b_Rule_init
/-- 0 point -/
def b_values_of : Sf := (sRet (dIf (cVal (dBin oEq (dName 0) (dC (.str "out")))) (dC (.tup t_OUTS)) (dTab tab_WORDS (dName 0))))
def m_values_of : List D → DL.PO := runP 0 b_values_of
/-- 0 line, 1 found, 2 point, 3 word, 4 value -/
def b_rule_in : Sf := (sSeq (sExpr (dMethO "take" m_Line_take (dName 0) (aCons (dTup (aCons (dC (.str "rule")) aNil)) aNil))) (sSeq (sSet 1 (dLstC aNil)) (sSeq (sFor (iSeq (dC (.tup t_POINTS))) (gN 2) (sSeq (sSet 3 (dMethO "take" m_Line_take (dName 0) (aCons (dComp [4] (iSeq (dCallP m_values_of (aCons (dName 2) aNil))) (gN 4) cYes (dCall nStr (aCons (dName 4) aNil))) aNil))) (sExpr (dApp (dName 1) (dIf (cVal (dBin oEq (dName 2) (dC (.str "out")))) (dCall nIntS (aCons (dName 3) aNil)) (dName 3)))))) (sSeq (sExpr (dMethO "finish" m_Line_finish (dName 0) aNil)) (sFz 1 (sRet (dMakeS 5 m_Rule_init (dName 1))))))))
def m_rule_in : List Dv → Sto → Out Dv := runE 4 b_rule_in
/-- 0 self, 1 text, 2 at, 3 word -/
def b_Line_init : Sf := (sSeq (sFldSet "at" (dName 0) (dName 2)) (sSeq (sFldSet "pieces" (dName 0) (dComp [3] (iSeq (dSplit (dName 1) (dC (.str " ")))) (gN 3) (cVal (dBin oNe (dName 3) (dC (.str "")))) (dName 3))) (sFldSet "spot" (dName 0) (dC (.int 0)))))
def m_Line_init : List Dv → Sto → Out Dv := runE 1 b_Line_init
/-- 0 word, 1 least, 2 most, 3 sign -/
def b_is_word : Sf := (sSeq (sIf (cOr (cNot (cVal (dCall nAll (aCons (dComp [3] (iStrF (dName 0)) (gN 3) cYes (dBin (oInC false) (dName 3) (dC (.str "0123456789")))) aNil)))) (cVal (dBin oGt (dCall nLenS (aCons (dName 0) aNil)) (dCall nLenS (aCons (dCall nStr (aCons (dName 2) aNil)) aNil))))) (sRet (dC (.bl false))) sNil) (sRet (dAnd (dOr (dBin oEq (dName 0) (dC (.str "0"))) (dBin oNe (dBin oIxS (dName 0) (dC (.int 0))) (dC (.str "0")))) (dChain oLe oLe (dName 1) (dCall nIntS (aCons (dName 0) aNil)) (dName 2)))))
def m_is_word : List D → DL.PO := runP 1 b_is_word
/-- 0 self, 1 least, 2 most -/
def b_Line_take_number : Sf := (sSeq (sIf (cOr (cVal (dBin oEq (dFld "spot" (dName 0)) (dCall nLen (aCons (dFld "pieces" (dName 0)) aNil)))) (cNot (cVal (dCallP m_is_word (aCons (dBin oIx (dFld "pieces" (dName 0)) (dFld "spot" (dName 0))) (aCons (dName 1) (aCons (dName 2) aNil))))))) (sExpr (dMethO "refuse" m_Line_refuse (dName 0) aNil)) sNil) (sSeq (sAugF "spot" (dName 0) (dC (.int 1))) (sRet (dCall nIntS (aCons (dBin oIx (dFld "pieces" (dName 0)) (dBin oSub (dFld "spot" (dName 0)) (dC (.int 1)))) aNil)))))
def m_Line_take_number : List Dv → Sto → Out Dv := runE 0 b_Line_take_number
/-- 0 line, 1 rows, 2 seats, 3 row, 4 found -/
def b_ticket_in : Sf := (sSeq (sExpr (dMethO "take" m_Line_take (dName 0) (aCons (dTup (aCons (dC (.str "ticket")) aNil)) aNil))) (sSeq (sSet 1 (dMethO "take_number" m_Line_take_number (dName 0) (aCons (dC (.int 1)) (aCons (dC (.int 1000000)) aNil)))) (sSeq (sSet 2 (dMethO "take_number" m_Line_take_number (dName 0) (aCons (dC (.int 1)) (aCons (dC (.int 1000000)) aNil)))) (sSeq (sSet 3 (dMethO "take_number" m_Line_take_number (dName 0) (aCons (dC (.int 0)) (aCons (dBin oSub (dName 1) (dC (.int 1))) aNil)))) (sSeq (sSet 4 (dTup (aCons (dName 1) (aCons (dName 2) (aCons (dName 3) (aCons (dMethO "take_number" m_Line_take_number (dName 0) (aCons (dC (.int 0)) (aCons (dBin oSub (dName 2) (dC (.int 1))) aNil))) (aCons (dMethO "take_number" m_Line_take_number (dName 0) (aCons (dC (.int 1)) (aCons (dC (.int 1000000000000000000000000000000)) aNil))) aNil))))))) (sSeq (sExpr (dMethO "finish" m_Line_finish (dName 0) aNil)) (sRet (dName 4))))))))
def m_ticket_in : List Dv → Sto → Out Dv := runE 4 b_ticket_in
/-- 0 text, 1 lines, 2 rule, 3 index, 4 row, 5 line -/
def b_read_tickets : Sf := (sSeq (sSet 1 (dCompR [3, 4] (iEnumX (dSplit (dName 0) (dC (.str "\n")))) (gT 2 (gsCons (gN 3) (gsCons (gN 4) gsNil))) cYes (dMakeO m_Line_init (aCons (dName 4) (aCons (dBin oAdd (dName 3) (dC (.int 1))) aNil))))) (sSeq (sSet 2 (dCallE m_rule_in (aCons (dBin oIx (dName 1) (dC (.int 0))) aNil))) (sRet (dTup (aCons (dName 2) (aCons (dCall nTuple (aCons (dCompX [5] (dSlR (dName 1) (pAt (dC (.int 1))) pNo) (gN 5) (dCallE m_ticket_in (aCons (dName 5) aNil))) aNil)) aNil))))))
def m_read_tickets : List D → DL.PO := runP 5 b_read_tickets
/-- 0 _law_text, 1 _law_told_here, 2 e -/
def b_law_told : Sf := (sSeq (sSet 1 (dC .non)) (sSeq (sTryC (sExpr (dCallP m_read_tickets (aCons (dName 0) aNil))) (.named (mtOne 2 1) 2 (fun x => sSet 1 ((fun x => dTup (aCons ((xFld 1 1) x) (aCons ((xFld 1 0) x) aNil))) x)) :: [])) (sRet (dName 1))))
def m_law_told : List D → DL.PO := runP 2 b_law_told
/-- 0 _law_words, 1 _law_good, 2 _law_k, 3 _law_out -/
def b_law_rule_bad : Sf := (sSeq (sSet 1 (dLst (aCons (dLst (aCons (dC (.str "rule")) aNil)) (aCons (dLst (aCons (dC (.str "left")) (aCons (dC (.str "right")) (aCons (dC (.str "middle")) aNil)))) (aCons (dLst (aCons (dC (.str "anew")) (aCons (dC (.str "on")) aNil))) (aCons (dLst (aCons (dC (.str "same")) (aCons (dC (.str "fro")) aNil))) aNil)))))) (sSeq (sSet 1 (dBin oAdd (dName 1) (dLst (aCons (dBin oAdd (dLst (aCons (dC (.str "0")) aNil)) (dComp [3] (iRng2 (dC (.int 2)) (dC (.int 14))) (gN 3) cYes (dCall nStr (aCons (dName 3) aNil)))) (aCons (dLst (aCons (dC (.str "once")) (aCons (dC (.str "always")) aNil))) aNil))))) (sSeq (sFor (iRng1 (dC (.int 6))) (gN 2) (sIf (cOr (cVal (dBin oLe (dCall nLen (aCons (dName 0) aNil)) (dName 2))) (cVal (dBin (oInS true) (dBin oIx (dName 0) (dName 2)) (dBin oIx (dName 1) (dName 2))))) (sRet (dBin oAdd (dName 2) (dC (.int 1)))) sNil)) (sRet (dIf (cVal (dBin oGt (dCall nLen (aCons (dName 0) aNil)) (dC (.int 6)))) (dC (.int 7)) (dC .non))))))
def m_law_rule_bad : List D → DL.PO := runP 3 b_law_rule_bad
/-- 0 _law_word, 1 _law_low, 2 _law_high, 3 _law_sign -/
def b_law_is_figures : Sf := (sSeq (sIf (cOr (cVal (dBin oEq (dName 0) (dC (.str "")))) (cVal (dBin oNe (dComp [3] (iStrF (dName 0)) (gN 3) (cVal (dBin (oInC true) (dName 3) (dC (.str "0123456789")))) (dName 3)) (dLst aNil)))) (sRet (dC (.bl false))) sNil) (sRet (dAnd (dBin oLt (dCall nLenS (aCons (dName 0) aNil)) (dC (.int 40))) (dAnd (dBin oEq (dCall nStr (aCons (dCall nIntS (aCons (dName 0) aNil)) aNil)) (dName 0)) (dChain oLe oLe (dName 1) (dCall nIntS (aCons (dName 0) aNil)) (dName 2))))))
def m_law_is_figures : List D → DL.PO := runP 1 b_law_is_figures
/-- 0 _law_words, 1 _law_high, 2 _law_k, 3 _law_low, 4 _law_most -/
def b_law_ticket_bad : Sf := (sSeq (sIf (cVal (dBin oNe (dSl (dName 0) pNo (pAt (dC (.int 1)))) (dLst (aCons (dC (.str "ticket")) aNil)))) (sRet (dC (.int 1))) sNil) (sSeq (sSet 1 (dLst (aCons (dBin oPow (dC (.int 10)) (dC (.int 6))) (aCons (dBin oPow (dC (.int 10)) (dC (.int 6))) aNil)))) (sSeq (sFor (iRng2 (dC (.int 1)) (dC (.int 6))) (gN 2) (sSeq (sSet 3 (dIf (cVal (dBin (oInS false) (dName 2) (dTup (aCons (dC (.int 3)) (aCons (dC (.int 4)) aNil))))) (dC (.int 0)) (dC (.int 1)))) (sSeq (sSet 4 (dIf (cVal (dBin oLt (dName 2) (dC (.int 3)))) (dBin oIx (dName 1) (dBin oSub (dName 2) (dC (.int 1)))) (dIf (cVal (dBin oLt (dName 2) (dC (.int 5)))) (dBin oSub (dCall nIntS (aCons (dBin oIx (dName 0) (dBin oSub (dName 2) (dC (.int 2)))) aNil)) (dC (.int 1))) (dBin oPow (dC (.int 10)) (dC (.int 30)))))) (sIf (cOr (cVal (dBin oLe (dCall nLen (aCons (dName 0) aNil)) (dName 2))) (cNot (cVal (dCallP m_law_is_figures (aCons (dBin oIx (dName 0) (dName 2)) (aCons (dName 3) (aCons (dName 4) aNil))))))) (sRet (dBin oAdd (dName 2) (dC (.int 1)))) sNil)))) (sRet (dIf (cVal (dBin oGt (dCall nLen (aCons (dName 0) aNil)) (dC (.int 6)))) (dC (.int 7)) (dC .non))))))
def m_law_ticket_bad : List D → DL.PO := runP 4 b_law_ticket_bad
/-- 0 _law_text, 1 _law_rows, 2 _law_k, 3 _law_words, 4 _law_bad, 5 _law_word -/
def b_law_due : Sf := (sSeq (sSet 1 (dSplit (dName 0) (dC (.str "\n")))) (sSeq (sFor (iRng1 (dCall nLen (aCons (dName 1) aNil))) (gN 2) (sSeq (sSet 3 (dComp [5] (iSeq (dSplit (dBin oIx (dName 1) (dName 2)) (dC (.str " ")))) (gN 5) (cVal (dBin oNe (dName 5) (dC (.str "")))) (dName 5))) (sSeq (sSet 4 (dIf (cVal (dBin oEq (dName 2) (dC (.int 0)))) (dCallP m_law_rule_bad (aCons (dName 3) aNil)) (dCallP m_law_ticket_bad (aCons (dName 3) aNil)))) (sIf (cVal (dBin oNotN (dName 4) (dC .non))) (sRet (dTup (aCons (dBin oAdd (dName 2) (dC (.int 1))) (aCons (dName 4) aNil)))) sNil)))) (sRet (dC .non))))
def m_law_due : List D → DL.PO := runP 5 b_law_due
/-- 0 value, 1 rows, 2 seats, 3 row, 4 seat, 5 number -/
def b_is_ticket : Sf := (sSeq (sIf (cOr (cNot (cVal (dIs "tuple" (dName 0)))) (cVal (dBin oNe (dCall nLen (aCons (dName 0) aNil)) (dC (.int 5))))) (sRet (dC (.bl false))) sNil) (sSeq (sAsg (dName 0) (gT 5 (gsCons (gN 1) (gsCons (gN 2) (gsCons (gN 3) (gsCons (gN 4) (gsCons (gN 5) gsNil))))))) (sSeq (sIf (cOr (cNot (cVal (dCallP m_is_integer (aCons (dName 1) (aCons (dC (.int 1)) (aCons (dC (.int 1000000)) aNil)))))) (cOr (cNot (cVal (dCallP m_is_integer (aCons (dName 2) (aCons (dC (.int 1)) (aCons (dC (.int 1000000)) aNil)))))) (cNot (cVal (dCallP m_is_integer (aCons (dName 3) (aCons (dC (.int 0)) (aCons (dBin oSub (dName 1) (dC (.int 1))) aNil)))))))) (sRet (dC (.bl false))) sNil) (sRet (dAnd (dCallP m_is_integer (aCons (dName 4) (aCons (dC (.int 0)) (aCons (dBin oSub (dName 2) (dC (.int 1))) aNil)))) (dCallP m_is_integer (aCons (dName 5) (aCons (dC (.int 1)) (aCons (dC (.int 1000000000000000000000000000000)) aNil)))))))))
def m_is_ticket : List D → DL.PO := runP 5 b_is_ticket
/-- 0 tickets, 1 index, 2 ticket -/
def b_look_at_tickets : Sf := (sFor (iEnumX (dName 0)) (gT 2 (gsCons (gN 1) (gsCons (gN 2) gsNil))) (sIf (cNot (cVal (dCallP m_is_ticket (aCons (dName 2) aNil)))) (sRaiseA 0 1 (aCons (dName 1) aNil)) sNil))
def m_look_at_tickets : List D → DL.PO := runP 2 b_look_at_tickets
/-- 0 rule, 1 tickets, 2 rows, 3 ticket, 4 part -/
def b_write_tickets : Sf := (sSeq (sExpr (dCallP m_look_at_tickets (aCons (dName 1) aNil))) (sSeq (sSet 2 (dLst (aCons (dJoin (dC (.str " ")) (dLst (aCons (dC (.str "rule")) (aStar (dComp [4] (iSeq (dParts (dName 0))) (gN 4) cYes (dCall nStr (aCons (dName 4) aNil))) aNil)))) aNil))) (sRet (dJoin (dC (.str "\n")) (dLst (aStar (dName 2) (aStar (dComp [3] (iSeq (dName 1)) (gN 3) cYes (dJoin (dC (.str " ")) (dLst (aCons (dC (.str "ticket")) (aStar (dComp [4] (iSeq (dName 3)) (gN 4) cYes (dCall nStr (aCons (dName 4) aNil))) aNil))))) aNil)))))))
def m_write_tickets : List D → DL.PO := runP 3 b_write_tickets
/-- 0 _law_t -/
def b_law_built : Sf := (sRet (dMake m_Rule_init (aCons (dBin oIx (dName 0) (dC (.int 0))) (aCons (dBin oIx (dName 0) (dC (.int 1))) (aCons (dBin oIx (dName 0) (dC (.int 2))) (aCons (dBin oIx (dName 0) (dC (.int 3))) (aCons (dBin oIx (dName 0) (dC (.int 4))) aNil)))))))
def m_law_built : List D → DL.PO := runP 0 b_law_built
/-- 0 _law_h, 1 _law_rows, 2 _law_seats -/
def b_law_ticket : Sf := (sSeq (sPar 1 2 (aCons (dBin oAdd (dC (.int 1)) (dCallE m_law_next (aCons (dName 0) (aCons (dC (.int 12)) aNil)))) (aCons (dBin oAdd (dC (.int 1)) (dCallE m_law_next (aCons (dName 0) (aCons (dC (.int 12)) aNil)))) aNil))) (sRet (dTup (aCons (dName 1) (aCons (dName 2) (aCons (dCallE m_law_next (aCons (dName 0) (aCons (dName 1) aNil))) (aCons (dCallE m_law_next (aCons (dName 0) (aCons (dName 2) aNil))) (aCons (dBin oAdd (dC (.int 1)) (dCallE m_law_next (aCons (dName 0) (aCons (dC (.int 40)) aNil)))) aNil))))))))
def m_law_ticket : List Dv → Sto → Out Dv := runE 2 b_law_ticket
/-- 0 _law_script, 1 _law_h, 2 _law_t, 3 _law_rows, 4 _law_turn, 5 _law_text, 6 _law_k -/
def b_law : Sf := (sSeq (sSet 1 (dCallE m_law_mix (aCons (dName 0) (aCons (dC (.int 12)) aNil)))) (sSeq (sSet 2 (dCallE m_law_rule (aCons (dName 1) aNil))) (sSeq (sSet 3 (dSplit (dCallP m_write_tickets (aCons (dCallP m_law_built (aCons (dName 2) aNil)) (aCons (dComp [6] (iRng1 (dCallE m_law_next (aCons (dName 1) (aCons (dC (.int 4)) aNil)))) (gN 6) cYes (dCallE m_law_ticket (aCons (dName 1) aNil))) aNil))) (dC (.str "\n")))) (sSeq (sFor (iRng1 (dCallE m_law_next (aCons (dName 1) (aCons (dC (.int 3)) aNil)))) (gN 4) (sSet 3 (dCallE m_law_spoil (aCons (dName 1) (aCons (dName 3) aNil))))) (sSeq (sSet 5 (dJoin (dC (.str "\n")) (dName 3))) (sSeq (sIf (cVal (dBin oNe (dCallP m_law_told (aCons (dName 5) aNil)) (dCallP m_law_due (aCons (dName 5) aNil)))) (sRet (dC (.bl false))) sNil) (sRet (dAnd (dBin oEq (dCallP m_law_told (aCons (dC (.str "")) aNil)) (dTup (aCons (dC (.int 1)) (aCons (dC (.int 1)) aNil)))) (dBin oEq (dCallP m_law_told (aCons (dC (.str "rule left on same 0 once\n")) aNil)) (dTup (aCons (dC (.int 2)) (aCons (dC (.int 1)) aNil))))))))))))
def m_law : List Dv → Sto → Out Dv := runE 6 b_law
/-! ### the mathematics that the laws share -/
structure Ru where
  s : Str
  r : Str
  w : Str
  o : Int
  k : Str
def okO (o : Int) : Prop := o = 0 ∨ (2 ≤ o ∧ o ≤ 13)
structure Ru.ok (t : Ru) : Prop where
  hs : t.s = "left" ∨ t.s = "right" ∨ t.s = "middle"
  hr : t.r = "anew" ∨ t.r = "on"
  hw : t.w = "same" ∨ t.w = "fro"
  ho : okO t.o
  hk : t.k = "once" ∨ t.k = "always"
def ruD (r : Ru) : List D := [.str r.s, .str r.r, .str r.w, .int r.o, .str r.k]
theorem okO_cases {o : Int} (h : okO o) : o = 0 ∨ o = 2 ∨ o = 3 ∨ o = 4 ∨ o = 5 ∨ o = 6 ∨ o = 7 ∨ o = 8 ∨ o = 9 ∨ o = 10 ∨ o = 11 ∨ o = 12 ∨ o = 13 := by unfold okO at h; omega
/-! numbers -/
def numAt (o : Int) (k : Str) (p : Int) : Int := if o = 0 then p + 1 else if (k == "always") = true then p + 1 + p / (o - 1) else if p + 1 < o then p + 1 else p + 2
def ordOf (s : Str) (seats seat : Int) : Int := if (s == "left") = true then seat else if (s == "right") = true then seats - 1 - seat else if seat - (seats - 1) / 2 > 0 then 2 * (seat - (seats - 1) / 2) - 1 else -2 * (seat - (seats - 1) / 2)
def mir (w : Str) (row : Int) : Bool := w == "fro" && row % 2 == 1
def placeOf (r : Ru) (seats row seat : Int) : Int := if (r.r == "on") = true then ordOf r.s seats (if mir r.w row = true then seats - 1 - seat else seat) + row * seats else ordOf r.s seats (if mir r.w row = true then seats - 1 - seat else seat)
def ownNum (r : Ru) (seats row seat : Int) : Int := numAt r.o r.k (placeOf r seats row seat)
theorem wid_big : 1000000000000000000000000000000000000000000000000000000000000000000000 < wid := by decide
/-! the laws' own account -/
def lawPlace (r : Ru) (seats row seat0 : Int) : Int :=
  let seat := if (r.w == "fro") = true ∧ row / 2 * 2 < row then seats - 1 - seat0 else seat0
  let mid := (seats + 1) / 2 - 1
  let found := if (r.s == "middle") = true then (if mid < seat then 2 * (seat - mid) - 1 else 2 * (mid - seat)) else if (r.s == "left") = true then seat else seats - 1 - seat
  if (r.r == "on") = true then found + seats * row else found
def lawNum (o : Int) (k : Str) (p : Int) : Int := if o = 0 ∨ ((k == "once") = true ∧ p < o - 1) then p + 1 else if (k == "once") = true then p + 2 else p / (o - 1) * o + (p - p / (o - 1) * (o - 1)) + 1
theorem num_same {o p : Int} {k : Str} (ho : okO o) (hk : k = "once" ∨ k = "always") : lawNum o k p = numAt o k p := by
  unfold okO at ho
  unfold lawNum numAt
  by_cases h0 : o = 0
  · simp [h0]
  · rcases hk with rfl | rfl
    · simp only [h0, s_kk, s_ko, false_or, true_and, if_false, if_true, Bool.false_eq_true]
      by_cases h1 : p < o - 1
      · rw [if_pos h1, if_pos (show p + 1 < o by omega)]
      · rw [if_neg h1, if_neg (show ¬ p + 1 < o by omega)]
    · simp only [h0, s_ak, s_kv, false_or, false_and, if_false, if_true, Bool.false_eq_true]
      have e : p / (o - 1) * (o - 1) = p / (o - 1) * o - p / (o - 1) := by rw [Int.mul_sub, Int.mul_one]
      omega
theorem place_same {r : Ru} (hr : r.ok) {seats row seat : Int} (h0 : 0 ≤ row) : lawPlace r seats row seat = placeOf r seats row seat := by
  obtain ⟨s, rr, w, o, k⟩ := r
  obtain ⟨h1, h2, h3, h4, h5⟩ := hr
  dsimp only at h1 h2 h3 h4 h5
  have em : (if (w == ("fro" : Str)) = true ∧ row / 2 * 2 < row then seats - 1 - seat else seat) = (if mir w row = true then seats - 1 - seat else seat) := by
    unfold mir
    rcases h3 with rfl | rfl
    · simp [s_sf]
    · simp only [s_ff, true_and, Bool.true_and, beq_iff_eq]
      by_cases h : row / 2 * 2 < row
      · rw [if_pos h, if_pos (by omega)]
      · rw [if_neg h, if_neg (by omega)]
  unfold lawPlace placeOf
  dsimp only
  rw [em]
  generalize (if mir w row = true then seats - 1 - seat else seat) = q
  have eo : (if (s == ("middle" : Str)) = true then (if (seats + 1) / 2 - 1 < q then 2 * (q - ((seats + 1) / 2 - 1)) - 1 else 2 * ((seats + 1) / 2 - 1 - q)) else if (s == ("left" : Str)) = true then q else seats - 1 - q) = ordOf s seats q := by
    unfold ordOf
    rcases h1 with rfl | rfl | rfl
    · simp [s_lm, s_ll]
    · simp [s_rm, s_rl, s_rr]
    · simp only [s_mm, s_ml, s_mr, if_true, if_false, Bool.false_eq_true]
      by_cases h : (seats + 1) / 2 - 1 < q
      · rw [if_pos h, if_pos (by omega)]; omega
      · rw [if_neg h, if_neg (by omega)]; omega
  rw [eo, Int.mul_comm row seats]
/-- the law's number of a seat is the program's -/
theorem own_same {r : Ru} (hr : r.ok) {seats row seat : Int} (h0 : 0 ≤ row) : lawNum r.o r.k (lawPlace r seats row seat) = ownNum r seats row seat := by
  rw [num_same hr.ho hr.hk, place_same hr h0]; rfl

/-! ### draws -/
/-- the state of the source of draws, and whatever cells came later -/
def Dr (S rest : Sto) : Prop := ∃ (st idx : Int) (ns : List Int), S = .lst (ns.map D.int) :: .rcd [.p (.int st), .hnd 0, .p (.int idx), .p (.int 14)] :: rest ∧ 0 ≤ idx ∧ ns.length ≤ 63
theorem mixL {x : Option Dv} (seed0 : D) (a0 : D) : ∀ (ns : List Int) (st : Int) (x : Option Dv), ∃ st' x', forL (gN 3) (sSet 2 (dBin oMod (dCall nInt (aCons (dBin oAdd (dBin oAdd (dBin oMul (dName 2) (dC (.int 48271))) (dBin oMod (dCall nInt (aCons (dName 3) aNil)) (dC (.int 2147483629)))) (dC (.int 1))) aNil)) (dC (.int 2147483647)))) (ns.map D.int) [some (.p a0), some (.p seed0), some (.p (.int st)), x] [] = .ok (.nx [some (.p a0), some (.p seed0), some (.p (.int st')), x']) []
  | [], st, x => ⟨st, x, rfl⟩
  | n :: ns, st, x => by
    have e2 : ∀ (i j : Int) (S : Sto), oMul (.p (.int i)) (.p (.int 48271)) S = .ok (.p (.int (i * 48271))) S := fun i j S => e_mul1 (mul_r (by decide))
    have e3 : ∀ (i : Int) (S : Sto), oMod (.p (.int i)) (.p (.int 2147483629)) S = .ok (.p (.int (i % 2147483629))) S := fun i S => e_mod (by decide)
    have e4 : ∀ (i : Int) (S : Sto), oMod (.p (.int i)) (.p (.int 2147483647)) S = .ok (.p (.int (i % 2147483647))) S := fun i S => e_mod (by decide)
    have e5 : ∀ (i : Int) (S : Sto), nInt [.p (.int i)] S = .ok (.p (.int i)) S := fun i S => rfl
    obtain ⟨st', x', e⟩ := mixL (x := x) seed0 a0 ns ((st * 48271 + n % 2147483629 + 1) % 2147483647) (some (.p (.int n)))
    refine ⟨st', x', ?_⟩
    rw [← e, List.map_cons]
    conv => lhs; unfold forL
    simp only [gN, e_seq, e_seq_nx, e_seq_rt, e_seq_ite, e_bind, e_bind_ite, e_toS, e_toS_ite, e_set, e_ret, e_expr, e_nil, e_if, e_name, e_C, e_bin, e_un, e_ifx, e_aNil, e_aCons, e_call, e_cVal, e_cNot, e_cAnd, e_cOr, e_and, e_or, e_not, e_add, e_sub, e_lt, e_le, e_gt, e_ge, e_neg, e_eqi, e_nei, e_isN, e_notN, e_partsE, e_ixT0, e_ixT1, e_ixT2, e_ixT3, e_ixT4, e_ixL0, e_ixL1, e_ixL2, e_ixL3, e_ixL4, e_callP, e_callE, e_allP, e_allP0, e_tup, e_lst, e_par, List.map_cons, List.map_nil, List.append_assoc, List.nil_append, List.cons_append, List.replicate, List.getElem?_cons_zero, List.getElem?_cons_succ, List.set_cons_zero, List.set_cons_succ, Option.map_some, if_true, if_false, Bool.false_eq_true, decide_eq_true_eq, List.length_cons, List.length_nil, bg0, bg1, bg2, bg3, bg4, bg5, bg6, bg7, bg8, bg9, bg10, bg11, bg12, bg13, bg14, e2 _ 0, e3, e4, e5]
theorem mix_eq (ns : List Int) (hl : ns.length ≤ 63) (seed : Int) : ∃ S, m_law_mix [.p (.scr ns), .p (.int seed)] [] = .ok (.hnd 1) S ∧ Dr S [] := by
  obtain ⟨st', x', e⟩ := mixL (x := none) (.int seed) (.scr ns) ns seed none
  refine ⟨_, ?_, st', 0, ns, rfl, by omega, hl⟩
  have e6 : ∀ (ns : List Int) (S : Sto), nListC [.p (.scr ns)] S = .ok (.hnd S.length) (S ++ [.lst (ns.map D.int)]) := fun ns S => rfl
  have e7 : iSeq (dName 0) [some (.p (.scr ns)), some (.p (.int seed)), some (.p (.int seed)), none] [] = .ok (ns.map D.int) [] := rfl
  have e8 : ∀ (st : Int), dLstR (aCons (dName 2) (aCons (dCall nListC (aCons (dName 0) aNil)) (aCons (dC (.int 0)) (aCons (dC (.int 14)) aNil)))) [some (.p (.scr ns)), some (.p (.int seed)), some (.p (.int st)), x'] [] = .ok (.hnd 1) [.lst (ns.map D.int), .rcd [.p (.int st), .hnd 0, .p (.int 0), .p (.int 14)]] := fun st => rfl
  simp only [m_law_mix, runE, init, b_law_mix, sFor, e7, e_seq, e_seq_nx, e_seq_rt, e_seq_ite, e_bind, e_bind_ite, e_toS, e_toS_ite, e_set, e_ret, e_expr, e_nil, e_if, e_name, e_C, e_bin, e_un, e_ifx, e_aNil, e_aCons, e_call, e_cVal, e_cNot, e_cAnd, e_cOr, e_and, e_or, e_not, e_add, e_sub, e_lt, e_le, e_gt, e_ge, e_neg, e_eqi, e_nei, e_isN, e_notN, e_partsE, e_ixT0, e_ixT1, e_ixT2, e_ixT3, e_ixT4, e_ixL0, e_ixL1, e_ixL2, e_ixL3, e_ixL4, e_callP, e_callE, e_allP, e_allP0, e_tup, e_lst, e_par, List.map_cons, List.map_nil, List.append_assoc, List.nil_append, List.cons_append, List.replicate, List.getElem?_cons_zero, List.getElem?_cons_succ, List.set_cons_zero, List.set_cons_succ, Option.map_some, if_true, if_false, Bool.false_eq_true, decide_eq_true_eq, List.length_cons, List.length_nil, bg0, bg1, bg2, bg3, bg4, bg5, bg6, bg7, bg8, bg9, bg10, bg11, bg12, bg13, bg14]
  rw [e]
  simp only [e_seq, e_seq_nx, e_seq_rt, e_seq_ite, e_bind, e_bind_ite, e_toS, e_toS_ite, e_set, e_ret, e_expr, e_nil, e_if, e_name, e_C, e_bin, e_un, e_ifx, e_aNil, e_aCons, e_call, e_cVal, e_cNot, e_cAnd, e_cOr, e_and, e_or, e_not, e_add, e_sub, e_lt, e_le, e_gt, e_ge, e_neg, e_eqi, e_nei, e_isN, e_notN, e_partsE, e_ixT0, e_ixT1, e_ixT2, e_ixT3, e_ixT4, e_ixL0, e_ixL1, e_ixL2, e_ixL3, e_ixL4, e_callP, e_callE, e_allP, e_allP0, e_tup, e_lst, e_par, List.map_cons, List.map_nil, List.append_assoc, List.nil_append, List.cons_append, List.replicate, List.getElem?_cons_zero, List.getElem?_cons_succ, List.set_cons_zero, List.set_cons_succ, Option.map_some, if_true, if_false, Bool.false_eq_true, decide_eq_true_eq, List.length_cons, List.length_nil, bg0, bg1, bg2, bg3, bg4, bg5, bg6, bg7, bg8, bg9, bg10, bg11, bg12, bg13, bg14, e8]
theorem next_eq {S rest : Sto} (h : Dr S rest) {b : Int} (hb : 0 < b) (hbw : b.natAbs < wid) : ∃ (k : Int) (S' : Sto), m_law_next [.hnd 1, .p (.int b)] S = .ok (.p (.int k)) S' ∧ 0 ≤ k ∧ k < b ∧ Dr S' rest := by
  obtain ⟨st, idx, ns, rfl, hi, hl⟩ := h
  have x1 : ∀ (c0 : List D) (st idx : Int) (r : Sto), oIx (.hnd 1) (.p (.int 1)) (.lst c0 :: .rcd [.p (.int st), .hnd 0, .p (.int idx), .p (.int 14)] :: r) = .ok (.hnd 0) (.lst c0 :: .rcd [.p (.int st), .hnd 0, .p (.int idx), .p (.int 14)] :: r) := fun _ _ _ _ => rfl
  have x0 : ∀ (c0 : List D) (st idx : Int) (r : Sto), oIx (.hnd 1) (.p (.int 0)) (.lst c0 :: .rcd [.p (.int st), .hnd 0, .p (.int idx), .p (.int 14)] :: r) = .ok (.p (.int st)) (.lst c0 :: .rcd [.p (.int st), .hnd 0, .p (.int idx), .p (.int 14)] :: r) := fun _ _ _ _ => rfl
  have x2 : ∀ (c0 : List D) (st idx : Int) (r : Sto), oIx (.hnd 1) (.p (.int 2)) (.lst c0 :: .rcd [.p (.int st), .hnd 0, .p (.int idx), .p (.int 14)] :: r) = .ok (.p (.int idx)) (.lst c0 :: .rcd [.p (.int st), .hnd 0, .p (.int idx), .p (.int 14)] :: r) := fun _ _ _ _ => rfl
  have ea : ∀ (r : Sto), oAdd (.hnd 0) (.p (.lst [.int 0])) (.lst (ns.map D.int) :: r) = .ok (.p (.lst (ns.map D.int ++ [.int 0]))) (.lst (ns.map D.int) :: r) := fun r => by
    show (if (ns.map D.int).length + [D.int 0].length ≤ big then Out.ok (Dv.p (.lst (ns.map D.int ++ [.int 0]))) _ else .bad) = _
    rw [if_pos (by rw [List.length_map]; show ns.length + 1 ≤ 16777216; omega)]
  have eL : ∀ (S : Sto), dLst (aCons (dC (.int 0)) aNil) [some (.hnd 1), some (.p (.int b)), none] S = .ok (.p (.lst [.int 0])) S := fun S => rfl
  have el : ∀ (r : Sto), nLen [.hnd 0] (.lst (ns.map D.int) :: r) = .ok (.p (.int ns.length)) (.lst (ns.map D.int) :: r) := fun r => by
    show Out.ok (Dv.p (.int ((ns.map D.int).length : Nat))) _ = _
    rw [List.length_map]
  have e5 : ∀ (i : Int) (S : Sto), nInt [.p (.int i)] S = .ok (.p (.int i)) S := fun i S => rfl
  have em : ∀ (i j : Int) (S : Sto), nMax2 [.p (.int i), .p (.int j)] S = .ok (.p (.int (if j > i then j else i))) S := fun i j S => rfl
  have hmx : (0 : Int) < (if (ns.length : Int) > 1 then (ns.length : Int) else 1) := by split <;> omega
  have emod : ∀ (S : Sto), oMod (.p (.int idx)) (.p (.int (if (ns.length : Int) > 1 then (ns.length : Int) else 1))) S = .ok (.p (.int (idx % (if (ns.length : Int) > 1 then (ns.length : Int) else 1)))) S := fun S => e_mod hmx
  generalize hj : idx % (if (ns.length : Int) > 1 then (ns.length : Int) else 1) = j at emod
  have j0 : 0 ≤ j := by rw [← hj]; exact Int.emod_nonneg _ (by omega)
  have j1 : j < (if (ns.length : Int) > 1 then (ns.length : Int) else 1) := by rw [← hj]; exact Int.emod_lt_of_pos _ hmx
  have jl : j.toNat < (ns ++ [0]).length := by
    rw [List.length_append]
    show j.toNat < ns.length + 1
    split at j1 <;> omega
  obtain ⟨c, hc⟩ : ∃ c, (ns ++ [0])[j.toNat]? = some c := ⟨_, List.getElem?_eq_getElem jl⟩
  have eix : ∀ (S : Sto), oIx (.p (.lst (ns.map D.int ++ [.int 0]))) (.p (.int j)) S = .ok (.p (.int c)) S := fun S => by
    have := e_ixL (S := S) (ds := ns.map D.int ++ [.int 0]) (d := .int c) j.toNat (by
      have e : ns.map D.int ++ [.int 0] = (ns ++ [0]).map D.int := by rw [List.map_append]; rfl
      rw [e, List.getElem?_map, hc]; rfl)
    rw [Int.toNat_of_nonneg j0] at this
    exact this
  have e10 : ∀ (S : Sto), oPow (.p (.int 10)) (.p (.int 18)) S = .ok (.p (.int 1000000000000000000)) S := fun S => rfl
  have eM1 : ∀ (i : Int) (S : Sto), oMul (.p (.int i)) (.p (.int 48271)) S = .ok (.p (.int (i * 48271))) S := fun i S => e_mul1 (mul_r (by decide))
  have eM2 : ∀ (i : Int) (S : Sto), oMul (.p (.int i)) (.p (.int 69621)) S = .ok (.p (.int (i * 69621))) S := fun i S => e_mul1 (mul_r (by decide))
  have eD7 : ∀ (i : Int) (S : Sto), oDiv (.p (.int i)) (.p (.int 7)) S = .ok (.p (.int (i / 7))) S := fun i S => e_div (by decide) (by decide)
  have eDb : ∀ (i : Int) (S : Sto), oDiv (.p (.int i)) (.p (.int b)) S = .ok (.p (.int (i / b))) S := fun i S => e_div hb hbw
  have eMb : ∀ (i : Int) (S : Sto), oMod (.p (.int i)) (.p (.int b)) S = .ok (.p (.int (i % b))) S := fun i S => e_mod hb
  have eMs : ∀ (i : Int) (S : Sto), oMod (.p (.int i)) (.p (.int 2147483647)) S = .ok (.p (.int (i % 2147483647))) S := fun i S => e_mod (by decide)
  by_cases hbig : 1000000000000000000 ≤ c
  · -- a large cell gives its digits
    have hjn : j.toNat < ns.length := by
      rw [List.length_append] at jl
      have jl : j.toNat < ns.length + 1 := jl
      by_cases q : j.toNat = ns.length
      · rw [q, List.getElem?_append_right (Nat.le_refl _), Nat.sub_self] at hc
        have : (0 : Int) = c := by simpa using hc
        omega
      · omega
    have hlen : (0 : Int) < ns.length := by omega
    have ejm : idx % (ns.length : Int) = j := by
      rw [← hj]
      split
      · rfl
      · have : (ns.length : Int) = 1 := by omega
        rw [this]
    have emod2 : ∀ (S : Sto), oMod (.p (.int idx)) (.p (.int (ns.length : Int))) S = .ok (.p (.int j)) S := fun S => by rw [← ejm]; exact e_mod hlen
    refine ⟨c % b, .lst ((ns.set j.toNat (c / b)).map D.int) :: .rcd [.p (.int st), .hnd 0, .p (.int idx), .p (.int 14)] :: rest, ?_, Int.emod_nonneg _ (by omega), Int.emod_lt_of_pos _ hb, st, idx, ns.set j.toNat (c / b), rfl, hi, by rw [List.length_set]; exact hl⟩
    have eset : ∀ (ρ : Nv), ρ = [some (.hnd 1), some (.p (.int b)), some (.p (.int c))] → sSetI (dBin oIx (dName 0) (dC (.int 1))) (dBin oMod (dCall nInt (aCons (dBin oIx (dName 0) (dC (.int 2))) aNil)) (dCall nLen (aCons (dBin oIx (dName 0) (dC (.int 1))) aNil))) (dBin oDiv (dName 2) (dName 1)) ρ (.lst (ns.map D.int) :: .rcd [.p (.int st), .hnd 0, .p (.int idx), .p (.int 14)] :: rest)
        = .ok (.nx ρ) (.lst ((ns.set j.toNat (c / b)).map D.int) :: .rcd [.p (.int st), .hnd 0, .p (.int idx), .p (.int 14)] :: rest) := by
      rintro ρ rfl
      simp only [sSetI, e_seq, e_seq_nx, e_seq_rt, e_seq_ite, e_bind, e_bind_ite, e_toS, e_toS_ite, e_set, e_ret, e_expr, e_nil, e_if, e_name, e_C, e_bin, e_un, e_ifx, e_aNil, e_aCons, e_call, e_cVal, e_cNot, e_cAnd, e_cOr, e_and, e_or, e_not, e_add, e_sub, e_lt, e_le, e_gt, e_ge, e_neg, e_eqi, e_nei, e_isN, e_notN, e_partsE, e_ixT0, e_ixT1, e_ixT2, e_ixT3, e_ixT4, e_ixL0, e_ixL1, e_ixL2, e_ixL3, e_ixL4, e_callP, e_callE, e_allP, e_allP0, e_tup, e_lst, e_par, List.map_cons, List.map_nil, List.append_assoc, List.nil_append, List.cons_append, List.replicate, List.getElem?_cons_zero, List.getElem?_cons_succ, List.set_cons_zero, List.set_cons_succ, Option.map_some, if_true, if_false, Bool.false_eq_true, decide_eq_true_eq, List.length_cons, List.length_nil, bg0, bg1, bg2, bg3, bg4, bg5, bg6, bg7, bg8, bg9, bg10, bg11, bg12, bg13, bg14, eDb, x1, x2, e5, el, emod2]
      have e3 : ixN (ns.map D.int).length j = some j.toNat := by
        unfold ixN
        rw [if_pos j0, List.length_map, if_pos (by omega)]
      rw [e3]
      simp only [List.set_cons_zero, List.map_set]
    simp only [m_law_next, runE, init, b_law_next, e_seq, e_seq_nx, e_seq_rt, e_seq_ite, e_bind, e_bind_ite, e_toS, e_toS_ite, e_set, e_ret, e_expr, e_nil, e_if, e_name, e_C, e_bin, e_un, e_ifx, e_aNil, e_aCons, e_call, e_cVal, e_cNot, e_cAnd, e_cOr, e_and, e_or, e_not, e_add, e_sub, e_lt, e_le, e_gt, e_ge, e_neg, e_eqi, e_nei, e_isN, e_notN, e_partsE, e_ixT0, e_ixT1, e_ixT2, e_ixT3, e_ixT4, e_ixL0, e_ixL1, e_ixL2, e_ixL3, e_ixL4, e_callP, e_callE, e_allP, e_allP0, e_tup, e_lst, e_par, List.map_cons, List.map_nil, List.append_assoc, List.nil_append, List.cons_append, List.replicate, List.getElem?_cons_zero, List.getElem?_cons_succ, List.set_cons_zero, List.set_cons_succ, Option.map_some, if_true, if_false, Bool.false_eq_true, decide_eq_true_eq, List.length_cons, List.length_nil, bg0, bg1, bg2, bg3, bg4, bg5, bg6, bg7, bg8, bg9, bg10, bg11, bg12, bg13, bg14, x1, x2, x0, ea, eL, el, e5, em, emod, eix, e10, hbig, decide_true, eset _ rfl, eMb]
  · refine ⟨((st * 48271 + c * 69621 + 11) % 2147483647) / 7 % b, .lst (ns.map D.int) :: .rcd [.p (.int ((st * 48271 + c * 69621 + 11) % 2147483647)), .hnd 0, .p (.int (idx + 1)), .p (.int 14)] :: rest, ?_, Int.emod_nonneg _ (by omega), Int.emod_lt_of_pos _ hb, _, idx + 1, ns, rfl, by omega, hl⟩
    have es0 : ∀ (v : Int) (ef : Ef) (ρ : Nv), ρ[0]? = some (some (.hnd 1)) → ef ρ (.lst (ns.map D.int) :: .rcd [.p (.int st), .hnd 0, .p (.int idx), .p (.int 14)] :: rest) = .ok (.p (.int v)) (.lst (ns.map D.int) :: .rcd [.p (.int st), .hnd 0, .p (.int idx), .p (.int 14)] :: rest) →
        sSetI (dName 0) (dC (.int 0)) ef ρ (.lst (ns.map D.int) :: .rcd [.p (.int st), .hnd 0, .p (.int idx), .p (.int 14)] :: rest) = .ok (.nx ρ) (.lst (ns.map D.int) :: .rcd [.p (.int v), .hnd 0, .p (.int idx), .p (.int 14)] :: rest) := fun v ef ρ h1 h2 => by
      simp only [sSetI, h2, e_seq, e_seq_nx, e_seq_rt, e_seq_ite, e_bind, e_bind_ite, e_toS, e_toS_ite, e_set, e_ret, e_expr, e_nil, e_if, e_name, e_C, e_bin, e_un, e_ifx, e_aNil, e_aCons, e_call, e_cVal, e_cNot, e_cAnd, e_cOr, e_and, e_or, e_not, e_add, e_sub, e_lt, e_le, e_gt, e_ge, e_neg, e_eqi, e_nei, e_isN, e_notN, e_partsE, e_ixT0, e_ixT1, e_ixT2, e_ixT3, e_ixT4, e_ixL0, e_ixL1, e_ixL2, e_ixL3, e_ixL4, e_callP, e_callE, e_allP, e_allP0, e_tup, e_lst, e_par, List.map_cons, List.map_nil, List.append_assoc, List.nil_append, List.cons_append, List.replicate, List.getElem?_cons_zero, List.getElem?_cons_succ, List.set_cons_zero, List.set_cons_succ, Option.map_some, if_true, if_false, Bool.false_eq_true, decide_eq_true_eq, List.length_cons, List.length_nil, bg0, bg1, bg2, bg3, bg4, bg5, bg6, bg7, bg8, bg9, bg10, bg11, bg12, bg13, bg14, h1]; rfl
    have es2 : ∀ (st v : Int) (ef : Ef) (ρ : Nv), ρ[0]? = some (some (.hnd 1)) → ef ρ (.lst (ns.map D.int) :: .rcd [.p (.int st), .hnd 0, .p (.int idx), .p (.int 14)] :: rest) = .ok (.p (.int v)) (.lst (ns.map D.int) :: .rcd [.p (.int st), .hnd 0, .p (.int idx), .p (.int 14)] :: rest) →
        sSetI (dName 0) (dC (.int 2)) ef ρ (.lst (ns.map D.int) :: .rcd [.p (.int st), .hnd 0, .p (.int idx), .p (.int 14)] :: rest) = .ok (.nx ρ) (.lst (ns.map D.int) :: .rcd [.p (.int st), .hnd 0, .p (.int v), .p (.int 14)] :: rest) := fun st v ef ρ h1 h2 => by
      simp only [sSetI, h2, e_seq, e_seq_nx, e_seq_rt, e_seq_ite, e_bind, e_bind_ite, e_toS, e_toS_ite, e_set, e_ret, e_expr, e_nil, e_if, e_name, e_C, e_bin, e_un, e_ifx, e_aNil, e_aCons, e_call, e_cVal, e_cNot, e_cAnd, e_cOr, e_and, e_or, e_not, e_add, e_sub, e_lt, e_le, e_gt, e_ge, e_neg, e_eqi, e_nei, e_isN, e_notN, e_partsE, e_ixT0, e_ixT1, e_ixT2, e_ixT3, e_ixT4, e_ixL0, e_ixL1, e_ixL2, e_ixL3, e_ixL4, e_callP, e_callE, e_allP, e_allP0, e_tup, e_lst, e_par, List.map_cons, List.map_nil, List.append_assoc, List.nil_append, List.cons_append, List.replicate, List.getElem?_cons_zero, List.getElem?_cons_succ, List.set_cons_zero, List.set_cons_succ, Option.map_some, if_true, if_false, Bool.false_eq_true, decide_eq_true_eq, List.length_cons, List.length_nil, bg0, bg1, bg2, bg3, bg4, bg5, bg6, bg7, bg8, bg9, bg10, bg11, bg12, bg13, bg14, h1]; rfl
    simp only [m_law_next, runE, init, b_law_next, e_seq, e_seq_nx, e_seq_rt, e_seq_ite, e_bind, e_bind_ite, e_toS, e_toS_ite, e_set, e_ret, e_expr, e_nil, e_if, e_name, e_C, e_bin, e_un, e_ifx, e_aNil, e_aCons, e_call, e_cVal, e_cNot, e_cAnd, e_cOr, e_and, e_or, e_not, e_add, e_sub, e_lt, e_le, e_gt, e_ge, e_neg, e_eqi, e_nei, e_isN, e_notN, e_partsE, e_ixT0, e_ixT1, e_ixT2, e_ixT3, e_ixT4, e_ixL0, e_ixL1, e_ixL2, e_ixL3, e_ixL4, e_callP, e_callE, e_allP, e_allP0, e_tup, e_lst, e_par, List.map_cons, List.map_nil, List.append_assoc, List.nil_append, List.cons_append, List.replicate, List.getElem?_cons_zero, List.getElem?_cons_succ, List.set_cons_zero, List.set_cons_succ, Option.map_some, if_true, if_false, Bool.false_eq_true, decide_eq_true_eq, List.length_cons, List.length_nil, bg0, bg1, bg2, bg3, bg4, bg5, bg6, bg7, bg8, bg9, bg10, bg11, bg12, bg13, bg14, x1, x2, x0, ea, eL, el, e5, em, emod, eix, e10, hbig, decide_false]
    rw [es0 ((st * 48271 + c * 69621 + 11) % 2147483647) _ _ rfl (by simp only [e_seq, e_seq_nx, e_seq_rt, e_seq_ite, e_bind, e_bind_ite, e_toS, e_toS_ite, e_set, e_ret, e_expr, e_nil, e_if, e_name, e_C, e_bin, e_un, e_ifx, e_aNil, e_aCons, e_call, e_cVal, e_cNot, e_cAnd, e_cOr, e_and, e_or, e_not, e_add, e_sub, e_lt, e_le, e_gt, e_ge, e_neg, e_eqi, e_nei, e_isN, e_notN, e_partsE, e_ixT0, e_ixT1, e_ixT2, e_ixT3, e_ixT4, e_ixL0, e_ixL1, e_ixL2, e_ixL3, e_ixL4, e_callP, e_callE, e_allP, e_allP0, e_tup, e_lst, e_par, List.map_cons, List.map_nil, List.append_assoc, List.nil_append, List.cons_append, List.replicate, List.getElem?_cons_zero, List.getElem?_cons_succ, List.set_cons_zero, List.set_cons_succ, Option.map_some, if_true, if_false, Bool.false_eq_true, decide_eq_true_eq, List.length_cons, List.length_nil, bg0, bg1, bg2, bg3, bg4, bg5, bg6, bg7, bg8, bg9, bg10, bg11, bg12, bg13, bg14, x0, eM1, eM2, e5, eMs])]
    simp only [e_seq, e_seq_nx, e_seq_rt, e_seq_ite, e_bind, e_bind_ite, e_toS, e_toS_ite, e_set, e_ret, e_expr, e_nil, e_if, e_name, e_C, e_bin, e_un, e_ifx, e_aNil, e_aCons, e_call, e_cVal, e_cNot, e_cAnd, e_cOr, e_and, e_or, e_not, e_add, e_sub, e_lt, e_le, e_gt, e_ge, e_neg, e_eqi, e_nei, e_isN, e_notN, e_partsE, e_ixT0, e_ixT1, e_ixT2, e_ixT3, e_ixT4, e_ixL0, e_ixL1, e_ixL2, e_ixL3, e_ixL4, e_callP, e_callE, e_allP, e_allP0, e_tup, e_lst, e_par, List.map_cons, List.map_nil, List.append_assoc, List.nil_append, List.cons_append, List.replicate, List.getElem?_cons_zero, List.getElem?_cons_succ, List.set_cons_zero, List.set_cons_succ, Option.map_some, if_true, if_false, Bool.false_eq_true, decide_eq_true_eq, List.length_cons, List.length_nil, bg0, bg1, bg2, bg3, bg4, bg5, bg6, bg7, bg8, bg9, bg10, bg11, bg12, bg13, bg14]
    rw [es2 _ (idx + 1) _ _ rfl (by simp only [e_seq, e_seq_nx, e_seq_rt, e_seq_ite, e_bind, e_bind_ite, e_toS, e_toS_ite, e_set, e_ret, e_expr, e_nil, e_if, e_name, e_C, e_bin, e_un, e_ifx, e_aNil, e_aCons, e_call, e_cVal, e_cNot, e_cAnd, e_cOr, e_and, e_or, e_not, e_add, e_sub, e_lt, e_le, e_gt, e_ge, e_neg, e_eqi, e_nei, e_isN, e_notN, e_partsE, e_ixT0, e_ixT1, e_ixT2, e_ixT3, e_ixT4, e_ixL0, e_ixL1, e_ixL2, e_ixL3, e_ixL4, e_callP, e_callE, e_allP, e_allP0, e_tup, e_lst, e_par, List.map_cons, List.map_nil, List.append_assoc, List.nil_append, List.cons_append, List.replicate, List.getElem?_cons_zero, List.getElem?_cons_succ, List.set_cons_zero, List.set_cons_succ, Option.map_some, if_true, if_false, Bool.false_eq_true, decide_eq_true_eq, List.length_cons, List.length_nil, bg0, bg1, bg2, bg3, bg4, bg5, bg6, bg7, bg8, bg9, bg10, bg11, bg12, bg13, bg14, x2])]
    simp only [e_seq, e_seq_nx, e_seq_rt, e_seq_ite, e_bind, e_bind_ite, e_toS, e_toS_ite, e_set, e_ret, e_expr, e_nil, e_if, e_name, e_C, e_bin, e_un, e_ifx, e_aNil, e_aCons, e_call, e_cVal, e_cNot, e_cAnd, e_cOr, e_and, e_or, e_not, e_add, e_sub, e_lt, e_le, e_gt, e_ge, e_neg, e_eqi, e_nei, e_isN, e_notN, e_partsE, e_ixT0, e_ixT1, e_ixT2, e_ixT3, e_ixT4, e_ixL0, e_ixL1, e_ixL2, e_ixL3, e_ixL4, e_callP, e_callE, e_allP, e_allP0, e_tup, e_lst, e_par, List.map_cons, List.map_nil, List.append_assoc, List.nil_append, List.cons_append, List.replicate, List.getElem?_cons_zero, List.getElem?_cons_succ, List.set_cons_zero, List.set_cons_succ, Option.map_some, if_true, if_false, Bool.false_eq_true, decide_eq_true_eq, List.length_cons, List.length_nil, bg0, bg1, bg2, bg3, bg4, bg5, bg6, bg7, bg8, bg9, bg10, bg11, bg12, bg13, bg14, x0, e5, eD7, eMb]

/-! ### rules drawn and made -/
theorem pick3 {k : Int} {a b c : Str} (h0 : 0 ≤ k) (h1 : k < 3) : ∃ s : Str, (s = a ∨ s = b ∨ s = c) ∧ ∀ S, oIx (.p (.lst [.str a, .str b, .str c])) (.p (.int k)) S = .ok (.p (.str s)) S := by
  have h : k = 0 ∨ k = 1 ∨ k = 2 := by omega
  rcases h with rfl | rfl | rfl
  · exact ⟨a, .inl rfl, fun S => e_ixL0⟩
  · exact ⟨b, .inr (.inl rfl), fun S => e_ixL1⟩
  · exact ⟨c, .inr (.inr rfl), fun S => e_ixL2⟩
theorem pick2 {k : Int} {a b : Str} (h0 : 0 ≤ k) (h1 : k < 2) : ∃ s : Str, (s = a ∨ s = b) ∧ ∀ S, oIx (.p (.lst [.str a, .str b])) (.p (.int k)) S = .ok (.p (.str s)) S := by
  have h : k = 0 ∨ k = 1 := by omega
  rcases h with rfl | rfl
  · exact ⟨a, .inl rfl, fun S => e_ixL0⟩
  · exact ⟨b, .inr rfl, fun S => e_ixL1⟩
theorem pickI {k : Int} (ns : List Int) (h0 : 0 ≤ k) (h1 : k < ns.length) : ∃ i : Int, i ∈ ns ∧ ∀ S, oIx (.p (.lst (ns.map D.int))) (.p (.int k)) S = .ok (.p (.int i)) S := by
  have hl : k.toNat < ns.length := by omega
  refine ⟨ns[k.toNat], List.getElem_mem hl, fun S => ?_⟩
  have := e_ixL (S := S) (ds := ns.map D.int) (d := .int ns[k.toNat]) k.toNat (by rw [List.getElem?_map, List.getElem?_eq_getElem hl]; rfl)
  rwa [Int.toNat_of_nonneg h0] at this
theorem rule_eq {S rest : Sto} (h : Dr S rest) : ∃ (r : Ru) (S' : Sto), r.ok ∧ m_law_rule [.hnd 1] S = .ok (.p (.lst (ruD r))) S' ∧ Dr S' rest := by
  have w2 : (2 : Int).natAbs < wid := by decide
  have w3 : (3 : Int).natAbs < wid := by decide
  have w13 : (13 : Int).natAbs < wid := by decide
  obtain ⟨k1, S1, n1, a1, b1, d1⟩ := next_eq h (b := 3) (by decide) w3
  obtain ⟨k2, S2, n2, a2, b2, d2⟩ := next_eq d1 (b := 2) (by decide) w2
  obtain ⟨k3, S3, n3, a3, b3, d3⟩ := next_eq d2 (b := 2) (by decide) w2
  obtain ⟨k4, S4, n4, a4, b4, d4⟩ := next_eq d3 (b := 13) (by decide) w13
  obtain ⟨k5, S5, n5, a5, b5, d5⟩ := next_eq d4 (b := 2) (by decide) w2
  obtain ⟨s, hs, p1⟩ := pick3 (a := "left") (b := "right") (c := "middle") a1 b1
  obtain ⟨r, hr, p2⟩ := pick2 (a := "anew") (b := "on") a2 b2
  obtain ⟨w, hw, p3⟩ := pick2 (a := "same") (b := "fro") a3 b3
  obtain ⟨o, ho, p4⟩ := pickI [0, 2, 3, 4, 5, 6, 7, 8, 9, 10, 11, 12, 13] a4 b4
  obtain ⟨k, hk, p5⟩ := pick2 (a := "once") (b := "always") a5 b5
  have ho' : okO o := by
    simp at ho
    unfold okO
    omega
  refine ⟨⟨s, r, w, o, k⟩, S5, ⟨hs, hr, hw, ho', hk⟩, ?_, d5⟩
  simp only [List.map_cons, List.map_nil] at p4
  simp only [m_law_rule, runE, init, b_law_rule, ruD, e_seq, e_seq_nx, e_seq_rt, e_seq_ite, e_bind, e_bind_ite, e_toS, e_toS_ite, e_set, e_ret, e_expr, e_nil, e_if, e_name, e_C, e_bin, e_un, e_ifx, e_aNil, e_aCons, e_call, e_cVal, e_cNot, e_cAnd, e_cOr, e_and, e_or, e_not, e_add, e_sub, e_lt, e_le, e_gt, e_ge, e_neg, e_eqi, e_nei, e_isN, e_notN, e_partsE, e_ixT0, e_ixT1, e_ixT2, e_ixT3, e_ixT4, e_ixL0, e_ixL1, e_ixL2, e_ixL3, e_ixL4, e_callP, e_callE, e_allP, e_allP0, e_tup, e_lst, e_par, List.map_cons, List.map_nil, List.append_assoc, List.nil_append, List.cons_append, List.replicate, List.getElem?_cons_zero, List.getElem?_cons_succ, List.set_cons_zero, List.set_cons_succ, Option.map_some, if_true, if_false, Bool.false_eq_true, decide_eq_true_eq, List.length_cons, List.length_nil, bg0, bg1, bg2, bg3, bg4, bg5, bg6, bg7, bg8, bg9, bg10, bg11, bg12, bg13, bg14, n1, n2, n3, n4, n5, p1, p2, p3, p4, p5]
theorem is_start {s : Str} (h : s = "left" ∨ s = "right" ∨ s = "middle") : m_is_of [.str "start", .str s] = .ok (.bl true) := by
  rcases h with rfl | rfl | rfl <;> kernel_rfl
theorem is_rows {s : Str} (h : s = "anew" ∨ s = "on") : m_is_of [.str "rows", .str s] = .ok (.bl true) := by
  rcases h with rfl | rfl <;> kernel_rfl
theorem is_ways {s : Str} (h : s = "same" ∨ s = "fro") : m_is_of [.str "ways", .str s] = .ok (.bl true) := by
  rcases h with rfl | rfl <;> kernel_rfl
theorem is_kind {s : Str} (h : s = "once" ∨ s = "always") : m_is_of [.str "kind", .str s] = .ok (.bl true) := by
  rcases h with rfl | rfl <;> kernel_rfl
theorem is_out {o : Int} (h : okO o) : m_is_of [.str "out", .int o] = .ok (.bl true) := by
  rcases okO_cases h with rfl | rfl | rfl | rfl | rfl | rfl | rfl | rfl | rfl | rfl | rfl | rfl | rfl <;> kernel_rfl
theorem init_eq {r : Ru} (h : r.ok) : m_Rule_init [.hnd 0, .p (.str r.s), .p (.str r.r), .p (.str r.w), .p (.int r.o), .p (.str r.k)] [.raw 1, .dead] = .ok (.p .non) [.slt 1 (ruD r), .dead] := by
  have e1 := is_start h.hs
  have e2 := is_rows h.hr
  have e3 := is_ways h.hw
  have e4 := is_out h.ho
  have e5 := is_kind h.hk
  simp only [m_Rule_init, runE, init, b_Rule_init, sFor, DL.iZip, t_POINTS, zipD, forL, gT, gsCons, gsNil, gN, sParts, ruD, e_seq, e_seq_nx, e_seq_rt, e_seq_ite, e_bind, e_bind_ite, e_toS, e_toS_ite, e_set, e_ret, e_expr, e_nil, e_if, e_name, e_C, e_bin, e_un, e_ifx, e_aNil, e_aCons, e_call, e_cVal, e_cNot, e_cAnd, e_cOr, e_and, e_or, e_not, e_add, e_sub, e_lt, e_le, e_gt, e_ge, e_neg, e_eqi, e_nei, e_isN, e_notN, e_partsE, e_ixT0, e_ixT1, e_ixT2, e_ixT3, e_ixT4, e_ixL0, e_ixL1, e_ixL2, e_ixL3, e_ixL4, e_callP, e_callE, e_allP, e_allP0, e_tup, e_lst, e_par, List.map_cons, List.map_nil, List.append_assoc, List.nil_append, List.cons_append, List.replicate, List.getElem?_cons_zero, List.getElem?_cons_succ, List.set_cons_zero, List.set_cons_succ, Option.map_some, if_true, if_false, Bool.false_eq_true, decide_eq_true_eq, List.length_cons, List.length_nil, bg0, bg1, bg2, bg3, bg4, bg5, bg6, bg7, bg8, bg9, bg10, bg11, bg12, bg13, bg14, e1, e2, e3, e4, e5, Bool.not_true]
theorem e_make {m : List Dv → Sto → Out Dv} {a : Af} {ρ : Nv} {S : Sto} : dMake m a ρ S = (a ρ S).bind fun xs S1 => match allP xs with
  | some ds => match m (.hnd 0 :: ds.map Dv.p) [.raw 1, .dead] with
    | .ok (.p .non) [.slt 1 es, .dead] => .ok (.p (.rul es)) S1
    | _ => .bad
  | none => .bad := rfl
theorem built_eq {r : Ru} (h : r.ok) : m_law_built [.lst (ruD r)] = .ok (.rul (ruD r)) := by
  have e1 := init_eq h
  simp only [m_law_built, runP, init, b_law_built, e_make, ruD, e_seq, e_seq_nx, e_seq_rt, e_seq_ite, e_bind, e_bind_ite, e_toS, e_toS_ite, e_set, e_ret, e_expr, e_nil, e_if, e_name, e_C, e_bin, e_un, e_ifx, e_aNil, e_aCons, e_call, e_cVal, e_cNot, e_cAnd, e_cOr, e_and, e_or, e_not, e_add, e_sub, e_lt, e_le, e_gt, e_ge, e_neg, e_eqi, e_nei, e_isN, e_notN, e_partsE, e_ixT0, e_ixT1, e_ixT2, e_ixT3, e_ixT4, e_ixL0, e_ixL1, e_ixL2, e_ixL3, e_ixL4, e_callP, e_callE, e_allP, e_allP0, e_tup, e_lst, e_par, List.map_cons, List.map_nil, List.append_assoc, List.nil_append, List.cons_append, List.replicate, List.getElem?_cons_zero, List.getElem?_cons_succ, List.set_cons_zero, List.set_cons_succ, Option.map_some, if_true, if_false, Bool.false_eq_true, decide_eq_true_eq, List.length_cons, List.length_nil, bg0, bg1, bg2, bg3, bg4, bg5, bg6, bg7, bg8, bg9, bg10, bg11, bg12, bg13, bg14, e1]
/-! ### loops that search -/
theorem forL_find {t : Tgt} {body : Sf} {S : Sto} (P : Nv → Prop) (res : D → Option Dv) : ∀ (ds : List D), (∀ d ∈ ds, ∀ ρ, P ρ → ∃ ρ1, t (.p d) ρ = some ρ1 ∧ match res d with
    | some v => body ρ1 S = .ok (.rt v) S
    | none => ∃ ρ', P ρ' ∧ body ρ1 S = .ok (.nx ρ') S) → ∀ ρ, P ρ → match ds.findSome? res with
    | some v => forL t body ds ρ S = .ok (.rt v) S
    | none => ∃ ρ', P ρ' ∧ forL t body ds ρ S = .ok (.nx ρ') S
  | [], _, ρ, h => ⟨ρ, h, rfl⟩
  | d :: ds, hs, ρ, h => by
    obtain ⟨ρ1, e1, e2⟩ := hs d List.mem_cons_self ρ h
    rw [List.findSome?_cons]
    cases q : res d with
    | some v =>
      rw [q] at e2
      show forL t body (d :: ds) ρ S = _
      unfold forL
      rw [e1]
      show (match body ρ1 S with | .ok (.nx ρ') S' => forL t body ds ρ' S' | .ok (.ct ρ') S' => forL t body ds ρ' S' | .ok (.bk ρ') S' => .ok (.nx ρ') S' | .ok (.rt d) S' => .ok (.rt d) S' | .exc x ρ' S' => .exc x ρ' S' | .bad => .bad) = _
      rw [e2]
    | none =>
      rw [q] at e2
      obtain ⟨ρ', hp, e2⟩ := e2
      have ih := forL_find P res ds (fun d' hd => hs d' (List.mem_cons_of_mem _ hd)) ρ' hp
      have e3 : forL t body (d :: ds) ρ S = forL t body ds ρ' S := by
        conv => lhs; unfold forL
        rw [e1]
        show (match body ρ1 S with | .ok (.nx ρ') S' => forL t body ds ρ' S' | .ok (.ct ρ') S' => forL t body ds ρ' S' | .ok (.bk ρ') S' => .ok (.nx ρ') S' | .ok (.rt d) S' => .ok (.rt d) S' | .exc x ρ' S' => .exc x ρ' S' | .bad => .bad) = _
        rw [e2]
      rw [e3]
      exact ih
theorem rngD_mem {lo : Int} {n : Nat} {d : D} (h : d ∈ rngD lo n) : ∃ i : Nat, i < n ∧ d = .int (lo + i) := by
  unfold rngD at h
  obtain ⟨i, h1, h2⟩ := List.mem_map.mp h
  exact ⟨i, List.mem_range.mp h1, h2.symm⟩
theorem rng_find {α : Type} {lo : Int} {n : Nat} {f : D → Option α} : (rngD lo n).findSome? f = (List.range n).findSome? fun i => f (.int (lo + (i : Nat))) := by
  unfold rngD
  rw [List.findSome?_map]; rfl
theorem forL_inv {t : Tgt} {body : Sf} (P : Nv → Sto → Prop) : ∀ (ds : List DL.D), (∀ d ∈ ds, ∀ ρ S, P ρ S → ∃ ρ1, t (.p d) ρ = some ρ1 ∧ ∃ ρ' S', body ρ1 S = .ok (.nx ρ') S' ∧ P ρ' S') → ∀ ρ S, P ρ S → ∃ ρ' S', forL t body ds ρ S = .ok (.nx ρ') S' ∧ P ρ' S'
  | [], _, ρ, S, h => ⟨ρ, S, rfl, h⟩
  | d :: ds, hs, ρ, S, h => by
    obtain ⟨ρ1, e1, ρ2, S2, e2, h2⟩ := hs d List.mem_cons_self ρ S h
    obtain ⟨ρ', S', e3, h3⟩ := forL_inv P ds (fun d' hd => hs d' (List.mem_cons_of_mem _ hd)) ρ2 S2 h2
    refine ⟨ρ', S', ?_, h3⟩
    rw [← e3]
    conv => lhs; unfold forL
    rw [e1]
    show (match body ρ1 S with | .ok (.nx ρ') S' => forL t body ds ρ' S' | .ok (.ct ρ') S' => forL t body ds ρ' S' | .ok (.bk ρ') S' => .ok (.nx ρ') S' | .ok (.rt d) S' => .ok (.rt d) S' | .exc x ρ' S' => .exc x ρ' S' | .bad => .bad) = _
    rw [e2]
theorem e_sFor {it : If} {t : Tgt} {b : Sf} {ρ : Nv} {S : Sto} : sFor it t b ρ S = (it ρ S).toS ρ fun ds S' => forL t b ds ρ S' := rfl
theorem e_rng1 {f : Ef} {ρ : Nv} {S S1 : Sto} {j : Int} (h : f ρ S = .ok (.p (.int j)) S1) (hj : -1000000000000000000 ≤ j ∧ j < 1000000000000000000) : DL.iRng1 f ρ S = .ok (rngD 0 j.toNat) S1 := by
  unfold DL.iRng1
  rw [h]
  show (if rngOk 0 j = true then _ else _) = _
  rw [if_pos (by unfold rngOk; simp only [Bool.and_eq_true, decide_eq_true_eq]; omega)]
theorem e_rng2 {f g : Ef} {ρ : Nv} {S S1 S2 : Sto} {i j : Int} (h : f ρ S = .ok (.p (.int i)) S1) (h' : g ρ S1 = .ok (.p (.int j)) S2) (hi : -1000000000000000000 ≤ i ∧ i < 1000000000000000000) (hj : -1000000000000000000 ≤ j ∧ j < 1000000000000000000) : DL.iRng2 f g ρ S = .ok (rngD i (j - i).toNat) S2 := by
  unfold DL.iRng2
  rw [h]
  show ((g ρ S1).bind _) = _
  rw [h']
  show (if rngOk i j = true then _ else _) = _
  rw [if_pos (by unfold rngOk; simp only [Bool.and_eq_true, decide_eq_true_eq]; omega)]
theorem Dr.re {a b : Cell} {rest rest' : Sto} (h : Dr (a :: b :: rest) rest) : Dr (a :: b :: rest') rest' := by
  obtain ⟨st, idx, ns, e, hi, hl⟩ := h
  cases e
  exact ⟨st, idx, ns, rfl, hi, hl⟩
theorem Dr.rest {S rest rest' : Sto} (h : Dr S rest) : ∃ a b, S = a :: b :: rest ∧ Dr (a :: b :: rest') rest' := by
  obtain ⟨st, idx, ns, rfl, hi, hl⟩ := h
  exact ⟨_, _, rfl, st, idx, ns, rfl, hi, hl⟩
theorem mul_small {a b : Int} (h0 : 0 ≤ a) (h1 : a < 1000) : mulOk a b = true := mul_l (by omega)
theorem mul_small' {a b : Int} (h0 : 0 ≤ a) (h1 : a < 1000) : mulOk b a = true := mul_r (by omega)

/-! ### the program's looks at what it is given -/
def optI (o : Option Int) : DL.D := match o with
  | some x => .int x
  | none => .non
theorem e_isG {T : String} {f : Ef} {ρ : Nv} {S : Sto} : dIs T f ρ S = (f ρ S).bind fun d S1 => match tyOf S1 d with
  | some t => match kitB t T with
    | some b => .ok (.p (.bl b)) S1
    | none => .bad
  | none => .bad := rfl
theorem ty_i {S : Sto} {i : Int} : tyOf S (.p (.int i)) = some "int" := rfl
theorem ty_t {S : Sto} {i : List DL.D} : tyOf S (.p (.tup i)) = some "tuple" := rfl
theorem ty_l {S : Sto} {i : List DL.D} : tyOf S (.p (.lst i)) = some "list" := rfl
theorem kit_ii : kitB "int" "int" = some true := by decide +kernel
theorem kit_ib : kitB "int" "bool" = some false := by decide +kernel
theorem kit_tt : kitB "tuple" "tuple" = some true := by decide +kernel
theorem kit_ll : kitB "list" "list" = some true := by decide +kernel
theorem e_chain {op op' : Op2} {f g k : Ef} {ρ : Nv} {S : Sto} : dChain op op' f g k ρ S = (f ρ S).bind fun x S1 => (g ρ S1).bind fun y S2 => (op x y S2).bind fun z S3 => match z with
  | .p (.bl t) => if t = true then (k ρ S3).bind fun u S4 => op' y u S4 else .ok (.p (.bl false)) S3
  | _ => .bad := rfl
theorem is_integer_eq {v a b : Int} : m_is_integer [.int v, .int a, .int b] = .ok (.bl (decide (a ≤ v ∧ v ≤ b))) := by
  by_cases h : a ≤ v
  · simp only [m_is_integer, runP, init, b_is_integer, e_seq, e_seq_nx, e_seq_rt, e_seq_ite, e_bind, e_bind_ite, e_toS, e_toS_ite, e_set, e_ret, e_expr, e_nil, e_if, e_name, e_C, e_bin, e_un, e_ifx, e_aNil, e_aCons, e_call, e_cVal, e_cNot, e_cAnd, e_cOr, e_and, e_or, e_not, e_add, e_sub, e_lt, e_le, e_gt, e_ge, e_neg, e_eqi, e_nei, e_isN, e_notN, e_partsE, e_ixT0, e_ixT1, e_ixT2, e_ixT3, e_ixT4, e_ixL0, e_ixL1, e_ixL2, e_ixL3, e_ixL4, e_callP, e_callE, e_allP, e_allP0, e_tup, e_lst, e_par, List.map_cons, List.map_nil, List.append_assoc, List.nil_append, List.cons_append, List.replicate, List.getElem?_cons_zero, List.getElem?_cons_succ, List.set_cons_zero, List.set_cons_succ, Option.map_some, if_true, if_false, Bool.false_eq_true, decide_eq_true_eq, List.length_cons, List.length_nil, bg0, bg1, bg2, bg3, bg4, bg5, bg6, bg7, bg8, bg9, bg10, bg11, bg12, bg13, bg14, e_isG, e_chain, ty_i, kit_ii, kit_ib, Bool.not_false, h, decide_true, true_and]
  · simp only [m_is_integer, runP, init, b_is_integer, e_seq, e_seq_nx, e_seq_rt, e_seq_ite, e_bind, e_bind_ite, e_toS, e_toS_ite, e_set, e_ret, e_expr, e_nil, e_if, e_name, e_C, e_bin, e_un, e_ifx, e_aNil, e_aCons, e_call, e_cVal, e_cNot, e_cAnd, e_cOr, e_and, e_or, e_not, e_add, e_sub, e_lt, e_le, e_gt, e_ge, e_neg, e_eqi, e_nei, e_isN, e_notN, e_partsE, e_ixT0, e_ixT1, e_ixT2, e_ixT3, e_ixT4, e_ixL0, e_ixL1, e_ixL2, e_ixL3, e_ixL4, e_callP, e_callE, e_allP, e_allP0, e_tup, e_lst, e_par, List.map_cons, List.map_nil, List.append_assoc, List.nil_append, List.cons_append, List.replicate, List.getElem?_cons_zero, List.getElem?_cons_succ, List.set_cons_zero, List.set_cons_succ, Option.map_some, if_true, if_false, Bool.false_eq_true, decide_eq_true_eq, List.length_cons, List.length_nil, bg0, bg1, bg2, bg3, bg4, bg5, bg6, bg7, bg8, bg9, bg10, bg11, bg12, bg13, bg14, e_isG, e_chain, ty_i, kit_ii, kit_ib, Bool.not_false, h, decide_false, false_and]
theorem is_integer_in {v a b : Int} (h1 : a ≤ v) (h2 : v ≤ b) : m_is_integer [.int v, .int a, .int b] = .ok (.bl true) := by
  rw [is_integer_eq, decide_eq_true ⟨h1, h2⟩]
def seatBy (s : Str) (seats order : Int) : Int := if (s == "left") = true then order else if (s == "right") = true then seats - 1 - order else (seats - 1) / 2 + (if order % 2 = 1 then (order + 1) / 2 else -(order / 2))
theorem ord_in {s : Str} {seats seat : Int} (hs : s = "left" ∨ s = "right" ∨ s = "middle") (h0 : 0 ≤ seat) (h1 : seat < seats) : 0 ≤ ordOf s seats seat ∧ ordOf s seats seat < seats := by
  unfold ordOf
  rcases hs with rfl | rfl | rfl
  · simp only [s_ll, s_lr, s_lm, s_rl, s_rr, s_rm, s_ml, s_mr, s_mm, s_an, s_oo, s_aa, s_oa, s_ff, s_sf, s_kk, s_ka, s_ak, s_kv, e_eqs k_l k_l, e_eqs k_r k_l, e_eqs k_m k_l, e_eqs k_l k_r, e_eqs k_r k_r, e_eqs k_m k_r, e_eqs k_l k_m, e_eqs k_r k_m, e_eqs k_m k_m, e_eqs k_an k_on, e_eqs k_on k_on, e_eqs k_f k_f, e_eqs k_s k_f, e_eqs k_o k_o, e_eqs k_al k_o, e_eqs k_o k_al, e_eqs k_al k_al, if_true]; omega
  · simp only [s_ll, s_lr, s_lm, s_rl, s_rr, s_rm, s_ml, s_mr, s_mm, s_an, s_oo, s_aa, s_oa, s_ff, s_sf, s_kk, s_ka, s_ak, s_kv, e_eqs k_l k_l, e_eqs k_r k_l, e_eqs k_m k_l, e_eqs k_l k_r, e_eqs k_r k_r, e_eqs k_m k_r, e_eqs k_l k_m, e_eqs k_r k_m, e_eqs k_m k_m, e_eqs k_an k_on, e_eqs k_on k_on, e_eqs k_f k_f, e_eqs k_s k_f, e_eqs k_o k_o, e_eqs k_al k_o, e_eqs k_o k_al, e_eqs k_al k_al, if_true, if_false, Bool.false_eq_true]; omega
  · simp only [s_ll, s_lr, s_lm, s_rl, s_rr, s_rm, s_ml, s_mr, s_mm, s_an, s_oo, s_aa, s_oa, s_ff, s_sf, s_kk, s_ka, s_ak, s_kv, e_eqs k_l k_l, e_eqs k_r k_l, e_eqs k_m k_l, e_eqs k_l k_r, e_eqs k_r k_r, e_eqs k_m k_r, e_eqs k_l k_m, e_eqs k_r k_m, e_eqs k_m k_m, e_eqs k_an k_on, e_eqs k_on k_on, e_eqs k_f k_f, e_eqs k_s k_f, e_eqs k_o k_o, e_eqs k_al k_o, e_eqs k_o k_al, e_eqs k_al k_al, if_true, if_false, Bool.false_eq_true]; split <;> omega
theorem seat_in {s : Str} {seats seat : Int} (hs : s = "left" ∨ s = "right" ∨ s = "middle") (h0 : 0 ≤ seat) (h1 : seat < seats) : 0 ≤ seatBy s seats seat ∧ seatBy s seats seat < seats := by
  unfold seatBy
  rcases hs with rfl | rfl | rfl
  · simp only [s_ll, s_lr, s_lm, s_rl, s_rr, s_rm, s_ml, s_mr, s_mm, s_an, s_oo, s_aa, s_oa, s_ff, s_sf, s_kk, s_ka, s_ak, s_kv, e_eqs k_l k_l, e_eqs k_r k_l, e_eqs k_m k_l, e_eqs k_l k_r, e_eqs k_r k_r, e_eqs k_m k_r, e_eqs k_l k_m, e_eqs k_r k_m, e_eqs k_m k_m, e_eqs k_an k_on, e_eqs k_on k_on, e_eqs k_f k_f, e_eqs k_s k_f, e_eqs k_o k_o, e_eqs k_al k_o, e_eqs k_o k_al, e_eqs k_al k_al, if_true]; omega
  · simp only [s_ll, s_lr, s_lm, s_rl, s_rr, s_rm, s_ml, s_mr, s_mm, s_an, s_oo, s_aa, s_oa, s_ff, s_sf, s_kk, s_ka, s_ak, s_kv, e_eqs k_l k_l, e_eqs k_r k_l, e_eqs k_m k_l, e_eqs k_l k_r, e_eqs k_r k_r, e_eqs k_m k_r, e_eqs k_l k_m, e_eqs k_r k_m, e_eqs k_m k_m, e_eqs k_an k_on, e_eqs k_on k_on, e_eqs k_f k_f, e_eqs k_s k_f, e_eqs k_o k_o, e_eqs k_al k_o, e_eqs k_o k_al, e_eqs k_al k_al, if_true, if_false, Bool.false_eq_true]; omega
  · simp only [s_ll, s_lr, s_lm, s_rl, s_rr, s_rm, s_ml, s_mr, s_mm, s_an, s_oo, s_aa, s_oa, s_ff, s_sf, s_kk, s_ka, s_ak, s_kv, e_eqs k_l k_l, e_eqs k_r k_l, e_eqs k_m k_l, e_eqs k_l k_r, e_eqs k_r k_r, e_eqs k_m k_r, e_eqs k_l k_m, e_eqs k_r k_m, e_eqs k_m k_m, e_eqs k_an k_on, e_eqs k_on k_on, e_eqs k_f k_f, e_eqs k_s k_f, e_eqs k_o k_o, e_eqs k_al k_o, e_eqs k_o k_al, e_eqs k_al k_al, if_true, if_false, Bool.false_eq_true]; split <;> omega
theorem seat_ord {s : Str} {seats seat : Int} (hs : s = "left" ∨ s = "right" ∨ s = "middle") (h0 : 0 ≤ seat) (h1 : seat < seats) : seatBy s seats (ordOf s seats seat) = seat := by
  unfold ordOf seatBy
  rcases hs with rfl | rfl | rfl
  · simp only [s_ll, s_lr, s_lm, s_rl, s_rr, s_rm, s_ml, s_mr, s_mm, s_an, s_oo, s_aa, s_oa, s_ff, s_sf, s_kk, s_ka, s_ak, s_kv, e_eqs k_l k_l, e_eqs k_r k_l, e_eqs k_m k_l, e_eqs k_l k_r, e_eqs k_r k_r, e_eqs k_m k_r, e_eqs k_l k_m, e_eqs k_r k_m, e_eqs k_m k_m, e_eqs k_an k_on, e_eqs k_on k_on, e_eqs k_f k_f, e_eqs k_s k_f, e_eqs k_o k_o, e_eqs k_al k_o, e_eqs k_o k_al, e_eqs k_al k_al, if_true]
  · simp only [s_ll, s_lr, s_lm, s_rl, s_rr, s_rm, s_ml, s_mr, s_mm, s_an, s_oo, s_aa, s_oa, s_ff, s_sf, s_kk, s_ka, s_ak, s_kv, e_eqs k_l k_l, e_eqs k_r k_l, e_eqs k_m k_l, e_eqs k_l k_r, e_eqs k_r k_r, e_eqs k_m k_r, e_eqs k_l k_m, e_eqs k_r k_m, e_eqs k_m k_m, e_eqs k_an k_on, e_eqs k_on k_on, e_eqs k_f k_f, e_eqs k_s k_f, e_eqs k_o k_o, e_eqs k_al k_o, e_eqs k_o k_al, e_eqs k_al k_al, if_true, if_false, Bool.false_eq_true]; omega
  · simp only [s_ll, s_lr, s_lm, s_rl, s_rr, s_rm, s_ml, s_mr, s_mm, s_an, s_oo, s_aa, s_oa, s_ff, s_sf, s_kk, s_ka, s_ak, s_kv, e_eqs k_l k_l, e_eqs k_r k_l, e_eqs k_m k_l, e_eqs k_l k_r, e_eqs k_r k_r, e_eqs k_m k_r, e_eqs k_l k_m, e_eqs k_r k_m, e_eqs k_m k_m, e_eqs k_an k_on, e_eqs k_on k_on, e_eqs k_f k_f, e_eqs k_s k_f, e_eqs k_o k_o, e_eqs k_al k_o, e_eqs k_o k_al, e_eqs k_al k_al, if_true, if_false, Bool.false_eq_true]; repeat' split
    all_goals omega
theorem ord_seat {s : Str} {seats order : Int} (hs : s = "left" ∨ s = "right" ∨ s = "middle") (h0 : 0 ≤ order) (h1 : order < seats) : ordOf s seats (seatBy s seats order) = order := by
  unfold ordOf seatBy
  rcases hs with rfl | rfl | rfl
  · simp only [s_ll, s_lr, s_lm, s_rl, s_rr, s_rm, s_ml, s_mr, s_mm, s_an, s_oo, s_aa, s_oa, s_ff, s_sf, s_kk, s_ka, s_ak, s_kv, e_eqs k_l k_l, e_eqs k_r k_l, e_eqs k_m k_l, e_eqs k_l k_r, e_eqs k_r k_r, e_eqs k_m k_r, e_eqs k_l k_m, e_eqs k_r k_m, e_eqs k_m k_m, e_eqs k_an k_on, e_eqs k_on k_on, e_eqs k_f k_f, e_eqs k_s k_f, e_eqs k_o k_o, e_eqs k_al k_o, e_eqs k_o k_al, e_eqs k_al k_al, if_true]
  · simp only [s_ll, s_lr, s_lm, s_rl, s_rr, s_rm, s_ml, s_mr, s_mm, s_an, s_oo, s_aa, s_oa, s_ff, s_sf, s_kk, s_ka, s_ak, s_kv, e_eqs k_l k_l, e_eqs k_r k_l, e_eqs k_m k_l, e_eqs k_l k_r, e_eqs k_r k_r, e_eqs k_m k_r, e_eqs k_l k_m, e_eqs k_r k_m, e_eqs k_m k_m, e_eqs k_an k_on, e_eqs k_on k_on, e_eqs k_f k_f, e_eqs k_s k_f, e_eqs k_o k_o, e_eqs k_al k_o, e_eqs k_o k_al, e_eqs k_al k_al, if_true, if_false, Bool.false_eq_true]; omega
  · simp only [s_ll, s_lr, s_lm, s_rl, s_rr, s_rm, s_ml, s_mr, s_mm, s_an, s_oo, s_aa, s_oa, s_ff, s_sf, s_kk, s_ka, s_ak, s_kv, e_eqs k_l k_l, e_eqs k_r k_l, e_eqs k_m k_l, e_eqs k_l k_r, e_eqs k_r k_r, e_eqs k_m k_r, e_eqs k_l k_m, e_eqs k_r k_m, e_eqs k_m k_m, e_eqs k_an k_on, e_eqs k_on k_on, e_eqs k_f k_f, e_eqs k_s k_f, e_eqs k_o k_o, e_eqs k_al k_o, e_eqs k_o k_al, e_eqs k_al k_al, if_true, if_false, Bool.false_eq_true]; repeat' split
    all_goals omega
/-! ### comprehensions -/
theorem comp_map {t : Tgt} {el : Ef} {ρ : Nv} {S : Sto} (F : DL.D → DL.D) : ∀ {ds : List DL.D}, (∀ d ∈ ds, ∃ ρ1, t (.p d) ρ = some ρ1 ∧ el ρ1 S = .ok (.p (F d)) S) → compL t cYes el ρ ds S = .ok (ds.map F) S
  | [], _ => rfl
  | d :: ds, h => by
    obtain ⟨ρ1, e1, e2⟩ := h d List.mem_cons_self
    have ih := comp_map (t := t) (el := el) (ρ := ρ) (S := S) F (ds := ds) fun d' hd => h d' (List.mem_cons_of_mem _ hd)
    unfold compL
    rw [e1]
    show ((el ρ1 S).nox.bind _) = _
    rw [e2]
    show ((compL t cYes el ρ ds S).bind _) = _
    rw [ih]; rfl
theorem comp_run {t : Tgt} {el : Ef} {ρ : Nv} (P : Sto → Prop) (R : DL.D → Prop) : ∀ {ds : List DL.D} {S : Sto}, P S → (∀ d ∈ ds, ∃ ρ1, t (.p d) ρ = some ρ1 ∧ ∀ S, P S → ∃ d' S', el ρ1 S = .ok (.p d') S' ∧ R d' ∧ P S') → ∃ r S', compL t cYes el ρ ds S = .ok r S' ∧ P S' ∧ (∀ d ∈ r, R d) ∧ r.length = ds.length
  | [], S, p, _ => ⟨[], S, rfl, p, fun d hd => by (cases hd), rfl⟩
  | d :: ds, S, p, h => by
    obtain ⟨ρ1, e1, e2⟩ := h d List.mem_cons_self
    obtain ⟨d', S1, e3, r1, p1⟩ := e2 S p
    obtain ⟨r, S', e4, p4, r4, l4⟩ := comp_run (t := t) (el := el) (ρ := ρ) P R p1 fun d' hd => h d' (List.mem_cons_of_mem _ hd)
    refine ⟨d' :: r, S', ?_, p4, fun z hz => (List.mem_cons.mp hz).elim (fun e => e ▸ r1) (r4 z), by rw [List.length_cons, List.length_cons, l4]⟩
    unfold compL
    rw [e1]
    show ((el ρ1 S).nox.bind _) = _
    rw [e3]
    show ((compL t cYes el ρ ds S1).bind _) = _
    rw [e4]; rfl
theorem e_comp {vs : List Nat} {it : If} {t : Tgt} {el : Ef} {ρ : Nv} {S S1 S2 : Sto} {ds r : List DL.D} (h : it ρ S = .ok ds S1) (hl : ds.length ≤ big) (hc : compL t cYes el (wipeN ρ vs) ds S1 = .ok r S2) : dComp vs it t cYes el ρ S = .ok (.p (.lst r)) S2 := by
  unfold dComp
  rw [h]
  show (if ds.length ≤ big then _ else _) = _
  rw [if_pos hl, hc]; rfl
theorem ints_map : ∀ ns : List Int, intsOf (ns.map DL.D.int) = some ns
  | [] => rfl
  | n :: ns => by
    rw [List.map_cons]
    unfold intsOf
    rw [ints_map ns]; rfl
theorem bls_map : ∀ bs : List Bool, blsOf (bs.map DL.D.bl) = some bs
  | [] => rfl
  | n :: ns => by
    rw [List.map_cons]
    unfold blsOf
    rw [bls_map ns]; rfl
theorem all_map {bs : List Bool} {S : Sto} : nAll [.p (.lst (bs.map DL.D.bl))] S = .ok (.p (.bl (bs.all id))) S := by
  unfold nAll vw
  dsimp only
  rw [bls_map]
theorem maxL_map {m : Int} {r : List Int} {S : Sto} : nMaxL [.p (.lst ((m :: r).map DL.D.int))] S = .ok (.p (.int (maxI m r))) S := by
  unfold nMaxL vw
  dsimp only
  rw [ints_map]
theorem minL_map {m : Int} {r : List Int} {S : Sto} : nMinL [.p (.lst ((m :: r).map DL.D.int))] S = .ok (.p (.int (minI m r))) S := by
  unfold nMinL vw
  dsimp only
  rw [ints_map]
theorem maxL_cell {m : Int} {r : List Int} {S : Sto} : nMaxL [.hnd 0] (.lst ((m :: r).map DL.D.int) :: S) = .ok (.p (.int (maxI m r))) (.lst ((m :: r).map DL.D.int) :: S) := by
  unfold nMaxL vw
  dsimp only [List.getElem?_cons_zero]
  rw [ints_map]
theorem minL_cell {m : Int} {r : List Int} {S : Sto} : nMinL [.hnd 0] (.lst ((m :: r).map DL.D.int) :: S) = .ok (.p (.int (minI m r))) (.lst ((m :: r).map DL.D.int) :: S) := by
  unfold nMinL vw
  dsimp only [List.getElem?_cons_zero]
  rw [ints_map]
theorem len_set_map {ns : List Int} {S : Sto} (h : ns.length ≤ 4000) : nLenSet [.p (.lst (ns.map DL.D.int))] S = .ok (.p (.int (dd ns).length)) S := by
  unfold nLenSet vw
  dsimp only
  rw [ints_map]
  dsimp only
  rw [if_pos h]
/-! ### data that are compared -/
def PD (n : Nat) (d : DL.D) : Prop := ∃ e, toPy d = some e ∧ e.canLay0 = true ∧ e.depth ≤ n
def PDs (n : Nat) (ds : List DL.D) : Prop := ∃ es, toPys ds = some es ∧ PyData.canLayAll0 es = true ∧ PyData.depthAll es ≤ n
theorem PD.int {n : Nat} {i : Int} : PD n (.int i) := ⟨.int i, rfl, rfl, Nat.zero_le _⟩
theorem PD.bl {n : Nat} {b : Bool} : PD n (.bl b) := ⟨.bool b, rfl, rfl, Nat.zero_le _⟩
theorem PD.non {n : Nat} : PD n .non := ⟨.none, rfl, rfl, Nat.zero_le _⟩
theorem PD.str {n : Nat} {z : Str} (h : PyData.strOk z = true) : PD n (.str z) := ⟨.str z, rfl, h, Nat.zero_le _⟩
theorem PDs.of {n : Nat} : ∀ {ds : List DL.D}, (∀ d ∈ ds, PD n d) → PDs n ds
  | [], _ => ⟨[], rfl, rfl, Nat.zero_le _⟩
  | d :: ds, h => by
    obtain ⟨e, e1, e2, e3⟩ := h d List.mem_cons_self
    obtain ⟨es, f1, f2, f3⟩ := PDs.of (ds := ds) fun d' hd => h d' (List.mem_cons_of_mem _ hd)
    refine ⟨e :: es, ?_, ?_, ?_⟩
    · unfold toPys
      rw [e1, f1]
    · unfold PyData.canLayAll0
      rw [e2, f2]; rfl
    · unfold PyData.depthAll
      omega
theorem PD.lst {n : Nat} {ds : List DL.D} (h : ∀ d ∈ ds, PD n d) : PD (n + 1) (.lst ds) := by
  obtain ⟨es, f1, f2, f3⟩ := PDs.of h
  refine ⟨.list es, ?_, ?_, ?_⟩
  · unfold toPy
    rw [f1]
  · unfold PyData.canLay0
    exact f2
  · unfold PyData.depth
    omega
theorem PD.tup {n : Nat} {ds : List DL.D} (h : ∀ d ∈ ds, PD n d) : PD (n + 1) (.tup ds) := by
  obtain ⟨es, f1, f2, f3⟩ := PDs.of h
  refine ⟨.tuple es, ?_, ?_, ?_⟩
  · unfold toPy
    rw [f1]
  · unfold PyData.canLay0
    exact f2
  · unfold PyData.depth
    omega
theorem PD.le {n m : Nat} {d : DL.D} (h : PD n d) (k : n ≤ m) : PD m d := by
  obtain ⟨e, a, b, c⟩ := h
  exact ⟨e, a, b, Nat.le_trans c k⟩
theorem eq_self {n : Nat} {d : DL.D} (h : PD n d) (hn : n ≤ 64) {S : Sto} : oEq (.p d) (.p d) S = .ok (.p (.bl true)) S := by
  obtain ⟨e, e1, e2, e3⟩ := h
  have sh : SeqAt.shaped e = true := by
    unfold SeqAt.shaped
    rw [e2, decide_eq_true (Nat.le_trans e3 hn)]; rfl
  unfold oEq vPy
  dsimp only
  rw [e1]
  dsimp only
  rw [if_pos ⟨sh, sh⟩, SeqAt.eqv_refl e e2]
theorem ne_self {n : Nat} {d : DL.D} (h : PD n d) (hn : n ≤ 64) {S : Sto} : oNe (.p d) (.p d) S = .ok (.p (.bl false)) S := by
  obtain ⟨e, e1, e2, e3⟩ := h
  have sh : SeqAt.shaped e = true := by
    unfold SeqAt.shaped
    rw [e2, decide_eq_true (Nat.le_trans e3 hn)]; rfl
  unfold oNe vPy
  dsimp only
  rw [e1]
  dsimp only
  rw [if_pos ⟨sh, sh⟩, SeqAt.eqv_refl e e2]; rfl

theorem rule_PDs {r : Ru} (hr : r.ok) : PDs 0 (ruD r) := PDs.of fun d hd => by
  have k : ∀ z ∈ [("left" : Str), "right", "middle", "anew", "on", "same", "fro", "once", "always"], PyData.strOk z = true := by decide +kernel
  simp only [ruD, List.mem_cons, List.not_mem_nil, or_false] at hd
  rcases hd with rfl | rfl | rfl | rfl | rfl
  · exact PD.str (k _ (by rcases hr.hs with h | h | h <;> rw [h] <;> simp))
  · exact PD.str (k _ (by rcases hr.hr with h | h <;> rw [h] <;> simp))
  · exact PD.str (k _ (by rcases hr.hw with h | h <;> rw [h] <;> simp))
  · exact PD.int
  · exact PD.str (k _ (by rcases hr.hk with h | h <;> rw [h] <;> simp))
theorem PDs.mem {n : Nat} : ∀ {ds : List DL.D}, PDs n ds → ∀ d ∈ ds, PD n d
  | d0 :: ds, ⟨es, h1, h2, h3⟩, d, hd => by
    unfold toPys at h1
    split at h1
    · rename_i e es' q1 q2
      cases h1
      unfold PyData.canLayAll0 at h2
      rw [Bool.and_eq_true] at h2
      unfold PyData.depthAll at h3
      rcases List.mem_cons.mp hd with rfl | hd
      · exact ⟨e, q1, h2.1, by omega⟩
      · exact PDs.mem ⟨es', q2, h2.2, by omega⟩ d hd
    · cases h1

/-! ### tickets -/
structure Tk where
  rows : Int
  seats : Int
  row : Int
  seat : Int
  num : Int
structure Tk.ok (t : Tk) : Prop where
  r1 : 1 ≤ t.rows
  r2 : t.rows ≤ 1000000
  s1 : 1 ≤ t.seats
  s2 : t.seats ≤ 1000000
  a : 0 ≤ t.row
  b : t.row < t.rows
  c : 0 ≤ t.seat
  d : t.seat < t.seats
  n1 : 1 ≤ t.num
  n2 : t.num ≤ 1000000000000000000000000000000
def tkD (t : Tk) : DL.D := .tup [.int t.rows, .int t.seats, .int t.row, .int t.seat, .int t.num]
def fit (r : Ru) (t : Tk) : Bool := ownNum r t.seats t.row t.seat == t.num
theorem is_ticket_ok {t : Tk} (h : t.ok) : m_is_ticket [tkD t] = .ok (.bl true) := by
  have e0 : ∀ (x : List (Option Dv)), dIs "tuple" (dName 0) (some (.p (tkD t)) :: x) [] = .ok (.p (.bl true)) [] := fun x => rfl
  have e1 : nLen [.p (tkD t)] [] = .ok (.p (.int 5)) [] := rfl
  have e2 := is_integer_in (v := t.rows) (a := 1) (b := 1000000) h.r1 h.r2
  have e3 := is_integer_in (v := t.seats) (a := 1) (b := 1000000) h.s1 h.s2
  have e4 := is_integer_in (v := t.row) (a := 0) (b := t.rows - 1) h.a (by have := h.b; omega)
  have e5 := is_integer_in (v := t.seat) (a := 0) (b := t.seats - 1) h.c (by have := h.d; omega)
  have e6 := is_integer_in (v := t.num) (a := 1) (b := 1000000000000000000000000000000) h.n1 h.n2
  have e7 : gT 5 (gsCons (gN 1) (gsCons (gN 2) (gsCons (gN 3) (gsCons (gN 4) (gsCons (gN 5) gsNil))))) (.p (tkD t)) [some (.p (tkD t)), none, none, none, none, none] = some [some (.p (tkD t)), some (.p (.int t.rows)), some (.p (.int t.seats)), some (.p (.int t.row)), some (.p (.int t.seat)), some (.p (.int t.num))] := rfl
  generalize tkD t = td at *
  simp only [m_is_ticket, runP, init, b_is_ticket, e_seq, e_seq_nx, e_seq_rt, e_seq_ite, e_bind, e_bind_ite, e_toS, e_toS_ite, e_set, e_ret, e_expr, e_nil, e_if, e_name, e_C, e_bin, e_un, e_ifx, e_aNil, e_aCons, e_call, e_cVal, e_cNot, e_cAnd, e_cOr, e_and, e_or, e_not, e_add, e_sub, e_lt, e_le, e_gt, e_ge, e_neg, e_eqi, e_nei, e_isN, e_notN, e_partsE, e_ixT0, e_ixT1, e_ixT2, e_ixT3, e_ixT4, e_ixL0, e_ixL1, e_ixL2, e_ixL3, e_ixL4, e_callP, e_callE, e_allP, e_allP0, e_tup, e_lst, e_par, List.map_cons, List.map_nil, List.append_assoc, List.nil_append, List.cons_append, List.replicate, List.getElem?_cons_zero, List.getElem?_cons_succ, List.set_cons_zero, List.set_cons_succ, Option.map_some, if_true, if_false, Bool.false_eq_true, decide_eq_true_eq, List.length_cons, List.length_nil, bg0, bg1, bg2, bg3, bg4, bg5, bg6, bg7, bg8, bg9, bg10, bg11, bg12, bg13, bg14, e0, e1, Bool.not_true, beq_self_eq_true, sAsg, e7, e2, e3, e4, e5, e6]
theorem enumD_mem : ∀ {n : Nat} {ds : List DL.D} {d : DL.D}, d ∈ enumD n ds → ∃ (i : Int) (x : DL.D), x ∈ ds ∧ d = .tup [.int i, x]
  | _, [], _, h => by cases h
  | n, x :: ds, d, h => by
    unfold enumD at h
    rcases List.mem_cons.mp h with rfl | h
    · exact ⟨_, x, List.mem_cons_self, rfl⟩
    · obtain ⟨i, y, hy, e⟩ := enumD_mem h
      exact ⟨i, y, List.mem_cons_of_mem _ hy, e⟩
def isC (c : DL.D) (ds : List DL.D) : Prop := c = .lst ds ∨ c = .tup ds
theorem seq_C {c : DL.D} {ds : List DL.D} (h : isC c ds) {f : Ef} {ρ : Nv} {S S1 : Sto} (hf : f ρ S = .ok (.p c) S1) : iSeq f ρ S = .ok ds S1 := by
  unfold iSeq
  rw [hf]
  rcases h with rfl | rfl <;> rfl
theorem enum_C {c : DL.D} {ds : List DL.D} (h : isC c ds) {f : Ef} {ρ : Nv} {S S1 : Sto} (hf : f ρ S = .ok (.p c) S1) : iEnumX f ρ S = .ok (enumD 0 ds) S1 := by
  unfold iEnumX
  rw [hf]
  rcases h with rfl | rfl <;> rfl
theorem look_tickets {c : DL.D} {ts : List Tk} (h : ∀ t ∈ ts, t.ok) (hc : isC c (ts.map tkD)) : m_look_at_tickets [c] = .ok .non := by
  obtain ⟨ρ', S', e, rfl, _⟩ := forL_inv (t := gT 2 (gsCons (gN 1) (gsCons (gN 2) gsNil))) (body := (sIf (cNot (cVal (dCallP m_is_ticket (aCons (dName 2) aNil)))) (sRaiseA 0 1 (aCons (dName 1) aNil)) sNil)) (fun ρ S => S = [] ∧ ∃ x1 x2, ρ = [some (.p c), x1, x2]) (enumD 0 (ts.map tkD)) (fun d hd ρ S hP => by
    obtain ⟨rfl, x1, x2, rfl⟩ := hP
    obtain ⟨i, x, hx, rfl⟩ := enumD_mem hd
    obtain ⟨t, ht, rfl⟩ := List.mem_map.mp hx
    refine ⟨[some (.p c), some (.p (.int i)), some (.p (tkD t))], rfl, [some (.p c), some (.p (.int i)), some (.p (tkD t))], [], ?_, rfl, _, _, rfl⟩
    have q := is_ticket_ok (h t ht)
    simp only [e_seq, e_seq_nx, e_seq_rt, e_seq_ite, e_bind, e_bind_ite, e_toS, e_toS_ite, e_set, e_ret, e_expr, e_nil, e_if, e_name, e_C, e_bin, e_un, e_ifx, e_aNil, e_aCons, e_call, e_cVal, e_cNot, e_cAnd, e_cOr, e_and, e_or, e_not, e_add, e_sub, e_lt, e_le, e_gt, e_ge, e_neg, e_eqi, e_nei, e_isN, e_notN, e_partsE, e_ixT0, e_ixT1, e_ixT2, e_ixT3, e_ixT4, e_ixL0, e_ixL1, e_ixL2, e_ixL3, e_ixL4, e_callP, e_callE, e_allP, e_allP0, e_tup, e_lst, e_par, List.map_cons, List.map_nil, List.append_assoc, List.nil_append, List.cons_append, List.replicate, List.getElem?_cons_zero, List.getElem?_cons_succ, List.set_cons_zero, List.set_cons_succ, Option.map_some, if_true, if_false, Bool.false_eq_true, decide_eq_true_eq, List.length_cons, List.length_nil, bg0, bg1, bg2, bg3, bg4, bg5, bg6, bg7, bg8, bg9, bg10, bg11, bg12, bg13, bg14, q, Bool.not_true]) [some (.p c), none, none] [] ⟨rfl, _, _, rfl⟩
  have e1 : ∀ x y, iEnumX (dName 0) [some (.p c), x, y] [] = .ok (enumD 0 (ts.map tkD)) [] := fun x y => enum_C hc rfl
  simp only [m_look_at_tickets, runP, init, b_look_at_tickets, e_sFor, e_seq, e_seq_nx, e_seq_rt, e_seq_ite, e_bind, e_bind_ite, e_toS, e_toS_ite, e_set, e_ret, e_expr, e_nil, e_if, e_name, e_C, e_bin, e_un, e_ifx, e_aNil, e_aCons, e_call, e_cVal, e_cNot, e_cAnd, e_cOr, e_and, e_or, e_not, e_add, e_sub, e_lt, e_le, e_gt, e_ge, e_neg, e_eqi, e_nei, e_isN, e_notN, e_partsE, e_ixT0, e_ixT1, e_ixT2, e_ixT3, e_ixT4, e_ixL0, e_ixL1, e_ixL2, e_ixL3, e_ixL4, e_callP, e_callE, e_allP, e_allP0, e_tup, e_lst, e_par, List.map_cons, List.map_nil, List.append_assoc, List.nil_append, List.cons_append, List.replicate, List.getElem?_cons_zero, List.getElem?_cons_succ, List.set_cons_zero, List.set_cons_succ, Option.map_some, if_true, if_false, Bool.false_eq_true, decide_eq_true_eq, List.length_cons, List.length_nil, bg0, bg1, bg2, bg3, bg4, bg5, bg6, bg7, bg8, bg9, bg10, bg11, bg12, bg13, bg14, e1, e]
theorem look_bad_loop {c odd : DL.D} (ho : m_is_ticket [odd] = .ok (.bl false)) {rest : List DL.D} : ∀ (ts : List Tk) (n : Nat) (x1 x2 : Option Dv), (∀ t ∈ ts, t.ok) →
    ∃ ρ', forL (gT 2 (gsCons (gN 1) (gsCons (gN 2) gsNil))) (sIf (cNot (cVal (dCallP m_is_ticket (aCons (dName 2) aNil)))) (sRaiseA 0 1 (aCons (dName 1) aNil)) sNil) (enumD n (ts.map tkD ++ odd :: rest)) [some (.p c), x1, x2] [] = .exc ⟨0, [.int ((n + ts.length : Nat) : Int)]⟩ ρ' []
  | [], n, x1, x2, _ => by
    refine ⟨[some (.p c), some (.p (.int (n : Nat))), some (.p odd)], ?_⟩
    show forL _ _ (DL.D.tup [.int (n : Nat), odd] :: enumD (n + 1) rest) _ _ = _
    have e : (sIf (cNot (cVal (dCallP m_is_ticket (aCons (dName 2) aNil)))) (sRaiseA 0 1 (aCons (dName 1) aNil)) sNil) [some (.p c), some (.p (.int (n : Nat))), some (.p odd)] [] = .exc ⟨0, [.int (n : Nat)]⟩ [some (.p c), some (.p (.int (n : Nat))), some (.p odd)] [] := by
      simp only [e_seq, e_seq_nx, e_seq_rt, e_seq_ite, e_bind, e_bind_ite, e_toS, e_toS_ite, e_set, e_ret, e_expr, e_nil, e_if, e_name, e_C, e_bin, e_un, e_ifx, e_aNil, e_aCons, e_call, e_cVal, e_cNot, e_cAnd, e_cOr, e_and, e_or, e_not, e_add, e_sub, e_lt, e_le, e_gt, e_ge, e_neg, e_eqi, e_nei, e_isN, e_notN, e_partsE, e_ixT0, e_ixT1, e_ixT2, e_ixT3, e_ixT4, e_ixL0, e_ixL1, e_ixL2, e_ixL3, e_ixL4, e_callP, e_callE, e_allP, e_allP0, e_tup, e_lst, e_par, List.map_cons, List.map_nil, List.append_assoc, List.nil_append, List.cons_append, List.replicate, List.getElem?_cons_zero, List.getElem?_cons_succ, List.set_cons_zero, List.set_cons_succ, Option.map_some, if_true, if_false, Bool.false_eq_true, decide_eq_true_eq, List.length_cons, List.length_nil, bg0, bg1, bg2, bg3, bg4, bg5, bg6, bg7, bg8, bg9, bg10, bg11, bg12, bg13, bg14, ho, Bool.not_false, sRaiseA]
      rfl
    unfold forL
    show (match (sIf _ _ _) [some (.p c), some (.p (.int (n : Nat))), some (.p odd)] [] with | .ok (.nx ρ') S' => _ | .ok (.ct ρ') S' => _ | .ok (.bk ρ') S' => _ | .ok (.rt d) S' => _ | .exc x ρ' S' => _ | .bad => _) = _
    rw [e]
    rfl
  | t :: ts, n, x1, x2, h => by
    obtain ⟨ρ', ih⟩ := look_bad_loop ho (rest := rest) ts (n + 1) (some (.p (.int (n : Nat)))) (some (.p (tkD t))) fun t' h' => h t' (List.mem_cons_of_mem _ h')
    refine ⟨ρ', ?_⟩
    rw [show n + (t :: ts).length = n + 1 + ts.length by rw [List.length_cons]; omega, ← ih]
    have q := is_ticket_ok (h t List.mem_cons_self)
    show forL _ _ (DL.D.tup [.int (n : Nat), tkD t] :: enumD (n + 1) (ts.map tkD ++ odd :: rest)) _ _ = _
    have e : (sIf (cNot (cVal (dCallP m_is_ticket (aCons (dName 2) aNil)))) (sRaiseA 0 1 (aCons (dName 1) aNil)) sNil) [some (.p c), some (.p (.int (n : Nat))), some (.p (tkD t))] [] = .ok (.nx [some (.p c), some (.p (.int (n : Nat))), some (.p (tkD t))]) [] := by
      simp only [e_seq, e_seq_nx, e_seq_rt, e_seq_ite, e_bind, e_bind_ite, e_toS, e_toS_ite, e_set, e_ret, e_expr, e_nil, e_if, e_name, e_C, e_bin, e_un, e_ifx, e_aNil, e_aCons, e_call, e_cVal, e_cNot, e_cAnd, e_cOr, e_and, e_or, e_not, e_add, e_sub, e_lt, e_le, e_gt, e_ge, e_neg, e_eqi, e_nei, e_isN, e_notN, e_partsE, e_ixT0, e_ixT1, e_ixT2, e_ixT3, e_ixT4, e_ixL0, e_ixL1, e_ixL2, e_ixL3, e_ixL4, e_callP, e_callE, e_allP, e_allP0, e_tup, e_lst, e_par, List.map_cons, List.map_nil, List.append_assoc, List.nil_append, List.cons_append, List.replicate, List.getElem?_cons_zero, List.getElem?_cons_succ, List.set_cons_zero, List.set_cons_succ, Option.map_some, if_true, if_false, Bool.false_eq_true, decide_eq_true_eq, List.length_cons, List.length_nil, bg0, bg1, bg2, bg3, bg4, bg5, bg6, bg7, bg8, bg9, bg10, bg11, bg12, bg13, bg14, q, Bool.not_true]
    conv => lhs; unfold forL
    show (match (sIf _ _ _) [some (.p c), some (.p (.int (n : Nat))), some (.p (tkD t))] [] with | .ok (.nx ρ') S' => _ | .ok (.ct ρ') S' => _ | .ok (.bk ρ') S' => _ | .ok (.rt d) S' => _ | .exc x ρ' S' => _ | .bad => _) = _
    rw [e]
theorem look_bad {c odd : DL.D} (ho : m_is_ticket [odd] = .ok (.bl false)) {ts : List Tk} {rest : List DL.D} (h : ∀ t ∈ ts, t.ok) (hc : isC c (ts.map tkD ++ odd :: rest)) : m_look_at_tickets [c] = .exc ⟨0, [.int (ts.length : Nat)]⟩ := by
  obtain ⟨ρ', e⟩ := look_bad_loop (c := c) ho (rest := rest) ts 0 none none h
  have e1 : ∀ x y, iEnumX (dName 0) [some (.p c), x, y] [] = .ok (enumD 0 (ts.map tkD ++ odd :: rest)) [] := fun x y => enum_C hc rfl
  rw [Nat.zero_add] at e
  simp only [m_look_at_tickets, runP, init, b_look_at_tickets, e_sFor, e_seq, e_seq_nx, e_seq_rt, e_seq_ite, e_bind, e_bind_ite, e_toS, e_toS_ite, e_set, e_ret, e_expr, e_nil, e_if, e_name, e_C, e_bin, e_un, e_ifx, e_aNil, e_aCons, e_call, e_cVal, e_cNot, e_cAnd, e_cOr, e_and, e_or, e_not, e_add, e_sub, e_lt, e_le, e_gt, e_ge, e_neg, e_eqi, e_nei, e_isN, e_notN, e_partsE, e_ixT0, e_ixT1, e_ixT2, e_ixT3, e_ixT4, e_ixL0, e_ixL1, e_ixL2, e_ixL3, e_ixL4, e_callP, e_callE, e_allP, e_allP0, e_tup, e_lst, e_par, List.map_cons, List.map_nil, List.append_assoc, List.nil_append, List.cons_append, List.replicate, List.getElem?_cons_zero, List.getElem?_cons_succ, List.set_cons_zero, List.set_cons_succ, Option.map_some, if_true, if_false, Bool.false_eq_true, decide_eq_true_eq, List.length_cons, List.length_nil, bg0, bg1, bg2, bg3, bg4, bg5, bg6, bg7, bg8, bg9, bg10, bg11, bg12, bg13, bg14, e1, e]
/-! ### which rules fit -/

theorem tks_of : ∀ {l : List DL.D}, (∀ d ∈ l, ∃ t : Tk, t.ok ∧ d = tkD t) → ∃ ts : List Tk, l = ts.map tkD ∧ ∀ t ∈ ts, t.ok
  | [], _ => ⟨[], rfl, fun t h => by cases h⟩
  | d :: l, h => by
    obtain ⟨t, ht, rfl⟩ := h d List.mem_cons_self
    obtain ⟨ts, rfl, hts⟩ := tks_of (l := l) fun d hd => h d (List.mem_cons_of_mem _ hd)
    exact ⟨t :: ts, rfl, fun t' h' => (List.mem_cons.mp h').elim (fun z => z ▸ ht) (hts t')⟩

theorem comp_filter {t : Tgt} {cf : Tf} {el : Ef} {ρ : Nv} {S : Sto} (p : DL.D → Bool) (F : DL.D → DL.D) : ∀ {ds : List DL.D}, (∀ d ∈ ds, ∃ ρ1, t (.p d) ρ = some ρ1 ∧ cf ρ1 S = .ok (p d) S ∧ (p d = true → el ρ1 S = .ok (.p (F d)) S)) → compL t cf el ρ ds S = .ok ((ds.filter p).map F) S
  | [], _ => rfl
  | d :: ds, h => by
    obtain ⟨ρ1, e1, e2, e3⟩ := h d List.mem_cons_self
    have ih := comp_filter (t := t) (cf := cf) (el := el) (ρ := ρ) (S := S) p F (ds := ds) fun d' hd => h d' (List.mem_cons_of_mem _ hd)
    unfold compL
    rw [e1]
    show ((cf ρ1 S).nox.bind _) = _
    rw [e2]
    cases hp : p d with
    | false =>
      show compL t cf el ρ ds S = _
      rw [ih, List.filter_cons_of_neg (by rw [hp]; exact Bool.false_ne_true)]
    | true =>
      show ((el ρ1 S).nox.bind _) = _
      rw [e3 hp, List.filter_cons_of_pos hp]
      show ((compL t cf el ρ ds S).bind _) = _
      rw [ih]; rfl
theorem e_compF {vs : List Nat} {it : If} {t : Tgt} {cf : Tf} {el : Ef} {ρ : Nv} {S S1 S2 : Sto} {ds r : List DL.D} (h : it ρ S = .ok ds S1) (hl : ds.length ≤ big) (hc : compL t cf el (wipeN ρ vs) ds S1 = .ok r S2) : dComp vs it t cf el ρ S = .ok (.p (.lst r)) S2 := by
  unfold dComp
  rw [h]
  show (if ds.length ≤ big then _ else _) = _
  rw [if_pos hl, hc]; rfl

/-! ### texts as lists of signs -/
open TL in
theorem tl_bl : tl (" " : Str) = [32] := by decide +kernel
open TL in
theorem tl_nl : tl ("\n" : Str) = [10] := by decide +kernel
open TL in
theorem tl_em : tl ("" : Str) = [] := by decide +kernel
theorem bl_all : ((" " : Str)).cps.all (· < 256) = true := by decide +kernel
theorem nl_all : (("\n" : Str)).cps.all (· < 256) = true := by decide +kernel
theorem bl_len : (((" " : Str)).length == 0) = false := by decide +kernel
theorem nl_len : ((("\n" : Str)).length == 0) = false := by decide +kernel
/-- a word -/
structure IsW (x : Str) : Prop where
  ne : TL.tl x ≠ []
  at_ : ∀ c ∈ TL.tl x, c ≠ 32 ∧ c ≠ 10 ∧ c < 256
theorem IsW.bl {x : Str} (h : IsW x) : 32 ∉ TL.tl x := fun z => (h.at_ _ z).1 rfl
theorem strOk_of {x : Str} (h : ∀ c ∈ TL.tl x, c < 256) : PyData.strOk x = true := by
  unfold PyData.strOk
  rw [← Array.all_toList, List.all_eq_true]
  intro c hc
  have := h c hc
  exact decide_eq_true (by omega)
theorem IsW.ok {x : Str} (h : IsW x) : PyData.strOk x = true := strOk_of fun c hc => (h.at_ c hc).2.2
theorem e_nes {z u : Str} {S : Sto} (h : PyData.strOk z = true) (h' : PyData.strOk u = true) : oNe (.p (.str z)) (.p (.str u)) S = .ok (.p (.bl (!(z == u)))) S := by
  show (if SeqAt.shaped (.str z) = true ∧ SeqAt.shaped (.str u) = true then _ else _) = _
  rw [if_pos ⟨shaped_str h, shaped_str h'⟩]; rfl
open TL in
/-- the words of a line -/
def PcL (l : List Nat) (ws : List (List Nat)) : Prop := (spl [32] 0 [] l).filter (fun p => !p.isEmpty) = ws
open TL in
theorem pc_nil : PcL [] [] := rfl
open TL in
theorem pc_blank {l : List Nat} {ws : List (List Nat)} (h : PcL l ws) : PcL (32 :: l) ws := by
  have e := spl_part1 (s := 32) (S := []) (p := []) (rest := l) (acc := []) (by simp)
  unfold PcL
  rw [show (32 :: l) = [] ++ (32 :: [] ++ l) from rfl, e]
  exact h
open TL in
theorem pc_word {l w : List Nat} {ws : List (List Nat)} (hw : w ≠ []) (hb : 32 ∉ w) (h : PcL l ws) : PcL (w ++ 32 :: l) (w :: ws) := by
  have e := spl_part1 (s := 32) (S := []) (p := w) (rest := l) (acc := []) hb
  unfold PcL
  rw [show w ++ 32 :: l = w ++ (32 :: [] ++ l) from rfl, e, List.nil_append, List.filter_cons_of_pos (by cases w <;> simp at hw ⊢)]
  rw [show (spl [32] 0 [] l).filter (fun p => !p.isEmpty) = ws from h]
open TL in
theorem pc_last {w : List Nat} (hw : w ≠ []) (hb : 32 ∉ w) : PcL w [w] := by
  unfold PcL
  rw [spl_last1 hb, List.nil_append, List.filter_cons_of_pos (by cases w <;> simp at hw ⊢)]; rfl
open TL in
theorem pc_join : ∀ {ws : List (List Nat)}, ws ≠ [] → (∀ w ∈ ws, w ≠ [] ∧ 32 ∉ w) → PcL (joinL [32] ws) ws
  | [], h, _ => absurd rfl h
  | [w], _, h => pc_last (h w (by simp)).1 (h w (by simp)).2
  | w :: u :: r, _, h => by
    have e : joinL [32] (w :: u :: r) = w ++ 32 :: joinL [32] (u :: r) := rfl
    rw [e]
    exact pc_word (h w (by simp)).1 (h w (by simp)).2 (pc_join (by simp) fun z hz => h z (List.mem_cons_of_mem _ hz))
theorem pc_reps {l : List Nat} {ws : List (List Nat)} (h : PcL l ws) : ∀ k : Nat, PcL (List.replicate k 32 ++ l) ws
  | 0 => h
  | k + 1 => by rw [List.replicate_succ, List.cons_append]; exact pc_blank (pc_reps h k)
open TL in
theorem spl_mem {s : Nat} : ∀ {l acc p : List Nat}, p ∈ spl [s] 0 acc l → ∀ c ∈ p, c ∈ acc ∨ c ∈ l
  | [], acc, p, h, c, hc => by
    rw [spl_nil] at h
    rw [List.mem_singleton.mp h] at hc
    exact .inl hc
  | d :: r, acc, p, h, c, hc => by
    cases hp : pre [s] (d :: r) with
    | true =>
      rw [spl_hit hp] at h
      rcases List.mem_cons.mp h with e | e
      · rw [e] at hc; exact .inl hc
      · have := spl_mem (s := s) e c hc
        exact this.elim (fun z => nomatch z) fun z => .inr (List.mem_cons_of_mem _ z)
    | false =>
      rw [spl_miss hp] at h
      rcases spl_mem (s := s) h c hc with e | e
      · rcases List.mem_append.mp e with e | e
        · exact .inl e
        · rw [List.mem_singleton.mp e]; exact .inr List.mem_cons_self
      · exact .inr (List.mem_cons_of_mem _ e)
open TL in
/-- the pieces of a text: those that split gives and are not empty -/
def pcs (x : Str) : List Str := (Txt.split x " ").filter fun w => !(w == "")
open TL in
theorem split_bl (x : Str) : (Txt.split x " ").map tl = spl [32] 0 [] (tl x) := by
  rw [split_spl x _ (by rw [tl_bl]; simp) (kind_ok bl_all), tl_bl]
theorem eq_em {w : Str} : (w == "") = (TL.tl w).isEmpty := by
  by_cases h : TL.tl w = []
  · have e : w = "" := TL.ext_tl (by rw [h, tl_em])
    rw [h, e]
    exact beq_self_eq_true _
  · have e : ¬ w = "" := fun z => h (by rw [z]; exact tl_em)
    rw [beq_eq_false_iff_ne.mpr e]
    cases q : TL.tl w with
    | nil => exact absurd q h
    | cons _ _ => rfl
theorem pcs_of {x : Str} {ws : List Str} (h : PcL (TL.tl x) (ws.map TL.tl)) : pcs x = ws := by
  refine TL.map_tl_inj ?_
  rw [← h, ← split_bl, List.filter_map]
  unfold pcs
  congr 1
  refine List.filter_congr fun w _ => ?_
  show (!(w == "")) = !((TL.tl w).isEmpty)
  rw [eq_em]
theorem split_ok {x w : Str} (h : ∀ c ∈ TL.tl x, c < 256) (hw : w ∈ Txt.split x " ") : PyData.strOk w = true := by
  refine strOk_of fun c hc => ?_
  have hm : TL.tl w ∈ TL.spl [32] 0 [] (TL.tl x) := by rw [← split_bl]; exact List.mem_map.mpr ⟨w, hw, rfl⟩
  rcases spl_mem hm c hc with e | e
  · cases e
  · exact h c e
/-! numbers as words -/
theorem numL_small : ∀ n : Nat, n < 10 ^ (TL.numL n).length := by
  intro n
  induction n using Nat.strongRecOn with
  | _ n ih =>
    by_cases h : n < 10
    · rw [TL.numL_lt h]; simpa using h
    · rw [TL.numL_step (by omega), List.length_append]
      have q := ih (n / 10) (by omega)
      show n < 10 ^ ((TL.numL (n / 10)).length + 1)
      rw [Nat.pow_succ]
      omega
theorem numL_le {m n : Nat} (h : m ≤ n) : (TL.numL m).length ≤ (TL.numL n).length := by
  refine TL.numL_len ?_ (Nat.lt_of_le_of_lt h (numL_small n))
  cases q : TL.numL n with
  | nil => exact absurd q (TL.numL_ne n)
  | cons _ _ => exact Nat.succ_pos _
theorem numL_head : ∀ n : Nat, n ≠ 0 → ∃ c r, TL.numL n = c :: r ∧ c ≠ 48 := by
  intro n
  induction n using Nat.strongRecOn with
  | _ n ih =>
    intro h0
    by_cases h : n < 10
    · exact ⟨_, _, TL.numL_lt h, by omega⟩
    · obtain ⟨c, r, e, hc⟩ := ih (n / 10) (by omega) (by omega)
      exact ⟨c, r ++ [48 + n % 10], by rw [TL.numL_step (by omega), e]; rfl, hc⟩
/-- a number's word -/
def nw (i : Int) : Str := Str.ofString (toString i)
theorem tl_nw {i : Int} (h : 0 ≤ i) : TL.tl (nw i) = TL.numL i.toNat := by
  have e : i = ((i.toNat : Nat) : Int) := by omega
  have q := TL.tl_num i.toNat
  rw [← e] at q
  exact q
theorem nw_w {i : Int} (h : 0 ≤ i) : IsW (nw i) := by
  refine ⟨by rw [tl_nw h]; exact TL.numL_ne _, fun c hc => ?_⟩
  rw [tl_nw h] at hc
  have := TL.numL_digits _ c hc
  omega
theorem nw_len {i : Int} (h : 0 ≤ i) {k : Nat} (hk : 0 < k) (hb : i.toNat < 10 ^ k) : (nw i).length ≤ k := by
  rw [TL.len_tl, tl_nw h]
  exact TL.numL_len hk hb
theorem nw_int {i : Int} (h : 0 ≤ i) (hl : (nw i).length ≤ 640) : PySem.intText? (nw i) = some i := by
  have e : i = ((i.toNat : Nat) : Int) := by omega
  have q := TL.int_num (n := i.toNat) (by rw [TL.len_tl, tl_nw h] at hl; omega)
  rw [← e] at q
  exact q

/-! ### lines -/
def lineF (a : Int) (ps : List DL.D) (k : Nat) : List (Str × Dv) := [("at", .p (.int a)), ("pieces", .p (.lst ps)), ("spot", .p (.int (k : Nat)))]
theorem lk_p {a : Int} {ps : List DL.D} {k : Nat} : (lineF a ps k).lookup ("pieces" : Str) = some (.p (.lst ps)) := by
  unfold lineF
  rw [List.lookup_cons, show (("pieces" : Str) == "at") = false by decide +kernel]
  dsimp only
  rw [List.lookup_cons, show (("pieces" : Str) == "pieces") = true by decide +kernel]
theorem lk_s {a : Int} {ps : List DL.D} {k : Nat} : (lineF a ps k).lookup ("spot" : Str) = some (.p (.int (k : Nat))) := by
  unfold lineF
  rw [List.lookup_cons, show (("spot" : Str) == "at") = false by decide +kernel]
  dsimp only
  rw [List.lookup_cons, show (("spot" : Str) == "pieces") = false by decide +kernel]
  dsimp only
  rw [List.lookup_cons, show (("spot" : Str) == "spot") = true by decide +kernel]
theorem lk_a {a : Int} {ps : List DL.D} {k : Nat} : (lineF a ps k).lookup ("at" : Str) = some (.p (.int a)) := by
  unfold lineF
  rw [List.lookup_cons, show (("at" : Str) == "at") = true by decide +kernel]
theorem n_as : ¬ (("at" : Str) = "spot") := by decide +kernel
theorem n_ps : ¬ (("pieces" : Str) = "spot") := by decide +kernel
theorem n_ap : ¬ (("at" : Str) = "pieces") := by decide +kernel
theorem put_s {a : Int} {ps : List DL.D} {k : Nat} {j : Int} (h : j = ((k + 1 : Nat) : Int)) : putD "spot" (.p (.int j)) (lineF a ps k) = lineF a ps (k + 1) := by
  subst h
  unfold lineF putD
  rw [if_neg n_as]
  unfold putD
  rw [if_neg n_ps]
  unfold putD
  rw [if_pos rfl]
theorem insOf_at {S : Sto} {i : Nat} {fs : List (Str × Dv)} (h : S[i]? = some (.ins 0 fs)) : insOf S (.hnd i) = some (i, fs) := by
  unfold insOf
  dsimp only
  rw [h]
theorem e_fld {fn : Str} {ef : Ef} {ρ : Nv} {S : Sto} {i : Nat} {fs : List (Str × Dv)} {x : Dv} (h : ef ρ S = .ok (.hnd i) S) (hs : S[i]? = some (.ins 0 fs)) (hl : fs.lookup fn = some x) : dFld fn ef ρ S = .ok x S := by
  unfold dFld
  rw [h]
  show (match insOf S (.hnd i) with | some (_, fs) => (match fs.lookup fn with | some x => Out.ok x S | none => .bad) | none => .bad) = _
  rw [insOf_at hs]
  dsimp only
  rw [hl]
theorem e_fldSet {fn : Str} {eo ev : Ef} {ρ : Nv} {S S1 : Sto} {i : Nat} {fs : List (Str × Dv)} {x : Dv} (hv : ev ρ S = .ok x S1) (h : eo ρ S1 = .ok (.hnd i) S1) (hs : S1[i]? = some (.ins 0 fs)) (hl : fs.length < 1000) : sFldSet fn eo ev ρ S = .ok (.nx ρ) (S1.set i (.ins 0 (putD fn x fs))) := by
  unfold sFldSet
  rw [hv]
  show ((eo ρ S1).toS ρ _) = _
  rw [h]
  show (match insOf S1 (.hnd i) with | some (n, fs) => (if fs.length < 1000 then OS.ok (.nx ρ) (S1.set n (.ins 0 (putD fn x fs))) else .bad) | none => .bad) = _
  rw [insOf_at hs]
  dsimp only
  rw [if_pos hl]
theorem e_aug_spot {eo : Ef} {ρ : Nv} {S : Sto} {i k : Nat} {a : Int} {ps : List DL.D} (h : ∀ S, eo ρ S = .ok (.hnd i) S) (hs : S[i]? = some (.ins 0 (lineF a ps k))) : sAugF "spot" eo (dC (.int 1)) ρ S = .ok (.nx ρ) (S.set i (.ins 0 (lineF a ps (k + 1)))) := by
  unfold sAugF
  rw [h]
  show (match insOf S (.hnd i) with | some (n, fs) => _ | none => OS.bad) = _
  rw [insOf_at hs]
  dsimp only
  rw [lk_s]
  show (match Dv.p (.int 1), insOf S (.hnd i) with | .p (.int b), some (_, fs2) => (if fs2.length < 1000 then OS.ok (.nx ρ) (S.set i (.ins 0 (putD "spot" (.p (.int (((k : Nat) : Int) + b))) fs2))) else .bad) | _, _ => .bad) = _
  rw [insOf_at hs]
  dsimp only
  rw [if_pos (by unfold lineF; simp), put_s (k := k) (j := (k : Int) + 1) (by omega)]
theorem e_methO {mn : Str} {m : List Dv → Sto → Out Dv} {f : Ef} {af : Af} {ρ : Nv} {S S2 : Sto} {i : Nat} {fs : List (Str × Dv)} {xs : List Dv} (h : f ρ S = .ok (.hnd i) S) (hs : S[i]? = some (.ins 0 fs)) (hl : fs.lookup mn = none) (ha : af ρ S = .ok xs S2) : dMethO mn m f af ρ S = m (.hnd i :: xs) S2 := by
  unfold dMethO
  rw [h]
  show (match insOf S (.hnd i) with | some (_, fs) => (match fs.lookup mn with | none => (af ρ S).bind fun xs S2 => m (.hnd i :: xs) S2 | some _ => .bad) | none => .bad) = _
  rw [insOf_at hs]
  dsimp only
  rw [hl, ha]; rfl
theorem lk_no {a : Int} {ps : List DL.D} {k : Nat} {mn : Str} (h1 : (mn == "at") = false) (h2 : (mn == "pieces") = false) (h3 : (mn == "spot") = false) : (lineF a ps k).lookup mn = none := by
  unfold lineF
  rw [List.lookup_cons, h1]
  dsimp only
  rw [List.lookup_cons, h2]
  dsimp only
  rw [List.lookup_cons, h3]; rfl
theorem flDs_str : ∀ ws : List Str, flDs (ws.map DL.D.str) = some (ws.map V.str)
  | [] => rfl
  | w :: ws => by
    rw [List.map_cons]
    unfold flDs
    rw [flDs_str ws]; rfl
theorem inV_str {w : Str} : ∀ {ws : List Str}, w ∈ ws → inV (.str w) (ws.map V.str) = true
  | z :: ws, h => by
    unfold inV
    rw [List.map_cons, List.any_cons]
    rcases List.mem_cons.mp h with e | e
    · subst e
      have : eqV (V.str w) (V.str w) = true := by unfold eqV; exact beq_self_eq_true _
      rw [this]; rfl
    · have ih := inV_str e
      unfold inV at ih
      rw [ih, Bool.or_true]
theorem e_not_in {w : Str} {ws : List Str} {c : DL.D} {S : Sto} (hc : isC c (ws.map DL.D.str)) (h : w ∈ ws) : oInS true (.p (.str w)) (.p c) S = .ok (.p (.bl false)) S := by
  have e : sqOf S (.p c) = some (ws.map DL.D.str) := by rcases hc with rfl | rfl <;> rfl
  unfold oInS
  rw [e]
  show (match flD (.str w), flDs (ws.map DL.D.str) with | some v, some vs => Out.ok (Dv.p (.bl (if true = true then !inV v vs else inV v vs))) S | _, _ => .bad) = _
  rw [flDs_str]
  show Out.ok (Dv.p (.bl (!inV (.str w) (ws.map V.str)))) S = _
  rw [inV_str h]; rfl
theorem nLen_lst {ps : List DL.D} {S : Sto} : nLen [.p (.lst ps)] S = .ok (.p (.int (ps.length : Nat))) S := rfl
theorem eq_nat {i j : Nat} (h : i < j) {S : Sto} : oEq (.p (.int (i : Nat))) (.p (.int (j : Nat))) S = .ok (.p (.bl false)) S := by
  rw [e_eqi, show ((i : Int) == (j : Int)) = false from beq_eq_false_iff_ne.mpr (by omega)]
/-- a line's state in the store -/
def Lat (S : Sto) (i : Nat) (a : Int) (ps : List DL.D) (k : Nat) : Prop := S[i]? = some (.ins 0 (lineF a ps k))
def Lset (S : Sto) (i : Nat) (a : Int) (ps : List DL.D) (k : Nat) : Sto := S.set i (.ins 0 (lineF a ps k))
theorem Lat.lt {S : Sto} {i : Nat} {a : Int} {ps : List DL.D} {k : Nat} (h : Lat S i a ps k) : i < S.length := (List.getElem?_eq_some_iff.mp h).1
theorem Lat.put {S : Sto} {i : Nat} {a : Int} {ps : List DL.D} {k j : Nat} (h : Lat S i a ps k) : Lat (Lset S i a ps j) i a ps j := by
  unfold Lat Lset
  rw [List.getElem?_set_self h.lt]
theorem Lset.two {S : Sto} {i : Nat} {a : Int} {ps : List DL.D} {k j : Nat} : Lset (Lset S i a ps k) i a ps j = Lset S i a ps j := by
  unfold Lset
  rw [List.set_set]
theorem take_eq {S : Sto} {i k : Nat} {a : Int} {ps : List DL.D} {w : Str} {ws : List Str} {c : DL.D} (h : Lat S i a ps k) (hw : ps[k]? = some (.str w)) (hc : isC c (ws.map DL.D.str)) (hm : w ∈ ws) :
    m_Line_take [.hnd i, .p c] S = .ok (.p (.str w)) (Lset S i a ps (k + 1)) := by
  have hk : k < ps.length := (List.getElem?_eq_some_iff.mp hw).1
  have f1 : ∀ ρ : Nv, ρ[0]? = some (some (.hnd i)) → dFld "spot" (dName 0) ρ S = .ok (.p (.int (k : Nat))) S := fun ρ hρ => e_fld (by rw [e_name, hρ]) h lk_s
  have f2 : ∀ ρ : Nv, ρ[0]? = some (some (.hnd i)) → dFld "pieces" (dName 0) ρ S = .ok (.p (.lst ps)) S := fun ρ hρ => e_fld (by rw [e_name, hρ]) h lk_p
  have h2 := h.put (j := k + 1)
  have f3 : ∀ ρ : Nv, ρ[0]? = some (some (.hnd i)) → dFld "spot" (dName 0) ρ (Lset S i a ps (k + 1)) = .ok (.p (.int ((k + 1 : Nat) : Int))) (Lset S i a ps (k + 1)) := fun ρ hρ => e_fld (by rw [e_name, hρ]) h2 lk_s
  have f4 : ∀ ρ : Nv, ρ[0]? = some (some (.hnd i)) → dFld "pieces" (dName 0) ρ (Lset S i a ps (k + 1)) = .ok (.p (.lst ps)) (Lset S i a ps (k + 1)) := fun ρ hρ => e_fld (by rw [e_name, hρ]) h2 lk_p
  have a1 : ∀ ρ : Nv, ρ[0]? = some (some (.hnd i)) → sAugF "spot" (dName 0) (dC (.int 1)) ρ S = .ok (.nx ρ) (Lset S i a ps (k + 1)) := fun ρ hρ => e_aug_spot (fun S => by rw [e_name, hρ]) h
  have e1 : ∀ S, oIx (.p (.lst ps)) (.p (.int (k : Nat))) S = .ok (.p (.str w)) S := fun S => e_ixL k hw
  have e2 : ((k + 1 : Nat) : Int) - 1 = (k : Int) := by omega
  have e3 := e_not_in (S := S) hc hm
  simp only [m_Line_take, runE, init, b_Line_take, e_seq, e_seq_nx, e_seq_rt, e_seq_ite, e_bind, e_bind_ite, e_toS, e_toS_ite, e_set, e_ret, e_expr, e_nil, e_if, e_name, e_C, e_bin, e_un, e_ifx, e_aNil, e_aCons, e_call, e_cVal, e_cNot, e_cAnd, e_cOr, e_and, e_or, e_not, e_add, e_sub, e_lt, e_le, e_gt, e_ge, e_neg, e_eqi, e_nei, e_isN, e_notN, e_partsE, e_ixT0, e_ixT1, e_ixT2, e_ixT3, e_ixT4, e_ixL0, e_ixL1, e_ixL2, e_ixL3, e_ixL4, e_callP, e_callE, e_allP, e_allP0, e_tup, e_lst, e_par, List.map_cons, List.map_nil, List.append_assoc, List.nil_append, List.cons_append, List.replicate, List.getElem?_cons_zero, List.getElem?_cons_succ, List.set_cons_zero, List.set_cons_succ, Option.map_some, if_true, if_false, Bool.false_eq_true, decide_eq_true_eq, List.length_cons, List.length_nil, bg0, bg1, bg2, bg3, bg4, bg5, bg6, bg7, bg8, bg9, bg10, bg11, bg12, bg13, bg14, f1, f2, nLen_lst, eq_nat hk, e1, e3, a1, f3, f4, e2]
theorem finish_eq {S : Sto} {i : Nat} {a : Int} {ps : List DL.D} (h : Lat S i a ps ps.length) : m_Line_finish [.hnd i] S = .ok (.p .non) S := by
  have f1 : ∀ ρ : Nv, ρ[0]? = some (some (.hnd i)) → dFld "spot" (dName 0) ρ S = .ok (.p (.int (ps.length : Nat))) S := fun ρ hρ => e_fld (by rw [e_name, hρ]) h lk_s
  have f2 : ∀ ρ : Nv, ρ[0]? = some (some (.hnd i)) → dFld "pieces" (dName 0) ρ S = .ok (.p (.lst ps)) S := fun ρ hρ => e_fld (by rw [e_name, hρ]) h lk_p
  have e1 : decide ((ps.length : Int) < (ps.length : Int)) = false := decide_eq_false (by omega)
  simp only [m_Line_finish, runE, init, b_Line_finish, e_seq, e_seq_nx, e_seq_rt, e_seq_ite, e_bind, e_bind_ite, e_toS, e_toS_ite, e_set, e_ret, e_expr, e_nil, e_if, e_name, e_C, e_bin, e_un, e_ifx, e_aNil, e_aCons, e_call, e_cVal, e_cNot, e_cAnd, e_cOr, e_and, e_or, e_not, e_add, e_sub, e_lt, e_le, e_gt, e_ge, e_neg, e_eqi, e_nei, e_isN, e_notN, e_partsE, e_ixT0, e_ixT1, e_ixT2, e_ixT3, e_ixT4, e_ixL0, e_ixL1, e_ixL2, e_ixL3, e_ixL4, e_callP, e_callE, e_allP, e_allP0, e_tup, e_lst, e_par, List.map_cons, List.map_nil, List.append_assoc, List.nil_append, List.cons_append, List.replicate, List.getElem?_cons_zero, List.getElem?_cons_succ, List.set_cons_zero, List.set_cons_succ, Option.map_some, if_true, if_false, Bool.false_eq_true, decide_eq_true_eq, List.length_cons, List.length_nil, bg0, bg1, bg2, bg3, bg4, bg5, bg6, bg7, bg8, bg9, bg10, bg11, bg12, bg13, bg14, f1, f2, nLen_lst, e1]
/-! numbers -/
theorem dg_all : ∀ c : Nat, 48 ≤ c → c ≤ 57 → c ∈ (("0123456789" : Str)).cps.toList := by
  have e : (("0123456789" : Str)).cps.toList = [48, 49, 50, 51, 52, 53, 54, 55, 56, 57] := by decide +kernel
  intro c h1 h2
  rw [e]
  have : c = 48 ∨ c = 49 ∨ c = 50 ∨ c = 51 ∨ c = 52 ∨ c = 53 ∨ c = 54 ∨ c = 55 ∨ c = 56 ∨ c = 57 := by omega
  rcases this with rfl | rfl | rfl | rfl | rfl | rfl | rfl | rfl | rfl | rfl <;> simp
theorem ok_0 : PyData.strOk ("0" : Str) = true := by decide +kernel
theorem tl_0 : TL.tl ("0" : Str) = [48] := by decide +kernel
theorem nw_0 {i : Int} (h : 0 ≤ i) : (nw i == "0") = decide (i = 0) := by
  by_cases e : i = 0
  · subst e
    have : nw 0 = "0" := TL.ext_tl (by rw [tl_nw (by decide), tl_0]; decide +kernel)
    rw [this]; rfl
  · rw [decide_eq_false e]
    refine beq_eq_false_iff_ne.mpr fun z => e ?_
    have q := congrArg TL.tl z
    rw [tl_nw h, tl_0] at q
    have : TL.numL i.toNat = TL.numL 0 := by rw [q]; decide +kernel
    have := TL.numL_inj this
    omega
theorem is_word_eq {n lo hi : Int} (h0 : 0 ≤ n) (h1 : lo ≤ n) (h2 : n ≤ hi) (hb : hi < 10 ^ 40) : m_is_word [.str (nw n), .int lo, .int hi] = .ok (.bl true) := by
  have hh : 0 ≤ hi := by omega
  have lh : (nw hi).length ≤ 40 := nw_len hh (by decide) (by omega)
  have ln : (nw n).length ≤ (nw hi).length := by
    rw [TL.len_tl, TL.len_tl, tl_nw h0, tl_nw hh]
    exact numL_le (by omega)
  have e1 : dComp [3] (iStrF (dName 0)) (gN 3) cYes (dBin (oInC false) (dName 3) (dC (.str "0123456789"))) [some (.p (.str (nw n))), some (.p (.int lo)), some (.p (.int hi)), none] [] = .ok (.p (.lst (((TL.tl (nw n)).map fun _ => true).map DL.D.bl))) [] := by
    refine e_comp (S1 := []) (ds := sgD (nw n)) rfl (by unfold sgD; rw [List.length_map, ← TL.len_tl]; unfold big; omega) ?_
    have key := comp_map (t := gN 3) (el := dBin (oInC false) (dName 3) (dC (.str "0123456789"))) (ρ := [some (.p (.str (nw n))), some (.p (.int lo)), some (.p (.int hi)), none]) (S := []) (fun _ => .bl true) (ds := sgD (nw n)) fun d hd => by
      unfold sgD at hd
      obtain ⟨c, hc, rfl⟩ := List.mem_map.mp hd
      refine ⟨[some (.p (.str (nw n))), some (.p (.int lo)), some (.p (.int hi)), some (.p (.str ⟨#[c]⟩))], rfl, ?_⟩
      have hc' : c ∈ TL.numL n.toNat := by rw [← tl_nw h0]; exact hc
      have hd := TL.numL_digits _ c hc'
      have q : ∀ S, oInC false (.p (.str ⟨#[c]⟩)) (.p (.str "0123456789")) S = .ok (.p (.bl true)) S := fun S => by
        show Out.ok (Dv.p (.bl (decide (c ∈ (("0123456789" : Str)).cps.toList)))) S = _
        rw [decide_eq_true (dg_all c (by omega) (by omega))]
      simp only [e_seq, e_seq_nx, e_seq_rt, e_seq_ite, e_bind, e_bind_ite, e_toS, e_toS_ite, e_set, e_ret, e_expr, e_nil, e_if, e_name, e_C, e_bin, e_un, e_ifx, e_aNil, e_aCons, e_call, e_cVal, e_cNot, e_cAnd, e_cOr, e_and, e_or, e_not, e_add, e_sub, e_lt, e_le, e_gt, e_ge, e_neg, e_eqi, e_nei, e_isN, e_notN, e_partsE, e_ixT0, e_ixT1, e_ixT2, e_ixT3, e_ixT4, e_ixL0, e_ixL1, e_ixL2, e_ixL3, e_ixL4, e_callP, e_callE, e_allP, e_allP0, e_tup, e_lst, e_par, List.map_cons, List.map_nil, List.append_assoc, List.nil_append, List.cons_append, List.replicate, List.getElem?_cons_zero, List.getElem?_cons_succ, List.set_cons_zero, List.set_cons_succ, Option.map_some, if_true, if_false, Bool.false_eq_true, decide_eq_true_eq, List.length_cons, List.length_nil, bg0, bg1, bg2, bg3, bg4, bg5, bg6, bg7, bg8, bg9, bg10, bg11, bg12, bg13, bg14, q]
    rw [List.map_map]
    unfold sgD at key ⊢
    rw [List.map_map] at key
    exact key
  have e2 : ((TL.tl (nw n)).map fun _ => true).all id = true := by simp
  have e3 : ∀ S, nLenS [.p (.str (nw n))] S = .ok (.p (.int (nw n).length)) S := fun S => by
    show (if (nw n).length ≤ big then _ else _) = _
    rw [if_pos (by unfold big; omega)]
  have e4 : ∀ S, nLenS [.p (.str (nw hi))] S = .ok (.p (.int (nw hi).length)) S := fun S => by
    show (if (nw hi).length ≤ big then _ else _) = _
    rw [if_pos (by unfold big; omega)]
  have e5 : ∀ S, nStr [.p (.int hi)] S = .ok (.p (.str (nw hi))) S := fun S => by
    show (if hi.natAbs < wid then _ else _) = _
    rw [if_pos (by have : (10 : Int) ^ 40 = 10000000000000000000000000000000000000000 := by decide
                   have := wid_big; omega)]; rfl
  have e6 : decide (((nw hi).length : Int) < ((nw n).length : Int)) = false := decide_eq_false (by omega)
  have e7 := fun S => e_eqs (S := S) (nw_w h0).ok ok_0
  have e8 : ∀ S, nIntS [.p (.str (nw n))] S = .ok (.p (.int n)) S := fun S => by
    have hl : (nw n).length ≤ 640 := by omega
    unfold nIntS
    dsimp only
    rw [nw_int h0 hl]
    dsimp only
    rw [if_pos hl]
  have c1 : decide (lo ≤ n) = true := decide_eq_true h1
  have c2 : decide (n ≤ hi) = true := decide_eq_true h2
  by_cases hz : n = 0
  · have z : (nw n == "0") = true := by rw [nw_0 h0, decide_eq_true hz]
    simp only [m_is_word, runP, init, b_is_word, e_seq, e_seq_nx, e_seq_rt, e_seq_ite, e_bind, e_bind_ite, e_toS, e_toS_ite, e_set, e_ret, e_expr, e_nil, e_if, e_name, e_C, e_bin, e_un, e_ifx, e_aNil, e_aCons, e_call, e_cVal, e_cNot, e_cAnd, e_cOr, e_and, e_or, e_not, e_add, e_sub, e_lt, e_le, e_gt, e_ge, e_neg, e_eqi, e_nei, e_isN, e_notN, e_partsE, e_ixT0, e_ixT1, e_ixT2, e_ixT3, e_ixT4, e_ixL0, e_ixL1, e_ixL2, e_ixL3, e_ixL4, e_callP, e_callE, e_allP, e_allP0, e_tup, e_lst, e_par, List.map_cons, List.map_nil, List.append_assoc, List.nil_append, List.cons_append, List.replicate, List.getElem?_cons_zero, List.getElem?_cons_succ, List.set_cons_zero, List.set_cons_succ, Option.map_some, if_true, if_false, Bool.false_eq_true, decide_eq_true_eq, List.length_cons, List.length_nil, bg0, bg1, bg2, bg3, bg4, bg5, bg6, bg7, bg8, bg9, bg10, bg11, bg12, bg13, bg14, e1, all_map, e2, Bool.not_true, e5, e3, e4, e6, e7, z, dChain, e8, c1, c2]
  · have z : (nw n == "0") = false := by rw [nw_0 h0, decide_eq_false hz]
    obtain ⟨c, r, ec, hc⟩ := numL_head n.toNat (by omega)
    have ix : ∀ S, oIxS (.p (.str (nw n))) (.p (.int 0)) S = .ok (.p (.str ⟨#[c]⟩)) S := fun S => by
      have : (nw n).cps[0]? = some c := by
        rw [← Array.getElem?_toList]
        show (TL.tl (nw n))[0]? = _
        rw [tl_nw h0, ec]; rfl
      show (if (0 : Int) ≤ 0 ∧ (0 : Int) < 1000000 then (match (nw n).cps[(0 : Int).toNat]? with | some c => Out.ok (Dv.p (.str ⟨#[c]⟩)) S | none => .bad) else .bad) = _
      rw [if_pos (by decide), show (0 : Int).toNat = 0 from rfl, this]
    have hcd : c < 256 := by
      have := TL.numL_digits n.toNat c (by rw [ec]; exact List.mem_cons_self)
      omega
    have e9 : ∀ S, oNe (.p (.str ⟨#[c]⟩)) (.p (.str "0")) S = .ok (.p (.bl true)) S := fun S => by
      rw [e_nes (strOk_of fun d hd => by
        have : d = c := by simpa using hd
        omega) ok_0]
      have : ((⟨#[c]⟩ : Str) == "0") = false := beq_eq_false_iff_ne.mpr fun q => hc (by
        have z := congrArg TL.tl q
        rw [tl_0] at z
        have z : [c] = [48] := z
        simpa using z)
      rw [this]; rfl
    simp only [m_is_word, runP, init, b_is_word, e_seq, e_seq_nx, e_seq_rt, e_seq_ite, e_bind, e_bind_ite, e_toS, e_toS_ite, e_set, e_ret, e_expr, e_nil, e_if, e_name, e_C, e_bin, e_un, e_ifx, e_aNil, e_aCons, e_call, e_cVal, e_cNot, e_cAnd, e_cOr, e_and, e_or, e_not, e_add, e_sub, e_lt, e_le, e_gt, e_ge, e_neg, e_eqi, e_nei, e_isN, e_notN, e_partsE, e_ixT0, e_ixT1, e_ixT2, e_ixT3, e_ixT4, e_ixL0, e_ixL1, e_ixL2, e_ixL3, e_ixL4, e_callP, e_callE, e_allP, e_allP0, e_tup, e_lst, e_par, List.map_cons, List.map_nil, List.append_assoc, List.nil_append, List.cons_append, List.replicate, List.getElem?_cons_zero, List.getElem?_cons_succ, List.set_cons_zero, List.set_cons_succ, Option.map_some, if_true, if_false, Bool.false_eq_true, decide_eq_true_eq, List.length_cons, List.length_nil, bg0, bg1, bg2, bg3, bg4, bg5, bg6, bg7, bg8, bg9, bg10, bg11, bg12, bg13, bg14, e1, all_map, e2, Bool.not_true, e5, e3, e4, e6, e7, z, ix, e9, dChain, e8, c1, c2]

/-! ### == of a list and the empty one -/
theorem toPys_len : ∀ {ds : List DL.D} {es : List PyData}, toPys ds = some es → es.length = ds.length
  | [], es, h => by unfold toPys at h; cases h; rfl
  | d :: ds, es, h => by
    unfold toPys at h
    split at h
    · rename_i e es' h1 h2
      cases h
      rw [List.length_cons, List.length_cons, toPys_len h2]
    · cases h
theorem eqv_nil {es : List PyData} : PyData.eqv (.list es) (.list []) = es.isEmpty := by
  cases es with
  | nil => rfl
  | cons e es => rfl
theorem isEmpty_len {α β : Type} {a : List α} {b : List β} (h : a.length = b.length) : a.isEmpty = b.isEmpty := by
  cases a <;> cases b <;> first | rfl | cases h
theorem list_nil {n : Nat} {ds : List DL.D} (h : PD n (.lst ds)) (hn : n ≤ 64) : (∀ S, oEq (.p (.lst ds)) (.p (.lst [])) S = .ok (.p (.bl ds.isEmpty)) S) ∧ ∀ S, oNe (.p (.lst ds)) (.p (.lst [])) S = .ok (.p (.bl (!ds.isEmpty))) S := by
  obtain ⟨a, a1, a2, a3⟩ := h
  have s1 : SeqAt.shaped a = true := by
    unfold SeqAt.shaped
    simp only [a2, Bool.true_and, decide_eq_true_eq]
    omega
  have s2 : SeqAt.shaped (.list []) = true := by decide +kernel
  obtain ⟨es, rfl, e1⟩ : ∃ es, a = .list es ∧ toPys ds = some es := by
    have a1' := a1
    unfold toPy at a1'
    split at a1'
    · rename_i es he
      cases a1'
      exact ⟨es, rfl, he⟩
    · cases a1'
  have el : es.isEmpty = ds.isEmpty := isEmpty_len (toPys_len e1)
  refine ⟨fun S => ?_, fun S => ?_⟩
  · unfold oEq
    rw [show vPy S (.p (.lst ds)) = some (.list es) from a1, show vPy S (.p (.lst [])) = some (.list []) from rfl]
    dsimp only
    rw [if_pos ⟨s1, s2⟩, eqv_nil, el]
  · unfold oNe
    rw [show vPy S (.p (.lst ds)) = some (.list es) from a1, show vPy S (.p (.lst [])) = some (.list []) from rfl]
    dsimp only
    rw [if_pos ⟨s1, s2⟩, eqv_nil, el]

/-! ### words that are numbers -/
def dgs (w : Str) : Bool := (TL.tl w).all fun c => decide (48 ≤ c ∧ c ≤ 57)
def vl (w : Str) : Int := ((NumText.digitsVal (TL.tl w) : Nat) : Int)
def cano (w : Str) : Bool := (w == "0") || decide ((TL.tl w).head? ≠ some 48)
def isNum (w : Str) (lo hi : Int) : Bool := dgs w && (cano w && (decide (lo ≤ vl w) && decide (vl w ≤ hi)))
theorem dgs_all {w : Str} (h : dgs w = true) : NumText.AllDigits (TL.tl w) := fun c hc => by
  have := List.all_eq_true.mp h c hc
  simpa using this
theorem vl_nn {w : Str} : 0 ≤ vl w := Int.natCast_nonneg _
theorem nIntS_dg {w : Str} (h : dgs w = true) (hn : TL.tl w ≠ []) (hl : w.length ≤ 640) (S : Sto) : nIntS [.p (.str w)] S = .ok (.p (.int (vl w))) S := by
  have e := intText_digits (x := w) (dgs_all h) hn (by omega)
  unfold nIntS
  dsimp only
  rw [e]
  dsimp only
  rw [if_pos hl]
  rfl
theorem cano_nw {w : Str} (h : dgs w = true) (hn : TL.tl w ≠ []) : (nw (vl w) == w) = cano w := by
  have hd := dgs_all h
  obtain ⟨n, hlen⟩ : ∃ n, (TL.tl w).length = n + 1 := ⟨(TL.tl w).length - 1, by
    have : (TL.tl w).length ≠ 0 := fun z => hn (List.eq_nil_of_length_eq_zero z)
    omega⟩
  by_cases hc : cano w = true
  · rw [hc]
    refine beq_iff_eq.mpr (TL.ext_tl ?_)
    rw [tl_nw vl_nn]
    show (Nat.toDigits 10 (Int.toNat (vl w))).map Char.toNat = TL.tl w
    have hv : (vl w).toNat = NumText.digitsVal (TL.tl w) := Int.toNat_natCast _
    rw [hv, NumText.toDigits_digitsVal n (TL.tl w) hlen hd ?_]
    · rw [List.map_map]
      refine (List.map_congr_left fun c hc => ?_).trans (List.map_id _)
      have := hd c hc
      have q : c = 48 ∨ c = 49 ∨ c = 50 ∨ c = 51 ∨ c = 52 ∨ c = 53 ∨ c = 54 ∨ c = 55 ∨ c = 56 ∨ c = 57 := by omega
      rcases q with rfl | rfl | rfl | rfl | rfl | rfl | rfl | rfl | rfl | rfl <;> rfl
    · unfold cano at hc
      rw [Bool.or_eq_true] at hc
      rcases hc with hc | hc
      · left
        have : w = "0" := beq_iff_eq.mp hc
        rw [this, tl_0] at hlen
        simpa using hlen.symm
      · right
        cases e : TL.tl w with
        | nil => exact absurd e hn
        | cons c r =>
          rw [e] at hc hd
          have h1 := hd c List.mem_cons_self
          have h2 : c ≠ 48 := by simpa using hc
          exact ⟨c, r, rfl, by omega⟩
  · have hc' : cano w = false := by simpa using hc
    rw [hc']
    refine beq_eq_false_iff_ne.mpr fun z => hc ?_
    unfold cano
    by_cases h0 : (vl w).toNat = 0
    · have : nw (vl w) = "0" := TL.ext_tl (by rw [tl_nw vl_nn, h0, tl_0]; decide +kernel)
      rw [this] at z
      rw [← z]
      decide +kernel
    · obtain ⟨c, r, ec, hc48⟩ := numL_head _ h0
      rw [← tl_nw vl_nn, z] at ec
      rw [ec, Bool.or_eq_true]
      right
      simpa using hc48
theorem long_no {w : Str} {lo hi : Int} (h : dgs w = true) (hn : TL.tl w ≠ []) (hh : 0 ≤ hi) (hl : (nw hi).length < w.length) : isNum w lo hi = false := by
  unfold isNum
  by_cases hc : cano w = true
  · have z := beq_iff_eq.mp ((cano_nw h hn).trans hc)
    have : decide (vl w ≤ hi) = false := decide_eq_false fun q => by
      have l1 : (nw (vl w)).length ≤ (nw hi).length := by
        rw [TL.len_tl, TL.len_tl, tl_nw vl_nn, tl_nw hh]
        exact numL_le (by have := vl_nn (w := w); omega)
      rw [z] at l1
      omega
    rw [this, Bool.and_false, Bool.and_false, Bool.and_false]
  · have hc' : cano w = false := by simpa using hc
    rw [hc', Bool.false_and, Bool.and_false]
theorem dg_iff (n : Nat) : decide (n ∈ (("0123456789" : Str)).cps.toList) = decide (48 ≤ n ∧ n ≤ 57) := by
  have e : (("0123456789" : Str)).cps.toList = [48, 49, 50, 51, 52, 53, 54, 55, 56, 57] := by decide +kernel
  rw [e]
  by_cases h : 48 ≤ n ∧ n ≤ 57
  · rw [decide_eq_true h]
    have := dg_all n h.1 h.2
    rw [e] at this
    exact decide_eq_true this
  · rw [decide_eq_false h]
    refine decide_eq_false fun m => h ?_
    simp only [List.mem_cons, List.not_mem_nil, or_false] at m
    omega
theorem inC_dg (neg : Bool) (n : Nat) (S : Sto) : oInC neg (.p (.str ⟨#[n]⟩)) (.p (.str "0123456789")) S = .ok (.p (.bl (if neg then !decide (48 ≤ n ∧ n ≤ 57) else decide (48 ≤ n ∧ n ≤ 57)))) S := by
  rw [← dg_iff]
  cases neg <;> rfl
/-- [sign in DIGITS for sign in word] -/
theorem comp_dg {w : Str} (hb : w.length ≤ 1000000) {a b : Option Dv} {x : Option Dv} : dComp [3] (iStrF (dName 0)) (gN 3) cYes (dBin (oInC false) (dName 3) (dC (.str "0123456789"))) [some (.p (.str w)), a, b, x] [] = .ok (.p (.lst (((TL.tl w).map fun c => decide (48 ≤ c ∧ c ≤ 57)).map DL.D.bl))) [] := by
  refine e_comp (S1 := []) (ds := sgD w) rfl (by unfold sgD; rw [List.length_map, ← TL.len_tl]; unfold big; omega) ?_
  have key := comp_map (t := gN 3) (el := dBin (oInC false) (dName 3) (dC (.str "0123456789"))) (ρ := [some (.p (.str w)), a, b, none]) (S := []) (fun d => match d with | .str z => .bl (match z.cps[0]? with | some c => decide (48 ≤ c ∧ c ≤ 57) | none => false) | _ => .non) (ds := sgD w) fun d hd => by
    unfold sgD at hd
    obtain ⟨c, hc, rfl⟩ := List.mem_map.mp hd
    refine ⟨[some (.p (.str w)), a, b, some (.p (.str ⟨#[c]⟩))], rfl, ?_⟩
    have q := fun S => inC_dg false c S
    simp only [Bool.false_eq_true, if_false] at q
    simp only [e_seq, e_seq_nx, e_seq_rt, e_seq_ite, e_bind, e_bind_ite, e_toS, e_toS_ite, e_set, e_ret, e_expr, e_nil, e_if, e_name, e_C, e_bin, e_un, e_ifx, e_aNil, e_aCons, e_call, e_cVal, e_cNot, e_cAnd, e_cOr, e_and, e_or, e_not, e_add, e_sub, e_lt, e_le, e_gt, e_ge, e_neg, e_eqi, e_nei, e_isN, e_notN, e_partsE, e_ixT0, e_ixT1, e_ixT2, e_ixT3, e_ixT4, e_ixL0, e_ixL1, e_ixL2, e_ixL3, e_ixL4, e_callP, e_callE, e_allP, e_allP0, e_tup, e_lst, e_par, List.map_cons, List.map_nil, List.append_assoc, List.nil_append, List.cons_append, List.replicate, List.getElem?_cons_zero, List.getElem?_cons_succ, List.set_cons_zero, List.set_cons_succ, Option.map_some, if_true, if_false, Bool.false_eq_true, decide_eq_true_eq, List.length_cons, List.length_nil, bg0, bg1, bg2, bg3, bg4, bg5, bg6, bg7, bg8, bg9, bg10, bg11, bg12, bg13, bg14, q]
    rfl
  rw [List.map_map]
  unfold sgD at key ⊢
  rw [List.map_map] at key
  exact key
theorem is_word_any {w : Str} {lo hi : Int} (hn : TL.tl w ≠ []) (hs : PyData.strOk w = true) (hb : w.length ≤ 1000000) (hh : 0 ≤ hi) (h40 : hi < 10 ^ 40) : m_is_word [.str w, .int lo, .int hi] = .ok (.bl (isNum w lo hi)) := by
  have lh : (nw hi).length ≤ 40 := nw_len hh (by decide) (by omega)
  have e1 := comp_dg hb (a := some (.p (.int lo))) (b := some (.p (.int hi))) (x := none)
  have e2 : ((TL.tl w).map fun c => decide (48 ≤ c ∧ c ≤ 57)).all id = dgs w := by
    rw [List.all_map]
    rfl
  have e3 : ∀ S, nLenS [.p (.str w)] S = .ok (.p (.int w.length)) S := fun S => by
    show (if w.length ≤ big then _ else _) = _
    rw [if_pos (by unfold big; omega)]
  have e4 : ∀ S, nLenS [.p (.str (nw hi))] S = .ok (.p (.int (nw hi).length)) S := fun S => by
    show (if (nw hi).length ≤ big then _ else _) = _
    rw [if_pos (by unfold big; omega)]
  have e5 : ∀ S, nStr [.p (.int hi)] S = .ok (.p (.str (nw hi))) S := fun S => by
    show (if hi.natAbs < wid then _ else _) = _
    rw [if_pos (by have : (10 : Int) ^ 40 = 10000000000000000000000000000000000000000 := by decide
                   have := wid_big; omega)]; rfl
  have e7 := fun S => e_eqs (S := S) hs ok_0
  cases hd : dgs w with
  | false =>
    have r : isNum w lo hi = false := by unfold isNum; rw [hd]; rfl
    rw [hd] at e2
    simp only [m_is_word, runP, init, b_is_word, e_seq, e_seq_nx, e_seq_rt, e_seq_ite, e_bind, e_bind_ite, e_toS, e_toS_ite, e_set, e_ret, e_expr, e_nil, e_if, e_name, e_C, e_bin, e_un, e_ifx, e_aNil, e_aCons, e_call, e_cVal, e_cNot, e_cAnd, e_cOr, e_and, e_or, e_not, e_add, e_sub, e_lt, e_le, e_gt, e_ge, e_neg, e_eqi, e_nei, e_isN, e_notN, e_partsE, e_ixT0, e_ixT1, e_ixT2, e_ixT3, e_ixT4, e_ixL0, e_ixL1, e_ixL2, e_ixL3, e_ixL4, e_callP, e_callE, e_allP, e_allP0, e_tup, e_lst, e_par, List.map_cons, List.map_nil, List.append_assoc, List.nil_append, List.cons_append, List.replicate, List.getElem?_cons_zero, List.getElem?_cons_succ, List.set_cons_zero, List.set_cons_succ, Option.map_some, if_true, if_false, Bool.false_eq_true, decide_eq_true_eq, List.length_cons, List.length_nil, bg0, bg1, bg2, bg3, bg4, bg5, bg6, bg7, bg8, bg9, bg10, bg11, bg12, bg13, bg14, e1, all_map, e2, Bool.not_false, r]
  | true =>
    rw [hd] at e2
    by_cases hl : (nw hi).length < w.length
    · have r := long_no (lo := lo) hd hn hh hl
      have e6 : decide (((nw hi).length : Int) < (w.length : Int)) = true := decide_eq_true (by omega)
      simp only [m_is_word, runP, init, b_is_word, e_seq, e_seq_nx, e_seq_rt, e_seq_ite, e_bind, e_bind_ite, e_toS, e_toS_ite, e_set, e_ret, e_expr, e_nil, e_if, e_name, e_C, e_bin, e_un, e_ifx, e_aNil, e_aCons, e_call, e_cVal, e_cNot, e_cAnd, e_cOr, e_and, e_or, e_not, e_add, e_sub, e_lt, e_le, e_gt, e_ge, e_neg, e_eqi, e_nei, e_isN, e_notN, e_partsE, e_ixT0, e_ixT1, e_ixT2, e_ixT3, e_ixT4, e_ixL0, e_ixL1, e_ixL2, e_ixL3, e_ixL4, e_callP, e_callE, e_allP, e_allP0, e_tup, e_lst, e_par, List.map_cons, List.map_nil, List.append_assoc, List.nil_append, List.cons_append, List.replicate, List.getElem?_cons_zero, List.getElem?_cons_succ, List.set_cons_zero, List.set_cons_succ, Option.map_some, if_true, if_false, Bool.false_eq_true, decide_eq_true_eq, List.length_cons, List.length_nil, bg0, bg1, bg2, bg3, bg4, bg5, bg6, bg7, bg8, bg9, bg10, bg11, bg12, bg13, bg14, e1, all_map, e2, Bool.not_true, e5, e3, e4, e6, r]
    · have e6 : decide (((nw hi).length : Int) < (w.length : Int)) = false := decide_eq_false (by omega)
      have e8 := nIntS_dg hd hn (by omega)
      have c1 : isNum w lo hi = (cano w && (decide (lo ≤ vl w) && decide (vl w ≤ hi))) := by unfold isNum; rw [hd, Bool.true_and]
      by_cases hz : (w == "0") = true
      · have c2 : cano w = true := by unfold cano; rw [hz]; rfl
        rw [hz] at e7
        rw [c1, c2, Bool.true_and]
        cases b1 : decide (lo ≤ vl w) <;> cases b2 : decide (vl w ≤ hi) <;>
          simp only [m_is_word, runP, init, b_is_word, e_seq, e_seq_nx, e_seq_rt, e_seq_ite, e_bind, e_bind_ite, e_toS, e_toS_ite, e_set, e_ret, e_expr, e_nil, e_if, e_name, e_C, e_bin, e_un, e_ifx, e_aNil, e_aCons, e_call, e_cVal, e_cNot, e_cAnd, e_cOr, e_and, e_or, e_not, e_add, e_sub, e_lt, e_le, e_gt, e_ge, e_neg, e_eqi, e_nei, e_isN, e_notN, e_partsE, e_ixT0, e_ixT1, e_ixT2, e_ixT3, e_ixT4, e_ixL0, e_ixL1, e_ixL2, e_ixL3, e_ixL4, e_callP, e_callE, e_allP, e_allP0, e_tup, e_lst, e_par, List.map_cons, List.map_nil, List.append_assoc, List.nil_append, List.cons_append, List.replicate, List.getElem?_cons_zero, List.getElem?_cons_succ, List.set_cons_zero, List.set_cons_succ, Option.map_some, if_true, if_false, Bool.false_eq_true, decide_eq_true_eq, List.length_cons, List.length_nil, bg0, bg1, bg2, bg3, bg4, bg5, bg6, bg7, bg8, bg9, bg10, bg11, bg12, bg13, bg14, e1, all_map, e2, Bool.not_true, e5, e3, e4, e6, e7, dChain, e8, b1, b2, Bool.and_true, Bool.and_false, Bool.false_and, Bool.true_and]
      · have hz : (w == "0") = false := by simpa using hz
        rw [hz] at e7
        cases q : TL.tl w with
        | nil => exact absurd q hn
        | cons c r =>
          have ix : ∀ S, oIxS (.p (.str w)) (.p (.int 0)) S = .ok (.p (.str ⟨#[c]⟩)) S := fun S => by
            have : w.cps[0]? = some c := by
              rw [← Array.getElem?_toList]
              show (TL.tl w)[0]? = _
              rw [q]; rfl
            show (if (0 : Int) ≤ 0 ∧ (0 : Int) < 1000000 then (match w.cps[(0 : Int).toNat]? with | some c => Out.ok (Dv.p (.str ⟨#[c]⟩)) S | none => .bad) else .bad) = _
            rw [if_pos (by decide), show (0 : Int).toNat = 0 from rfl, this]
          have hcd : c < 256 := by
            have := dgs_all hd c (by rw [q]; exact List.mem_cons_self)
            omega
          have ne0 : ∀ S, oNe (.p (.str ⟨#[c]⟩)) (.p (.str "0")) S = .ok (.p (.bl (!(decide (c = 48))))) S := fun S => by
            rw [e_nes (strOk_of fun d hd => by
              have : d = c := by simpa using hd
              omega) ok_0]
            have : ((⟨#[c]⟩ : Str) == "0") = decide (c = 48) := by
              by_cases h : c = 48
              · subst h; decide +kernel
              · rw [decide_eq_false h]
                refine beq_eq_false_iff_ne.mpr fun z => h ?_
                have z := congrArg TL.tl z
                rw [tl_0] at z
                have z : [c] = [48] := z
                simpa using z
            rw [this]
          have c2 : cano w = !(decide (c = 48)) := by
            unfold cano
            rw [hz, q]
            by_cases h : c = 48 <;> simp [h]
          rw [c1, c2]
          cases b0 : decide (c = 48) <;> cases b1 : decide (lo ≤ vl w) <;> cases b2 : decide (vl w ≤ hi) <;> rw [b0] at ne0 <;> simp only [m_is_word, runP, init, b_is_word, e_seq, e_seq_nx, e_seq_rt, e_seq_ite, e_bind, e_bind_ite, e_toS, e_toS_ite, e_set, e_ret, e_expr, e_nil, e_if, e_name, e_C, e_bin, e_un, e_ifx, e_aNil, e_aCons, e_call, e_cVal, e_cNot, e_cAnd, e_cOr, e_and, e_or, e_not, e_add, e_sub, e_lt, e_le, e_gt, e_ge, e_neg, e_eqi, e_nei, e_isN, e_notN, e_partsE, e_ixT0, e_ixT1, e_ixT2, e_ixT3, e_ixT4, e_ixL0, e_ixL1, e_ixL2, e_ixL3, e_ixL4, e_callP, e_callE, e_allP, e_allP0, e_tup, e_lst, e_par, List.map_cons, List.map_nil, List.append_assoc, List.nil_append, List.cons_append, List.replicate, List.getElem?_cons_zero, List.getElem?_cons_succ, List.set_cons_zero, List.set_cons_succ, Option.map_some, if_true, if_false, Bool.false_eq_true, decide_eq_true_eq, List.length_cons, List.length_nil, bg0, bg1, bg2, bg3, bg4, bg5, bg6, bg7, bg8, bg9, bg10, bg11, bg12, bg13, bg14, e1, all_map, e2, Bool.not_true, Bool.not_false, e5, e3, e4, e6, e7, ix, ne0, dChain, e8, b1, b2, Bool.and_true, Bool.and_false, Bool.false_and, Bool.true_and]
theorem fold_lt : ∀ (l : List Nat) (a : Nat), NumText.AllDigits l → l.foldl (fun acc c => acc * 10 + (c - 48)) a < (a + 1) * 10 ^ l.length
  | [], a, _ => by simp
  | c :: l, a, h => by
    have hc := h.head
    have ih := fold_lt l (a * 10 + (c - 48)) h.tail
    rw [List.foldl_cons, List.length_cons, Nat.pow_succ]
    refine Nat.lt_of_lt_of_le ih ?_
    rw [Nat.mul_comm (10 ^ l.length) 10, ← Nat.mul_assoc]
    exact Nat.mul_le_mul_right _ (by omega)
theorem vl_lt {w : Str} (h : dgs w = true) : (vl w).natAbs < 10 ^ w.length := by
  have := fold_lt (TL.tl w) 0 (dgs_all h)
  rw [Nat.zero_add, Nat.one_mul, ← TL.len_tl] at this
  exact this
theorem law_fig {w : Str} {lo hi : Int} (hn : TL.tl w ≠ []) (hs : PyData.strOk w = true) (hb : w.length ≤ 1000000) (hh : 0 ≤ hi) (h40 : hi < 10 ^ 39) : m_law_is_figures [.str w, .int lo, .int hi] = .ok (.bl (isNum w lo hi)) := by
  have z1 : ∀ S, oEq (.p (.str w)) (.p (.str "")) S = .ok (.p (.bl false)) S := fun S => by
    rw [e_eqs hs (by decide +kernel), eq_em]
    cases q : TL.tl w with
    | nil => exact absurd q hn
    | cons _ _ => rfl
  have e1 : dComp [3] (iStrF (dName 0)) (gN 3) (cVal (dBin (oInC true) (dName 3) (dC (.str "0123456789")))) (dName 3) [some (.p (.str w)), some (.p (.int lo)), some (.p (.int hi)), none] [] = .ok (.p (.lst ((sgD w).filter fun d => match d with | .str z => (match z.cps[0]? with | some c => !decide (48 ≤ c ∧ c ≤ 57) | none => false) | _ => false))) [] := by
    refine e_compF (S1 := []) (ds := sgD w) rfl (by unfold sgD; rw [List.length_map, ← TL.len_tl]; unfold big; omega) ?_
    have key := comp_filter (t := gN 3) (cf := cVal (dBin (oInC true) (dName 3) (dC (.str "0123456789")))) (el := dName 3) (ρ := [some (.p (.str w)), some (.p (.int lo)), some (.p (.int hi)), none]) (S := []) (fun d => match d with | .str z => (match z.cps[0]? with | some c => !decide (48 ≤ c ∧ c ≤ 57) | none => false) | _ => false) id (ds := sgD w) fun d hd => by
      unfold sgD at hd
      obtain ⟨c, hc, rfl⟩ := List.mem_map.mp hd
      refine ⟨[some (.p (.str w)), some (.p (.int lo)), some (.p (.int hi)), some (.p (.str ⟨#[c]⟩))], rfl, ?_, fun _ => rfl⟩
      have q := fun S => inC_dg true c S
      simp only [if_true] at q
      simp only [e_seq, e_seq_nx, e_seq_rt, e_seq_ite, e_bind, e_bind_ite, e_toS, e_toS_ite, e_set, e_ret, e_expr, e_nil, e_if, e_name, e_C, e_bin, e_un, e_ifx, e_aNil, e_aCons, e_call, e_cVal, e_cNot, e_cAnd, e_cOr, e_and, e_or, e_not, e_add, e_sub, e_lt, e_le, e_gt, e_ge, e_neg, e_eqi, e_nei, e_isN, e_notN, e_partsE, e_ixT0, e_ixT1, e_ixT2, e_ixT3, e_ixT4, e_ixL0, e_ixL1, e_ixL2, e_ixL3, e_ixL4, e_callP, e_callE, e_allP, e_allP0, e_tup, e_lst, e_par, List.map_cons, List.map_nil, List.append_assoc, List.nil_append, List.cons_append, List.replicate, List.getElem?_cons_zero, List.getElem?_cons_succ, List.set_cons_zero, List.set_cons_succ, Option.map_some, if_true, if_false, Bool.false_eq_true, decide_eq_true_eq, List.length_cons, List.length_nil, bg0, bg1, bg2, bg3, bg4, bg5, bg6, bg7, bg8, bg9, bg10, bg11, bg12, bg13, bg14, q]
      rfl
    rw [List.map_id] at key
    exact key
  have e2 : ((sgD w).filter fun d => match d with | .str z => (match z.cps[0]? with | some c => !decide (48 ≤ c ∧ c ≤ 57) | none => false) | _ => false).isEmpty = dgs w := by
    unfold sgD dgs
    show List.isEmpty (List.filter _ (List.map _ (TL.tl w))) = _
    generalize TL.tl w = l
    induction l with
    | nil => rfl
    | cons c r ih =>
      rw [List.map_cons, List.all_cons]
      by_cases h : 48 ≤ c ∧ c ≤ 57
      · rw [List.filter_cons_of_neg (by simp [h]), decide_eq_true h, Bool.true_and]
        exact ih
      · rw [List.filter_cons_of_pos (by
          show (!decide (48 ≤ c ∧ c ≤ 57)) = true
          rw [decide_eq_false h]; rfl), decide_eq_false h, Bool.false_and]
        rfl
  have e3 : ∀ S, nLenS [.p (.str w)] S = .ok (.p (.int w.length)) S := fun S => by
    show (if w.length ≤ big then _ else _) = _
    rw [if_pos (by unfold big; omega)]
  have pd : PD 1 (.lst ((sgD w).filter fun d => match d with | .str z => (match z.cps[0]? with | some c => !decide (48 ≤ c ∧ c ≤ 57) | none => false) | _ => false)) := PD.lst fun d hd => by
    have hd := (List.mem_filter.mp hd).1
    unfold sgD at hd
    obtain ⟨c, hc, rfl⟩ := List.mem_map.mp hd
    refine PD.str ?_
    have hs' := hs
    unfold PyData.strOk at hs' ⊢
    rw [← Array.all_toList, List.all_eq_true] at hs'
    have := hs' c hc
    simpa using this
  have e4 := (list_nil pd (by decide)).2
  rw [e2] at e4
  generalize ((sgD w).filter fun d => match d with | .str z => (match z.cps[0]? with | some c => !decide (48 ≤ c ∧ c ≤ 57) | none => false) | _ => false) = BL at *
  have e0 : ∀ (ρ : Nv) S, dLst aNil ρ S = .ok (.p (.lst [])) S := fun _ _ => rfl
  cases hd : dgs w with
  | false =>
    have r : isNum w lo hi = false := by unfold isNum; rw [hd]; rfl
    rw [hd] at e4
    simp only [m_law_is_figures, runP, init, b_law_is_figures, e_seq, e_seq_nx, e_seq_rt, e_seq_ite, e_bind, e_bind_ite, e_toS, e_toS_ite, e_set, e_ret, e_expr, e_nil, e_if, e_name, e_C, e_bin, e_un, e_ifx, e_aNil, e_aCons, e_call, e_cVal, e_cNot, e_cAnd, e_cOr, e_and, e_or, e_not, e_add, e_sub, e_lt, e_le, e_gt, e_ge, e_neg, e_eqi, e_nei, e_isN, e_notN, e_partsE, e_ixT0, e_ixT1, e_ixT2, e_ixT3, e_ixT4, e_ixL0, e_ixL1, e_ixL2, e_ixL3, e_ixL4, e_callP, e_callE, e_allP, e_allP0, e_tup, e_lst, e_par, List.map_cons, List.map_nil, List.append_assoc, List.nil_append, List.cons_append, List.replicate, List.getElem?_cons_zero, List.getElem?_cons_succ, List.set_cons_zero, List.set_cons_succ, Option.map_some, if_true, if_false, Bool.false_eq_true, decide_eq_true_eq, List.length_cons, List.length_nil, bg0, bg1, bg2, bg3, bg4, bg5, bg6, bg7, bg8, bg9, bg10, bg11, bg12, bg13, bg14, z1, e0, e1, e4, Bool.not_false, r]
  | true =>
    rw [hd] at e4
    by_cases hl : w.length < 40
    · have e5 : decide ((w.length : Int) < 40) = true := decide_eq_true (by omega)
      have e6 := nIntS_dg hd hn (by omega)
      have e7 : ∀ S, nStr [.p (.int (vl w))] S = .ok (.p (.str (nw (vl w)))) S := fun S => by
        have hv := vl_lt hd
        show (if (vl w).natAbs < wid then _ else _) = _
        rw [if_pos (by
          have h1 : (10 : Nat) ^ w.length ≤ 10 ^ 40 := Nat.pow_le_pow_right (by decide) (by omega)
          have h2 : (10 : Nat) ^ 40 = 10000000000000000000000000000000000000000 := by decide
          have := wid_big
          omega)]; rfl
      have e8 : ∀ S, oEq (.p (.str (nw (vl w)))) (.p (.str w)) S = .ok (.p (.bl (cano w))) S := fun S => by
        rw [e_eqs (nw_w vl_nn).ok hs, cano_nw hd hn]
      have c1 : isNum w lo hi = (cano w && (decide (lo ≤ vl w) && decide (vl w ≤ hi))) := by unfold isNum; rw [hd, Bool.true_and]
      rw [c1]
      cases b0 : cano w <;> cases b1 : decide (lo ≤ vl w) <;> cases b2 : decide (vl w ≤ hi) <;> rw [b0] at e8 <;> simp only [m_law_is_figures, runP, init, b_law_is_figures, e_seq, e_seq_nx, e_seq_rt, e_seq_ite, e_bind, e_bind_ite, e_toS, e_toS_ite, e_set, e_ret, e_expr, e_nil, e_if, e_name, e_C, e_bin, e_un, e_ifx, e_aNil, e_aCons, e_call, e_cVal, e_cNot, e_cAnd, e_cOr, e_and, e_or, e_not, e_add, e_sub, e_lt, e_le, e_gt, e_ge, e_neg, e_eqi, e_nei, e_isN, e_notN, e_partsE, e_ixT0, e_ixT1, e_ixT2, e_ixT3, e_ixT4, e_ixL0, e_ixL1, e_ixL2, e_ixL3, e_ixL4, e_callP, e_callE, e_allP, e_allP0, e_tup, e_lst, e_par, List.map_cons, List.map_nil, List.append_assoc, List.nil_append, List.cons_append, List.replicate, List.getElem?_cons_zero, List.getElem?_cons_succ, List.set_cons_zero, List.set_cons_succ, Option.map_some, if_true, if_false, Bool.false_eq_true, decide_eq_true_eq, List.length_cons, List.length_nil, bg0, bg1, bg2, bg3, bg4, bg5, bg6, bg7, bg8, bg9, bg10, bg11, bg12, bg13, bg14, z1, e0, e1, e4, Bool.not_true, e3, e5, e6, e7, e8, dChain, b1, b2, Bool.and_true, Bool.and_false, Bool.false_and, Bool.true_and]
    · have e5 : decide ((w.length : Int) < 40) = false := decide_eq_false (by omega)
      have r : isNum w lo hi = false := by
        unfold isNum
        by_cases hc : cano w = true
        · have z := beq_iff_eq.mp ((cano_nw hd hn).trans hc)
          have : decide (vl w ≤ hi) = false := decide_eq_false fun q => by
            have l1 := nw_len (i := vl w) vl_nn (k := 39) (by decide) (by have := vl_nn (w := w); have e : (10 : Int) ^ 39 = ((10 ^ 39 : Nat) : Int) := by decide
                                                                          omega)
            rw [z] at l1
            omega
          rw [this, Bool.and_false, Bool.and_false, Bool.and_false]
        · have hc' : cano w = false := by simpa using hc
          rw [hc', Bool.false_and, Bool.and_false]
      simp only [m_law_is_figures, runP, init, b_law_is_figures, e_seq, e_seq_nx, e_seq_rt, e_seq_ite, e_bind, e_bind_ite, e_toS, e_toS_ite, e_set, e_ret, e_expr, e_nil, e_if, e_name, e_C, e_bin, e_un, e_ifx, e_aNil, e_aCons, e_call, e_cVal, e_cNot, e_cAnd, e_cOr, e_and, e_or, e_not, e_add, e_sub, e_lt, e_le, e_gt, e_ge, e_neg, e_eqi, e_nei, e_isN, e_notN, e_partsE, e_ixT0, e_ixT1, e_ixT2, e_ixT3, e_ixT4, e_ixL0, e_ixL1, e_ixL2, e_ixL3, e_ixL4, e_callP, e_callE, e_allP, e_allP0, e_tup, e_lst, e_par, List.map_cons, List.map_nil, List.append_assoc, List.nil_append, List.cons_append, List.replicate, List.getElem?_cons_zero, List.getElem?_cons_succ, List.set_cons_zero, List.set_cons_succ, Option.map_some, if_true, if_false, Bool.false_eq_true, decide_eq_true_eq, List.length_cons, List.length_nil, bg0, bg1, bg2, bg3, bg4, bg5, bg6, bg7, bg8, bg9, bg10, bg11, bg12, bg13, bg14, z1, e0, e1, e4, Bool.not_true, e3, e5, r]

/-! ### a ticket's line -/
theorem Lat.self {S : Sto} {i : Nat} {a : Int} {ps : List DL.D} {k : Nat} (h : Lat S i a ps k) : Lset S i a ps k = S := by
  unfold Lset
  unfold Lat at h
  obtain ⟨h1, h2⟩ := List.getElem?_eq_some_iff.mp h
  rw [← h2, List.set_getElem_self]
theorem take_number_eq {S : Sto} {i k : Nat} {a : Int} {ps : List DL.D} {n lo hi : Int} (h : Lat S i a ps k) (hw : ps[k]? = some (.str (nw n))) (h0 : 0 ≤ n) (h1 : lo ≤ n) (h2 : n ≤ hi) (hb : hi < 10 ^ 40) :
    m_Line_take_number [.hnd i, .p (.int lo), .p (.int hi)] S = .ok (.p (.int n)) (Lset S i a ps (k + 1)) := by
  have hk : k < ps.length := (List.getElem?_eq_some_iff.mp hw).1
  have f1 : ∀ ρ : Nv, ρ[0]? = some (some (.hnd i)) → dFld "spot" (dName 0) ρ S = .ok (.p (.int (k : Nat))) S := fun ρ hρ => e_fld (by rw [e_name, hρ]) h lk_s
  have f2 : ∀ ρ : Nv, ρ[0]? = some (some (.hnd i)) → dFld "pieces" (dName 0) ρ S = .ok (.p (.lst ps)) S := fun ρ hρ => e_fld (by rw [e_name, hρ]) h lk_p
  have hh := h.put (j := k + 1)
  have f3 : ∀ ρ : Nv, ρ[0]? = some (some (.hnd i)) → dFld "spot" (dName 0) ρ (Lset S i a ps (k + 1)) = .ok (.p (.int ((k + 1 : Nat) : Int))) (Lset S i a ps (k + 1)) := fun ρ hρ => e_fld (by rw [e_name, hρ]) hh lk_s
  have f4 : ∀ ρ : Nv, ρ[0]? = some (some (.hnd i)) → dFld "pieces" (dName 0) ρ (Lset S i a ps (k + 1)) = .ok (.p (.lst ps)) (Lset S i a ps (k + 1)) := fun ρ hρ => e_fld (by rw [e_name, hρ]) hh lk_p
  have a1 : ∀ ρ : Nv, ρ[0]? = some (some (.hnd i)) → sAugF "spot" (dName 0) (dC (.int 1)) ρ S = .ok (.nx ρ) (Lset S i a ps (k + 1)) := fun ρ hρ => e_aug_spot (fun S => by rw [e_name, hρ]) h
  have e1 : ∀ S, oIx (.p (.lst ps)) (.p (.int (k : Nat))) S = .ok (.p (.str (nw n))) S := fun S => e_ixL k hw
  have e2 : ((k + 1 : Nat) : Int) - 1 = (k : Int) := by omega
  have e3 := is_word_eq h0 h1 h2 hb
  have hl : (nw n).length ≤ 640 := by
    have := nw_len (k := 40) h0 (by decide) (by omega)
    omega
  have e8 : ∀ S, nIntS [.p (.str (nw n))] S = .ok (.p (.int n)) S := fun S => by
    unfold nIntS
    dsimp only
    rw [nw_int h0 hl]
    dsimp only
    rw [if_pos hl]
  simp only [m_Line_take_number, runE, init, b_Line_take_number, e_seq, e_seq_nx, e_seq_rt, e_seq_ite, e_bind, e_bind_ite, e_toS, e_toS_ite, e_set, e_ret, e_expr, e_nil, e_if, e_name, e_C, e_bin, e_un, e_ifx, e_aNil, e_aCons, e_call, e_cVal, e_cNot, e_cAnd, e_cOr, e_and, e_or, e_not, e_add, e_sub, e_lt, e_le, e_gt, e_ge, e_neg, e_eqi, e_nei, e_isN, e_notN, e_partsE, e_ixT0, e_ixT1, e_ixT2, e_ixT3, e_ixT4, e_ixL0, e_ixL1, e_ixL2, e_ixL3, e_ixL4, e_callP, e_callE, e_allP, e_allP0, e_tup, e_lst, e_par, List.map_cons, List.map_nil, List.append_assoc, List.nil_append, List.cons_append, List.replicate, List.getElem?_cons_zero, List.getElem?_cons_succ, List.set_cons_zero, List.set_cons_succ, Option.map_some, if_true, if_false, Bool.false_eq_true, decide_eq_true_eq, List.length_cons, List.length_nil, bg0, bg1, bg2, bg3, bg4, bg5, bg6, bg7, bg8, bg9, bg10, bg11, bg12, bg13, bg14, f1, f2, nLen_lst, eq_nat hk, e1, e3, a1, f3, f4, e2, Bool.not_true, e8]
theorem e_methOE {mn : Str} {m : List Dv → Sto → Out Dv} {f : Ef} {a : Af} {ρ : Nv} {S : Sto} : dMethO mn m f a ρ S = (f ρ S).bind fun d S1 => match insOf S1 d with
  | some (_, fs) => match fs.lookup mn with
    | none => (a ρ S1).bind fun xs S2 => m (d :: xs) S2
    | some _ => .bad
  | none => .bad := rfl
theorem lk_take {a : Int} {ps : List DL.D} {k : Nat} : (lineF a ps k).lookup ("take" : Str) = none := lk_no (by decide +kernel) (by decide +kernel) (by decide +kernel)
theorem lk_taken {a : Int} {ps : List DL.D} {k : Nat} : (lineF a ps k).lookup ("take_number" : Str) = none := lk_no (by decide +kernel) (by decide +kernel) (by decide +kernel)
theorem lk_fin {a : Int} {ps : List DL.D} {k : Nat} : (lineF a ps k).lookup ("finish" : Str) = none := lk_no (by decide +kernel) (by decide +kernel) (by decide +kernel)
def tkW (t : Tk) : List Str := ["ticket", nw t.rows, nw t.seats, nw t.row, nw t.seat, nw t.num]
def rlW (r : Ru) : List Str := ["rule", r.s, r.r, r.w, nw r.o, r.k]
theorem ticket_in_eq {S : Sto} {i : Nat} {a : Int} {t : Tk} (ht : t.ok) (h : Lat S i a ((tkW t).map DL.D.str) 0) : m_ticket_in [.hnd i] S = .ok (.p (tkD t)) (Lset S i a ((tkW t).map DL.D.str) 6) := by
  obtain ⟨h1, h2, h3, h4, h5, h6, h7, h8, h9, h10⟩ := ht
  generalize hps : (tkW t).map DL.D.str = ps at h ⊢
  have p0 : ps[0]? = some (.str "ticket") := by rw [← hps]; rfl
  have p1 : ps[1]? = some (.str (nw t.rows)) := by rw [← hps]; rfl
  have p2 : ps[2]? = some (.str (nw t.seats)) := by rw [← hps]; rfl
  have p3 : ps[3]? = some (.str (nw t.row)) := by rw [← hps]; rfl
  have p4 : ps[4]? = some (.str (nw t.seat)) := by rw [← hps]; rfl
  have p5 : ps[5]? = some (.str (nw t.num)) := by rw [← hps]; rfl
  have pl : ps.length = 6 := by rw [← hps]; rfl
  have hb : (10 : Int) ^ 40 = 10000000000000000000000000000000000000000 := by decide
  have io : ∀ k, insOf (Lset S i a ps k) (.hnd i) = some (i, lineF a ps k) := fun k => insOf_at (h.put (j := k))
  have io0 := insOf_at (show S[i]? = _ from h)
  have q0 := take_eq h p0 (c := .tup [.str "ticket"]) (ws := ["ticket"]) (.inr rfl) (by simp)
  have q1 := take_number_eq (lo := 1) (hi := 1000000) (h.put (j := 1)) p1 (by omega) (by omega) (by omega) (by omega)
  have q2 := take_number_eq (lo := 1) (hi := 1000000) (h.put (j := 2)) p2 (by omega) (by omega) (by omega) (by omega)
  have q3 := take_number_eq (lo := 0) (hi := t.rows - 1) (h.put (j := 3)) p3 (by omega) (by omega) (by omega) (by omega)
  have q4 := take_number_eq (lo := 0) (hi := t.seats - 1) (h.put (j := 4)) p4 (by omega) (by omega) (by omega) (by omega)
  have q5 := take_number_eq (lo := 1) (hi := 1000000000000000000000000000000) (h.put (j := 5)) p5 (by omega) (by omega) (by omega) (by omega)
  rw [Lset.two] at q1 q2 q3 q4 q5
  have q6 := finish_eq (ps := ps) (a := a) (S := Lset S i a ps 6) (i := i) (by rw [pl]; exact h.put)
  simp only [m_ticket_in, runE, init, b_ticket_in, e_seq, e_seq_nx, e_seq_rt, e_seq_ite, e_bind, e_bind_ite, e_toS, e_toS_ite, e_set, e_ret, e_expr, e_nil, e_if, e_name, e_C, e_bin, e_un, e_ifx, e_aNil, e_aCons, e_call, e_cVal, e_cNot, e_cAnd, e_cOr, e_and, e_or, e_not, e_add, e_sub, e_lt, e_le, e_gt, e_ge, e_neg, e_eqi, e_nei, e_isN, e_notN, e_partsE, e_ixT0, e_ixT1, e_ixT2, e_ixT3, e_ixT4, e_ixL0, e_ixL1, e_ixL2, e_ixL3, e_ixL4, e_callP, e_callE, e_allP, e_allP0, e_tup, e_lst, e_par, List.map_cons, List.map_nil, List.append_assoc, List.nil_append, List.cons_append, List.replicate, List.getElem?_cons_zero, List.getElem?_cons_succ, List.set_cons_zero, List.set_cons_succ, Option.map_some, if_true, if_false, Bool.false_eq_true, decide_eq_true_eq, List.length_cons, List.length_nil, bg0, bg1, bg2, bg3, bg4, bg5, bg6, bg7, bg8, bg9, bg10, bg11, bg12, bg13, bg14, e_methOE, io0, io, lk_take, lk_taken, lk_fin, q0, q1, q2, q3, q4, q5, q6]
  rfl

/-! ### refusals -/
def XT (k : Nat) (a : Int) : Ex := ⟨1, [.int ((k : Int) + 1), .int a]⟩
theorem refuse_eq {S : Sto} {i k : Nat} {a : Int} {ps : List DL.D} (h : Lat S i a ps k) : m_Line_refuse [.hnd i] S = .exc (XT k a) S := by
  have f1 : ∀ ρ : Nv, ρ[0]? = some (some (.hnd i)) → dFld "spot" (dName 0) ρ S = .ok (.p (.int (k : Nat))) S := fun ρ hρ => e_fld (by rw [e_name, hρ]) h lk_s
  have f2 : ∀ ρ : Nv, ρ[0]? = some (some (.hnd i)) → dFld "at" (dName 0) ρ S = .ok (.p (.int a)) S := fun ρ hρ => e_fld (by rw [e_name, hρ]) h lk_a
  simp only [m_Line_refuse, runE, init, b_Line_refuse, sRaiseA, e_seq, e_seq_nx, e_seq_rt, e_seq_ite, e_bind, e_bind_ite, e_toS, e_toS_ite, e_set, e_ret, e_expr, e_nil, e_if, e_name, e_C, e_bin, e_un, e_ifx, e_aNil, e_aCons, e_call, e_cVal, e_cNot, e_cAnd, e_cOr, e_and, e_or, e_not, e_add, e_sub, e_lt, e_le, e_gt, e_ge, e_neg, e_eqi, e_nei, e_isN, e_notN, e_partsE, e_ixT0, e_ixT1, e_ixT2, e_ixT3, e_ixT4, e_ixL0, e_ixL1, e_ixL2, e_ixL3, e_ixL4, e_callP, e_callE, e_allP, e_allP0, e_tup, e_lst, e_par, List.map_cons, List.map_nil, List.append_assoc, List.nil_append, List.cons_append, List.replicate, List.getElem?_cons_zero, List.getElem?_cons_succ, List.set_cons_zero, List.set_cons_succ, Option.map_some, if_true, if_false, Bool.false_eq_true, decide_eq_true_eq, List.length_cons, List.length_nil, bg0, bg1, bg2, bg3, bg4, bg5, bg6, bg7, bg8, bg9, bg10, bg11, bg12, bg13, bg14, f1, f2]
  rfl
theorem inV_no {w : Str} : ∀ {ws : List Str}, w ∉ ws → inV (.str w) (ws.map V.str) = false
  | [], _ => rfl
  | z :: ws, h => by
    have ih := inV_no (w := w) (ws := ws) fun m => h (List.mem_cons_of_mem _ m)
    unfold inV at ih ⊢
    rw [List.map_cons, List.any_cons, ih, Bool.or_false]
    have hz : z ≠ w := fun e => h (by rw [e]; exact List.mem_cons_self)
    unfold eqV
    first
      | exact beq_eq_false_iff_ne.mpr hz
      | exact beq_eq_false_iff_ne.mpr (Ne.symm hz)
theorem e_no_in {w : Str} {ws : List Str} {c : DL.D} {S : Sto} (hc : isC c (ws.map DL.D.str)) (h : w ∉ ws) : oInS true (.p (.str w)) (.p c) S = .ok (.p (.bl true)) S := by
  have e : sqOf S (.p c) = some (ws.map DL.D.str) := by rcases hc with rfl | rfl <;> rfl
  unfold oInS
  rw [e]
  show (match flD (.str w), flDs (ws.map DL.D.str) with | some v, some vs => Out.ok (Dv.p (.bl (if true = true then !inV v vs else inV v vs))) S | _, _ => .bad) = _
  rw [flDs_str]
  show Out.ok (Dv.p (.bl (!inV (.str w) (ws.map V.str)))) S = _
  rw [inV_no h]; rfl
theorem eq_natS {i : Nat} {S : Sto} : oEq (.p (.int (i : Nat))) (.p (.int (i : Nat))) S = .ok (.p (.bl true)) S := by
  rw [e_eqi, beq_self_eq_true]
theorem lk_ref {a : Int} {ps : List DL.D} {k : Nat} : (lineF a ps k).lookup ("refuse" : Str) = none := lk_no (by decide +kernel) (by decide +kernel) (by decide +kernel)
theorem e_refuse {S : Sto} {i k : Nat} {a : Int} {ps : List DL.D} (h : Lat S i a ps k) {ρ : Nv} (hρ : ρ[0]? = some (some (.hnd i))) : dMethO "refuse" m_Line_refuse (dName 0) aNil ρ S = .exc (XT k a) S :=
  (e_methO (i := i) (fs := lineF a ps k) (xs := []) (S2 := S) (by rw [e_name, hρ]) h lk_ref rfl).trans (refuse_eq h)
theorem take_no {S : Sto} {i k : Nat} {a : Int} {ps ws : List Str} {c : DL.D} (h : Lat S i a (ps.map DL.D.str) k) (hk : k ≤ ps.length) (hc : isC c (ws.map DL.D.str)) (hn : ∀ w, ps[k]? = some w → w ∉ ws) :
    m_Line_take [.hnd i, .p c] S = .exc (XT k a) S := by
  have f1 : ∀ ρ : Nv, ρ[0]? = some (some (.hnd i)) → dFld "spot" (dName 0) ρ S = .ok (.p (.int (k : Nat))) S := fun ρ hρ => e_fld (by rw [e_name, hρ]) h lk_s
  have f2 : ∀ ρ : Nv, ρ[0]? = some (some (.hnd i)) → dFld "pieces" (dName 0) ρ S = .ok (.p (.lst (ps.map DL.D.str))) S := fun ρ hρ => e_fld (by rw [e_name, hρ]) h lk_p
  have f3 := fun ρ hρ => e_refuse h (ρ := ρ) hρ
  have nl : ∀ S, nLen [.p (.lst (ps.map DL.D.str))] S = .ok (.p (.int (ps.length : Nat))) S := fun S => by rw [nLen_lst, List.length_map]
  by_cases he : k = ps.length
  · subst he
    simp only [m_Line_take, runE, init, b_Line_take, e_seq, e_seq_nx, e_seq_rt, e_seq_ite, e_bind, e_bind_ite, e_toS, e_toS_ite, e_set, e_ret, e_expr, e_nil, e_if, e_name, e_C, e_bin, e_un, e_ifx, e_aNil, e_aCons, e_call, e_cVal, e_cNot, e_cAnd, e_cOr, e_and, e_or, e_not, e_add, e_sub, e_lt, e_le, e_gt, e_ge, e_neg, e_eqi, e_nei, e_isN, e_notN, e_partsE, e_ixT0, e_ixT1, e_ixT2, e_ixT3, e_ixT4, e_ixL0, e_ixL1, e_ixL2, e_ixL3, e_ixL4, e_callP, e_callE, e_allP, e_allP0, e_tup, e_lst, e_par, List.map_cons, List.map_nil, List.append_assoc, List.nil_append, List.cons_append, List.replicate, List.getElem?_cons_zero, List.getElem?_cons_succ, List.set_cons_zero, List.set_cons_succ, Option.map_some, if_true, if_false, Bool.false_eq_true, decide_eq_true_eq, List.length_cons, List.length_nil, bg0, bg1, bg2, bg3, bg4, bg5, bg6, bg7, bg8, bg9, bg10, bg11, bg12, bg13, bg14, f1, f2, nl, eq_natS, f3, beq_self_eq_true, if_true]
    all_goals rfl
  · have hlt : k < ps.length := by omega
    have hw : ps[k]? = some ps[k] := List.getElem?_eq_getElem hlt
    have e1 : ∀ S, oIx (.p (.lst (ps.map DL.D.str))) (.p (.int (k : Nat))) S = .ok (.p (.str ps[k])) S := fun S => e_ixL k (by rw [List.getElem?_map, hw]; rfl)
    have e3 := fun S => e_no_in (S := S) hc (hn _ hw)
    simp only [m_Line_take, runE, init, b_Line_take, e_seq, e_seq_nx, e_seq_rt, e_seq_ite, e_bind, e_bind_ite, e_toS, e_toS_ite, e_set, e_ret, e_expr, e_nil, e_if, e_name, e_C, e_bin, e_un, e_ifx, e_aNil, e_aCons, e_call, e_cVal, e_cNot, e_cAnd, e_cOr, e_and, e_or, e_not, e_add, e_sub, e_lt, e_le, e_gt, e_ge, e_neg, e_eqi, e_nei, e_isN, e_notN, e_partsE, e_ixT0, e_ixT1, e_ixT2, e_ixT3, e_ixT4, e_ixL0, e_ixL1, e_ixL2, e_ixL3, e_ixL4, e_callP, e_callE, e_allP, e_allP0, e_tup, e_lst, e_par, List.map_cons, List.map_nil, List.append_assoc, List.nil_append, List.cons_append, List.replicate, List.getElem?_cons_zero, List.getElem?_cons_succ, List.set_cons_zero, List.set_cons_succ, Option.map_some, if_true, if_false, Bool.false_eq_true, decide_eq_true_eq, List.length_cons, List.length_nil, bg0, bg1, bg2, bg3, bg4, bg5, bg6, bg7, bg8, bg9, bg10, bg11, bg12, bg13, bg14, f1, f2, nl, eq_nat hlt, e1, e3, f3, beq_self_eq_true, if_true]
    all_goals rfl
/-- a word of a line -/
structure WOK (w : Str) : Prop where
  ne : TL.tl w ≠ []
  ok : PyData.strOk w = true
  le : w.length ≤ 1000000
def okN (ps : List Str) (k : Nat) (lo hi : Int) : Bool := match ps[k]? with
  | some w => isNum w lo hi
  | none => false
def vN (ps : List Str) (k : Nat) : Int := match ps[k]? with
  | some w => vl w
  | none => 0
theorem number_no {S : Sto} {i k : Nat} {a lo hi : Int} {ps : List Str} (hp : ∀ w ∈ ps, WOK w) (h : Lat S i a (ps.map DL.D.str) k) (hk : k ≤ ps.length) (hh : 0 ≤ hi) (hb : hi < 10 ^ 39) (hn : okN ps k lo hi = false) :
    m_Line_take_number [.hnd i, .p (.int lo), .p (.int hi)] S = .exc (XT k a) S := by
  have f1 : ∀ ρ : Nv, ρ[0]? = some (some (.hnd i)) → dFld "spot" (dName 0) ρ S = .ok (.p (.int (k : Nat))) S := fun ρ hρ => e_fld (by rw [e_name, hρ]) h lk_s
  have f2 : ∀ ρ : Nv, ρ[0]? = some (some (.hnd i)) → dFld "pieces" (dName 0) ρ S = .ok (.p (.lst (ps.map DL.D.str))) S := fun ρ hρ => e_fld (by rw [e_name, hρ]) h lk_p
  have f3 := fun ρ hρ => e_refuse h (ρ := ρ) hρ
  have nl : ∀ S, nLen [.p (.lst (ps.map DL.D.str))] S = .ok (.p (.int (ps.length : Nat))) S := fun S => by rw [nLen_lst, List.length_map]
  by_cases he : k = ps.length
  · subst he
    simp only [m_Line_take_number, runE, init, b_Line_take_number, e_seq, e_seq_nx, e_seq_rt, e_seq_ite, e_bind, e_bind_ite, e_toS, e_toS_ite, e_set, e_ret, e_expr, e_nil, e_if, e_name, e_C, e_bin, e_un, e_ifx, e_aNil, e_aCons, e_call, e_cVal, e_cNot, e_cAnd, e_cOr, e_and, e_or, e_not, e_add, e_sub, e_lt, e_le, e_gt, e_ge, e_neg, e_eqi, e_nei, e_isN, e_notN, e_partsE, e_ixT0, e_ixT1, e_ixT2, e_ixT3, e_ixT4, e_ixL0, e_ixL1, e_ixL2, e_ixL3, e_ixL4, e_callP, e_callE, e_allP, e_allP0, e_tup, e_lst, e_par, List.map_cons, List.map_nil, List.append_assoc, List.nil_append, List.cons_append, List.replicate, List.getElem?_cons_zero, List.getElem?_cons_succ, List.set_cons_zero, List.set_cons_succ, Option.map_some, if_true, if_false, Bool.false_eq_true, decide_eq_true_eq, List.length_cons, List.length_nil, bg0, bg1, bg2, bg3, bg4, bg5, bg6, bg7, bg8, bg9, bg10, bg11, bg12, bg13, bg14, f1, f2, nl, eq_natS, f3, beq_self_eq_true, if_true]
    all_goals rfl
  · have hlt : k < ps.length := by omega
    have hw : ps[k]? = some ps[k] := List.getElem?_eq_getElem hlt
    have wk := hp _ (List.getElem_mem hlt)
    have e1 : ∀ S, oIx (.p (.lst (ps.map DL.D.str))) (.p (.int (k : Nat))) S = .ok (.p (.str ps[k])) S := fun S => e_ixL k (by rw [List.getElem?_map, hw]; rfl)
    have b0 : hi < 10 ^ 40 := by
      have : (10 : Int) ^ 39 ≤ 10 ^ 40 := by decide
      omega
    have e3 := is_word_any (lo := lo) wk.ne wk.ok wk.le hh b0
    have e4 : isNum ps[k] lo hi = false := by
      unfold okN at hn
      rw [hw] at hn
      exact hn
    rw [e4] at e3
    simp only [m_Line_take_number, runE, init, b_Line_take_number, e_seq, e_seq_nx, e_seq_rt, e_seq_ite, e_bind, e_bind_ite, e_toS, e_toS_ite, e_set, e_ret, e_expr, e_nil, e_if, e_name, e_C, e_bin, e_un, e_ifx, e_aNil, e_aCons, e_call, e_cVal, e_cNot, e_cAnd, e_cOr, e_and, e_or, e_not, e_add, e_sub, e_lt, e_le, e_gt, e_ge, e_neg, e_eqi, e_nei, e_isN, e_notN, e_partsE, e_ixT0, e_ixT1, e_ixT2, e_ixT3, e_ixT4, e_ixL0, e_ixL1, e_ixL2, e_ixL3, e_ixL4, e_callP, e_callE, e_allP, e_allP0, e_tup, e_lst, e_par, List.map_cons, List.map_nil, List.append_assoc, List.nil_append, List.cons_append, List.replicate, List.getElem?_cons_zero, List.getElem?_cons_succ, List.set_cons_zero, List.set_cons_succ, Option.map_some, if_true, if_false, Bool.false_eq_true, decide_eq_true_eq, List.length_cons, List.length_nil, bg0, bg1, bg2, bg3, bg4, bg5, bg6, bg7, bg8, bg9, bg10, bg11, bg12, bg13, bg14, f1, f2, nl, eq_nat hlt, e1, e3, Bool.not_false, f3, beq_self_eq_true, if_true]
    all_goals rfl
theorem isNum_nw {w : Str} {lo hi : Int} (hn : TL.tl w ≠ []) (h : isNum w lo hi = true) : w = nw (vl w) ∧ lo ≤ vl w ∧ vl w ≤ hi := by
  unfold isNum at h
  simp only [Bool.and_eq_true, decide_eq_true_eq] at h
  exact ⟨(beq_iff_eq.mp ((cano_nw h.1 hn).trans h.2.1)).symm, h.2.2⟩
theorem number_yes {S : Sto} {i k : Nat} {a lo hi : Int} {ps : List Str} (hp : ∀ w ∈ ps, WOK w) (h : Lat S i a (ps.map DL.D.str) k) (hb : hi < 10 ^ 39) (hn : okN ps k lo hi = true) :
    m_Line_take_number [.hnd i, .p (.int lo), .p (.int hi)] S = .ok (.p (.int (vN ps k))) (Lset S i a (ps.map DL.D.str) (k + 1)) ∧ lo ≤ vN ps k ∧ vN ps k ≤ hi ∧ k < ps.length := by
  unfold okN at hn
  unfold vN
  split at hn
  · rename_i w hw
    have hlt := (List.getElem?_eq_some_iff.mp hw).1
    have wk := hp w (List.mem_of_getElem? hw)
    obtain ⟨e, h1, h2⟩ := isNum_nw wk.ne hn
    have b0 : hi < 10 ^ 40 := by
      have : (10 : Int) ^ 39 ≤ 10 ^ 40 := by decide
      omega
    refine ⟨take_number_eq h (n := vl w) (by rw [List.getElem?_map, hw, ← e]; rfl) vl_nn h1 h2 b0, h1, h2, hlt⟩
  · cases hn
theorem finish_no {S : Sto} {i k : Nat} {a : Int} {ps : List Str} (h : Lat S i a (ps.map DL.D.str) k) (hk : k < ps.length) : m_Line_finish [.hnd i] S = .exc (XT k a) S := by
  have f1 : ∀ ρ : Nv, ρ[0]? = some (some (.hnd i)) → dFld "spot" (dName 0) ρ S = .ok (.p (.int (k : Nat))) S := fun ρ hρ => e_fld (by rw [e_name, hρ]) h lk_s
  have f2 : ∀ ρ : Nv, ρ[0]? = some (some (.hnd i)) → dFld "pieces" (dName 0) ρ S = .ok (.p (.lst (ps.map DL.D.str))) S := fun ρ hρ => e_fld (by rw [e_name, hρ]) h lk_p
  have f3 := fun ρ hρ => e_refuse h (ρ := ρ) hρ
  have nl : ∀ S, nLen [.p (.lst (ps.map DL.D.str))] S = .ok (.p (.int (ps.length : Nat))) S := fun S => by rw [nLen_lst, List.length_map]
  have e1 : decide ((k : Int) < (ps.length : Int)) = true := decide_eq_true (by omega)
  simp only [m_Line_finish, runE, init, b_Line_finish, e_seq, e_seq_nx, e_seq_rt, e_seq_ite, e_bind, e_bind_ite, e_toS, e_toS_ite, e_set, e_ret, e_expr, e_nil, e_if, e_name, e_C, e_bin, e_un, e_ifx, e_aNil, e_aCons, e_call, e_cVal, e_cNot, e_cAnd, e_cOr, e_and, e_or, e_not, e_add, e_sub, e_lt, e_le, e_gt, e_ge, e_neg, e_eqi, e_nei, e_isN, e_notN, e_partsE, e_ixT0, e_ixT1, e_ixT2, e_ixT3, e_ixT4, e_ixL0, e_ixL1, e_ixL2, e_ixL3, e_ixL4, e_callP, e_callE, e_allP, e_allP0, e_tup, e_lst, e_par, List.map_cons, List.map_nil, List.append_assoc, List.nil_append, List.cons_append, List.replicate, List.getElem?_cons_zero, List.getElem?_cons_succ, List.set_cons_zero, List.set_cons_succ, Option.map_some, if_true, if_false, Bool.false_eq_true, decide_eq_true_eq, List.length_cons, List.length_nil, bg0, bg1, bg2, bg3, bg4, bg5, bg6, bg7, bg8, bg9, bg10, bg11, bg12, bg13, bg14, f1, f2, nl, e1, f3, if_true]
  all_goals rfl

/-! ### a ticket's line, any words -/
def tkBad (ps : List Str) : Option Nat :=
  if (ps[0]? == some ("ticket" : Str)) = false then some 1 else if okN ps 1 1 1000000 = false then some 2 else if okN ps 2 1 1000000 = false then some 3 else
  if okN ps 3 0 (vN ps 1 - 1) = false then some 4 else if okN ps 4 0 (vN ps 2 - 1) = false then some 5 else if okN ps 5 1 1000000000000000000000000000000 = false then some 6 else if 6 < ps.length then some 7 else none
theorem hb39 : (10 : Int) ^ 39 = 1000000000000000000000000000000000000000 := by decide
/-- what ticket_in gives -/
def inR (o : Option Nat) (a : Int) (T : Sto) (r : Out Dv) : Prop := match o with
  | none => ∃ d, r = .ok (.p d) T
  | some b => ∃ S', r = .exc ⟨1, [.int (b : Nat), .int a]⟩ S'
theorem inR_exc {k : Nat} {a : Int} {S T : Sto} {r : Out Dv} (h : r = .exc (XT k a) S) : inR (some (k + 1)) a T r := ⟨S, by rw [h]; rfl⟩
theorem ticket_any {S : Sto} {i : Nat} {a : Int} {ps : List Str} (hp : ∀ w ∈ ps, WOK w) (h : Lat S i a (ps.map DL.D.str) 0) : inR (tkBad ps) a (Lset S i a (ps.map DL.D.str) 6) (m_ticket_in [.hnd i] S) := by
  have hb := hb39
  have io0 := insOf_at (show S[i]? = _ from h)
  have io : ∀ k, insOf (Lset S i a (ps.map DL.D.str) k) (.hnd i) = some (i, lineF a (ps.map DL.D.str) k) := fun k => insOf_at (h.put (j := k))
  have isT : isC (.tup [.str "ticket"]) ((["ticket"] : List Str).map DL.D.str) := .inr rfl
  unfold tkBad
  split
  · rename_i c0
    have q0 := take_no (ws := ["ticket"]) h (Nat.zero_le _) isT (fun w hw hm => by
      rw [hw, List.mem_singleton.mp hm] at c0
      exact absurd c0 (by decide +kernel))
    refine inR_exc (k := 0) (S := S) ?_
    simp only [m_ticket_in, runE, init, b_ticket_in, e_seq, e_seq_nx, e_seq_rt, e_seq_ite, e_bind, e_bind_ite, e_toS, e_toS_ite, e_set, e_ret, e_expr, e_nil, e_if, e_name, e_C, e_bin, e_un, e_ifx, e_aNil, e_aCons, e_call, e_cVal, e_cNot, e_cAnd, e_cOr, e_and, e_or, e_not, e_add, e_sub, e_lt, e_le, e_gt, e_ge, e_neg, e_eqi, e_nei, e_isN, e_notN, e_partsE, e_ixT0, e_ixT1, e_ixT2, e_ixT3, e_ixT4, e_ixL0, e_ixL1, e_ixL2, e_ixL3, e_ixL4, e_callP, e_callE, e_allP, e_allP0, e_tup, e_lst, e_par, List.map_cons, List.map_nil, List.append_assoc, List.nil_append, List.cons_append, List.replicate, List.getElem?_cons_zero, List.getElem?_cons_succ, List.set_cons_zero, List.set_cons_succ, Option.map_some, if_true, if_false, Bool.false_eq_true, decide_eq_true_eq, List.length_cons, List.length_nil, bg0, bg1, bg2, bg3, bg4, bg5, bg6, bg7, bg8, bg9, bg10, bg11, bg12, bg13, bg14, e_methOE, io0, lk_take, q0]
    all_goals rfl
  rename_i c0
  have w0 : ps[0]? = some ("ticket" : Str) := by simpa using c0
  have l0 : 0 < ps.length := (List.getElem?_eq_some_iff.mp w0).1
  have q0 := take_eq h (w := ("ticket" : Str)) (by rw [List.getElem?_map, w0]; rfl) (ws := ["ticket"]) isT (by simp)
  split
  · rename_i c1
    have q1 := number_no hp (lo := 1) (hi := 1000000) (h.put (j := 1)) (by omega) (by omega) (by omega) c1
    refine inR_exc (k := 1) (S := Lset S i a (ps.map DL.D.str) 1) ?_
    simp only [m_ticket_in, runE, init, b_ticket_in, e_seq, e_seq_nx, e_seq_rt, e_seq_ite, e_bind, e_bind_ite, e_toS, e_toS_ite, e_set, e_ret, e_expr, e_nil, e_if, e_name, e_C, e_bin, e_un, e_ifx, e_aNil, e_aCons, e_call, e_cVal, e_cNot, e_cAnd, e_cOr, e_and, e_or, e_not, e_add, e_sub, e_lt, e_le, e_gt, e_ge, e_neg, e_eqi, e_nei, e_isN, e_notN, e_partsE, e_ixT0, e_ixT1, e_ixT2, e_ixT3, e_ixT4, e_ixL0, e_ixL1, e_ixL2, e_ixL3, e_ixL4, e_callP, e_callE, e_allP, e_allP0, e_tup, e_lst, e_par, List.map_cons, List.map_nil, List.append_assoc, List.nil_append, List.cons_append, List.replicate, List.getElem?_cons_zero, List.getElem?_cons_succ, List.set_cons_zero, List.set_cons_succ, Option.map_some, if_true, if_false, Bool.false_eq_true, decide_eq_true_eq, List.length_cons, List.length_nil, bg0, bg1, bg2, bg3, bg4, bg5, bg6, bg7, bg8, bg9, bg10, bg11, bg12, bg13, bg14, e_methOE, io0, io, lk_take, lk_taken, q0, q1]
    all_goals rfl
  rename_i c1
  obtain ⟨q1, r1, s1, l1⟩ := number_yes hp (lo := 1) (hi := 1000000) (h.put (j := 1)) (by omega) (by simpa using c1)
  rw [Lset.two] at q1
  split
  · rename_i c2
    have q2 := number_no hp (lo := 1) (hi := 1000000) (h.put (j := 2)) (by omega) (by omega) (by omega) c2
    refine inR_exc (k := 2) (S := Lset S i a (ps.map DL.D.str) 2) ?_
    simp only [m_ticket_in, runE, init, b_ticket_in, e_seq, e_seq_nx, e_seq_rt, e_seq_ite, e_bind, e_bind_ite, e_toS, e_toS_ite, e_set, e_ret, e_expr, e_nil, e_if, e_name, e_C, e_bin, e_un, e_ifx, e_aNil, e_aCons, e_call, e_cVal, e_cNot, e_cAnd, e_cOr, e_and, e_or, e_not, e_add, e_sub, e_lt, e_le, e_gt, e_ge, e_neg, e_eqi, e_nei, e_isN, e_notN, e_partsE, e_ixT0, e_ixT1, e_ixT2, e_ixT3, e_ixT4, e_ixL0, e_ixL1, e_ixL2, e_ixL3, e_ixL4, e_callP, e_callE, e_allP, e_allP0, e_tup, e_lst, e_par, List.map_cons, List.map_nil, List.append_assoc, List.nil_append, List.cons_append, List.replicate, List.getElem?_cons_zero, List.getElem?_cons_succ, List.set_cons_zero, List.set_cons_succ, Option.map_some, if_true, if_false, Bool.false_eq_true, decide_eq_true_eq, List.length_cons, List.length_nil, bg0, bg1, bg2, bg3, bg4, bg5, bg6, bg7, bg8, bg9, bg10, bg11, bg12, bg13, bg14, e_methOE, io0, io, lk_take, lk_taken, q0, q1, q2]
    all_goals rfl
  rename_i c2
  obtain ⟨q2, r2, s2, l2⟩ := number_yes hp (lo := 1) (hi := 1000000) (h.put (j := 2)) (by omega) (by simpa using c2)
  rw [Lset.two] at q2
  split
  · rename_i c3
    have q3 := number_no hp (lo := 0) (hi := vN ps 1 - 1) (h.put (j := 3)) (by omega) (by omega) (by omega) c3
    refine inR_exc (k := 3) (S := Lset S i a (ps.map DL.D.str) 3) ?_
    simp only [m_ticket_in, runE, init, b_ticket_in, e_seq, e_seq_nx, e_seq_rt, e_seq_ite, e_bind, e_bind_ite, e_toS, e_toS_ite, e_set, e_ret, e_expr, e_nil, e_if, e_name, e_C, e_bin, e_un, e_ifx, e_aNil, e_aCons, e_call, e_cVal, e_cNot, e_cAnd, e_cOr, e_and, e_or, e_not, e_add, e_sub, e_lt, e_le, e_gt, e_ge, e_neg, e_eqi, e_nei, e_isN, e_notN, e_partsE, e_ixT0, e_ixT1, e_ixT2, e_ixT3, e_ixT4, e_ixL0, e_ixL1, e_ixL2, e_ixL3, e_ixL4, e_callP, e_callE, e_allP, e_allP0, e_tup, e_lst, e_par, List.map_cons, List.map_nil, List.append_assoc, List.nil_append, List.cons_append, List.replicate, List.getElem?_cons_zero, List.getElem?_cons_succ, List.set_cons_zero, List.set_cons_succ, Option.map_some, if_true, if_false, Bool.false_eq_true, decide_eq_true_eq, List.length_cons, List.length_nil, bg0, bg1, bg2, bg3, bg4, bg5, bg6, bg7, bg8, bg9, bg10, bg11, bg12, bg13, bg14, e_methOE, io0, io, lk_take, lk_taken, q0, q1, q2, q3]
    all_goals rfl
  rename_i c3
  obtain ⟨q3, r3, s3, l3⟩ := number_yes hp (lo := 0) (hi := vN ps 1 - 1) (h.put (j := 3)) (by omega) (by simpa using c3)
  rw [Lset.two] at q3
  split
  · rename_i c4
    have q4 := number_no hp (lo := 0) (hi := vN ps 2 - 1) (h.put (j := 4)) (by omega) (by omega) (by omega) c4
    refine inR_exc (k := 4) (S := Lset S i a (ps.map DL.D.str) 4) ?_
    simp only [m_ticket_in, runE, init, b_ticket_in, e_seq, e_seq_nx, e_seq_rt, e_seq_ite, e_bind, e_bind_ite, e_toS, e_toS_ite, e_set, e_ret, e_expr, e_nil, e_if, e_name, e_C, e_bin, e_un, e_ifx, e_aNil, e_aCons, e_call, e_cVal, e_cNot, e_cAnd, e_cOr, e_and, e_or, e_not, e_add, e_sub, e_lt, e_le, e_gt, e_ge, e_neg, e_eqi, e_nei, e_isN, e_notN, e_partsE, e_ixT0, e_ixT1, e_ixT2, e_ixT3, e_ixT4, e_ixL0, e_ixL1, e_ixL2, e_ixL3, e_ixL4, e_callP, e_callE, e_allP, e_allP0, e_tup, e_lst, e_par, List.map_cons, List.map_nil, List.append_assoc, List.nil_append, List.cons_append, List.replicate, List.getElem?_cons_zero, List.getElem?_cons_succ, List.set_cons_zero, List.set_cons_succ, Option.map_some, if_true, if_false, Bool.false_eq_true, decide_eq_true_eq, List.length_cons, List.length_nil, bg0, bg1, bg2, bg3, bg4, bg5, bg6, bg7, bg8, bg9, bg10, bg11, bg12, bg13, bg14, e_methOE, io0, io, lk_take, lk_taken, q0, q1, q2, q3, q4]
    all_goals rfl
  rename_i c4
  obtain ⟨q4, r4, s4, l4⟩ := number_yes hp (lo := 0) (hi := vN ps 2 - 1) (h.put (j := 4)) (by omega) (by simpa using c4)
  rw [Lset.two] at q4
  split
  · rename_i c5
    have q5 := number_no hp (lo := 1) (hi := 1000000000000000000000000000000) (h.put (j := 5)) (by omega) (by omega) (by omega) c5
    refine inR_exc (k := 5) (S := Lset S i a (ps.map DL.D.str) 5) ?_
    simp only [m_ticket_in, runE, init, b_ticket_in, e_seq, e_seq_nx, e_seq_rt, e_seq_ite, e_bind, e_bind_ite, e_toS, e_toS_ite, e_set, e_ret, e_expr, e_nil, e_if, e_name, e_C, e_bin, e_un, e_ifx, e_aNil, e_aCons, e_call, e_cVal, e_cNot, e_cAnd, e_cOr, e_and, e_or, e_not, e_add, e_sub, e_lt, e_le, e_gt, e_ge, e_neg, e_eqi, e_nei, e_isN, e_notN, e_partsE, e_ixT0, e_ixT1, e_ixT2, e_ixT3, e_ixT4, e_ixL0, e_ixL1, e_ixL2, e_ixL3, e_ixL4, e_callP, e_callE, e_allP, e_allP0, e_tup, e_lst, e_par, List.map_cons, List.map_nil, List.append_assoc, List.nil_append, List.cons_append, List.replicate, List.getElem?_cons_zero, List.getElem?_cons_succ, List.set_cons_zero, List.set_cons_succ, Option.map_some, if_true, if_false, Bool.false_eq_true, decide_eq_true_eq, List.length_cons, List.length_nil, bg0, bg1, bg2, bg3, bg4, bg5, bg6, bg7, bg8, bg9, bg10, bg11, bg12, bg13, bg14, e_methOE, io0, io, lk_take, lk_taken, q0, q1, q2, q3, q4, q5]
    all_goals rfl
  rename_i c5
  obtain ⟨q5, r5, s5, l5⟩ := number_yes hp (lo := 1) (hi := 1000000000000000000000000000000) (h.put (j := 5)) (by omega) (by simpa using c5)
  rw [Lset.two] at q5
  split
  · rename_i c6
    have q6 := finish_no (h.put (j := 6)) c6
    refine inR_exc (k := 6) (S := Lset S i a (ps.map DL.D.str) 6) ?_
    simp only [m_ticket_in, runE, init, b_ticket_in, e_seq, e_seq_nx, e_seq_rt, e_seq_ite, e_bind, e_bind_ite, e_toS, e_toS_ite, e_set, e_ret, e_expr, e_nil, e_if, e_name, e_C, e_bin, e_un, e_ifx, e_aNil, e_aCons, e_call, e_cVal, e_cNot, e_cAnd, e_cOr, e_and, e_or, e_not, e_add, e_sub, e_lt, e_le, e_gt, e_ge, e_neg, e_eqi, e_nei, e_isN, e_notN, e_partsE, e_ixT0, e_ixT1, e_ixT2, e_ixT3, e_ixT4, e_ixL0, e_ixL1, e_ixL2, e_ixL3, e_ixL4, e_callP, e_callE, e_allP, e_allP0, e_tup, e_lst, e_par, List.map_cons, List.map_nil, List.append_assoc, List.nil_append, List.cons_append, List.replicate, List.getElem?_cons_zero, List.getElem?_cons_succ, List.set_cons_zero, List.set_cons_succ, Option.map_some, if_true, if_false, Bool.false_eq_true, decide_eq_true_eq, List.length_cons, List.length_nil, bg0, bg1, bg2, bg3, bg4, bg5, bg6, bg7, bg8, bg9, bg10, bg11, bg12, bg13, bg14, e_methOE, io0, io, lk_take, lk_taken, lk_fin, q0, q1, q2, q3, q4, q5, q6]
    all_goals rfl
  · rename_i c6
    have e6 : (ps.map DL.D.str).length = 6 := by rw [List.length_map]; omega
    have q6 := finish_eq (ps := ps.map DL.D.str) (a := a) (S := Lset S i a (ps.map DL.D.str) 6) (i := i) (by rw [e6]; exact h.put)
    refine ⟨.tup [.int (vN ps 1), .int (vN ps 2), .int (vN ps 3), .int (vN ps 4), .int (vN ps 5)], ?_⟩
    simp only [m_ticket_in, runE, init, b_ticket_in, e_seq, e_seq_nx, e_seq_rt, e_seq_ite, e_bind, e_bind_ite, e_toS, e_toS_ite, e_set, e_ret, e_expr, e_nil, e_if, e_name, e_C, e_bin, e_un, e_ifx, e_aNil, e_aCons, e_call, e_cVal, e_cNot, e_cAnd, e_cOr, e_and, e_or, e_not, e_add, e_sub, e_lt, e_le, e_gt, e_ge, e_neg, e_eqi, e_nei, e_isN, e_notN, e_partsE, e_ixT0, e_ixT1, e_ixT2, e_ixT3, e_ixT4, e_ixL0, e_ixL1, e_ixL2, e_ixL3, e_ixL4, e_callP, e_callE, e_allP, e_allP0, e_tup, e_lst, e_par, List.map_cons, List.map_nil, List.append_assoc, List.nil_append, List.cons_append, List.replicate, List.getElem?_cons_zero, List.getElem?_cons_succ, List.set_cons_zero, List.set_cons_succ, Option.map_some, if_true, if_false, Bool.false_eq_true, decide_eq_true_eq, List.length_cons, List.length_nil, bg0, bg1, bg2, bg3, bg4, bg5, bg6, bg7, bg8, bg9, bg10, bg11, bg12, bg13, bg14, e_methOE, io0, io, lk_take, lk_taken, lk_fin, q0, q1, q2, q3, q4, q5, q6]
    all_goals rfl

/-! ### the law's account of a ticket's line -/
def oD (o : Option Nat) : DL.D := match o with
  | none => .non
  | some b => .int (b : Nat)
theorem fig_any {ps : List Str} (hp : ∀ w ∈ ps, WOK w) {k : Nat} {lo hi : Int} (hk : k < ps.length) (hh : 0 ≤ hi) (hb : hi < 10 ^ 39) : m_law_is_figures [.str (ps[k]'hk), .int lo, .int hi] = .ok (.bl (okN ps k lo hi)) := by
  have wk := hp _ (List.getElem_mem hk)
  have := law_fig (lo := lo) wk.ne wk.ok wk.le hh hb
  unfold okN
  rw [List.getElem?_eq_getElem hk]
  exact this
theorem okN_lt {ps : List Str} {k : Nat} {lo hi : Int} (h : okN ps k lo hi = true) : k < ps.length := by
  unfold okN at h
  split at h
  · rename_i w hw
    exact (List.getElem?_eq_some_iff.mp hw).1
  · cases h
theorem okN_in {ps : List Str} (hp : ∀ w ∈ ps, WOK w) {k : Nat} {lo hi : Int} (hb : hi < 10 ^ 39) (h : okN ps k lo hi = true) : lo ≤ vN ps k ∧ vN ps k ≤ hi ∧ ∀ S, nIntS [.p (.str (ps[k]'(okN_lt h)))] S = .ok (.p (.int (vN ps k))) S := by
  have hk := okN_lt h
  have hw : ps[k]? = some ps[k] := List.getElem?_eq_getElem hk
  have wk := hp _ (List.getElem_mem hk)
  unfold okN at h
  rw [hw] at h
  obtain ⟨e, h1, h2⟩ := isNum_nw wk.ne h
  have ev : vN ps k = vl ps[k] := by unfold vN; rw [hw]
  rw [ev]
  refine ⟨h1, h2, ?_⟩
  have hd : dgs ps[k] = true := by
    unfold isNum at h
    rw [Bool.and_eq_true] at h
    exact h.1
  have b := hb39
  have len : (ps[k]).length ≤ 39 := by
    rw [e]
    exact nw_len vl_nn (by decide) (by
      have e : (10 : Int) ^ 39 = ((10 ^ 39 : Nat) : Int) := by decide
      have := vl_nn (w := ps[k])
      omega)
  exact nIntS_dg hd wk.ne (by omega)
def TB (ps : List Str) (k : Int) (x3 x4 : Option Dv) : Nv := [some (.p (.lst (ps.map DL.D.str))), some (.p (.lst [.int 1000000, .int 1000000])), some (.p (.int k)), x3, x4]
def TB' (ps : List Str) : Nv := [some (.p (.lst (ps.map DL.D.str))), some (.p (.lst [.int 1000000, .int 1000000])), none, none, none]
theorem tb_turn {ps : List Str} (hp : ∀ w ∈ ps, WOK w) {k : Nat} {lo hi : Int} {x3 x4 : Option Dv} {S : Sto} (hh : 0 ≤ hi) (hb : hi < 10 ^ 39)
    (e3 : dIf (cVal (dBin (oInS false) (dName 2) (dTup (aCons (dC (.int 3)) (aCons (dC (.int 4)) aNil))))) (dC (.int 0)) (dC (.int 1)) (TB ps (k : Nat) x3 x4) S = .ok (.p (.int lo)) S)
    (e4 : ∀ x3 x4, dIf (cVal (dBin oLt (dName 2) (dC (.int 3)))) (dBin oIx (dName 1) (dBin oSub (dName 2) (dC (.int 1)))) (dIf (cVal (dBin oLt (dName 2) (dC (.int 5)))) (dBin oSub (dCall nIntS (aCons (dBin oIx (dName 0) (dBin oSub (dName 2) (dC (.int 2)))) aNil)) (dC (.int 1))) (dBin oPow (dC (.int 10)) (dC (.int 30)))) (TB ps (k : Nat) x3 x4) S = .ok (.p (.int hi)) S) :
    (sSeq (sSet 3 (dIf (cVal (dBin (oInS false) (dName 2) (dTup (aCons (dC (.int 3)) (aCons (dC (.int 4)) aNil))))) (dC (.int 0)) (dC (.int 1)))) (sSeq (sSet 4 (dIf (cVal (dBin oLt (dName 2) (dC (.int 3)))) (dBin oIx (dName 1) (dBin oSub (dName 2) (dC (.int 1)))) (dIf (cVal (dBin oLt (dName 2) (dC (.int 5)))) (dBin oSub (dCall nIntS (aCons (dBin oIx (dName 0) (dBin oSub (dName 2) (dC (.int 2)))) aNil)) (dC (.int 1))) (dBin oPow (dC (.int 10)) (dC (.int 30)))))) (sIf (cOr (cVal (dBin oLe (dCall nLen (aCons (dName 0) aNil)) (dName 2))) (cNot (cVal (dCallP m_law_is_figures (aCons (dBin oIx (dName 0) (dName 2)) (aCons (dName 3) (aCons (dName 4) aNil))))))) (sRet (dBin oAdd (dName 2) (dC (.int 1)))) sNil))) (TB ps (k : Nat) x3 x4) S = .ok (if okN ps k lo hi = true then .nx (TB ps (k : Nat) (some (.p (.int lo))) (some (.p (.int hi)))) else .rt (.p (.int ((k + 1 : Nat) : Int)))) S := by
  have e4 := e4 (some (.p (.int lo))) x4
  have nl : ∀ S, nLen [.p (.lst (ps.map DL.D.str))] S = .ok (.p (.int (ps.length : Nat))) S := fun S => by rw [nLen_lst, List.length_map]
  rw [e_seq, e_set, e3]
  show OS.seq (OS.ok (.nx (TB ps (k : Nat) (some (.p (.int lo))) x4)) S) _ = _
  rw [e_seq_nx, e_seq, e_set, e4]
  show OS.seq (OS.ok (.nx (TB ps (k : Nat) (some (.p (.int lo))) (some (.p (.int hi))))) S) _ = _
  rw [e_seq_nx]
  unfold TB
  by_cases hk : k < ps.length
  · have c1 : decide ((ps.length : Int) ≤ (k : Int)) = false := decide_eq_false (by omega)
    have e1 : ∀ S, oIx (.p (.lst (ps.map DL.D.str))) (.p (.int (k : Nat))) S = .ok (.p (.str ps[k])) S := fun S => e_ixL k (by rw [List.getElem?_map, List.getElem?_eq_getElem hk]; rfl)
    have e2 := fig_any hp (lo := lo) (hi := hi) hk hh hb
    cases b : okN ps k lo hi with
    | true =>
      rw [b] at e2
      simp only [e_seq, e_seq_nx, e_seq_rt, e_seq_ite, e_bind, e_bind_ite, e_toS, e_toS_ite, e_set, e_ret, e_expr, e_nil, e_if, e_name, e_C, e_bin, e_un, e_ifx, e_aNil, e_aCons, e_call, e_cVal, e_cNot, e_cAnd, e_cOr, e_and, e_or, e_not, e_add, e_sub, e_lt, e_le, e_gt, e_ge, e_neg, e_eqi, e_nei, e_isN, e_notN, e_partsE, e_ixT0, e_ixT1, e_ixT2, e_ixT3, e_ixT4, e_ixL0, e_ixL1, e_ixL2, e_ixL3, e_ixL4, e_callP, e_callE, e_allP, e_allP0, e_tup, e_lst, e_par, List.map_cons, List.map_nil, List.append_assoc, List.nil_append, List.cons_append, List.replicate, List.getElem?_cons_zero, List.getElem?_cons_succ, List.set_cons_zero, List.set_cons_succ, Option.map_some, if_true, if_false, Bool.false_eq_true, decide_eq_true_eq, List.length_cons, List.length_nil, bg0, bg1, bg2, bg3, bg4, bg5, bg6, bg7, bg8, bg9, bg10, bg11, bg12, bg13, bg14, nl, c1, e1, e2, Bool.not_true, if_true, if_false, Bool.false_eq_true]
    | false =>
      rw [b] at e2
      simp only [e_seq, e_seq_nx, e_seq_rt, e_seq_ite, e_bind, e_bind_ite, e_toS, e_toS_ite, e_set, e_ret, e_expr, e_nil, e_if, e_name, e_C, e_bin, e_un, e_ifx, e_aNil, e_aCons, e_call, e_cVal, e_cNot, e_cAnd, e_cOr, e_and, e_or, e_not, e_add, e_sub, e_lt, e_le, e_gt, e_ge, e_neg, e_eqi, e_nei, e_isN, e_notN, e_partsE, e_ixT0, e_ixT1, e_ixT2, e_ixT3, e_ixT4, e_ixL0, e_ixL1, e_ixL2, e_ixL3, e_ixL4, e_callP, e_callE, e_allP, e_allP0, e_tup, e_lst, e_par, List.map_cons, List.map_nil, List.append_assoc, List.nil_append, List.cons_append, List.replicate, List.getElem?_cons_zero, List.getElem?_cons_succ, List.set_cons_zero, List.set_cons_succ, Option.map_some, if_true, if_false, Bool.false_eq_true, decide_eq_true_eq, List.length_cons, List.length_nil, bg0, bg1, bg2, bg3, bg4, bg5, bg6, bg7, bg8, bg9, bg10, bg11, bg12, bg13, bg14, nl, c1, e1, e2, Bool.not_false, if_true, if_false, Bool.false_eq_true]
      rfl
  · have c1 : decide ((ps.length : Int) ≤ (k : Int)) = true := decide_eq_true (by omega)
    have b : okN ps k lo hi = false := by
      cases b : okN ps k lo hi with
      | false => rfl
      | true => exact absurd (okN_lt b) hk
    rw [b]
    simp only [e_seq, e_seq_nx, e_seq_rt, e_seq_ite, e_bind, e_bind_ite, e_toS, e_toS_ite, e_set, e_ret, e_expr, e_nil, e_if, e_name, e_C, e_bin, e_un, e_ifx, e_aNil, e_aCons, e_call, e_cVal, e_cNot, e_cAnd, e_cOr, e_and, e_or, e_not, e_add, e_sub, e_lt, e_le, e_gt, e_ge, e_neg, e_eqi, e_nei, e_isN, e_notN, e_partsE, e_ixT0, e_ixT1, e_ixT2, e_ixT3, e_ixT4, e_ixL0, e_ixL1, e_ixL2, e_ixL3, e_ixL4, e_callP, e_callE, e_allP, e_allP0, e_tup, e_lst, e_par, List.map_cons, List.map_nil, List.append_assoc, List.nil_append, List.cons_append, List.replicate, List.getElem?_cons_zero, List.getElem?_cons_succ, List.set_cons_zero, List.set_cons_succ, Option.map_some, if_true, if_false, Bool.false_eq_true, decide_eq_true_eq, List.length_cons, List.length_nil, bg0, bg1, bg2, bg3, bg4, bg5, bg6, bg7, bg8, bg9, bg10, bg11, bg12, bg13, bg14, nl, c1, if_true, if_false, Bool.false_eq_true]
    rfl
theorem forL_rt {t : Tgt} {body : Sf} {d : DL.D} {ds : List DL.D} {ρ ρ1 : Nv} {S S2 : Sto} {v : Dv} (h1 : t (.p d) ρ = some ρ1) (h2 : body ρ1 S = .ok (.rt v) S2) : forL t body (d :: ds) ρ S = .ok (.rt v) S2 := by
  unfold forL
  rw [h1]
  show (match body ρ1 S with | .ok (.nx ρ') S' => forL t body ds ρ' S' | .ok (.ct ρ') S' => forL t body ds ρ' S' | .ok (.bk ρ') S' => .ok (.nx ρ') S' | .ok (.rt d) S' => .ok (.rt d) S' | .exc x ρ' S' => .exc x ρ' S' | .bad => .bad) = _
  rw [h2]
theorem forL_nx {t : Tgt} {body : Sf} {d : DL.D} {ds : List DL.D} {ρ ρ1 ρ2 : Nv} {S S2 : Sto} (h1 : t (.p d) ρ = some ρ1) (h2 : body ρ1 S = .ok (.nx ρ2) S2) : forL t body (d :: ds) ρ S = forL t body ds ρ2 S2 := by
  conv => lhs; unfold forL
  rw [h1]
  show (match body ρ1 S with | .ok (.nx ρ') S' => forL t body ds ρ' S' | .ok (.ct ρ') S' => forL t body ds ρ' S' | .ok (.bk ρ') S' => .ok (.nx ρ') S' | .ok (.rt d) S' => .ok (.rt d) S' | .exc x ρ' S' => .exc x ρ' S' | .bad => .bad) = _
  rw [h2]
theorem ne_first {ps : List Str} (hp : ∀ w ∈ ps, WOK w) {z : Str} (hz : PyData.strOk z = true) (S : Sto) : oNe (.p (.lst ((ps.take 1).map DL.D.str))) (.p (.lst [.str z])) S = .ok (.p (.bl (!(ps[0]? == some z)))) S := by
  have s2 : SeqAt.shaped (.list [.str z]) = true := by
    unfold SeqAt.shaped
    show ((PyData.strOk z && true) && decide (1 + max 0 0 ≤ 64)) = true
    rw [hz]
    decide
  cases ps with
  | nil =>
    show (if SeqAt.shaped (.list []) = true ∧ SeqAt.shaped (.list [.str z]) = true then Out.ok (Dv.p (.bl (!PyData.eqv (.list []) (.list [.str z])))) S else .bad) = _
    rw [if_pos ⟨by decide +kernel, s2⟩]
    rfl
  | cons w r =>
    have s1 : SeqAt.shaped (.list [.str w]) = true := by
      unfold SeqAt.shaped
      show ((PyData.strOk w && true) && decide (1 + max 0 0 ≤ 64)) = true
      rw [(hp w List.mem_cons_self).ok]
      decide
    show (if SeqAt.shaped (.list [.str w]) = true ∧ SeqAt.shaped (.list [.str z]) = true then Out.ok (Dv.p (.bl (!PyData.eqv (.list [.str w]) (.list [.str z])))) S else .bad) = _
    rw [if_pos ⟨s1, s2⟩]
    show Out.ok (Dv.p (.bl (!((w == z) && true)))) S = Out.ok (Dv.p (.bl (!(some w == some z)))) S
    rw [Bool.and_true]
    rfl
theorem law_ticket_any {ps : List Str} (hp : ∀ w ∈ ps, WOK w) (hl : ps.length ≤ 1000000) : m_law_ticket_bad [.lst (ps.map DL.D.str)] = .ok (oD (tkBad ps)) := by
  have hb := hb39
  have f0 := fun S => ne_first hp (z := "ticket") (by decide +kernel) S
  have sl : ∀ (ρ : Nv) S, ρ[0]? = some (some (.p (.lst (ps.map DL.D.str)))) → dSl (dName 0) pNo (pAt (dC (.int 1))) ρ S = .ok (.p (.lst ((ps.take 1).map DL.D.str))) S := fun ρ S h => by
    have e : DL.cutD (ps.map DL.D.str) none (some 1) = (ps.take 1).map DL.D.str := by
      unfold DL.cutD
      rw [show HT.sIx (ps.map DL.D.str).length 0 none = 0 from rfl, show HT.sIx (ps.map DL.D.str).length (ps.map DL.D.str).length (some 1) = min 1 (ps.map DL.D.str).length from HT.sIx_nat _ _ 1, List.drop_zero, Nat.sub_zero, List.map_take]
      cases ps with
      | nil => rfl
      | cons w r => rfl
    rw [← e]
    unfold dSl
    rw [e_name, h]
    rfl
  have w1 : ∀ S, oPow (.p (.int 10)) (.p (.int 6)) S = .ok (.p (.int 1000000)) S := fun S => rfl
  have it : ∀ S, iRng2 (dC (.int 1)) (dC (.int 6)) [some (.p (.lst (ps.map DL.D.str))), some (.p (.lst [.int 1000000, .int 1000000])), none, none, none] S = .ok (rngD 1 5) S := fun S => rfl
  have nl : ∀ S, nLen [.p (.lst (ps.map DL.D.str))] S = .ok (.p (.int (ps.length : Nat))) S := fun S => by rw [nLen_lst, List.length_map]
  have t1 := fun x3 x4 => tb_turn hp (k := 1) (lo := 1) (hi := 1000000) (x3 := x3) (x4 := x4) (S := []) (by omega) (by omega) (by kernel_rfl) (fun _ _ => by kernel_rfl)
  have t2 := fun x3 x4 => tb_turn hp (k := 2) (lo := 1) (hi := 1000000) (x3 := x3) (x4 := x4) (S := []) (by omega) (by omega) (by kernel_rfl) (fun _ _ => by kernel_rfl)
  have t5 := fun x3 x4 => tb_turn hp (k := 5) (lo := 1) (hi := 1000000000000000000000000000000) (x3 := x3) (x4 := x4) (S := []) (by omega) (by omega) (by kernel_rfl) (fun _ _ => by kernel_rfl)
  have r5 : rngD 1 5 = [.int 1, .int 2, .int 3, .int 4, .int 5] := by kernel_rfl
  have fin1 : (ps[0]? == some ("ticket" : Str)) = true → ∀ b : Nat, forL (gN 2) (sSeq (sSet 3 (dIf (cVal (dBin (oInS false) (dName 2) (dTup (aCons (dC (.int 3)) (aCons (dC (.int 4)) aNil))))) (dC (.int 0)) (dC (.int 1)))) (sSeq (sSet 4 (dIf (cVal (dBin oLt (dName 2) (dC (.int 3)))) (dBin oIx (dName 1) (dBin oSub (dName 2) (dC (.int 1)))) (dIf (cVal (dBin oLt (dName 2) (dC (.int 5)))) (dBin oSub (dCall nIntS (aCons (dBin oIx (dName 0) (dBin oSub (dName 2) (dC (.int 2)))) aNil)) (dC (.int 1))) (dBin oPow (dC (.int 10)) (dC (.int 30)))))) (sIf (cOr (cVal (dBin oLe (dCall nLen (aCons (dName 0) aNil)) (dName 2))) (cNot (cVal (dCallP m_law_is_figures (aCons (dBin oIx (dName 0) (dName 2)) (aCons (dName 3) (aCons (dName 4) aNil))))))) (sRet (dBin oAdd (dName 2) (dC (.int 1)))) sNil))) (rngD 1 5) (TB' ps) [] = .ok (.rt (.p (.int (b : Nat)))) [] → m_law_ticket_bad [.lst (ps.map DL.D.str)] = .ok (.int (b : Nat)) := fun c0 b e => by
    rw [c0] at f0
    unfold TB' at e
    unfold m_law_ticket_bad runP b_law_ticket_bad init
    generalize (sSeq (sSet 3 (dIf (cVal (dBin (oInS false) (dName 2) (dTup (aCons (dC (.int 3)) (aCons (dC (.int 4)) aNil))))) (dC (.int 0)) (dC (.int 1)))) (sSeq (sSet 4 (dIf (cVal (dBin oLt (dName 2) (dC (.int 3)))) (dBin oIx (dName 1) (dBin oSub (dName 2) (dC (.int 1)))) (dIf (cVal (dBin oLt (dName 2) (dC (.int 5)))) (dBin oSub (dCall nIntS (aCons (dBin oIx (dName 0) (dBin oSub (dName 2) (dC (.int 2)))) aNil)) (dC (.int 1))) (dBin oPow (dC (.int 10)) (dC (.int 30)))))) (sIf (cOr (cVal (dBin oLe (dCall nLen (aCons (dName 0) aNil)) (dName 2))) (cNot (cVal (dCallP m_law_is_figures (aCons (dBin oIx (dName 0) (dName 2)) (aCons (dName 3) (aCons (dName 4) aNil))))))) (sRet (dBin oAdd (dName 2) (dC (.int 1)))) sNil))) = BD at e ⊢
    generalize rngD 1 5 = R5 at e it
    simp only [e_seq, e_seq_nx, e_seq_rt, e_seq_ite, e_bind, e_bind_ite, e_toS, e_toS_ite, e_set, e_ret, e_expr, e_nil, e_if, e_name, e_C, e_bin, e_un, e_ifx, e_aNil, e_aCons, e_call, e_cVal, e_cNot, e_cAnd, e_cOr, e_and, e_or, e_not, e_add, e_sub, e_lt, e_le, e_gt, e_ge, e_neg, e_eqi, e_nei, e_isN, e_notN, e_partsE, e_ixT0, e_ixT1, e_ixT2, e_ixT3, e_ixT4, e_ixL0, e_ixL1, e_ixL2, e_ixL3, e_ixL4, e_callP, e_callE, e_allP, e_allP0, e_tup, e_lst, e_par, List.map_cons, List.map_nil, List.append_assoc, List.nil_append, List.cons_append, List.replicate, List.getElem?_cons_zero, List.getElem?_cons_succ, List.set_cons_zero, List.set_cons_succ, Option.map_some, if_true, if_false, Bool.false_eq_true, decide_eq_true_eq, List.length_cons, List.length_nil, bg0, bg1, bg2, bg3, bg4, bg5, bg6, bg7, bg8, bg9, bg10, bg11, bg12, bg13, bg14, sl, f0, Bool.not_true, w1, e_sFor, it, e]
  have fin2 : (ps[0]? == some ("ticket" : Str)) = true → ∀ k x3 x4, forL (gN 2) (sSeq (sSet 3 (dIf (cVal (dBin (oInS false) (dName 2) (dTup (aCons (dC (.int 3)) (aCons (dC (.int 4)) aNil))))) (dC (.int 0)) (dC (.int 1)))) (sSeq (sSet 4 (dIf (cVal (dBin oLt (dName 2) (dC (.int 3)))) (dBin oIx (dName 1) (dBin oSub (dName 2) (dC (.int 1)))) (dIf (cVal (dBin oLt (dName 2) (dC (.int 5)))) (dBin oSub (dCall nIntS (aCons (dBin oIx (dName 0) (dBin oSub (dName 2) (dC (.int 2)))) aNil)) (dC (.int 1))) (dBin oPow (dC (.int 10)) (dC (.int 30)))))) (sIf (cOr (cVal (dBin oLe (dCall nLen (aCons (dName 0) aNil)) (dName 2))) (cNot (cVal (dCallP m_law_is_figures (aCons (dBin oIx (dName 0) (dName 2)) (aCons (dName 3) (aCons (dName 4) aNil))))))) (sRet (dBin oAdd (dName 2) (dC (.int 1)))) sNil))) (rngD 1 5) (TB' ps) [] = .ok (.nx (TB ps k x3 x4)) [] → m_law_ticket_bad [.lst (ps.map DL.D.str)] = .ok (oD (if 6 < ps.length then some 7 else none)) := fun c0 k x3 x4 e => by
    rw [c0] at f0
    unfold TB' TB at e
    unfold m_law_ticket_bad runP b_law_ticket_bad init
    generalize (sSeq (sSet 3 (dIf (cVal (dBin (oInS false) (dName 2) (dTup (aCons (dC (.int 3)) (aCons (dC (.int 4)) aNil))))) (dC (.int 0)) (dC (.int 1)))) (sSeq (sSet 4 (dIf (cVal (dBin oLt (dName 2) (dC (.int 3)))) (dBin oIx (dName 1) (dBin oSub (dName 2) (dC (.int 1)))) (dIf (cVal (dBin oLt (dName 2) (dC (.int 5)))) (dBin oSub (dCall nIntS (aCons (dBin oIx (dName 0) (dBin oSub (dName 2) (dC (.int 2)))) aNil)) (dC (.int 1))) (dBin oPow (dC (.int 10)) (dC (.int 30)))))) (sIf (cOr (cVal (dBin oLe (dCall nLen (aCons (dName 0) aNil)) (dName 2))) (cNot (cVal (dCallP m_law_is_figures (aCons (dBin oIx (dName 0) (dName 2)) (aCons (dName 3) (aCons (dName 4) aNil))))))) (sRet (dBin oAdd (dName 2) (dC (.int 1)))) sNil))) = BD at e ⊢
    generalize rngD 1 5 = R5 at e it
    by_cases h6 : 6 < ps.length
    · have g1 : decide ((6 : Int) < (ps.length : Int)) = true := decide_eq_true (by omega)
      rw [if_pos h6]
      simp only [e_seq, e_seq_nx, e_seq_rt, e_seq_ite, e_bind, e_bind_ite, e_toS, e_toS_ite, e_set, e_ret, e_expr, e_nil, e_if, e_name, e_C, e_bin, e_un, e_ifx, e_aNil, e_aCons, e_call, e_cVal, e_cNot, e_cAnd, e_cOr, e_and, e_or, e_not, e_add, e_sub, e_lt, e_le, e_gt, e_ge, e_neg, e_eqi, e_nei, e_isN, e_notN, e_partsE, e_ixT0, e_ixT1, e_ixT2, e_ixT3, e_ixT4, e_ixL0, e_ixL1, e_ixL2, e_ixL3, e_ixL4, e_callP, e_callE, e_allP, e_allP0, e_tup, e_lst, e_par, List.map_cons, List.map_nil, List.append_assoc, List.nil_append, List.cons_append, List.replicate, List.getElem?_cons_zero, List.getElem?_cons_succ, List.set_cons_zero, List.set_cons_succ, Option.map_some, if_true, if_false, Bool.false_eq_true, decide_eq_true_eq, List.length_cons, List.length_nil, bg0, bg1, bg2, bg3, bg4, bg5, bg6, bg7, bg8, bg9, bg10, bg11, bg12, bg13, bg14, sl, f0, Bool.not_true, w1, e_sFor, it, e, nl, g1]
      rfl
    · have g1 : decide ((6 : Int) < (ps.length : Int)) = false := decide_eq_false (by omega)
      rw [if_neg h6]
      simp only [e_seq, e_seq_nx, e_seq_rt, e_seq_ite, e_bind, e_bind_ite, e_toS, e_toS_ite, e_set, e_ret, e_expr, e_nil, e_if, e_name, e_C, e_bin, e_un, e_ifx, e_aNil, e_aCons, e_call, e_cVal, e_cNot, e_cAnd, e_cOr, e_and, e_or, e_not, e_add, e_sub, e_lt, e_le, e_gt, e_ge, e_neg, e_eqi, e_nei, e_isN, e_notN, e_partsE, e_ixT0, e_ixT1, e_ixT2, e_ixT3, e_ixT4, e_ixL0, e_ixL1, e_ixL2, e_ixL3, e_ixL4, e_callP, e_callE, e_allP, e_allP0, e_tup, e_lst, e_par, List.map_cons, List.map_nil, List.append_assoc, List.nil_append, List.cons_append, List.replicate, List.getElem?_cons_zero, List.getElem?_cons_succ, List.set_cons_zero, List.set_cons_succ, Option.map_some, if_true, if_false, Bool.false_eq_true, decide_eq_true_eq, List.length_cons, List.length_nil, bg0, bg1, bg2, bg3, bg4, bg5, bg6, bg7, bg8, bg9, bg10, bg11, bg12, bg13, bg14, sl, f0, Bool.not_true, w1, e_sFor, it, e, nl, g1]
      rfl
  unfold tkBad
  split
  · rename_i c0
    rw [c0] at f0
    unfold m_law_ticket_bad runP b_law_ticket_bad init
    simp only [e_seq, e_seq_nx, e_seq_rt, e_seq_ite, e_bind, e_bind_ite, e_toS, e_toS_ite, e_set, e_ret, e_expr, e_nil, e_if, e_name, e_C, e_bin, e_un, e_ifx, e_aNil, e_aCons, e_call, e_cVal, e_cNot, e_cAnd, e_cOr, e_and, e_or, e_not, e_add, e_sub, e_lt, e_le, e_gt, e_ge, e_neg, e_eqi, e_nei, e_isN, e_notN, e_partsE, e_ixT0, e_ixT1, e_ixT2, e_ixT3, e_ixT4, e_ixL0, e_ixL1, e_ixL2, e_ixL3, e_ixL4, e_callP, e_callE, e_allP, e_allP0, e_tup, e_lst, e_par, List.map_cons, List.map_nil, List.append_assoc, List.nil_append, List.cons_append, List.replicate, List.getElem?_cons_zero, List.getElem?_cons_succ, List.set_cons_zero, List.set_cons_succ, Option.map_some, if_true, if_false, Bool.false_eq_true, decide_eq_true_eq, List.length_cons, List.length_nil, bg0, bg1, bg2, bg3, bg4, bg5, bg6, bg7, bg8, bg9, bg10, bg11, bg12, bg13, bg14, sl, f0, Bool.not_false]
    rfl
  rename_i c0
  have c0 : (ps[0]? == some ("ticket" : Str)) = true := by simpa using c0
  have g1 : ∀ d : Int, gN 2 (.p (.int d)) (TB' ps) = some (TB ps d none none) := fun _ => rfl
  have gk : ∀ (d k : Int) x3 x4, gN 2 (.p (.int d)) (TB ps k x3 x4) = some (TB ps d x3 x4) := fun _ _ _ _ => rfl
  rw [r5] at fin1 fin2
  split
  · rename_i c1
    have t1 := t1 none none
    rw [c1, if_neg (by decide)] at t1
    exact fin1 c0 2 (forL_rt (g1 1) t1)
  rename_i c1
  have c1 : okN ps 1 1 1000000 = true := by simpa using c1
  obtain ⟨a1, b1, v1⟩ := okN_in hp (by omega) c1
  have t1 := t1 none none
  rw [c1, if_pos rfl] at t1
  rw [forL_nx (g1 1) t1] at fin1 fin2
  split
  · rename_i c2
    have t2 := t2 (some (.p (.int 1))) (some (.p (.int 1000000)))
    rw [c2, if_neg (by decide)] at t2
    exact fin1 c0 3 (forL_rt (gk 2 _ _ _) t2)
  rename_i c2
  have c2 : okN ps 2 1 1000000 = true := by simpa using c2
  obtain ⟨a2, b2, v2⟩ := okN_in hp (by omega) c2
  have t2 := t2 (some (.p (.int 1))) (some (.p (.int 1000000)))
  rw [c2, if_pos rfl] at t2
  rw [forL_nx (gk 2 _ _ _) t2] at fin1 fin2
  have x1 : ∀ S, oIx (.p (.lst (ps.map DL.D.str))) (.p (.int 1)) S = .ok (.p (.str (ps[1]'(okN_lt c1)))) S := fun S => e_ixL 1 (by rw [List.getElem?_map, List.getElem?_eq_getElem (okN_lt c1)]; rfl)
  have x2 : ∀ S, oIx (.p (.lst (ps.map DL.D.str))) (.p (.int 2)) S = .ok (.p (.str (ps[2]'(okN_lt c2)))) S := fun S => e_ixL 2 (by rw [List.getElem?_map, List.getElem?_eq_getElem (okN_lt c2)]; rfl)
  have t3 := fun x3 x4 => tb_turn hp (k := 3) (lo := 0) (hi := vN ps 1 - 1) (x3 := x3) (x4 := x4) (S := []) (by omega) (by omega) (by kernel_rfl) (fun y3 y4 => by
    unfold TB
    have d1 : decide (((3 : Nat) : Int) < 3) = false := rfl
    have d2 : decide (((3 : Nat) : Int) < 5) = true := rfl
    have d3 : ((3 : Nat) : Int) - 2 = 1 := rfl
    simp only [e_seq, e_seq_nx, e_seq_rt, e_seq_ite, e_bind, e_bind_ite, e_toS, e_toS_ite, e_set, e_ret, e_expr, e_nil, e_if, e_name, e_C, e_bin, e_un, e_ifx, e_aNil, e_aCons, e_call, e_cVal, e_cNot, e_cAnd, e_cOr, e_and, e_or, e_not, e_add, e_sub, e_lt, e_le, e_gt, e_ge, e_neg, e_eqi, e_nei, e_isN, e_notN, e_partsE, e_ixT0, e_ixT1, e_ixT2, e_ixT3, e_ixT4, e_ixL0, e_ixL1, e_ixL2, e_ixL3, e_ixL4, e_callP, e_callE, e_allP, e_allP0, e_tup, e_lst, e_par, List.map_cons, List.map_nil, List.append_assoc, List.nil_append, List.cons_append, List.replicate, List.getElem?_cons_zero, List.getElem?_cons_succ, List.set_cons_zero, List.set_cons_succ, Option.map_some, if_true, if_false, Bool.false_eq_true, decide_eq_true_eq, List.length_cons, List.length_nil, bg0, bg1, bg2, bg3, bg4, bg5, bg6, bg7, bg8, bg9, bg10, bg11, bg12, bg13, bg14, d1, d2, d3, x1, v1])
  have t4 := fun x3 x4 => tb_turn hp (k := 4) (lo := 0) (hi := vN ps 2 - 1) (x3 := x3) (x4 := x4) (S := []) (by omega) (by omega) (by kernel_rfl) (fun y3 y4 => by
    unfold TB
    have d1 : decide (((4 : Nat) : Int) < 3) = false := rfl
    have d2 : decide (((4 : Nat) : Int) < 5) = true := rfl
    have d3 : ((4 : Nat) : Int) - 2 = 2 := rfl
    simp only [e_seq, e_seq_nx, e_seq_rt, e_seq_ite, e_bind, e_bind_ite, e_toS, e_toS_ite, e_set, e_ret, e_expr, e_nil, e_if, e_name, e_C, e_bin, e_un, e_ifx, e_aNil, e_aCons, e_call, e_cVal, e_cNot, e_cAnd, e_cOr, e_and, e_or, e_not, e_add, e_sub, e_lt, e_le, e_gt, e_ge, e_neg, e_eqi, e_nei, e_isN, e_notN, e_partsE, e_ixT0, e_ixT1, e_ixT2, e_ixT3, e_ixT4, e_ixL0, e_ixL1, e_ixL2, e_ixL3, e_ixL4, e_callP, e_callE, e_allP, e_allP0, e_tup, e_lst, e_par, List.map_cons, List.map_nil, List.append_assoc, List.nil_append, List.cons_append, List.replicate, List.getElem?_cons_zero, List.getElem?_cons_succ, List.set_cons_zero, List.set_cons_succ, Option.map_some, if_true, if_false, Bool.false_eq_true, decide_eq_true_eq, List.length_cons, List.length_nil, bg0, bg1, bg2, bg3, bg4, bg5, bg6, bg7, bg8, bg9, bg10, bg11, bg12, bg13, bg14, d1, d2, d3, x2, v2])
  split
  · rename_i c3
    have t3 := t3 (some (.p (.int 1))) (some (.p (.int 1000000)))
    rw [c3, if_neg (by decide)] at t3
    exact fin1 c0 4 (forL_rt (gk 3 _ _ _) t3)
  rename_i c3
  have c3 : okN ps 3 0 (vN ps 1 - 1) = true := by simpa using c3
  have t3 := t3 (some (.p (.int 1))) (some (.p (.int 1000000)))
  rw [c3, if_pos rfl] at t3
  rw [forL_nx (gk 3 _ _ _) t3] at fin1 fin2
  split
  · rename_i c4
    have t4 := t4 (some (.p (.int 0))) (some (.p (.int (vN ps 1 - 1))))
    rw [c4, if_neg (by decide)] at t4
    exact fin1 c0 5 (forL_rt (gk 4 _ _ _) t4)
  rename_i c4
  have c4 : okN ps 4 0 (vN ps 2 - 1) = true := by simpa using c4
  have t4 := t4 (some (.p (.int 0))) (some (.p (.int (vN ps 1 - 1))))
  rw [c4, if_pos rfl] at t4
  rw [forL_nx (gk 4 _ _ _) t4] at fin1 fin2
  split
  · rename_i c5
    have t5 := t5 (some (.p (.int 0))) (some (.p (.int (vN ps 2 - 1))))
    rw [c5, if_neg (by decide)] at t5
    exact fin1 c0 6 (forL_rt (gk 5 _ _ _) t5)
  rename_i c5
  have c5 : okN ps 5 1 1000000000000000000000000000000 = true := by simpa using c5
  have t5 := t5 (some (.p (.int 0))) (some (.p (.int (vN ps 2 - 1))))
  rw [c5, if_pos rfl] at t5
  rw [forL_nx (gk 5 _ _ _) t5] at fin2
  exact fin2 c0 _ _ _ rfl

/-! ### a rule's line -/
theorem Lset_app {S : Sto} {i : Nat} {a : Int} {ps : List DL.D} {k : Nat} {T : Sto} (h : i < S.length) : Lset (S ++ T) i a ps k = Lset S i a ps k ++ T := by
  unfold Lset
  rw [List.set_append_left _ _ h]
theorem Lset_len {S : Sto} {i : Nat} {a : Int} {ps : List DL.D} {k : Nat} : (Lset S i a ps k).length = S.length := by
  unfold Lset; rw [List.length_set]
theorem Lat.app {S T : Sto} {i : Nat} {a : Int} {ps : List DL.D} {k : Nat} (h : Lat S i a ps k) : Lat (S ++ T) i a ps k := by
  unfold Lat at h ⊢
  rw [List.getElem?_append_left (List.getElem?_eq_some_iff.mp h).1]; exact h
theorem at_end {S : Sto} {c : Cell} : (S ++ [c])[S.length]? = some c := by
  rw [List.getElem?_append_right (Nat.le_refl _), Nat.sub_self]; rfl
theorem set_end {S : Sto} {c d : Cell} : (S ++ [c]).set S.length d = S ++ [d] := by
  rw [List.set_append_right _ _ (Nat.le_refl _), Nat.sub_self]; rfl
def valsOf (p : Str) : List Str := if p == "start" then ["left", "middle", "right"] else if p == "rows" then ["anew", "on"] else if p == "ways" then ["fro", "same"] else if p == "kind" then ["always", "once"] else [nw 0, nw 2, nw 3, nw 4, nw 5, nw 6, nw 7, nw 8, nw 9, nw 10, nw 11, nw 12, nw 13]
theorem vals_comp {p : Str} (hp : p ∈ (["start", "rows", "ways", "out", "kind"] : List Str)) {x0 x1 x3 x4 : Option Dv} {S : Sto} : dComp [4] (iSeq (dCallP m_values_of (aCons (dName 2) aNil))) (gN 4) cYes (dCall nStr (aCons (dName 4) aNil)) [x0, x1, some (.p (.str p)), x3, x4] S = .ok (.p (.lst ((valsOf p).map DL.D.str))) S := by
  simp only [List.mem_cons, List.not_mem_nil, or_false] at hp
  rcases hp with rfl | rfl | rfl | rfl | rfl <;> kernel_rfl
theorem e_app_end {ef : Ef} {ρ : Nv} {S : Sto} {ds : List DL.D} {d : DL.D} (h : ρ[1]? = some (some (.hnd S.length))) (he : ef ρ (S ++ [.lst ds]) = .ok (.p d) (S ++ [.lst ds])) (hl : ds.length < 100) : dApp (dName 1) ef ρ (S ++ [.lst ds]) = .ok (.p .non) (S ++ [.lst (ds ++ [d])]) := by
  unfold dApp
  rw [e_name, h]
  show (match (S ++ [Cell.lst ds])[S.length]? with | some (.lst _) => (ef ρ (S ++ [Cell.lst ds])).bind fun d S2 => (match d, S2[S.length]? with | .p d', some (.lst ds) => (if ds.length < big then Out.ok (Dv.p .non) (S2.set S.length (.lst (ds ++ [d']))) else .bad) | _, _ => .bad) | _ => .bad) = _
  rw [at_end]
  dsimp only
  rw [he]
  rw [e_bind, at_end]
  dsimp only
  rw [if_pos (by unfold big; omega), set_end]
/-- one point's turn -/
def rlE (i n : Nat) (p : Str) (x3 x4 : Option Dv) : Nv := [some (.hnd i), some (.hnd n), some (.p (.str p)), x3, x4]
abbrev rlB : Sf := (sSeq (sSet 3 (dMethO "take" m_Line_take (dName 0) (aCons (dComp [4] (iSeq (dCallP m_values_of (aCons (dName 2) aNil))) (gN 4) cYes (dCall nStr (aCons (dName 4) aNil))) aNil))) (sExpr (dApp (dName 1) (dIf (cVal (dBin oEq (dName 2) (dC (.str "out")))) (dCall nIntS (aCons (dName 3) aNil)) (dName 3)))))
theorem rl_turn {S : Sto} {i k : Nat} {a : Int} {ps ds : List DL.D} {p w : Str} {d : DL.D} {x3 x4 : Option Dv} (h : Lat S i a ps k) (hp : p ∈ (["start", "rows", "ways", "out", "kind"] : List Str)) (hw : ps[k]? = some (.str w)) (hm : w ∈ valsOf p)
    (hd : ∀ ρ : Nv, ρ[2]? = some (some (.p (.str p))) → ρ[3]? = some (some (.p (.str w))) → ∀ S, dIf (cVal (dBin oEq (dName 2) (dC (.str "out")))) (dCall nIntS (aCons (dName 3) aNil)) (dName 3) ρ S = .ok (.p d) S) (hl : ds.length < 100) :
    rlB (rlE i S.length p x3 x4) (S ++ [.lst ds]) = .ok (.nx (rlE i S.length p (some (.p (.str w))) x4)) (Lset S i a ps (k + 1) ++ [.lst (ds ++ [d])]) := by
  have io := insOf_at (show (S ++ [Cell.lst ds])[i]? = _ from h.app)
  have q0 := take_eq (S := S ++ [.lst ds]) h.app hw (c := .lst ((valsOf p).map DL.D.str)) (.inl rfl) hm
  rw [Lset_app h.lt] at q0
  have q1 : dMethO "take" m_Line_take (dName 0) (aCons (dComp [4] (iSeq (dCallP m_values_of (aCons (dName 2) aNil))) (gN 4) cYes (dCall nStr (aCons (dName 4) aNil))) aNil) (rlE i S.length p x3 x4) (S ++ [.lst ds]) = .ok (.p (.str w)) (Lset S i a ps (k + 1) ++ [.lst ds]) := by
    refine (e_methO (i := i) (fs := lineF a ps k) (xs := [.p (.lst ((valsOf p).map DL.D.str))]) (S2 := S ++ [.lst ds]) rfl h.app lk_take ?_).trans q0
    simp only [e_aCons, e_aNil, rlE, vals_comp hp, e_bind]
  have q2 := e_app_end (S := Lset S i a ps (k + 1)) (ds := ds) (ρ := rlE i S.length p (some (.p (.str w))) x4) (by rw [Lset_len]; rfl) (hd (rlE i S.length p (some (.p (.str w))) x4) rfl rfl _) hl
  unfold rlB
  rw [e_seq, e_set, q1]
  show OS.seq (OS.ok (.nx (rlE i S.length p (some (.p (.str w))) x4)) _) _ = _
  rw [e_seq_nx, e_expr, q2]
  rfl
theorem not_out {p w : Str} (h : (p == "out") = false) (hk : PyData.strOk p = true) : ∀ ρ : Nv, ρ[2]? = some (some (.p (.str p))) → ρ[3]? = some (some (.p (.str w))) → ∀ S, dIf (cVal (dBin oEq (dName 2) (dC (.str "out")))) (dCall nIntS (aCons (dName 3) aNil)) (dName 3) ρ S = .ok (.p (.str w)) S := fun ρ h2 h3 S => by
  have e1 := e_eqs (S := S) hk (show PyData.strOk ("out" : Str) = true by decide +kernel)
  simp only [e_seq, e_seq_nx, e_seq_rt, e_seq_ite, e_bind, e_bind_ite, e_toS, e_toS_ite, e_set, e_ret, e_expr, e_nil, e_if, e_name, e_C, e_bin, e_un, e_ifx, e_aNil, e_aCons, e_call, e_cVal, e_cNot, e_cAnd, e_cOr, e_and, e_or, e_not, e_add, e_sub, e_lt, e_le, e_gt, e_ge, e_neg, e_eqi, e_nei, e_isN, e_notN, e_partsE, e_ixT0, e_ixT1, e_ixT2, e_ixT3, e_ixT4, e_ixL0, e_ixL1, e_ixL2, e_ixL3, e_ixL4, e_callP, e_callE, e_allP, e_allP0, e_tup, e_lst, e_par, List.map_cons, List.map_nil, List.append_assoc, List.nil_append, List.cons_append, List.replicate, List.getElem?_cons_zero, List.getElem?_cons_succ, List.set_cons_zero, List.set_cons_succ, Option.map_some, if_true, if_false, Bool.false_eq_true, decide_eq_true_eq, List.length_cons, List.length_nil, bg0, bg1, bg2, bg3, bg4, bg5, bg6, bg7, bg8, bg9, bg10, bg11, bg12, bg13, bg14, h2, h3, e1, h]
theorem is_out_w {o : Int} (h0 : 0 ≤ o) (h1 : o < 100) : ∀ ρ : Nv, ρ[2]? = some (some (.p (.str "out"))) → ρ[3]? = some (some (.p (.str (nw o)))) → ∀ S, dIf (cVal (dBin oEq (dName 2) (dC (.str "out")))) (dCall nIntS (aCons (dName 3) aNil)) (dName 3) ρ S = .ok (.p (.int o)) S := fun ρ h2 h3 S => by
  have e1 := e_eqs (S := S) (show PyData.strOk ("out" : Str) = true by decide +kernel) (show PyData.strOk ("out" : Str) = true by decide +kernel)
  have hl : (nw o).length ≤ 640 := by
    have := nw_len (k := 2) h0 (by decide) (by omega)
    omega
  have e8 : ∀ S, nIntS [.p (.str (nw o))] S = .ok (.p (.int o)) S := fun S => by
    unfold nIntS
    dsimp only
    rw [nw_int h0 hl]
    dsimp only
    rw [if_pos hl]
  simp only [e_seq, e_seq_nx, e_seq_rt, e_seq_ite, e_bind, e_bind_ite, e_toS, e_toS_ite, e_set, e_ret, e_expr, e_nil, e_if, e_name, e_C, e_bin, e_un, e_ifx, e_aNil, e_aCons, e_call, e_cVal, e_cNot, e_cAnd, e_cOr, e_and, e_or, e_not, e_add, e_sub, e_lt, e_le, e_gt, e_ge, e_neg, e_eqi, e_nei, e_isN, e_notN, e_partsE, e_ixT0, e_ixT1, e_ixT2, e_ixT3, e_ixT4, e_ixL0, e_ixL1, e_ixL2, e_ixL3, e_ixL4, e_callP, e_callE, e_allP, e_allP0, e_tup, e_lst, e_par, List.map_cons, List.map_nil, List.append_assoc, List.nil_append, List.cons_append, List.replicate, List.getElem?_cons_zero, List.getElem?_cons_succ, List.set_cons_zero, List.set_cons_succ, Option.map_some, if_true, if_false, Bool.false_eq_true, decide_eq_true_eq, List.length_cons, List.length_nil, bg0, bg1, bg2, bg3, bg4, bg5, bg6, bg7, bg8, bg9, bg10, bg11, bg12, bg13, bg14, h2, h3, e1, beq_self_eq_true, e8]
theorem rule_in_eq {S : Sto} {i : Nat} {a : Int} {r : Ru} (hr : r.ok) (h : Lat S i a ((rlW r).map DL.D.str) 0) : m_rule_in [.hnd i] S = .ok (.p (.rul (ruD r))) (Lset S i a ((rlW r).map DL.D.str) 6 ++ [.dead]) := by
  have hi := init_eq hr
  have ho : 0 ≤ r.o ∧ r.o < 100 := by have := hr.ho; unfold okO at this; omega
  generalize hps : (rlW r).map DL.D.str = ps at h ⊢
  have p0 : ps[0]? = some (.str "rule") := by rw [← hps]; rfl
  have p1 : ps[1]? = some (.str r.s) := by rw [← hps]; rfl
  have p2 : ps[2]? = some (.str r.r) := by rw [← hps]; rfl
  have p3 : ps[3]? = some (.str r.w) := by rw [← hps]; rfl
  have p4 : ps[4]? = some (.str (nw r.o)) := by rw [← hps]; rfl
  have p5 : ps[5]? = some (.str r.k) := by rw [← hps]; rfl
  have pl : ps.length = 6 := by rw [← hps]; rfl
  have ln : ∀ k, (Lset S i a ps k).length = S.length := fun k => Lset_len
  have io0 := insOf_at (show S[i]? = _ from h)
  have q0 := take_eq h p0 (c := .tup [.str "rule"]) (ws := ["rule"]) (.inr rfl) (by simp)
  have m1 : r.s ∈ valsOf "start" := by
    have e : valsOf "start" = (["left", "middle", "right"] : List Str) := by kernel_rfl
    rw [e]; rcases hr.hs with e | e | e <;> rw [e] <;> simp
  have m2 : r.r ∈ valsOf "rows" := by
    have e : valsOf "rows" = (["anew", "on"] : List Str) := by kernel_rfl
    rw [e]; rcases hr.hr with e | e <;> rw [e] <;> simp
  have m3 : r.w ∈ valsOf "ways" := by
    have e : valsOf "ways" = (["fro", "same"] : List Str) := by kernel_rfl
    rw [e]; rcases hr.hw with e | e <;> rw [e] <;> simp
  have m5 : r.k ∈ valsOf "kind" := by
    have e : valsOf "kind" = (["always", "once"] : List Str) := by kernel_rfl
    rw [e]; rcases hr.hk with e | e <;> rw [e] <;> simp
  have m4 : nw r.o ∈ valsOf "out" := by
    have e : valsOf "out" = [nw 0, nw 2, nw 3, nw 4, nw 5, nw 6, nw 7, nw 8, nw 9, nw 10, nw 11, nw 12, nw 13] := by kernel_rfl
    rw [e]
    rcases okO_cases hr.ho with e | e | e | e | e | e | e | e | e | e | e | e | e <;> rw [e] <;> simp
  have t1 := fun x3 x4 => rl_turn (x3 := x3) (x4 := x4) (ds := []) (p := "start") (h.put (j := 1)) (by simp) p1 m1 (not_out (by decide +kernel) (by decide +kernel)) (by decide)
  have t2 := fun x3 x4 => rl_turn (x3 := x3) (x4 := x4) (ds := [.str r.s]) (p := "rows") (h.put (j := 2)) (by simp) p2 m2 (not_out (by decide +kernel) (by decide +kernel)) (by show 1 < 100; decide)
  have t3 := fun x3 x4 => rl_turn (x3 := x3) (x4 := x4) (ds := [.str r.s, .str r.r]) (p := "ways") (h.put (j := 3)) (by simp) p3 m3 (not_out (by decide +kernel) (by decide +kernel)) (by show 2 < 100; decide)
  have t4 := fun x3 x4 => rl_turn (x3 := x3) (x4 := x4) (ds := [.str r.s, .str r.r, .str r.w]) (p := "out") (h.put (j := 4)) (by simp) p4 m4 (is_out_w ho.1 ho.2) (by show 3 < 100; decide)
  have t5 := fun x3 x4 => rl_turn (x3 := x3) (x4 := x4) (ds := [.str r.s, .str r.r, .str r.w, .int r.o]) (p := "kind") (h.put (j := 5)) (by simp) p5 m5 (not_out (by decide +kernel) (by decide +kernel)) (by show 4 < 100; decide)
  simp only [Lset.two, ln, List.nil_append, List.cons_append, rlE] at t1 t2 t3 t4 t5
  have q6 := finish_eq (ps := ps) (a := a) (S := Lset S i a ps 6 ++ [.lst (ruD r)]) (i := i) (by rw [pl]; exact h.put.app)
  have io6 := insOf_at (show (Lset S i a ps 6 ++ [Cell.lst (ruD r)])[i]? = _ from (h.put (j := 6)).app)
  have loop : forL (gN 2) rlB t_POINTS [some (.hnd i), some (.hnd S.length), none, none, none] (Lset S i a ps 1 ++ [.lst []]) = .ok (.nx [some (.hnd i), some (.hnd S.length), some (.p (.str "kind")), some (.p (.str r.k)), none]) (Lset S i a ps 6 ++ [.lst (ruD r)]) := by
    unfold t_POINTS
    simp only [forL, gN, List.set_cons_zero, List.set_cons_succ, t1, t2, t3, t4, t5]
    rfl
  have eL : ∀ ρ : Nv, dLstC aNil ρ (Lset S i a ps 1) = .ok (.hnd S.length) (Lset S i a ps 1 ++ [.lst []]) := fun ρ => by
    rw [show dLstC aNil ρ (Lset S i a ps 1) = .ok (.hnd (Lset S i a ps 1).length) (Lset S i a ps 1 ++ [.lst []]) from rfl, ln]
  have eI : iSeq (dC (.tup t_POINTS)) [some (.hnd i), some (.hnd S.length), none, none, none] (Lset S i a ps 1 ++ [.lst []]) = .ok t_POINTS (Lset S i a ps 1 ++ [.lst []]) := rfl
  have ae := at_end (S := Lset S i a ps 6) (c := .lst (ruD r))
  have se := set_end (S := Lset S i a ps 6) (c := .lst (ruD r)) (d := .dead)
  rw [ln] at ae se
  have eM : ∀ (ρ : Nv) (S : Sto), ρ[1]? = some (some (.p (.lst (ruD r)))) → dMakeS 5 m_Rule_init (dName 1) ρ S = .ok (.p (.rul (ruD r))) S := fun ρ S h1 => by
    unfold dMakeS
    rw [e_name, h1]
    show (if (ruD r).length = 5 then makeOf m_Rule_init (ruD r) S else .bad) = _
    rw [if_pos (show (ruD r).length = 5 from rfl)]
    unfold makeOf
    rw [show (Dv.hnd 0 :: (ruD r).map Dv.p) = [.hnd 0, .p (.str r.s), .p (.str r.r), .p (.str r.w), .p (.int r.o), .p (.str r.k)] from rfl, hi]
    rfl
  have eF : ∀ (ρ : Nv), ρ[1]? = some (some (.hnd S.length)) → sFz 1 (sRet (dMakeS 5 m_Rule_init (dName 1))) ρ (Lset S i a ps 6 ++ [.lst (ruD r)]) = .ok (.rt (.p (.rul (ruD r)))) (Lset S i a ps 6 ++ [.dead]) := fun ρ h1 => by
    unfold sFz
    rw [h1]
    dsimp only
    rw [ae]
    dsimp only
    rw [se, e_ret, eM]
    · rfl
    · rw [List.getElem?_set_self (List.getElem?_eq_some_iff.mp h1).1]
  have loop' := loop
  simp only [rlB] at loop'
  simp only [m_rule_in, runE, init, b_rule_in, e_seq, e_seq_nx, e_seq_rt, e_seq_ite, e_bind, e_bind_ite, e_toS, e_toS_ite, e_set, e_ret, e_expr, e_nil, e_if, e_name, e_C, e_bin, e_un, e_ifx, e_aNil, e_aCons, e_call, e_cVal, e_cNot, e_cAnd, e_cOr, e_and, e_or, e_not, e_add, e_sub, e_lt, e_le, e_gt, e_ge, e_neg, e_eqi, e_nei, e_isN, e_notN, e_partsE, e_ixT0, e_ixT1, e_ixT2, e_ixT3, e_ixT4, e_ixL0, e_ixL1, e_ixL2, e_ixL3, e_ixL4, e_callP, e_callE, e_allP, e_allP0, e_tup, e_lst, e_par, List.map_cons, List.map_nil, List.append_assoc, List.nil_append, List.cons_append, List.replicate, List.getElem?_cons_zero, List.getElem?_cons_succ, List.set_cons_zero, List.set_cons_succ, Option.map_some, if_true, if_false, Bool.false_eq_true, decide_eq_true_eq, List.length_cons, List.length_nil, bg0, bg1, bg2, bg3, bg4, bg5, bg6, bg7, bg8, bg9, bg10, bg11, bg12, bg13, bg14, e_methOE, io0, lk_take, q0, eL, e_sFor, eI, loop', io6, lk_fin, q6, eF]

/-! ### a rule's line, any words -/
def inW (ps : List Str) (k : Nat) (ws : List Str) : Bool := match ps[k]? with
  | some w => decide (w ∈ ws)
  | none => false
def rlBad (ps : List Str) : Option Nat :=
  if inW ps 0 ["rule"] = false then some 1 else if inW ps 1 (valsOf "start") = false then some 2 else if inW ps 2 (valsOf "rows") = false then some 3 else
  if inW ps 3 (valsOf "ways") = false then some 4 else if inW ps 4 (valsOf "out") = false then some 5 else if inW ps 5 (valsOf "kind") = false then some 6 else if 6 < ps.length then some 7 else none
theorem inW_no {ps : List Str} {k : Nat} {ws : List Str} (h : inW ps k ws = false) : ∀ w, ps[k]? = some w → w ∉ ws := fun w hw => by
  unfold inW at h
  rw [hw] at h
  exact of_decide_eq_false h
theorem inW_yes {ps : List Str} {k : Nat} {ws : List Str} (h : inW ps k ws = true) : ∃ w, ps[k]? = some w ∧ w ∈ ws ∧ k < ps.length := by
  unfold inW at h
  split at h
  · rename_i w hw
    exact ⟨w, hw, of_decide_eq_true h, (List.getElem?_eq_some_iff.mp hw).1⟩
  · cases h
theorem rl_no {S : Sto} {i k : Nat} {a : Int} {ps : List Str} {ds : List DL.D} {p : Str} {x3 x4 : Option Dv} (h : Lat S i a (ps.map DL.D.str) k) (hk : k ≤ ps.length) (hp : p ∈ (["start", "rows", "ways", "out", "kind"] : List Str)) (hn : inW ps k (valsOf p) = false) :
    rlB (rlE i S.length p x3 x4) (S ++ [.lst ds]) = .exc (XT k a) (rlE i S.length p x3 x4) (S ++ [.lst ds]) := by
  have q0 := take_no (S := S ++ [.lst ds]) h.app hk (c := .lst ((valsOf p).map DL.D.str)) (.inl rfl) (inW_no hn)
  have q1 : dMethO "take" m_Line_take (dName 0) (aCons (dComp [4] (iSeq (dCallP m_values_of (aCons (dName 2) aNil))) (gN 4) cYes (dCall nStr (aCons (dName 4) aNil))) aNil) (rlE i S.length p x3 x4) (S ++ [.lst ds]) = .exc (XT k a) (S ++ [.lst ds]) := by
    refine (e_methO (i := i) (fs := lineF a (ps.map DL.D.str) k) (xs := [.p (.lst ((valsOf p).map DL.D.str))]) (S2 := S ++ [.lst ds]) rfl h.app lk_take ?_).trans q0
    simp only [e_aCons, e_aNil, rlE, vals_comp hp, e_bind]
  unfold rlB
  rw [e_seq, e_set, q1]
  rfl
theorem forL_exc {t : Tgt} {body : Sf} {d : DL.D} {ds : List DL.D} {ρ ρ1 ρ2 : Nv} {S S2 : Sto} {x : Ex} (h1 : t (.p d) ρ = some ρ1) (h2 : body ρ1 S = .exc x ρ2 S2) : forL t body (d :: ds) ρ S = .exc x ρ2 S2 := by
  unfold forL
  rw [h1]
  show (match body ρ1 S with | .ok (.nx ρ') S' => forL t body ds ρ' S' | .ok (.ct ρ') S' => forL t body ds ρ' S' | .ok (.bk ρ') S' => .ok (.nx ρ') S' | .ok (.rt d) S' => .ok (.rt d) S' | .exc x ρ' S' => .exc x ρ' S' | .bad => .bad) = _
  rw [h2]
def rl0 (i n : Nat) : Nv := [some (.hnd i), some (.hnd n), none, none, none]
/-- the loop over the points ends in a refusal -/
theorem rule_x {S : Sto} {i k : Nat} {a : Int} {ps : List Str} {ρ' : Nv} {S' : Sto} (h : Lat S i a (ps.map DL.D.str) 0) (w0 : ps[0]? = some ("rule" : Str))
    (e : forL (gN 2) rlB t_POINTS (rl0 i S.length) (Lset S i a (ps.map DL.D.str) 1 ++ [.lst []]) = .exc (XT k a) ρ' S') : m_rule_in [.hnd i] S = .exc (XT k a) S' := by
  have io0 := insOf_at (show S[i]? = _ from h)
  have q0 := take_eq h (w := ("rule" : Str)) (by rw [List.getElem?_map, w0]; rfl) (c := .tup [.str "rule"]) (ws := ["rule"]) (.inr rfl) (by simp)
  have ln : (Lset S i a (ps.map DL.D.str) 1).length = S.length := Lset_len
  have eL : ∀ ρ : Nv, dLstC aNil ρ (Lset S i a (ps.map DL.D.str) 1) = .ok (.hnd S.length) (Lset S i a (ps.map DL.D.str) 1 ++ [.lst []]) := fun ρ => by
    rw [show dLstC aNil ρ (Lset S i a (ps.map DL.D.str) 1) = .ok (.hnd (Lset S i a (ps.map DL.D.str) 1).length) (Lset S i a (ps.map DL.D.str) 1 ++ [.lst []]) from rfl, ln]
  have eI : iSeq (dC (.tup t_POINTS)) [some (.hnd i), some (.hnd S.length), none, none, none] (Lset S i a (ps.map DL.D.str) 1 ++ [.lst []]) = .ok t_POINTS (Lset S i a (ps.map DL.D.str) 1 ++ [.lst []]) := rfl
  unfold rl0 at e
  simp only [rlB] at e
  simp only [m_rule_in, runE, init, b_rule_in, e_seq, e_seq_nx, e_seq_rt, e_seq_ite, e_bind, e_bind_ite, e_toS, e_toS_ite, e_set, e_ret, e_expr, e_nil, e_if, e_name, e_C, e_bin, e_un, e_ifx, e_aNil, e_aCons, e_call, e_cVal, e_cNot, e_cAnd, e_cOr, e_and, e_or, e_not, e_add, e_sub, e_lt, e_le, e_gt, e_ge, e_neg, e_eqi, e_nei, e_isN, e_notN, e_partsE, e_ixT0, e_ixT1, e_ixT2, e_ixT3, e_ixT4, e_ixL0, e_ixL1, e_ixL2, e_ixL3, e_ixL4, e_callP, e_callE, e_allP, e_allP0, e_tup, e_lst, e_par, List.map_cons, List.map_nil, List.append_assoc, List.nil_append, List.cons_append, List.replicate, List.getElem?_cons_zero, List.getElem?_cons_succ, List.set_cons_zero, List.set_cons_succ, Option.map_some, if_true, if_false, Bool.false_eq_true, decide_eq_true_eq, List.length_cons, List.length_nil, bg0, bg1, bg2, bg3, bg4, bg5, bg6, bg7, bg8, bg9, bg10, bg11, bg12, bg13, bg14, e_methOE, io0, lk_take, q0, eL, e_sFor, eI, e]
  all_goals rfl
/-- .. or reads all points -/
theorem rule_y {S : Sto} {i : Nat} {a : Int} {ps : List Str} {r : Ru} {x2 x3 x4 : Option Dv} (hr : r.ok) (h : Lat S i a (ps.map DL.D.str) 0) (w0 : ps[0]? = some ("rule" : Str)) (l6 : 6 ≤ ps.length)
    (e : forL (gN 2) rlB t_POINTS (rl0 i S.length) (Lset S i a (ps.map DL.D.str) 1 ++ [.lst []]) = .ok (.nx [some (.hnd i), some (.hnd S.length), x2, x3, x4]) (Lset S i a (ps.map DL.D.str) 6 ++ [.lst (ruD r)])) :
    inR (if 6 < ps.length then some 7 else none) a (Lset S i a (ps.map DL.D.str) 6 ++ [.dead]) (m_rule_in [.hnd i] S) := by
  have hi := init_eq hr
  have io0 := insOf_at (show S[i]? = _ from h)
  have q0 := take_eq h (w := ("rule" : Str)) (by rw [List.getElem?_map, w0]; rfl) (c := .tup [.str "rule"]) (ws := ["rule"]) (.inr rfl) (by simp)
  have ln : ∀ k, (Lset S i a (ps.map DL.D.str) k).length = S.length := fun k => Lset_len
  have eL : ∀ ρ : Nv, dLstC aNil ρ (Lset S i a (ps.map DL.D.str) 1) = .ok (.hnd S.length) (Lset S i a (ps.map DL.D.str) 1 ++ [.lst []]) := fun ρ => by
    rw [show dLstC aNil ρ (Lset S i a (ps.map DL.D.str) 1) = .ok (.hnd (Lset S i a (ps.map DL.D.str) 1).length) (Lset S i a (ps.map DL.D.str) 1 ++ [.lst []]) from rfl, ln]
  have eI : iSeq (dC (.tup t_POINTS)) [some (.hnd i), some (.hnd S.length), none, none, none] (Lset S i a (ps.map DL.D.str) 1 ++ [.lst []]) = .ok t_POINTS (Lset S i a (ps.map DL.D.str) 1 ++ [.lst []]) := rfl
  have io6 := insOf_at (show (Lset S i a (ps.map DL.D.str) 6 ++ [Cell.lst (ruD r)])[i]? = _ from (h.put (j := 6)).app)
  unfold rl0 at e
  simp only [rlB] at e
  by_cases h7 : 6 < ps.length
  · rw [if_pos h7]
    have q6 := finish_no (S := Lset S i a (ps.map DL.D.str) 6 ++ [.lst (ruD r)]) (h.put (j := 6)).app h7
    refine ⟨Lset S i a (ps.map DL.D.str) 6 ++ [.lst (ruD r)], ?_⟩
    simp only [m_rule_in, runE, init, b_rule_in, e_seq, e_seq_nx, e_seq_rt, e_seq_ite, e_bind, e_bind_ite, e_toS, e_toS_ite, e_set, e_ret, e_expr, e_nil, e_if, e_name, e_C, e_bin, e_un, e_ifx, e_aNil, e_aCons, e_call, e_cVal, e_cNot, e_cAnd, e_cOr, e_and, e_or, e_not, e_add, e_sub, e_lt, e_le, e_gt, e_ge, e_neg, e_eqi, e_nei, e_isN, e_notN, e_partsE, e_ixT0, e_ixT1, e_ixT2, e_ixT3, e_ixT4, e_ixL0, e_ixL1, e_ixL2, e_ixL3, e_ixL4, e_callP, e_callE, e_allP, e_allP0, e_tup, e_lst, e_par, List.map_cons, List.map_nil, List.append_assoc, List.nil_append, List.cons_append, List.replicate, List.getElem?_cons_zero, List.getElem?_cons_succ, List.set_cons_zero, List.set_cons_succ, Option.map_some, if_true, if_false, Bool.false_eq_true, decide_eq_true_eq, List.length_cons, List.length_nil, bg0, bg1, bg2, bg3, bg4, bg5, bg6, bg7, bg8, bg9, bg10, bg11, bg12, bg13, bg14, e_methOE, io0, lk_take, q0, eL, e_sFor, eI, e, io6, lk_fin, q6]
    all_goals rfl
  · rw [if_neg h7]
    have pl : (ps.map DL.D.str).length = 6 := by rw [List.length_map]; omega
    have q6 := finish_eq (ps := ps.map DL.D.str) (a := a) (S := Lset S i a (ps.map DL.D.str) 6 ++ [.lst (ruD r)]) (i := i) (by rw [pl]; exact (h.put (j := 6)).app)
    have ae := at_end (S := Lset S i a (ps.map DL.D.str) 6) (c := .lst (ruD r))
    have se := set_end (S := Lset S i a (ps.map DL.D.str) 6) (c := .lst (ruD r)) (d := .dead)
    rw [ln] at ae se
    have eM : ∀ (ρ : Nv) (S : Sto), ρ[1]? = some (some (.p (.lst (ruD r)))) → dMakeS 5 m_Rule_init (dName 1) ρ S = .ok (.p (.rul (ruD r))) S := fun ρ S h1 => by
      unfold dMakeS
      rw [e_name, h1]
      show (if (ruD r).length = 5 then makeOf m_Rule_init (ruD r) S else .bad) = _
      rw [if_pos (show (ruD r).length = 5 from rfl)]
      unfold makeOf
      rw [show (Dv.hnd 0 :: (ruD r).map Dv.p) = [.hnd 0, .p (.str r.s), .p (.str r.r), .p (.str r.w), .p (.int r.o), .p (.str r.k)] from rfl, hi]
      rfl
    have eF : ∀ (ρ : Nv), ρ[1]? = some (some (.hnd S.length)) → sFz 1 (sRet (dMakeS 5 m_Rule_init (dName 1))) ρ (Lset S i a (ps.map DL.D.str) 6 ++ [.lst (ruD r)]) = .ok (.rt (.p (.rul (ruD r)))) (Lset S i a (ps.map DL.D.str) 6 ++ [.dead]) := fun ρ h1 => by
      unfold sFz
      rw [h1]
      dsimp only
      rw [ae]
      dsimp only
      rw [se, e_ret, eM]
      · rfl
      · rw [List.getElem?_set_self (List.getElem?_eq_some_iff.mp h1).1]
    refine ⟨.rul (ruD r), ?_⟩
    simp only [m_rule_in, runE, init, b_rule_in, e_seq, e_seq_nx, e_seq_rt, e_seq_ite, e_bind, e_bind_ite, e_toS, e_toS_ite, e_set, e_ret, e_expr, e_nil, e_if, e_name, e_C, e_bin, e_un, e_ifx, e_aNil, e_aCons, e_call, e_cVal, e_cNot, e_cAnd, e_cOr, e_and, e_or, e_not, e_add, e_sub, e_lt, e_le, e_gt, e_ge, e_neg, e_eqi, e_nei, e_isN, e_notN, e_partsE, e_ixT0, e_ixT1, e_ixT2, e_ixT3, e_ixT4, e_ixL0, e_ixL1, e_ixL2, e_ixL3, e_ixL4, e_callP, e_callE, e_allP, e_allP0, e_tup, e_lst, e_par, List.map_cons, List.map_nil, List.append_assoc, List.nil_append, List.cons_append, List.replicate, List.getElem?_cons_zero, List.getElem?_cons_succ, List.set_cons_zero, List.set_cons_succ, Option.map_some, if_true, if_false, Bool.false_eq_true, decide_eq_true_eq, List.length_cons, List.length_nil, bg0, bg1, bg2, bg3, bg4, bg5, bg6, bg7, bg8, bg9, bg10, bg11, bg12, bg13, bg14, e_methOE, io0, lk_take, q0, eL, e_sFor, eI, e, io6, lk_fin, q6, eF]

theorem out_w {w : Str} (h : w ∈ valsOf "out") : ∃ o : Int, okO o ∧ w = nw o := by
  have e : valsOf "out" = [nw 0, nw 2, nw 3, nw 4, nw 5, nw 6, nw 7, nw 8, nw 9, nw 10, nw 11, nw 12, nw 13] := by kernel_rfl
  rw [e] at h
  simp only [List.mem_cons, List.not_mem_nil, or_false] at h
  rcases h with h | h | h | h | h | h | h | h | h | h | h | h | h <;> exact ⟨_, by unfold okO; omega, h⟩
theorem rule_any {S : Sto} {i : Nat} {a : Int} {ps : List Str} (h : Lat S i a (ps.map DL.D.str) 0) : inR (rlBad ps) a (Lset S i a (ps.map DL.D.str) 6 ++ [.dead]) (m_rule_in [.hnd i] S) := by
  have io0 := insOf_at (show S[i]? = _ from h)
  have ln : ∀ k, (Lset S i a (ps.map DL.D.str) k).length = S.length := fun k => Lset_len
  unfold rlBad
  split
  · rename_i c0
    have q0 := take_no (c := .tup [.str "rule"]) (ws := ["rule"]) h (Nat.zero_le _) (.inr rfl) (inW_no c0)
    refine inR_exc (k := 0) (S := S) ?_
    simp only [m_rule_in, runE, init, b_rule_in, e_seq, e_seq_nx, e_seq_rt, e_seq_ite, e_bind, e_bind_ite, e_toS, e_toS_ite, e_set, e_ret, e_expr, e_nil, e_if, e_name, e_C, e_bin, e_un, e_ifx, e_aNil, e_aCons, e_call, e_cVal, e_cNot, e_cAnd, e_cOr, e_and, e_or, e_not, e_add, e_sub, e_lt, e_le, e_gt, e_ge, e_neg, e_eqi, e_nei, e_isN, e_notN, e_partsE, e_ixT0, e_ixT1, e_ixT2, e_ixT3, e_ixT4, e_ixL0, e_ixL1, e_ixL2, e_ixL3, e_ixL4, e_callP, e_callE, e_allP, e_allP0, e_tup, e_lst, e_par, List.map_cons, List.map_nil, List.append_assoc, List.nil_append, List.cons_append, List.replicate, List.getElem?_cons_zero, List.getElem?_cons_succ, List.set_cons_zero, List.set_cons_succ, Option.map_some, if_true, if_false, Bool.false_eq_true, decide_eq_true_eq, List.length_cons, List.length_nil, bg0, bg1, bg2, bg3, bg4, bg5, bg6, bg7, bg8, bg9, bg10, bg11, bg12, bg13, bg14, e_methOE, io0, lk_take, q0]
    all_goals rfl
  rename_i c0
  obtain ⟨w, w0, m0, l0⟩ := inW_yes (by simpa using c0)
  rw [List.mem_singleton.mp m0] at w0
  have g0 : ∀ d : Str, gN 2 (.p (.str d)) (rl0 i S.length) = some (rlE i S.length d none none) := fun _ => rfl
  have gk : ∀ (d p : Str) x3 x4, gN 2 (.p (.str d)) (rlE i S.length p x3 x4) = some (rlE i S.length d x3 x4) := fun _ _ _ _ => rfl
  have rx := fun (k : Nat) (ρ' : Nv) (S' : Sto) e => inR_exc (T := Lset S i a (ps.map DL.D.str) 6 ++ [.dead]) (rule_x (k := k) (ρ' := ρ') (S' := S') h w0 e)
  have ry := fun (r : Ru) (hr : r.ok) l6 x2 x3 x4 e => rule_y (r := r) (x2 := x2) (x3 := x3) (x4 := x4) hr h w0 l6 e
  have ep : t_POINTS = [.str "start", .str "rows", .str "ways", .str "out", .str "kind"] := rfl
  rw [ep] at rx ry
  split
  · rename_i c1
    have t := rl_no (x3 := none) (x4 := none) (ds := []) (p := "start") (h.put (j := 1)) (by omega) (by simp) c1
    rw [ln] at t
    exact rx 1 _ _ (forL_exc (g0 _) t)
  rename_i c1
  obtain ⟨w1, p1, m1, l1⟩ := inW_yes (by simpa using c1)
  have t1 := rl_turn (x3 := none) (x4 := none) (ds := []) (p := "start") (h.put (j := 1)) (by simp) (by rw [List.getElem?_map, p1]; rfl) m1 (not_out (by decide +kernel) (by decide +kernel)) (by decide)
  rw [ln, Lset.two] at t1
  rw [forL_nx (g0 _) t1] at rx ry
  split
  · rename_i c2
    have t := rl_no (x3 := some (.p (.str w1))) (x4 := none) (ds := [] ++ [.str w1]) (p := "rows") (h.put (j := 2)) (by omega) (by simp) c2
    rw [ln] at t
    exact rx 2 _ _ (forL_exc (gk _ _ _ _) t)
  rename_i c2
  obtain ⟨w2, p2, m2, l2⟩ := inW_yes (by simpa using c2)
  have t2 := rl_turn (x3 := some (.p (.str w1))) (x4 := none) (ds := [] ++ [.str w1]) (p := "rows") (h.put (j := 2)) (by simp) (by rw [List.getElem?_map, p2]; rfl) m2 (not_out (by decide +kernel) (by decide +kernel)) (by show 1 < 100; decide)
  rw [ln, Lset.two] at t2
  rw [forL_nx (gk _ _ _ _) t2] at rx ry
  split
  · rename_i c3
    have t := rl_no (x3 := some (.p (.str w2))) (x4 := none) (ds := [] ++ [.str w1] ++ [.str w2]) (p := "ways") (h.put (j := 3)) (by omega) (by simp) c3
    rw [ln] at t
    exact rx 3 _ _ (forL_exc (gk _ _ _ _) t)
  rename_i c3
  obtain ⟨w3, p3, m3, l3⟩ := inW_yes (by simpa using c3)
  have t3 := rl_turn (x3 := some (.p (.str w2))) (x4 := none) (ds := [] ++ [.str w1] ++ [.str w2]) (p := "ways") (h.put (j := 3)) (by simp) (by rw [List.getElem?_map, p3]; rfl) m3 (not_out (by decide +kernel) (by decide +kernel)) (by show 2 < 100; decide)
  rw [ln, Lset.two] at t3
  rw [forL_nx (gk _ _ _ _) t3] at rx ry
  split
  · rename_i c4
    have t := rl_no (x3 := some (.p (.str w3))) (x4 := none) (ds := [] ++ [.str w1] ++ [.str w2] ++ [.str w3]) (p := "out") (h.put (j := 4)) (by omega) (by simp) c4
    rw [ln] at t
    exact rx 4 _ _ (forL_exc (gk _ _ _ _) t)
  rename_i c4
  obtain ⟨w4, p4, m4, l4⟩ := inW_yes (by simpa using c4)
  obtain ⟨o4, ho, eo⟩ := out_w m4
  subst eo
  have hob : 0 ≤ o4 ∧ o4 < 100 := by unfold okO at ho; omega
  have t4 := rl_turn (x3 := some (.p (.str w3))) (x4 := none) (ds := [] ++ [.str w1] ++ [.str w2] ++ [.str w3]) (p := "out") (h.put (j := 4)) (by simp) (by rw [List.getElem?_map, p4]; rfl) m4 (is_out_w hob.1 hob.2) (by show 3 < 100; decide)
  rw [ln, Lset.two] at t4
  rw [forL_nx (gk _ _ _ _) t4] at rx ry
  split
  · rename_i c5
    have t := rl_no (x3 := some (.p (.str (nw o4)))) (x4 := none) (ds := [] ++ [.str w1] ++ [.str w2] ++ [.str w3] ++ [.int o4]) (p := "kind") (h.put (j := 5)) (by omega) (by simp) c5
    rw [ln] at t
    exact rx 5 _ _ (forL_exc (gk _ _ _ _) t)
  rename_i c5
  obtain ⟨w5, p5, m5, l5⟩ := inW_yes (by simpa using c5)
  have t5 := rl_turn (x3 := some (.p (.str (nw o4)))) (x4 := none) (ds := [] ++ [.str w1] ++ [.str w2] ++ [.str w3] ++ [.int o4]) (p := "kind") (h.put (j := 5)) (by simp) (by rw [List.getElem?_map, p5]; rfl) m5 (not_out (by decide +kernel) (by decide +kernel)) (by show 4 < 100; decide)
  rw [ln, Lset.two] at t5
  have hr : (Ru.mk w1 w2 w3 o4 w5).ok := by
    refine ⟨?_, ?_, ?_, ho, ?_⟩
    · have e : valsOf "start" = (["left", "middle", "right"] : List Str) := by kernel_rfl
      rw [e] at m1
      simp only [List.mem_cons, List.not_mem_nil, or_false] at m1
      rcases m1 with m | m | m
      · exact .inl m
      · exact .inr (.inr m)
      · exact .inr (.inl m)
    · have e : valsOf "rows" = (["anew", "on"] : List Str) := by kernel_rfl
      rw [e] at m2
      simpa using m2
    · have e : valsOf "ways" = (["fro", "same"] : List Str) := by kernel_rfl
      rw [e] at m3
      simp only [List.mem_cons, List.not_mem_nil, or_false] at m3
      exact m3.symm
    · have e : valsOf "kind" = (["always", "once"] : List Str) := by kernel_rfl
      rw [e] at m5
      simp only [List.mem_cons, List.not_mem_nil, or_false] at m5
      exact m5.symm
  rw [forL_nx (gk _ _ _ _) t5] at ry
  exact ry ⟨w1, w2, w3, o4, w5⟩ hr (by omega) _ _ _ rfl

/-! ### the law's account of a rule's line -/
def gdW : List (List Str) := [["rule"], ["left", "right", "middle"], ["anew", "on"], ["same", "fro"], [nw 0, nw 2, nw 3, nw 4, nw 5, nw 6, nw 7, nw 8, nw 9, nw 10, nw 11, nw 12, nw 13], ["once", "always"]]
def gdD : DL.D := .lst (gdW.map fun ws => .lst (ws.map DL.D.str))
def RB (ps : List Str) (x2 : Option Dv) : Nv := [some (.p (.lst (ps.map DL.D.str))), some (.p gdD), x2, none]
theorem rb_turn {ps : List Str} {k : Nat} {ws : List Str} {S : Sto} (e : ∀ S, oIx (.p gdD) (.p (.int (k : Nat))) S = .ok (.p (.lst (ws.map DL.D.str))) S) :
    (sIf (cOr (cVal (dBin oLe (dCall nLen (aCons (dName 0) aNil)) (dName 2))) (cVal (dBin (oInS true) (dBin oIx (dName 0) (dName 2)) (dBin oIx (dName 1) (dName 2))))) (sRet (dBin oAdd (dName 2) (dC (.int 1)))) sNil) (RB ps (some (.p (.int (k : Nat))))) S = .ok (if inW ps k ws = true then .nx (RB ps (some (.p (.int (k : Nat))))) else .rt (.p (.int ((k + 1 : Nat) : Int)))) S := by
  have nl : ∀ S, nLen [.p (.lst (ps.map DL.D.str))] S = .ok (.p (.int (ps.length : Nat))) S := fun S => by rw [nLen_lst, List.length_map]
  unfold RB
  generalize gdD = GD at *
  by_cases hk : k < ps.length
  · have c1 : decide ((ps.length : Int) ≤ (k : Int)) = false := decide_eq_false (by omega)
    have hw : ps[k]? = some ps[k] := List.getElem?_eq_getElem hk
    have e1 : ∀ S, oIx (.p (.lst (ps.map DL.D.str))) (.p (.int (k : Nat))) S = .ok (.p (.str ps[k])) S := fun S => e_ixL k (by rw [List.getElem?_map, hw]; rfl)
    by_cases hm : ps[k] ∈ ws
    · have e2 := fun S => e_not_in (S := S) (c := .lst (ws.map DL.D.str)) (.inl rfl) hm
      have b : inW ps k ws = true := by unfold inW; rw [hw]; exact decide_eq_true hm
      rw [b]
      simp only [e_seq, e_seq_nx, e_seq_rt, e_seq_ite, e_bind, e_bind_ite, e_toS, e_toS_ite, e_set, e_ret, e_expr, e_nil, e_if, e_name, e_C, e_bin, e_un, e_ifx, e_aNil, e_aCons, e_call, e_cVal, e_cNot, e_cAnd, e_cOr, e_and, e_or, e_not, e_add, e_sub, e_lt, e_le, e_gt, e_ge, e_neg, e_eqi, e_nei, e_isN, e_notN, e_partsE, e_ixT0, e_ixT1, e_ixT2, e_ixT3, e_ixT4, e_ixL0, e_ixL1, e_ixL2, e_ixL3, e_ixL4, e_callP, e_callE, e_allP, e_allP0, e_tup, e_lst, e_par, List.map_cons, List.map_nil, List.append_assoc, List.nil_append, List.cons_append, List.replicate, List.getElem?_cons_zero, List.getElem?_cons_succ, List.set_cons_zero, List.set_cons_succ, Option.map_some, if_true, if_false, Bool.false_eq_true, decide_eq_true_eq, List.length_cons, List.length_nil, bg0, bg1, bg2, bg3, bg4, bg5, bg6, bg7, bg8, bg9, bg10, bg11, bg12, bg13, bg14, nl, c1, e1, e, e2, if_true, if_false, Bool.false_eq_true]
    · have e2 := fun S => e_no_in (S := S) (c := .lst (ws.map DL.D.str)) (.inl rfl) hm
      have b : inW ps k ws = false := by unfold inW; rw [hw]; exact decide_eq_false hm
      rw [b]
      simp only [e_seq, e_seq_nx, e_seq_rt, e_seq_ite, e_bind, e_bind_ite, e_toS, e_toS_ite, e_set, e_ret, e_expr, e_nil, e_if, e_name, e_C, e_bin, e_un, e_ifx, e_aNil, e_aCons, e_call, e_cVal, e_cNot, e_cAnd, e_cOr, e_and, e_or, e_not, e_add, e_sub, e_lt, e_le, e_gt, e_ge, e_neg, e_eqi, e_nei, e_isN, e_notN, e_partsE, e_ixT0, e_ixT1, e_ixT2, e_ixT3, e_ixT4, e_ixL0, e_ixL1, e_ixL2, e_ixL3, e_ixL4, e_callP, e_callE, e_allP, e_allP0, e_tup, e_lst, e_par, List.map_cons, List.map_nil, List.append_assoc, List.nil_append, List.cons_append, List.replicate, List.getElem?_cons_zero, List.getElem?_cons_succ, List.set_cons_zero, List.set_cons_succ, Option.map_some, if_true, if_false, Bool.false_eq_true, decide_eq_true_eq, List.length_cons, List.length_nil, bg0, bg1, bg2, bg3, bg4, bg5, bg6, bg7, bg8, bg9, bg10, bg11, bg12, bg13, bg14, nl, c1, e1, e, e2, if_true, if_false, Bool.false_eq_true]
      rfl
  · have c1 : decide ((ps.length : Int) ≤ (k : Int)) = true := decide_eq_true (by omega)
    have b : inW ps k ws = false := by
      cases b : inW ps k ws with
      | false => rfl
      | true =>
        obtain ⟨_, _, _, l⟩ := inW_yes b
        exact absurd l hk
    rw [b]
    simp only [e_seq, e_seq_nx, e_seq_rt, e_seq_ite, e_bind, e_bind_ite, e_toS, e_toS_ite, e_set, e_ret, e_expr, e_nil, e_if, e_name, e_C, e_bin, e_un, e_ifx, e_aNil, e_aCons, e_call, e_cVal, e_cNot, e_cAnd, e_cOr, e_and, e_or, e_not, e_add, e_sub, e_lt, e_le, e_gt, e_ge, e_neg, e_eqi, e_nei, e_isN, e_notN, e_partsE, e_ixT0, e_ixT1, e_ixT2, e_ixT3, e_ixT4, e_ixL0, e_ixL1, e_ixL2, e_ixL3, e_ixL4, e_callP, e_callE, e_allP, e_allP0, e_tup, e_lst, e_par, List.map_cons, List.map_nil, List.append_assoc, List.nil_append, List.cons_append, List.replicate, List.getElem?_cons_zero, List.getElem?_cons_succ, List.set_cons_zero, List.set_cons_succ, Option.map_some, if_true, if_false, Bool.false_eq_true, decide_eq_true_eq, List.length_cons, List.length_nil, bg0, bg1, bg2, bg3, bg4, bg5, bg6, bg7, bg8, bg9, bg10, bg11, bg12, bg13, bg14, nl, c1, if_true, if_false, Bool.false_eq_true]
    rfl
theorem inW_eqv {ps : List Str} {k : Nat} {a b : List Str} (h : ∀ w, w ∈ a ↔ w ∈ b) : inW ps k a = inW ps k b := by
  unfold inW
  split
  · rename_i w _
    by_cases hw : w ∈ a
    · rw [decide_eq_true hw, decide_eq_true ((h w).mp hw)]
    · rw [decide_eq_false hw, decide_eq_false fun z => hw ((h w).mpr z)]
  · rfl
theorem tr_of {b : Bool} (h : ¬ b = false) : b = true := by cases b <;> first | rfl | exact absurd rfl h
theorem law_rule_any {ps : List Str} : m_law_rule_bad [.lst (ps.map DL.D.str)] = .ok (oD (rlBad ps)) := by
  have v1 : ∀ k, inW ps k (valsOf "start") = inW ps k ["left", "right", "middle"] := fun k => inW_eqv fun w => by
    rw [show valsOf "start" = (["left", "middle", "right"] : List Str) by kernel_rfl]
    simp only [List.mem_cons, List.not_mem_nil, or_false]
    constructor <;> (intro h; rcases h with h | h | h <;> simp [h])
  have v2 : valsOf "rows" = (["anew", "on"] : List Str) := by kernel_rfl
  have v3 : ∀ k, inW ps k (valsOf "ways") = inW ps k ["same", "fro"] := fun k => inW_eqv fun w => by
    rw [show valsOf "ways" = (["fro", "same"] : List Str) by kernel_rfl]
    simp only [List.mem_cons, List.not_mem_nil, or_false]
    exact Or.comm
  have v4 : valsOf "out" = [nw 0, nw 2, nw 3, nw 4, nw 5, nw 6, nw 7, nw 8, nw 9, nw 10, nw 11, nw 12, nw 13] := by kernel_rfl
  have v5 : ∀ k, inW ps k (valsOf "kind") = inW ps k ["once", "always"] := fun k => inW_eqv fun w => by
    rw [show valsOf "kind" = (["always", "once"] : List Str) by kernel_rfl]
    simp only [List.mem_cons, List.not_mem_nil, or_false]
    exact Or.comm
  have nl : ∀ S, nLen [.p (.lst (ps.map DL.D.str))] S = .ok (.p (.int (ps.length : Nat))) S := fun S => by rw [nLen_lst, List.length_map]
  have it : ∀ S, DL.iRng1 (dC (.int 6)) (RB ps none) S = .ok (rngD 0 6) S := fun S => rfl
  have r6 : rngD 0 6 = [.int 0, .int 1, .int 2, .int 3, .int 4, .int 5] := by kernel_rfl
  have t0 := rb_turn (ps := ps) (k := 0) (ws := ["rule"]) (S := []) fun S => by kernel_rfl
  have t1 := rb_turn (ps := ps) (k := 1) (ws := ["left", "right", "middle"]) (S := []) fun S => by kernel_rfl
  have t2 := rb_turn (ps := ps) (k := 2) (ws := ["anew", "on"]) (S := []) fun S => by kernel_rfl
  have t3 := rb_turn (ps := ps) (k := 3) (ws := ["same", "fro"]) (S := []) fun S => by kernel_rfl
  have t4 := rb_turn (ps := ps) (k := 4) (ws := [nw 0, nw 2, nw 3, nw 4, nw 5, nw 6, nw 7, nw 8, nw 9, nw 10, nw 11, nw 12, nw 13]) (S := []) fun S => by kernel_rfl
  have t5 := rb_turn (ps := ps) (k := 5) (ws := ["once", "always"]) (S := []) fun S => by kernel_rfl
  have ea : ∀ P : List DL.D, (dLst (aCons (dLst (aCons (dC (.str "rule")) aNil)) (aCons (dLst (aCons (dC (.str "left")) (aCons (dC (.str "right")) (aCons (dC (.str "middle")) aNil)))) (aCons (dLst (aCons (dC (.str "anew")) (aCons (dC (.str "on")) aNil))) (aCons (dLst (aCons (dC (.str "same")) (aCons (dC (.str "fro")) aNil))) aNil))))) [some (.p (.lst P)), none, none, none] [] = .ok (.p (.lst ((gdW.take 4).map fun ws => .lst (ws.map DL.D.str)))) [] := fun P => by kernel_rfl
  have eb : ∀ P : List DL.D, (dBin oAdd (dName 1) (dLst (aCons (dBin oAdd (dLst (aCons (dC (.str "0")) aNil)) (dComp [3] (iRng2 (dC (.int 2)) (dC (.int 14))) (gN 3) cYes (dCall nStr (aCons (dName 3) aNil)))) (aCons (dLst (aCons (dC (.str "once")) (aCons (dC (.str "always")) aNil))) aNil)))) [some (.p (.lst P)), some (.p (.lst ((gdW.take 4).map fun ws => .lst (ws.map DL.D.str)))), none, none] [] = .ok (.p gdD) [] := fun P => by kernel_rfl
  have s1 : ∀ rest : Sf, sSeq (sSet 1 (dLst (aCons (dLst (aCons (dC (.str "rule")) aNil)) (aCons (dLst (aCons (dC (.str "left")) (aCons (dC (.str "right")) (aCons (dC (.str "middle")) aNil)))) (aCons (dLst (aCons (dC (.str "anew")) (aCons (dC (.str "on")) aNil))) (aCons (dLst (aCons (dC (.str "same")) (aCons (dC (.str "fro")) aNil))) aNil)))))) (sSeq (sSet 1 (dBin oAdd (dName 1) (dLst (aCons (dBin oAdd (dLst (aCons (dC (.str "0")) aNil)) (dComp [3] (iRng2 (dC (.int 2)) (dC (.int 14))) (gN 3) cYes (dCall nStr (aCons (dName 3) aNil)))) (aCons (dLst (aCons (dC (.str "once")) (aCons (dC (.str "always")) aNil))) aNil))))) rest) [some (.p (.lst (ps.map DL.D.str))), none, none, none] [] = rest (RB ps none) [] := fun rest => by
    rw [e_seq, e_set, ea]
    show OS.seq (OS.ok (.nx [some (.p (.lst (ps.map DL.D.str))), some (.p (.lst ((gdW.take 4).map fun ws => .lst (ws.map DL.D.str)))), none, none]) []) _ = _
    rw [e_seq_nx, e_seq, e_set, eb]
    show OS.seq (OS.ok (.nx (RB ps none)) []) _ = _
    rw [e_seq_nx]
  have fin1 : ∀ b : Nat, forL (gN 2) (sIf (cOr (cVal (dBin oLe (dCall nLen (aCons (dName 0) aNil)) (dName 2))) (cVal (dBin (oInS true) (dBin oIx (dName 0) (dName 2)) (dBin oIx (dName 1) (dName 2))))) (sRet (dBin oAdd (dName 2) (dC (.int 1)))) sNil) (rngD 0 6) (RB ps none) [] = .ok (.rt (.p (.int (b : Nat)))) [] → m_law_rule_bad [.lst (ps.map DL.D.str)] = .ok (.int (b : Nat)) := fun b e => by
    unfold m_law_rule_bad runP b_law_rule_bad init
    generalize (sIf (cOr (cVal (dBin oLe (dCall nLen (aCons (dName 0) aNil)) (dName 2))) (cVal (dBin (oInS true) (dBin oIx (dName 0) (dName 2)) (dBin oIx (dName 1) (dName 2))))) (sRet (dBin oAdd (dName 2) (dC (.int 1)))) sNil) = BD at e ⊢
    generalize rngD 0 6 = R6 at e it
    show (match sSeq (sSet 1 (dLst (aCons (dLst (aCons (dC (.str "rule")) aNil)) (aCons (dLst (aCons (dC (.str "left")) (aCons (dC (.str "right")) (aCons (dC (.str "middle")) aNil)))) (aCons (dLst (aCons (dC (.str "anew")) (aCons (dC (.str "on")) aNil))) (aCons (dLst (aCons (dC (.str "same")) (aCons (dC (.str "fro")) aNil))) aNil)))))) (sSeq (sSet 1 (dBin oAdd (dName 1) (dLst (aCons (dBin oAdd (dLst (aCons (dC (.str "0")) aNil)) (dComp [3] (iRng2 (dC (.int 2)) (dC (.int 14))) (gN 3) cYes (dCall nStr (aCons (dName 3) aNil)))) (aCons (dLst (aCons (dC (.str "once")) (aCons (dC (.str "always")) aNil))) aNil))))) _) [some (.p (.lst (ps.map DL.D.str))), none, none, none] [] with | .ok (.rt (.p d)) _ => DL.PO.ok d | .ok (.rt (.hnd i)) S => (match S[i]? with | some (.lst es) => .ok (.lst es) | _ => .bad) | .ok (.nx _) _ => .ok .non | .ok _ _ => .bad | .exc x _ _ => .exc x | .bad => .bad) = _
    rw [s1]
    simp only [e_seq, e_seq_nx, e_seq_rt, e_seq_ite, e_bind, e_bind_ite, e_toS, e_toS_ite, e_set, e_ret, e_expr, e_nil, e_if, e_name, e_C, e_bin, e_un, e_ifx, e_aNil, e_aCons, e_call, e_cVal, e_cNot, e_cAnd, e_cOr, e_and, e_or, e_not, e_add, e_sub, e_lt, e_le, e_gt, e_ge, e_neg, e_eqi, e_nei, e_isN, e_notN, e_partsE, e_ixT0, e_ixT1, e_ixT2, e_ixT3, e_ixT4, e_ixL0, e_ixL1, e_ixL2, e_ixL3, e_ixL4, e_callP, e_callE, e_allP, e_allP0, e_tup, e_lst, e_par, List.map_cons, List.map_nil, List.append_assoc, List.nil_append, List.cons_append, List.replicate, List.getElem?_cons_zero, List.getElem?_cons_succ, List.set_cons_zero, List.set_cons_succ, Option.map_some, if_true, if_false, Bool.false_eq_true, decide_eq_true_eq, List.length_cons, List.length_nil, bg0, bg1, bg2, bg3, bg4, bg5, bg6, bg7, bg8, bg9, bg10, bg11, bg12, bg13, bg14, e_sFor, it, e]
  have fin2 : ∀ k, forL (gN 2) (sIf (cOr (cVal (dBin oLe (dCall nLen (aCons (dName 0) aNil)) (dName 2))) (cVal (dBin (oInS true) (dBin oIx (dName 0) (dName 2)) (dBin oIx (dName 1) (dName 2))))) (sRet (dBin oAdd (dName 2) (dC (.int 1)))) sNil) (rngD 0 6) (RB ps none) [] = .ok (.nx (RB ps k)) [] → m_law_rule_bad [.lst (ps.map DL.D.str)] = .ok (oD (if 6 < ps.length then some 7 else none)) := fun k e => by
    unfold m_law_rule_bad runP b_law_rule_bad init
    generalize (sIf (cOr (cVal (dBin oLe (dCall nLen (aCons (dName 0) aNil)) (dName 2))) (cVal (dBin (oInS true) (dBin oIx (dName 0) (dName 2)) (dBin oIx (dName 1) (dName 2))))) (sRet (dBin oAdd (dName 2) (dC (.int 1)))) sNil) = BD at e ⊢
    generalize rngD 0 6 = R6 at e it
    show (match sSeq (sSet 1 (dLst (aCons (dLst (aCons (dC (.str "rule")) aNil)) (aCons (dLst (aCons (dC (.str "left")) (aCons (dC (.str "right")) (aCons (dC (.str "middle")) aNil)))) (aCons (dLst (aCons (dC (.str "anew")) (aCons (dC (.str "on")) aNil))) (aCons (dLst (aCons (dC (.str "same")) (aCons (dC (.str "fro")) aNil))) aNil)))))) (sSeq (sSet 1 (dBin oAdd (dName 1) (dLst (aCons (dBin oAdd (dLst (aCons (dC (.str "0")) aNil)) (dComp [3] (iRng2 (dC (.int 2)) (dC (.int 14))) (gN 3) cYes (dCall nStr (aCons (dName 3) aNil)))) (aCons (dLst (aCons (dC (.str "once")) (aCons (dC (.str "always")) aNil))) aNil))))) _) [some (.p (.lst (ps.map DL.D.str))), none, none, none] [] with | .ok (.rt (.p d)) _ => DL.PO.ok d | .ok (.rt (.hnd i)) S => (match S[i]? with | some (.lst es) => .ok (.lst es) | _ => .bad) | .ok (.nx _) _ => .ok .non | .ok _ _ => .bad | .exc x _ _ => .exc x | .bad => .bad) = _
    rw [s1]
    unfold RB at e it ⊢
    by_cases h6 : 6 < ps.length
    · have g1 : decide ((6 : Int) < (ps.length : Int)) = true := decide_eq_true (by omega)
      rw [if_pos h6]
      simp only [e_seq, e_seq_nx, e_seq_rt, e_seq_ite, e_bind, e_bind_ite, e_toS, e_toS_ite, e_set, e_ret, e_expr, e_nil, e_if, e_name, e_C, e_bin, e_un, e_ifx, e_aNil, e_aCons, e_call, e_cVal, e_cNot, e_cAnd, e_cOr, e_and, e_or, e_not, e_add, e_sub, e_lt, e_le, e_gt, e_ge, e_neg, e_eqi, e_nei, e_isN, e_notN, e_partsE, e_ixT0, e_ixT1, e_ixT2, e_ixT3, e_ixT4, e_ixL0, e_ixL1, e_ixL2, e_ixL3, e_ixL4, e_callP, e_callE, e_allP, e_allP0, e_tup, e_lst, e_par, List.map_cons, List.map_nil, List.append_assoc, List.nil_append, List.cons_append, List.replicate, List.getElem?_cons_zero, List.getElem?_cons_succ, List.set_cons_zero, List.set_cons_succ, Option.map_some, if_true, if_false, Bool.false_eq_true, decide_eq_true_eq, List.length_cons, List.length_nil, bg0, bg1, bg2, bg3, bg4, bg5, bg6, bg7, bg8, bg9, bg10, bg11, bg12, bg13, bg14, e_sFor, it, e, nl, g1]
      rfl
    · have g1 : decide ((6 : Int) < (ps.length : Int)) = false := decide_eq_false (by omega)
      rw [if_neg h6]
      simp only [e_seq, e_seq_nx, e_seq_rt, e_seq_ite, e_bind, e_bind_ite, e_toS, e_toS_ite, e_set, e_ret, e_expr, e_nil, e_if, e_name, e_C, e_bin, e_un, e_ifx, e_aNil, e_aCons, e_call, e_cVal, e_cNot, e_cAnd, e_cOr, e_and, e_or, e_not, e_add, e_sub, e_lt, e_le, e_gt, e_ge, e_neg, e_eqi, e_nei, e_isN, e_notN, e_partsE, e_ixT0, e_ixT1, e_ixT2, e_ixT3, e_ixT4, e_ixL0, e_ixL1, e_ixL2, e_ixL3, e_ixL4, e_callP, e_callE, e_allP, e_allP0, e_tup, e_lst, e_par, List.map_cons, List.map_nil, List.append_assoc, List.nil_append, List.cons_append, List.replicate, List.getElem?_cons_zero, List.getElem?_cons_succ, List.set_cons_zero, List.set_cons_succ, Option.map_some, if_true, if_false, Bool.false_eq_true, decide_eq_true_eq, List.length_cons, List.length_nil, bg0, bg1, bg2, bg3, bg4, bg5, bg6, bg7, bg8, bg9, bg10, bg11, bg12, bg13, bg14, e_sFor, it, e, nl, g1]
      rfl
  unfold rlBad
  rw [v1, v2, v3, v4, v5]
  have gk : ∀ (d : Int) x2, gN 2 (.p (.int d)) (RB ps x2) = some (RB ps (some (.p (.int d)))) := fun _ _ => rfl
  rw [r6] at fin1 fin2
  split
  · rename_i c
    rw [c, if_neg (by decide)] at t0
    exact fin1 1 (forL_rt (gk 0 _) t0)
  rename_i c
  have c := tr_of c
  rw [c, if_pos rfl] at t0
  rw [forL_nx (gk 0 _) t0] at fin1 fin2
  split
  · rename_i c
    rw [c, if_neg (by decide)] at t1
    exact fin1 2 (forL_rt (gk 1 _) t1)
  rename_i c
  have c := tr_of c
  rw [c, if_pos rfl] at t1
  rw [forL_nx (gk 1 _) t1] at fin1 fin2
  split
  · rename_i c
    rw [c, if_neg (by decide)] at t2
    exact fin1 3 (forL_rt (gk 2 _) t2)
  rename_i c
  have c := tr_of c
  rw [c, if_pos rfl] at t2
  rw [forL_nx (gk 2 _) t2] at fin1 fin2
  split
  · rename_i c
    rw [c, if_neg (by decide)] at t3
    exact fin1 4 (forL_rt (gk 3 _) t3)
  rename_i c
  have c := tr_of c
  rw [c, if_pos rfl] at t3
  rw [forL_nx (gk 3 _) t3] at fin1 fin2
  split
  · rename_i c
    rw [c, if_neg (by decide)] at t4
    exact fin1 5 (forL_rt (gk 4 _) t4)
  rename_i c
  have c := tr_of c
  rw [c, if_pos rfl] at t4
  rw [forL_nx (gk 4 _) t4] at fin1 fin2
  split
  · rename_i c
    rw [c, if_neg (by decide)] at t5
    exact fin1 6 (forL_rt (gk 5 _) t5)
  rename_i c
  have c := tr_of c
  rw [c, if_pos rfl] at t5
  rw [forL_nx (gk 5 _) t5] at fin1 fin2
  exact fin2 _ rfl

/-! ### a text read -/
theorem fset_at {S : Sto} {n : Nat} {fs : List (Str × Dv)} (h : S[n]? = some (.ins 0 fs)) {fs' : List (Str × Dv)} : (S.set n (.ins 0 fs'))[n]? = some (.ins 0 fs') :=
  List.getElem?_set_self (List.getElem?_eq_some_iff.mp h).1
def lineC (a : Int) (x : Str) : Cell := .ins 0 (lineF a ((pcs x).map DL.D.str) 0)
theorem ok_em : PyData.strOk ("" : Str) = true := by decide +kernel
/-- a text that may be a line -/
structure LnOk (x : Str) : Prop where
  len : x.length + 2 ≤ 100000
  at_ : ∀ c ∈ TL.tl x, c < 256
theorem split_few (x : Str) : (Txt.split x " ").length ≤ x.length + 1 := by
  have e : (Txt.split x " ").length = ((Txt.split x " ").map TL.tl).length := by rw [List.length_map]
  rw [e, split_bl, TL.len_tl]
  have : ∀ (l acc : List Nat), (TL.spl [32] 0 acc l).length ≤ l.length + 1 := by
    intro l
    induction l with
    | nil => intro acc; rw [TL.spl_nil]; exact Nat.le_refl _
    | cons c r ih =>
      intro acc
      cases hp : TL.pre [32] (c :: r) with
      | true =>
        rw [TL.spl_hit hp, List.length_cons, List.length_cons]
        exact Nat.succ_le_succ (ih [])
      | false =>
        rw [TL.spl_miss hp, List.length_cons]
        exact Nat.le_trans (ih _) (Nat.le_succ _)
  exact this _ _
theorem line_init_eq {S : Sto} {x : Str} {a : Int} (hx : LnOk x) : m_Line_init [.hnd S.length, .p (.str x), .p (.int a)] (S ++ [.ins 0 []]) = .ok (.p .non) (S ++ [lineC a x]) := by
  have h0 := at_end (S := S) (c := .ins 0 [])
  have h1 := at_end (S := S) (c := .ins 0 [("at", .p (.int a))])
  have h2 := at_end (S := S) (c := .ins 0 [("at", .p (.int a)), ("pieces", .p (.lst ((pcs x).map DL.D.str)))])
  have hl := hx.len
  have s1 : sFldSet "at" (dName 0) (dName 2) [some (.hnd S.length), some (.p (.str x)), some (.p (.int a)), none] (S ++ [.ins 0 []]) = .ok (.nx [some (.hnd S.length), some (.p (.str x)), some (.p (.int a)), none]) (S ++ [.ins 0 [("at", .p (.int a))]]) := by
    rw [e_fldSet (i := S.length) (fs := []) (x := .p (.int a)) (S1 := S ++ [.ins 0 []]) rfl rfl h0 (by decide), set_end]; rfl
  have cp : dComp [3] (iSeq (dSplit (dName 1) (dC (.str " ")))) (gN 3) (cVal (dBin oNe (dName 3) (dC (.str "")))) (dName 3) [some (.hnd S.length), some (.p (.str x)), some (.p (.int a)), none] (S ++ [.ins 0 [("at", .p (.int a))]]) = .ok (.p (.lst ((pcs x).map DL.D.str))) (S ++ [.ins 0 [("at", .p (.int a))]]) := by
    have eS : iSeq (dSplit (dName 1) (dC (.str " "))) [some (.hnd S.length), some (.p (.str x)), some (.p (.int a)), none] (S ++ [.ins 0 [("at", .p (.int a))]]) = .ok ((Txt.split x " ").map DL.D.str) (S ++ [.ins 0 [("at", .p (.int a))]]) := by
      unfold iSeq dSplit
      simp only [e_seq, e_seq_nx, e_seq_rt, e_seq_ite, e_bind, e_bind_ite, e_toS, e_toS_ite, e_set, e_ret, e_expr, e_nil, e_if, e_name, e_C, e_bin, e_un, e_ifx, e_aNil, e_aCons, e_call, e_cVal, e_cNot, e_cAnd, e_cOr, e_and, e_or, e_not, e_add, e_sub, e_lt, e_le, e_gt, e_ge, e_neg, e_eqi, e_nei, e_isN, e_notN, e_partsE, e_ixT0, e_ixT1, e_ixT2, e_ixT3, e_ixT4, e_ixL0, e_ixL1, e_ixL2, e_ixL3, e_ixL4, e_callP, e_callE, e_allP, e_allP0, e_tup, e_lst, e_par, List.map_cons, List.map_nil, List.append_assoc, List.nil_append, List.cons_append, List.replicate, List.getElem?_cons_zero, List.getElem?_cons_succ, List.set_cons_zero, List.set_cons_succ, Option.map_some, if_true, if_false, Bool.false_eq_true, decide_eq_true_eq, List.length_cons, List.length_nil, bg0, bg1, bg2, bg3, bg4, bg5, bg6, bg7, bg8, bg9, bg10, bg11, bg12, bg13, bg14]
      rw [if_pos ⟨bl_len, by unfold big; omega⟩]
    refine e_compF (S1 := S ++ [.ins 0 [("at", .p (.int a))]]) eS (by rw [List.length_map]; have := split_few x; unfold big; omega) ?_
    have key := comp_filter (t := gN 3) (cf := cVal (dBin oNe (dName 3) (dC (.str "")))) (el := dName 3) (ρ := wipeN [some (.hnd S.length), some (.p (.str x)), some (.p (.int a)), none] [3]) (S := S ++ [.ins 0 [("at", .p (.int a))]])
      (fun d => match d with | .str w => !(w == "") | _ => false) id (ds := (Txt.split x " ").map DL.D.str) fun d hd => by
        obtain ⟨w, hw, rfl⟩ := List.mem_map.mp hd
        refine ⟨[some (.hnd S.length), some (.p (.str x)), some (.p (.int a)), some (.p (.str w))], rfl, ?_, fun _ => rfl⟩
        have q := e_nes (S := S ++ [.ins 0 [("at", .p (.int a))]]) (split_ok hx.at_ hw) ok_em
        simp only [e_seq, e_seq_nx, e_seq_rt, e_seq_ite, e_bind, e_bind_ite, e_toS, e_toS_ite, e_set, e_ret, e_expr, e_nil, e_if, e_name, e_C, e_bin, e_un, e_ifx, e_aNil, e_aCons, e_call, e_cVal, e_cNot, e_cAnd, e_cOr, e_and, e_or, e_not, e_add, e_sub, e_lt, e_le, e_gt, e_ge, e_neg, e_eqi, e_nei, e_isN, e_notN, e_partsE, e_ixT0, e_ixT1, e_ixT2, e_ixT3, e_ixT4, e_ixL0, e_ixL1, e_ixL2, e_ixL3, e_ixL4, e_callP, e_callE, e_allP, e_allP0, e_tup, e_lst, e_par, List.map_cons, List.map_nil, List.append_assoc, List.nil_append, List.cons_append, List.replicate, List.getElem?_cons_zero, List.getElem?_cons_succ, List.set_cons_zero, List.set_cons_succ, Option.map_some, if_true, if_false, Bool.false_eq_true, decide_eq_true_eq, List.length_cons, List.length_nil, bg0, bg1, bg2, bg3, bg4, bg5, bg6, bg7, bg8, bg9, bg10, bg11, bg12, bg13, bg14, q]
    rw [key]
    congr 1
    rw [List.map_id, List.filter_map]
    rfl
  have s2 : sFldSet "pieces" (dName 0) (dComp [3] (iSeq (dSplit (dName 1) (dC (.str " ")))) (gN 3) (cVal (dBin oNe (dName 3) (dC (.str "")))) (dName 3)) [some (.hnd S.length), some (.p (.str x)), some (.p (.int a)), none] (S ++ [.ins 0 [("at", .p (.int a))]]) = .ok (.nx [some (.hnd S.length), some (.p (.str x)), some (.p (.int a)), none]) (S ++ [.ins 0 [("at", .p (.int a)), ("pieces", .p (.lst ((pcs x).map DL.D.str)))]]) := by
    rw [e_fldSet (i := S.length) (fs := [("at", .p (.int a))]) (S1 := S ++ [.ins 0 [("at", .p (.int a))]]) cp rfl h1 (by show 1 < 1000; decide), set_end]
    unfold putD
    rw [if_neg n_ap]; rfl
  have s3 : sFldSet "spot" (dName 0) (dC (.int 0)) [some (.hnd S.length), some (.p (.str x)), some (.p (.int a)), none] (S ++ [.ins 0 [("at", .p (.int a)), ("pieces", .p (.lst ((pcs x).map DL.D.str)))]]) = .ok (.nx [some (.hnd S.length), some (.p (.str x)), some (.p (.int a)), none]) (S ++ [lineC a x]) := by
    rw [e_fldSet (i := S.length) (x := .p (.int 0)) (S1 := S ++ [.ins 0 [("at", .p (.int a)), ("pieces", .p (.lst ((pcs x).map DL.D.str)))]]) rfl rfl h2 (by show 2 < 1000; decide), set_end]
    unfold putD
    rw [if_neg n_as]
    unfold putD
    rw [if_neg n_ps]; rfl
  simp only [m_Line_init, runE, init, b_Line_init, e_seq, e_seq_nx, e_seq_rt, e_seq_ite, e_bind, e_bind_ite, e_toS, e_toS_ite, e_set, e_ret, e_expr, e_nil, e_if, e_name, e_C, e_bin, e_un, e_ifx, e_aNil, e_aCons, e_call, e_cVal, e_cNot, e_cAnd, e_cOr, e_and, e_or, e_not, e_add, e_sub, e_lt, e_le, e_gt, e_ge, e_neg, e_eqi, e_nei, e_isN, e_notN, e_partsE, e_ixT0, e_ixT1, e_ixT2, e_ixT3, e_ixT4, e_ixL0, e_ixL1, e_ixL2, e_ixL3, e_ixL4, e_callP, e_callE, e_allP, e_allP0, e_tup, e_lst, e_par, List.map_cons, List.map_nil, List.append_assoc, List.nil_append, List.cons_append, List.replicate, List.getElem?_cons_zero, List.getElem?_cons_succ, List.set_cons_zero, List.set_cons_succ, Option.map_some, if_true, if_false, Bool.false_eq_true, decide_eq_true_eq, List.length_cons, List.length_nil, bg0, bg1, bg2, bg3, bg4, bg5, bg6, bg7, bg8, bg9, bg10, bg11, bg12, bg13, bg14, s1, s2, s3]
/-- the lines' cells -/
def cellsOf : Nat → List Str → Sto
  | _, [] => []
  | j, x :: xs => lineC ((j : Int) + 1) x :: cellsOf (j + 1) xs
theorem cells_len : ∀ (j : Nat) (xs : List Str), (cellsOf j xs).length = xs.length
  | _, [] => rfl
  | j, x :: xs => by unfold cellsOf; rw [List.length_cons, List.length_cons, cells_len]
theorem cells_at : ∀ (j : Nat) (xs : List Str) (i : Nat) (x : Str), xs[i]? = some x → (cellsOf j xs)[i]? = some (lineC (((j + i : Nat) : Int) + 1) x)
  | _, [], _, _, h => by simp at h
  | j, y :: xs, 0, x, h => by
    simp at h; subst h
    unfold cellsOf; rfl
  | j, y :: xs, i + 1, x, h => by
    unfold cellsOf
    rw [List.getElem?_cons_succ, cells_at (j + 1) xs i x (by simpa using h), show j + 1 + i = j + (i + 1) by omega]
abbrev mkL : Ef := dMakeO m_Line_init (aCons (dName 4) (aCons (dBin oAdd (dName 3) (dC (.int 1))) aNil))
theorem comp_lines {ρ : Nv} (hρ : ρ.length = 6) : ∀ (xs : List Str) (j : Nat) (S : Sto), S.length = j → (∀ x ∈ xs, LnOk x) →
    compLV (gT 2 (gsCons (gN 3) (gsCons (gN 4) gsNil))) cYes mkL ρ (enumD j (xs.map DL.D.str)) S = .ok ((List.range' j xs.length).map Dv.hnd) (S ++ cellsOf j xs)
  | [], j, S, _, _ => by unfold cellsOf; rw [List.append_nil]; rfl
  | x :: xs, j, S, hS, h => by
    match ρ, hρ with
    | [r0, r1, r2, r3, r4, r5], hρ =>
      have q := line_init_eq (S := S) (a := (j : Int) + 1) (h x List.mem_cons_self)
      have ih := comp_lines (ρ := [r0, r1, r2, r3, r4, r5]) rfl xs (j + 1) (S ++ [lineC ((j : Int) + 1) x]) (by rw [List.length_append, hS]; rfl) fun y hy => h y (List.mem_cons_of_mem _ hy)
      have e1 : mkL [r0, r1, r2, some (.p (.int (j : Nat))), some (.p (.str x)), r5] S = .ok (.hnd j) (S ++ [lineC ((j : Int) + 1) x]) := by
        unfold mkL dMakeO
        simp only [e_seq, e_seq_nx, e_seq_rt, e_seq_ite, e_bind, e_bind_ite, e_toS, e_toS_ite, e_set, e_ret, e_expr, e_nil, e_if, e_name, e_C, e_bin, e_un, e_ifx, e_aNil, e_aCons, e_call, e_cVal, e_cNot, e_cAnd, e_cOr, e_and, e_or, e_not, e_add, e_sub, e_lt, e_le, e_gt, e_ge, e_neg, e_eqi, e_nei, e_isN, e_notN, e_partsE, e_ixT0, e_ixT1, e_ixT2, e_ixT3, e_ixT4, e_ixL0, e_ixL1, e_ixL2, e_ixL3, e_ixL4, e_callP, e_callE, e_allP, e_allP0, e_tup, e_lst, e_par, List.map_cons, List.map_nil, List.append_assoc, List.nil_append, List.cons_append, List.replicate, List.getElem?_cons_zero, List.getElem?_cons_succ, List.set_cons_zero, List.set_cons_succ, Option.map_some, if_true, if_false, Bool.false_eq_true, decide_eq_true_eq, List.length_cons, List.length_nil, bg0, bg1, bg2, bg3, bg4, bg5, bg6, bg7, bg8, bg9, bg10, bg11, bg12, bg13, bg14, q]
        rw [hS]
      rw [List.map_cons]
      unfold enumD compLV
      show ((cYes [r0, r1, r2, some (.p (.int (j : Nat))), some (.p (.str x)), r5] S).nox.bind _) = _
      show ((mkL [r0, r1, r2, some (.p (.int (j : Nat))), some (.p (.str x)), r5] S).nox.bind _) = _
      rw [e1]
      show ((compLV _ cYes mkL [r0, r1, r2, r3, r4, r5] (enumD (j + 1) (xs.map DL.D.str)) (S ++ [lineC ((j : Int) + 1) x])).bind _) = _
      rw [ih]
      show Out.ok (Dv.hnd j :: (List.range' (j + 1) xs.length).map Dv.hnd) (S ++ [lineC ((j : Int) + 1) x] ++ cellsOf (j + 1) xs) = _
      rw [List.append_assoc]; rfl
theorem cut1 {l : List Dv} : cutV' l (some 1) none = l.drop 1 := by
  have e1 : HT.sIx l.length 0 (some 1) = min 1 l.length := by
    unfold HT.sIx
    simp <;> omega
  have e2 : HT.sIx l.length l.length none = l.length := by
    unfold HT.sIx
    simp
  unfold cutV'
  rw [e1, e2]
  cases l with
  | nil => rfl
  | cons d l =>
    rw [List.length_cons, show min 1 (l.length + 1) = 1 by omega]
    show l.take (l.length + 1 - 1) = l
    rw [Nat.add_sub_cancel, List.take_length]

/-! ### the words of a line; a text read, any text -/
theorem spl_short : ∀ (l acc : List Nat), ∀ p ∈ TL.spl [32] 0 acc l, p.length ≤ acc.length + l.length
  | [], acc, p, h => by
    rw [TL.spl_nil, List.mem_singleton] at h
    rw [h]; simp
  | c :: r, acc, p, h => by
    cases hp : TL.pre [32] (c :: r) with
    | true =>
      rw [TL.spl_hit hp] at h
      rcases List.mem_cons.mp h with rfl | h
      · omega
      · have := spl_short r [] p h
        rw [List.length_nil] at this
        rw [List.length_cons]
        omega
    | false =>
      rw [TL.spl_miss hp] at h
      have := spl_short r (acc ++ [c]) p h
      rw [List.length_append, List.length_singleton] at this
      rw [List.length_cons]
      omega
theorem pcs_ok {x : Str} (h : LnOk x) : ∀ w ∈ pcs x, WOK w := fun w hw => by
  unfold pcs at hw
  obtain ⟨h1, h2⟩ := List.mem_filter.mp hw
  refine ⟨fun z => ?_, split_ok h.at_ h1, ?_⟩
  · rw [eq_em, z] at h2
    cases h2
  · have hm : TL.tl w ∈ TL.spl [32] 0 [] (TL.tl x) := by rw [← split_bl]; exact List.mem_map.mpr ⟨w, h1, rfl⟩
    have := spl_short _ _ _ hm
    rw [List.length_nil, ← TL.len_tl, ← TL.len_tl] at this
    have := h.len
    omega
theorem pcs_few {x : Str} (h : LnOk x) : (pcs x).length ≤ 1000000 := by
  have h1 : (pcs x).length ≤ (Txt.split x " ").length := List.length_filter_le _ _
  have h2 := split_few x
  have h3 := h.len
  omega
/-- the first line that is none, from line j on -/
def badAt : Nat → List Str → Option (Nat × Nat)
  | _, [] => none
  | j, x :: xs => match tkBad (pcs x) with
    | some b => some (j + 1, b)
    | none => badAt (j + 1) xs
theorem comp_any {n : Nat} {es : List Dv} {ρ : Nv} (hρ : ρ.length = 6) : ∀ (xs : List Str) (m i : Nat) (S : Sto), S[n]? = some (.rcd es) → m = xs.length → es.length = i + m → (∀ x ∈ xs, LnOk x) → (∀ k, k < m → es[i + k]? = some (.hnd (i + k + 1))) → i + m < n →
    (∀ k x, xs[k]? = some x → Lat S (i + k + 1) (((i + k + 1 : Nat) : Int) + 1) ((pcs x).map DL.D.str) 0) →
    match badAt (i + 1) xs with
    | none => ∃ l S', compLX (gN 5) (dCallE m_ticket_in (aCons (dName 5) aNil)) ρ n m i S = .ok l S'
    | some (ln, b) => ∃ S', compLX (gN 5) (dCallE m_ticket_in (aCons (dName 5) aNil)) ρ n m i S = .exc ⟨1, [.int (b : Nat), .int (ln : Nat)]⟩ S'
  | [], m, i, S, hn, hm, hl, _, _, _, _ => by
    have hm0 : m = 0 := hm
    subst hm0
    refine ⟨[], S, ?_⟩
    unfold compLX
    rw [hn]
    dsimp only
    rw [if_pos (show es.length = i by omega)]
  | x :: xs, m, i, S, hn, hm, hl, ht, he, hin, hc => by
    subst hm
    match ρ, hρ with
    | [r0, r1, r2, r3, r4, r5], hρ =>
      have ha := hc 0 x rfl
      have q := ticket_any (pcs_ok (ht x List.mem_cons_self)) ha
      have h0 := he 0 (by rw [List.length_cons]; omega)
      rw [Nat.add_zero] at h0 q
      have hlen : (x :: xs).length = xs.length + 1 := rfl
      have ecall : dCallE m_ticket_in (aCons (dName 5) aNil) [r0, r1, r2, r3, r4, some (.hnd (i + 1))] S = m_ticket_in [.hnd (i + 1)] S := by
        simp only [e_seq, e_seq_nx, e_seq_rt, e_seq_ite, e_bind, e_bind_ite, e_toS, e_toS_ite, e_set, e_ret, e_expr, e_nil, e_if, e_name, e_C, e_bin, e_un, e_ifx, e_aNil, e_aCons, e_call, e_cVal, e_cNot, e_cAnd, e_cOr, e_and, e_or, e_not, e_add, e_sub, e_lt, e_le, e_gt, e_ge, e_neg, e_eqi, e_nei, e_isN, e_notN, e_partsE, e_ixT0, e_ixT1, e_ixT2, e_ixT3, e_ixT4, e_ixL0, e_ixL1, e_ixL2, e_ixL3, e_ixL4, e_callP, e_callE, e_allP, e_allP0, e_tup, e_lst, e_par, List.map_cons, List.map_nil, List.append_assoc, List.nil_append, List.cons_append, List.replicate, List.getElem?_cons_zero, List.getElem?_cons_succ, List.set_cons_zero, List.set_cons_succ, Option.map_some, if_true, if_false, Bool.false_eq_true, decide_eq_true_eq, List.length_cons, List.length_nil, bg0, bg1, bg2, bg3, bg4, bg5, bg6, bg7, bg8, bg9, bg10, bg11, bg12, bg13, bg14]
      have unf : compLX (gN 5) (dCallE m_ticket_in (aCons (dName 5) aNil)) [r0, r1, r2, r3, r4, r5] n (xs.length + 1) i S = (m_ticket_in [.hnd (i + 1)] S).bind fun y S2 => match y with
          | .p d' => (compLX (gN 5) (dCallE m_ticket_in (aCons (dName 5) aNil)) [r0, r1, r2, r3, r4, r5] n xs.length (i + 1) S2).bind fun r S3 => Out.ok (d' :: r) S3
          | .hnd _ => .bad := by
        conv => lhs; unfold compLX
        rw [hn]
        dsimp only
        rw [h0]
        show ((dCallE m_ticket_in (aCons (dName 5) aNil) [r0, r1, r2, r3, r4, some (.hnd (i + 1))] S).bind _) = _
        rw [ecall]
        all_goals
          generalize m_ticket_in [.hnd (i + 1)] S = Z
          cases Z with
          | bad => rfl
          | exc _ _ => rfl
          | ok y S2 => cases y <;> rfl
      rw [hlen] at hin he hl
      rw [hlen, unf]
      unfold badAt
      cases ht0 : tkBad (pcs x) with
      | some b =>
        rw [ht0] at q
        obtain ⟨S', e⟩ := q
        refine ⟨S', ?_⟩
        rw [e]
        show Out.exc ⟨1, [.int (b : Nat), .int (((i + 1 : Nat) : Int) + 1)]⟩ S' = _
        rfl
      | none =>
        rw [ht0] at q
        obtain ⟨d, e⟩ := q
        rw [e]
        generalize hS1 : Lset S (i + 1) (((i + 1 : Nat) : Int) + 1) ((pcs x).map DL.D.str) 6 = S1
        have hn1 : S1[n]? = some (.rcd es) := by
          rw [← hS1]
          unfold Lset
          rw [List.getElem?_set_ne (by omega)]
          exact hn
        have ih := comp_any (n := n) (es := es) (ρ := [r0, r1, r2, r3, r4, r5]) rfl xs xs.length (i + 1) S1 hn1 rfl (by omega) (fun t' h' => ht t' (List.mem_cons_of_mem _ h')) (fun k hk => by
          have := he (k + 1) (by omega)
          rw [show i + (k + 1) = i + 1 + k by omega] at this
          exact this) (by omega) (fun k t' hk => by
          have hb := hc (k + 1) t' (by rw [List.getElem?_cons_succ]; exact hk)
          rw [show i + (k + 1) + 1 = i + 1 + k + 1 by omega] at hb
          unfold Lat at hb ⊢
          rw [← hS1]
          unfold Lset
          rw [List.getElem?_set_ne (by omega)]
          exact hb)
        show match badAt (i + 1 + 1) xs with
          | none => ∃ l S', ((compLX (gN 5) (dCallE m_ticket_in (aCons (dName 5) aNil)) [r0, r1, r2, r3, r4, r5] n xs.length (i + 1) S1).bind fun r S3 => Out.ok (d :: r) S3) = .ok l S'
          | some (ln, b) => ∃ S', ((compLX (gN 5) (dCallE m_ticket_in (aCons (dName 5) aNil)) [r0, r1, r2, r3, r4, r5] n xs.length (i + 1) S1).bind fun r S3 => Out.ok (d :: r) S3) = .exc ⟨1, [.int (b : Nat), .int (ln : Nat)]⟩ S'
        cases hb : badAt (i + 1 + 1) xs with
        | none =>
          rw [hb] at ih
          obtain ⟨l, S', e2⟩ := ih
          exact ⟨d :: l, S', by rw [e2]; rfl⟩
        | some z =>
          obtain ⟨ln, b⟩ := z
          rw [hb] at ih
          obtain ⟨S', e2⟩ := ih
          exact ⟨S', by rw [e2]; rfl⟩
/-- what is due -/
def dueO (rows : List Str) : Option (Nat × Nat) := match rows with
  | [] => none
  | x :: xs => match rlBad (pcs x) with
    | some b => some (1, b)
    | none => badAt 1 xs
theorem read_any {text x0 : Str} {xs : List Str} (hsp : Txt.split text "\n" = x0 :: xs) (h0 : LnOk x0) (hx : ∀ x ∈ xs, LnOk x) (hl : text.length + 2 ≤ big) (hxl : xs.length ≤ 1000000) :
    match dueO (x0 :: xs) with
    | none => ∃ d, m_read_tickets [.str text] = .ok d
    | some (ln, b) => m_read_tickets [.str text] = .exc ⟨1, [.int (b : Nat), .int (ln : Nat)]⟩ := by
  have c0 := comp_lines (ρ := wipeN [some (.p (.str text)), none, none, none, none, none] [3, 4]) rfl (x0 :: xs) 0 [] rfl (fun x hx' => (List.mem_cons.mp hx').elim (fun e => e ▸ h0) (hx x))
  rw [List.nil_append] at c0
  generalize hC : cellsOf 0 (x0 :: xs) = C at c0
  have lC : C.length = xs.length + 1 := by rw [← hC, cells_len]; rfl
  generalize hH : (List.range' 0 (x0 :: xs).length).map Dv.hnd = HS at c0
  have lH : HS.length = xs.length + 1 := by rw [← hH, List.length_map, List.length_range']; rfl
  have aH : ∀ k, k < xs.length + 1 → HS[k]? = some (.hnd k) := fun k hk => by
    rw [← hH, List.getElem?_map, List.getElem?_range' (by simpa using hk)]
    simp
  have e1 : dCompR [3, 4] (iEnumX (dSplit (dName 0) (dC (.str "\n")))) (gT 2 (gsCons (gN 3) (gsCons (gN 4) gsNil))) cYes mkL [some (.p (.str text)), none, none, none, none, none] [] = .ok (.hnd C.length) (C ++ [.rcd HS]) := by
    unfold dCompR iEnumX dSplit
    simp only [e_seq, e_seq_nx, e_seq_rt, e_seq_ite, e_bind, e_bind_ite, e_toS, e_toS_ite, e_set, e_ret, e_expr, e_nil, e_if, e_name, e_C, e_bin, e_un, e_ifx, e_aNil, e_aCons, e_call, e_cVal, e_cNot, e_cAnd, e_cOr, e_and, e_or, e_not, e_add, e_sub, e_lt, e_le, e_gt, e_ge, e_neg, e_eqi, e_nei, e_isN, e_notN, e_partsE, e_ixT0, e_ixT1, e_ixT2, e_ixT3, e_ixT4, e_ixL0, e_ixL1, e_ixL2, e_ixL3, e_ixL4, e_callP, e_callE, e_allP, e_allP0, e_tup, e_lst, e_par, List.map_cons, List.map_nil, List.append_assoc, List.nil_append, List.cons_append, List.replicate, List.getElem?_cons_zero, List.getElem?_cons_succ, List.set_cons_zero, List.set_cons_succ, Option.map_some, if_true, if_false, Bool.false_eq_true, decide_eq_true_eq, List.length_cons, List.length_nil, bg0, bg1, bg2, bg3, bg4, bg5, bg6, bg7, bg8, bg9, bg10, bg11, bg12, bg13, bg14]
    rw [if_pos ⟨nl_len, hl⟩, hsp]
    rw [if_pos (by rw [enumD_len, List.length_map]; unfold big; rw [List.length_cons]; omega), c0]
    rfl
  have aC : ∀ (i : Nat) (x : Str), (x0 :: xs)[i]? = some x → C[i]? = some (lineC ((i : Int) + 1) x) := fun i x h => by
    rw [← hC, cells_at 0 (x0 :: xs) i x h, Nat.zero_add]
  have l0 : Lat (C ++ [.rcd HS]) 0 1 ((pcs x0).map DL.D.str) 0 := by
    unfold Lat
    rw [List.getElem?_append_left (by omega), aC 0 x0 rfl]
    rfl
  have q1 := rule_any l0
  have ix0 : oIx (.hnd C.length) (.p (.int 0)) (C ++ [.rcd HS]) = .ok (.hnd 0) (C ++ [.rcd HS]) := by
    unfold oIx sqOf vw
    dsimp only
    rw [at_end]
    dsimp only
    rw [show atI HS 0 = some (Dv.hnd 0) from atI_nat (j := 0) (aH 0 (by omega))]
  simp only [mkL] at e1
  unfold dueO
  dsimp only
  cases hr : rlBad (pcs x0) with
  | some b =>
    rw [hr] at q1
    obtain ⟨S', q1⟩ := q1
    show m_read_tickets [.str text] = _
    simp only [m_read_tickets, runP, init, b_read_tickets, e_seq, e_seq_nx, e_seq_rt, e_seq_ite, e_bind, e_bind_ite, e_toS, e_toS_ite, e_set, e_ret, e_expr, e_nil, e_if, e_name, e_C, e_bin, e_un, e_ifx, e_aNil, e_aCons, e_call, e_cVal, e_cNot, e_cAnd, e_cOr, e_and, e_or, e_not, e_add, e_sub, e_lt, e_le, e_gt, e_ge, e_neg, e_eqi, e_nei, e_isN, e_notN, e_partsE, e_ixT0, e_ixT1, e_ixT2, e_ixT3, e_ixT4, e_ixL0, e_ixL1, e_ixL2, e_ixL3, e_ixL4, e_callP, e_callE, e_allP, e_allP0, e_tup, e_lst, e_par, List.map_cons, List.map_nil, List.append_assoc, List.nil_append, List.cons_append, List.replicate, List.getElem?_cons_zero, List.getElem?_cons_succ, List.set_cons_zero, List.set_cons_succ, Option.map_some, if_true, if_false, Bool.false_eq_true, decide_eq_true_eq, List.length_cons, List.length_nil, bg0, bg1, bg2, bg3, bg4, bg5, bg6, bg7, bg8, bg9, bg10, bg11, bg12, bg13, bg14, e1, ix0, q1]
    rfl
  | none =>
    rw [hr] at q1
    obtain ⟨rd, q1⟩ := q1
    generalize hS2 : Lset (C ++ [Cell.rcd HS]) 0 1 ((pcs x0).map DL.D.str) 6 ++ [Cell.dead] = S2 at q1
    have lS2 : S2.length = C.length + 2 := by rw [← hS2, List.length_append, Lset_len, List.length_append]; rfl
    have aS2 : ∀ i, 0 < i → i < C.length → S2[i]? = C[i]? := fun i h1 h2 => by
      rw [← hS2, List.getElem?_append_left (by rw [Lset_len, List.length_append]; omega)]
      unfold Lset
      rw [List.getElem?_set_ne (by omega), List.getElem?_append_left h2]
    have rS2 : S2[C.length]? = some (.rcd HS) := by
      rw [← hS2, List.getElem?_append_left (by rw [Lset_len, List.length_append]; exact Nat.lt_succ_self _)]
      unfold Lset
      rw [List.getElem?_set_ne (by omega)]
      exact at_end
    have sl : dSlR (dName 1) (pAt (dC (.int 1))) pNo [some (.p (.str text)), some (.hnd C.length), some (.p rd), none, none, none] S2 = .ok (.hnd S2.length) (S2 ++ [.rcd (HS.drop 1)]) := by
      unfold dSlR pAt pNo
      simp only [e_seq, e_seq_nx, e_seq_rt, e_seq_ite, e_bind, e_bind_ite, e_toS, e_toS_ite, e_set, e_ret, e_expr, e_nil, e_if, e_name, e_C, e_bin, e_un, e_ifx, e_aNil, e_aCons, e_call, e_cVal, e_cNot, e_cAnd, e_cOr, e_and, e_or, e_not, e_add, e_sub, e_lt, e_le, e_gt, e_ge, e_neg, e_eqi, e_nei, e_isN, e_notN, e_partsE, e_ixT0, e_ixT1, e_ixT2, e_ixT3, e_ixT4, e_ixL0, e_ixL1, e_ixL2, e_ixL3, e_ixL4, e_callP, e_callE, e_allP, e_allP0, e_tup, e_lst, e_par, List.map_cons, List.map_nil, List.append_assoc, List.nil_append, List.cons_append, List.replicate, List.getElem?_cons_zero, List.getElem?_cons_succ, List.set_cons_zero, List.set_cons_succ, Option.map_some, if_true, if_false, Bool.false_eq_true, decide_eq_true_eq, List.length_cons, List.length_nil, bg0, bg1, bg2, bg3, bg4, bg5, bg6, bg7, bg8, bg9, bg10, bg11, bg12, bg13, bg14, rS2, cut1]
    have q2 := comp_any (n := S2.length) (es := HS.drop 1) (ρ := wipeN [some (.p (.str text)), some (.hnd C.length), some (.p rd), none, none, none] [5]) rfl xs xs.length 0 (S2 ++ [.rcd (HS.drop 1)]) at_end rfl (by rw [List.length_drop]; omega) hx (fun k hk => by
        rw [List.getElem?_drop, aH _ (by omega)]
        congr 2
        omega) (by omega) (fun k x hk => by
        have hk' : k < xs.length := (List.getElem?_eq_some_iff.mp hk).1
        unfold Lat
        rw [List.getElem?_append_left (by omega), aS2 _ (by omega) (by omega), show 0 + k + 1 = k + 1 by omega, aC (k + 1) x (by rw [List.getElem?_cons_succ]; exact hk)]
        rfl)
    have e3 : dCompX [5] (dSlR (dName 1) (pAt (dC (.int 1))) pNo) (gN 5) (dCallE m_ticket_in (aCons (dName 5) aNil)) [some (.p (.str text)), some (.hnd C.length), some (.p rd), none, none, none] S2 = (compLX (gN 5) (dCallE m_ticket_in (aCons (dName 5) aNil)) (wipeN [some (.p (.str text)), some (.hnd C.length), some (.p rd), none, none, none] [5]) S2.length xs.length 0 (S2 ++ [.rcd (HS.drop 1)])).bind fun r S2 => .ok (.p (.lst r)) S2 := by
      unfold dCompX
      rw [sl, e_bind]
      dsimp only
      rw [at_end]
      dsimp only
      rw [if_pos (by rw [List.length_drop]; unfold big; omega), show (HS.drop 1).length = xs.length by rw [List.length_drop]; omega]
    have e4 : ∀ (l : List DL.D) S, nTuple [.p (.lst l)] S = .ok (.p (.tup l)) S := fun _ S => rfl
    show match badAt 1 xs with
      | none => ∃ d, m_read_tickets [.str text] = .ok d
      | some (ln, b) => m_read_tickets [.str text] = .exc ⟨1, [.int (b : Nat), .int (ln : Nat)]⟩
    cases hb : badAt 1 xs with
    | none =>
      rw [show badAt (0 + 1) xs = none from hb] at q2
      obtain ⟨l, S', q2⟩ := q2
      rw [q2] at e3
      refine ⟨.tup [rd, .tup l], ?_⟩
      simp only [m_read_tickets, runP, init, b_read_tickets, e_seq, e_seq_nx, e_seq_rt, e_seq_ite, e_bind, e_bind_ite, e_toS, e_toS_ite, e_set, e_ret, e_expr, e_nil, e_if, e_name, e_C, e_bin, e_un, e_ifx, e_aNil, e_aCons, e_call, e_cVal, e_cNot, e_cAnd, e_cOr, e_and, e_or, e_not, e_add, e_sub, e_lt, e_le, e_gt, e_ge, e_neg, e_eqi, e_nei, e_isN, e_notN, e_partsE, e_ixT0, e_ixT1, e_ixT2, e_ixT3, e_ixT4, e_ixL0, e_ixL1, e_ixL2, e_ixL3, e_ixL4, e_callP, e_callE, e_allP, e_allP0, e_tup, e_lst, e_par, List.map_cons, List.map_nil, List.append_assoc, List.nil_append, List.cons_append, List.replicate, List.getElem?_cons_zero, List.getElem?_cons_succ, List.set_cons_zero, List.set_cons_succ, Option.map_some, if_true, if_false, Bool.false_eq_true, decide_eq_true_eq, List.length_cons, List.length_nil, bg0, bg1, bg2, bg3, bg4, bg5, bg6, bg7, bg8, bg9, bg10, bg11, bg12, bg13, bg14, e1, ix0, q1, e3, e4]
    | some z =>
      obtain ⟨ln, b⟩ := z
      rw [show badAt (0 + 1) xs = some (ln, b) from hb] at q2
      obtain ⟨S', q2⟩ := q2
      rw [q2] at e3
      show m_read_tickets [.str text] = _
      simp only [m_read_tickets, runP, init, b_read_tickets, e_seq, e_seq_nx, e_seq_rt, e_seq_ite, e_bind, e_bind_ite, e_toS, e_toS_ite, e_set, e_ret, e_expr, e_nil, e_if, e_name, e_C, e_bin, e_un, e_ifx, e_aNil, e_aCons, e_call, e_cVal, e_cNot, e_cAnd, e_cOr, e_and, e_or, e_not, e_add, e_sub, e_lt, e_le, e_gt, e_ge, e_neg, e_eqi, e_nei, e_isN, e_notN, e_partsE, e_ixT0, e_ixT1, e_ixT2, e_ixT3, e_ixT4, e_ixL0, e_ixL1, e_ixL2, e_ixL3, e_ixL4, e_callP, e_callE, e_allP, e_allP0, e_tup, e_lst, e_par, List.map_cons, List.map_nil, List.append_assoc, List.nil_append, List.cons_append, List.replicate, List.getElem?_cons_zero, List.getElem?_cons_succ, List.set_cons_zero, List.set_cons_succ, Option.map_some, if_true, if_false, Bool.false_eq_true, decide_eq_true_eq, List.length_cons, List.length_nil, bg0, bg1, bg2, bg3, bg4, bg5, bg6, bg7, bg8, bg9, bg10, bg11, bg12, bg13, bg14, e1, ix0, q1, e3]
      rfl

/-! ### what is told, what is due -/
def dueD (o : Option (Nat × Nat)) : DL.D := match o with
  | none => .non
  | some (ln, b) => .tup [.int (ln : Nat), .int (b : Nat)]
theorem told_any {text x0 : Str} {xs : List Str} (hsp : Txt.split text "\n" = x0 :: xs) (h0 : LnOk x0) (hx : ∀ x ∈ xs, LnOk x) (hl : text.length + 2 ≤ big) (hxl : xs.length ≤ 1000000) : m_law_told [.str text] = .ok (dueD (dueO (x0 :: xs))) := by
  have q := read_any hsp h0 hx hl hxl
  cases hd : dueO (x0 :: xs) with
  | none =>
    rw [hd] at q
    obtain ⟨d, q⟩ := q
    simp only [m_law_told, runP, init, b_law_told, e_seq, e_seq_nx, e_seq_rt, e_seq_ite, e_bind, e_bind_ite, e_toS, e_toS_ite, e_set, e_ret, e_expr, e_nil, e_if, e_name, e_C, e_bin, e_un, e_ifx, e_aNil, e_aCons, e_call, e_cVal, e_cNot, e_cAnd, e_cOr, e_and, e_or, e_not, e_add, e_sub, e_lt, e_le, e_gt, e_ge, e_neg, e_eqi, e_nei, e_isN, e_notN, e_partsE, e_ixT0, e_ixT1, e_ixT2, e_ixT3, e_ixT4, e_ixL0, e_ixL1, e_ixL2, e_ixL3, e_ixL4, e_callP, e_callE, e_allP, e_allP0, e_tup, e_lst, e_par, List.map_cons, List.map_nil, List.append_assoc, List.nil_append, List.cons_append, List.replicate, List.getElem?_cons_zero, List.getElem?_cons_succ, List.set_cons_zero, List.set_cons_succ, Option.map_some, if_true, if_false, Bool.false_eq_true, decide_eq_true_eq, List.length_cons, List.length_nil, bg0, bg1, bg2, bg3, bg4, bg5, bg6, bg7, bg8, bg9, bg10, bg11, bg12, bg13, bg14, sTryC, q]
    rfl
  | some z =>
    obtain ⟨ln, b⟩ := z
    rw [hd] at q
    have q : m_read_tickets [.str text] = .exc ⟨1, [.int (b : Nat), .int (ln : Nat)]⟩ := q
    simp only [m_law_told, runP, init, b_law_told, e_seq, e_seq_nx, e_seq_rt, e_seq_ite, e_bind, e_bind_ite, e_toS, e_toS_ite, e_set, e_ret, e_expr, e_nil, e_if, e_name, e_C, e_bin, e_un, e_ifx, e_aNil, e_aCons, e_call, e_cVal, e_cNot, e_cAnd, e_cOr, e_and, e_or, e_not, e_add, e_sub, e_lt, e_le, e_gt, e_ge, e_neg, e_eqi, e_nei, e_isN, e_notN, e_partsE, e_ixT0, e_ixT1, e_ixT2, e_ixT3, e_ixT4, e_ixL0, e_ixL1, e_ixL2, e_ixL3, e_ixL4, e_callP, e_callE, e_allP, e_allP0, e_tup, e_lst, e_par, List.map_cons, List.map_nil, List.append_assoc, List.nil_append, List.cons_append, List.replicate, List.getElem?_cons_zero, List.getElem?_cons_succ, List.set_cons_zero, List.set_cons_succ, Option.map_some, if_true, if_false, Bool.false_eq_true, decide_eq_true_eq, List.length_cons, List.length_nil, bg0, bg1, bg2, bg3, bg4, bg5, bg6, bg7, bg8, bg9, bg10, bg11, bg12, bg13, bg14, sTryC, q]
    rfl
theorem rngD_succ {n k : Nat} : rngD (n : Nat) (k + 1) = DL.D.int (n : Nat) :: rngD ((n + 1 : Nat) : Int) k := by
  unfold rngD
  rw [List.range_succ_eq_map, List.map_cons, List.map_map]
  refine congr (congrArg List.cons (by congr 1)) (List.map_congr_left fun i _ => ?_)
  show DL.D.int ((n : Int) + ((i + 1 : Nat) : Int)) = DL.D.int (((n + 1 : Nat) : Int) + (i : Nat))
  congr 1
  omega
def LD (text : Str) (rows : List Str) (x2 x3 x4 : Option Dv) : Nv := [some (.p (.str text)), some (.p (.lst (rows.map DL.D.str))), x2, x3, x4, none]
theorem words_eq {text x : Str} {rows : List Str} {k : Nat} {x3 x4 : Option Dv} {S : Sto} (hk : rows[k]? = some x) (hx : LnOk x) : dComp [5] (iSeq (dSplit (dBin oIx (dName 1) (dName 2)) (dC (.str " ")))) (gN 5) (cVal (dBin oNe (dName 5) (dC (.str "")))) (dName 5) (LD text rows (some (.p (.int (k : Nat)))) x3 x4) S = .ok (.p (.lst ((pcs x).map DL.D.str))) S := by
  have hl := hx.len
  have e1 : ∀ S, oIx (.p (.lst (rows.map DL.D.str))) (.p (.int (k : Nat))) S = .ok (.p (.str x)) S := fun S => e_ixL k (by rw [List.getElem?_map, hk]; rfl)
  have eS : iSeq (dSplit (dBin oIx (dName 1) (dName 2)) (dC (.str " "))) (LD text rows (some (.p (.int (k : Nat)))) x3 x4) S = .ok ((Txt.split x " ").map DL.D.str) S := by
    unfold LD iSeq dSplit
    simp only [e_seq, e_seq_nx, e_seq_rt, e_seq_ite, e_bind, e_bind_ite, e_toS, e_toS_ite, e_set, e_ret, e_expr, e_nil, e_if, e_name, e_C, e_bin, e_un, e_ifx, e_aNil, e_aCons, e_call, e_cVal, e_cNot, e_cAnd, e_cOr, e_and, e_or, e_not, e_add, e_sub, e_lt, e_le, e_gt, e_ge, e_neg, e_eqi, e_nei, e_isN, e_notN, e_partsE, e_ixT0, e_ixT1, e_ixT2, e_ixT3, e_ixT4, e_ixL0, e_ixL1, e_ixL2, e_ixL3, e_ixL4, e_callP, e_callE, e_allP, e_allP0, e_tup, e_lst, e_par, List.map_cons, List.map_nil, List.append_assoc, List.nil_append, List.cons_append, List.replicate, List.getElem?_cons_zero, List.getElem?_cons_succ, List.set_cons_zero, List.set_cons_succ, Option.map_some, if_true, if_false, Bool.false_eq_true, decide_eq_true_eq, List.length_cons, List.length_nil, bg0, bg1, bg2, bg3, bg4, bg5, bg6, bg7, bg8, bg9, bg10, bg11, bg12, bg13, bg14, e1]
    rw [if_pos ⟨bl_len, by unfold big; omega⟩]
  refine e_compF (S1 := S) eS (by rw [List.length_map]; have := split_few x; unfold big; omega) ?_
  have key := comp_filter (t := gN 5) (cf := cVal (dBin oNe (dName 5) (dC (.str "")))) (el := dName 5) (ρ := wipeN (LD text rows (some (.p (.int (k : Nat)))) x3 x4) [5]) (S := S)
    (fun d => match d with | .str w => !(w == "") | _ => false) id (ds := (Txt.split x " ").map DL.D.str) fun d hd => by
      obtain ⟨w, hw, rfl⟩ := List.mem_map.mp hd
      refine ⟨[some (.p (.str text)), some (.p (.lst (rows.map DL.D.str))), some (.p (.int (k : Nat))), x3, x4, some (.p (.str w))], rfl, ?_, fun _ => rfl⟩
      have q := e_nes (S := S) (split_ok hx.at_ hw) ok_em
      simp only [e_seq, e_seq_nx, e_seq_rt, e_seq_ite, e_bind, e_bind_ite, e_toS, e_toS_ite, e_set, e_ret, e_expr, e_nil, e_if, e_name, e_C, e_bin, e_un, e_ifx, e_aNil, e_aCons, e_call, e_cVal, e_cNot, e_cAnd, e_cOr, e_and, e_or, e_not, e_add, e_sub, e_lt, e_le, e_gt, e_ge, e_neg, e_eqi, e_nei, e_isN, e_notN, e_partsE, e_ixT0, e_ixT1, e_ixT2, e_ixT3, e_ixT4, e_ixL0, e_ixL1, e_ixL2, e_ixL3, e_ixL4, e_callP, e_callE, e_allP, e_allP0, e_tup, e_lst, e_par, List.map_cons, List.map_nil, List.append_assoc, List.nil_append, List.cons_append, List.replicate, List.getElem?_cons_zero, List.getElem?_cons_succ, List.set_cons_zero, List.set_cons_succ, Option.map_some, if_true, if_false, Bool.false_eq_true, decide_eq_true_eq, List.length_cons, List.length_nil, bg0, bg1, bg2, bg3, bg4, bg5, bg6, bg7, bg8, bg9, bg10, bg11, bg12, bg13, bg14, q]
  rw [key]
  congr 1
  rw [List.map_id, List.filter_map]
  rfl
def rowBad (k : Nat) (x : Str) : Option Nat := if k = 0 then rlBad (pcs x) else tkBad (pcs x)
theorem ld_turn {text x : Str} {rows : List Str} {k : Nat} {x3 x4 : Option Dv} {S : Sto} (hk : rows[k]? = some x) (hx : LnOk x) :
    ∃ y3 y4, (sSeq (sSet 3 (dComp [5] (iSeq (dSplit (dBin oIx (dName 1) (dName 2)) (dC (.str " ")))) (gN 5) (cVal (dBin oNe (dName 5) (dC (.str "")))) (dName 5))) (sSeq (sSet 4 (dIf (cVal (dBin oEq (dName 2) (dC (.int 0)))) (dCallP m_law_rule_bad (aCons (dName 3) aNil)) (dCallP m_law_ticket_bad (aCons (dName 3) aNil)))) (sIf (cVal (dBin oNotN (dName 4) (dC .non))) (sRet (dTup (aCons (dBin oAdd (dName 2) (dC (.int 1))) (aCons (dName 4) aNil)))) sNil))) (LD text rows (some (.p (.int (k : Nat)))) x3 x4) S = .ok (match rowBad k x with | none => .nx (LD text rows (some (.p (.int (k : Nat)))) y3 y4) | some b => .rt (.p (.tup [.int ((k + 1 : Nat) : Int), .int (b : Nat)]))) S := by
  have cp := words_eq (text := text) (x3 := x3) (x4 := x4) (S := S) hk hx
  have r1 := law_rule_any (ps := pcs x)
  have r2 := law_ticket_any (pcs_ok hx) (pcs_few hx)
  have n1 : ∀ S, oNotN (.p .non) (.p .non) S = .ok (.p (.bl false)) S := fun _ => rfl
  have n2 : ∀ (i : Int) S, oNotN (.p (.int i)) (.p .non) S = .ok (.p (.bl true)) S := fun _ _ => rfl
  refine ⟨some (.p (.lst ((pcs x).map DL.D.str))), some (.p (oD (rowBad k x))), ?_⟩
  have e4 : ∀ S, dIf (cVal (dBin oEq (dName 2) (dC (.int 0)))) (dCallP m_law_rule_bad (aCons (dName 3) aNil)) (dCallP m_law_ticket_bad (aCons (dName 3) aNil)) (LD text rows (some (.p (.int (k : Nat)))) (some (.p (.lst ((pcs x).map DL.D.str)))) x4) S = .ok (.p (oD (rowBad k x))) S := fun S => by
    unfold LD rowBad
    by_cases h0 : k = 0
    · subst h0
      have z : ((((0 : Nat) : Int)) == 0) = true := rfl
      rw [if_pos rfl]
      simp only [e_seq, e_seq_nx, e_seq_rt, e_seq_ite, e_bind, e_bind_ite, e_toS, e_toS_ite, e_set, e_ret, e_expr, e_nil, e_if, e_name, e_C, e_bin, e_un, e_ifx, e_aNil, e_aCons, e_call, e_cVal, e_cNot, e_cAnd, e_cOr, e_and, e_or, e_not, e_add, e_sub, e_lt, e_le, e_gt, e_ge, e_neg, e_eqi, e_nei, e_isN, e_notN, e_partsE, e_ixT0, e_ixT1, e_ixT2, e_ixT3, e_ixT4, e_ixL0, e_ixL1, e_ixL2, e_ixL3, e_ixL4, e_callP, e_callE, e_allP, e_allP0, e_tup, e_lst, e_par, List.map_cons, List.map_nil, List.append_assoc, List.nil_append, List.cons_append, List.replicate, List.getElem?_cons_zero, List.getElem?_cons_succ, List.set_cons_zero, List.set_cons_succ, Option.map_some, if_true, if_false, Bool.false_eq_true, decide_eq_true_eq, List.length_cons, List.length_nil, bg0, bg1, bg2, bg3, bg4, bg5, bg6, bg7, bg8, bg9, bg10, bg11, bg12, bg13, bg14, z, r1]
    · have z : (((k : Nat) : Int) == 0) = false := beq_eq_false_iff_ne.mpr (by omega)
      rw [if_neg h0]
      simp only [e_seq, e_seq_nx, e_seq_rt, e_seq_ite, e_bind, e_bind_ite, e_toS, e_toS_ite, e_set, e_ret, e_expr, e_nil, e_if, e_name, e_C, e_bin, e_un, e_ifx, e_aNil, e_aCons, e_call, e_cVal, e_cNot, e_cAnd, e_cOr, e_and, e_or, e_not, e_add, e_sub, e_lt, e_le, e_gt, e_ge, e_neg, e_eqi, e_nei, e_isN, e_notN, e_partsE, e_ixT0, e_ixT1, e_ixT2, e_ixT3, e_ixT4, e_ixL0, e_ixL1, e_ixL2, e_ixL3, e_ixL4, e_callP, e_callE, e_allP, e_allP0, e_tup, e_lst, e_par, List.map_cons, List.map_nil, List.append_assoc, List.nil_append, List.cons_append, List.replicate, List.getElem?_cons_zero, List.getElem?_cons_succ, List.set_cons_zero, List.set_cons_succ, Option.map_some, if_true, if_false, Bool.false_eq_true, decide_eq_true_eq, List.length_cons, List.length_nil, bg0, bg1, bg2, bg3, bg4, bg5, bg6, bg7, bg8, bg9, bg10, bg11, bg12, bg13, bg14, z, r2]
  rw [e_seq, e_set, cp]
  show OS.seq (OS.ok (.nx (LD text rows (some (.p (.int (k : Nat)))) (some (.p (.lst ((pcs x).map DL.D.str)))) x4)) S) _ = _
  rw [e_seq_nx, e_seq, e_set, e4]
  show OS.seq (OS.ok (.nx (LD text rows (some (.p (.int (k : Nat)))) (some (.p (.lst ((pcs x).map DL.D.str)))) (some (.p (oD (rowBad k x)))))) S) _ = _
  rw [e_seq_nx]
  cases hb : rowBad k x with
  | none =>
    unfold LD oD
    simp only [e_seq, e_seq_nx, e_seq_rt, e_seq_ite, e_bind, e_bind_ite, e_toS, e_toS_ite, e_set, e_ret, e_expr, e_nil, e_if, e_name, e_C, e_bin, e_un, e_ifx, e_aNil, e_aCons, e_call, e_cVal, e_cNot, e_cAnd, e_cOr, e_and, e_or, e_not, e_add, e_sub, e_lt, e_le, e_gt, e_ge, e_neg, e_eqi, e_nei, e_isN, e_notN, e_partsE, e_ixT0, e_ixT1, e_ixT2, e_ixT3, e_ixT4, e_ixL0, e_ixL1, e_ixL2, e_ixL3, e_ixL4, e_callP, e_callE, e_allP, e_allP0, e_tup, e_lst, e_par, List.map_cons, List.map_nil, List.append_assoc, List.nil_append, List.cons_append, List.replicate, List.getElem?_cons_zero, List.getElem?_cons_succ, List.set_cons_zero, List.set_cons_succ, Option.map_some, if_true, if_false, Bool.false_eq_true, decide_eq_true_eq, List.length_cons, List.length_nil, bg0, bg1, bg2, bg3, bg4, bg5, bg6, bg7, bg8, bg9, bg10, bg11, bg12, bg13, bg14, n1]
    all_goals rfl
  | some b =>
    unfold LD oD
    simp only [e_seq, e_seq_nx, e_seq_rt, e_seq_ite, e_bind, e_bind_ite, e_toS, e_toS_ite, e_set, e_ret, e_expr, e_nil, e_if, e_name, e_C, e_bin, e_un, e_ifx, e_aNil, e_aCons, e_call, e_cVal, e_cNot, e_cAnd, e_cOr, e_and, e_or, e_not, e_add, e_sub, e_lt, e_le, e_gt, e_ge, e_neg, e_eqi, e_nei, e_isN, e_notN, e_partsE, e_ixT0, e_ixT1, e_ixT2, e_ixT3, e_ixT4, e_ixL0, e_ixL1, e_ixL2, e_ixL3, e_ixL4, e_callP, e_callE, e_allP, e_allP0, e_tup, e_lst, e_par, List.map_cons, List.map_nil, List.append_assoc, List.nil_append, List.cons_append, List.replicate, List.getElem?_cons_zero, List.getElem?_cons_succ, List.set_cons_zero, List.set_cons_succ, Option.map_some, if_true, if_false, Bool.false_eq_true, decide_eq_true_eq, List.length_cons, List.length_nil, bg0, bg1, bg2, bg3, bg4, bg5, bg6, bg7, bg8, bg9, bg10, bg11, bg12, bg13, bg14, n2]
    all_goals rfl
theorem ld_loop {text : Str} {rows : List Str} {S : Sto} : ∀ (xs : List Str) (j : Nat) (x2 x3 x4 : Option Dv), 1 ≤ j → (∀ k x, xs[k]? = some x → rows[j + k]? = some x ∧ LnOk x) →
    match badAt j xs with
    | none => ∃ y2 y3 y4, forL (gN 2) (sSeq (sSet 3 (dComp [5] (iSeq (dSplit (dBin oIx (dName 1) (dName 2)) (dC (.str " ")))) (gN 5) (cVal (dBin oNe (dName 5) (dC (.str "")))) (dName 5))) (sSeq (sSet 4 (dIf (cVal (dBin oEq (dName 2) (dC (.int 0)))) (dCallP m_law_rule_bad (aCons (dName 3) aNil)) (dCallP m_law_ticket_bad (aCons (dName 3) aNil)))) (sIf (cVal (dBin oNotN (dName 4) (dC .non))) (sRet (dTup (aCons (dBin oAdd (dName 2) (dC (.int 1))) (aCons (dName 4) aNil)))) sNil))) (rngD j xs.length) (LD text rows x2 x3 x4) S = .ok (.nx (LD text rows y2 y3 y4)) S
    | some (ln, b) => forL (gN 2) (sSeq (sSet 3 (dComp [5] (iSeq (dSplit (dBin oIx (dName 1) (dName 2)) (dC (.str " ")))) (gN 5) (cVal (dBin oNe (dName 5) (dC (.str "")))) (dName 5))) (sSeq (sSet 4 (dIf (cVal (dBin oEq (dName 2) (dC (.int 0)))) (dCallP m_law_rule_bad (aCons (dName 3) aNil)) (dCallP m_law_ticket_bad (aCons (dName 3) aNil)))) (sIf (cVal (dBin oNotN (dName 4) (dC .non))) (sRet (dTup (aCons (dBin oAdd (dName 2) (dC (.int 1))) (aCons (dName 4) aNil)))) sNil))) (rngD j xs.length) (LD text rows x2 x3 x4) S = .ok (.rt (.p (.tup [.int (ln : Nat), .int (b : Nat)]))) S
  | [], j, x2, x3, x4, _, _ => ⟨x2, x3, x4, rfl⟩
  | x :: xs, j, x2, x3, x4, hj, h => by
    obtain ⟨h1, h2⟩ := h 0 x rfl
    obtain ⟨y3, y4, t⟩ := ld_turn (text := text) (x3 := x3) (x4 := x4) (S := S) h1 h2
    rw [Nat.add_zero] at t
    have er : rngD (j : Nat) (x :: xs).length = DL.D.int (j : Nat) :: rngD ((j + 1 : Nat) : Int) xs.length := rngD_succ
    have eb : rowBad j x = tkBad (pcs x) := by unfold rowBad; rw [if_neg (by omega)]
    rw [eb] at t
    rw [er]
    unfold badAt
    cases ht : tkBad (pcs x) with
    | some b =>
      rw [ht] at t
      exact forL_rt (ρ1 := LD text rows (some (.p (.int (j : Nat)))) x3 x4) rfl t
    | none =>
      rw [ht] at t
      have ih := ld_loop (text := text) (S := S) xs (j + 1) (some (.p (.int (j : Nat)))) y3 y4 (by omega) (fun k x hk => by
        have := h (k + 1) x (by rw [List.getElem?_cons_succ]; exact hk)
        rw [show j + (k + 1) = j + 1 + k by omega] at this
        exact this)
      rw [forL_nx (ρ1 := LD text rows (some (.p (.int (j : Nat)))) x3 x4) rfl t]
      exact ih
theorem due_fin {text : Str} {RW EN : List DL.D} {r : OS} {v : DL.D} (spl : ∀ S, dSplit (dName 0) (dC (.str "\n")) [some (.p (.str text)), none, none, none, none, none] S = .ok (.p (.lst RW)) S)
    (it : DL.iRng1 (dCall nLen (aCons (dName 1) aNil)) [some (.p (.str text)), some (.p (.lst RW)), none, none, none, none] [] = .ok EN [])
    (e : forL (gN 2) (sSeq (sSet 3 (dComp [5] (iSeq (dSplit (dBin oIx (dName 1) (dName 2)) (dC (.str " ")))) (gN 5) (cVal (dBin oNe (dName 5) (dC (.str "")))) (dName 5))) (sSeq (sSet 4 (dIf (cVal (dBin oEq (dName 2) (dC (.int 0)))) (dCallP m_law_rule_bad (aCons (dName 3) aNil)) (dCallP m_law_ticket_bad (aCons (dName 3) aNil)))) (sIf (cVal (dBin oNotN (dName 4) (dC .non))) (sRet (dTup (aCons (dBin oAdd (dName 2) (dC (.int 1))) (aCons (dName 4) aNil)))) sNil))) EN [some (.p (.str text)), some (.p (.lst RW)), none, none, none, none] [] = r)
    (hr : (match r.seq (sRet (dC .non)) with
      | .ok (.rt (.p d)) _ => DL.PO.ok d
      | .ok (.rt (.hnd i)) S => (match S[i]? with
        | some (.lst es) => .ok (.lst es)
        | _ => .bad)
      | .ok (.nx _) _ => .ok .non
      | .ok _ _ => .bad
      | .exc x _ _ => .exc x
      | .bad => .bad) = .ok v) : m_law_due [.str text] = .ok v := by
  have h : b_law_due [some (.p (.str text)), none, none, none, none, none] [] = r.seq (sRet (dC .non)) := by
    unfold b_law_due
    rw [e_seq, e_set, spl]
    show OS.seq (OS.ok (.nx [some (.p (.str text)), some (.p (.lst RW)), none, none, none, none]) []) _ = _
    rw [e_seq_nx, e_seq, e_sFor, it]
    show OS.seq (forL _ _ EN _ []) _ = _
    rw [e]
  have h2 : m_law_due [.str text] = (match b_law_due [some (.p (.str text)), none, none, none, none, none] [] with
      | .ok (.rt (.p d)) _ => DL.PO.ok d
      | .ok (.rt (.hnd i)) S => (match S[i]? with
        | some (.lst es) => .ok (.lst es)
        | _ => .bad)
      | .ok (.nx _) _ => .ok .non
      | .ok _ _ => .bad
      | .exc x _ _ => .exc x
      | .bad => .bad) := by
    unfold m_law_due runP init
    generalize b_law_due = BD
    show (match BD [some (.p (.str text)), none, none, none, none, none] [] with | .ok (.rt (.p d)) _ => _ | .ok (.rt (.hnd i)) S => _ | .ok (.nx _) _ => _ | .ok _ _ => _ | .exc x _ _ => _ | .bad => _) = _
    generalize BD [some (.p (.str text)), none, none, none, none, none] [] = Z
    cases Z with
    | ok fl S => cases fl with
      | rt d => cases d <;> rfl
      | _ => rfl
    | _ => rfl
  rw [h2, h]
  exact hr
theorem due_any {text x0 : Str} {xs : List Str} (hsp : Txt.split text "\n" = x0 :: xs) (h0 : LnOk x0) (hx : ∀ x ∈ xs, LnOk x) (hl : text.length + 2 ≤ big) (hxl : xs.length ≤ 1000000) : m_law_due [.str text] = .ok (dueD (dueO (x0 :: xs))) := by
  have spl : ∀ S, dSplit (dName 0) (dC (.str "\n")) [some (.p (.str text)), none, none, none, none, none] S = .ok (.p (.lst ((x0 :: xs).map DL.D.str))) S := fun S => by
    unfold dSplit
    simp only [e_seq, e_seq_nx, e_seq_rt, e_seq_ite, e_bind, e_bind_ite, e_toS, e_toS_ite, e_set, e_ret, e_expr, e_nil, e_if, e_name, e_C, e_bin, e_un, e_ifx, e_aNil, e_aCons, e_call, e_cVal, e_cNot, e_cAnd, e_cOr, e_and, e_or, e_not, e_add, e_sub, e_lt, e_le, e_gt, e_ge, e_neg, e_eqi, e_nei, e_isN, e_notN, e_partsE, e_ixT0, e_ixT1, e_ixT2, e_ixT3, e_ixT4, e_ixL0, e_ixL1, e_ixL2, e_ixL3, e_ixL4, e_callP, e_callE, e_allP, e_allP0, e_tup, e_lst, e_par, List.map_cons, List.map_nil, List.append_assoc, List.nil_append, List.cons_append, List.replicate, List.getElem?_cons_zero, List.getElem?_cons_succ, List.set_cons_zero, List.set_cons_succ, Option.map_some, if_true, if_false, Bool.false_eq_true, decide_eq_true_eq, List.length_cons, List.length_nil, bg0, bg1, bg2, bg3, bg4, bg5, bg6, bg7, bg8, bg9, bg10, bg11, bg12, bg13, bg14]
    rw [if_pos ⟨nl_len, hl⟩, hsp]
    all_goals rfl
  obtain ⟨y3, y4, t⟩ := ld_turn (text := text) (rows := x0 :: xs) (k := 0) (x3 := none) (x4 := none) (S := []) rfl h0
  have L := ld_loop (text := text) (rows := x0 :: xs) (S := []) xs 1 (some (.p (.int ((0 : Nat) : Int)))) y3 y4 (Nat.le_refl _) (fun k x hk => ⟨by rw [Nat.add_comm, List.getElem?_cons_succ]; exact hk, hx x (List.mem_of_getElem? hk)⟩)
  have it : ∀ S, DL.iRng1 (dCall nLen (aCons (dName 1) aNil)) (LD text (x0 :: xs) none none none) S = .ok (rngD ((0 : Nat) : Int) (xs.length + 1)) S := fun S => by
    have nl : ∀ S, nLen [.p (.lst ((x0 :: xs).map DL.D.str))] S = .ok (.p (.int (xs.length + 1 : Nat))) S := fun S => by rw [nLen_lst, List.length_map]; rfl
    rw [e_rng1 (f := dCall nLen (aCons (dName 1) aNil)) (ρ := LD text (x0 :: xs) none none none) (S := S) (S1 := S) (j := ((xs.length + 1 : Nat) : Int)) (nl S) (by omega)]
    rfl
  have eb : rowBad 0 x0 = rlBad (pcs x0) := rfl
  rw [eb] at t
  rw [rngD_succ] at it
  unfold dueO
  dsimp only
  have fin : ∀ r : OS, forL (gN 2) (sSeq (sSet 3 (dComp [5] (iSeq (dSplit (dBin oIx (dName 1) (dName 2)) (dC (.str " ")))) (gN 5) (cVal (dBin oNe (dName 5) (dC (.str "")))) (dName 5))) (sSeq (sSet 4 (dIf (cVal (dBin oEq (dName 2) (dC (.int 0)))) (dCallP m_law_rule_bad (aCons (dName 3) aNil)) (dCallP m_law_ticket_bad (aCons (dName 3) aNil)))) (sIf (cVal (dBin oNotN (dName 4) (dC .non))) (sRet (dTup (aCons (dBin oAdd (dName 2) (dC (.int 1))) (aCons (dName 4) aNil)))) sNil))) (DL.D.int ((0 : Nat) : Int) :: rngD ((0 + 1 : Nat) : Int) xs.length) (LD text (x0 :: xs) none none none) [] = r →
      ∀ o : Option (Nat × Nat), (match o with | none => ∃ y2 y3 y4, r = .ok (.nx (LD text (x0 :: xs) y2 y3 y4)) [] | some (ln, b) => r = .ok (.rt (.p (.tup [.int (ln : Nat), .int (b : Nat)]))) []) → m_law_due [.str text] = .ok (dueD o) := fun r e o ho => by
    cases o with
    | none =>
      obtain ⟨y2, y3, y4, rfl⟩ := ho
      exact due_fin spl (it []) e rfl
    | some z =>
      obtain ⟨ln, b⟩ := z
      have ho : r = _ := ho
      subst ho
      exact due_fin spl (it []) e rfl
  cases hr : rlBad (pcs x0) with
  | some b =>
    rw [hr] at t
    exact fin _ (forL_rt (ρ1 := LD text (x0 :: xs) (some (.p (.int ((0 : Nat) : Int)))) none none) rfl t) (some (1, b)) rfl
  | none =>
    rw [hr] at t
    have e := forL_nx (t := gN 2) (ds := rngD ((0 + 1 : Nat) : Int) xs.length) (d := .int ((0 : Nat) : Int)) (ρ := LD text (x0 :: xs) none none none) (ρ1 := LD text (x0 :: xs) (some (.p (.int ((0 : Nat) : Int)))) none none) rfl t
    exact fin _ e (badAt 1 xs) L

/-! ### texts of bounded size -/
/-- the signs of rows, each with one more -/
def wt (rows : List (List Nat)) : Nat := (rows.map fun r => r.length + 1).sum
theorem wt_nil : wt [] = 0 := rfl
theorem wt_cons {r : List Nat} {rows : List (List Nat)} : wt (r :: rows) = r.length + 1 + wt rows := rfl
theorem wt_app : ∀ {a b : List (List Nat)}, wt (a ++ b) = wt a + wt b
  | [], b => by rw [List.nil_append, wt_nil]; omega
  | r :: a, b => by rw [List.cons_append, wt_cons, wt_cons, wt_app]; omega
theorem wt_spl {s : Nat} : ∀ (l acc : List Nat), wt (TL.spl [s] 0 acc l) = acc.length + l.length + 1
  | [], acc => by rw [TL.spl_nil]; rfl
  | c :: r, acc => by
    cases hp : TL.pre [s] (c :: r) with
    | true =>
      rw [TL.spl_hit hp, wt_cons]
      have := wt_spl (s := s) r []
      rw [List.length_nil] at this
      show acc.length + 1 + wt (TL.spl [s] ([s].length - 1) [] r) = _
      rw [show [s].length - 1 = 0 from rfl, this, List.length_cons]
      omega
    | false =>
      rw [TL.spl_miss hp, wt_spl r (acc ++ [c])]
      simp only [List.length_append, List.length_cons, List.length_nil]
      omega
theorem spl_ne {s : Nat} : ∀ (l acc : List Nat), TL.spl [s] 0 acc l ≠ []
  | [], acc => by rw [TL.spl_nil]; simp
  | c :: r, acc => by
    cases hp : TL.pre [s] (c :: r) with
    | true => rw [TL.spl_hit hp]; simp
    | false => rw [TL.spl_miss hp]; exact spl_ne r _
theorem wt_take {rows : List (List Nat)} {k : Nat} : wt (rows.take k) + wt (rows.drop k) = wt rows := by
  rw [← wt_app, List.take_append_drop]
theorem wt_join {s : Nat} : ∀ {ps : List (List Nat)}, ps ≠ [] → (TL.joinL [s] ps).length + 1 = wt ps
  | [p], _ => by
    unfold TL.joinL
    rfl
  | p :: q :: ps, _ => by
    have ih := wt_join (s := s) (ps := q :: ps) (by simp)
    unfold TL.joinL
    rw [wt_cons, ← ih]
    simp only [List.length_append, List.length_singleton]
    omega
/-- rows of a text -/
structure RwOk (rows : List Str) (n : Nat) : Prop where
  ne : rows ≠ []
  at_ : ∀ r ∈ rows, ∀ c ∈ TL.tl r, c < 256
  le : wt (rows.map TL.tl) ≤ n
theorem spl_shortN : ∀ (l acc : List Nat), ∀ p ∈ TL.spl [10] 0 acc l, p.length ≤ acc.length + l.length := fun l acc p h => by
  have h1 := wt_spl (s := 10) l acc
  have h2 : ∀ rows : List (List Nat), p ∈ rows → p.length + 1 ≤ wt rows := fun rows => by
    induction rows with
    | nil => intro h; cases h
    | cons r rows ih =>
      intro h
      rw [wt_cons]
      rcases List.mem_cons.mp h with rfl | h
      · omega
      · have := ih h; omega
  have := h2 _ h
  omega
theorem split_nlT (x : Str) : (Txt.split x "\n").map TL.tl = TL.spl [10] 0 [] (TL.tl x) := by
  rw [TL.split_spl x _ (by rw [tl_nl]; simp) (TL.kind_ok nl_all), tl_nl]
theorem wt_len : ∀ rows : List (List Nat), rows.length ≤ wt rows
  | [] => Nat.le_refl _
  | r :: rows => by rw [wt_cons, List.length_cons]; have := wt_len rows; omega
/-- what is told of a text is what is due -/
theorem same_any {text : Str} (hc : ∀ c ∈ TL.tl text, c < 256) (hl : text.length + 2 ≤ 100000) : ∃ o : Option (Nat × Nat), m_law_told [.str text] = .ok (dueD o) ∧ m_law_due [.str text] = .ok (dueD o) := by
  have hs := split_nlT text
  have hw := wt_spl (s := 10) (TL.tl text) []
  rw [List.length_nil, Nat.zero_add, ← TL.len_tl] at hw
  cases he : Txt.split text "\n" with
  | nil =>
    rw [he] at hs
    exact absurd hs.symm (spl_ne _ _)
  | cons x0 xs =>
    have ok : ∀ x ∈ x0 :: xs, LnOk x := fun x hx => by
      have hm : TL.tl x ∈ TL.spl [10] 0 [] (TL.tl text) := by rw [← hs, he]; exact List.mem_map.mpr ⟨x, hx, rfl⟩
      refine ⟨?_, fun c hcx => ?_⟩
      · have := spl_shortN _ _ _ hm
        rw [List.length_nil, Nat.zero_add, ← TL.len_tl, ← TL.len_tl] at this
        omega
      · rcases spl_mem hm c hcx with e | e
        · cases e
        · exact hc c e
    have few : xs.length ≤ 1000000 := by
      have h1 := wt_len (TL.spl [10] 0 [] (TL.tl text))
      rw [hw, ← hs, he, List.length_map, List.length_cons] at h1
      omega
    have hb : text.length + 2 ≤ big := by unfold big; omega
    exact ⟨dueO (x0 :: xs), told_any he (ok x0 List.mem_cons_self) (fun x hx => ok x (List.mem_cons_of_mem _ hx)) hb few, due_any he (ok x0 List.mem_cons_self) (fun x hx => ok x (List.mem_cons_of_mem _ hx)) hb few⟩

/-! ### texts written -/
def rowT (ws : List Str) : Str := Txt.join " " ws
def textT (rows : List Str) : Str := Txt.join "\n" rows
theorem joinL_len {S : List Nat} : ∀ l : List (List Nat), (TL.joinL S l).length ≤ (l.map List.length).sum + l.length * S.length
  | [] => Nat.zero_le _
  | [p] => by
    show p.length ≤ (p.length + 0) + 1 * S.length
    omega
  | p :: q :: r => by
    have ih := joinL_len (S := S) (q :: r)
    show (p ++ (S ++ TL.joinL S (q :: r))).length ≤ _
    rw [List.length_append, List.length_append, List.map_cons, List.sum_cons, List.length_cons (a := p), Nat.succ_mul]
    omega
theorem joinL_mem {S : List Nat} {c : Nat} : ∀ {l : List (List Nat)}, c ∈ TL.joinL S l → c ∈ S ∨ ∃ p ∈ l, c ∈ p
  | [], h => by cases h
  | [p], h => .inr ⟨p, List.mem_cons_self, h⟩
  | p :: q :: r, h => by
    rcases List.mem_append.mp (show c ∈ p ++ (S ++ TL.joinL S (q :: r)) from h) with h | h
    · exact .inr ⟨p, List.mem_cons_self, h⟩
    · rcases List.mem_append.mp h with h | h
      · exact .inl h
      · rcases joinL_mem h with h | ⟨z, hz, h⟩
        · exact .inl h
        · exact .inr ⟨z, List.mem_cons_of_mem _ hz, h⟩
theorem tl_row (ws : List Str) : TL.tl (rowT ws) = TL.joinL [32] (ws.map TL.tl) := by
  unfold rowT
  rw [TL.join_eq, TL.tl_join, tl_bl]
theorem tl_text (rows : List Str) : TL.tl (textT rows) = TL.joinL [10] (rows.map TL.tl) := by
  unfold textT
  rw [TL.join_eq, TL.tl_join, tl_nl]
theorem sum_le {k : Nat} : ∀ {l : List Nat}, (∀ n ∈ l, n ≤ k) → l.sum ≤ l.length * k
  | [], _ => Nat.zero_le _
  | n :: l, h => by
    have := h n List.mem_cons_self
    have ih := sum_le (l := l) fun m hm => h m (List.mem_cons_of_mem _ hm)
    rw [List.sum_cons, List.length_cons, Nat.succ_mul]
    omega
/-- words of a row -/
structure Wds (ws : List Str) : Prop where
  ne : ws ≠ []
  w : ∀ x ∈ ws, IsW x
  l : ∀ x ∈ ws, x.length ≤ 40
  n : ws.length ≤ 6
theorem row_len {ws : List Str} (h : Wds ws) : (rowT ws).length ≤ 246 := by
  have q := joinL_len (S := [32]) (ws.map TL.tl)
  rw [← tl_row, ← TL.len_tl, List.map_map, List.length_map] at q
  have s := sum_le (k := 40) (l := ws.map (List.length ∘ TL.tl)) fun n hn => by
    obtain ⟨x, hx, rfl⟩ := List.mem_map.mp hn
    have := h.l x hx
    rw [TL.len_tl] at this
    exact this
  rw [List.length_map] at s
  have hn := h.n
  have e : [32].length = 1 := rfl
  rw [e] at q
  have : ws.length * 40 ≤ 6 * 40 := Nat.mul_le_mul_right _ hn
  omega
theorem row_at {ws : List Str} (h : Wds ws) : ∀ c ∈ TL.tl (rowT ws), c < 256 ∧ c ≠ 10 := fun c hc => by
  rw [tl_row] at hc
  rcases joinL_mem hc with e | ⟨p, hp, e⟩
  · rw [List.mem_singleton.mp e]; decide
  · obtain ⟨x, hx, rfl⟩ := List.mem_map.mp hp
    have := (h.w x hx).at_ c e
    exact ⟨this.2.2, this.2.1⟩
theorem row_ln {ws : List Str} (h : Wds ws) : LnOk (rowT ws) := ⟨by have := row_len h; omega, fun c hc => (row_at h c hc).1⟩
theorem row_pcs {ws : List Str} (h : Wds ws) : pcs (rowT ws) = ws := by
  refine pcs_of ?_
  rw [tl_row]
  refine pc_join (fun e => h.ne (List.map_eq_nil_iff.mp e)) fun w hw => ?_
  obtain ⟨x, hx, rfl⟩ := List.mem_map.mp hw
  exact ⟨(h.w x hx).ne, (h.w x hx).bl⟩
theorem row_split {ws : List Str} (h : Wds ws) : Txt.split (rowT ws) " " = ws := TL.split_join tl_bl bl_all h.ne fun p hp => (h.w p hp).bl
theorem text_split {rows : List Str} (hne : rows ≠ []) (h : ∀ x ∈ rows, 10 ∉ TL.tl x) : Txt.split (textT rows) "\n" = rows := TL.split_join tl_nl nl_all hne h
theorem text_len {rows : List Str} {k : Nat} (h : ∀ x ∈ rows, x.length ≤ k) : (textT rows).length ≤ rows.length * (k + 1) := by
  have q := joinL_len (S := [10]) (rows.map TL.tl)
  rw [← tl_text, ← TL.len_tl, List.map_map, List.length_map] at q
  have s := sum_le (k := k) (l := rows.map (List.length ∘ TL.tl)) fun n hn => by
    obtain ⟨x, hx, rfl⟩ := List.mem_map.mp hn
    have := h x hx
    rw [TL.len_tl] at this
    exact this
  rw [List.length_map] at s
  have e : [10].length = 1 := rfl
  rw [e] at q
  rw [Nat.mul_add]
  omega
theorem text_at {rows : List Str} (h : ∀ x ∈ rows, ∀ c ∈ TL.tl x, c < 256) : ∀ c ∈ TL.tl (textT rows), c < 256 := fun c hc => by
  rw [tl_text] at hc
  rcases joinL_mem hc with e | ⟨p, hp, e⟩
  · rw [List.mem_singleton.mp e]; decide
  · obtain ⟨x, hx, rfl⟩ := List.mem_map.mp hp
    exact h x hx c e
theorem strs_map : ∀ ws : List Str, strsOf (ws.map DL.D.str) = some ws
  | [] => rfl
  | w :: ws => by
    rw [List.map_cons]
    unfold strsOf
    rw [strs_map ws]; rfl
theorem sum_map_le {k : Nat} {ws : List Str} (h : ∀ x ∈ ws, x.length ≤ k) : (ws.map (·.length)).sum ≤ ws.length * k := by
  have := sum_le (k := k) (l := ws.map (·.length)) fun n hn => by
    obtain ⟨x, hx, rfl⟩ := List.mem_map.mp hn
    exact h x hx
  rwa [List.length_map] at this
theorem e_join_row {ws : List Str} (h : Wds ws) {g : Ef} {ρ : Nv} {S S1 : Sto} (hg : g ρ S = .ok (.p (.lst (ws.map DL.D.str))) S1) : dJoin (dC (.str " ")) g ρ S = .ok (.p (.str (rowT ws))) S1 := by
  have q : (ws.map Str.length).sum ≤ ws.length * 40 := sum_map_le h.l
  have hn := h.n
  have : ws.length * 40 ≤ 6 * 40 := Nat.mul_le_mul_right _ hn
  have eb : ((" " : Str)).length = 1 := by decide +kernel
  unfold dJoin
  rw [e_C, e_bind]
  dsimp only
  rw [hg, e_bind]
  show (match strsOf (ws.map DL.D.str) with | some ys => (if (ys.map Str.length).sum + ys.length * ((" " : Str)).length ≤ 16777216 then Out.ok (Dv.p (.str (Txt.join " " ys))) S1 else .bad) | none => .bad) = _
  rw [strs_map]
  dsimp only
  rw [if_pos (by rw [eb]; omega)]; rfl
theorem e_join_text {rows : List Str} (h : ∀ x ∈ rows, x.length ≤ 1000) (hn : rows.length ≤ 100) {g : Ef} {ρ : Nv} {S S1 : Sto} (hg : g ρ S = .ok (.p (.lst (rows.map DL.D.str))) S1) : dJoin (dC (.str "\n")) g ρ S = .ok (.p (.str (textT rows))) S1 := by
  have q : (rows.map Str.length).sum ≤ rows.length * 1000 := sum_map_le h
  have : rows.length * 1000 ≤ 100 * 1000 := Nat.mul_le_mul_right _ hn
  have eb : (("\n" : Str)).length = 1 := by decide +kernel
  unfold dJoin
  rw [e_C, e_bind]
  dsimp only
  rw [hg, e_bind]
  show (match strsOf (rows.map DL.D.str) with | some ys => (if (ys.map Str.length).sum + ys.length * (("\n" : Str)).length ≤ 16777216 then Out.ok (Dv.p (.str (Txt.join "\n" ys))) S1 else .bad) | none => .bad) = _
  rw [strs_map]
  dsimp only
  rw [if_pos (by rw [eb]; omega)]; rfl
/-- str(part) of all parts -/
def stD (d : DL.D) : Str := match d with
  | .str x => x
  | .int i => nw i
  | _ => ""
def stOk (d : DL.D) : Prop := match d with
  | .str _ => True
  | .int i => i.natAbs < wid
  | _ => False
theorem nStr_eq {d : DL.D} (h : stOk d) {S : Sto} : nStr [.p d] S = .ok (.p (.str (stD d))) S := by
  cases d with
  | str x => rfl
  | int i =>
    have h : i.natAbs < wid := h
    show (if i.natAbs < wid then _ else _) = _
    rw [if_pos h]; rfl
  | _ => exact h.elim
theorem st_comp {it : If} {ρ : Nv} {S S1 : Sto} {ds : List DL.D} {j : Nat} (hj : j < ρ.length) (hi : it ρ S = .ok ds S1) (hl : ds.length ≤ 100) (h : ∀ d ∈ ds, stOk d) : dComp [j] it (gN j) cYes (dCall nStr (aCons (dName j) aNil)) ρ S = .ok (.p (.lst ((ds.map stD).map DL.D.str))) S1 := by
  refine e_comp (S1 := S1) hi (by unfold big; omega) ?_
  have key := comp_map (t := gN j) (el := dCall nStr (aCons (dName j) aNil)) (ρ := wipeN ρ [j]) (S := S1) (fun d => .str (stD d)) (ds := ds) fun d hd => by
    refine ⟨_, rfl, ?_⟩
    have e : ((wipeN ρ [j]).set j (some (Dv.p d)))[j]? = some (some (Dv.p d)) := by
      rw [List.getElem?_set_self]
      show j < (ρ.set j none).length
      rw [List.length_set]; exact hj
    simp only [e_call, e_aCons, e_aNil, e_name, e, e_bind]
    exact nStr_eq (h d hd)
  rw [List.map_map]
  exact key
theorem rl_st {r : Ru} (hr : r.ok) : (∀ d ∈ ruD r, stOk d) ∧ ("rule" : Str) :: (ruD r).map stD = rlW r := by
  refine ⟨fun d hd => ?_, rfl⟩
  have hw := wid_big
  have ho := hr.ho
  unfold okO at ho
  simp only [ruD, List.mem_cons, List.not_mem_nil, or_false] at hd
  rcases hd with rfl | rfl | rfl | rfl | rfl
  · exact True.intro
  · exact True.intro
  · exact True.intro
  · show r.o.natAbs < wid
    omega
  · exact True.intro
def tkL (t : Tk) : List DL.D := [.int t.rows, .int t.seats, .int t.row, .int t.seat, .int t.num]
theorem tk_st {t : Tk} (ht : t.ok) : (∀ d ∈ tkL t, stOk d) ∧ ("ticket" : Str) :: (tkL t).map stD = tkW t := by
  refine ⟨fun d hd => ?_, rfl⟩
  have hw := wid_big
  obtain ⟨h1, h2, h3, h4, h5, h6, h7, h8, h9, h10⟩ := ht
  simp only [tkL, List.mem_cons, List.not_mem_nil, or_false] at hd
  rcases hd with rfl | rfl | rfl | rfl | rfl
  · show t.rows.natAbs < wid
    omega
  · show t.seats.natAbs < wid
    omega
  · show t.row.natAbs < wid
    omega
  · show t.seat.natAbs < wid
    omega
  · show t.num.natAbs < wid
    omega
theorem isw_dec : ∀ x ∈ [("left" : Str), "right", "middle", "anew", "on", "same", "fro", "once", "always", "rule", "ticket"], (!(TL.tl x).isEmpty && (TL.tl x).all fun c => c != 32 && c != 10 && decide (c < 256)) = true ∧ x.length ≤ 40 := by decide +kernel
theorem isw_of {x : Str} (h : (!(TL.tl x).isEmpty && (TL.tl x).all fun c => c != 32 && c != 10 && decide (c < 256)) = true) : IsW x := by
  rw [Bool.and_eq_true] at h
  refine ⟨fun e => ?_, fun c hc => ?_⟩
  · have h1 := h.1
    rw [e] at h1
    exact absurd h1 (by decide)
  · have := List.all_eq_true.mp h.2 c hc
    simp only [Bool.and_eq_true, bne_iff_ne, ne_eq, decide_eq_true_eq] at this
    exact ⟨this.1.1, this.1.2, this.2⟩
theorem rl_wds {r : Ru} (hr : r.ok) : Wds (rlW r) := by
  have ho := hr.ho
  unfold okO at ho
  have all : ∀ x ∈ rlW r, x ∈ [("left" : Str), "right", "middle", "anew", "on", "same", "fro", "once", "always", "rule", "ticket"] ∨ x = nw r.o := fun x hx => by
    simp only [rlW, List.mem_cons, List.not_mem_nil, or_false] at hx
    rcases hx with rfl | rfl | rfl | rfl | rfl | rfl
    · left; simp
    · left; rcases hr.hs with h | h | h <;> rw [h] <;> simp
    · left; rcases hr.hr with h | h <;> rw [h] <;> simp
    · left; rcases hr.hw with h | h <;> rw [h] <;> simp
    · exact .inr rfl
    · left; rcases hr.hk with h | h <;> rw [h] <;> simp
  refine ⟨by unfold rlW; simp, fun x hx => ?_, fun x hx => ?_, by unfold rlW; simp⟩
  · rcases all x hx with h | rfl
    · exact isw_of (isw_dec x h).1
    · exact nw_w (by omega)
  · rcases all x hx with h | rfl
    · exact (isw_dec x h).2
    · have := nw_len (i := r.o) (k := 2) (by omega) (by decide) (by omega)
      omega
theorem tk_wds {t : Tk} (ht : t.ok) : Wds (tkW t) := by
  obtain ⟨h1, h2, h3, h4, h5, h6, h7, h8, h9, h10⟩ := ht
  have nn : ∀ x ∈ tkW t, x = "ticket" ∨ ∃ i : Int, 0 ≤ i ∧ i ≤ 1000000000000000000000000000000 ∧ x = nw i := fun x hx => by
    simp only [tkW, List.mem_cons, List.not_mem_nil, or_false] at hx
    rcases hx with rfl | rfl | rfl | rfl | rfl | rfl
    · exact .inl rfl
    · exact .inr ⟨_, by omega, by omega, rfl⟩
    · exact .inr ⟨_, by omega, by omega, rfl⟩
    · exact .inr ⟨_, by omega, by omega, rfl⟩
    · exact .inr ⟨_, by omega, by omega, rfl⟩
    · exact .inr ⟨_, by omega, by omega, rfl⟩
  refine ⟨by unfold tkW; simp, fun x hx => ?_, fun x hx => ?_, by unfold tkW; simp⟩
  · rcases nn x hx with rfl | ⟨i, a, b, rfl⟩
    · exact isw_of (isw_dec _ (by simp)).1
    · exact nw_w a
  · rcases nn x hx with rfl | ⟨i, a, b, rfl⟩
    · exact (isw_dec _ (by simp)).2
    · exact nw_len a (by decide) (by omega)
def allW (r : Ru) (ts : List Tk) : List Str := rowT (rlW r) :: ts.map fun t => rowT (tkW t)
theorem allW_len {r : Ru} (hr : r.ok) {ts : List Tk} (ht : ∀ t ∈ ts, t.ok) : ∀ x ∈ allW r ts, x.length ≤ 246 := fun x hx => by
  rcases List.mem_cons.mp hx with rfl | hx
  · exact row_len (rl_wds hr)
  · obtain ⟨t, h, rfl⟩ := List.mem_map.mp hx
    exact row_len (tk_wds (ht t h))
theorem e_star {f : Ef} {r : Af} {ρ : Nv} {S : Sto} : aStar f r ρ S = (f ρ S).bind fun d S1 => match sqOf S1 d with
  | some ds => (r ρ S1).bind fun xs S2 => .ok (ds.map Dv.p ++ xs) S2
  | none => .bad := rfl
theorem write_eq {r : Ru} (hr : r.ok) {c : DL.D} {ts : List Tk} (ht : ∀ t ∈ ts, t.ok) (hl : ts.length ≤ 20) (hc : isC c (ts.map tkD)) : m_write_tickets [.rul (ruD r), c] = .ok (.str (textT (allW r ts))) := by
  have e0 := look_tickets ht hc
  have s1 := fun (x2 x3 x4 : Option Dv) => st_comp (it := iSeq (dParts (dName 0))) (ρ := [some (.p (.rul (ruD r))), some (.p c), x2, x3, x4]) (S := []) (j := 4) (by show 4 < 5; decide) (show _ = Out.ok (ruD r) [] from rfl) (by show 5 ≤ 100; decide) (rl_st hr).1
  have j1 : ∀ x2 x3 x4, dJoin (dC (.str " ")) (dLst (aCons (dC (.str "rule")) (aStar (dComp [4] (iSeq (dParts (dName 0))) (gN 4) cYes (dCall nStr (aCons (dName 4) aNil))) aNil))) [some (.p (.rul (ruD r))), some (.p c), x2, x3, x4] [] = .ok (.p (.str (rowT (rlW r)))) [] := fun x2 x3 x4 => by
    refine e_join_row (rl_wds hr) ?_
    unfold dLst aStar
    simp only [e_aCons, e_C, e_bind, s1, e_aNil]
    rfl
  have j2 : ∀ x2 x3, dComp [3] (iSeq (dName 1)) (gN 3) cYes (dJoin (dC (.str " ")) (dLst (aCons (dC (.str "ticket")) (aStar (dComp [4] (iSeq (dName 3)) (gN 4) cYes (dCall nStr (aCons (dName 4) aNil))) aNil)))) [some (.p (.rul (ruD r))), some (.p c), x2, x3, none] [] = .ok (.p (.lst ((ts.map fun t => rowT (tkW t)).map DL.D.str))) [] := fun x2 x3 => by
    refine e_comp (S1 := []) (seq_C hc rfl) (by rw [List.length_map]; unfold big; omega) ?_
    have key := comp_map (t := gN 3) (el := dJoin (dC (.str " ")) (dLst (aCons (dC (.str "ticket")) (aStar (dComp [4] (iSeq (dName 3)) (gN 4) cYes (dCall nStr (aCons (dName 4) aNil))) aNil)))) (ρ := [some (.p (.rul (ruD r))), some (.p c), x2, none, none]) (S := [])
      (fun d => match d with | .tup l => .str (rowT ("ticket" :: l.map stD)) | _ => .non) (ds := ts.map tkD) fun d hd => by
        obtain ⟨t, h, rfl⟩ := List.mem_map.mp hd
        refine ⟨[some (.p (.rul (ruD r))), some (.p c), x2, some (.p (tkD t)), none], rfl, ?_⟩
        have s2 := st_comp (it := iSeq (dName 3)) (ρ := [some (.p (.rul (ruD r))), some (.p c), x2, some (.p (tkD t)), none]) (S := []) (j := 4) (by show 4 < 5; decide) (show _ = Out.ok (tkL t) [] from rfl) (by show 5 ≤ 100; decide) (tk_st (ht t h)).1
        refine e_join_row (ws := tkW t) (tk_wds (ht t h)) ?_
        unfold dLst aStar
        simp only [e_aCons, e_C, e_bind, s2, e_aNil]
        rfl
    rw [List.map_map] at key ⊢
    exact key
  have j3 : ∀ x3, dJoin (dC (.str "\n")) (dLst (aStar (dName 2) (aStar (dComp [3] (iSeq (dName 1)) (gN 3) cYes (dJoin (dC (.str " ")) (dLst (aCons (dC (.str "ticket")) (aStar (dComp [4] (iSeq (dName 3)) (gN 4) cYes (dCall nStr (aCons (dName 4) aNil))) aNil))))) aNil))) [some (.p (.rul (ruD r))), some (.p c), some (.p (.lst [.str (rowT (rlW r))])), x3, none] [] = .ok (.p (.str (textT (allW r ts)))) [] := fun x3 => by
    refine e_join_text (fun x hx => by have := allW_len hr ht x hx; omega) (by unfold allW; rw [List.length_cons, List.length_map]; omega) ?_
    have ap : ∀ l : List DL.D, allP (l.map Dv.p) = some l := fun l => by
      induction l with
      | nil => rfl
      | cons d l ih => rw [List.map_cons]; unfold allP; rw [ih]; rfl
    have a1 : aStar (dComp [3] (iSeq (dName 1)) (gN 3) cYes (dJoin (dC (.str " ")) (dLst (aCons (dC (.str "ticket")) (aStar (dComp [4] (iSeq (dName 3)) (gN 4) cYes (dCall nStr (aCons (dName 4) aNil))) aNil))))) aNil [some (.p (.rul (ruD r))), some (.p c), some (.p (.lst [.str (rowT (rlW r))])), x3, none] [] = .ok (((ts.map fun t => rowT (tkW t)).map DL.D.str).map Dv.p) [] := by
      rw [e_star, j2]
      show Out.ok (((ts.map fun t => rowT (tkW t)).map DL.D.str).map Dv.p ++ []) [] = _
      rw [List.append_nil]
    rw [e_lst, e_star, e_name]
    show (((aStar _ aNil _ []).bind fun xs S2 => Out.ok ([DL.D.str (rowT (rlW r))].map Dv.p ++ xs) S2).bind _) = _
    rw [a1]
    show (match allP ([DL.D.str (rowT (rlW r))].map Dv.p ++ ((ts.map fun t => rowT (tkW t)).map DL.D.str).map Dv.p) with | some ds => (if ds.length ≤ big then Out.ok (Dv.p (.lst ds)) [] else .bad) | none => .bad) = _
    rw [← List.map_append, ap]
    dsimp only
    rw [if_pos (by rw [List.length_append, List.length_map, List.length_map]; unfold big; show 1 + _ ≤ _; omega)]
    rfl
  simp only [m_write_tickets, runP, init, b_write_tickets, e_seq, e_seq_nx, e_seq_rt, e_seq_ite, e_bind, e_bind_ite, e_toS, e_toS_ite, e_set, e_ret, e_expr, e_nil, e_if, e_name, e_C, e_bin, e_un, e_ifx, e_aNil, e_aCons, e_call, e_cVal, e_cNot, e_cAnd, e_cOr, e_and, e_or, e_not, e_add, e_sub, e_lt, e_le, e_gt, e_ge, e_neg, e_eqi, e_nei, e_isN, e_notN, e_partsE, e_ixT0, e_ixT1, e_ixT2, e_ixT3, e_ixT4, e_ixL0, e_ixL1, e_ixL2, e_ixL3, e_ixL4, e_callP, e_callE, e_allP, e_allP0, e_tup, e_lst, e_par, List.map_cons, List.map_nil, List.append_assoc, List.nil_append, List.cons_append, List.replicate, List.getElem?_cons_zero, List.getElem?_cons_succ, List.set_cons_zero, List.set_cons_succ, Option.map_some, if_true, if_false, Bool.false_eq_true, decide_eq_true_eq, List.length_cons, List.length_nil, bg0, bg1, bg2, bg3, bg4, bg5, bg6, bg7, bg8, bg9, bg10, bg11, bg12, bg13, bg14, e0, j1, j3]

/-! ### rows spoilt -/
theorem cut_lo {ds : List DL.D} {k : Nat} (h : k ≤ ds.length) : DL.cutD ds none (some (k : Int)) = ds.take k := by
  unfold DL.cutD
  rw [show HT.sIx ds.length 0 none = 0 from rfl, HT.sIx_nat, List.drop_zero, Nat.sub_zero, Nat.min_eq_left h]
theorem cut_hi {ds : List DL.D} {k : Nat} : DL.cutD ds (some (k : Int)) none = ds.drop k := by
  unfold DL.cutD
  rw [show HT.sIx ds.length ds.length none = ds.length from rfl, HT.sIx_nat, List.take_of_length_le (by rw [List.length_drop]; exact Nat.le_refl _)]
  by_cases h : k ≤ ds.length
  · rw [Nat.min_eq_left h]
  · rw [Nat.min_eq_right (by omega), List.drop_eq_nil_of_le (Nat.le_refl _), List.drop_eq_nil_of_le (by omega)]
theorem cut_at {ds : List DL.D} {k : Nat} (h : k + 1 ≤ ds.length) : DL.cutD ds (some (k : Int)) (some ((k : Int) + 1)) = (ds.drop k).take 1 := by
  unfold DL.cutD
  rw [show ((k : Int) + 1) = ((k + 1 : Nat) : Int) by omega, HT.sIx_nat, HT.sIx_nat, Nat.min_eq_left h, Nat.min_eq_left (by omega), show k + 1 - k = 1 by omega]
theorem e_slLo {f g : Ef} {ρ : Nv} {S : Sto} {ds : List DL.D} {k : Nat} (h : f ρ S = .ok (.p (.lst ds)) S) (h2 : g ρ S = .ok (.p (.int (k : Nat))) S) (hk : k ≤ ds.length) : dSl f pNo (pAt g) ρ S = .ok (.p (.lst (ds.take k))) S := by
  rw [← cut_lo hk]
  unfold dSl pAt pNo
  rw [h, e_bind, e_bind, h2]
  rfl
theorem e_slHi {f g : Ef} {ρ : Nv} {S : Sto} {ds : List DL.D} {k : Nat} (h : f ρ S = .ok (.p (.lst ds)) S) (h2 : g ρ S = .ok (.p (.int (k : Nat))) S) : dSl f (pAt g) pNo ρ S = .ok (.p (.lst (ds.drop k))) S := by
  rw [← cut_hi]
  unfold dSl pAt pNo
  rw [h, e_bind, h2]
  rfl
theorem joinL_in {s : Nat} : ∀ {ps : List (List Nat)} {c : Nat}, c ∈ TL.joinL [s] ps → c = s ∨ ∃ p ∈ ps, c ∈ p
  | [], c, h => by unfold TL.joinL at h; cases h
  | [p], c, h => by unfold TL.joinL at h; exact .inr ⟨p, List.mem_cons_self, h⟩
  | p :: q :: ps, c, h => by
    unfold TL.joinL at h
    rcases List.mem_append.mp h with h | h
    · exact .inr ⟨p, List.mem_cons_self, h⟩
    · rcases List.mem_append.mp h with h | h
      · exact .inl (List.mem_singleton.mp h)
      · rcases joinL_in h with h | ⟨r, hr, h⟩
        · exact .inl h
        · exact .inr ⟨r, List.mem_cons_of_mem _ hr, h⟩
/-- a row in the place of another -/
theorem RwOk.put {rows : List Str} {n k m : Nat} {z : Str} (h : RwOk rows n) (hk : k < rows.length) (hz : ∀ c ∈ TL.tl z, c < 256) (hl : z.length ≤ rows[k].length + m) : RwOk (rows.take k ++ [z] ++ rows.drop (k + 1)) (n + m) := by
  refine ⟨by simp, fun r hr => ?_, ?_⟩
  · rcases List.mem_append.mp hr with hr | hr
    · rcases List.mem_append.mp hr with hr | hr
      · exact h.at_ r (List.mem_of_mem_take hr)
      · rw [List.mem_singleton.mp hr]; exact hz
    · exact h.at_ r (List.mem_of_mem_drop hr)
  · have e : rows = rows.take k ++ [rows[k]] ++ rows.drop (k + 1) := by
      rw [List.append_assoc, List.singleton_append, ← List.drop_eq_getElem_cons hk, List.take_append_drop]
    have h1 := h.le
    rw [e, List.map_append, List.map_append, wt_app, wt_app] at h1
    rw [List.map_append, List.map_append, wt_app, wt_app]
    have e1 : wt ([rows[k]].map TL.tl) = rows[k].length + 1 := by rw [TL.len_tl]; rfl
    have e2 : wt ([z].map TL.tl) = z.length + 1 := by rw [TL.len_tl]; rfl
    omega
theorem RwOk.more {rows : List Str} {n m : Nat} (h : RwOk rows n) (hm : n ≤ m) : RwOk rows m := ⟨h.ne, h.at_, Nat.le_trans h.le hm⟩
theorem wt_sub {a b : List (List Nat)} (h : a.Sublist b) : wt a ≤ wt b := by
  induction h with
  | slnil => exact Nat.le_refl _
  | cons x _ ih => rw [wt_cons]; omega
  | cons_cons x _ ih => rw [wt_cons, wt_cons]; omega
/-- a row's words, cut -/
theorem join_cut {x : Str} (hx : ∀ c ∈ TL.tl x, c < 256) {at_ : Nat} : (∀ c ∈ TL.tl (Txt.join " " ((Txt.split x " ").take at_)), c < 256) ∧ (Txt.join " " ((Txt.split x " ").take at_)).length ≤ x.length := by
  have hw := wt_spl (s := 32) (TL.tl x) []
  rw [List.length_nil, Nat.zero_add, ← split_bl, ← TL.len_tl] at hw
  have hj : TL.tl (Txt.join " " ((Txt.split x " ").take at_)) = TL.joinL [32] (((Txt.split x " ").map TL.tl).take at_) := by rw [TL.join_eq, TL.tl_join, tl_bl, List.map_take]
  refine ⟨fun c hc => ?_, ?_⟩
  · rw [hj] at hc
    rcases joinL_in hc with h | ⟨p, hp, h⟩
    · omega
    · have hp := List.mem_of_mem_take hp
      rw [split_bl] at hp
      rcases spl_mem hp c h with e | e
      · cases e
      · exact hx c e
  · rw [TL.len_tl, hj]
    by_cases hn : ((Txt.split x " ").map TL.tl).take at_ = []
    · rw [hn]; exact Nat.zero_le _
    · have h1 := wt_join (s := 32) hn
      have h2 := wt_sub (List.take_sublist at_ ((Txt.split x " ").map TL.tl))
      omega
/-- a row's words, one put in (or in the place of one) -/
theorem join_put {x m : Str} (hx : ∀ c ∈ TL.tl x, c < 256) (hm : ∀ c ∈ TL.tl m, c < 256) (hl : m.length ≤ 7) {at_ j : Nat} (hj : at_ ≤ j) :
    (∀ c ∈ TL.tl (Txt.join " " ((Txt.split x " ").take at_ ++ [m] ++ (Txt.split x " ").drop j)), c < 256) ∧ (Txt.join " " ((Txt.split x " ").take at_ ++ [m] ++ (Txt.split x " ").drop j)).length ≤ x.length + 8 := by
  have hw := wt_spl (s := 32) (TL.tl x) []
  rw [List.length_nil, Nat.zero_add, ← split_bl, ← TL.len_tl] at hw
  have he : TL.tl (Txt.join " " ((Txt.split x " ").take at_ ++ [m] ++ (Txt.split x " ").drop j)) = TL.joinL [32] (((Txt.split x " ").map TL.tl).take at_ ++ [TL.tl m] ++ ((Txt.split x " ").map TL.tl).drop j) := by
    rw [TL.join_eq, TL.tl_join, tl_bl, List.map_append, List.map_append, List.map_take, List.map_drop]
    rfl
  refine ⟨fun c hc => ?_, ?_⟩
  · rw [he] at hc
    have sp : ∀ p ∈ (Txt.split x " ").map TL.tl, c ∈ p → c < 256 := fun p hp h => by
      rw [split_bl] at hp
      rcases spl_mem hp c h with e | e
      · cases e
      · exact hx c e
    rcases joinL_in hc with h | ⟨p, hp, h⟩
    · omega
    · rcases List.mem_append.mp hp with hp | hp
      · rcases List.mem_append.mp hp with hp | hp
        · exact sp p (List.mem_of_mem_take hp) h
        · rw [List.mem_singleton.mp hp] at h; exact hm c h
      · exact sp p (List.mem_of_mem_drop hp) h
  · rw [TL.len_tl, he]
    have h1 := wt_join (s := 32) (ps := ((Txt.split x " ").map TL.tl).take at_ ++ [TL.tl m] ++ ((Txt.split x " ").map TL.tl).drop j) (by simp)
    rw [wt_app, wt_app] at h1
    have h3 : wt (((Txt.split x " ").map TL.tl).take at_) + wt (((Txt.split x " ").map TL.tl).drop j) ≤ wt ((Txt.split x " ").map TL.tl) := by
      have q := wt_take (rows := (Txt.split x " ").map TL.tl) (k := at_)
      have s := wt_sub (show (((Txt.split x " ").map TL.tl).drop j).Sublist (((Txt.split x " ").map TL.tl).drop at_) by
        rw [show j = at_ + (j - at_) by omega, ← List.drop_drop]
        exact List.drop_sublist _ _)
      omega
    have e : wt [TL.tl m] = m.length + 1 := by rw [TL.len_tl]; rfl
    omega

/-! ### rows spoilt: the law's def -/
theorem e_addL {a b : List DL.D} (h : a.length + b.length ≤ 5000000) {S : Sto} : oAdd (.p (.lst a)) (.p (.lst b)) S = .ok (.p (.lst (a ++ b))) S := by
  show (if a.length + b.length ≤ big then _ else _) = _
  rw [if_pos (by unfold big; omega)]
theorem RwOk.few {rows : List Str} {n : Nat} (h : RwOk rows n) : rows.length ≤ n := by
  have := wt_len (rows.map TL.tl)
  rw [List.length_map] at this
  exact Nat.le_trans this h.le
theorem wt_str : ∀ ws : List Str, wt (ws.map TL.tl) = (ws.map Str.length).sum + ws.length
  | [] => rfl
  | w :: ws => by
    rw [List.map_cons, wt_cons, wt_str ws, List.map_cons, List.sum_cons, List.length_cons, TL.len_tl]
    omega
theorem e_joinW {ws : List Str} (h : wt (ws.map TL.tl) ≤ 1000000) {g : Ef} {ρ : Nv} {S S1 : Sto} (hg : g ρ S = .ok (.p (.lst (ws.map DL.D.str))) S1) : dJoin (dC (.str " ")) g ρ S = .ok (.p (.str (Txt.join " " ws))) S1 := by
  have eb : ((" " : Str)).length = 1 := by decide +kernel
  rw [wt_str] at h
  unfold dJoin
  rw [e_C, e_bind]
  dsimp only
  rw [hg, e_bind]
  show (match strsOf (ws.map DL.D.str) with | some ys => (if (ys.map Str.length).sum + ys.length * ((" " : Str)).length ≤ 16777216 then Out.ok (Dv.p (.str (Txt.join " " ys))) S1 else .bad) | none => .bad) = _
  rw [strs_map]
  dsimp only
  rw [if_pos (by rw [eb]; omega)]
def mores : List Str := ["0", "1", "2", "13", "14", "03", "-1", "1000000", "1000001", "rule", "ticket", "on", "fro", "left", "?"]
theorem mores_ok : ∀ m ∈ mores, m.length ≤ 7 ∧ ∀ c ∈ TL.tl m, c < 256 := by decide +kernel
theorem spoil_eq {rows : List Str} {n : Nat} (h : RwOk rows n) (hn : n ≤ 40000) {S rest : Sto} (d : Dr S rest) : ∃ (rows' : List Str) (S' : Sto), m_law_spoil [.hnd 1, .p (.lst (rows.map DL.D.str))] S = .ok (.p (.lst (rows'.map DL.D.str))) S' ∧ RwOk rows' (2 * n + 20) ∧ Dr S' rest := by
  have hf := h.few
  have hpos : 0 < rows.length := List.length_pos_iff.mpr h.ne
  have ww := wid_big
  have nl : ∀ S, nLen [.p (.lst (rows.map DL.D.str))] S = .ok (.p (.int (rows.length : Nat))) S := fun S => by rw [nLen_lst, List.length_map]
  obtain ⟨k', S1, n1, a1, b1, d1⟩ := next_eq d (b := (rows.length : Nat)) (by omega) (by omega)
  obtain ⟨k, rfl⟩ : ∃ k : Nat, k' = (k : Nat) := ⟨k'.toNat, (Int.toNat_of_nonneg a1).symm⟩
  have hk : k < rows.length := by omega
  obtain ⟨pick, S2, n2, a2, b2, d2⟩ := next_eq d1 (b := 7) (by decide) (by decide)
  have lm : (rows.map DL.D.str).length = rows.length := List.length_map ..
  have s1 : ∀ (ρ : Nv) S, ρ[1]? = some (some (.p (.lst (rows.map DL.D.str)))) → ρ[2]? = some (some (.p (.int (k : Nat)))) → dSl (dName 1) pNo (pAt (dName 2)) ρ S = .ok (.p (.lst ((rows.map DL.D.str).take k))) S := fun ρ S h1 h2 => e_slLo (by rw [e_name, h1]) (by rw [e_name, h2]) (by omega)
  have s2 : ∀ (ρ : Nv) S, ρ[1]? = some (some (.p (.lst (rows.map DL.D.str)))) → ρ[2]? = some (some (.p (.int (k : Nat)))) → dSl (dName 1) (pAt (dBin oAdd (dName 2) (dC (.int 1)))) pNo ρ S = .ok (.p (.lst ((rows.map DL.D.str).drop (k + 1)))) S := fun ρ S h1 h2 => e_slHi (by rw [e_name, h1]) (by
    rw [show dBin oAdd (dName 2) (dC (.int 1)) ρ S = (dName 2 ρ S).bind fun x S1 => (dC (.int 1) ρ S1).bind fun y S2 => oAdd x y S2 from rfl, e_name, h2]
    rfl)
  have s3 : ∀ (ρ : Nv) S, ρ[1]? = some (some (.p (.lst (rows.map DL.D.str)))) → ρ[2]? = some (some (.p (.int (k : Nat)))) → dSl (dName 1) (pAt (dName 2)) pNo ρ S = .ok (.p (.lst ((rows.map DL.D.str).drop k))) S := fun ρ S h1 h2 => e_slHi (by rw [e_name, h1]) (by rw [e_name, h2])
  have s4 : ∀ (ρ : Nv) S, ρ[1]? = some (some (.p (.lst (rows.map DL.D.str)))) → ρ[2]? = some (some (.p (.int (k : Nat)))) → dSl (dName 1) (pAt (dName 2)) (pAt (dBin oAdd (dName 2) (dC (.int 1)))) ρ S = .ok (.p (.lst (((rows.map DL.D.str).drop k).take 1))) S := fun ρ S h1 h2 => by
    rw [← cut_at (k := k) (by omega)]
    have e2 : dName 2 ρ S = .ok (.p (.int (k : Nat))) S := by rw [e_name, h2]
    have e3 : dBin oAdd (dName 2) (dC (.int 1)) ρ S = .ok (.p (.int ((k : Int) + 1))) S := by
      rw [show dBin oAdd (dName 2) (dC (.int 1)) ρ S = (dName 2 ρ S).bind fun x S1 => (dC (.int 1) ρ S1).bind fun y S2 => oAdd x y S2 from rfl, e2]
      rfl
    unfold dSl pAt
    rw [e_name, h1, e_bind, e2]
    show ((dBin oAdd (dName 2) (dC (.int 1)) ρ S).bind _).bind _ = _
    rw [e3]
    rfl
  have q : pick = 0 ∨ pick = 1 ∨ pick = 2 ∨ 3 ≤ pick := by omega
  have hrow : rows = rows.take k ++ [rows[k]] ++ rows.drop (k + 1) := by
    rw [List.append_assoc, List.singleton_append, ← List.drop_eq_getElem_cons hk, List.take_append_drop]
  have w1 := wt_take (rows := rows.map TL.tl) (k := k)
  have w2 := wt_take (rows := rows.map TL.tl) (k := k + 1)
  have hle := h.le
  rcases q with rfl | rfl | rfl | q
  · by_cases h1 : 1 < rows.length
    · refine ⟨rows.take k ++ rows.drop (k + 1), S2, ?_, ⟨fun z => ?_, fun r hr => ?_, ?_⟩, d2⟩
      · have c1 : decide ((1 : Int) < (rows.length : Int)) = true := decide_eq_true (by omega)
        have ad := fun S => e_addL (a := (rows.map DL.D.str).take k) (b := (rows.map DL.D.str).drop (k + 1)) (S := S) (by rw [List.length_take, List.length_drop]; omega)
        have em : (rows.take k ++ rows.drop (k + 1)).map DL.D.str = (rows.map DL.D.str).take k ++ (rows.map DL.D.str).drop (k + 1) := by rw [List.map_append, List.map_take, List.map_drop]
        rw [em]
        generalize (rows.map DL.D.str).take k ++ (rows.map DL.D.str).drop (k + 1) = RS at *
        simp only [m_law_spoil, runE, init, b_law_spoil, e_seq, e_seq_nx, e_seq_rt, e_seq_ite, e_bind, e_bind_ite, e_toS, e_toS_ite, e_set, e_ret, e_expr, e_nil, e_if, e_name, e_C, e_bin, e_un, e_ifx, e_aNil, e_aCons, e_call, e_cVal, e_cNot, e_cAnd, e_cOr, e_and, e_or, e_not, e_add, e_sub, e_lt, e_le, e_gt, e_ge, e_neg, e_eqi, e_nei, e_isN, e_notN, e_partsE, e_ixT0, e_ixT1, e_ixT2, e_ixT3, e_ixT4, e_ixL0, e_ixL1, e_ixL2, e_ixL3, e_ixL4, e_callP, e_callE, e_allP, e_allP0, e_tup, e_lst, e_par, List.map_cons, List.map_nil, List.append_assoc, List.nil_append, List.cons_append, List.replicate, List.getElem?_cons_zero, List.getElem?_cons_succ, List.set_cons_zero, List.set_cons_succ, Option.map_some, if_true, if_false, Bool.false_eq_true, decide_eq_true_eq, List.length_cons, List.length_nil, bg0, bg1, bg2, bg3, bg4, bg5, bg6, bg7, bg8, bg9, bg10, bg11, bg12, bg13, bg14, nl, n1, n2, beq_self_eq_true, c1, s1, s2, ad]
      · have := congrArg List.length z
        rw [List.length_append, List.length_take, List.length_drop, List.length_nil] at this
        omega
      · rcases List.mem_append.mp hr with hr | hr
        · exact h.at_ r (List.mem_of_mem_take hr)
        · exact h.at_ r (List.mem_of_mem_drop hr)
      · rw [List.map_append, wt_app, List.map_take, List.map_drop]
        have := wt_sub (List.take_sublist k (rows.map TL.tl))
        have := wt_sub (List.drop_sublist (k + 1) (rows.map TL.tl))
        omega
    · refine ⟨rows, S2, ?_, h.more (by omega), d2⟩
      have c1 : decide ((1 : Int) < (rows.length : Int)) = false := decide_eq_false (by omega)
      simp only [m_law_spoil, runE, init, b_law_spoil, e_seq, e_seq_nx, e_seq_rt, e_seq_ite, e_bind, e_bind_ite, e_toS, e_toS_ite, e_set, e_ret, e_expr, e_nil, e_if, e_name, e_C, e_bin, e_un, e_ifx, e_aNil, e_aCons, e_call, e_cVal, e_cNot, e_cAnd, e_cOr, e_and, e_or, e_not, e_add, e_sub, e_lt, e_le, e_gt, e_ge, e_neg, e_eqi, e_nei, e_isN, e_notN, e_partsE, e_ixT0, e_ixT1, e_ixT2, e_ixT3, e_ixT4, e_ixL0, e_ixL1, e_ixL2, e_ixL3, e_ixL4, e_callP, e_callE, e_allP, e_allP0, e_tup, e_lst, e_par, List.map_cons, List.map_nil, List.append_assoc, List.nil_append, List.cons_append, List.replicate, List.getElem?_cons_zero, List.getElem?_cons_succ, List.set_cons_zero, List.set_cons_succ, Option.map_some, if_true, if_false, Bool.false_eq_true, decide_eq_true_eq, List.length_cons, List.length_nil, bg0, bg1, bg2, bg3, bg4, bg5, bg6, bg7, bg8, bg9, bg10, bg11, bg12, bg13, bg14, nl, n1, n2, beq_self_eq_true, c1]
  · have z0 : ((1 : Int) == 0) = false := rfl
    refine ⟨rows.take k ++ (rows.drop k).take 1 ++ rows.drop k, S2, ?_, ⟨fun z => ?_, fun r hr => ?_, ?_⟩, d2⟩
    · have ad := fun S => e_addL (a := (rows.map DL.D.str).take k) (b := ((rows.map DL.D.str).drop k).take 1) (S := S) (by rw [List.length_take, List.length_take, List.length_drop]; omega)
      have ad2 := fun S => e_addL (a := (rows.map DL.D.str).take k ++ ((rows.map DL.D.str).drop k).take 1) (b := (rows.map DL.D.str).drop k) (S := S) (by rw [List.length_append, List.length_take, List.length_take, List.length_drop]; omega)
      have em : (rows.take k ++ (rows.drop k).take 1 ++ rows.drop k).map DL.D.str = (rows.map DL.D.str).take k ++ ((rows.map DL.D.str).drop k).take 1 ++ (rows.map DL.D.str).drop k := by rw [List.map_append, List.map_append, List.map_take, List.map_take, List.map_drop]
      rw [em]
      generalize (rows.map DL.D.str).take k ++ ((rows.map DL.D.str).drop k).take 1 ++ (rows.map DL.D.str).drop k = RS at *
      generalize (rows.map DL.D.str).take k ++ ((rows.map DL.D.str).drop k).take 1 = RS1 at *
      simp only [m_law_spoil, runE, init, b_law_spoil, e_seq, e_seq_nx, e_seq_rt, e_seq_ite, e_bind, e_bind_ite, e_toS, e_toS_ite, e_set, e_ret, e_expr, e_nil, e_if, e_name, e_C, e_bin, e_un, e_ifx, e_aNil, e_aCons, e_call, e_cVal, e_cNot, e_cAnd, e_cOr, e_and, e_or, e_not, e_add, e_sub, e_lt, e_le, e_gt, e_ge, e_neg, e_eqi, e_nei, e_isN, e_notN, e_partsE, e_ixT0, e_ixT1, e_ixT2, e_ixT3, e_ixT4, e_ixL0, e_ixL1, e_ixL2, e_ixL3, e_ixL4, e_callP, e_callE, e_allP, e_allP0, e_tup, e_lst, e_par, List.map_cons, List.map_nil, List.append_assoc, List.nil_append, List.cons_append, List.replicate, List.getElem?_cons_zero, List.getElem?_cons_succ, List.set_cons_zero, List.set_cons_succ, Option.map_some, if_true, if_false, Bool.false_eq_true, decide_eq_true_eq, List.length_cons, List.length_nil, bg0, bg1, bg2, bg3, bg4, bg5, bg6, bg7, bg8, bg9, bg10, bg11, bg12, bg13, bg14, nl, n1, n2, z0, beq_self_eq_true, s1, s3, s4, ad, ad2]
    · have := congrArg List.length z
      rw [List.length_append, List.length_append, List.length_take, List.length_take, List.length_drop, List.length_nil] at this
      omega
    · rcases List.mem_append.mp hr with hr | hr
      · rcases List.mem_append.mp hr with hr | hr
        · exact h.at_ r (List.mem_of_mem_take hr)
        · exact h.at_ r (List.mem_of_mem_drop (List.mem_of_mem_take hr))
      · exact h.at_ r (List.mem_of_mem_drop hr)
    · rw [List.map_append, List.map_append, wt_app, wt_app, List.map_take, List.map_take, List.map_drop]
      have := wt_sub (List.take_sublist 1 ((rows.map TL.tl).drop k))
      have := wt_sub (List.drop_sublist k (rows.map TL.tl))
      omega
  · have z0 : ((2 : Int) == 0) = false := rfl
    have z1 : ((2 : Int) == 1) = false := rfl
    refine ⟨rows.drop k ++ rows.take k, S2, ?_, ⟨fun z => ?_, fun r hr => ?_, ?_⟩, d2⟩
    · have ad := fun S => e_addL (a := (rows.map DL.D.str).drop k) (b := (rows.map DL.D.str).take k) (S := S) (by rw [List.length_take, List.length_drop]; omega)
      have em : (rows.drop k ++ rows.take k).map DL.D.str = (rows.map DL.D.str).drop k ++ (rows.map DL.D.str).take k := by rw [List.map_append, List.map_take, List.map_drop]
      rw [em]
      generalize (rows.map DL.D.str).drop k ++ (rows.map DL.D.str).take k = RS at *
      simp only [m_law_spoil, runE, init, b_law_spoil, e_seq, e_seq_nx, e_seq_rt, e_seq_ite, e_bind, e_bind_ite, e_toS, e_toS_ite, e_set, e_ret, e_expr, e_nil, e_if, e_name, e_C, e_bin, e_un, e_ifx, e_aNil, e_aCons, e_call, e_cVal, e_cNot, e_cAnd, e_cOr, e_and, e_or, e_not, e_add, e_sub, e_lt, e_le, e_gt, e_ge, e_neg, e_eqi, e_nei, e_isN, e_notN, e_partsE, e_ixT0, e_ixT1, e_ixT2, e_ixT3, e_ixT4, e_ixL0, e_ixL1, e_ixL2, e_ixL3, e_ixL4, e_callP, e_callE, e_allP, e_allP0, e_tup, e_lst, e_par, List.map_cons, List.map_nil, List.append_assoc, List.nil_append, List.cons_append, List.replicate, List.getElem?_cons_zero, List.getElem?_cons_succ, List.set_cons_zero, List.set_cons_succ, Option.map_some, if_true, if_false, Bool.false_eq_true, decide_eq_true_eq, List.length_cons, List.length_nil, bg0, bg1, bg2, bg3, bg4, bg5, bg6, bg7, bg8, bg9, bg10, bg11, bg12, bg13, bg14, nl, n1, n2, z0, z1, beq_self_eq_true, s1, s3, ad]
    · have := congrArg List.length z
      rw [List.length_append, List.length_take, List.length_drop, List.length_nil] at this
      omega
    · rcases List.mem_append.mp hr with hr | hr
      · exact h.at_ r (List.mem_of_mem_drop hr)
      · exact h.at_ r (List.mem_of_mem_take hr)
    · rw [List.map_append, wt_app, List.map_take, List.map_drop]
      omega
  · have z0 : (pick == 0) = false := beq_eq_false_iff_ne.mpr (by omega)
    have z1 : (pick == 1) = false := beq_eq_false_iff_ne.mpr (by omega)
    have z2 : (pick == 2) = false := beq_eq_false_iff_ne.mpr (by omega)
    have hx := h.at_ _ (List.getElem_mem hk)
    have hxl : rows[k].length + 1 ≤ n := by
      have e : wt (rows.map TL.tl) = wt ((rows.take k ++ [rows[k]] ++ rows.drop (k + 1)).map TL.tl) := by rw [← hrow]
      rw [List.map_append, List.map_append, wt_app, wt_app] at e
      have e1 : wt ([rows[k]].map TL.tl) = rows[k].length + 1 := by rw [TL.len_tl]; rfl
      omega
    have e5 : ∀ S, oIx (.p (.lst (rows.map DL.D.str))) (.p (.int (k : Nat))) S = .ok (.p (.str rows[k])) S := fun S => e_ixL k (by rw [List.getElem?_map, List.getElem?_eq_getElem hk]; rfl)
    have put := fun (z : Str) (m : Nat) hz hl => RwOk.put (z := z) (m := m) h hk hz hl
    have ad := fun (z : Str) S => e_addL (a := (rows.map DL.D.str).take k) (b := [.str z]) (S := S) (by rw [List.length_take]; show _ + 1 ≤ _; omega)
    have ad2 := fun (z : Str) S => e_addL (a := (rows.map DL.D.str).take k ++ [.str z]) (b := (rows.map DL.D.str).drop (k + 1)) (S := S) (by rw [List.length_append, List.length_take, List.length_drop]; show _ + 1 + _ ≤ _; omega)
    have em := fun z : Str => show (rows.take k ++ [z] ++ rows.drop (k + 1)).map DL.D.str = (rows.map DL.D.str).take k ++ [.str z] ++ (rows.map DL.D.str).drop (k + 1) by rw [List.map_append, List.map_append, List.map_take, List.map_drop]; rfl
    have hw := wt_spl (s := 32) (TL.tl rows[k]) []
    rw [List.length_nil, Nat.zero_add, ← split_bl, ← TL.len_tl] at hw
    have jc := fun at_ => join_cut (x := rows[k]) hx (at_ := at_)
    have jp := fun (m : Str) hm hl at_ j hj => join_put (x := rows[k]) (m := m) hx hm hl (at_ := at_) (j := j) hj
    have spl : ∀ (ρ : Nv) S, ρ[1]? = some (some (.p (.lst (rows.map DL.D.str)))) → ρ[2]? = some (some (.p (.int (k : Nat)))) → dSplit (dBin oIx (dName 1) (dName 2)) (dC (.str " ")) ρ S = .ok (.p (.lst ((Txt.split rows[k] " ").map DL.D.str))) S := fun ρ S h1 h2 => by
      unfold dSplit
      simp only [e_seq, e_seq_nx, e_seq_rt, e_seq_ite, e_bind, e_bind_ite, e_toS, e_toS_ite, e_set, e_ret, e_expr, e_nil, e_if, e_name, e_C, e_bin, e_un, e_ifx, e_aNil, e_aCons, e_call, e_cVal, e_cNot, e_cAnd, e_cOr, e_and, e_or, e_not, e_add, e_sub, e_lt, e_le, e_gt, e_ge, e_neg, e_eqi, e_nei, e_isN, e_notN, e_partsE, e_ixT0, e_ixT1, e_ixT2, e_ixT3, e_ixT4, e_ixL0, e_ixL1, e_ixL2, e_ixL3, e_ixL4, e_callP, e_callE, e_allP, e_allP0, e_tup, e_lst, e_par, List.map_cons, List.map_nil, List.append_assoc, List.nil_append, List.cons_append, List.replicate, List.getElem?_cons_zero, List.getElem?_cons_succ, List.set_cons_zero, List.set_cons_succ, Option.map_some, if_true, if_false, Bool.false_eq_true, decide_eq_true_eq, List.length_cons, List.length_nil, bg0, bg1, bg2, bg3, bg4, bg5, bg6, bg7, bg8, bg9, bg10, bg11, bg12, bg13, bg14, h1, h2, e5]
      rw [if_pos ⟨bl_len, by unfold big; omega⟩]
    generalize rows[k] = x at *
    generalize hws : Txt.split x " " = ws at *
    have lw : ws.length ≤ n := by
      have := wt_len (ws.map TL.tl)
      rw [List.length_map] at this
      omega
    have nlw : ∀ S, nLen [.p (.lst (ws.map DL.D.str))] S = .ok (.p (.int (ws.length : Nat))) S := fun S => by rw [nLen_lst, List.length_map]
    obtain ⟨at', S3, n3, a3, b3, d3⟩ := next_eq d2 (b := (ws.length : Nat) + 1) (by omega) (by omega)
    obtain ⟨at_, rfl⟩ : ∃ k : Nat, at' = (k : Nat) := ⟨at'.toNat, (Int.toNat_of_nonneg a3).symm⟩
    have hat : at_ ≤ ws.length := by omega
    have e6 : ∀ (ρ : Nv) S, ρ[4]? = some (some (.p (.lst (ws.map DL.D.str)))) → ρ[5]? = some (some (.p (.int (at_ : Nat)))) → dSl (dName 4) pNo (pAt (dName 5)) ρ S = .ok (.p (.lst ((ws.take at_).map DL.D.str))) S := fun ρ S h1 h2 => by
      rw [List.map_take]
      exact e_slLo (by rw [e_name, h1]) (by rw [e_name, h2]) (by rw [List.length_map]; omega)
    by_cases q3 : pick = 3
    · subst q3
      obtain ⟨c1, c2⟩ := jc at_
      have e7 : ∀ (ρ : Nv) S, ρ[4]? = some (some (.p (.lst (ws.map DL.D.str)))) → ρ[5]? = some (some (.p (.int (at_ : Nat)))) → dJoin (dC (.str " ")) (dSl (dName 4) pNo (pAt (dName 5))) ρ S = .ok (.p (.str (Txt.join " " (ws.take at_)))) S := fun ρ S h1 h2 => e_joinW (by
        rw [List.map_take]
        have := wt_sub (List.take_sublist at_ (ws.map TL.tl))
        omega) (e6 ρ S h1 h2)
      refine ⟨_, S3, ?_, (put (Txt.join " " (ws.take at_)) 0 c1 (by omega)).more (by omega), d3⟩
      rw [em]
      have ad := ad (Txt.join " " (ws.take at_))
      have ad2 := ad2 (Txt.join " " (ws.take at_))
      generalize (rows.map DL.D.str).take k ++ [.str (Txt.join " " (ws.take at_))] ++ (rows.map DL.D.str).drop (k + 1) = RS at *
      generalize (rows.map DL.D.str).take k ++ [.str (Txt.join " " (ws.take at_))] = RS1 at *
      simp only [m_law_spoil, runE, init, b_law_spoil, e_seq, e_seq_nx, e_seq_rt, e_seq_ite, e_bind, e_bind_ite, e_toS, e_toS_ite, e_set, e_ret, e_expr, e_nil, e_if, e_name, e_C, e_bin, e_un, e_ifx, e_aNil, e_aCons, e_call, e_cVal, e_cNot, e_cAnd, e_cOr, e_and, e_or, e_not, e_add, e_sub, e_lt, e_le, e_gt, e_ge, e_neg, e_eqi, e_nei, e_isN, e_notN, e_partsE, e_ixT0, e_ixT1, e_ixT2, e_ixT3, e_ixT4, e_ixL0, e_ixL1, e_ixL2, e_ixL3, e_ixL4, e_callP, e_callE, e_allP, e_allP0, e_tup, e_lst, e_par, List.map_cons, List.map_nil, List.append_assoc, List.nil_append, List.cons_append, List.replicate, List.getElem?_cons_zero, List.getElem?_cons_succ, List.set_cons_zero, List.set_cons_succ, Option.map_some, if_true, if_false, Bool.false_eq_true, decide_eq_true_eq, List.length_cons, List.length_nil, bg0, bg1, bg2, bg3, bg4, bg5, bg6, bg7, bg8, bg9, bg10, bg11, bg12, bg13, bg14, nl, n1, n2, z0, z1, z2, spl, nlw, n3, beq_self_eq_true, s1, s2, e7, ad, ad2]
    · have z3 : (pick == 3) = false := beq_eq_false_iff_ne.mpr q3
      have z4 : pick = 4 ∨ pick = 5 ∨ pick = 6 := by omega
      obtain ⟨m', S4, n4, a4, b4, d4⟩ := next_eq d3 (b := 15) (by decide) (by decide)
      obtain ⟨m, hm, pm⟩ : ∃ m : Str, m ∈ mores ∧ ∀ S, oIx (.p (.lst [.str "0", .str "1", .str "2", .str "13", .str "14", .str "03", .str "-1", .str "1000000", .str "1000001", .str "rule", .str "ticket", .str "on", .str "fro", .str "left", .str "?"])) (.p (.int m')) S = .ok (.p (.str m)) S := by
        have hl : m'.toNat < mores.length := by rw [show mores.length = 15 from rfl]; omega
        refine ⟨mores[m'.toNat], List.getElem_mem hl, fun S => ?_⟩
        have := e_ixL (S := S) (ds := mores.map DL.D.str) (d := .str mores[m'.toNat]) m'.toNat (by rw [List.getElem?_map, List.getElem?_eq_getElem hl]; rfl)
        rwa [Int.toNat_of_nonneg a4] at this
      obtain ⟨m1, m2⟩ := mores_ok m hm
      have nl15 : ∀ S, nLen [.p (.lst [.str "0", .str "1", .str "2", .str "13", .str "14", .str "03", .str "-1", .str "1000000", .str "1000001", .str "rule", .str "ticket", .str "on", .str "fro", .str "left", .str "?"])] S = .ok (.p (.int 15)) S := fun S => rfl
      obtain ⟨j, hj, ej⟩ : ∃ j : Nat, at_ ≤ j ∧ ∀ (ρ : Nv) S, ρ[3]? = some (some (.p (.int pick))) → ρ[5]? = some (some (.p (.int (at_ : Nat)))) → dBin oAdd (dName 5) (dCall nInt (aCons (dBin oGt (dName 3) (dC (.int 4))) aNil)) ρ S = .ok (.p (.int (j : Nat))) S := by
        have ev : ∀ (ρ : Nv) S, dBin oAdd (dName 5) (dCall nInt (aCons (dBin oGt (dName 3) (dC (.int 4))) aNil)) ρ S = (dName 5 ρ S).bind fun x S1 => (dCall nInt (aCons (dBin oGt (dName 3) (dC (.int 4))) aNil) ρ S1).bind fun y S2 => oAdd x y S2 := fun _ _ => rfl
        have en : ∀ (ρ : Nv) S, ρ[3]? = some (some (.p (.int pick))) → dName 3 ρ S = .ok (.p (.int pick)) S := fun ρ S h => by rw [e_name, h]
        rcases z4 with rfl | rfl | rfl
        · refine ⟨at_, Nat.le_refl _, fun ρ S h1 h2 => ?_⟩
          have e1 : dCall nInt (aCons (dBin oGt (dName 3) (dC (.int 4))) aNil) ρ S = .ok (.p (.int 0)) S := by
            unfold dCall aCons dBin
            rw [en ρ S h1]
            rfl
          rw [ev, e_name, h2, e_bind, e1]
          show Out.ok (Dv.p (.int ((at_ : Int) + 0))) S = _
          rw [Int.add_zero]
        · refine ⟨at_ + 1, Nat.le_succ _, fun ρ S h1 h2 => ?_⟩
          have e1 : dCall nInt (aCons (dBin oGt (dName 3) (dC (.int 4))) aNil) ρ S = .ok (.p (.int 1)) S := by
            unfold dCall aCons dBin
            rw [en ρ S h1]
            rfl
          rw [ev, e_name, h2, e_bind, e1]
          rfl
        · refine ⟨at_ + 1, Nat.le_succ _, fun ρ S h1 h2 => ?_⟩
          have e1 : dCall nInt (aCons (dBin oGt (dName 3) (dC (.int 4))) aNil) ρ S = .ok (.p (.int 1)) S := by
            unfold dCall aCons dBin
            rw [en ρ S h1]
            rfl
          rw [ev, e_name, h2, e_bind, e1]
          rfl
      have e8 : ∀ (ρ : Nv) S, ρ[4]? = some (some (.p (.lst (ws.map DL.D.str)))) → ρ[3]? = some (some (.p (.int pick))) → ρ[5]? = some (some (.p (.int (at_ : Nat)))) → dSl (dName 4) (pAt (dBin oAdd (dName 5) (dCall nInt (aCons (dBin oGt (dName 3) (dC (.int 4))) aNil)))) pNo ρ S = .ok (.p (.lst ((ws.map DL.D.str).drop j))) S := fun ρ S h1 h2 h3 => e_slHi (by rw [e_name, h1]) (ej ρ S h2 h3)
      have e6' : ∀ (ρ : Nv) S, ρ[4]? = some (some (.p (.lst (ws.map DL.D.str)))) → ρ[5]? = some (some (.p (.int (at_ : Nat)))) → dSl (dName 4) pNo (pAt (dName 5)) ρ S = .ok (.p (.lst ((ws.map DL.D.str).take at_))) S := fun ρ S h1 h2 => e_slLo (by rw [e_name, h1]) (by rw [e_name, h2]) (by rw [List.length_map]; omega)
      obtain ⟨c1, c2⟩ := jp m m2 m1 at_ j hj
      have wl : (ws.map DL.D.str).length = ws.length := List.length_map ..
      have bd := fun S => e_addL (a := (ws.map DL.D.str).take at_) (b := [.str m]) (S := S) (by rw [List.length_take]; show _ + 1 ≤ _; omega)
      have bd2 := fun S => e_addL (a := (ws.map DL.D.str).take at_ ++ [.str m]) (b := (ws.map DL.D.str).drop j) (S := S) (by rw [List.length_append, List.length_take, List.length_drop]; show _ + 1 + _ ≤ _; omega)
      have emw : (ws.map DL.D.str).take at_ ++ [.str m] ++ (ws.map DL.D.str).drop j = (ws.take at_ ++ [m] ++ ws.drop j).map DL.D.str := by rw [List.map_append, List.map_append, List.map_take, List.map_drop]; rfl
      rw [emw] at bd2
      have e7 : ∀ (ρ : Nv) S, ρ[7]? = some (some (.p (.lst ((ws.take at_ ++ [m] ++ ws.drop j).map DL.D.str)))) → dJoin (dC (.str " ")) (dName 7) ρ S = .ok (.p (.str (Txt.join " " (ws.take at_ ++ [m] ++ ws.drop j)))) S := fun ρ S h1 => e_joinW (by
        rw [List.map_append, List.map_append, wt_app, wt_app, List.map_take, List.map_drop]
        have := wt_sub (List.take_sublist at_ (ws.map TL.tl))
        have := wt_sub (List.drop_sublist j (ws.map TL.tl))
        have e : wt ([m].map TL.tl) = m.length + 1 := by rw [TL.len_tl]; rfl
        omega) (by rw [e_name, h1])
      refine ⟨_, S4, ?_, (put (Txt.join " " (ws.take at_ ++ [m] ++ ws.drop j)) 8 c1 (by omega)).more (by omega), d4⟩
      rw [em]
      have ad := ad (Txt.join " " (ws.take at_ ++ [m] ++ ws.drop j))
      have ad2 := ad2 (Txt.join " " (ws.take at_ ++ [m] ++ ws.drop j))
      generalize Txt.join " " (ws.take at_ ++ [m] ++ ws.drop j) = ZZ at *
      generalize (ws.take at_ ++ [m] ++ ws.drop j).map DL.D.str = NW at *
      generalize (rows.map DL.D.str).take k ++ [.str ZZ] ++ (rows.map DL.D.str).drop (k + 1) = RS at *
      generalize (rows.map DL.D.str).take k ++ [.str ZZ] = RS1 at *
      generalize (ws.map DL.D.str).take at_ ++ [.str m] = WS1 at *
      simp only [m_law_spoil, runE, init, b_law_spoil, e_seq, e_seq_nx, e_seq_rt, e_seq_ite, e_bind, e_bind_ite, e_toS, e_toS_ite, e_set, e_ret, e_expr, e_nil, e_if, e_name, e_C, e_bin, e_un, e_ifx, e_aNil, e_aCons, e_call, e_cVal, e_cNot, e_cAnd, e_cOr, e_and, e_or, e_not, e_add, e_sub, e_lt, e_le, e_gt, e_ge, e_neg, e_eqi, e_nei, e_isN, e_notN, e_partsE, e_ixT0, e_ixT1, e_ixT2, e_ixT3, e_ixT4, e_ixL0, e_ixL1, e_ixL2, e_ixL3, e_ixL4, e_callP, e_callE, e_allP, e_allP0, e_tup, e_lst, e_par, List.map_cons, List.map_nil, List.append_assoc, List.nil_append, List.cons_append, List.replicate, List.getElem?_cons_zero, List.getElem?_cons_succ, List.set_cons_zero, List.set_cons_succ, Option.map_some, if_true, if_false, Bool.false_eq_true, decide_eq_true_eq, List.length_cons, List.length_nil, bg0, bg1, bg2, bg3, bg4, bg5, bg6, bg7, bg8, bg9, bg10, bg11, bg12, bg13, bg14, nl, n1, n2, z0, z1, z2, z3, spl, nlw, n3, s1, s2, nl15, n4, pm, e6', e8, bd, bd2, e7, ad, ad2]
      rw [if_pos (by unfold big; omega)]

/-! ### the law -/
theorem law_ticket_eq {S rest : Sto} (h : Dr S rest) : ∃ (t : Tk) (S' : Sto), t.ok ∧ m_law_ticket [.hnd 1] S = .ok (.p (tkD t)) S' ∧ Dr S' rest := by
  have ww := wid_big
  obtain ⟨k2, S2, n2, a2, b2, d2⟩ := next_eq h (b := 12) (by decide) (by decide)
  obtain ⟨k4, S4, n4, a4, b4, d4⟩ := next_eq d2 (b := 12) (by decide) (by decide)
  obtain ⟨rows, er⟩ : ∃ rows, 1 + k2 = rows := ⟨_, rfl⟩
  obtain ⟨seats, es⟩ : ∃ seats, 1 + k4 = seats := ⟨_, rfl⟩
  obtain ⟨row, S5, n5, a5, b5, d5⟩ := next_eq d4 (b := rows) (by omega) (by omega)
  obtain ⟨seat, S6, n6, a6, b6, d6⟩ := next_eq d5 (b := seats) (by omega) (by omega)
  obtain ⟨k7, S7, n7, a7, b7, d7⟩ := next_eq d6 (b := 40) (by decide) (by decide)
  refine ⟨⟨rows, seats, row, seat, 1 + k7⟩, S7, ⟨by dsimp only; omega, by dsimp only; omega, by dsimp only; omega, by dsimp only; omega, a5, b5, a6, b6, by dsimp only; omega, by dsimp only; omega⟩, ?_, d7⟩
  unfold tkD
  dsimp only
  simp only [m_law_ticket, runE, init, b_law_ticket, e_seq, e_seq_nx, e_seq_rt, e_seq_ite, e_bind, e_bind_ite, e_toS, e_toS_ite, e_set, e_ret, e_expr, e_nil, e_if, e_name, e_C, e_bin, e_un, e_ifx, e_aNil, e_aCons, e_call, e_cVal, e_cNot, e_cAnd, e_cOr, e_and, e_or, e_not, e_add, e_sub, e_lt, e_le, e_gt, e_ge, e_neg, e_eqi, e_nei, e_isN, e_notN, e_partsE, e_ixT0, e_ixT1, e_ixT2, e_ixT3, e_ixT4, e_ixL0, e_ixL1, e_ixL2, e_ixL3, e_ixL4, e_callP, e_callE, e_allP, e_allP0, e_tup, e_lst, e_par, List.map_cons, List.map_nil, List.append_assoc, List.nil_append, List.cons_append, List.replicate, List.getElem?_cons_zero, List.getElem?_cons_succ, List.set_cons_zero, List.set_cons_succ, Option.map_some, if_true, if_false, Bool.false_eq_true, decide_eq_true_eq, List.length_cons, List.length_nil, bg0, bg1, bg2, bg3, bg4, bg5, bg6, bg7, bg8, bg9, bg10, bg11, bg12, bg13, bg14, n2, n4, er, es, n5, n6, n7]
theorem due_PD {o : Option (Nat × Nat)} : PD 1 (dueD o) := by
  cases o with
  | none => exact PD.non
  | some z =>
    obtain ⟨ln, b⟩ := z
    refine PD.tup fun d hd => ?_
    simp only [List.mem_cons, List.not_mem_nil, or_false] at hd
    rcases hd with rfl | rfl <;> exact PD.int
theorem e_joinN {rows : List Str} (h : wt (rows.map TL.tl) ≤ 1000000) {g : Ef} {ρ : Nv} {S S1 : Sto} (hg : g ρ S = .ok (.p (.lst (rows.map DL.D.str))) S1) : dJoin (dC (.str "\n")) g ρ S = .ok (.p (.str (Txt.join "\n" rows))) S1 := by
  have eb : (("\n" : Str)).length = 1 := by decide +kernel
  rw [wt_str] at h
  unfold dJoin
  rw [e_C, e_bind]
  dsimp only
  rw [hg, e_bind]
  show (match strsOf (rows.map DL.D.str) with | some ys => (if (ys.map Str.length).sum + ys.length * (("\n" : Str)).length ≤ 16777216 then Out.ok (Dv.p (.str (Txt.join "\n" ys))) S1 else .bad) | none => .bad) = _
  rw [strs_map]
  dsimp only
  rw [if_pos (by rw [eb]; omega)]
/-- rows joined -/
theorem rows_text {rows : List Str} {n : Nat} (h : RwOk rows n) : (∀ c ∈ TL.tl (Txt.join "\n" rows), c < 256) ∧ (Txt.join "\n" rows).length + 1 ≤ n := by
  have hj : TL.tl (Txt.join "\n" rows) = TL.joinL [10] (rows.map TL.tl) := by rw [TL.join_eq, TL.tl_join, tl_nl]
  refine ⟨fun c hc => ?_, ?_⟩
  · rw [hj] at hc
    rcases joinL_in hc with e | ⟨p, hp, e⟩
    · omega
    · obtain ⟨r, hr, rfl⟩ := List.mem_map.mp hp
      exact h.at_ r hr c e
  · rw [TL.len_tl, hj, wt_join (by simpa using h.ne)]
    exact h.le
/-- up to two spoils -/
theorem spoil_loop {ns : List Int} {r : Ru} : ∀ (m : Nat) (ds : List DL.D) (rows : List Str) (n : Nat) (x4 : Option Dv) (S : Sto), ds.length = m → m ≤ 2 → RwOk rows n → n ≤ 2000 * (3 - m) * (3 - m) * (3 - m) → Dr S [] →
    ∃ (rows' : List Str) (y4 : Option Dv) (S' : Sto), forL (gN 4) (sSet 3 (dCallE m_law_spoil (aCons (dName 1) (aCons (dName 3) aNil)))) ds [some (.p (.scr ns)), some (.hnd 1), some (.p (.lst (ruD r))), some (.p (.lst (rows.map DL.D.str))), x4, none, none] S
      = .ok (.nx [some (.p (.scr ns)), some (.hnd 1), some (.p (.lst (ruD r))), some (.p (.lst (rows'.map DL.D.str))), y4, none, none]) S' ∧ RwOk rows' 60000 ∧ Dr S' []
  | 0, ds, rows, n, x4, S, hl, _, h, hn, d => by
    have : ds = [] := List.eq_nil_of_length_eq_zero hl
    subst this
    exact ⟨rows, x4, S, rfl, h.more (by omega), d⟩
  | m + 1, d0 :: ds, rows, n, x4, S, hl, hm, h, hn, d => by
    have hn' : n ≤ 40000 := by
      have : m = 0 ∨ m = 1 := by omega
      rcases this with rfl | rfl <;> omega
    obtain ⟨rows1, S1, e1, h1, d1⟩ := spoil_eq h hn' d
    obtain ⟨rows', y4, S', e2, h2, d2⟩ := spoil_loop (ns := ns) (r := r) m ds rows1 (2 * n + 20) (some (.p d0)) S1 (by simpa using hl) (by omega) h1 (by
      have : m = 0 ∨ m = 1 := by omega
      rcases this with rfl | rfl <;> omega) d1
    refine ⟨rows', y4, S', ?_, h2, d2⟩
    rw [← e2]
    conv => lhs; unfold forL
    simp only [gN, e_seq, e_seq_nx, e_seq_rt, e_seq_ite, e_bind, e_bind_ite, e_toS, e_toS_ite, e_set, e_ret, e_expr, e_nil, e_if, e_name, e_C, e_bin, e_un, e_ifx, e_aNil, e_aCons, e_call, e_cVal, e_cNot, e_cAnd, e_cOr, e_and, e_or, e_not, e_add, e_sub, e_lt, e_le, e_gt, e_ge, e_neg, e_eqi, e_nei, e_isN, e_notN, e_partsE, e_ixT0, e_ixT1, e_ixT2, e_ixT3, e_ixT4, e_ixL0, e_ixL1, e_ixL2, e_ixL3, e_ixL4, e_callP, e_callE, e_allP, e_allP0, e_tup, e_lst, e_par, List.map_cons, List.map_nil, List.append_assoc, List.nil_append, List.cons_append, List.replicate, List.getElem?_cons_zero, List.getElem?_cons_succ, List.set_cons_zero, List.set_cons_succ, Option.map_some, if_true, if_false, Bool.false_eq_true, decide_eq_true_eq, List.length_cons, List.length_nil, bg0, bg1, bg2, bg3, bg4, bg5, bg6, bg7, bg8, bg9, bg10, bg11, bg12, bg13, bg14, e1]

theorem told_em : m_law_told [.str ""] = .ok (.tup [.int 1, .int 1]) := by kernel_rfl
theorem told_nl : m_law_told [.str "rule left on same 0 once\n"] = .ok (.tup [.int 2, .int 1]) := by kernel_rfl
theorem first_rows {r : Ru} (hr : r.ok) {ts : List Tk} (hts : ∀ t ∈ ts, t.ok) (hl : ts.length ≤ 3) : RwOk (allW r ts) 2000 ∧ Txt.split (textT (allW r ts)) "\n" = allW r ts ∧ (textT (allW r ts)).length + 2 ≤ 16777216 := by
  have wl := allW_len hr hts
  have wn : (allW r ts).length ≤ 4 := by unfold allW; rw [List.length_cons, List.length_map]; omega
  have wat : ∀ x ∈ allW r ts, (∀ c ∈ TL.tl x, c < 256) ∧ 10 ∉ TL.tl x := fun x hx => by
    rcases List.mem_cons.mp hx with rfl | hx
    · exact ⟨fun c hc => (row_at (rl_wds hr) c hc).1, fun hc => (row_at (rl_wds hr) 10 hc).2 rfl⟩
    · obtain ⟨t, h, rfl⟩ := List.mem_map.mp hx
      exact ⟨fun c hc => (row_at (tk_wds (hts t h)) c hc).1, fun hc => (row_at (tk_wds (hts t h)) 10 hc).2 rfl⟩
  have ne : allW r ts ≠ [] := by unfold allW; simp
  have tl := text_len wl
  have tl2 : (allW r ts).length * (246 + 1) ≤ 4 * 247 := Nat.mul_le_mul_right _ wn
  have hj : TL.tl (textT (allW r ts)) = TL.joinL [10] ((allW r ts).map TL.tl) := by unfold textT; rw [TL.join_eq, TL.tl_join, tl_nl]
  refine ⟨⟨ne, fun x hx => (wat x hx).1, ?_⟩, text_split ne fun x hx => (wat x hx).2, by omega⟩
  rw [← wt_join (s := 10) (by simpa using ne), ← hj, ← TL.len_tl]
  omega
theorem math (ns : List Int) (hl : ns.length ≤ 63) : ∃ S, m_law [.p (.scr ns)] [] = .ok (.p (.bl true)) S := by
  obtain ⟨S0, n0, d0⟩ := mix_eq ns hl 12
  obtain ⟨r, S1, hr, n1, d1⟩ := rule_eq d0
  have eb := built_eq hr
  obtain ⟨k2, S2, n2, a2, b2, d2⟩ := next_eq d1 (b := 4) (by decide) (by decide)
  obtain ⟨l, S3, e3, d3, hR, hlen⟩ := comp_run (t := gN 6) (el := dCallE m_law_ticket (aCons (dName 1) aNil)) (ρ := [some (.p (.scr ns)), some (.hnd 1), some (.p (.lst (ruD r))), none, none, none, none]) (fun S => Dr S []) (fun d => ∃ t : Tk, t.ok ∧ d = tkD t) (ds := rngD 0 k2.toNat) d2 (fun d hd => ⟨[some (.p (.scr ns)), some (.hnd 1), some (.p (.lst (ruD r))), none, none, none, some (.p d)], rfl, fun S hS => by
    obtain ⟨t, S', ht, e, dd⟩ := law_ticket_eq hS
    refine ⟨tkD t, S', ?_, ⟨t, ht, rfl⟩, dd⟩
    have e' : dCallE m_law_ticket (aCons (dName 1) aNil) [some (.p (.scr ns)), some (.hnd 1), some (.p (.lst (ruD r))), none, none, none, some (.p d)] S = .ok (.p (tkD t)) S' := by simp only [e_seq, e_seq_nx, e_seq_rt, e_seq_ite, e_bind, e_bind_ite, e_toS, e_toS_ite, e_set, e_ret, e_expr, e_nil, e_if, e_name, e_C, e_bin, e_un, e_ifx, e_aNil, e_aCons, e_call, e_cVal, e_cNot, e_cAnd, e_cOr, e_and, e_or, e_not, e_add, e_sub, e_lt, e_le, e_gt, e_ge, e_neg, e_eqi, e_nei, e_isN, e_notN, e_partsE, e_ixT0, e_ixT1, e_ixT2, e_ixT3, e_ixT4, e_ixL0, e_ixL1, e_ixL2, e_ixL3, e_ixL4, e_callP, e_callE, e_allP, e_allP0, e_tup, e_lst, e_par, List.map_cons, List.map_nil, List.append_assoc, List.nil_append, List.cons_append, List.replicate, List.getElem?_cons_zero, List.getElem?_cons_succ, List.set_cons_zero, List.set_cons_succ, Option.map_some, if_true, if_false, Bool.false_eq_true, decide_eq_true_eq, List.length_cons, List.length_nil, bg0, bg1, bg2, bg3, bg4, bg5, bg6, bg7, bg8, bg9, bg10, bg11, bg12, bg13, bg14, e]
    exact e'⟩)
  obtain ⟨ts, rfl, hts⟩ := tks_of hR
  have tl : ts.length ≤ 3 := by
    rw [List.length_map] at hlen
    rw [hlen]; unfold rngD; rw [List.length_map, List.length_range]; omega
  have f3 : dComp [6] (DL.iRng1 (dCallE m_law_next (aCons (dName 1) (aCons (dC (.int 4)) aNil)))) (gN 6) cYes (dCallE m_law_ticket (aCons (dName 1) aNil)) [some (.p (.scr ns)), some (.hnd 1), some (.p (.lst (ruD r))), none, none, none, none] S1 = .ok (.p (.lst (ts.map tkD))) S3 :=
    e_comp (S1 := S2) (ds := rngD 0 k2.toNat) (e_rng1 (j := k2) (by simp only [e_seq, e_seq_nx, e_seq_rt, e_seq_ite, e_bind, e_bind_ite, e_toS, e_toS_ite, e_set, e_ret, e_expr, e_nil, e_if, e_name, e_C, e_bin, e_un, e_ifx, e_aNil, e_aCons, e_call, e_cVal, e_cNot, e_cAnd, e_cOr, e_and, e_or, e_not, e_add, e_sub, e_lt, e_le, e_gt, e_ge, e_neg, e_eqi, e_nei, e_isN, e_notN, e_partsE, e_ixT0, e_ixT1, e_ixT2, e_ixT3, e_ixT4, e_ixL0, e_ixL1, e_ixL2, e_ixL3, e_ixL4, e_callP, e_callE, e_allP, e_allP0, e_tup, e_lst, e_par, List.map_cons, List.map_nil, List.append_assoc, List.nil_append, List.cons_append, List.replicate, List.getElem?_cons_zero, List.getElem?_cons_succ, List.set_cons_zero, List.set_cons_succ, Option.map_some, if_true, if_false, Bool.false_eq_true, decide_eq_true_eq, List.length_cons, List.length_nil, bg0, bg1, bg2, bg3, bg4, bg5, bg6, bg7, bg8, bg9, bg10, bg11, bg12, bg13, bg14, n2]) (by omega)) (by unfold rngD big; rw [List.length_map, List.length_range]; omega) e3
  have f4 := write_eq hr (c := .lst (ts.map tkD)) hts (by omega) (.inl rfl)
  obtain ⟨rw0, sp0, tl0⟩ := first_rows hr hts tl
  have f5 : dSplit (dCallP m_write_tickets (aCons (dCallP m_law_built (aCons (dName 2) aNil)) (aCons (dComp [6] (DL.iRng1 (dCallE m_law_next (aCons (dName 1) (aCons (dC (.int 4)) aNil)))) (gN 6) cYes (dCallE m_law_ticket (aCons (dName 1) aNil))) aNil))) (dC (.str "\n")) [some (.p (.scr ns)), some (.hnd 1), some (.p (.lst (ruD r))), none, none, none, none] S1 = .ok (.p (.lst ((allW r ts).map DL.D.str))) S3 := by
    unfold dSplit
    generalize dComp [6] (DL.iRng1 (dCallE m_law_next (aCons (dName 1) (aCons (dC (.int 4)) aNil)))) (gN 6) cYes (dCallE m_law_ticket (aCons (dName 1) aNil)) = C6 at *
    simp only [e_seq, e_seq_nx, e_seq_rt, e_seq_ite, e_bind, e_bind_ite, e_toS, e_toS_ite, e_set, e_ret, e_expr, e_nil, e_if, e_name, e_C, e_bin, e_un, e_ifx, e_aNil, e_aCons, e_call, e_cVal, e_cNot, e_cAnd, e_cOr, e_and, e_or, e_not, e_add, e_sub, e_lt, e_le, e_gt, e_ge, e_neg, e_eqi, e_nei, e_isN, e_notN, e_partsE, e_ixT0, e_ixT1, e_ixT2, e_ixT3, e_ixT4, e_ixL0, e_ixL1, e_ixL2, e_ixL3, e_ixL4, e_callP, e_callE, e_allP, e_allP0, e_tup, e_lst, e_par, List.map_cons, List.map_nil, List.append_assoc, List.nil_append, List.cons_append, List.replicate, List.getElem?_cons_zero, List.getElem?_cons_succ, List.set_cons_zero, List.set_cons_succ, Option.map_some, if_true, if_false, Bool.false_eq_true, decide_eq_true_eq, List.length_cons, List.length_nil, bg0, bg1, bg2, bg3, bg4, bg5, bg6, bg7, bg8, bg9, bg10, bg11, bg12, bg13, bg14, eb, f3, f4]
    rw [if_pos ⟨nl_len, by unfold big; exact tl0⟩, sp0]
  obtain ⟨k4, S4, n4, a4, b4, d4⟩ := next_eq d3 (b := 3) (by decide) (by decide)
  have it : DL.iRng1 (dCallE m_law_next (aCons (dName 1) (aCons (dC (.int 3)) aNil))) [some (.p (.scr ns)), some (.hnd 1), some (.p (.lst (ruD r))), some (.p (.lst ((allW r ts).map DL.D.str))), none, none, none] S3 = .ok (rngD 0 k4.toNat) S4 := e_rng1 (j := k4) (by simp only [e_seq, e_seq_nx, e_seq_rt, e_seq_ite, e_bind, e_bind_ite, e_toS, e_toS_ite, e_set, e_ret, e_expr, e_nil, e_if, e_name, e_C, e_bin, e_un, e_ifx, e_aNil, e_aCons, e_call, e_cVal, e_cNot, e_cAnd, e_cOr, e_and, e_or, e_not, e_add, e_sub, e_lt, e_le, e_gt, e_ge, e_neg, e_eqi, e_nei, e_isN, e_notN, e_partsE, e_ixT0, e_ixT1, e_ixT2, e_ixT3, e_ixT4, e_ixL0, e_ixL1, e_ixL2, e_ixL3, e_ixL4, e_callP, e_callE, e_allP, e_allP0, e_tup, e_lst, e_par, List.map_cons, List.map_nil, List.append_assoc, List.nil_append, List.cons_append, List.replicate, List.getElem?_cons_zero, List.getElem?_cons_succ, List.set_cons_zero, List.set_cons_succ, Option.map_some, if_true, if_false, Bool.false_eq_true, decide_eq_true_eq, List.length_cons, List.length_nil, bg0, bg1, bg2, bg3, bg4, bg5, bg6, bg7, bg8, bg9, bg10, bg11, bg12, bg13, bg14, n4]) (by omega)
  obtain ⟨rows, y4, S5, e5, h5, d5⟩ := spoil_loop (ns := ns) (r := r) k4.toNat (rngD 0 k4.toNat) (allW r ts) 2000 none S4 (by unfold rngD; rw [List.length_map, List.length_range]) (by omega) rw0 (by
    have : k4.toNat = 0 ∨ k4.toNat = 1 ∨ k4.toNat = 2 := by omega
    rcases this with h | h | h <;> rw [h] <;> decide) d4
  obtain ⟨c1, c2⟩ := rows_text h5
  have e6 : ∀ (ρ : Nv) S, ρ[3]? = some (some (.p (.lst (rows.map DL.D.str)))) → dJoin (dC (.str "\n")) (dName 3) ρ S = .ok (.p (.str (Txt.join "\n" rows))) S := fun ρ S h => e_joinN (by have := h5.le; omega) (by rw [e_name, h])
  obtain ⟨o, t1, t2⟩ := same_any c1 (by omega)
  have w1 := fun S => ne_self (S := S) (due_PD (o := o)) (by decide)
  have w2 : ∀ S, oEq (.p (.tup [.int 1, .int 1])) (.p (.tup [.int 1, .int 1])) S = .ok (.p (.bl true)) S := fun S => by kernel_rfl
  have w3 : ∀ S, oEq (.p (.tup [.int 2, .int 1])) (.p (.tup [.int 2, .int 1])) S = .ok (.p (.bl true)) S := fun S => by kernel_rfl
  have t3 := told_em
  have t4 := told_nl
  refine ⟨S5, ?_⟩
  generalize Txt.join "\n" rows = TX at *
  generalize rows.map DL.D.str = RW at *
  generalize (allW r ts).map DL.D.str = R0 at *
  generalize rngD 0 k4.toNat = R4 at *
  unfold m_law runE b_law init
  generalize m_law_told = FT at *
  generalize m_law_due = FD at *
  generalize dSplit (dCallP m_write_tickets (aCons (dCallP m_law_built (aCons (dName 2) aNil)) (aCons (dComp [6] (DL.iRng1 (dCallE m_law_next (aCons (dName 1) (aCons (dC (.int 4)) aNil)))) (gN 6) cYes (dCallE m_law_ticket (aCons (dName 1) aNil))) aNil))) (dC (.str "\n")) = C5 at *
  generalize (sSet 3 (dCallE m_law_spoil (aCons (dName 1) (aCons (dName 3) aNil)))) = SPL at *
  simp only [e_seq, e_seq_nx, e_seq_rt, e_seq_ite, e_bind, e_bind_ite, e_toS, e_toS_ite, e_set, e_ret, e_expr, e_nil, e_if, e_name, e_C, e_bin, e_un, e_ifx, e_aNil, e_aCons, e_call, e_cVal, e_cNot, e_cAnd, e_cOr, e_and, e_or, e_not, e_add, e_sub, e_lt, e_le, e_gt, e_ge, e_neg, e_eqi, e_nei, e_isN, e_notN, e_partsE, e_ixT0, e_ixT1, e_ixT2, e_ixT3, e_ixT4, e_ixL0, e_ixL1, e_ixL2, e_ixL3, e_ixL4, e_callP, e_callE, e_allP, e_allP0, e_tup, e_lst, e_par, List.map_cons, List.map_nil, List.append_assoc, List.nil_append, List.cons_append, List.replicate, List.getElem?_cons_zero, List.getElem?_cons_succ, List.set_cons_zero, List.set_cons_succ, Option.map_some, if_true, if_false, Bool.false_eq_true, decide_eq_true_eq, List.length_cons, List.length_nil, bg0, bg1, bg2, bg3, bg4, bg5, bg6, bg7, bg8, bg9, bg10, bg11, bg12, bg13, bg14, e_sFor, n0, n1, f5, it, e5, e6, t1, t2, w1, t3, w2, t4, w3]

def topS (i : Nat) : Stmt := PySem.Challenge.pw_hallnumbers_k12_whole_texts_refused.main.body.getD i (.Pass ⟨0, 0, 0, 0⟩)
abbrev s_law_mix : Stmt := (topS 29)
theorem sc_law_mix : FnScope ["_law_script", "_law_seed", "_law_state", "_law_cell"] ["_law_script", "_law_seed"] (defScope s_law_mix) := ⟨rfl, rfl, rfl, by decide +kernel, rfl, by decide +kernel, by decide +kernel⟩
abbrev s_law_next : Stmt := (topS 30)
theorem sc_law_next : FnScope ["_law_h", "_law_bound", "_law_cell"] ["_law_h", "_law_bound"] (defScope s_law_next) := ⟨rfl, rfl, rfl, by decide +kernel, rfl, by decide +kernel, by decide +kernel⟩
abbrev s_law_rule : Stmt := (topS 31)
theorem sc_law_rule : FnScope ["_law_h", "_law_start", "_law_out", "_law_rows", "_law_ways"] ["_law_h"] (defScope s_law_rule) := ⟨rfl, rfl, rfl, by decide +kernel, rfl, by decide +kernel, by decide +kernel⟩
abbrev s_law_spoil : Stmt := (topS 38)
theorem sc_law_spoil : FnScope ["_law_h", "_law_rows", "_law_k", "_law_pick", "_law_words", "_law_at", "_law_more", "_law_new"] ["_law_h", "_law_rows"] (defScope s_law_spoil) := ⟨rfl, rfl, rfl, by decide +kernel, rfl, by decide +kernel, by decide +kernel⟩
abbrev s_InvalidText_init : Stmt := (inClass (topS 5) 0)
theorem sc_InvalidText_init : FnScope ["self", "line", "word"] ["self", "line", "word"] (defScope s_InvalidText_init) := ⟨rfl, rfl, rfl, by decide +kernel, rfl, by decide +kernel, by decide +kernel⟩
abbrev s_Line_refuse : Stmt := (inClass (topS 23) 1)
theorem sc_Line_refuse : FnScope ["self"] ["self"] (defScope s_Line_refuse) := ⟨rfl, rfl, rfl, by decide +kernel, rfl, by decide +kernel, by decide +kernel⟩
abbrev s_Line_take : Stmt := (inClass (topS 23) 2)
theorem sc_Line_take : FnScope ["self", "words"] ["self", "words"] (defScope s_Line_take) := ⟨rfl, rfl, rfl, by decide +kernel, rfl, by decide +kernel, by decide +kernel⟩
abbrev s_Line_finish : Stmt := (inClass (topS 23) 4)
theorem sc_Line_finish : FnScope ["self"] ["self"] (defScope s_Line_finish) := ⟨rfl, rfl, rfl, by decide +kernel, rfl, by decide +kernel, by decide +kernel⟩
abbrev s_is_integer : Stmt := (topS 12)
theorem sc_is_integer : FnScope ["value", "least", "most"] ["value", "least", "most"] (defScope s_is_integer) := ⟨rfl, rfl, rfl, by decide +kernel, rfl, by decide +kernel, by decide +kernel⟩
abbrev s_is_of : Stmt := (topS 13)
theorem sc_is_of : FnScope ["point", "value"] ["point", "value"] (defScope s_is_of) := ⟨rfl, rfl, rfl, by decide +kernel, rfl, by decide +kernel, by decide +kernel⟩
abbrev s_Rule_init : Stmt := (inClass (topS 15) 1)
theorem sc_Rule_init : FnScope ["self", "start", "rows", "ways", "out", "kind", "found", "point", "value"] ["self", "start", "rows", "ways", "out", "kind"] (defScope s_Rule_init) := ⟨rfl, rfl, rfl, by decide +kernel, rfl, by decide +kernel, by decide +kernel⟩
abbrev s_values_of : Stmt := (topS 14)
theorem sc_values_of : FnScope ["point"] ["point"] (defScope s_values_of) := ⟨rfl, rfl, rfl, by decide +kernel, rfl, by decide +kernel, by decide +kernel⟩
abbrev s_rule_in : Stmt := (topS 25)
theorem sc_rule_in : FnScope ["line", "found", "point", "word", "value"] ["line"] (defScope s_rule_in) := ⟨rfl, rfl, rfl, by decide +kernel, rfl, by decide +kernel, by decide +kernel⟩
abbrev s_Line_init : Stmt := (inClass (topS 23) 0)
theorem sc_Line_init : FnScope ["self", "text", "at", "word"] ["self", "text", "at"] (defScope s_Line_init) := ⟨rfl, rfl, rfl, by decide +kernel, rfl, by decide +kernel, by decide +kernel⟩
abbrev s_is_word : Stmt := (topS 24)
theorem sc_is_word : FnScope ["word", "least", "most", "sign"] ["word", "least", "most"] (defScope s_is_word) := ⟨rfl, rfl, rfl, by decide +kernel, rfl, by decide +kernel, by decide +kernel⟩
abbrev s_Line_take_number : Stmt := (inClass (topS 23) 3)
theorem sc_Line_take_number : FnScope ["self", "least", "most"] ["self", "least", "most"] (defScope s_Line_take_number) := ⟨rfl, rfl, rfl, by decide +kernel, rfl, by decide +kernel, by decide +kernel⟩
abbrev s_ticket_in : Stmt := (topS 26)
theorem sc_ticket_in : FnScope ["line", "rows", "seats", "row", "found"] ["line"] (defScope s_ticket_in) := ⟨rfl, rfl, rfl, by decide +kernel, rfl, by decide +kernel, by decide +kernel⟩
abbrev s_read_tickets : Stmt := (topS 27)
theorem sc_read_tickets : FnScope ["text", "lines", "rule", "index", "row", "line"] ["text"] (defScope s_read_tickets) := ⟨rfl, rfl, rfl, by decide +kernel, rfl, by decide +kernel, by decide +kernel⟩
abbrev s_law_told : Stmt := (topS 39)
theorem sc_law_told : FnScope ["_law_text", "_law_told_here", "e"] ["_law_text"] (defScope s_law_told) := ⟨rfl, rfl, rfl, by decide +kernel, rfl, by decide +kernel, by decide +kernel⟩
abbrev s_law_rule_bad : Stmt := (topS 35)
theorem sc_law_rule_bad : FnScope ["_law_words", "_law_good", "_law_k", "_law_out"] ["_law_words"] (defScope s_law_rule_bad) := ⟨rfl, rfl, rfl, by decide +kernel, rfl, by decide +kernel, by decide +kernel⟩
abbrev s_law_is_figures : Stmt := (topS 34)
theorem sc_law_is_figures : FnScope ["_law_word", "_law_low", "_law_high", "_law_sign"] ["_law_word", "_law_low", "_law_high"] (defScope s_law_is_figures) := ⟨rfl, rfl, rfl, by decide +kernel, rfl, by decide +kernel, by decide +kernel⟩
abbrev s_law_ticket_bad : Stmt := (topS 36)
theorem sc_law_ticket_bad : FnScope ["_law_words", "_law_high", "_law_k", "_law_low", "_law_most"] ["_law_words"] (defScope s_law_ticket_bad) := ⟨rfl, rfl, rfl, by decide +kernel, rfl, by decide +kernel, by decide +kernel⟩
abbrev s_law_due : Stmt := (topS 37)
theorem sc_law_due : FnScope ["_law_text", "_law_rows", "_law_k", "_law_words", "_law_bad", "_law_word"] ["_law_text"] (defScope s_law_due) := ⟨rfl, rfl, rfl, by decide +kernel, rfl, by decide +kernel, by decide +kernel⟩
abbrev s_is_ticket : Stmt := (topS 20)
theorem sc_is_ticket : FnScope ["value", "rows", "seats", "row", "seat", "number"] ["value"] (defScope s_is_ticket) := ⟨rfl, rfl, rfl, by decide +kernel, rfl, by decide +kernel, by decide +kernel⟩
abbrev s_InvalidTicket_init : Stmt := (inClass (topS 4) 0)
theorem sc_InvalidTicket_init : FnScope ["self", "index"] ["self", "index"] (defScope s_InvalidTicket_init) := ⟨rfl, rfl, rfl, by decide +kernel, rfl, by decide +kernel, by decide +kernel⟩
abbrev s_look_at_tickets : Stmt := (topS 21)
theorem sc_look_at_tickets : FnScope ["tickets", "index", "ticket"] ["tickets"] (defScope s_look_at_tickets) := ⟨rfl, rfl, rfl, by decide +kernel, rfl, by decide +kernel, by decide +kernel⟩
abbrev s_write_tickets : Stmt := (topS 22)
theorem sc_write_tickets : FnScope ["rule", "tickets", "rows", "ticket", "part"] ["rule", "tickets"] (defScope s_write_tickets) := ⟨rfl, rfl, rfl, by decide +kernel, rfl, by decide +kernel, by decide +kernel⟩
abbrev s_law_built : Stmt := (topS 32)
theorem sc_law_built : FnScope ["_law_t"] ["_law_t"] (defScope s_law_built) := ⟨rfl, rfl, rfl, by decide +kernel, rfl, by decide +kernel, by decide +kernel⟩
abbrev s_law_ticket : Stmt := (topS 33)
theorem sc_law_ticket : FnScope ["_law_h", "_law_rows", "_law_seats"] ["_law_h"] (defScope s_law_ticket) := ⟨rfl, rfl, rfl, by decide +kernel, rfl, by decide +kernel, by decide +kernel⟩
abbrev s_law : Stmt := (topS 40)
theorem sc_law : FnScope ["_law_script", "_law_h", "_law_t", "_law_rows", "_law_turn", "_law_text", "_law_k"] ["_law_script"] (defScope s_law) := ⟨rfl, rfl, rfl, by decide +kernel, rfl, by decide +kernel, by decide +kernel⟩
theorem reps_OUTS {G : Gx} (B : Hp) : Reps G B t_OUTS [V.int 0, V.int 2, V.int 3, V.int 4, V.int 5, V.int 6, V.int 7, V.int 8, V.int 9, V.int 10, V.int 11, V.int 12, V.int 13] := Reps.cons (by unfold Rep; rfl) (Reps.cons (by unfold Rep; rfl) (Reps.cons (by unfold Rep; rfl) (Reps.cons (by unfold Rep; rfl) (Reps.cons (by unfold Rep; rfl) (Reps.cons (by unfold Rep; rfl) (Reps.cons (by unfold Rep; rfl) (Reps.cons (by unfold Rep; rfl) (Reps.cons (by unfold Rep; rfl) (Reps.cons (by unfold Rep; rfl) (Reps.cons (by unfold Rep; rfl) (Reps.cons (by unfold Rep; rfl) (Reps.cons (by unfold Rep; rfl) (Reps.nil)))))))))))))
theorem reps_POINTS {G : Gx} (B : Hp) : Reps G B t_POINTS [V.str "start", V.str "rows", V.str "ways", V.str "out", V.str "kind"] := Reps.cons (by unfold Rep; rfl) (Reps.cons (by unfold Rep; rfl) (Reps.cons (by unfold Rep; rfl) (Reps.cons (by unfold Rep; rfl) (Reps.cons (by unfold Rep; rfl) (Reps.nil)))))
structure Ad where
  f_law_mix : Addr
  d_law_mix : FuncData
  f_law_next : Addr
  d_law_next : FuncData
  f_law_rule : Addr
  d_law_rule : FuncData
  f_law_spoil : Addr
  d_law_spoil : FuncData
  f_InvalidText_init : Addr
  d_InvalidText_init : FuncData
  f_Line_refuse : Addr
  d_Line_refuse : FuncData
  f_Line_take : Addr
  d_Line_take : FuncData
  f_Line_finish : Addr
  d_Line_finish : FuncData
  f_is_integer : Addr
  d_is_integer : FuncData
  f_is_of : Addr
  d_is_of : FuncData
  f_Rule_init : Addr
  d_Rule_init : FuncData
  f_values_of : Addr
  d_values_of : FuncData
  f_rule_in : Addr
  d_rule_in : FuncData
  f_Line_init : Addr
  d_Line_init : FuncData
  f_is_word : Addr
  d_is_word : FuncData
  f_Line_take_number : Addr
  d_Line_take_number : FuncData
  f_ticket_in : Addr
  d_ticket_in : FuncData
  f_read_tickets : Addr
  d_read_tickets : FuncData
  f_law_told : Addr
  d_law_told : FuncData
  f_law_rule_bad : Addr
  d_law_rule_bad : FuncData
  f_law_is_figures : Addr
  d_law_is_figures : FuncData
  f_law_ticket_bad : Addr
  d_law_ticket_bad : FuncData
  f_law_due : Addr
  d_law_due : FuncData
  f_is_ticket : Addr
  d_is_ticket : FuncData
  f_InvalidTicket_init : Addr
  d_InvalidTicket_init : FuncData
  f_look_at_tickets : Addr
  d_look_at_tickets : FuncData
  f_write_tickets : Addr
  d_write_tickets : FuncData
  f_law_built : Addr
  d_law_built : FuncData
  f_law_ticket : Addr
  d_law_ticket : FuncData
  f_law : Addr
  d_law : FuncData
  pR : Addr
  a_OUTS : Addr
  a_POINTS : Addr
  a_WORDS : Addr
structure Tx (P : Program) (w : World) (A : Ad) (mg : Str → Option Value) (G : Gx) : Prop where
  F_law_mix : Fun G.K "_law_mix" "_law_mix" s_law_mix A.f_law_mix A.d_law_mix
  b_law_mix : L2.Binds G.K A.d_law_mix ["_law_script", "_law_seed"] []
  g_law_mix : mg "_law_mix" = some (.ref A.f_law_mix)
  F_law_next : Fun G.K "_law_next" "_law_next" s_law_next A.f_law_next A.d_law_next
  b_law_next : L2.Binds G.K A.d_law_next ["_law_h", "_law_bound"] []
  g_law_next : mg "_law_next" = some (.ref A.f_law_next)
  F_law_rule : Fun G.K "_law_rule" "_law_rule" s_law_rule A.f_law_rule A.d_law_rule
  b_law_rule : L2.Binds G.K A.d_law_rule ["_law_h"] []
  g_law_rule : mg "_law_rule" = some (.ref A.f_law_rule)
  F_law_spoil : Fun G.K "_law_spoil" "_law_spoil" s_law_spoil A.f_law_spoil A.d_law_spoil
  b_law_spoil : L2.Binds G.K A.d_law_spoil ["_law_h", "_law_rows"] []
  g_law_spoil : mg "_law_spoil" = some (.ref A.f_law_spoil)
  F_InvalidText_init : Fun G.K "__init__" "InvalidText.__init__" s_InvalidText_init A.f_InvalidText_init A.d_InvalidText_init
  b_InvalidText_init : L2.Binds G.K A.d_InvalidText_init ["self", "line", "word"] []
  F_Line_refuse : Fun G.K "refuse" "Line.refuse" s_Line_refuse A.f_Line_refuse A.d_Line_refuse
  b_Line_refuse : L2.Binds G.K A.d_Line_refuse ["self"] []
  F_Line_take : Fun G.K "take" "Line.take" s_Line_take A.f_Line_take A.d_Line_take
  b_Line_take : L2.Binds G.K A.d_Line_take ["self", "words"] []
  F_Line_finish : Fun G.K "finish" "Line.finish" s_Line_finish A.f_Line_finish A.d_Line_finish
  b_Line_finish : L2.Binds G.K A.d_Line_finish ["self"] []
  F_is_integer : Fun G.K "is_integer" "is_integer" s_is_integer A.f_is_integer A.d_is_integer
  b_is_integer : L2.Binds G.K A.d_is_integer ["value", "least", "most"] []
  g_is_integer : mg "is_integer" = some (.ref A.f_is_integer)
  F_is_of : Fun G.K "is_of" "is_of" s_is_of A.f_is_of A.d_is_of
  b_is_of : L2.Binds G.K A.d_is_of ["point", "value"] []
  g_is_of : mg "is_of" = some (.ref A.f_is_of)
  F_Rule_init : Fun G.K "__init__" "Rule.__init__" s_Rule_init A.f_Rule_init A.d_Rule_init
  b_Rule_init : L2.Binds G.K A.d_Rule_init ["self", "start", "rows", "ways", "out", "kind"] []
  F_values_of : Fun G.K "values_of" "values_of" s_values_of A.f_values_of A.d_values_of
  b_values_of : L2.Binds G.K A.d_values_of ["point"] []
  g_values_of : mg "values_of" = some (.ref A.f_values_of)
  F_rule_in : Fun G.K "rule_in" "rule_in" s_rule_in A.f_rule_in A.d_rule_in
  b_rule_in : L2.Binds G.K A.d_rule_in ["line"] []
  g_rule_in : mg "rule_in" = some (.ref A.f_rule_in)
  F_Line_init : Fun G.K "__init__" "Line.__init__" s_Line_init A.f_Line_init A.d_Line_init
  b_Line_init : L2.Binds G.K A.d_Line_init ["self", "text", "at"] []
  F_is_word : Fun G.K "is_word" "is_word" s_is_word A.f_is_word A.d_is_word
  b_is_word : L2.Binds G.K A.d_is_word ["word", "least", "most"] []
  g_is_word : mg "is_word" = some (.ref A.f_is_word)
  F_Line_take_number : Fun G.K "take_number" "Line.take_number" s_Line_take_number A.f_Line_take_number A.d_Line_take_number
  b_Line_take_number : L2.Binds G.K A.d_Line_take_number ["self", "least", "most"] []
  F_ticket_in : Fun G.K "ticket_in" "ticket_in" s_ticket_in A.f_ticket_in A.d_ticket_in
  b_ticket_in : L2.Binds G.K A.d_ticket_in ["line"] []
  g_ticket_in : mg "ticket_in" = some (.ref A.f_ticket_in)
  F_read_tickets : Fun G.K "read_tickets" "read_tickets" s_read_tickets A.f_read_tickets A.d_read_tickets
  b_read_tickets : L2.Binds G.K A.d_read_tickets ["text"] []
  g_read_tickets : mg "read_tickets" = some (.ref A.f_read_tickets)
  F_law_told : Fun G.K "_law_told" "_law_told" s_law_told A.f_law_told A.d_law_told
  b_law_told : L2.Binds G.K A.d_law_told ["_law_text"] []
  g_law_told : mg "_law_told" = some (.ref A.f_law_told)
  F_law_rule_bad : Fun G.K "_law_rule_bad" "_law_rule_bad" s_law_rule_bad A.f_law_rule_bad A.d_law_rule_bad
  b_law_rule_bad : L2.Binds G.K A.d_law_rule_bad ["_law_words"] []
  g_law_rule_bad : mg "_law_rule_bad" = some (.ref A.f_law_rule_bad)
  F_law_is_figures : Fun G.K "_law_is_figures" "_law_is_figures" s_law_is_figures A.f_law_is_figures A.d_law_is_figures
  b_law_is_figures : L2.Binds G.K A.d_law_is_figures ["_law_word", "_law_low", "_law_high"] []
  g_law_is_figures : mg "_law_is_figures" = some (.ref A.f_law_is_figures)
  F_law_ticket_bad : Fun G.K "_law_ticket_bad" "_law_ticket_bad" s_law_ticket_bad A.f_law_ticket_bad A.d_law_ticket_bad
  b_law_ticket_bad : L2.Binds G.K A.d_law_ticket_bad ["_law_words"] []
  g_law_ticket_bad : mg "_law_ticket_bad" = some (.ref A.f_law_ticket_bad)
  F_law_due : Fun G.K "_law_due" "_law_due" s_law_due A.f_law_due A.d_law_due
  b_law_due : L2.Binds G.K A.d_law_due ["_law_text"] []
  g_law_due : mg "_law_due" = some (.ref A.f_law_due)
  F_is_ticket : Fun G.K "is_ticket" "is_ticket" s_is_ticket A.f_is_ticket A.d_is_ticket
  b_is_ticket : L2.Binds G.K A.d_is_ticket ["value"] []
  g_is_ticket : mg "is_ticket" = some (.ref A.f_is_ticket)
  F_InvalidTicket_init : Fun G.K "__init__" "InvalidTicket.__init__" s_InvalidTicket_init A.f_InvalidTicket_init A.d_InvalidTicket_init
  b_InvalidTicket_init : L2.Binds G.K A.d_InvalidTicket_init ["self", "index"] []
  F_look_at_tickets : Fun G.K "look_at_tickets" "look_at_tickets" s_look_at_tickets A.f_look_at_tickets A.d_look_at_tickets
  b_look_at_tickets : L2.Binds G.K A.d_look_at_tickets ["tickets"] []
  g_look_at_tickets : mg "look_at_tickets" = some (.ref A.f_look_at_tickets)
  F_write_tickets : Fun G.K "write_tickets" "write_tickets" s_write_tickets A.f_write_tickets A.d_write_tickets
  b_write_tickets : L2.Binds G.K A.d_write_tickets ["rule", "tickets"] []
  g_write_tickets : mg "write_tickets" = some (.ref A.f_write_tickets)
  F_law_built : Fun G.K "_law_built" "_law_built" s_law_built A.f_law_built A.d_law_built
  b_law_built : L2.Binds G.K A.d_law_built ["_law_t"] []
  g_law_built : mg "_law_built" = some (.ref A.f_law_built)
  F_law_ticket : Fun G.K "_law_ticket" "_law_ticket" s_law_ticket A.f_law_ticket A.d_law_ticket
  b_law_ticket : L2.Binds G.K A.d_law_ticket ["_law_h"] []
  g_law_ticket : mg "_law_ticket" = some (.ref A.f_law_ticket)
  F_law : Fun G.K "law" "law" s_law A.f_law A.d_law
  b_law : L2.Binds G.K A.d_law ["_law_script"] []
  g_law : mg "law" = some (.ref A.f_law)
  z_all : mg "all" = none
  z_bool : mg "bool" = none
  z_enumerate : mg "enumerate" = none
  z_int : mg "int" = none
  z_isinstance : mg "isinstance" = none
  z_len : mg "len" = none
  z_list : mg "list" = none
  z_max : mg "max" = none
  z_range : mg "range" = none
  z_str : mg "str" = none
  z_tuple : mg "tuple" = none
  z_zip : mg "zip" = none
  gR : mg "Rule" = some (.ref G.rc)
  M : Mk G.K G.rc A.f_Rule_init
  cR : SlX.SCls G.K G.rc
  sR : SlX.Slot1 G.K G.rc "parts" A.pR 0
  gU : mg "Line" = some (.ref G.uc)
  MU : Mk G.K G.uc A.f_Line_init
  cU : Cls G.K G.uc
  nU_at : NoAttr G.K G.uc "at"
  nU_pieces : NoAttr G.K G.uc "pieces"
  nU_spot : NoAttr G.K G.uc "spot"
  meU_finish : Meth G.K G.uc "finish" A.f_Line_finish
  meU_refuse : Meth G.K G.uc "refuse" A.f_Line_refuse
  meU_take : Meth G.K G.uc "take" A.f_Line_take
  meU_take_number : Meth G.K G.uc "take_number" A.f_Line_take_number
  X_InvalidTicket : XCl0 G.K mg "InvalidTicket" (G.xc 0)
  O_InvalidTicket : OexC G.K (G.xc 0)
  xi_InvalidTicket : PySem.W.findIn G.K (.ref (G.xc 0)) "__init__" = some (some (.ref A.f_InvalidTicket_init))
  xt_InvalidTicket : PySem.W.typeIn G.K (.ref A.f_InvalidTicket_init) = some (.type "function")
  xn_InvalidTicket : ∀ f ∈ (["index"] : List Str), PySem.W.findIn G.K (.ref (G.xc 0)) f = some none
  xf_InvalidTicket : G.xf 0 = (["index"] : List Str).reverse
  m_InvalidTicket : ∀ m b, mtOne 2 0 m = some b → PySem.W.exmOne G.K (.ref (G.xc m)) (.ref (G.xc 0)) = some b
  X_InvalidText : XCl0 G.K mg "InvalidText" (G.xc 1)
  O_InvalidText : OexC G.K (G.xc 1)
  xi_InvalidText : PySem.W.findIn G.K (.ref (G.xc 1)) "__init__" = some (some (.ref A.f_InvalidText_init))
  xt_InvalidText : PySem.W.typeIn G.K (.ref A.f_InvalidText_init) = some (.type "function")
  xn_InvalidText : ∀ f ∈ (["line", "word"] : List Str), PySem.W.findIn G.K (.ref (G.xc 1)) f = some none
  xf_InvalidText : G.xf 1 = (["line", "word"] : List Str).reverse
  m_InvalidText : ∀ m b, mtOne 2 1 m = some b → PySem.W.exmOne G.K (.ref (G.xc m)) (.ref (G.xc 1)) = some b
  XF_InvalidText : XfC G.K (G.xc 1)
  nd_InvalidText : (G.xf 1).Nodup
  no_InvalidText_line : PySem.W.findIn G.K (.ref (G.xc 1)) "line" = some none
  fk_InvalidText_line : (G.xf 1)[1]? = some ("line" : Str)
  no_InvalidText_word : PySem.W.findIn G.K (.ref (G.xc 1)) "word" = some none
  fk_InvalidText_word : (G.xf 1)[0]? = some ("word" : Str)
  q_OUTS : mg "OUTS" = some (.ref A.a_OUTS)
  h_OUTS : SqT G.K (fun _ => none) A.a_OUTS [V.int 0, V.int 2, V.int 3, V.int 4, V.int 5, V.int 6, V.int 7, V.int 8, V.int 9, V.int 10, V.int 11, V.int 12, V.int 13]
  q_POINTS : mg "POINTS" = some (.ref A.a_POINTS)
  h_POINTS : SqT G.K (fun _ => none) A.a_POINTS [V.str "start", V.str "rows", V.str "ways", V.str "out", V.str "kind"]
  i_MOST_SIZE : ∃ t, mg "MOST_SIZE" = some (.int 1000000 t)
  i_MOST : ∃ t, mg "MOST" = some (.int 1000000000000000000000000000000 t)
  s_DIGITS : ∃ t, mg "DIGITS" = some (.str "0123456789" t)
  q_WORDS : mg "WORDS" = some (.ref A.a_WORDS)
  tb_WORDS : ∀ z ds, tab_WORDS.lookup z = some ds → ∃ b xs, KDct G.K w A.a_WORDS z (.ref b) ∧ SqT G.K (fun _ => none) b xs ∧ ∀ B, Reps G B ds xs
section
variable {P : Program} {w : World} {A : Ad} {mg : Str → Option Value} {G : Gx} {base : Heap}
theorem ok_law_mix (T : Tx P w A mg G) : FnOk P w G.K mg base (L2.CX P w) 1 A.f_law_mix A.d_law_mix ["_law_script", "_law_seed"] (spE G 2 m_law_mix) :=
  ok_E (k := 0) T.F_law_mix sc_law_mix rfl fun cd A' outer s H E hr =>
    (ds_cons (dp_set (i := 2) sc_law_mix.nd rfl (by first | exact Or.inl rfl | exact Or.inr rfl) (de_name 1))
    (ds_cons (dp_for passesF rfl (di_seq rfl (de_name 0)) (dg_name sc_law_mix.nd rfl (by first | exact Or.inl rfl | exact Or.inr rfl))
      (ds_one (dp_set (i := 2) sc_law_mix.nd rfl (by first | exact Or.inl rfl | exact Or.inr rfl) (de_bin op_mod oMod_ok (de_callTy call_int1 nInt_ok rfl T.z_int PyProof.Rows.boot_int (da_cons (de_bin oAdd_op oAdd_ok (de_bin oAdd_op oAdd_ok (de_bin oMul_op oMul_ok (de_name 2) de_int) (de_bin op_mod oMod_ok (de_callTy call_int1 nInt_ok rfl T.z_int PyProof.Rows.boot_int (da_cons (de_name 3) da_nil)) de_int)) de_int) da_nil)) de_int))))
    (ds_one (dp_ret (de_lstR (da_cons (de_name 2) (da_cons (de_callTy call_list_of nListC_ok rfl T.z_list PyProof.Rows.boot_list (da_cons (de_name 0) da_nil)) (da_cons de_int (da_cons de_int da_nil)))))))))
theorem ok_law_next (T : Tx P w A mg G) : FnOk P w G.K mg base (L2.CX P w) 1 A.f_law_next A.d_law_next ["_law_h", "_law_bound"] (spE G 2 m_law_next) :=
  ok_E (k := 0) T.F_law_next sc_law_next rfl fun cd A' outer s H E hr =>
    (ds_cons (dp_set (i := 2) sc_law_next.nd rfl (by first | exact Or.inl rfl | exact Or.inr rfl) (de_ix oIx_op oIx_ok (de_bin oAdd_op oAdd_ok (de_ix oIx_op oIx_ok (de_name 0) de_int (fun _ _ => rfl)) (de_lst (da_cons de_int da_nil))) (de_bin op_mod oMod_ok (de_callTy call_int1 nInt_ok rfl T.z_int PyProof.Rows.boot_int (da_cons (de_ix oIx_op oIx_ok (de_name 0) de_int (fun _ _ => rfl)) da_nil)) (de_callB (call_max2 rfl) nMax2_ok rfl T.z_max boot_max (da_cons de_int (da_cons (de_callB call_len_seq nLen_ok rfl T.z_len PySem.boot_len (da_cons (de_ix oIx_op oIx_ok (de_name 0) de_int (fun _ _ => rfl)) da_nil)) da_nil)))) (fun _ _ => rfl)))
    (ds_cons (dp_if (dt_cmp op_ge oGe_ok (de_name 2) (de_bin op_pow oPow_ok de_int de_int) (nomark _)) (ds_cons (dp_setI (de_bin op_fdivW oDiv_ok (de_name 2) (de_name 1)) (de_ix oIx_op oIx_ok (de_name 0) de_int (fun _ _ => rfl)) (de_bin op_mod oMod_ok (de_callTy call_int1 nInt_ok rfl T.z_int PyProof.Rows.boot_int (da_cons (de_ix oIx_op oIx_ok (de_name 0) de_int (fun _ _ => rfl)) da_nil)) (de_callB call_len_seq nLen_ok rfl T.z_len PySem.boot_len (da_cons (de_ix oIx_op oIx_ok (de_name 0) de_int (fun _ _ => rfl)) da_nil))))
    (ds_one (dp_ret (de_bin op_mod oMod_ok (de_callTy call_int1 nInt_ok rfl T.z_int PyProof.Rows.boot_int (da_cons (de_name 2) da_nil)) (de_name 1))))) ds_nil)
    (ds_cons (dp_setI (de_bin op_mod oMod_ok (de_callTy call_int1 nInt_ok rfl T.z_int PyProof.Rows.boot_int (da_cons (de_bin oAdd_op oAdd_ok (de_bin oAdd_op oAdd_ok (de_bin oMul_op oMul_ok (de_ix oIx_op oIx_ok (de_name 0) de_int (fun _ _ => rfl)) de_int) (de_bin oMul_op oMul_ok (de_name 2) de_int)) de_int) da_nil)) de_int) (de_name 0) de_int)
    (ds_cons (dp_setI (de_bin oAdd_op oAdd_ok (de_ix oIx_op oIx_ok (de_name 0) de_int (fun _ _ => rfl)) de_int) (de_name 0) de_int)
    (ds_one (dp_ret (de_bin op_mod oMod_ok (de_callTy call_int1 nInt_ok rfl T.z_int PyProof.Rows.boot_int (da_cons (de_bin op_fdivW oDiv_ok (de_ix oIx_op oIx_ok (de_name 0) de_int (fun _ _ => rfl)) de_int) da_nil)) (de_name 1))))))))
theorem ok_law_rule (T : Tx P w A mg G) : FnOk P w G.K mg base (L2.CX P w) 2 A.f_law_rule A.d_law_rule ["_law_h"] (spE G 1 m_law_rule) :=
  ok_E (k := 1) T.F_law_rule sc_law_rule rfl fun cd A' outer s H E hr =>
    (ds_cons (dp_set (i := 1) sc_law_rule.nd rfl (by first | exact Or.inl rfl | exact Or.inr rfl) (de_ix oIx_op oIx_ok (de_lst (da_cons de_str (da_cons de_str (da_cons de_str da_nil)))) (de_callE takesF (ok_law_next T) (hr.mono (by decide)) rfl T.g_law_next T.F_law_next.kp T.b_law_next (aCons_len (aCons_len (fun _ _ _ _ h => aNil_len h))) (da_cons (de_name 0) (da_cons de_int da_nil))) (fun _ _ => rfl)))
    (ds_cons (dp_par (i := 3) (j := 4) rfl sc_law_rule.nd rfl rfl (by decide) rfl rfl (da_cons (de_ix oIx_op oIx_ok (de_lst (da_cons de_str (da_cons de_str da_nil))) (de_callE takesF (ok_law_next T) (hr.mono (by decide)) rfl T.g_law_next T.F_law_next.kp T.b_law_next (aCons_len (aCons_len (fun _ _ _ _ h => aNil_len h))) (da_cons (de_name 0) (da_cons de_int da_nil))) (fun _ _ => rfl)) (da_cons (de_ix oIx_op oIx_ok (de_lst (da_cons de_str (da_cons de_str da_nil))) (de_callE takesF (ok_law_next T) (hr.mono (by decide)) rfl T.g_law_next T.F_law_next.kp T.b_law_next (aCons_len (aCons_len (fun _ _ _ _ h => aNil_len h))) (da_cons (de_name 0) (da_cons de_int da_nil))) (fun _ _ => rfl)) da_nil)) (by rfl))
    (ds_cons (dp_set (i := 2) sc_law_rule.nd rfl (by first | exact Or.inl rfl | exact Or.inr rfl) (de_ix oIx_op oIx_ok (de_lst (da_cons de_int (da_cons de_int (da_cons de_int (da_cons de_int (da_cons de_int (da_cons de_int (da_cons de_int (da_cons de_int (da_cons de_int (da_cons de_int (da_cons de_int (da_cons de_int (da_cons de_int da_nil)))))))))))))) (de_callE takesF (ok_law_next T) (hr.mono (by decide)) rfl T.g_law_next T.F_law_next.kp T.b_law_next (aCons_len (aCons_len (fun _ _ _ _ h => aNil_len h))) (da_cons (de_name 0) (da_cons de_int da_nil))) (fun _ _ => rfl)))
    (ds_one (dp_ret (de_lst (da_cons (de_name 1) (da_cons (de_name 3) (da_cons (de_name 4) (da_cons (de_name 2) (da_cons (de_ix oIx_op oIx_ok (de_lst (da_cons de_str (da_cons de_str da_nil))) (de_callE takesF (ok_law_next T) (hr.mono (by decide)) rfl T.g_law_next T.F_law_next.kp T.b_law_next (aCons_len (aCons_len (fun _ _ _ _ h => aNil_len h))) (da_cons (de_name 0) (da_cons de_int da_nil))) (fun _ _ => rfl)) da_nil)))))))))))
theorem ok_law_spoil (T : Tx P w A mg G) : FnOk P w G.K mg base (L2.CX P w) 2 A.f_law_spoil A.d_law_spoil ["_law_h", "_law_rows"] (spE G 2 m_law_spoil) :=
  ok_E (k := 1) T.F_law_spoil sc_law_spoil rfl fun cd A' outer s H E hr =>
    (ds_cons (dp_set (i := 2) sc_law_spoil.nd rfl (by first | exact Or.inl rfl | exact Or.inr rfl) (de_callE takesF (ok_law_next T) (hr.mono (by decide)) rfl T.g_law_next T.F_law_next.kp T.b_law_next (aCons_len (aCons_len (fun _ _ _ _ h => aNil_len h))) (da_cons (de_name 0) (da_cons (de_callB call_len_seq nLen_ok rfl T.z_len PySem.boot_len (da_cons (de_name 1) da_nil)) da_nil))))
    (ds_cons (dp_set (i := 3) sc_law_spoil.nd rfl (by first | exact Or.inl rfl | exact Or.inr rfl) (de_callE takesF (ok_law_next T) (hr.mono (by decide)) rfl T.g_law_next T.F_law_next.kp T.b_law_next (aCons_len (aCons_len (fun _ _ _ _ h => aNil_len h))) (da_cons (de_name 0) (da_cons de_int da_nil))))
    (ds_cons (dp_if (dt_cmp (op_eqD hr.units) oEq_ok (de_name 3) de_int (nomark _)) (ds_one (dp_ret (de_if (dt_cmp op_gt oGt_ok (de_callB call_len_seq nLen_ok rfl T.z_len PySem.boot_len (da_cons (de_name 1) da_nil)) de_int (nomark _)) (de_bin oAdd_op oAdd_ok (de_slice rfl (de_name 1) do_no (do_at (de_name 2))) (de_slice rfl (de_name 1) (do_at (de_bin oAdd_op oAdd_ok (de_name 2) de_int)) do_no)) (de_name 1)))) ds_nil)
    (ds_cons (dp_if (dt_cmp (op_eqD hr.units) oEq_ok (de_name 3) de_int (nomark _)) (ds_one (dp_ret (de_bin oAdd_op oAdd_ok (de_bin oAdd_op oAdd_ok (de_slice rfl (de_name 1) do_no (do_at (de_name 2))) (de_slice rfl (de_name 1) (do_at (de_name 2)) (do_at (de_bin oAdd_op oAdd_ok (de_name 2) de_int)))) (de_slice rfl (de_name 1) (do_at (de_name 2)) do_no)))) ds_nil)
    (ds_cons (dp_if (dt_cmp (op_eqD hr.units) oEq_ok (de_name 3) de_int (nomark _)) (ds_one (dp_ret (de_bin oAdd_op oAdd_ok (de_slice rfl (de_name 1) (do_at (de_name 2)) do_no) (de_slice rfl (de_name 1) do_no (do_at (de_name 2)))))) ds_nil)
    (ds_cons (dp_set (i := 4) sc_law_spoil.nd rfl (by first | exact Or.inl rfl | exact Or.inr rfl) (de_split (de_ix oIx_op oIx_ok (de_name 1) (de_name 2) (fun _ _ => rfl)) de_str))
    (ds_cons (dp_set (i := 5) sc_law_spoil.nd rfl (by first | exact Or.inl rfl | exact Or.inr rfl) (de_callE takesF (ok_law_next T) (hr.mono (by decide)) rfl T.g_law_next T.F_law_next.kp T.b_law_next (aCons_len (aCons_len (fun _ _ _ _ h => aNil_len h))) (da_cons (de_name 0) (da_cons (de_bin oAdd_op oAdd_ok (de_callB call_len_seq nLen_ok rfl T.z_len PySem.boot_len (da_cons (de_name 4) da_nil)) de_int) da_nil))))
    (ds_cons (dp_if (dt_cmp (op_eqD hr.units) oEq_ok (de_name 3) de_int (nomark _)) (ds_one (dp_ret (de_bin oAdd_op oAdd_ok (de_bin oAdd_op oAdd_ok (de_slice rfl (de_name 1) do_no (do_at (de_name 2))) (de_lst (da_cons (de_join rfl de_str (de_slice rfl (de_name 4) do_no (do_at (de_name 5)))) da_nil))) (de_slice rfl (de_name 1) (do_at (de_bin oAdd_op oAdd_ok (de_name 2) de_int)) do_no)))) ds_nil)
    (ds_cons (dp_set (i := 6) sc_law_spoil.nd rfl (by first | exact Or.inl rfl | exact Or.inr rfl) (de_lst (da_cons de_str (da_cons de_str (da_cons de_str (da_cons de_str (da_cons de_str (da_cons de_str (da_cons de_str (da_cons de_str (da_cons de_str (da_cons de_str (da_cons de_str (da_cons de_str (da_cons de_str (da_cons de_str (da_cons de_str da_nil)))))))))))))))))
    (ds_cons (dp_set (i := 7) sc_law_spoil.nd rfl (by first | exact Or.inl rfl | exact Or.inr rfl) (de_bin oAdd_op oAdd_ok (de_bin oAdd_op oAdd_ok (de_slice rfl (de_name 4) do_no (do_at (de_name 5))) (de_lst (da_cons (de_ix oIx_op oIx_ok (de_name 6) (de_callE takesF (ok_law_next T) (hr.mono (by decide)) rfl T.g_law_next T.F_law_next.kp T.b_law_next (aCons_len (aCons_len (fun _ _ _ _ h => aNil_len h))) (da_cons (de_name 0) (da_cons (de_callB call_len_seq nLen_ok rfl T.z_len PySem.boot_len (da_cons (de_name 6) da_nil)) da_nil))) (fun _ _ => rfl)) da_nil))) (de_slice rfl (de_name 4) (do_at (de_bin oAdd_op oAdd_ok (de_name 5) (de_callTy call_int1 nInt_ok rfl T.z_int PyProof.Rows.boot_int (da_cons (de_cmp op_gt oGt_ok (de_name 3) de_int (nomark _)) da_nil)))) do_no)))
    (ds_one (dp_ret (de_bin oAdd_op oAdd_ok (de_bin oAdd_op oAdd_ok (de_slice rfl (de_name 1) do_no (do_at (de_name 2))) (de_lst (da_cons (de_join rfl de_str (de_name 7)) da_nil))) (de_slice rfl (de_name 1) (do_at (de_bin oAdd_op oAdd_ok (de_name 2) de_int)) do_no))))))))))))))
theorem ok_InvalidText_init (T : Tx P w A mg G) : FnOk P w G.K mg base (L2.CX P w) 1 A.f_InvalidText_init A.d_InvalidText_init ["self", "line", "word"] (spX G.K ["line", "word"]) :=
  ok_x2 T.F_InvalidText_init sc_InvalidText_init fun cd A' outer s H E => pss_cons (ps_ost (pe_var (i := 0) rfl (by first | exact Or.inl rfl | exact Or.inr (Or.inl rfl))) (pe_var (i := 1) rfl (by first | exact Or.inl rfl | exact Or.inr (Or.inl rfl)))) (pss_one (ps_ost (pe_var (i := 0) rfl (by first | exact Or.inl rfl | exact Or.inr (Or.inl rfl))) (pe_var (i := 2) rfl (by first | exact Or.inl rfl | exact Or.inr (Or.inl rfl)))))
theorem ok_Line_refuse (T : Tx P w A mg G) : FnOk P w G.K mg base (L2.CX P w) 3 A.f_Line_refuse A.d_Line_refuse ["self"] (spE G 1 m_Line_refuse) :=
  ok_E (k := 2) T.F_Line_refuse sc_Line_refuse rfl fun cd A' outer s H E hr =>
    (ds_one (dp_raiseA T.O_InvalidText T.xi_InvalidText T.xt_InvalidText (ok_InvalidText_init T) (hr.mono (by decide)) T.b_InvalidText_init T.xn_InvalidText T.xf_InvalidText rfl (by decide) (by decide) rfl takesF rfl rfl T.X_InvalidText.g (da_cons (de_fld T.cU T.nU_at (de_name 0)) (da_cons (de_bin oAdd_op oAdd_ok (de_fld T.cU T.nU_spot (de_name 0)) de_int) da_nil))))
theorem ok_Line_take (T : Tx P w A mg G) : FnOk P w G.K mg base (L2.CX P w) 5 A.f_Line_take A.d_Line_take ["self", "words"] (spE G 2 m_Line_take) :=
  ok_E (k := 4) T.F_Line_take sc_Line_take rfl fun cd A' outer s H E hr =>
    (ds_cons (dp_if (PW.pt (dw_or (dt_cmp (op_eqD hr.units) oEq_ok (de_fld T.cU T.nU_spot (de_name 0)) (de_callB call_len_seq nLen_ok rfl T.z_len PySem.boot_len (da_cons (de_fld T.cU T.nU_pieces (de_name 0)) da_nil)) (nomark _)) (dw_or1 (dt_cmp op_notIn_seq (oInS_ok true) (de_ix oIx_op oIx_ok (de_fld T.cU T.nU_pieces (de_name 0)) (de_fld T.cU T.nU_spot (de_name 0)) (fun _ _ => rfl)) (de_name 1) (by rfl))))) (ds_one (dp_expr (de_methO0 T.cU takesF T.meU_refuse (ok_Line_refuse T) T.b_Line_refuse (hr.mono (by decide)) (de_name 0)))) ds_nil)
    (ds_cons (dp_augF T.cU T.nU_spot (de_name 0) de_int)
    (ds_one (dp_ret (de_ix oIx_op oIx_ok (de_fld T.cU T.nU_pieces (de_name 0)) (de_bin op_sub oSub_ok (de_fld T.cU T.nU_spot (de_name 0)) de_int) (fun _ _ => rfl))))))
theorem ok_Line_finish (T : Tx P w A mg G) : FnOk P w G.K mg base (L2.CX P w) 5 A.f_Line_finish A.d_Line_finish ["self"] (spE G 1 m_Line_finish) :=
  ok_E (k := 4) T.F_Line_finish sc_Line_finish rfl fun cd A' outer s H E hr =>
    (ds_one (dp_if (dt_cmp op_lt oLt_ok (de_fld T.cU T.nU_spot (de_name 0)) (de_callB call_len_seq nLen_ok rfl T.z_len PySem.boot_len (da_cons (de_fld T.cU T.nU_pieces (de_name 0)) da_nil)) (nomark _)) (ds_one (dp_expr (de_methO0 T.cU takesF T.meU_refuse (ok_Line_refuse T) T.b_Line_refuse (hr.mono (by decide)) (de_name 0)))) ds_nil))
theorem ok_is_integer (T : Tx P w A mg G) : FnOk P w G.K mg base (L2.CX P w) 1 A.f_is_integer A.d_is_integer ["value", "least", "most"] (spP G 3 m_is_integer) :=
  ok_P (k := 0) T.F_is_integer sc_is_integer rfl fun cd A' outer s H E hr =>
    (ds_one (dp_ret (de_and (de_is rfl (de_name 0) rfl T.z_isinstance rfl T.z_int boot_int (by decide) (by decide)) (de_and (de_not (de_is rfl (de_name 0) rfl T.z_isinstance rfl T.z_bool boot_bool (by decide) (by decide))) (de_one (de_chain (pe_chain op_le op_le (de_name 1) (de_name 0) (de_name 2)) oLe_ok oLe_ok))))))
theorem ok_is_of (T : Tx P w A mg G) : FnOk P w G.K mg base (L2.CX P w) 2 A.f_is_of A.d_is_of ["point", "value"] (spP G 2 m_is_of) :=
  ok_P (k := 1) T.F_is_of sc_is_of rfl fun cd A' outer s H E hr =>
    (ds_cons (dp_if (dt_cmp (op_eqD hr.units) oEq_ok (de_name 0) de_str (nomark _)) (ds_one (dp_ret (de_and (de_callP takesF (ok_is_integer T) (hr.mono (by decide)) rfl T.g_is_integer T.F_is_integer.kp T.b_is_integer (aCons_len (aCons_len (aCons_len (fun _ _ _ _ h => aNil_len h)))) (da_cons (de_name 1) (da_cons de_int (da_cons (de_ix oIx_op oIx_ok (de_globT rfl T.q_OUTS T.h_OUTS reps_OUTS) (de_un un_neg uNeg_ok de_int) (fun _ _ => rfl)) da_nil)))) (de_one (de_cmp op_in_seq (oInS_ok false) (de_name 1) (de_globT rfl T.q_OUTS T.h_OUTS reps_OUTS) (by rfl)))))) ds_nil)
    (ds_one (dp_ret (de_and (de_is rfl (de_name 1) rfl T.z_isinstance rfl T.z_str boot_str (by decide) (by decide)) (de_one (de_cmp op_in_seq (oInS_ok false) (de_name 1) (de_tab rfl rfl T.q_WORDS T.tb_WORDS (de_name 0) (fun _ _ => rfl)) (by rfl)))))))
theorem ok_Rule_init (T : Tx P w A mg G) : FnOk P w G.K mg base (L2.CX P w) 3 A.f_Rule_init A.d_Rule_init ["self", "start", "rows", "ways", "out", "kind"] (spE G 6 m_Rule_init) :=
  ok_E (k := 2) T.F_Rule_init sc_Rule_init rfl fun cd A' outer s H E hr =>
    (ds_cons (dp_set (i := 6) sc_Rule_init.nd rfl (by first | exact Or.inl rfl | exact Or.inr rfl) (de_tup (da_cons (de_name 1) (da_cons (de_name 2) (da_cons (de_name 3) (da_cons (de_name 4) (da_cons (de_name 5) da_nil)))))))
    (ds_cons (dp_for passesF rfl (di_zip rfl rfl T.z_zip (de_globT rfl T.q_POINTS T.h_POINTS reps_POINTS) (de_name 6)) (dg_tup rfl rfl (dgs_cons (dg_name sc_Rule_init.nd rfl (by first | exact Or.inl rfl | exact Or.inr rfl)) (dgs_cons (dg_name sc_Rule_init.nd rfl (by first | exact Or.inl rfl | exact Or.inr rfl)) dgs_nil)))
      (ds_one (dp_if (dt_not (dt_val (de_callP takesF (ok_is_of T) (hr.mono (by decide)) rfl T.g_is_of T.F_is_of.kp T.b_is_of (aCons_len (aCons_len (fun _ _ _ _ h => aNil_len h))) (da_cons (de_name 7) (da_cons (de_name 8) da_nil))))) (ds_one dp_never) ds_nil)))
    (ds_one (dp_parts (i := 0) T.cR T.sR rfl (by first | exact Or.inl rfl | exact Or.inr (Or.inl rfl)) (de_name 6)))))
theorem ok_values_of (T : Tx P w A mg G) : FnOk P w G.K mg base (L2.CX P w) 1 A.f_values_of A.d_values_of ["point"] (spP G 1 m_values_of) :=
  ok_P (k := 0) T.F_values_of sc_values_of rfl fun cd A' outer s H E hr =>
    (ds_one (dp_ret (de_if (dt_cmp (op_eqD hr.units) oEq_ok (de_name 0) de_str (nomark _)) (de_globT rfl T.q_OUTS T.h_OUTS reps_OUTS) (de_tab rfl rfl T.q_WORDS T.tb_WORDS (de_name 0) (fun _ _ => rfl)))))
theorem ok_rule_in (T : Tx P w A mg G) : FnOk P w G.K mg base (L2.CX P w) 7 A.f_rule_in A.d_rule_in ["line"] (spE G 1 m_rule_in) :=
  ok_E (k := 6) T.F_rule_in sc_rule_in rfl fun cd A' outer s H E hr =>
    (ds_cons (dp_expr (de_methO T.cU takesF T.meU_take (ok_Line_take T) T.b_Line_take (hr.mono (by decide)) (aCons_len (fun _ _ _ _ h => aNil_len h)) (de_name 0) (da_cons (de_tup (da_cons de_str da_nil)) da_nil)))
    (ds_cons (dp_set (i := 1) sc_rule_in.nd rfl (by first | exact Or.inl rfl | exact Or.inr rfl) (de_lstC da_nil))
    (ds_cons (dp_for passesF rfl (di_seq rfl (de_globT rfl T.q_POINTS T.h_POINTS reps_POINTS)) (dg_name sc_rule_in.nd rfl (by first | exact Or.inl rfl | exact Or.inr rfl))
      (ds_cons (dp_set (i := 3) sc_rule_in.nd rfl (by first | exact Or.inl rfl | exact Or.inr rfl) (de_methO T.cU takesF T.meU_take (ok_Line_take T) T.b_Line_take (hr.mono (by decide)) (aCons_len (fun _ _ _ _ h => aNil_len h)) (de_name 0) (da_cons (de_comp (own := [("value", 4)]) rfl sc_rule_in.nd (di_seq rfl (de_callP takesF (ok_values_of T) (hr.mono (by decide)) rfl T.g_values_of T.F_values_of.kp T.b_values_of (aCons_len (fun _ _ _ _ h => aNil_len h)) (da_cons (de_name 2) da_nil))) (blkOk_by (N := ["line", "found", "point", "word", "value"]) (sc := (defScope s_rule_in)) (by decide +kernel)) (by decide)
      (fun _ _ _ _ _ => (dg_name sc_rule_in.nd rfl (by first | exact Or.inl rfl | exact Or.inr rfl))) (fun _ _ _ _ _ => dts_nil) (fun _ _ _ _ _ => (de_callTy call_strX nStr_ok rfl T.z_str boot_str (da_cons (de_name 4) da_nil)))) da_nil)))
    (ds_one (dp_expr (de_app (de_name 1) (de_if (dt_cmp (op_eqD hr.units) oEq_ok (de_name 2) de_str (nomark _)) (de_callTy call_int_str nIntS_ok rfl T.z_int PyProof.Rows.boot_int (da_cons (de_name 3) da_nil)) (de_name 3)))))))
    (ds_cons (dp_expr (de_methO0 T.cU takesF T.meU_finish (ok_Line_finish T) T.b_Line_finish (hr.mono (by decide)) (de_name 0)))
    (ds_fz (ds_one (dp_ret (de_makeS rfl takesF T.M (ok_Rule_init T) (hr.mono (by decide)) rfl T.gR T.b_Rule_init (de_name 1)))))))))
theorem ok_Line_init (T : Tx P w A mg G) : FnOk P w G.K mg base (L2.CX P w) 1 A.f_Line_init A.d_Line_init ["self", "text", "at"] (spE G 3 m_Line_init) :=
  ok_E (k := 0) T.F_Line_init sc_Line_init rfl fun cd A' outer s H E hr =>
    (ds_cons (dp_fldSet T.cU T.nU_at (de_name 0) (de_name 2))
    (ds_cons (dp_fldSet T.cU T.nU_pieces (de_name 0) (de_comp (own := [("word", 3)]) rfl sc_Line_init.nd (di_seq rfl (de_split (de_name 1) de_str)) (blkOk_by (N := ["self", "text", "at", "word"]) (sc := (defScope s_Line_init)) (by decide +kernel)) (by decide)
      (fun _ _ _ _ _ => (dg_name sc_Line_init.nd rfl (by first | exact Or.inl rfl | exact Or.inr rfl))) (fun _ _ _ _ _ => (dts_one (dt_cmp (op_neD hr.units) oNe_ok (de_name 3) de_str (nomark _)))) (fun _ _ _ _ _ => (de_name 3))))
    (ds_one (dp_fldSet T.cU T.nU_spot (de_name 0) de_int))))
theorem ok_is_word (T : Tx P w A mg G) : FnOk P w G.K mg base (L2.CX P w) 1 A.f_is_word A.d_is_word ["word", "least", "most"] (spP G 3 m_is_word) :=
  ok_P (k := 0) T.F_is_word sc_is_word rfl fun cd A' outer s H E hr =>
    (ds_cons (dp_if (PW.pt (dw_or (dt_not (dt_val (de_callB (cr_all rfl) nAll_ok rfl T.z_all boot_all (da_cons (de_comp (own := [("sign", 3)]) rfl sc_is_word.nd (di_str (de_name 0)) (blkOk_by (N := ["word", "least", "most", "sign"]) (sc := (defScope s_is_word)) (by decide +kernel)) (by decide)
      (fun _ _ _ _ _ => (dg_name sc_is_word.nd rfl (by first | exact Or.inl rfl | exact Or.inr rfl))) (fun _ _ _ _ _ => dts_nil) (fun _ _ _ _ _ => (de_cmp op_inC oInC_ok (de_name 3) (de_globS rfl T.s_DIGITS.choose_spec) (by rfl)))) da_nil)))) (dw_or1 (dt_cmp op_gt oGt_ok (de_callB call_len_str nLenS_ok rfl T.z_len PySem.boot_len (da_cons (de_name 0) da_nil)) (de_callB call_len_str nLenS_ok rfl T.z_len PySem.boot_len (da_cons (de_callTy call_strX nStr_ok rfl T.z_str boot_str (da_cons (de_name 2) da_nil)) da_nil)) (nomark _))))) (ds_one (dp_ret de_bl)) ds_nil)
    (ds_one (dp_ret (de_and (de_or (de_cmp (op_eqD hr.units) oEq_ok (de_name 0) de_str (nomark _)) (de_one (de_cmp (op_neD hr.units) oNe_ok (de_ixS (de_name 0) de_int (fun _ _ => rfl)) de_str (nomark _)))) (de_one (de_chain (pe_chain op_le op_le (de_name 1) (de_callTy call_int_str nIntS_ok rfl T.z_int PyProof.Rows.boot_int (da_cons (de_name 0) da_nil)) (de_name 2)) oLe_ok oLe_ok))))))
theorem ok_Line_take_number (T : Tx P w A mg G) : FnOk P w G.K mg base (L2.CX P w) 5 A.f_Line_take_number A.d_Line_take_number ["self", "least", "most"] (spE G 3 m_Line_take_number) :=
  ok_E (k := 4) T.F_Line_take_number sc_Line_take_number rfl fun cd A' outer s H E hr =>
    (ds_cons (dp_if (PW.pt (dw_or (dt_cmp (op_eqD hr.units) oEq_ok (de_fld T.cU T.nU_spot (de_name 0)) (de_callB call_len_seq nLen_ok rfl T.z_len PySem.boot_len (da_cons (de_fld T.cU T.nU_pieces (de_name 0)) da_nil)) (nomark _)) (dw_or1 (dt_not (dt_val (de_callP takesF (ok_is_word T) (hr.mono (by decide)) rfl T.g_is_word T.F_is_word.kp T.b_is_word (aCons_len (aCons_len (aCons_len (fun _ _ _ _ h => aNil_len h)))) (da_cons (de_ix oIx_op oIx_ok (de_fld T.cU T.nU_pieces (de_name 0)) (de_fld T.cU T.nU_spot (de_name 0)) (fun _ _ => rfl)) (da_cons (de_name 1) (da_cons (de_name 2) da_nil))))))))) (ds_one (dp_expr (de_methO0 T.cU takesF T.meU_refuse (ok_Line_refuse T) T.b_Line_refuse (hr.mono (by decide)) (de_name 0)))) ds_nil)
    (ds_cons (dp_augF T.cU T.nU_spot (de_name 0) de_int)
    (ds_one (dp_ret (de_callTy call_int_str nIntS_ok rfl T.z_int PyProof.Rows.boot_int (da_cons (de_ix oIx_op oIx_ok (de_fld T.cU T.nU_pieces (de_name 0)) (de_bin op_sub oSub_ok (de_fld T.cU T.nU_spot (de_name 0)) de_int) (fun _ _ => rfl)) da_nil))))))
theorem ok_ticket_in (T : Tx P w A mg G) : FnOk P w G.K mg base (L2.CX P w) 7 A.f_ticket_in A.d_ticket_in ["line"] (spE G 1 m_ticket_in) :=
  ok_E (k := 6) T.F_ticket_in sc_ticket_in rfl fun cd A' outer s H E hr =>
    (ds_cons (dp_expr (de_methO T.cU takesF T.meU_take (ok_Line_take T) T.b_Line_take (hr.mono (by decide)) (aCons_len (fun _ _ _ _ h => aNil_len h)) (de_name 0) (da_cons (de_tup (da_cons de_str da_nil)) da_nil)))
    (ds_cons (dp_set (i := 1) sc_ticket_in.nd rfl (by first | exact Or.inl rfl | exact Or.inr rfl) (de_methO T.cU takesF T.meU_take_number (ok_Line_take_number T) T.b_Line_take_number (hr.mono (by decide)) (aCons_len (aCons_len (fun _ _ _ _ h => aNil_len h))) (de_name 0) (da_cons de_int (da_cons (de_globI rfl T.i_MOST_SIZE.choose_spec) da_nil))))
    (ds_cons (dp_set (i := 2) sc_ticket_in.nd rfl (by first | exact Or.inl rfl | exact Or.inr rfl) (de_methO T.cU takesF T.meU_take_number (ok_Line_take_number T) T.b_Line_take_number (hr.mono (by decide)) (aCons_len (aCons_len (fun _ _ _ _ h => aNil_len h))) (de_name 0) (da_cons de_int (da_cons (de_globI rfl T.i_MOST_SIZE.choose_spec) da_nil))))
    (ds_cons (dp_set (i := 3) sc_ticket_in.nd rfl (by first | exact Or.inl rfl | exact Or.inr rfl) (de_methO T.cU takesF T.meU_take_number (ok_Line_take_number T) T.b_Line_take_number (hr.mono (by decide)) (aCons_len (aCons_len (fun _ _ _ _ h => aNil_len h))) (de_name 0) (da_cons de_int (da_cons (de_bin op_sub oSub_ok (de_name 1) de_int) da_nil))))
    (ds_cons (dp_set (i := 4) sc_ticket_in.nd rfl (by first | exact Or.inl rfl | exact Or.inr rfl) (de_tup (da_cons (de_name 1) (da_cons (de_name 2) (da_cons (de_name 3) (da_cons (de_methO T.cU takesF T.meU_take_number (ok_Line_take_number T) T.b_Line_take_number (hr.mono (by decide)) (aCons_len (aCons_len (fun _ _ _ _ h => aNil_len h))) (de_name 0) (da_cons de_int (da_cons (de_bin op_sub oSub_ok (de_name 2) de_int) da_nil))) (da_cons (de_methO T.cU takesF T.meU_take_number (ok_Line_take_number T) T.b_Line_take_number (hr.mono (by decide)) (aCons_len (aCons_len (fun _ _ _ _ h => aNil_len h))) (de_name 0) (da_cons de_int (da_cons (de_globI rfl T.i_MOST.choose_spec) da_nil))) da_nil)))))))
    (ds_cons (dp_expr (de_methO0 T.cU takesF T.meU_finish (ok_Line_finish T) T.b_Line_finish (hr.mono (by decide)) (de_name 0)))
    (ds_one (dp_ret (de_name 4)))))))))
theorem ok_read_tickets (T : Tx P w A mg G) : FnOk P w G.K mg base (L2.CX P w) 8 A.f_read_tickets A.d_read_tickets ["text"] (spP G 1 m_read_tickets) :=
  ok_P (k := 7) T.F_read_tickets sc_read_tickets rfl fun cd A' outer s H E hr =>
    (ds_cons (dp_setLcR (i := 1) (own := [("index", 3), ("row", 4)]) rfl sc_read_tickets.nd rfl rfl rfl rfl (by decide) (di_enumX rfl rfl T.z_enumerate (de_split (de_name 0) de_str)) (blkOk_by (N := ["text", "lines", "rule", "index", "row", "line"]) (sc := (defScope s_read_tickets)) (by decide +kernel)) (by decide)
      (fun _ _ _ _ _ => (dg_tup rfl rfl (dgs_cons (dg_name sc_read_tickets.nd rfl (by first | exact Or.inl rfl | exact Or.inr rfl)) (dgs_cons (dg_name sc_read_tickets.nd rfl (by first | exact Or.inl rfl | exact Or.inr rfl)) dgs_nil)))) (fun _ _ _ _ _ => dts_nil) (fun _ _ _ _ _ => (de_makeO takes_none5 T.MU (ok_Line_init T) (hr.mono (by decide)) rfl T.gU T.b_Line_init (aCons_len (aCons_len (fun _ _ _ _ h => aNil_len h))) (da_cons (de_name 4) (da_cons (de_bin oAdd_op oAdd_ok (de_name 3) de_int) da_nil)))))
    (ds_cons (dp_set (i := 2) sc_read_tickets.nd rfl (by first | exact Or.inl rfl | exact Or.inr rfl) (de_callE takesF (ok_rule_in T) (hr.mono (by decide)) rfl T.g_rule_in T.F_rule_in.kp T.b_rule_in (aCons_len (fun _ _ _ _ h => aNil_len h)) (da_cons (de_ix oIx_op oIx_ok (de_name 1) de_int (fun _ _ => rfl)) da_nil)))
    (ds_one (dp_ret (de_tup (da_cons (de_name 2) (da_cons (de_callTy call_tuple_of nTuple_ok rfl T.z_tuple PyProof.Rows.boot_tuple (da_cons (de_compX (own := [("line", 5)]) rfl rfl takesF rfl rfl sc_read_tickets.nd (de_sliceR (de_name 1) (do_at de_int) do_no) (blkOk_by (N := ["text", "lines", "rule", "index", "row", "line"]) (sc := (defScope s_read_tickets)) (by decide +kernel)) (by decide)
      (fun _ _ _ _ _ _ => (dg_name sc_read_tickets.nd rfl (by first | exact Or.inl rfl | exact Or.inr rfl))) (fun _ _ _ _ _ _ _ pa => (de_callEX pa (ok_ticket_in T) (hr.mono (by decide)) rfl T.g_ticket_in T.F_ticket_in.kp T.b_ticket_in (aCons_len (fun _ _ _ _ h => aNil_len h)) (da_cons (de_name 5) da_nil)))) da_nil)) da_nil)))))))
theorem ok_law_told (T : Tx P w A mg G) : FnOk P w G.K mg base (L2.CX P w) 9 A.f_law_told A.d_law_told ["_law_text"] (spP G 1 m_law_told) :=
  ok_P (k := 8) T.F_law_told sc_law_told rfl fun cd A' outer s H E hr =>
    (ds_cons (dp_set (i := 1) sc_law_told.nd rfl (by first | exact Or.inl rfl | exact Or.inr rfl) de_non)
    (ds_cons (dp_tryC rfl rfl takesF (fun _ _ _ tk' _ => (ds_one (dp_expr (de_callP tk' (ok_read_tickets T) (hr.mono (by decide)) rfl T.g_read_tickets T.F_read_tickets.kp T.b_read_tickets (aCons_len (fun _ _ _ _ h => aNil_len h)) (da_cons (de_name 0) da_nil)))))
      (HcD.named (i := 2) (mt := mtOne 2 1) ⟨rfl, by decide, .inl T.X_InvalidText.g⟩ sc_law_told.nd rfl rfl T.m_InvalidText (fun _ _ _ _ _ hz hf => dpx_one (dpx_set (i := 2) (j := 1) (f := (fun x => dTup (aCons ((xFld 1 1) x) (aCons ((xFld 1 0) x) aNil)))) sc_law_told.nd rfl (by first | exact Or.inl rfl | exact Or.inr rfl) (xe_pair (f := (xFld 1 1)) (g := (xFld 1 0)) (xe_fld T.XF_InvalidText T.no_InvalidText_line T.nd_InvalidText T.fk_InvalidText_line hz hf rfl) (xe_fld T.XF_InvalidText T.no_InvalidText_word T.nd_InvalidText T.fk_InvalidText_word hz hf rfl)))) HcD.nil))
    (ds_one (dp_ret (de_name 1)))))
theorem ok_law_rule_bad (T : Tx P w A mg G) : FnOk P w G.K mg base (L2.CX P w) 1 A.f_law_rule_bad A.d_law_rule_bad ["_law_words"] (spP G 1 m_law_rule_bad) :=
  ok_P (k := 0) T.F_law_rule_bad sc_law_rule_bad rfl fun cd A' outer s H E hr =>
    (ds_cons (dp_set (i := 1) sc_law_rule_bad.nd rfl (by first | exact Or.inl rfl | exact Or.inr rfl) (de_lst (da_cons (de_lst (da_cons de_str da_nil)) (da_cons (de_lst (da_cons de_str (da_cons de_str (da_cons de_str da_nil)))) (da_cons (de_lst (da_cons de_str (da_cons de_str da_nil))) (da_cons (de_lst (da_cons de_str (da_cons de_str da_nil))) da_nil))))))
    (ds_cons (dp_set (i := 1) sc_law_rule_bad.nd rfl (by first | exact Or.inl rfl | exact Or.inr rfl) (de_bin oAdd_op oAdd_ok (de_name 1) (de_lst (da_cons (de_bin oAdd_op oAdd_ok (de_lst (da_cons de_str da_nil)) (de_comp (own := [("_law_out", 3)]) rfl sc_law_rule_bad.nd (di_rng2 rfl T.z_range de_int de_int) (blkOk_by (N := ["_law_words", "_law_good", "_law_k", "_law_out"]) (sc := (defScope s_law_rule_bad)) (by decide +kernel)) (by decide)
      (fun _ _ _ _ _ => (dg_name sc_law_rule_bad.nd rfl (by first | exact Or.inl rfl | exact Or.inr rfl))) (fun _ _ _ _ _ => dts_nil) (fun _ _ _ _ _ => (de_callTy call_strX nStr_ok rfl T.z_str boot_str (da_cons (de_name 3) da_nil))))) (da_cons (de_lst (da_cons de_str (da_cons de_str da_nil))) da_nil)))))
    (ds_cons (dp_for passesF rfl (di_rng1 rfl T.z_range de_int) (dg_name sc_law_rule_bad.nd rfl (by first | exact Or.inl rfl | exact Or.inr rfl))
      (ds_one (dp_if (PW.pt (dw_or (dt_cmp op_le oLe_ok (de_callB call_len_seq nLen_ok rfl T.z_len PySem.boot_len (da_cons (de_name 0) da_nil)) (de_name 2) (nomark _)) (dw_or1 (dt_cmp op_notIn_seq (oInS_ok true) (de_ix oIx_op oIx_ok (de_name 0) (de_name 2) (fun _ _ => rfl)) (de_ix oIx_op oIx_ok (de_name 1) (de_name 2) (fun _ _ => rfl)) (by rfl))))) (ds_one (dp_ret (de_bin oAdd_op oAdd_ok (de_name 2) de_int))) ds_nil)))
    (ds_one (dp_ret (de_if (dt_cmp op_gt oGt_ok (de_callB call_len_seq nLen_ok rfl T.z_len PySem.boot_len (da_cons (de_name 0) da_nil)) de_int (nomark _)) de_int de_non))))))
theorem ok_law_is_figures (T : Tx P w A mg G) : FnOk P w G.K mg base (L2.CX P w) 1 A.f_law_is_figures A.d_law_is_figures ["_law_word", "_law_low", "_law_high"] (spP G 3 m_law_is_figures) :=
  ok_P (k := 0) T.F_law_is_figures sc_law_is_figures rfl fun cd A' outer s H E hr =>
    (ds_cons (dp_if (PW.pt (dw_or (dt_cmp (op_eqD hr.units) oEq_ok (de_name 0) de_str (nomark _)) (dw_or1 (dt_cmp (op_neD hr.units) oNe_ok (de_comp (own := [("_law_sign", 3)]) rfl sc_law_is_figures.nd (di_str (de_name 0)) (blkOk_by (N := ["_law_word", "_law_low", "_law_high", "_law_sign"]) (sc := (defScope s_law_is_figures)) (by decide +kernel)) (by decide)
      (fun _ _ _ _ _ => (dg_name sc_law_is_figures.nd rfl (by first | exact Or.inl rfl | exact Or.inr rfl))) (fun _ _ _ _ _ => (dts_one (dt_cmp op_notInC oInC_ok (de_name 3) de_str (by rfl)))) (fun _ _ _ _ _ => (de_name 3))) (de_lst da_nil) (nomark _))))) (ds_one (dp_ret de_bl)) ds_nil)
    (ds_one (dp_ret (de_and (de_cmp op_lt oLt_ok (de_callB call_len_str nLenS_ok rfl T.z_len PySem.boot_len (da_cons (de_name 0) da_nil)) de_int (nomark _)) (de_and (de_cmp (op_eqD hr.units) oEq_ok (de_callTy call_strX nStr_ok rfl T.z_str boot_str (da_cons (de_callTy call_int_str nIntS_ok rfl T.z_int PyProof.Rows.boot_int (da_cons (de_name 0) da_nil)) da_nil)) (de_name 0) (nomark _)) (de_one (de_chain (pe_chain op_le op_le (de_name 1) (de_callTy call_int_str nIntS_ok rfl T.z_int PyProof.Rows.boot_int (da_cons (de_name 0) da_nil)) (de_name 2)) oLe_ok oLe_ok)))))))
theorem ok_law_ticket_bad (T : Tx P w A mg G) : FnOk P w G.K mg base (L2.CX P w) 2 A.f_law_ticket_bad A.d_law_ticket_bad ["_law_words"] (spP G 1 m_law_ticket_bad) :=
  ok_P (k := 1) T.F_law_ticket_bad sc_law_ticket_bad rfl fun cd A' outer s H E hr =>
    (ds_cons (dp_if (dt_cmp (op_neD hr.units) oNe_ok (de_slice rfl (de_name 0) do_no (do_at de_int)) (de_lst (da_cons de_str da_nil)) (nomark _)) (ds_one (dp_ret de_int)) ds_nil)
    (ds_cons (dp_set (i := 1) sc_law_ticket_bad.nd rfl (by first | exact Or.inl rfl | exact Or.inr rfl) (de_lst (da_cons (de_bin op_pow oPow_ok de_int de_int) (da_cons (de_bin op_pow oPow_ok de_int de_int) da_nil))))
    (ds_cons (dp_for passesF rfl (di_rng2 rfl T.z_range de_int de_int) (dg_name sc_law_ticket_bad.nd rfl (by first | exact Or.inl rfl | exact Or.inr rfl))
      (ds_cons (dp_set (i := 3) sc_law_ticket_bad.nd rfl (by first | exact Or.inl rfl | exact Or.inr rfl) (de_if (dt_cmp op_in_seq (oInS_ok false) (de_name 2) (de_tup (da_cons de_int (da_cons de_int da_nil))) (by rfl)) de_int de_int))
    (ds_cons (dp_set (i := 4) sc_law_ticket_bad.nd rfl (by first | exact Or.inl rfl | exact Or.inr rfl) (de_if (dt_cmp op_lt oLt_ok (de_name 2) de_int (nomark _)) (de_ix oIx_op oIx_ok (de_name 1) (de_bin op_sub oSub_ok (de_name 2) de_int) (fun _ _ => rfl)) (de_if (dt_cmp op_lt oLt_ok (de_name 2) de_int (nomark _)) (de_bin op_sub oSub_ok (de_callTy call_int_str nIntS_ok rfl T.z_int PyProof.Rows.boot_int (da_cons (de_ix oIx_op oIx_ok (de_name 0) (de_bin op_sub oSub_ok (de_name 2) de_int) (fun _ _ => rfl)) da_nil)) de_int) (de_bin op_pow oPow_ok de_int de_int))))
    (ds_one (dp_if (PW.pt (dw_or (dt_cmp op_le oLe_ok (de_callB call_len_seq nLen_ok rfl T.z_len PySem.boot_len (da_cons (de_name 0) da_nil)) (de_name 2) (nomark _)) (dw_or1 (dt_not (dt_val (de_callP takesF (ok_law_is_figures T) (hr.mono (by decide)) rfl T.g_law_is_figures T.F_law_is_figures.kp T.b_law_is_figures (aCons_len (aCons_len (aCons_len (fun _ _ _ _ h => aNil_len h)))) (da_cons (de_ix oIx_op oIx_ok (de_name 0) (de_name 2) (fun _ _ => rfl)) (da_cons (de_name 3) (da_cons (de_name 4) da_nil))))))))) (ds_one (dp_ret (de_bin oAdd_op oAdd_ok (de_name 2) de_int))) ds_nil)))))
    (ds_one (dp_ret (de_if (dt_cmp op_gt oGt_ok (de_callB call_len_seq nLen_ok rfl T.z_len PySem.boot_len (da_cons (de_name 0) da_nil)) de_int (nomark _)) de_int de_non))))))
theorem ok_law_due (T : Tx P w A mg G) : FnOk P w G.K mg base (L2.CX P w) 3 A.f_law_due A.d_law_due ["_law_text"] (spP G 1 m_law_due) :=
  ok_P (k := 2) T.F_law_due sc_law_due rfl fun cd A' outer s H E hr =>
    (ds_cons (dp_set (i := 1) sc_law_due.nd rfl (by first | exact Or.inl rfl | exact Or.inr rfl) (de_split (de_name 0) de_str))
    (ds_cons (dp_for passesF rfl (di_rng1 rfl T.z_range (de_callB call_len_seq nLen_ok rfl T.z_len PySem.boot_len (da_cons (de_name 1) da_nil))) (dg_name sc_law_due.nd rfl (by first | exact Or.inl rfl | exact Or.inr rfl))
      (ds_cons (dp_setLc (i := 3) (own := [("_law_word", 5)]) rfl sc_law_due.nd rfl rfl rfl rfl (by decide) (di_seq rfl (de_split (de_ix oIx_op oIx_ok (de_name 1) (de_name 2) (fun _ _ => rfl)) de_str)) (blkOk_by (N := ["_law_text", "_law_rows", "_law_k", "_law_words", "_law_bad", "_law_word"]) (sc := (defScope s_law_due)) (by decide +kernel)) (by decide)
      (fun _ _ _ _ _ => (dg_name sc_law_due.nd rfl (by first | exact Or.inl rfl | exact Or.inr rfl))) (fun _ _ _ _ _ => (dts_one (dt_cmp (op_neD hr.units) oNe_ok (de_name 5) de_str (nomark _)))) (fun _ _ _ _ _ => (de_name 5)))
    (ds_cons (dp_set (i := 4) sc_law_due.nd rfl (by first | exact Or.inl rfl | exact Or.inr rfl) (de_if (dt_cmp (op_eqD hr.units) oEq_ok (de_name 2) de_int (nomark _)) (de_callP takesF (ok_law_rule_bad T) (hr.mono (by decide)) rfl T.g_law_rule_bad T.F_law_rule_bad.kp T.b_law_rule_bad (aCons_len (fun _ _ _ _ h => aNil_len h)) (da_cons (de_name 3) da_nil)) (de_callP takesF (ok_law_ticket_bad T) (hr.mono (by decide)) rfl T.g_law_ticket_bad T.F_law_ticket_bad.kp T.b_law_ticket_bad (aCons_len (fun _ _ _ _ h => aNil_len h)) (da_cons (de_name 3) da_nil))))
    (ds_one (dp_if (dt_cmp op_notN oNotN_ok (de_name 4) de_non (nomark _)) (ds_one (dp_ret (de_tup (da_cons (de_bin oAdd_op oAdd_ok (de_name 2) de_int) (da_cons (de_name 4) da_nil))))) ds_nil)))))
    (ds_one (dp_ret de_non))))
theorem ok_is_ticket (T : Tx P w A mg G) : FnOk P w G.K mg base (L2.CX P w) 2 A.f_is_ticket A.d_is_ticket ["value"] (spP G 1 m_is_ticket) :=
  ok_P (k := 1) T.F_is_ticket sc_is_ticket rfl fun cd A' outer s H E hr =>
    (ds_cons (dp_if (PW.pt (dw_or (dt_not (dt_val (de_is rfl (de_name 0) rfl T.z_isinstance rfl T.z_tuple boot_tuple (by decide) (by decide)))) (dw_or1 (dt_cmp (op_neD hr.units) oNe_ok (de_callB call_len_seq nLen_ok rfl T.z_len PySem.boot_len (da_cons (de_name 0) da_nil)) de_int (nomark _))))) (ds_one (dp_ret de_bl)) ds_nil)
    (ds_cons (dp_asg (de_name 0) (dg_tup rfl rfl (dgs_cons (dg_name sc_is_ticket.nd rfl (by first | exact Or.inl rfl | exact Or.inr rfl)) (dgs_cons (dg_name sc_is_ticket.nd rfl (by first | exact Or.inl rfl | exact Or.inr rfl)) (dgs_cons (dg_name sc_is_ticket.nd rfl (by first | exact Or.inl rfl | exact Or.inr rfl)) (dgs_cons (dg_name sc_is_ticket.nd rfl (by first | exact Or.inl rfl | exact Or.inr rfl)) (dgs_cons (dg_name sc_is_ticket.nd rfl (by first | exact Or.inl rfl | exact Or.inr rfl)) dgs_nil)))))))
    (ds_cons (dp_if (PW.pt (dw_or (dt_not (dt_val (de_callP takesF (ok_is_integer T) (hr.mono (by decide)) rfl T.g_is_integer T.F_is_integer.kp T.b_is_integer (aCons_len (aCons_len (aCons_len (fun _ _ _ _ h => aNil_len h)))) (da_cons (de_name 1) (da_cons de_int (da_cons (de_globI rfl T.i_MOST_SIZE.choose_spec) da_nil)))))) (dw_or (dt_not (dt_val (de_callP takesF (ok_is_integer T) (hr.mono (by decide)) rfl T.g_is_integer T.F_is_integer.kp T.b_is_integer (aCons_len (aCons_len (aCons_len (fun _ _ _ _ h => aNil_len h)))) (da_cons (de_name 2) (da_cons de_int (da_cons (de_globI rfl T.i_MOST_SIZE.choose_spec) da_nil)))))) (dw_or1 (dt_not (dt_val (de_callP takesF (ok_is_integer T) (hr.mono (by decide)) rfl T.g_is_integer T.F_is_integer.kp T.b_is_integer (aCons_len (aCons_len (aCons_len (fun _ _ _ _ h => aNil_len h)))) (da_cons (de_name 3) (da_cons de_int (da_cons (de_bin op_sub oSub_ok (de_name 1) de_int) da_nil)))))))))) (ds_one (dp_ret de_bl)) ds_nil)
    (ds_one (dp_ret (de_and (de_callP takesF (ok_is_integer T) (hr.mono (by decide)) rfl T.g_is_integer T.F_is_integer.kp T.b_is_integer (aCons_len (aCons_len (aCons_len (fun _ _ _ _ h => aNil_len h)))) (da_cons (de_name 4) (da_cons de_int (da_cons (de_bin op_sub oSub_ok (de_name 2) de_int) da_nil)))) (de_one (de_callP takesF (ok_is_integer T) (hr.mono (by decide)) rfl T.g_is_integer T.F_is_integer.kp T.b_is_integer (aCons_len (aCons_len (aCons_len (fun _ _ _ _ h => aNil_len h)))) (da_cons (de_name 5) (da_cons de_int (da_cons (de_globI rfl T.i_MOST.choose_spec) da_nil)))))))))))
theorem ok_InvalidTicket_init (T : Tx P w A mg G) : FnOk P w G.K mg base (L2.CX P w) 1 A.f_InvalidTicket_init A.d_InvalidTicket_init ["self", "index"] (spX G.K ["index"]) :=
  ok_x1 T.F_InvalidTicket_init sc_InvalidTicket_init fun cd A' outer s H E => pss_one (ps_ost (pe_var (i := 0) rfl (by first | exact Or.inl rfl | exact Or.inr (Or.inl rfl))) (pe_var (i := 1) rfl (by first | exact Or.inl rfl | exact Or.inr (Or.inl rfl))))
theorem ok_look_at_tickets (T : Tx P w A mg G) : FnOk P w G.K mg base (L2.CX P w) 3 A.f_look_at_tickets A.d_look_at_tickets ["tickets"] (spP G 1 m_look_at_tickets) :=
  ok_P (k := 2) T.F_look_at_tickets sc_look_at_tickets rfl fun cd A' outer s H E hr =>
    (ds_one (dp_for passesF rfl (di_enumX rfl rfl T.z_enumerate (de_name 0)) (dg_tup rfl rfl (dgs_cons (dg_name sc_look_at_tickets.nd rfl (by first | exact Or.inl rfl | exact Or.inr rfl)) (dgs_cons (dg_name sc_look_at_tickets.nd rfl (by first | exact Or.inl rfl | exact Or.inr rfl)) dgs_nil)))
      (ds_one (dp_if (dt_not (dt_val (de_callP takesF (ok_is_ticket T) (hr.mono (by decide)) rfl T.g_is_ticket T.F_is_ticket.kp T.b_is_ticket (aCons_len (fun _ _ _ _ h => aNil_len h)) (da_cons (de_name 2) da_nil)))) (ds_one (dp_raiseA T.O_InvalidTicket T.xi_InvalidTicket T.xt_InvalidTicket (ok_InvalidTicket_init T) (hr.mono (by decide)) T.b_InvalidTicket_init T.xn_InvalidTicket T.xf_InvalidTicket rfl (by decide) (by decide) rfl takesF rfl rfl T.X_InvalidTicket.g (da_cons (de_name 1) da_nil))) ds_nil))))
theorem ok_write_tickets (T : Tx P w A mg G) : FnOk P w G.K mg base (L2.CX P w) 4 A.f_write_tickets A.d_write_tickets ["rule", "tickets"] (spP G 2 m_write_tickets) :=
  ok_P (k := 3) T.F_write_tickets sc_write_tickets rfl fun cd A' outer s H E hr =>
    (ds_cons (dp_expr (de_callP takesF (ok_look_at_tickets T) (hr.mono (by decide)) rfl T.g_look_at_tickets T.F_look_at_tickets.kp T.b_look_at_tickets (aCons_len (fun _ _ _ _ h => aNil_len h)) (da_cons (de_name 1) da_nil)))
    (ds_cons (dp_set (i := 2) sc_write_tickets.nd rfl (by first | exact Or.inl rfl | exact Or.inr rfl) (de_lst (da_cons (de_join rfl de_str (de_lst (da_cons de_str (da_star rfl (de_comp (own := [("part", 4)]) rfl sc_write_tickets.nd (di_seq rfl (de_parts T.cR T.sR rfl (de_name 0))) (blkOk_by (N := ["rule", "tickets", "rows", "ticket", "part"]) (sc := (defScope s_write_tickets)) (by decide +kernel)) (by decide)
      (fun _ _ _ _ _ => (dg_name sc_write_tickets.nd rfl (by first | exact Or.inl rfl | exact Or.inr rfl))) (fun _ _ _ _ _ => dts_nil) (fun _ _ _ _ _ => (de_callTy call_strX nStr_ok rfl T.z_str boot_str (da_cons (de_name 4) da_nil)))) da_nil)))) da_nil)))
    (ds_one (dp_ret (de_join rfl de_str (de_lst (da_star rfl (de_name 2) (da_star rfl (de_comp (own := [("ticket", 3)]) rfl sc_write_tickets.nd (di_seq rfl (de_name 1)) (blkOk_by (N := ["rule", "tickets", "rows", "ticket", "part"]) (sc := (defScope s_write_tickets)) (by decide +kernel)) (by decide)
      (fun _ _ _ _ _ => (dg_name sc_write_tickets.nd rfl (by first | exact Or.inl rfl | exact Or.inr rfl))) (fun _ _ _ _ _ => dts_nil) (fun _ _ _ _ _ => (de_join rfl de_str (de_lst (da_cons de_str (da_star rfl (de_comp (own := [("part", 4)]) rfl sc_write_tickets.nd (di_seq rfl (de_name 3)) (blkOk_by (N := ["rule", "tickets", "rows", "ticket", "part"]) (by kernel_rfl)) (by decide)
      (fun _ _ _ _ _ => (dg_name sc_write_tickets.nd rfl (by first | exact Or.inl rfl | exact Or.inr rfl))) (fun _ _ _ _ _ => dts_nil) (fun _ _ _ _ _ => (de_callTy call_strX nStr_ok rfl T.z_str boot_str (da_cons (de_name 4) da_nil)))) da_nil)))))) da_nil))))))))
theorem ok_law_built (T : Tx P w A mg G) : FnOk P w G.K mg base (L2.CX P w) 5 A.f_law_built A.d_law_built ["_law_t"] (spP G 1 m_law_built) :=
  ok_P (k := 4) T.F_law_built sc_law_built rfl fun cd A' outer s H E hr =>
    (ds_one (dp_ret (de_make T.M (ok_Rule_init T) (hr.mono (by decide)) rfl T.gR T.b_Rule_init (aCons_len (aCons_len (aCons_len (aCons_len (aCons_len (fun _ _ _ _ h => aNil_len h)))))) (da_cons (de_ix oIx_op oIx_ok (de_name 0) de_int (fun _ _ => rfl)) (da_cons (de_ix oIx_op oIx_ok (de_name 0) de_int (fun _ _ => rfl)) (da_cons (de_ix oIx_op oIx_ok (de_name 0) de_int (fun _ _ => rfl)) (da_cons (de_ix oIx_op oIx_ok (de_name 0) de_int (fun _ _ => rfl)) (da_cons (de_ix oIx_op oIx_ok (de_name 0) de_int (fun _ _ => rfl)) da_nil))))))))
theorem ok_law_ticket (T : Tx P w A mg G) : FnOk P w G.K mg base (L2.CX P w) 2 A.f_law_ticket A.d_law_ticket ["_law_h"] (spE G 1 m_law_ticket) :=
  ok_E (k := 1) T.F_law_ticket sc_law_ticket rfl fun cd A' outer s H E hr =>
    (ds_cons (dp_par (i := 1) (j := 2) rfl sc_law_ticket.nd rfl rfl (by decide) rfl rfl (da_cons (de_bin oAdd_op oAdd_ok de_int (de_callE takesF (ok_law_next T) (hr.mono (by decide)) rfl T.g_law_next T.F_law_next.kp T.b_law_next (aCons_len (aCons_len (fun _ _ _ _ h => aNil_len h))) (da_cons (de_name 0) (da_cons de_int da_nil)))) (da_cons (de_bin oAdd_op oAdd_ok de_int (de_callE takesF (ok_law_next T) (hr.mono (by decide)) rfl T.g_law_next T.F_law_next.kp T.b_law_next (aCons_len (aCons_len (fun _ _ _ _ h => aNil_len h))) (da_cons (de_name 0) (da_cons de_int da_nil)))) da_nil)) (by rfl))
    (ds_one (dp_ret (de_tup (da_cons (de_name 1) (da_cons (de_name 2) (da_cons (de_callE takesF (ok_law_next T) (hr.mono (by decide)) rfl T.g_law_next T.F_law_next.kp T.b_law_next (aCons_len (aCons_len (fun _ _ _ _ h => aNil_len h))) (da_cons (de_name 0) (da_cons (de_name 1) da_nil))) (da_cons (de_callE takesF (ok_law_next T) (hr.mono (by decide)) rfl T.g_law_next T.F_law_next.kp T.b_law_next (aCons_len (aCons_len (fun _ _ _ _ h => aNil_len h))) (da_cons (de_name 0) (da_cons (de_name 2) da_nil))) (da_cons (de_bin oAdd_op oAdd_ok de_int (de_callE takesF (ok_law_next T) (hr.mono (by decide)) rfl T.g_law_next T.F_law_next.kp T.b_law_next (aCons_len (aCons_len (fun _ _ _ _ h => aNil_len h))) (da_cons (de_name 0) (da_cons de_int da_nil)))) da_nil)))))))))
theorem ok_law (T : Tx P w A mg G) : FnOk P w G.K mg base (L2.CX P w) 10 A.f_law A.d_law ["_law_script"] (spE G 1 m_law) :=
  ok_E (k := 9) T.F_law sc_law rfl fun cd A' outer s H E hr =>
    (ds_cons (dp_set (i := 1) sc_law.nd rfl (by first | exact Or.inl rfl | exact Or.inr rfl) (de_callE takesF (ok_law_mix T) (hr.mono (by decide)) rfl T.g_law_mix T.F_law_mix.kp T.b_law_mix (aCons_len (aCons_len (fun _ _ _ _ h => aNil_len h))) (da_cons (de_name 0) (da_cons de_int da_nil))))
    (ds_cons (dp_set (i := 2) sc_law.nd rfl (by first | exact Or.inl rfl | exact Or.inr rfl) (de_callE takesF (ok_law_rule T) (hr.mono (by decide)) rfl T.g_law_rule T.F_law_rule.kp T.b_law_rule (aCons_len (fun _ _ _ _ h => aNil_len h)) (da_cons (de_name 1) da_nil)))
    (ds_cons (dp_set (i := 3) sc_law.nd rfl (by first | exact Or.inl rfl | exact Or.inr rfl) (de_split (de_callP takesF (ok_write_tickets T) (hr.mono (by decide)) rfl T.g_write_tickets T.F_write_tickets.kp T.b_write_tickets (aCons_len (aCons_len (fun _ _ _ _ h => aNil_len h))) (da_cons (de_callP takesF (ok_law_built T) (hr.mono (by decide)) rfl T.g_law_built T.F_law_built.kp T.b_law_built (aCons_len (fun _ _ _ _ h => aNil_len h)) (da_cons (de_name 2) da_nil)) (da_cons (de_comp (own := [("_law_k", 6)]) rfl sc_law.nd (di_rng1 rfl T.z_range (de_callE takesF (ok_law_next T) (hr.mono (by decide)) rfl T.g_law_next T.F_law_next.kp T.b_law_next (aCons_len (aCons_len (fun _ _ _ _ h => aNil_len h))) (da_cons (de_name 1) (da_cons de_int da_nil)))) (blkOk_by (N := ["_law_script", "_law_h", "_law_t", "_law_rows", "_law_turn", "_law_text", "_law_k"]) (sc := (defScope s_law)) (by decide +kernel)) (by decide)
      (fun _ _ _ _ _ => (dg_name sc_law.nd rfl (by first | exact Or.inl rfl | exact Or.inr rfl))) (fun _ _ _ _ _ => dts_nil) (fun _ _ _ _ _ => (de_callE takes_none5 (ok_law_ticket T) (hr.mono (by decide)) rfl T.g_law_ticket T.F_law_ticket.kp T.b_law_ticket (aCons_len (fun _ _ _ _ h => aNil_len h)) (da_cons (de_name 1) da_nil)))) da_nil))) de_str))
    (ds_cons (dp_for passesF rfl (di_rng1 rfl T.z_range (de_callE takesF (ok_law_next T) (hr.mono (by decide)) rfl T.g_law_next T.F_law_next.kp T.b_law_next (aCons_len (aCons_len (fun _ _ _ _ h => aNil_len h))) (da_cons (de_name 1) (da_cons de_int da_nil)))) (dg_name sc_law.nd rfl (by first | exact Or.inl rfl | exact Or.inr rfl))
      (ds_one (dp_set (i := 3) sc_law.nd rfl (by first | exact Or.inl rfl | exact Or.inr rfl) (de_callE takesF (ok_law_spoil T) (hr.mono (by decide)) rfl T.g_law_spoil T.F_law_spoil.kp T.b_law_spoil (aCons_len (aCons_len (fun _ _ _ _ h => aNil_len h))) (da_cons (de_name 1) (da_cons (de_name 3) da_nil))))))
    (ds_cons (dp_set (i := 5) sc_law.nd rfl (by first | exact Or.inl rfl | exact Or.inr rfl) (de_join rfl de_str (de_name 3)))
    (ds_cons (dp_if (dt_cmp (op_neD hr.units) oNe_ok (de_callP takesF (ok_law_told T) (hr.mono (by decide)) rfl T.g_law_told T.F_law_told.kp T.b_law_told (aCons_len (fun _ _ _ _ h => aNil_len h)) (da_cons (de_name 5) da_nil)) (de_callP takesF (ok_law_due T) (hr.mono (by decide)) rfl T.g_law_due T.F_law_due.kp T.b_law_due (aCons_len (fun _ _ _ _ h => aNil_len h)) (da_cons (de_name 5) da_nil)) (nomark _)) (ds_one (dp_ret de_bl)) ds_nil)
    (ds_one (dp_ret (de_and (de_cmp (op_eqD hr.units) oEq_ok (de_callP takesF (ok_law_told T) (hr.mono (by decide)) rfl T.g_law_told T.F_law_told.kp T.b_law_told (aCons_len (fun _ _ _ _ h => aNil_len h)) (da_cons de_str da_nil)) (de_tup (da_cons de_int (da_cons de_int da_nil))) (nomark _)) (de_one (de_cmp (op_eqD hr.units) oEq_ok (de_callP takesF (ok_law_told T) (hr.mono (by decide)) rfl T.g_law_told T.F_law_told.kp T.b_law_told (aCons_len (fun _ _ _ _ h => aNil_len h)) (da_cons de_str da_nil)) (de_tup (da_cons de_int (da_cons de_int da_nil))) (nomark _))))))))))))
end
theorem all_mk {l : PySem.W.OpenLaw} {w : World} {K : PySem.W.Frag} {h : Heap} {mg : Str → Option Value} {fa f0 f1 f2 f3 f4 f5 f6 f7 f8 f9 f10 f11 f12 f13 f14 f15 f16 f17 f18 f19 f20 f21 f22 f23 f24 f25 f26 f27 f28 f29 C pR n0 n1 x0 x1 U a_OUTS a_POINTS a_WORDS : Addr} (X : K.In h) (Gm : h.Ns mainGlobals mg) (hfa : mg "law" = some (.ref fa))
    {od0 an0 : Option Addr} {sl0 : Array (Option Value)} {oc0 kV0 dc0 pm0 cd0 ct0 : Value}
    {od1 an1 : Option Addr} {sl1 : Array (Option Value)} {oc1 kV1 dc1 pm1 cd1 ct1 : Value}
    {od2 an2 : Option Addr} {sl2 : Array (Option Value)} {oc2 kV2 dc2 pm2 cd2 ct2 : Value}
    {od3 an3 : Option Addr} {sl3 : Array (Option Value)} {oc3 kV3 dc3 pm3 cd3 ct3 : Value}
    {od4 an4 : Option Addr} {sl4 : Array (Option Value)} {oc4 kV4 dc4 pm4 cd4 ct4 : Value}
    {od5 an5 : Option Addr} {sl5 : Array (Option Value)} {oc5 kV5 dc5 pm5 cd5 ct5 : Value}
    {od6 an6 : Option Addr} {sl6 : Array (Option Value)} {oc6 kV6 dc6 pm6 cd6 ct6 : Value}
    {od7 an7 : Option Addr} {sl7 : Array (Option Value)} {oc7 kV7 dc7 pm7 cd7 ct7 : Value}
    {od8 an8 : Option Addr} {sl8 : Array (Option Value)} {oc8 kV8 dc8 pm8 cd8 ct8 : Value}
    {od9 an9 : Option Addr} {sl9 : Array (Option Value)} {oc9 kV9 dc9 pm9 cd9 ct9 : Value}
    {od10 an10 : Option Addr} {sl10 : Array (Option Value)} {oc10 kV10 dc10 pm10 cd10 ct10 : Value}
    {od11 an11 : Option Addr} {sl11 : Array (Option Value)} {oc11 kV11 dc11 pm11 cd11 ct11 : Value}
    {od12 an12 : Option Addr} {sl12 : Array (Option Value)} {oc12 kV12 dc12 pm12 cd12 ct12 : Value}
    {od13 an13 : Option Addr} {sl13 : Array (Option Value)} {oc13 kV13 dc13 pm13 cd13 ct13 : Value}
    {od14 an14 : Option Addr} {sl14 : Array (Option Value)} {oc14 kV14 dc14 pm14 cd14 ct14 : Value}
    {od15 an15 : Option Addr} {sl15 : Array (Option Value)} {oc15 kV15 dc15 pm15 cd15 ct15 : Value}
    {od16 an16 : Option Addr} {sl16 : Array (Option Value)} {oc16 kV16 dc16 pm16 cd16 ct16 : Value}
    {od17 an17 : Option Addr} {sl17 : Array (Option Value)} {oc17 kV17 dc17 pm17 cd17 ct17 : Value}
    {od18 an18 : Option Addr} {sl18 : Array (Option Value)} {oc18 kV18 dc18 pm18 cd18 ct18 : Value}
    {od19 an19 : Option Addr} {sl19 : Array (Option Value)} {oc19 kV19 dc19 pm19 cd19 ct19 : Value}
    {od20 an20 : Option Addr} {sl20 : Array (Option Value)} {oc20 kV20 dc20 pm20 cd20 ct20 : Value}
    {od21 an21 : Option Addr} {sl21 : Array (Option Value)} {oc21 kV21 dc21 pm21 cd21 ct21 : Value}
    {od22 an22 : Option Addr} {sl22 : Array (Option Value)} {oc22 kV22 dc22 pm22 cd22 ct22 : Value}
    {od23 an23 : Option Addr} {sl23 : Array (Option Value)} {oc23 kV23 dc23 pm23 cd23 ct23 : Value}
    {od24 an24 : Option Addr} {sl24 : Array (Option Value)} {oc24 kV24 dc24 pm24 cd24 ct24 : Value}
    {od25 an25 : Option Addr} {sl25 : Array (Option Value)} {oc25 kV25 dc25 pm25 cd25 ct25 : Value}
    {od26 an26 : Option Addr} {sl26 : Array (Option Value)} {oc26 kV26 dc26 pm26 cd26 ct26 : Value}
    {od27 an27 : Option Addr} {sl27 : Array (Option Value)} {oc27 kV27 dc27 pm27 cd27 ct27 : Value}
    {od28 an28 : Option Addr} {sl28 : Array (Option Value)} {oc28 kV28 dc28 pm28 cd28 ct28 : Value}
    {od29 an29 : Option Addr} {sl29 : Array (Option Value)} {oc29 kV29 dc29 pm29 cd29 ct29 : Value}
    (a0 : PySem.W.nsIn K mainGlobals "_law_mix" = some (some (.ref f0)))
    (a1 : PySem.W.nsIn K mainGlobals "_law_next" = some (some (.ref f1)))
    (a2 : PySem.W.nsIn K mainGlobals "_law_rule" = some (some (.ref f2)))
    (a3 : PySem.W.nsIn K mainGlobals "_law_spoil" = some (some (.ref f3)))
    (a8 : PySem.W.nsIn K mainGlobals "is_integer" = some (some (.ref f8)))
    (a9 : PySem.W.nsIn K mainGlobals "is_of" = some (some (.ref f9)))
    (a11 : PySem.W.nsIn K mainGlobals "values_of" = some (some (.ref f11)))
    (a12 : PySem.W.nsIn K mainGlobals "rule_in" = some (some (.ref f12)))
    (a14 : PySem.W.nsIn K mainGlobals "is_word" = some (some (.ref f14)))
    (a16 : PySem.W.nsIn K mainGlobals "ticket_in" = some (some (.ref f16)))
    (a17 : PySem.W.nsIn K mainGlobals "read_tickets" = some (some (.ref f17)))
    (a18 : PySem.W.nsIn K mainGlobals "_law_told" = some (some (.ref f18)))
    (a19 : PySem.W.nsIn K mainGlobals "_law_rule_bad" = some (some (.ref f19)))
    (a20 : PySem.W.nsIn K mainGlobals "_law_is_figures" = some (some (.ref f20)))
    (a21 : PySem.W.nsIn K mainGlobals "_law_ticket_bad" = some (some (.ref f21)))
    (a22 : PySem.W.nsIn K mainGlobals "_law_due" = some (some (.ref f22)))
    (a23 : PySem.W.nsIn K mainGlobals "is_ticket" = some (some (.ref f23)))
    (a25 : PySem.W.nsIn K mainGlobals "look_at_tickets" = some (some (.ref f25)))
    (a26 : PySem.W.nsIn K mainGlobals "write_tickets" = some (some (.ref f26)))
    (a27 : PySem.W.nsIn K mainGlobals "_law_built" = some (some (.ref f27)))
    (a28 : PySem.W.nsIn K mainGlobals "_law_ticket" = some (some (.ref f28)))
    (a29 : PySem.W.nsIn K mainGlobals "law" = some (some (.ref f29)))
    (aC : PySem.W.nsIn K mainGlobals "Rule" = some (some (.ref C))) (a10 : PySem.W.findIn K (.ref C) "__init__" = some (some (.ref f10))) (i10 : PySem.W.isFn K (.ref f10) = true)
    (l0 : K.lookup f0 = some ⟨oc0, od0, .func (PySem.W.fnOf "_law_mix" "_law_mix" (defArgs s_law_mix) (defBody s_law_mix) (defScope s_law_mix) .none kV0 dc0 pm0 an0 cd0 ct0), sl0⟩) (c0 : PySem.W.codeIn K cd0 "_law_mix" = true) (k0 : PySem.W.keepIn K (.ref f0) = true)
    (l1 : K.lookup f1 = some ⟨oc1, od1, .func (PySem.W.fnOf "_law_next" "_law_next" (defArgs s_law_next) (defBody s_law_next) (defScope s_law_next) .none kV1 dc1 pm1 an1 cd1 ct1), sl1⟩) (c1 : PySem.W.codeIn K cd1 "_law_next" = true) (k1 : PySem.W.keepIn K (.ref f1) = true)
    (l2 : K.lookup f2 = some ⟨oc2, od2, .func (PySem.W.fnOf "_law_rule" "_law_rule" (defArgs s_law_rule) (defBody s_law_rule) (defScope s_law_rule) .none kV2 dc2 pm2 an2 cd2 ct2), sl2⟩) (c2 : PySem.W.codeIn K cd2 "_law_rule" = true) (k2 : PySem.W.keepIn K (.ref f2) = true)
    (l3 : K.lookup f3 = some ⟨oc3, od3, .func (PySem.W.fnOf "_law_spoil" "_law_spoil" (defArgs s_law_spoil) (defBody s_law_spoil) (defScope s_law_spoil) .none kV3 dc3 pm3 an3 cd3 ct3), sl3⟩) (c3 : PySem.W.codeIn K cd3 "_law_spoil" = true) (k3 : PySem.W.keepIn K (.ref f3) = true)
    (l4 : K.lookup f4 = some ⟨oc4, od4, .func (PySem.W.fnOf "__init__" "InvalidText.__init__" (defArgs s_InvalidText_init) (defBody s_InvalidText_init) (defScope s_InvalidText_init) .none kV4 dc4 pm4 an4 cd4 ct4), sl4⟩) (c4 : PySem.W.codeIn K cd4 "InvalidText.__init__" = true) (k4 : PySem.W.keepIn K (.ref f4) = true)
    (l5 : K.lookup f5 = some ⟨oc5, od5, .func (PySem.W.fnOf "refuse" "Line.refuse" (defArgs s_Line_refuse) (defBody s_Line_refuse) (defScope s_Line_refuse) .none kV5 dc5 pm5 an5 cd5 ct5), sl5⟩) (c5 : PySem.W.codeIn K cd5 "Line.refuse" = true) (k5 : PySem.W.keepIn K (.ref f5) = true)
    (l6 : K.lookup f6 = some ⟨oc6, od6, .func (PySem.W.fnOf "take" "Line.take" (defArgs s_Line_take) (defBody s_Line_take) (defScope s_Line_take) .none kV6 dc6 pm6 an6 cd6 ct6), sl6⟩) (c6 : PySem.W.codeIn K cd6 "Line.take" = true) (k6 : PySem.W.keepIn K (.ref f6) = true)
    (l7 : K.lookup f7 = some ⟨oc7, od7, .func (PySem.W.fnOf "finish" "Line.finish" (defArgs s_Line_finish) (defBody s_Line_finish) (defScope s_Line_finish) .none kV7 dc7 pm7 an7 cd7 ct7), sl7⟩) (c7 : PySem.W.codeIn K cd7 "Line.finish" = true) (k7 : PySem.W.keepIn K (.ref f7) = true)
    (l8 : K.lookup f8 = some ⟨oc8, od8, .func (PySem.W.fnOf "is_integer" "is_integer" (defArgs s_is_integer) (defBody s_is_integer) (defScope s_is_integer) .none kV8 dc8 pm8 an8 cd8 ct8), sl8⟩) (c8 : PySem.W.codeIn K cd8 "is_integer" = true) (k8 : PySem.W.keepIn K (.ref f8) = true)
    (l9 : K.lookup f9 = some ⟨oc9, od9, .func (PySem.W.fnOf "is_of" "is_of" (defArgs s_is_of) (defBody s_is_of) (defScope s_is_of) .none kV9 dc9 pm9 an9 cd9 ct9), sl9⟩) (c9 : PySem.W.codeIn K cd9 "is_of" = true) (k9 : PySem.W.keepIn K (.ref f9) = true)
    (l10 : K.lookup f10 = some ⟨oc10, od10, .func (PySem.W.fnOf "__init__" "Rule.__init__" (defArgs s_Rule_init) (defBody s_Rule_init) (defScope s_Rule_init) .none kV10 dc10 pm10 an10 cd10 ct10), sl10⟩) (c10 : PySem.W.codeIn K cd10 "Rule.__init__" = true) (k10 : PySem.W.keepIn K (.ref f10) = true)
    (l11 : K.lookup f11 = some ⟨oc11, od11, .func (PySem.W.fnOf "values_of" "values_of" (defArgs s_values_of) (defBody s_values_of) (defScope s_values_of) .none kV11 dc11 pm11 an11 cd11 ct11), sl11⟩) (c11 : PySem.W.codeIn K cd11 "values_of" = true) (k11 : PySem.W.keepIn K (.ref f11) = true)
    (l12 : K.lookup f12 = some ⟨oc12, od12, .func (PySem.W.fnOf "rule_in" "rule_in" (defArgs s_rule_in) (defBody s_rule_in) (defScope s_rule_in) .none kV12 dc12 pm12 an12 cd12 ct12), sl12⟩) (c12 : PySem.W.codeIn K cd12 "rule_in" = true) (k12 : PySem.W.keepIn K (.ref f12) = true)
    (l13 : K.lookup f13 = some ⟨oc13, od13, .func (PySem.W.fnOf "__init__" "Line.__init__" (defArgs s_Line_init) (defBody s_Line_init) (defScope s_Line_init) .none kV13 dc13 pm13 an13 cd13 ct13), sl13⟩) (c13 : PySem.W.codeIn K cd13 "Line.__init__" = true) (k13 : PySem.W.keepIn K (.ref f13) = true)
    (l14 : K.lookup f14 = some ⟨oc14, od14, .func (PySem.W.fnOf "is_word" "is_word" (defArgs s_is_word) (defBody s_is_word) (defScope s_is_word) .none kV14 dc14 pm14 an14 cd14 ct14), sl14⟩) (c14 : PySem.W.codeIn K cd14 "is_word" = true) (k14 : PySem.W.keepIn K (.ref f14) = true)
    (l15 : K.lookup f15 = some ⟨oc15, od15, .func (PySem.W.fnOf "take_number" "Line.take_number" (defArgs s_Line_take_number) (defBody s_Line_take_number) (defScope s_Line_take_number) .none kV15 dc15 pm15 an15 cd15 ct15), sl15⟩) (c15 : PySem.W.codeIn K cd15 "Line.take_number" = true) (k15 : PySem.W.keepIn K (.ref f15) = true)
    (l16 : K.lookup f16 = some ⟨oc16, od16, .func (PySem.W.fnOf "ticket_in" "ticket_in" (defArgs s_ticket_in) (defBody s_ticket_in) (defScope s_ticket_in) .none kV16 dc16 pm16 an16 cd16 ct16), sl16⟩) (c16 : PySem.W.codeIn K cd16 "ticket_in" = true) (k16 : PySem.W.keepIn K (.ref f16) = true)
    (l17 : K.lookup f17 = some ⟨oc17, od17, .func (PySem.W.fnOf "read_tickets" "read_tickets" (defArgs s_read_tickets) (defBody s_read_tickets) (defScope s_read_tickets) .none kV17 dc17 pm17 an17 cd17 ct17), sl17⟩) (c17 : PySem.W.codeIn K cd17 "read_tickets" = true) (k17 : PySem.W.keepIn K (.ref f17) = true)
    (l18 : K.lookup f18 = some ⟨oc18, od18, .func (PySem.W.fnOf "_law_told" "_law_told" (defArgs s_law_told) (defBody s_law_told) (defScope s_law_told) .none kV18 dc18 pm18 an18 cd18 ct18), sl18⟩) (c18 : PySem.W.codeIn K cd18 "_law_told" = true) (k18 : PySem.W.keepIn K (.ref f18) = true)
    (l19 : K.lookup f19 = some ⟨oc19, od19, .func (PySem.W.fnOf "_law_rule_bad" "_law_rule_bad" (defArgs s_law_rule_bad) (defBody s_law_rule_bad) (defScope s_law_rule_bad) .none kV19 dc19 pm19 an19 cd19 ct19), sl19⟩) (c19 : PySem.W.codeIn K cd19 "_law_rule_bad" = true) (k19 : PySem.W.keepIn K (.ref f19) = true)
    (l20 : K.lookup f20 = some ⟨oc20, od20, .func (PySem.W.fnOf "_law_is_figures" "_law_is_figures" (defArgs s_law_is_figures) (defBody s_law_is_figures) (defScope s_law_is_figures) .none kV20 dc20 pm20 an20 cd20 ct20), sl20⟩) (c20 : PySem.W.codeIn K cd20 "_law_is_figures" = true) (k20 : PySem.W.keepIn K (.ref f20) = true)
    (l21 : K.lookup f21 = some ⟨oc21, od21, .func (PySem.W.fnOf "_law_ticket_bad" "_law_ticket_bad" (defArgs s_law_ticket_bad) (defBody s_law_ticket_bad) (defScope s_law_ticket_bad) .none kV21 dc21 pm21 an21 cd21 ct21), sl21⟩) (c21 : PySem.W.codeIn K cd21 "_law_ticket_bad" = true) (k21 : PySem.W.keepIn K (.ref f21) = true)
    (l22 : K.lookup f22 = some ⟨oc22, od22, .func (PySem.W.fnOf "_law_due" "_law_due" (defArgs s_law_due) (defBody s_law_due) (defScope s_law_due) .none kV22 dc22 pm22 an22 cd22 ct22), sl22⟩) (c22 : PySem.W.codeIn K cd22 "_law_due" = true) (k22 : PySem.W.keepIn K (.ref f22) = true)
    (l23 : K.lookup f23 = some ⟨oc23, od23, .func (PySem.W.fnOf "is_ticket" "is_ticket" (defArgs s_is_ticket) (defBody s_is_ticket) (defScope s_is_ticket) .none kV23 dc23 pm23 an23 cd23 ct23), sl23⟩) (c23 : PySem.W.codeIn K cd23 "is_ticket" = true) (k23 : PySem.W.keepIn K (.ref f23) = true)
    (l24 : K.lookup f24 = some ⟨oc24, od24, .func (PySem.W.fnOf "__init__" "InvalidTicket.__init__" (defArgs s_InvalidTicket_init) (defBody s_InvalidTicket_init) (defScope s_InvalidTicket_init) .none kV24 dc24 pm24 an24 cd24 ct24), sl24⟩) (c24 : PySem.W.codeIn K cd24 "InvalidTicket.__init__" = true) (k24 : PySem.W.keepIn K (.ref f24) = true)
    (l25 : K.lookup f25 = some ⟨oc25, od25, .func (PySem.W.fnOf "look_at_tickets" "look_at_tickets" (defArgs s_look_at_tickets) (defBody s_look_at_tickets) (defScope s_look_at_tickets) .none kV25 dc25 pm25 an25 cd25 ct25), sl25⟩) (c25 : PySem.W.codeIn K cd25 "look_at_tickets" = true) (k25 : PySem.W.keepIn K (.ref f25) = true)
    (l26 : K.lookup f26 = some ⟨oc26, od26, .func (PySem.W.fnOf "write_tickets" "write_tickets" (defArgs s_write_tickets) (defBody s_write_tickets) (defScope s_write_tickets) .none kV26 dc26 pm26 an26 cd26 ct26), sl26⟩) (c26 : PySem.W.codeIn K cd26 "write_tickets" = true) (k26 : PySem.W.keepIn K (.ref f26) = true)
    (l27 : K.lookup f27 = some ⟨oc27, od27, .func (PySem.W.fnOf "_law_built" "_law_built" (defArgs s_law_built) (defBody s_law_built) (defScope s_law_built) .none kV27 dc27 pm27 an27 cd27 ct27), sl27⟩) (c27 : PySem.W.codeIn K cd27 "_law_built" = true) (k27 : PySem.W.keepIn K (.ref f27) = true)
    (l28 : K.lookup f28 = some ⟨oc28, od28, .func (PySem.W.fnOf "_law_ticket" "_law_ticket" (defArgs s_law_ticket) (defBody s_law_ticket) (defScope s_law_ticket) .none kV28 dc28 pm28 an28 cd28 ct28), sl28⟩) (c28 : PySem.W.codeIn K cd28 "_law_ticket" = true) (k28 : PySem.W.keepIn K (.ref f28) = true)
    (l29 : K.lookup f29 = some ⟨oc29, od29, .func (PySem.W.fnOf "law" "law" (defArgs s_law) (defBody s_law) (defScope s_law) .none kV29 dc29 pm29 an29 cd29 ct29), sl29⟩) (c29 : PySem.W.codeIn K cd29 "law" = true) (k29 : PySem.W.keepIn K (.ref f29) = true)
    (pg : PySem.W.plainGet K C Str.empty = true) (ic : PySem.W.isClsIn K C = true) (po : PySem.W.plainOver K C = true) (sa : PySem.W.findIn K (.ref C) "__setattr__" = some (some (.builtin "object.__setattr__"))) (mk : PySem.W.makesIn K C = true) (kc : PySem.W.keepIn K (.ref C) = true)
    (s1 : PySem.W.findIn K (.ref C) "parts" = some (some (.ref pR))) (s2 : PySem.W.specialIn K (.ref pR) "__get__" = some (some (.builtin "member_descriptor.__get__"))) (s3 : PySem.W.takesIn K (.ref pR) = some true) (s4 : PySem.W.typeIn K (.ref pR) = some (.type "member_descriptor")) (s5 : PySem.W.slotIn K pR C = some 0)
    (uC : PySem.W.nsIn K mainGlobals "Line" = some (some (.ref U))) (uI : PySem.W.findIn K (.ref U) "__init__" = some (some (.ref f13))) (uF : PySem.W.isFn K (.ref f13) = true)
    (uP : PySem.W.plainGet K U Str.empty = true) (uH : PySem.W.hasDictIn K U = true) (uO : PySem.W.plainOver K U = true) (uS : PySem.W.findIn K (.ref U) "__setattr__" = some (some (.builtin "object.__setattr__"))) (uM : PySem.W.makesIn K U = true) (uK : PySem.W.keepIn K (.ref U) = true)
    (un_at : PySem.W.findIn K (.ref U) "at" = some none)
    (un_pieces : PySem.W.findIn K (.ref U) "pieces" = some none)
    (un_spot : PySem.W.findIn K (.ref U) "spot" = some none)
    (uma_finish : PySem.W.findIn K (.ref U) "finish" = some (some (.ref f7))) (umf_finish : PySem.W.isFn K (.ref f7) = true)
    (uma_refuse : PySem.W.findIn K (.ref U) "refuse" = some (some (.ref f5))) (umf_refuse : PySem.W.isFn K (.ref f5) = true)
    (uma_take : PySem.W.findIn K (.ref U) "take" = some (some (.ref f6))) (umf_take : PySem.W.isFn K (.ref f6) = true)
    (uma_take_number : PySem.W.findIn K (.ref U) "take_number" = some (some (.ref f15))) (umf_take_number : PySem.W.isFn K (.ref f15) = true)
    (xg0 : PySem.W.nsIn K mainGlobals "InvalidTicket" = some (some (.ref x0))) (xk0 : PySem.W.keepIn K (.ref x0) = true) (xb0 : PySem.W.subIn K (.ref x0) (.type "BaseException") = some true) (xt0 : PySem.W.typeIn K (.ref x0) = some (.type "type")) (xi0 : PySem.W.isClsIn K x0 = true)
    {nm0 q0 : Str} {N0 : Addr} {bs0 : List Value} {sn0 : List Str} {sub0 : List Value} {ab0 : Bool} {col0 : Option Bool} {dd0 : Option Addr} {u00 u10 u20 u30 u50 : Option Value}
    (xL0 : K.lookup x0 = some (excClassObj nm0 q0 x0 N0 bs0 [.ref n0, .type "ValueError", .type "Exception", .type "BaseException", .type "object"] true sn0 sub0 ab0 col0 dd0 u00 u10 u20 u30 u50 "ValueError.__new__")) (xs0 : PySem.W.findIn K (.ref x0) "__setattr__" = some (some (.builtin "object.__setattr__")))
    (xI0 : PySem.W.findIn K (.ref x0) "__init__" = some (some (.ref f24))) (xT0 : PySem.W.typeIn K (.ref f24) = some (.type "function"))
    (no0_index : PySem.W.findIn K (.ref x0) "index" = some none)
    (xg1 : PySem.W.nsIn K mainGlobals "InvalidText" = some (some (.ref x1))) (xk1 : PySem.W.keepIn K (.ref x1) = true) (xb1 : PySem.W.subIn K (.ref x1) (.type "BaseException") = some true) (xt1 : PySem.W.typeIn K (.ref x1) = some (.type "type")) (xi1 : PySem.W.isClsIn K x1 = true)
    {nm1 q1 : Str} {N1 : Addr} {bs1 : List Value} {sn1 : List Str} {sub1 : List Value} {ab1 : Bool} {col1 : Option Bool} {dd1 : Option Addr} {u01 u11 u21 u31 u51 : Option Value}
    (xL1 : K.lookup x1 = some (excClassObj nm1 q1 x1 N1 bs1 [.ref n1, .type "ValueError", .type "Exception", .type "BaseException", .type "object"] true sn1 sub1 ab1 col1 dd1 u01 u11 u21 u31 u51 "ValueError.__new__")) (xs1 : PySem.W.findIn K (.ref x1) "__setattr__" = some (some (.builtin "object.__setattr__")))
    (xI1 : PySem.W.findIn K (.ref x1) "__init__" = some (some (.ref f4))) (xT1 : PySem.W.typeIn K (.ref f4) = some (.type "function"))
    (xm0_0 : PySem.W.subIn K (.ref x0) (.ref x0) = some true)
    (xm1_0 : PySem.W.subIn K (.ref x1) (.ref x0) = some false)
    (xm0_1 : PySem.W.subIn K (.ref x0) (.ref x1) = some false)
    (xm1_1 : PySem.W.subIn K (.ref x1) (.ref x1) = some true)
    (eg0 : PySem.W.findIn K (.ref x0) "__getattribute__" = some (some (.builtin "BaseException.__getattribute__"))) (ek0 : PySem.W.findIn K (.ref x0) "__getattr__" = some none) (ed0 : PySem.W.hasDictIn K x0 = true)
    (eg1 : PySem.W.findIn K (.ref x1) "__getattribute__" = some (some (.builtin "BaseException.__getattribute__"))) (ek1 : PySem.W.findIn K (.ref x1) "__getattr__" = some none) (ed1 : PySem.W.hasDictIn K x1 = true)
    (no1_line : PySem.W.findIn K (.ref x1) "line" = some none)
    (no1_word : PySem.W.findIn K (.ref x1) "word" = some none)
    (z_all : PySem.W.nsIn K mainGlobals "all" = some none)
    (z_bool : PySem.W.nsIn K mainGlobals "bool" = some none)
    (z_enumerate : PySem.W.nsIn K mainGlobals "enumerate" = some none)
    (z_int : PySem.W.nsIn K mainGlobals "int" = some none)
    (z_isinstance : PySem.W.nsIn K mainGlobals "isinstance" = some none)
    (z_len : PySem.W.nsIn K mainGlobals "len" = some none)
    (z_list : PySem.W.nsIn K mainGlobals "list" = some none)
    (z_max : PySem.W.nsIn K mainGlobals "max" = some none)
    (z_range : PySem.W.nsIn K mainGlobals "range" = some none)
    (z_str : PySem.W.nsIn K mainGlobals "str" = some none)
    (z_tuple : PySem.W.nsIn K mainGlobals "tuple" = some none)
    (z_zip : PySem.W.nsIn K mainGlobals "zip" = some none)
    (q_OUTS : PySem.W.nsIn K mainGlobals "OUTS" = some (some (.ref a_OUTS)))
    {OUTSt0 OUTSt1 OUTSt2 OUTSt3 OUTSt4 OUTSt5 OUTSt6 OUTSt7 OUTSt8 OUTSt9 OUTSt10 OUTSt11 OUTSt12 : Tok} {OUTSd : Option Addr} {OUTSn : Nat} {OUTSs : Array (Option Value)}
    (h_OUTS : K.lookup a_OUTS = some ⟨.type "tuple", OUTSd, .seq ([.int 0 OUTSt0, .int 2 OUTSt1, .int 3 OUTSt2, .int 4 OUTSt3, .int 5 OUTSt4, .int 6 OUTSt5, .int 7 OUTSt6, .int 8 OUTSt7, .int 9 OUTSt8, .int 10 OUTSt9, .int 11 OUTSt10, .int 12 OUTSt11, .int 13 OUTSt12] : List Value).toArray OUTSn, OUTSs⟩)
    (q_POINTS : PySem.W.nsIn K mainGlobals "POINTS" = some (some (.ref a_POINTS)))
    {POINTSt0 POINTSt1 POINTSt2 POINTSt3 POINTSt4 : Tok} {POINTSd : Option Addr} {POINTSn : Nat} {POINTSs : Array (Option Value)}
    (h_POINTS : K.lookup a_POINTS = some ⟨.type "tuple", POINTSd, .seq ([.str "start" POINTSt0, .str "rows" POINTSt1, .str "ways" POINTSt2, .str "out" POINTSt3, .str "kind" POINTSt4] : List Value).toArray POINTSn, POINTSs⟩)
    {t_MOST_SIZEi : Tok} (i_MOST_SIZE : PySem.W.nsIn K mainGlobals "MOST_SIZE" = some (some (.int 1000000 t_MOST_SIZEi)))
    {t_MOSTi : Tok} (i_MOST : PySem.W.nsIn K mainGlobals "MOST" = some (some (.int 1000000000000000000000000000000 t_MOSTi)))
    {t_DIGITSs : Tok} (s_DIGITS : PySem.W.nsIn K mainGlobals "DIGITS" = some (some (.str "0123456789" t_DIGITSs)))
    (q_WORDS : PySem.W.nsIn K mainGlobals "WORDS" = some (some (.ref a_WORDS))) {es_WORDS : Array DictEntry} {n_WORDS : Nat} (l_WORDS : K.lookup a_WORDS = some ⟨.type "dict", none, .dict es_WORDS n_WORDS, #[]⟩) (kl_WORDS : PySem.W.KeysLit w.params es_WORDS.toList)
    {a_WORDSstart : Addr} (v_WORDSstart : PySem.W.nsIn K a_WORDS "start" = some (some (.ref a_WORDSstart)))
    {WORDSstartt0 WORDSstartt1 WORDSstartt2 : Tok} {WORDSstartd : Option Addr} {WORDSstartn : Nat} {WORDSstarts : Array (Option Value)}
    (h_WORDSstart : K.lookup a_WORDSstart = some ⟨.type "tuple", WORDSstartd, .seq ([.str "left" WORDSstartt0, .str "middle" WORDSstartt1, .str "right" WORDSstartt2] : List Value).toArray WORDSstartn, WORDSstarts⟩)
    {a_WORDSrows : Addr} (v_WORDSrows : PySem.W.nsIn K a_WORDS "rows" = some (some (.ref a_WORDSrows)))
    {WORDSrowst0 WORDSrowst1 : Tok} {WORDSrowsd : Option Addr} {WORDSrowsn : Nat} {WORDSrowss : Array (Option Value)}
    (h_WORDSrows : K.lookup a_WORDSrows = some ⟨.type "tuple", WORDSrowsd, .seq ([.str "anew" WORDSrowst0, .str "on" WORDSrowst1] : List Value).toArray WORDSrowsn, WORDSrowss⟩)
    {a_WORDSways : Addr} (v_WORDSways : PySem.W.nsIn K a_WORDS "ways" = some (some (.ref a_WORDSways)))
    {WORDSwayst0 WORDSwayst1 : Tok} {WORDSwaysd : Option Addr} {WORDSwaysn : Nat} {WORDSwayss : Array (Option Value)}
    (h_WORDSways : K.lookup a_WORDSways = some ⟨.type "tuple", WORDSwaysd, .seq ([.str "fro" WORDSwayst0, .str "same" WORDSwayst1] : List Value).toArray WORDSwaysn, WORDSwayss⟩)
    {a_WORDSkind : Addr} (v_WORDSkind : PySem.W.nsIn K a_WORDS "kind" = some (some (.ref a_WORDSkind)))
    {WORDSkindt0 WORDSkindt1 : Tok} {WORDSkindd : Option Addr} {WORDSkindn : Nat} {WORDSkinds : Array (Option Value)}
    (h_WORDSkind : K.lookup a_WORDSkind = some ⟨.type "tuple", WORDSkindd, .seq ([.str "always" WORDSkindt0, .str "once" WORDSkindt1] : List Value).toArray WORDSkindn, WORDSkinds⟩)
    (hK : K = K) : ∃ fd : FuncData, (∀ (s : Shared) (v : Value), BindsTo s fd ⟨[v], []⟩ [("_law_script", v)]) ∧ ∀ base : Heap, K.In base → base.Ns mainGlobals mg → ∃ G : Gx, G.K = K ∧ FnOk l.prog w K mg base (L2.CX l.prog w) 10 fa fd ["_law_script"] (spE G 1 m_law) := by
  have e := hfa.symm.trans (PySem.W.mg_of X Gm a29)
  cases e
  have F0 := fun_mk (st := s_law_mix) l0 c0 k0
  have b0 := F0.binds (ps := ["_law_script", "_law_seed"]) fun _ _ _ _ _ _ us hl => match us, hl with | [_, _], _ => rfl
  have F1 := fun_mk (st := s_law_next) l1 c1 k1
  have b1 := F1.binds (ps := ["_law_h", "_law_bound"]) fun _ _ _ _ _ _ us hl => match us, hl with | [_, _], _ => rfl
  have F2 := fun_mk (st := s_law_rule) l2 c2 k2
  have b2 := F2.binds (ps := ["_law_h"]) fun _ _ _ _ _ _ us hl => match us, hl with | [_], _ => rfl
  have F3 := fun_mk (st := s_law_spoil) l3 c3 k3
  have b3 := F3.binds (ps := ["_law_h", "_law_rows"]) fun _ _ _ _ _ _ us hl => match us, hl with | [_, _], _ => rfl
  have F4 := fun_mk (st := s_InvalidText_init) l4 c4 k4
  have b4 := F4.binds (ps := ["self", "line", "word"]) fun _ _ _ _ _ _ us hl => match us, hl with | [_, _, _], _ => rfl
  have F5 := fun_mk (st := s_Line_refuse) l5 c5 k5
  have b5 := F5.binds (ps := ["self"]) fun _ _ _ _ _ _ us hl => match us, hl with | [_], _ => rfl
  have F6 := fun_mk (st := s_Line_take) l6 c6 k6
  have b6 := F6.binds (ps := ["self", "words"]) fun _ _ _ _ _ _ us hl => match us, hl with | [_, _], _ => rfl
  have F7 := fun_mk (st := s_Line_finish) l7 c7 k7
  have b7 := F7.binds (ps := ["self"]) fun _ _ _ _ _ _ us hl => match us, hl with | [_], _ => rfl
  have F8 := fun_mk (st := s_is_integer) l8 c8 k8
  have b8 := F8.binds (ps := ["value", "least", "most"]) fun _ _ _ _ _ _ us hl => match us, hl with | [_, _, _], _ => rfl
  have F9 := fun_mk (st := s_is_of) l9 c9 k9
  have b9 := F9.binds (ps := ["point", "value"]) fun _ _ _ _ _ _ us hl => match us, hl with | [_, _], _ => rfl
  have F10 := fun_mk (st := s_Rule_init) l10 c10 k10
  have b10 := F10.binds (ps := ["self", "start", "rows", "ways", "out", "kind"]) fun _ _ _ _ _ _ us hl => match us, hl with | [_, _, _, _, _, _], _ => rfl
  have F11 := fun_mk (st := s_values_of) l11 c11 k11
  have b11 := F11.binds (ps := ["point"]) fun _ _ _ _ _ _ us hl => match us, hl with | [_], _ => rfl
  have F12 := fun_mk (st := s_rule_in) l12 c12 k12
  have b12 := F12.binds (ps := ["line"]) fun _ _ _ _ _ _ us hl => match us, hl with | [_], _ => rfl
  have F13 := fun_mk (st := s_Line_init) l13 c13 k13
  have b13 := F13.binds (ps := ["self", "text", "at"]) fun _ _ _ _ _ _ us hl => match us, hl with | [_, _, _], _ => rfl
  have F14 := fun_mk (st := s_is_word) l14 c14 k14
  have b14 := F14.binds (ps := ["word", "least", "most"]) fun _ _ _ _ _ _ us hl => match us, hl with | [_, _, _], _ => rfl
  have F15 := fun_mk (st := s_Line_take_number) l15 c15 k15
  have b15 := F15.binds (ps := ["self", "least", "most"]) fun _ _ _ _ _ _ us hl => match us, hl with | [_, _, _], _ => rfl
  have F16 := fun_mk (st := s_ticket_in) l16 c16 k16
  have b16 := F16.binds (ps := ["line"]) fun _ _ _ _ _ _ us hl => match us, hl with | [_], _ => rfl
  have F17 := fun_mk (st := s_read_tickets) l17 c17 k17
  have b17 := F17.binds (ps := ["text"]) fun _ _ _ _ _ _ us hl => match us, hl with | [_], _ => rfl
  have F18 := fun_mk (st := s_law_told) l18 c18 k18
  have b18 := F18.binds (ps := ["_law_text"]) fun _ _ _ _ _ _ us hl => match us, hl with | [_], _ => rfl
  have F19 := fun_mk (st := s_law_rule_bad) l19 c19 k19
  have b19 := F19.binds (ps := ["_law_words"]) fun _ _ _ _ _ _ us hl => match us, hl with | [_], _ => rfl
  have F20 := fun_mk (st := s_law_is_figures) l20 c20 k20
  have b20 := F20.binds (ps := ["_law_word", "_law_low", "_law_high"]) fun _ _ _ _ _ _ us hl => match us, hl with | [_, _, _], _ => rfl
  have F21 := fun_mk (st := s_law_ticket_bad) l21 c21 k21
  have b21 := F21.binds (ps := ["_law_words"]) fun _ _ _ _ _ _ us hl => match us, hl with | [_], _ => rfl
  have F22 := fun_mk (st := s_law_due) l22 c22 k22
  have b22 := F22.binds (ps := ["_law_text"]) fun _ _ _ _ _ _ us hl => match us, hl with | [_], _ => rfl
  have F23 := fun_mk (st := s_is_ticket) l23 c23 k23
  have b23 := F23.binds (ps := ["value"]) fun _ _ _ _ _ _ us hl => match us, hl with | [_], _ => rfl
  have F24 := fun_mk (st := s_InvalidTicket_init) l24 c24 k24
  have b24 := F24.binds (ps := ["self", "index"]) fun _ _ _ _ _ _ us hl => match us, hl with | [_, _], _ => rfl
  have F25 := fun_mk (st := s_look_at_tickets) l25 c25 k25
  have b25 := F25.binds (ps := ["tickets"]) fun _ _ _ _ _ _ us hl => match us, hl with | [_], _ => rfl
  have F26 := fun_mk (st := s_write_tickets) l26 c26 k26
  have b26 := F26.binds (ps := ["rule", "tickets"]) fun _ _ _ _ _ _ us hl => match us, hl with | [_, _], _ => rfl
  have F27 := fun_mk (st := s_law_built) l27 c27 k27
  have b27 := F27.binds (ps := ["_law_t"]) fun _ _ _ _ _ _ us hl => match us, hl with | [_], _ => rfl
  have F28 := fun_mk (st := s_law_ticket) l28 c28 k28
  have b28 := F28.binds (ps := ["_law_h"]) fun _ _ _ _ _ _ us hl => match us, hl with | [_], _ => rfl
  have F29 := fun_mk (st := s_law) l29 c29 k29
  have b29 := F29.binds (ps := ["_law_script"]) fun _ _ _ _ _ _ us hl => match us, hl with | [_], _ => rfl
  have tb_WORDS : ∀ z ds, tab_WORDS.lookup z = some ds → ∃ b xs, KDct K w a_WORDS z (.ref b) ∧ SqT K (fun _ => none) b xs ∧ ∀ B, Reps ⟨K, C, fun m => ([x0, x1] : List Addr).getD m 0, fun m => ([["index"], ["word", "line"]] : List (List Str)).getD m [], U⟩ B ds xs := by
    intro z ds hz
    have hz' := tabL hz
    simp only [tab_WORDS, List.mem_cons, List.not_mem_nil, or_false, Prod.mk.injEq] at hz'
    rcases hz' with ⟨rfl, rfl⟩ | ⟨rfl, rfl⟩ | ⟨rfl, rfl⟩ | ⟨rfl, rfl⟩
    · exact ⟨a_WORDSstart, [V.str "left", V.str "middle", V.str "right"], ⟨_, _, _, l_WORDS, kl_WORDS, v_WORDSstart, rfl⟩, .inr ⟨_, _, _, h_WORDSstart, rfl, rfl, (by rw [sizeLine_eq]; exact (by decide : 3 ≤ 16777216)), .cons ⟨_, rfl⟩ (.cons ⟨_, rfl⟩ (.cons ⟨_, rfl⟩ (.nil)))⟩, fun B => Reps.cons (by unfold Rep; rfl) (Reps.cons (by unfold Rep; rfl) (Reps.cons (by unfold Rep; rfl) (Reps.nil)))⟩
    · exact ⟨a_WORDSrows, [V.str "anew", V.str "on"], ⟨_, _, _, l_WORDS, kl_WORDS, v_WORDSrows, rfl⟩, .inr ⟨_, _, _, h_WORDSrows, rfl, rfl, (by rw [sizeLine_eq]; exact (by decide : 2 ≤ 16777216)), .cons ⟨_, rfl⟩ (.cons ⟨_, rfl⟩ (.nil))⟩, fun B => Reps.cons (by unfold Rep; rfl) (Reps.cons (by unfold Rep; rfl) (Reps.nil))⟩
    · exact ⟨a_WORDSways, [V.str "fro", V.str "same"], ⟨_, _, _, l_WORDS, kl_WORDS, v_WORDSways, rfl⟩, .inr ⟨_, _, _, h_WORDSways, rfl, rfl, (by rw [sizeLine_eq]; exact (by decide : 2 ≤ 16777216)), .cons ⟨_, rfl⟩ (.cons ⟨_, rfl⟩ (.nil))⟩, fun B => Reps.cons (by unfold Rep; rfl) (Reps.cons (by unfold Rep; rfl) (Reps.nil))⟩
    · exact ⟨a_WORDSkind, [V.str "always", V.str "once"], ⟨_, _, _, l_WORDS, kl_WORDS, v_WORDSkind, rfl⟩, .inr ⟨_, _, _, h_WORDSkind, rfl, rfl, (by rw [sizeLine_eq]; exact (by decide : 2 ≤ 16777216)), .cons ⟨_, rfl⟩ (.cons ⟨_, rfl⟩ (.nil))⟩, fun B => Reps.cons (by unfold Rep; rfl) (Reps.cons (by unfold Rep; rfl) (Reps.nil))⟩
  refine ⟨PySem.W.fnOf "law" "law" (defArgs s_law) (defBody s_law) (defScope s_law) .none kV29 dc29 pm29 an29 cd29 ct29, fun s v => .of_eq rfl, fun base _ _ => ⟨⟨K, C, fun m => ([x0, x1] : List Addr).getD m 0, fun m => ([["index"], ["word", "line"]] : List (List Str)).getD m [], U⟩, rfl, ?_⟩⟩
  exact ok_law (A := ⟨f0, _, f1, _, f2, _, f3, _, f4, _, f5, _, f6, _, f7, _, f8, _, f9, _, f10, _, f11, _, f12, _, f13, _, f14, _, f15, _, f16, _, f17, _, f18, _, f19, _, f20, _, f21, _, f22, _, f23, _, f24, _, f25, _, f26, _, f27, _, f28, _, fa, _, pR, a_OUTS, a_POINTS, a_WORDS⟩) (G := ⟨K, C, fun m => ([x0, x1] : List Addr).getD m 0, fun m => ([["index"], ["word", "line"]] : List (List Str)).getD m [], U⟩) ⟨F0, b0, PySem.W.mg_of X Gm a0, F1, b1, PySem.W.mg_of X Gm a1, F2, b2, PySem.W.mg_of X Gm a2, F3, b3, PySem.W.mg_of X Gm a3, F4, b4, F5, b5, F6, b6, F7, b7, F8, b8, PySem.W.mg_of X Gm a8, F9, b9, PySem.W.mg_of X Gm a9, F10, b10, F11, b11, PySem.W.mg_of X Gm a11, F12, b12, PySem.W.mg_of X Gm a12, F13, b13, F14, b14, PySem.W.mg_of X Gm a14, F15, b15, F16, b16, PySem.W.mg_of X Gm a16, F17, b17, PySem.W.mg_of X Gm a17, F18, b18, PySem.W.mg_of X Gm a18, F19, b19, PySem.W.mg_of X Gm a19, F20, b20, PySem.W.mg_of X Gm a20, F21, b21, PySem.W.mg_of X Gm a21, F22, b22, PySem.W.mg_of X Gm a22, F23, b23, PySem.W.mg_of X Gm a23, F24, b24, F25, b25, PySem.W.mg_of X Gm a25, F26, b26, PySem.W.mg_of X Gm a26, F27, b27, PySem.W.mg_of X Gm a27, F28, b28, PySem.W.mg_of X Gm a28, F29, b29, PySem.W.mg_of X Gm a29, PySem.W.mg_none_of X Gm z_all, PySem.W.mg_none_of X Gm z_bool, PySem.W.mg_none_of X Gm z_enumerate, PySem.W.mg_none_of X Gm z_int, PySem.W.mg_none_of X Gm z_isinstance, PySem.W.mg_none_of X Gm z_len, PySem.W.mg_none_of X Gm z_list, PySem.W.mg_none_of X Gm z_max, PySem.W.mg_none_of X Gm z_range, PySem.W.mg_none_of X Gm z_str, PySem.W.mg_none_of X Gm z_tuple, PySem.W.mg_none_of X Gm z_zip, PySem.W.mg_of X Gm aC, ⟨mk, a10, i10, kc⟩, ⟨pg, ic, po, sa⟩, ⟨s1, s2, s3, s4, s5, by decide⟩, PySem.W.mg_of X Gm uC, ⟨uM, uI, uF, uK⟩, ⟨uP, uH, uO, uS⟩, un_at, un_pieces, un_spot, ⟨uma_finish, umf_finish, k7⟩, ⟨uma_refuse, umf_refuse, k5⟩, ⟨uma_take, umf_take, k6⟩, ⟨uma_take_number, umf_take_number, k15⟩, ⟨PySem.W.mg_of X Gm xg0, xk0, xb0, xt0⟩, ⟨⟨_, _, _, _, _, _, _, _, _, _, _, _, _, _, _, xL0, by rfl⟩, xs0, xb0, xt0, xk0⟩, xI0, xT0, (by intro f hf; simp only [List.mem_cons, List.not_mem_nil, or_false] at hf; rcases hf with rfl <;> first | exact no0_index), rfl, mt_of (by intro m hm; match m, hm with | 0, _ => exact exm_own xb0 xi0 xt0 xm0_0 | 1, _ => exact exm_own xb0 xi0 xt0 xm1_0 | (k + 2), hm => exact absurd hm (by omega)), ⟨PySem.W.mg_of X Gm xg1, xk1, xb1, xt1⟩, ⟨⟨_, _, _, _, _, _, _, _, _, _, _, _, _, _, _, xL1, by rfl⟩, xs1, xb1, xt1, xk1⟩, xI1, xT1, (by intro f hf; simp only [List.mem_cons, List.not_mem_nil, or_false] at hf; rcases hf with rfl | rfl <;> first | exact no1_line | exact no1_word), rfl, mt_of (by intro m hm; match m, hm with | 0, _ => exact exm_own xb1 xi1 xt1 xm0_1 | 1, _ => exact exm_own xb1 xi1 xt1 xm1_1 | (k + 2), hm => exact absurd hm (by omega)), ⟨eg1, ek1, xb1, ed1⟩, (show ((["word", "line"] : List Str)).Nodup from by decide), no1_line, rfl, no1_word, rfl, PySem.W.mg_of X Gm q_OUTS, .inr ⟨_, _, _, h_OUTS, rfl, rfl, (by rw [sizeLine_eq]; exact (by decide : 13 ≤ 16777216)), .cons ⟨_, rfl⟩ (.cons ⟨_, rfl⟩ (.cons ⟨_, rfl⟩ (.cons ⟨_, rfl⟩ (.cons ⟨_, rfl⟩ (.cons ⟨_, rfl⟩ (.cons ⟨_, rfl⟩ (.cons ⟨_, rfl⟩ (.cons ⟨_, rfl⟩ (.cons ⟨_, rfl⟩ (.cons ⟨_, rfl⟩ (.cons ⟨_, rfl⟩ (.cons ⟨_, rfl⟩ (.nil)))))))))))))⟩, PySem.W.mg_of X Gm q_POINTS, .inr ⟨_, _, _, h_POINTS, rfl, rfl, (by rw [sizeLine_eq]; exact (by decide : 5 ≤ 16777216)), .cons ⟨_, rfl⟩ (.cons ⟨_, rfl⟩ (.cons ⟨_, rfl⟩ (.cons ⟨_, rfl⟩ (.cons ⟨_, rfl⟩ (.nil)))))⟩, ⟨_, PySem.W.mg_of X Gm i_MOST_SIZE⟩, ⟨_, PySem.W.mg_of X Gm i_MOST⟩, ⟨_, PySem.W.mg_of X Gm s_DIGITS⟩, PySem.W.mg_of X Gm q_WORDS, tb_WORDS⟩
theorem walk {l : PySem.W.OpenLaw} {q : Program} {loose : List Str} {XP : (Str → Option Value) → Heap → Prop} {YP : World → Heap → Prop} {d : DefRec} {K : Params → PySem.W.Frag} (hn : l.most = some 63) (hdf : d.params.defaults = [])
    (hY : ∀ (w : World) (h : Heap), YP w h → (K w.params).In h) (math : ∀ ns : List Int, ns.length ≤ 63 → ∃ S, m_law [.p (.scr ns)] [] = .ok (.p (.bl true)) S)
    (F : ∀ (w : World) (mg : Str → Option Value) (fa : Addr) (h : Heap), (K w.params).In h → h.Ns mainGlobals mg → mg d.name = some (.ref fa) →
      ∃ fd : FuncData, (∀ (s : Shared) (u : Value), BindsTo s fd ⟨[u], []⟩ [("_law_script", u)]) ∧ ∀ base : Heap, (K w.params).In base → base.Ns mainGlobals mg → ∃ G : Gx, G.K = K w.params ∧ FnOk l.prog w (K w.params) mg base (L2.CX l.prog w) 10 fa fd ["_law_script"] (spE G 1 m_law)) :
    PySem.W.WalkO q loose XP YP l.row.toRowW d [] (fun f vs => PySem.call f vs) :=
  L2.walk_of (n := 63) (k := 10) (x := "_law_script") (CX := fun w => L2.CX l.prog w) (sp := fun w => spS (K w.params)) hn (by decide) hdf ⟨rfl, by decide, by decide⟩ hY
    (fun w mg fa h a b c => let ⟨fd, h1, h2⟩ := F w mg fa h a b c; ⟨fd, h1, fun base z1 z2 => let ⟨G, e, k⟩ := h2 base z1 z2; k.imp fun vs H Q E z => spS_to e math z⟩)
    (fun w H a ns h1 h2 h3 => ⟨a, ns, rfl, h1, h3, rfl, rfl⟩) fun w H s e s' z => cx_none z
end Hn
open PySem PySem.W PyProof.Rows in
set_option maxRecDepth 100000 in
set_option maxHeartbeats 0 in
theorem PySem.Challenge.cw_hallnumbers_k12_whole_texts_refused_holds : PySem.Challenge.rw_hallnumbers_k12_whole_texts_refused.Holds := by
  w_on; o_law; k_head; (case hw => w_witness2)
  k_fill
  refine Hn.walk (l := PySem.Challenge.rw_hallnumbers_k12_whole_texts_refused) rfl rfl (fun w h Y => PySem.W.kIn_of Y) Hn.math ?F
  case F =>
    intro w mg fa h KX G hmg
    refine' Hn.all_mk KX G hmg ?a0 ?a1 ?a2 ?a3 ?a8 ?a9 ?a11 ?a12 ?a14 ?a16 ?a17 ?a18 ?a19 ?a20 ?a21 ?a22 ?a23 ?a25 ?a26 ?a27 ?a28 ?a29 ?aC ?a10 ?i10 ?l0 ?c0 ?k0 ?l1 ?c1 ?k1 ?l2 ?c2 ?k2 ?l3 ?c3 ?k3 ?l4 ?c4 ?k4 ?l5 ?c5 ?k5 ?l6 ?c6 ?k6 ?l7 ?c7 ?k7 ?l8 ?c8 ?k8 ?l9 ?c9 ?k9 ?l10 ?c10 ?k10 ?l11 ?c11 ?k11 ?l12 ?c12 ?k12 ?l13 ?c13 ?k13 ?l14 ?c14 ?k14 ?l15 ?c15 ?k15 ?l16 ?c16 ?k16 ?l17 ?c17 ?k17 ?l18 ?c18 ?k18 ?l19 ?c19 ?k19 ?l20 ?c20 ?k20 ?l21 ?c21 ?k21 ?l22 ?c22 ?k22 ?l23 ?c23 ?k23 ?l24 ?c24 ?k24 ?l25 ?c25 ?k25 ?l26 ?c26 ?k26 ?l27 ?c27 ?k27 ?l28 ?c28 ?k28 ?l29 ?c29 ?k29 ?pg ?ic ?po ?sa ?mk ?kc ?s1 ?s2 ?s3 ?s4 ?s5 ?uC ?uI ?uF ?uP ?uH ?uO ?uS ?uM ?uK ?un_at ?un_pieces ?un_spot ?uma_finish ?umf_finish ?uma_refuse ?umf_refuse ?uma_take ?umf_take ?uma_take_number ?umf_take_number ?xg0 ?xk0 ?xb0 ?xt0 ?xi0 ?xL0 ?xs0 ?xI0 ?xT0 ?no0_index ?xg1 ?xk1 ?xb1 ?xt1 ?xi1 ?xL1 ?xs1 ?xI1 ?xT1 ?xm0_0 ?xm1_0 ?xm0_1 ?xm1_1 ?eg0 ?ek0 ?ed0 ?eg1 ?ek1 ?ed1 ?no1_line ?no1_word ?z_all ?z_bool ?z_enumerate ?z_int ?z_isinstance ?z_len ?z_list ?z_max ?z_range ?z_str ?z_tuple ?z_zip ?q_OUTS ?h_OUTS ?q_POINTS ?h_POINTS ?i_MOST_SIZE ?i_MOST ?s_DIGITS ?q_WORDS ?l_WORDS ?kl_WORDS ?v_WORDSstart ?h_WORDSstart ?v_WORDSrows ?h_WORDSrows ?v_WORDSways ?h_WORDSways ?v_WORDSkind ?h_WORDSkind rfl
    (case a0 => k_is)
    (case a1 => k_is)
    (case a2 => k_is)
    (case a3 => k_is)
    (case a8 => k_is)
    (case a9 => k_is)
    (case a11 => k_is)
    (case a12 => k_is)
    (case a14 => k_is)
    (case a16 => k_is)
    (case a17 => k_is)
    (case a18 => k_is)
    (case a19 => k_is)
    (case a20 => k_is)
    (case a21 => k_is)
    (case a22 => k_is)
    (case a23 => k_is)
    (case a25 => k_is)
    (case a26 => k_is)
    (case a27 => k_is)
    (case a28 => k_is)
    (case a29 => k_is)
    (case aC => k_is)
    (case a10 => k_is)
    (case uC => k_is)
    (case xg0 => k_is)
    (case xg1 => k_is)
    (case q_OUTS => k_is)
    (case q_POINTS => k_is)
    (case q_WORDS => k_is)
    (case uI => k_is)
    (case uma_finish => k_is)
    (case uma_refuse => k_is)
    (case uma_take => k_is)
    (case uma_take_number => k_is)
    (case xI0 => k_is)
    (case xI1 => k_is)
    (case i10 => k_is)
    (case l0 => k_is)
    (case c0 => k_is)
    (case k0 => k_is)
    (case l1 => k_is)
    (case c1 => k_is)
    (case k1 => k_is)
    (case l2 => k_is)
    (case c2 => k_is)
    (case k2 => k_is)
    (case l3 => k_is)
    (case c3 => k_is)
    (case k3 => k_is)
    (case l4 => k_is)
    (case c4 => k_is)
    (case k4 => k_is)
    (case l5 => k_is)
    (case c5 => k_is)
    (case k5 => k_is)
    (case l6 => k_is)
    (case c6 => k_is)
    (case k6 => k_is)
    (case l7 => k_is)
    (case c7 => k_is)
    (case k7 => k_is)
    (case l8 => k_is)
    (case c8 => k_is)
    (case k8 => k_is)
    (case l9 => k_is)
    (case c9 => k_is)
    (case k9 => k_is)
    (case l10 => k_is)
    (case c10 => k_is)
    (case k10 => k_is)
    (case l11 => k_is)
    (case c11 => k_is)
    (case k11 => k_is)
    (case l12 => k_is)
    (case c12 => k_is)
    (case k12 => k_is)
    (case l13 => k_is)
    (case c13 => k_is)
    (case k13 => k_is)
    (case l14 => k_is)
    (case c14 => k_is)
    (case k14 => k_is)
    (case l15 => k_is)
    (case c15 => k_is)
    (case k15 => k_is)
    (case l16 => k_is)
    (case c16 => k_is)
    (case k16 => k_is)
    (case l17 => k_is)
    (case c17 => k_is)
    (case k17 => k_is)
    (case l18 => k_is)
    (case c18 => k_is)
    (case k18 => k_is)
    (case l19 => k_is)
    (case c19 => k_is)
    (case k19 => k_is)
    (case l20 => k_is)
    (case c20 => k_is)
    (case k20 => k_is)
    (case l21 => k_is)
    (case c21 => k_is)
    (case k21 => k_is)
    (case l22 => k_is)
    (case c22 => k_is)
    (case k22 => k_is)
    (case l23 => k_is)
    (case c23 => k_is)
    (case k23 => k_is)
    (case l24 => k_is)
    (case c24 => k_is)
    (case k24 => k_is)
    (case l25 => k_is)
    (case c25 => k_is)
    (case k25 => k_is)
    (case l26 => k_is)
    (case c26 => k_is)
    (case k26 => k_is)
    (case l27 => k_is)
    (case c27 => k_is)
    (case k27 => k_is)
    (case l28 => k_is)
    (case c28 => k_is)
    (case k28 => k_is)
    (case l29 => k_is)
    (case c29 => k_is)
    (case k29 => k_is)
    (case pg => k_is)
    (case ic => k_is)
    (case po => k_is)
    (case sa => k_is)
    (case mk => k_is)
    (case kc => k_is)
    (case s1 => k_is)
    (case s2 => k_is)
    (case s3 => k_is)
    (case s4 => k_is)
    (case s5 => k_is)
    (case uF => k_is)
    (case uP => k_is)
    (case uH => k_is)
    (case uO => k_is)
    (case uS => k_is)
    (case uM => k_is)
    (case uK => k_is)
    (case un_at => k_is)
    (case un_pieces => k_is)
    (case un_spot => k_is)
    (case umf_finish => k_is)
    (case umf_refuse => k_is)
    (case umf_take => k_is)
    (case umf_take_number => k_is)
    (case xk0 => k_is)
    (case xb0 => k_is)
    (case xt0 => k_is)
    (case xi0 => k_is)
    (case xL0 => k_is)
    (case xs0 => k_is)
    (case xT0 => k_is)
    (case no0_index => k_is)
    (case xk1 => k_is)
    (case xb1 => k_is)
    (case xt1 => k_is)
    (case xi1 => k_is)
    (case xL1 => k_is)
    (case xs1 => k_is)
    (case xT1 => k_is)
    (case xm0_0 => k_is)
    (case xm1_0 => k_is)
    (case xm0_1 => k_is)
    (case xm1_1 => k_is)
    (case eg0 => k_is)
    (case ek0 => k_is)
    (case ed0 => k_is)
    (case eg1 => k_is)
    (case ek1 => k_is)
    (case ed1 => k_is)
    (case no1_line => k_is)
    (case no1_word => k_is)
    (case z_all => k_is)
    (case z_bool => k_is)
    (case z_enumerate => k_is)
    (case z_int => k_is)
    (case z_isinstance => k_is)
    (case z_len => k_is)
    (case z_list => k_is)
    (case z_max => k_is)
    (case z_range => k_is)
    (case z_str => k_is)
    (case z_tuple => k_is)
    (case z_zip => k_is)
    (case h_OUTS => k_is)
    (case h_POINTS => k_is)
    (case i_MOST_SIZE => k_is)
    (case i_MOST => k_is)
    (case s_DIGITS => k_is)
    (case l_WORDS => k_is)
    (case kl_WORDS => k_keys)
    (case v_WORDSstart => k_is)
    (case h_WORDSstart => k_is)
    (case v_WORDSrows => k_is)
    (case h_WORDSrows => k_is)
    (case v_WORDSways => k_is)
    (case h_WORDSways => k_is)
    (case v_WORDSkind => k_is)
    (case h_WORDSkind => k_is)
