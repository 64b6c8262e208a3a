import PyProof.Rows.All
import Wide.All
import OpenK.AllK
import Wide.FinOn
import HandS.ForMost
import HandS.ForExc
import HandS.Wide
import HandS.Slots
import HandS.SlotsOwn
import HandS.Star
import HandS.CallSlots
import HandS.TryMany
import HandS.ExcField
import HandS.ExcIs
import HandS.Flow
import HandS.IsInst
import HandS.Conv
import HandS.Iter
import HandS.More
import HandS.Zip
import HandS.Style
import HandS.ExcOwn
import PyProof.Rows.SetFrom
import PyProof.SetRoads
import HandS.Dict
import HandS.Exc
import HandS.ExcInit
import KE.GoesMore
import HandS.Strs
import HandS.SetFor
import HandS.SortInts
import HandS.MakeKwOnly
import HandS.Defaults
import PyProof.TupleOfSeq
import HandS.Deep
import HandS.TupSets
import HandS.Property
import HandS.SortRule
import OpenK.KOps
import HandS.Text
import HandS.RaiseMore
import PyProof.StrBlock2
import KE.GoesComp
import HandS.Comp
import HandS.HotCalls
import HandS.ExcCtx
import PySem.Challenge.RW_hallnumbers_k16_errors_apart
set_option Elab.async false
set_option linter.all false
set_option maxRecDepth 100000
set_option maxHeartbeats 4000000
namespace DL
open PySem L2
open PySem.Spec PyProof.Rows

inductive D where
  | non | bl (b : Bool) | int (i : Int) | str (x : Str)
  | tup (ds : List D) | lst (ds : List D) | rul (ds : List D) | scr (ns : List Int) | dct (kvs : List (Str × Str)) | dki (kvs : List (Int × Int)) | dsi (kvs : List (Str × Int)) | dpk (ks : List (List Int))
inductive Dv where
  | p (d : D) | hnd (n : Nat)
inductive Cell where
  | lst (ds : List D) | rcd (ds : List Dv) | ins (c : Nat) (fs : List (Str × Dv)) | dead | raw (j : Nat) | slt (j : Nat) (ds : List D)
abbrev Sto := List Cell
/-- the cell's second address -/
def Cell.second : Cell → Option Nat
  | .raw j => some j
  | .slt j _ => some j
  | _ => none
structure Ex where
  cls : Nat
  args : List D
inductive Out (α : Type) where
  | ok (a : α) (S : Sto) | exc (x : Ex) (S : Sto) | bad
def Out.bind {α β : Type} (o : Out α) (k : α → Sto → Out β) : Out β := match o with
  | .ok a S => k a S
  | .exc x S => .exc x S
  | .bad => .bad
/-- what is fixed: the written part, the class of rules, the classes of errors and their fields -/
structure Gx where
  K : PySem.W.Frag
  rc : Addr
  xc : Nat → Addr
  xf : Nat → List Str
  uc : Addr

/-- the dict at a has the tuples of xs as its keys, by its own object -/
def DkOf (a : Addr) (xs : List (List Int × Addr × Value)) (h : Heap) : Prop :=
  (a == sysModules) = false ∧ (xs.map (·.1)).Nodup ∧ ∃ o es ep, h.get? a = some o ∧ o.ExactDict ∧ o.data = .dict es ep ∧ es.toList = xs.map fun x => ⟨reduceHash (Builtin.Tuple.tupleHashOf (x.1.map hashInt)), .ref x.2.1, x.2.2⟩

mutual
def Rep (G : Gx) (B : Hp) : D → V → Prop
  | .non, v => v = .non
  | .bl b, v => v = .bl b
  | .int i, v => v = .int i
  | .str x, v => v = .str x
  | .tup ds, v => ∃ a xs, v = .ref a ∧ SqT G.K B a xs ∧ Reps G B ds xs
  | .lst ds, v => ∃ a xs, v = .ref a ∧ B a = some (.lst xs) ∧ Reps G B ds xs
  | .rul ds, v => ∃ a dx t xs, v = .ref a ∧ B a = some (SlX.SlO a G.rc dx [some (.ref t)]) ∧ B dx = some (.xd []) ∧ SqT G.K B t xs ∧ Reps G B ds xs
  | .scr ns, v => ∃ a, v = .ref a ∧ SqL G.K B a (ns.map V.int)
  | .dct kvs, v => ∃ a, v = .ref a ∧ B a = some (.dK (kvs.map fun p => (Sum.inr p.1, V.str p.2)))
  | .dki kvs, v => ∃ a, v = .ref a ∧ B a = some (.dK (kvs.map fun p => (Sum.inl p.1, V.int p.2)))
  | .dsi kvs, v => ∃ a, v = .ref a ∧ B a = some (.dK (kvs.map fun p => (Sum.inr p.1, V.int p.2)))
  | .dpk ks, v => ∃ a xs, v = .ref a ∧ B a = some (.ext (DkOf a xs)) ∧ xs.map (·.1) = ks ∧ ∀ x ∈ xs, SqT G.K B x.2.1 (x.1.map V.int)
def Reps (G : Gx) (B : Hp) : List D → List V → Prop
  | [], xs => xs = []
  | d :: ds, xs => ∃ x r, xs = x :: r ∧ Rep G B d x ∧ Reps G B ds r
end
def RepV (G : Gx) (B : Hp) (φ : List Addr) : Dv → V → Prop
  | .p d, v => Rep G B d v
  | .hnd n, v => ∃ a, φ[n]? = some a ∧ v = .ref a
def RepVs (G : Gx) (B : Hp) (φ : List Addr) : List Dv → List V → Prop
  | [], xs => xs = []
  | d :: ds, xs => ∃ x r, xs = x :: r ∧ RepV G B φ d x ∧ RepVs G B φ ds r

theorem sqT_mono {K : PySem.W.Frag} {B B' : Hp} {a : Addr} {xs : List V} (e : Same B B') (h : SqT K B a xs) : SqT K B' a xs := by
  rcases h with (h | ⟨o, h⟩) | h
  · exact .inl (.inl (e _ _ h))
  · exact .inl (.inr ⟨o, e _ _ h⟩)
  · exact .inr h
section
variable {G : Gx} {B B' : Hp} {φ φ' : List Addr}
mutual
theorem Rep.mono (e : Same B B') : ∀ (d : D) {v : V}, Rep G B d v → Rep G B' d v
  | .non, _, h => by unfold Rep at h ⊢; exact h
  | .bl _, _, h => by unfold Rep at h ⊢; exact h
  | .int _, _, h => by unfold Rep at h ⊢; exact h
  | .str _, _, h => by unfold Rep at h ⊢; exact h
  | .tup ds, _, h => by
    unfold Rep at h ⊢
    obtain ⟨a, xs, e1, h1, h2⟩ := h
    exact ⟨a, xs, e1, sqT_mono e h1, Reps.mono e ds h2⟩
  | .lst ds, _, h => by
    unfold Rep at h ⊢
    obtain ⟨a, xs, e1, h1, h2⟩ := h
    exact ⟨a, xs, e1, e _ _ h1, Reps.mono e ds h2⟩
  | .rul ds, _, h => by
    unfold Rep at h ⊢
    obtain ⟨a, dx, t, xs, e1, h1, h2, h3, h4⟩ := h
    exact ⟨a, dx, t, xs, e1, e _ _ h1, e _ _ h2, sqT_mono e h3, Reps.mono e ds h4⟩
  | .scr ns, _, h => by
    unfold Rep at h ⊢
    obtain ⟨a, e1, h1⟩ := h
    exact ⟨a, e1, e.seq h1⟩
  | .dct kvs, _, h => by
    unfold Rep at h ⊢
    obtain ⟨a, e1, h1⟩ := h
    exact ⟨a, e1, e _ _ h1⟩
  | .dki kvs, _, h => by
    unfold Rep at h ⊢
    obtain ⟨a, e1, h1⟩ := h
    exact ⟨a, e1, e _ _ h1⟩
  | .dsi kvs, _, h => by
    unfold Rep at h ⊢
    obtain ⟨a, e1, h1⟩ := h
    exact ⟨a, e1, e _ _ h1⟩
  | .dpk ks, _, h => by
    unfold Rep at h ⊢
    obtain ⟨a, xs, e1, h1, h2, h3⟩ := h
    exact ⟨a, xs, e1, e _ _ h1, h2, fun x hx => sqT_mono e (h3 x hx)⟩
theorem Reps.mono (e : Same B B') : ∀ (ds : List D) {vs : List V}, Reps G B ds vs → Reps G B' ds vs
  | [], _, h => by unfold Reps at h ⊢; exact h
  | d :: ds, _, h => by
    unfold Reps at h ⊢
    obtain ⟨x, r, e1, h1, h2⟩ := h
    exact ⟨x, r, e1, Rep.mono e d h1, Reps.mono e ds h2⟩
end
theorem RepV.mono (e : Same B B') (p : φ <+: φ') : ∀ (d : Dv) {v : V}, RepV G B φ d v → RepV G B' φ' d v
  | .p d, _, h => Rep.mono e d h
  | .hnd n, _, ⟨a, h, q⟩ => ⟨a, by
      obtain ⟨t, rfl⟩ := p
      rw [List.getElem?_append_left (List.getElem?_eq_some_iff.mp h).1]
      exact h, q⟩
theorem RepVs.mono (e : Same B B') (p : φ <+: φ') : ∀ (ds : List Dv) {vs : List V}, RepVs G B φ ds vs → RepVs G B' φ' ds vs
  | [], _, h => h
  | d :: ds, _, ⟨x, r, e1, h1, h2⟩ => ⟨x, r, e1, RepV.mono e p d h1, RepVs.mono e p ds h2⟩
theorem Reps.length : ∀ {ds : List D} {vs : List V}, Reps G B ds vs → ds.length = vs.length
  | [], _, h => by unfold Reps at h; rw [h]; rfl
  | d :: ds, _, h => by
    unfold Reps at h
    obtain ⟨x, r, rfl, _, h2⟩ := h
    rw [List.length_cons, List.length_cons, Reps.length h2]
theorem RepVs.length : ∀ {ds : List Dv} {vs : List V}, RepVs G B φ ds vs → ds.length = vs.length
  | [], _, h => by rw [show _ = [] from h]; rfl
  | d :: ds, _, ⟨x, r, e1, _, h2⟩ => by rw [e1, List.length_cons, List.length_cons, RepVs.length h2]
theorem Reps.get : ∀ {ds : List D} {vs : List V} {i : Nat} {d : D}, Reps G B ds vs → ds[i]? = some d → ∃ v, vs[i]? = some v ∧ Rep G B d v
  | [], _, _, _, _, e => by simp at e
  | d :: ds, _, 0, _, h, e => by
    unfold Reps at h
    obtain ⟨x, r, rfl, h1, _⟩ := h
    simp at e; subst e; exact ⟨x, rfl, h1⟩
  | d :: ds, _, i + 1, _, h, e => by
    unfold Reps at h
    obtain ⟨x, r, rfl, _, h2⟩ := h
    obtain ⟨v, e1, e2⟩ := Reps.get (i := i) h2 (by simpa using e)
    exact ⟨v, by simpa using e1, e2⟩
theorem RepVs.get : ∀ {ds : List Dv} {vs : List V} {i : Nat} {d : Dv}, RepVs G B φ ds vs → ds[i]? = some d → ∃ v, vs[i]? = some v ∧ RepV G B φ d v
  | [], _, _, _, _, e => by simp at e
  | d :: ds, _, 0, _, ⟨x, r, e1, h1, _⟩, e => by subst e1; simp at e; subst e; exact ⟨x, rfl, h1⟩
  | d :: ds, _, i + 1, _, ⟨x, r, e1, _, h2⟩, e => by
    subst e1
    obtain ⟨v, q1, q2⟩ := RepVs.get (i := i) h2 (by simpa using e)
    exact ⟨v, by simpa using q1, q2⟩
theorem Reps.append : ∀ {ds es : List D} {vs us : List V}, Reps G B ds vs → Reps G B es us → Reps G B (ds ++ es) (vs ++ us)
  | [], _, _, _, h, q => by unfold Reps at h; subst h; exact q
  | d :: ds, es, _, us, h, q => by
    unfold Reps at h
    obtain ⟨x, r, rfl, h1, h2⟩ := h
    rw [List.cons_append, List.cons_append]
    unfold Reps
    exact ⟨x, _, rfl, h1, h2.append q⟩
theorem Reps.nil : Reps G B [] [] := by unfold Reps; rfl
theorem Reps.cons {d : D} {ds : List D} {v : V} {vs : List V} (h : Rep G B d v) (q : Reps G B ds vs) : Reps G B (d :: ds) (v :: vs) := by
  unfold Reps; exact ⟨v, vs, rfl, h, q⟩
theorem Reps.take : ∀ {ds : List D} {vs : List V} (n : Nat), Reps G B ds vs → Reps G B (ds.take n) (vs.take n)
  | ds, vs, 0, _ => by rw [List.take_zero, List.take_zero]; exact Reps.nil
  | [], _, n + 1, h => by unfold Reps at h; subst h; exact Reps.nil
  | d :: ds, _, n + 1, h => by
    unfold Reps at h
    obtain ⟨x, r, rfl, h1, h2⟩ := h
    exact Reps.cons h1 (h2.take n)
theorem Reps.drop : ∀ {ds : List D} {vs : List V} (n : Nat), Reps G B ds vs → Reps G B (ds.drop n) (vs.drop n)
  | ds, vs, 0, h => h
  | [], _, n + 1, h => by unfold Reps at h; subst h; exact Reps.nil
  | d :: ds, _, n + 1, h => by
    unfold Reps at h
    obtain ⟨x, r, rfl, h1, h2⟩ := h
    exact h2.drop n
theorem Reps.set : ∀ {ds : List D} {vs : List V} (i : Nat) {d : D} {v : V}, Reps G B ds vs → Rep G B d v → Reps G B (ds.set i d) (vs.set i v)
  | [], _, _, _, _, h, _ => by unfold Reps at h; subst h; exact Reps.nil
  | d :: ds, _, 0, _, _, h, q => by
    unfold Reps at h
    obtain ⟨x, r, rfl, h1, h2⟩ := h
    exact Reps.cons q h2
  | d :: ds, _, i + 1, _, _, h, q => by
    unfold Reps at h
    obtain ⟨x, r, rfl, h1, h2⟩ := h
    exact Reps.cons h1 (h2.set i q)
theorem Reps.reverse : ∀ {ds : List D} {vs : List V}, Reps G B ds vs → Reps G B ds.reverse vs.reverse
  | [], _, h => by unfold Reps at h; subst h; exact Reps.nil
  | d :: ds, _, h => by
    unfold Reps at h
    obtain ⟨x, r, rfl, h1, h2⟩ := h
    rw [List.reverse_cons, List.reverse_cons]
    exact h2.reverse.append (Reps.cons h1 Reps.nil)
theorem Reps.rep {ds : List D} {vs : List V} (h : Reps G B ds vs) : ∀ n : Nat, Reps G B (List.replicate n ds).flatten (List.replicate n vs).flatten
  | 0 => Reps.nil
  | n + 1 => by
    rw [List.replicate_succ, List.replicate_succ, List.flatten_cons, List.flatten_cons]
    exact h.append (h.rep n)
theorem Reps.ints : ∀ ns : List Int, Reps G B (ns.map D.int) (ns.map V.int)
  | [] => Reps.nil
  | n :: ns => Reps.cons (by unfold Rep; rfl) (Reps.ints ns)
theorem RepVs.set : ∀ {ds : List Dv} {vs : List V} (i : Nat) {d : Dv} {v : V}, RepVs G B φ ds vs → RepV G B φ d v → RepVs G B φ (ds.set i d) (vs.set i v)
  | [], _, _, _, _, h, _ => by rw [show _ = [] from h]; exact (rfl : _ = _)
  | d :: ds, _, 0, _, _, ⟨x, r, e1, h1, h2⟩, q => by subst e1; exact ⟨_, _, rfl, q, h2⟩
  | d :: ds, _, i + 1, _, _, ⟨x, r, e1, h1, h2⟩, q => by subst e1; exact ⟨_, _, rfl, h1, h2.set i q⟩
theorem RepVs.append : ∀ {ds es : List Dv} {vs us : List V}, RepVs G B φ ds vs → RepVs G B φ es us → RepVs G B φ (ds ++ es) (vs ++ us)
  | [], _, _, _, h, q => by rw [show _ = [] from h]; exact q
  | d :: ds, es, _, us, ⟨x, r, e1, h1, h2⟩, q => by subst e1; exact ⟨x, _, rfl, h1, h2.append q⟩
end

/-! ### the world -/
def CellR (G : Gx) (H B : Hp) (φ : List Addr) (a : Addr) : Cell → Prop
  | .lst ds => B a = none ∧ ∃ xs, H a = some (.lst xs) ∧ Reps G B ds xs
  | .rcd ds => B a = none ∧ ∃ xs, H a = some (.lst xs) ∧ RepVs G B φ ds xs
  | .ins _ fs => B a = none ∧ ∃ dx vs, H a = some (.ins G.uc dx vs) ∧ vs.map (·.1) = fs.map (·.1) ∧ RepVs G B φ (fs.map (·.2)) (vs.map (·.2))
  | .dead => ∃ o, H a = some o
  | .raw j => B a = none ∧ ∃ dx, φ[j]? = some dx ∧ B dx = none ∧ dx ≠ a ∧ H a = some (.ins G.rc dx []) ∧ ∃ o, H dx = some o
  | .slt j ds => B a = none ∧ ∃ dx t xs, φ[j]? = some dx ∧ B dx = none ∧ dx ≠ a ∧ H a = some (SlX.SlO a G.rc dx [some (.ref t)]) ∧ H dx = some (.xd []) ∧ SqT G.K B t xs ∧ Reps G B ds xs
theorem CellR.there {G : Gx} {H B : Hp} {φ : List Addr} {a : Addr} : ∀ {c : Cell}, CellR G H B φ a c → ∃ o, H a = some o
  | .lst _, ⟨_, _, h, _⟩ => ⟨_, h⟩
  | .rcd _, ⟨_, _, h, _⟩ => ⟨_, h⟩
  | .ins _ _, ⟨_, _, _, h, _⟩ => ⟨_, h⟩
  | .dead, h => h
  | .raw _, ⟨_, _, _, _, _, h, _⟩ => ⟨_, h⟩
  | .slt _ _, ⟨_, _, _, _, _, _, _, h, _⟩ => ⟨_, h⟩
/-- what a cell leans on: its address, its second one, data -/
theorem CellR.stay {G : Gx} {H B H' B' : Hp} {φ φ' : List Addr} {a : Addr} {c : Cell} (r : CellR G H B φ a c) (sb : Same B B') (pr : φ <+: φ') (ha : H' a = H a) (hb : c ≠ .dead → B a = none → B' a = none)
    (hd : ∀ (j : Nat) (dx : Addr), φ[j]? = some dx → dx ≠ a → (∃ o, H dx = some o) → B dx = none → H' dx = H dx ∧ B' dx = none) : CellR G H' B' φ' a c := by
  have pg : ∀ {j : Nat} {dx : Addr}, φ[j]? = some dx → φ'[j]? = some dx := fun {j dx} h => by
    obtain ⟨t, rfl⟩ := pr
    rw [List.getElem?_append_left (List.getElem?_eq_some_iff.mp h).1]
    exact h
  cases c with
  | lst ds =>
    obtain ⟨q1, xs, q2, q3⟩ := r
    exact ⟨hb (fun z => nomatch z) q1, xs, ha.trans q2, Reps.mono sb _ q3⟩
  | rcd ds =>
    obtain ⟨q1, xs, q2, q3⟩ := r
    exact ⟨hb (fun z => nomatch z) q1, xs, ha.trans q2, RepVs.mono sb pr _ q3⟩
  | ins C fs =>
    obtain ⟨q1, dx, vs, q2, q3, q4⟩ := r
    exact ⟨hb (fun z => nomatch z) q1, dx, vs, ha.trans q2, q3, RepVs.mono sb pr _ q4⟩
  | dead =>
    obtain ⟨u, q⟩ := r
    exact ⟨u, ha.trans q⟩
  | raw j =>
    obtain ⟨q1, dx, q2, q3, q4, q5, u, q6⟩ := r
    obtain ⟨e1, e2⟩ := hd j dx q2 q4 ⟨u, q6⟩ q3
    exact ⟨hb (fun z => nomatch z) q1, dx, pg q2, e2, q4, ha.trans q5, u, e1.trans q6⟩
  | slt j ds =>
    obtain ⟨q1, dx, t, xs, q2, q3, q4, q5, q6, q7, q8⟩ := r
    obtain ⟨e1, e2⟩ := hd j dx q2 q4 ⟨_, q6⟩ q3
    exact ⟨hb (fun z => nomatch z) q1, dx, t, xs, pg q2, e2, q4, ha.trans q5, e1.trans q6, sqT_mono sb q7, Reps.mono sb _ q8⟩
theorem CellR.stay2 {G : Gx} {H B H' B' : Hp} {φ φ' : List Addr} {a : Addr} {c : Cell} {j : Nat} (r : CellR G H B φ a c) (e : c.second = some j) (sb : Same B B') (pr : φ <+: φ') (ha : H' a = H a) (hb : c ≠ .dead → B a = none → B' a = none)
    (hd : ∀ dx, φ[j]? = some dx → dx ≠ a → (∃ o, H dx = some o) → B dx = none → H' dx = H dx ∧ B' dx = none) : CellR G H' B' φ' a c := by
  have pg : ∀ {j : Nat} {dx : Addr}, φ[j]? = some dx → φ'[j]? = some dx := fun {j dx} h => by
    obtain ⟨t, rfl⟩ := pr
    rw [List.getElem?_append_left (List.getElem?_eq_some_iff.mp h).1]
    exact h
  cases c with
  | lst ds => cases e
  | rcd ds => cases e
  | ins C fs => cases e
  | dead => cases e
  | raw j' =>
    cases e
    obtain ⟨q1, dx, q2, q3, q4, q5, u, q6⟩ := r
    obtain ⟨e1, e2⟩ := hd dx q2 q4 ⟨u, q6⟩ q3
    exact ⟨hb (fun z => nomatch z) q1, dx, pg q2, e2, q4, ha.trans q5, u, e1.trans q6⟩
  | slt j' ds =>
    cases e
    obtain ⟨q1, dx, t, xs, q2, q3, q4, q5, q6, q7, q8⟩ := r
    obtain ⟨e1, e2⟩ := hd dx q2 q4 ⟨_, q6⟩ q3
    exact ⟨hb (fun z => nomatch z) q1, dx, t, xs, pg q2, e2, q4, ha.trans q5, e1.trans q6, sqT_mono sb q7, Reps.mono sb _ q8⟩
theorem CellR.stay0 {G : Gx} {H B H' B' : Hp} {φ φ' : List Addr} {a : Addr} {c : Cell} (r : CellR G H B φ a c) (e : c.second = none) (sb : Same B B') (pr : φ <+: φ') (ha : H' a = H a) (hb : c ≠ .dead → B a = none → B' a = none) : CellR G H' B' φ' a c := by
  cases c with
  | lst ds =>
    obtain ⟨q1, xs, q2, q3⟩ := r
    exact ⟨hb (fun z => nomatch z) q1, xs, ha.trans q2, Reps.mono sb _ q3⟩
  | rcd ds =>
    obtain ⟨q1, xs, q2, q3⟩ := r
    exact ⟨hb (fun z => nomatch z) q1, xs, ha.trans q2, RepVs.mono sb pr _ q3⟩
  | ins C fs =>
    obtain ⟨q1, dx, vs, q2, q3, q4⟩ := r
    exact ⟨hb (fun z => nomatch z) q1, dx, vs, ha.trans q2, q3, RepVs.mono sb pr _ q4⟩
  | dead =>
    obtain ⟨u, q⟩ := r
    exact ⟨u, ha.trans q⟩
  | raw j => cases e
  | slt j ds => cases e
structure Wd (G : Gx) (H B : Hp) (φ : List Addr) (S : Sto) : Prop where
  sub : Same B H
  nd : φ.Nodup
  len : φ.length = S.length
  cell : ∀ (i : Nat) (a : Addr) (c : Cell), φ[i]? = some a → S[i]? = some c → CellR G H B φ a c
  sec : ∀ (i j : Nat) (c : Cell), S[i]? = some c → c.second = some j → S[j]? = some .dead
/-- from one world to a later one: what is no one's business here stays -/
structure Xt (H B : Hp) (φ : List Addr) (H' B' : Hp) (φ' : List Addr) : Prop where
  b : Same B B'
  p : φ <+: φ'
  out : ∀ a o, H a = some o → B a = none → a ∉ φ → H' a = some o ∧ B' a = none ∧ a ∉ φ'
theorem Xt.refl {H B : Hp} {φ : List Addr} : Xt H B φ H B φ := ⟨Same.refl _, List.prefix_refl _, fun _ _ h1 h2 h3 => ⟨h1, h2, h3⟩⟩
theorem Xt.trans {H B H1 B1 H2 B2 : Hp} {φ φ1 φ2 : List Addr} (x : Xt H B φ H1 B1 φ1) (y : Xt H1 B1 φ1 H2 B2 φ2) : Xt H B φ H2 B2 φ2 :=
  ⟨x.b.trans y.b, x.p.trans y.p, fun a o h1 h2 h3 => let ⟨q1, q2, q3⟩ := x.out a o h1 h2 h3; y.out a o q1 q2 q3⟩
section
variable {G : Gx} {H B : Hp} {φ : List Addr} {S : Sto} {p : Addr} {o : HO}
theorem Wd.there (w : Wd G H B φ S) {a : Addr} (h : a ∈ φ) : ∃ o, H a = some o := by
  obtain ⟨i, hi, e⟩ := List.mem_iff_getElem.mp h
  have hs : i < S.length := by rw [← w.len]; exact hi
  exact (w.cell i a S[i] (by rw [List.getElem?_eq_getElem hi, e]) (List.getElem?_eq_getElem hs)).there
theorem Wd.fresh (w : Wd G H B φ S) (h : H p = none) : p ∉ φ := fun q => by
  obtain ⟨o, e⟩ := w.there q
  rw [h] at e; cases e
theorem same_upd' (h : H p = none) : Same H (upd H p o) := fun b x e => by
  rw [upd_ne (ne_of_none e h)]; exact e
theorem Wd.bfree (w : Wd G H B φ S) (h : H p = none) : B p = none := w.sub.free h
theorem Wd.two (w : Wd G H B φ S) {i j n : Nat} {c d : Cell} {dx a : Addr} (h1 : S[i]? = some c) (h2 : c.second = some j) (h3 : φ[j]? = some dx) (h4 : φ[n]? = some a) (h5 : S[n]? = some d) (h6 : d ≠ .dead) : dx ≠ a := fun z => by
  have e := w.sec i j c h1 h2
  subst z
  have hj : j < φ.length := (List.getElem?_eq_some_iff.mp h3).1
  have : j = n := (List.getElem?_inj hj w.nd).mp (h3.trans h4.symm)
  subst this
  rw [e] at h5
  exact h6 (Option.some.inj h5).symm
theorem Wd.alloc (w : Wd G H B φ S) (h : H p = none) : Wd G (upd H p o) (upd B p o) φ S := by
  have hb := w.bfree h
  have hp := w.fresh h
  refine ⟨fun b x e => ?_, w.nd, w.len, fun i a c h1 h2 => ?_, w.sec⟩
  · by_cases q : b = p
    · subst q; rw [upd_same] at e ⊢; exact e
    · rw [upd_ne q] at e ⊢; exact w.sub _ _ e
  · have na : a ≠ p := fun z => hp (by subst z; exact List.mem_of_getElem? h1)
    refine CellR.stay (w.cell i a c h1 h2) (same_upd' hb) (List.prefix_refl _) (upd_ne na) (fun _ q => by rw [upd_ne na]; exact q) fun j dx _ _ ⟨u, q1⟩ q2 => ?_
    have nd : dx ≠ p := ne_of_none q1 h
    exact ⟨upd_ne nd, by rw [upd_ne nd]; exact q2⟩
theorem Xt.alloc (w : Wd G H B φ S) (h : H p = none) : Xt H B φ (upd H p o) (upd B p o) φ := by
  refine ⟨same_upd' (w.bfree h), List.prefix_refl _, fun a u h1 h2 h3 => ?_⟩
  have na : a ≠ p := ne_of_none h1 h
  exact ⟨by rw [upd_ne na]; exact h1, by rw [upd_ne na]; exact h2, h3⟩
/-- something private, that no one here knows of, is laid -/
theorem Wd.hide (w : Wd G H B φ S) (h : H p = none) : Wd G (upd H p o) B φ S := by
  have hp := w.fresh h
  refine ⟨fun b x e => ?_, w.nd, w.len, fun i a c h1 h2 => ?_, w.sec⟩
  · rw [upd_ne (ne_of_none (w.sub _ _ e) h)]; exact w.sub _ _ e
  · have na : a ≠ p := fun z => hp (by subst z; exact List.mem_of_getElem? h1)
    refine CellR.stay (w.cell i a c h1 h2) (Same.refl _) (List.prefix_refl _) (upd_ne na) (fun _ q => q) fun j dx _ _ ⟨u, q1⟩ q2 => ?_
    exact ⟨upd_ne (ne_of_none q1 h), q2⟩
theorem Xt.hide (w : Wd G H B φ S) (h : H p = none) : Xt H B φ (upd H p o) B φ := by
  refine ⟨Same.refl _, List.prefix_refl _, fun a u h1 h2 h3 => ?_⟩
  exact ⟨by rw [upd_ne (ne_of_none h1 h)]; exact h1, h2, h3⟩
/-- the private thing becomes a cell -/
theorem Wd.cellOf {c : Cell} (w : Wd G H B φ S) (h : H p = some o) (hb : B p = none) (hp : p ∉ φ) (hc : CellR G H B (φ ++ [p]) p c) (hs : c.second = none) : Wd G H B (φ ++ [p]) (S ++ [c]) := by
  have old : ∀ {i : Nat} {c' : Cell}, (S ++ [c])[i]? = some c' → S[i]? = some c' ∨ c' = c := fun {i c'} h2 => by
    by_cases hi : i < S.length
    · rw [List.getElem?_append_left hi] at h2; exact .inl h2
    · rw [List.getElem?_append_right (Nat.le_of_not_lt hi)] at h2
      exact .inr (by
        have := List.mem_of_getElem? h2
        simpa using this)
  refine ⟨w.sub, ?_, ?_, fun i a c' h1 h2 => ?_, fun i j c' h1 h2 => ?_⟩
  · rw [List.nodup_append]
    refine ⟨w.nd, by simp, fun x hx y hy => ?_⟩
    have : y = p := by simpa using hy
    subst this
    exact fun z => hp (z ▸ hx)
  · rw [List.length_append, List.length_append, w.len]; rfl
  · by_cases hi : i < φ.length
    · rw [List.getElem?_append_left hi] at h1
      rw [List.getElem?_append_left (by rw [← w.len]; exact hi)] at h2
      exact CellR.stay (w.cell i a c' h1 h2) (Same.refl _) (List.prefix_append _ _) rfl (fun _ q => q) fun _ _ _ _ _ q2 => ⟨rfl, q2⟩
    · have hl : i < (φ ++ [p]).length := (List.getElem?_eq_some_iff.mp h1).1
      rw [List.length_append] at hl
      have e : i = φ.length := by simp at hl; omega
      subst e
      rw [List.getElem?_append_right (Nat.le_refl _), Nat.sub_self] at h1
      rw [w.len, List.getElem?_append_right (Nat.le_refl _), Nat.sub_self] at h2
      simp at h1 h2
      subst h1 h2
      exact hc
  · rcases old h1 with h1 | h1
    · have q := w.sec i j c' h1 h2
      rw [List.getElem?_append_left (List.getElem?_eq_some_iff.mp q).1]
      exact q
    · subst h1; rw [hs] at h2; cases h2
/-- a cell is written -/
theorem Wd.set {n : Nat} {a : Addr} {c0 c' : Cell} (w : Wd G H B φ S) (hn : φ[n]? = some a) (hs : S[n]? = some c0) (h0 : c0 ≠ .dead) (hb : B a = none) (hc : CellR G (upd H a o) B φ a c') (h2c : c'.second = none) : Wd G (upd H a o) B φ (S.set n c') := by
  have hl : n < φ.length := (List.getElem?_eq_some_iff.mp hn).1
  have old : ∀ {i : Nat} {c : Cell}, (S.set n c')[i]? = some c → (i = n ∧ c = c') ∨ (i ≠ n ∧ S[i]? = some c) := fun {i c} h => by
    by_cases hi : i = n
    · subst hi
      rw [List.getElem?_set_self (by rw [← w.len]; exact hl)] at h
      exact .inl ⟨rfl, (Option.some.inj h).symm⟩
    · rw [List.getElem?_set_ne (Ne.symm hi)] at h
      exact .inr ⟨hi, h⟩
  refine ⟨fun b x e => ?_, w.nd, by rw [List.length_set]; exact w.len, fun i b c h1 h2 => ?_, fun i j c h1 h2 => ?_⟩
  · have nb : b ≠ a := fun z => by subst z; rw [hb] at e; cases e
    rw [upd_ne nb]; exact w.sub _ _ e
  · rcases old h2 with ⟨rfl, rfl⟩ | ⟨hi, h2⟩
    · rw [hn] at h1; cases h1; exact hc
    · have na : b ≠ a := fun z => by
        subst z
        have hi' : i < φ.length := (List.getElem?_eq_some_iff.mp h1).1
        exact hi ((List.getElem?_inj hi' w.nd).mp (h1.trans hn.symm))
      have r := w.cell i b c h1 h2
      cases e : c.second with
      | none =>
        refine CellR.stay0 r e (Same.refl _) (List.prefix_refl _) (upd_ne na) fun _ q => q
      | some j =>
        refine CellR.stay2 r e (Same.refl _) (List.prefix_refl _) (upd_ne na) (fun _ q => q) fun dx q1 _ _ q2 => ⟨upd_ne (w.two h2 e q1 hn hs h0), q2⟩
  · rcases old h1 with ⟨rfl, rfl⟩ | ⟨hi, h1⟩
    · rw [h2c] at h2; cases h2
    · have q := w.sec i j c h1 h2
      have nj : j ≠ n := fun z => by subst z; rw [q] at hs; exact h0 (Option.some.inj hs).symm
      rw [List.getElem?_set_ne (Ne.symm nj)]
      exact q
theorem Xt.set {n : Nat} {a : Addr} (hn : φ[n]? = some a) : Xt H B φ (upd H a o) B φ := by
  refine ⟨Same.refl _, List.prefix_refl _, fun b u h1 h2 h3 => ?_⟩
  have nb : b ≠ a := fun z => h3 (by subst z; exact List.mem_of_getElem? hn)
  exact ⟨by rw [upd_ne nb]; exact h1, h2, h3⟩
/-- a list's cell is given up: the list is data from now on -/
theorem Wd.thaw {n : Nat} {a : Addr} {ds : List D} (w : Wd G H B φ S) (hn : φ[n]? = some a) (hs : S[n]? = some (.lst ds)) :
    ∃ xs, H a = some (.lst xs) ∧ B a = none ∧ Reps G B ds xs ∧ Wd G H (upd B a (.lst xs)) φ (S.set n .dead) ∧ Xt H B φ H (upd B a (.lst xs)) φ := by
  obtain ⟨hb, xs, hx, hr⟩ : CellR G H B φ a (.lst ds) := w.cell n a _ hn hs
  have hl : n < φ.length := (List.getElem?_eq_some_iff.mp hn).1
  have sb : Same B (upd B a (.lst xs)) := same_upd' hb
  have old : ∀ {i : Nat} {c : Cell}, (S.set n .dead)[i]? = some c → (i = n ∧ c = .dead) ∨ (i ≠ n ∧ S[i]? = some c) := fun {i c} h => by
    by_cases hi : i = n
    · subst hi
      rw [List.getElem?_set_self (by rw [← w.len]; exact hl)] at h
      exact .inl ⟨rfl, (Option.some.inj h).symm⟩
    · rw [List.getElem?_set_ne (Ne.symm hi)] at h
      exact .inr ⟨hi, h⟩
  refine ⟨xs, hx, hb, hr, ⟨fun b x e => ?_, w.nd, by rw [List.length_set]; exact w.len, fun i b c h1 h2 => ?_, fun i j c h1 h2 => ?_⟩, ⟨sb, List.prefix_refl _, fun b u h1 h2 h3 => ?_⟩⟩
  · by_cases q : b = a
    · subst q; rw [upd_same] at e; rw [← e]; exact hx
    · rw [upd_ne q] at e; exact w.sub _ _ e
  · rcases old h2 with ⟨rfl, rfl⟩ | ⟨hi, h2⟩
    · rw [hn] at h1; cases h1; exact ⟨_, hx⟩
    · have na : b ≠ a := fun z => by
        subst z
        have hi' : i < φ.length := (List.getElem?_eq_some_iff.mp h1).1
        exact hi ((List.getElem?_inj hi' w.nd).mp (h1.trans hn.symm))
      have r := w.cell i b c h1 h2
      cases e : c.second with
      | none => exact CellR.stay0 r e sb (List.prefix_refl _) rfl fun _ q => by rw [upd_ne na]; exact q
      | some j => exact CellR.stay2 r e sb (List.prefix_refl _) rfl (fun _ q => by rw [upd_ne na]; exact q) fun dx q1 _ _ q2 => ⟨rfl, by rw [upd_ne (w.two h2 e q1 hn hs (fun z => nomatch z))]; exact q2⟩
  · rcases old h1 with ⟨rfl, rfl⟩ | ⟨hi, h1⟩
    · cases h2
    · have q := w.sec i j c h1 h2
      have nj : j ≠ n := fun z => by subst z; rw [q] at hs; cases hs
      rw [List.getElem?_set_ne (Ne.symm nj)]
      exact q
  · have nb : b ≠ a := fun z => h3 (by subst z; exact List.mem_of_getElem? hn)
    exact ⟨h1, by rw [upd_ne nb]; exact h2, h3⟩
end

/-! ### environments -/
abbrev Nv := List (Option Dv)
structure EnvR (G : Gx) (B : Hp) (φ : List Addr) (σ : L2.St) (ρ : Nv) : Prop where
  len : ρ.length = σ.length
  at_ : ∀ (i : Nat) (d : Dv), ρ[i]? = some (some d) → ∃ v, σ[i]? = some (some v) ∧ RepV G B φ d v
section
variable {G : Gx} {B B' : Hp} {φ φ' : List Addr} {σ : L2.St} {ρ : Nv}
theorem EnvR.mono (e : EnvR G B φ σ ρ) (s : Same B B') (p : φ <+: φ') : EnvR G B' φ' σ ρ :=
  ⟨e.len, fun i d h => let ⟨v, h1, h2⟩ := e.at_ i d h; ⟨v, h1, RepV.mono s p d h2⟩⟩
theorem EnvR.set (e : EnvR G B φ σ ρ) (i : Nat) {d : Dv} {v : V} (r : RepV G B φ d v) : EnvR G B φ (σ.set i (some v)) (ρ.set i (some d)) := by
  refine ⟨by rw [List.length_set, List.length_set]; exact e.len, fun j d' h => ?_⟩
  by_cases hj : j = i
  · subst hj
    have hl : j < ρ.length := by
      have := (List.getElem?_eq_some_iff.mp h).1
      rwa [List.length_set] at this
    rw [List.getElem?_set_self hl] at h
    cases h
    exact ⟨v, List.getElem?_set_self (by rw [← e.len]; exact hl), r⟩
  · rw [List.getElem?_set_ne (Ne.symm hj)] at h ⊢
    exact e.at_ j d' h
theorem EnvR.drop1 (e : EnvR G B φ σ ρ) (i : Nat) (o : Option V) : EnvR G B φ (σ.set i o) (ρ.set i none) := by
  refine ⟨by rw [List.length_set, List.length_set]; exact e.len, fun j d' h => ?_⟩
  by_cases hj : j = i
  · subst hj
    have hl : j < ρ.length := by
      have := (List.getElem?_eq_some_iff.mp h).1
      rwa [List.length_set] at this
    rw [List.getElem?_set_self hl] at h
    cases h
  · rw [List.getElem?_set_ne (Ne.symm hj)] at h ⊢
    exact e.at_ j d' h
def wipeN (ρ : Nv) : List Nat → Nv
  | [] => ρ
  | v :: vs => (wipeN ρ vs).set v none
theorem EnvR.wipe (e : EnvR G B φ σ ρ) : ∀ vs : List Nat, EnvR G B φ (wipe σ vs) (wipeN ρ vs)
  | [] => e
  | v :: vs => (e.wipe vs).drop1 v none
end

/-! ### what is wanted behind a run -/
def XRep (G : Gx) (B : Hp) (x : Ex) (c : Value) (dd : Option Addr) : Prop :=
  c = .ref (G.xc x.cls) ∧ match x.args with
    | [] => dd = none
    | ds => ∃ d vs, dd = some d ∧ B d = some (.xd ((G.xf x.cls).zip vs)) ∧ Reps G B ds vs ∧ ds.length = (G.xf x.cls).length
theorem XRep.mono {G : Gx} {B B' : Hp} {x : Ex} {c : Value} {dd : Option Addr} (e : Same B B') (h : XRep G B x c dd) : XRep G B' x c dd := by
  obtain ⟨h1, h2⟩ := h
  refine ⟨h1, ?_⟩
  cases q : x.args with
  | nil => rw [q] at h2; exact h2
  | cons a r =>
    rw [q] at h2
    obtain ⟨d, vs, e1, e2, e3, e4⟩ := h2
    exact ⟨d, vs, e1, e _ _ e2, Reps.mono e _ e3, e4⟩
def WP {α : Type} (G : Gx) (W : WX) (σ : L2.St) (H B : Hp) (φ : List Addr) (o : Out α) (post : α → Hp → Hp → List Addr → Sto → Prop) : Prop :=
  match o with
  | .ok a S => ∀ H' B' φ', Xt H B φ H' B' φ' → Wd G H' B' φ' S → post a H' B' φ' S
  | .exc x S => ∀ H' B' φ' c dd, Xt H B φ H' B' φ' → Wd G H' B' φ' S → XRep G B' x c dd → W c dd σ H'
  | .bad => False
section
variable {α β : Type} {G : Gx} {W : WX} {σ : L2.St} {H B H1 B1 : Hp} {φ φ1 : List Addr}
theorem WP.mono {o : Out α} {post post' : α → Hp → Hp → List Addr → Sto → Prop} (h : WP G W σ H B φ o post)
    (k : ∀ a H' B' φ' S, Xt H B φ H' B' φ' → Wd G H' B' φ' S → post a H' B' φ' S → post' a H' B' φ' S) : WP G W σ H B φ o post' := by
  cases o with
  | ok a S => exact fun H' B' φ' x w => k _ _ _ _ _ x w (h H' B' φ' x w)
  | exc x S => exact h
  | bad => exact h
theorem WP.rebase {o : Out α} {post : α → Hp → Hp → List Addr → Sto → Prop} (x : Xt H B φ H1 B1 φ1) (h : WP G W σ H B φ o post) : WP G W σ H1 B1 φ1 o post := by
  cases o with
  | ok a S => exact fun H' B' φ' y w => h H' B' φ' (x.trans y) w
  | exc e S => exact fun H' B' φ' c dd y w r => h H' B' φ' c dd (x.trans y) w r
  | bad => exact h
/-- the first part of a run -/
theorem WP.fst {o : Out α} {k : α → Sto → Out β} {post : β → Hp → Hp → List Addr → Sto → Prop} (h : WP G W σ H B φ (o.bind k) post) :
    WP G W σ H B φ o fun a H' B' φ' S' => WP G W σ H' B' φ' (k a S') post := by
  cases o with
  | ok a S => exact fun H' B' φ' x w => WP.rebase x h
  | exc x S => exact h
  | bad => exact h
end

/-! ### readings -/
abbrev Ef := Nv → Sto → Out Dv
def tD (G : Gx) (W : WX) (f : Ef) : TE := fun σ H Q => ∃ ρ B φ S, Wd G H B φ S ∧ EnvR G B φ σ ρ ∧
  WP G W σ H B φ (f ρ S) fun d H' B' φ' S' => ∀ v, RepV G B' φ' d v → Q v H'
theorem wkE {X : Cx} {e : Expr} {t t' : TE} (h : PE X e t) (k : ∀ σ H Q, t' σ H Q → t σ H Q) : PE X e t' :=
  ⟨fun pins s σ H Q I q => h.run pins s σ H Q I (k σ H Q q)⟩
section
variable {G : Gx} {W : WX} {f g : Ef} {σ : L2.St} {H : Hp} {Q : VK}
/-- how a reading is opened -/
theorem tD.run {ρ : Nv} {B : Hp} {φ : List Addr} {S : Sto} {post : Dv → Hp → Hp → List Addr → Sto → Prop} (w : Wd G H B φ S) (e : EnvR G B φ σ ρ) (h : WP G W σ H B φ (f ρ S) post)
    (k : ∀ d v H' B' φ' S', Xt H B φ H' B' φ' → Wd G H' B' φ' S' → EnvR G B' φ' σ ρ → RepV G B' φ' d v → post d H' B' φ' S' → Q v H') : tD G W f σ H Q :=
  ⟨ρ, B, φ, S, w, e, h.mono fun d H' B' φ' S' x w' q v r => k d v H' B' φ' S' x w' (e.mono x.b x.p) r q⟩
end
end DL

namespace DL
open PySem L2
open PySem.Spec PyProof.Rows
/-! ### small things about Rep -/
section
variable {G : Gx} {B : Hp} {φ : List Addr} {v : V}
theorem rep_int {i : Int} : RepV G B φ (.p (.int i)) v ↔ v = .int i := by unfold RepV; unfold Rep; exact Iff.rfl
theorem rep_bl {b : Bool} : RepV G B φ (.p (.bl b)) v ↔ v = .bl b := by unfold RepV; unfold Rep; exact Iff.rfl
theorem rep_str {x : Str} : RepV G B φ (.p (.str x)) v ↔ v = .str x := by unfold RepV; unfold Rep; exact Iff.rfl
theorem rep_non : RepV G B φ (.p .non) v ↔ v = .non := by unfold RepV; unfold Rep; exact Iff.rfl
theorem rep_tup {ds : List D} : RepV G B φ (.p (.tup ds)) v ↔ ∃ a xs, v = .ref a ∧ SqT G.K B a xs ∧ Reps G B ds xs := by unfold RepV; unfold Rep; exact Iff.rfl
theorem rep_lst {ds : List D} : RepV G B φ (.p (.lst ds)) v ↔ ∃ a xs, v = .ref a ∧ B a = some (.lst xs) ∧ Reps G B ds xs := by unfold RepV; unfold Rep; exact Iff.rfl
theorem rep_rul {ds : List D} : RepV G B φ (.p (.rul ds)) v ↔ ∃ a dx t xs, v = .ref a ∧ B a = some (SlX.SlO a G.rc dx [some (.ref t)]) ∧ B dx = some (.xd []) ∧ SqT G.K B t xs ∧ Reps G B ds xs := by unfold RepV; unfold Rep; exact Iff.rfl
theorem rep_scr {ns : List Int} : RepV G B φ (.p (.scr ns)) v ↔ ∃ a, v = .ref a ∧ SqL G.K B a (ns.map V.int) := by unfold RepV; unfold Rep; exact Iff.rfl
end
abbrev Op1 := Dv → Sto → Out Dv
abbrev Op2 := Dv → Dv → Sto → Out Dv
abbrev OpN := List Dv → Sto → Out Dv
/-- what an operator's rule asks, met by the function -/
def Ok1 (G : Gx) (W : WX) (r : V → Hp → VK → Prop) (op : Op1) : Prop := ∀ H B φ S σ x v Q, Wd G H B φ S → RepV G B φ x v →
  WP G W σ H B φ (op x S) (fun d H' B' φ' _ => ∀ z, RepV G B' φ' d z → Q z H') → r v H Q
def Ok2 (G : Gx) (W : WX) (r : R2) (op : Op2) : Prop := ∀ H B φ S σ x y v u Q, Wd G H B φ S → RepV G B φ x v → RepV G B φ y u →
  WP G W σ H B φ (op x y S) (fun d H' B' φ' _ => ∀ z, RepV G B' φ' d z → Q z H') → r v u H Q
def OkN (G : Gx) (W : WX) (r : List V → Hp → VK → Prop) (op : OpN) : Prop := ∀ H B φ S σ xs vs Q, Wd G H B φ S → RepVs G B φ xs vs →
  WP G W σ H B φ (op xs S) (fun d H' B' φ' _ => ∀ z, RepV G B' φ' d z → Q z H') → r vs H Q
/-! ### the functions of syntax -/
def dName (i : Nat) : Ef := fun ρ S => match ρ[i]? with
  | some (some d) => .ok d S
  | _ => .bad
def dC (d : D) : Ef := fun _ S => .ok (.p d) S
def dUn (op : Op1) (f : Ef) : Ef := fun ρ S => (f ρ S).bind op
def dBin (op : Op2) (f g : Ef) : Ef := fun ρ S => (f ρ S).bind fun x S1 => (g ρ S1).bind fun y S2 => op x y S2
abbrev Tf := Nv → Sto → Out Bool
def dIf (c : Tf) (f g : Ef) : Ef := fun ρ S => (c ρ S).bind fun b S1 => if b = true then f ρ S1 else g ρ S1
abbrev Af := Nv → Sto → Out (List Dv)
def aNil : Af := fun _ S => .ok [] S
def aCons (f : Ef) (r : Af) : Af := fun ρ S => (f ρ S).bind fun x S1 => (r ρ S1).bind fun xs S2 => .ok (x :: xs) S2
def dCall (op : OpN) (a : Af) : Ef := fun ρ S => (a ρ S).bind op
/-- tests -/
def tT (G : Gx) (W : WX) (f : Tf) : TT := fun σ H Q => ∃ ρ B φ S, Wd G H B φ S ∧ EnvR G B φ σ ρ ∧
  WP G W σ H B φ (f ρ S) fun b H' _ _ _ => Q b H'
def tA (G : Gx) (W : WX) (f : Af) : TA := fun σ H Q => ∃ ρ B φ S, Wd G H B φ S ∧ EnvR G B φ σ ρ ∧
  WP G W σ H B φ (f ρ S) fun xs H' B' φ' _ => ∀ vs, RepVs G B' φ' xs vs → Q vs H'
def cVal (f : Ef) : Tf := fun ρ S => (f ρ S).bind fun d S1 => match d with
  | .p (.bl b) => .ok b S1
  | _ => .bad
def cNot (c : Tf) : Tf := fun ρ S => (c ρ S).bind fun b S1 => .ok (!b) S1
def cAnd (c d : Tf) : Tf := fun ρ S => (c ρ S).bind fun b S1 => if b = true then d ρ S1 else .ok false S1
def cOr (c d : Tf) : Tf := fun ρ S => (c ρ S).bind fun b S1 => if b = true then .ok true S1 else d ρ S1
/-- and, or of bools as values -/
def dAnd (f g : Ef) : Ef := fun ρ S => (f ρ S).bind fun d S1 => match d with
  | .p (.bl b) => if b = true then g ρ S1 else .ok (.p (.bl false)) S1
  | _ => .bad
def dOr (f g : Ef) : Ef := fun ρ S => (f ρ S).bind fun d S1 => match d with
  | .p (.bl b) => if b = true then .ok (.p (.bl true)) S1 else g ρ S1
  | _ => .bad
def dNot (f : Ef) : Ef := fun ρ S => (f ρ S).bind fun d S1 => match d with
  | .p (.bl b) => .ok (.p (.bl (!b))) S1
  | _ => .bad
section
variable {X : Cx} {G : Gx} {W : WX} {f g : Ef} {c d : Tf} {a b e : Expr} {pos : Pos}
theorem wkT {t t' : TT} (h : PT X e t) (k : ∀ σ H Q, t' σ H Q → t σ H Q) : PT X e t' :=
  ⟨fun pins s σ H Q I q => h.run pins s σ H Q I (k σ H Q q)⟩
theorem wkW {t t' : TT} (h : PW X e t) (k : ∀ σ H Q, t' σ H Q → t σ H Q) : PW X e t' :=
  ⟨fun wh pins s σ H Q I q => h.run wh pins s σ H Q I (k σ H Q q)⟩
theorem wkA {es : List Expr} {t t' : TA} (h : PA X es t) (k : ∀ σ H Q, t' σ H Q → t σ H Q) : PA X es t' :=
  ⟨fun pos pins s σ H Q I q => h.run pos pins s σ H Q I (k σ H Q q)⟩
theorem de_name (i : Nat) {x : Str} (hN : X.N[i]? = some x := by rfl) (hv : Vis X.env.scope x := by first | exact Or.inl rfl | exact Or.inr (Or.inl rfl) | exact Or.inr (Or.inr rfl)) (hd : (x == ("__debug__" : Str)) = false := by decide)
    (hcd : (x == ("__classdict__" : Str)) = false := by decide) : PE X (.Name x pos) (tD G W (dName i)) := by
  refine wkE (pe_var hN hv hd hcd) fun σ H Q ⟨ρ, B, φ, S, w, en, h⟩ => ?_
  unfold dName at h
  split at h
  · rename_i dv q
    obtain ⟨v, h1, h2⟩ := en.at_ i dv q
    exact ⟨v, h1, h H B φ Xt.refl w v h2⟩
  · exact h.elim
theorem de_const {dd : D} {v : V} (h : PE X e (tC v)) (k : ∀ B, Rep G B dd v) (u : ∀ B z, Rep G B dd z → z = v) : PE X e (tD G W (dC dd)) :=
  wkE h fun σ H Q ⟨ρ, B, φ, S, w, en, h⟩ => h H B φ Xt.refl w v (k B)
theorem de_int {i : Int} {j} : PE X (.Constant (.int i) j pos) (tD G W (dC (.int i))) := de_const pe_int (fun B => by rw [Rep]) fun B z h => by rw [Rep] at h; exact h
theorem de_bl {i : Bool} {j} : PE X (.Constant (.bool i) j pos) (tD G W (dC (.bl i))) := de_const pe_bl (fun B => by rw [Rep]) fun B z h => by rw [Rep] at h; exact h
theorem de_str {x : Str} {j} : PE X (.Constant (.str x) j pos) (tD G W (dC (.str x))) := de_const pe_str (fun B => by rw [Rep]) fun B z h => by rw [Rep] at h; exact h
theorem de_non {j} : PE X (.Constant .none j pos) (tD G W (dC .non)) := de_const pe_non (fun B => by rw [Rep]) fun B z h => by rw [Rep] at h; exact h
/-- how a reading of two is opened -/
theorem two_t {r : R2} {op : Op2} (h : Ok2 G W r op) (σ : L2.St) (H : Hp) (Q : VK) (q : tD G W (dBin op f g) σ H Q) : tOp r (tD G W f) (tD G W g) σ H Q := by
  obtain ⟨ρ, B, φ, S, w, en, q⟩ := q
  refine tD.run w en (WP.fst q) fun x v H1 B1 φ1 S1 x1 w1 en1 r1 q1 => ?_
  refine tD.run w1 en1 (WP.fst q1) fun y u H2 B2 φ2 S2 x2 w2 en2 r2 q2 => ?_
  exact h H2 B2 φ2 S2 σ x y v u Q w2 (RepV.mono x2.b x2.p x r1) r2 q2
theorem de_bin {o : Operator} {r : R2} {op : Op2} (ho : OpR X (binaryOp o) r) (h : Ok2 G W r op) (ha : PE X a (tD G W f)) (hb : PE X b (tD G W g)) : PE X (.BinOp a o b pos) (tD G W (dBin op f g)) :=
  wkE (pe_op ho ha hb) (two_t h)
theorem de_cmp {o : CmpOp} {r : R2} {op : Op2} (ho : OpR X (compareOp o) r) (h : Ok2 G W r op) (ha : PE X a (tD G W f)) (hb : PE X b (tD G W g)) (hm : behindInMarks o b = false) : PE X (.Compare a [o] [b] pos) (tD G W (dBin op f g)) :=
  wkE (pe_cmpR ho ha hb hm) (two_t h)
theorem de_ix {r : R2} {op : Op2} (hr : IxR X r) (h : Ok2 G W r op) (ha : PE X a (tD G W f)) (hb : PE X b (tD G W g)) (hs : PlainIx b) : PE X (.Subscript a b pos) (tD G W (dBin op f g)) :=
  wkE (pe_ix hr ha hb hs) (two_t h)
theorem de_un {o : UnaryOp} {r : V → Hp → VK → Prop} {op : Op1} (ho : UnR X (unaryOp o) r) (h : Ok1 G W r op) (ha : PE X a (tD G W f)) : PE X (.UnaryOp o a pos) (tD G W (dUn op f)) := by
  refine wkE (pe_un ho ha) fun σ H Q ⟨ρ, B, φ, S, w, en, q⟩ => ?_
  refine tD.run w en (WP.fst q) fun x v H1 B1 φ1 S1 x1 w1 en1 r1 q1 => ?_
  exact h H1 B1 φ1 S1 σ x v Q w1 r1 q1
/-- a chain a < b < c -/
def dChain (op op' : Op2) (f g k : Ef) : Ef := fun ρ S => (f ρ S).bind fun x S1 => (g ρ S1).bind fun y S2 => (op x y S2).bind fun z S3 => match z with
  | .p (.bl t) => if t = true then (k ρ S3).bind fun u S4 => op' y u S4 else .ok (.p (.bl false)) S3
  | _ => .bad
/-! tests -/
theorem dt_val (h : PE X e (tD G W f)) (he : ∀ whole, isTrue e X.env whole = (do let v ← whole; standAt e.pos; holding [v] (truthy v)) := by intro _; rfl) : PT X e (tT G W (cVal f)) := by
  refine wkT (pt_val h he) fun σ H Q ⟨ρ, B, φ, S, w, en, q⟩ => ?_
  refine tD.run w en (WP.fst q) fun x v H1 B1 φ1 S1 x1 w1 en1 r1 q1 => ?_
  split at q1
  · rw [rep_bl] at r1
    exact ⟨_, r1, q1 H1 B1 φ1 Xt.refl w1⟩
  · exact q1.elim
theorem dt_cmp {o : CmpOp} {r : R2} {op : Op2} (ho : OpR X (compareOp o) r) (h : Ok2 G W r op) (ha : PE X a (tD G W f)) (hb : PE X b (tD G W g)) (hm : behindInMarks o b = false) : PT X (.Compare a [o] [b] pos) (tT G W (cVal (dBin op f g))) := by
  refine wkT (pt_cmpR ho ha hb hm) fun σ H Q ⟨ρ, B, φ, S, w, en, q⟩ => ?_
  refine two_t h σ H _ ⟨ρ, B, φ, S, w, en, ?_⟩
  refine (WP.fst q).mono fun x H1 B1 φ1 S1 x1 w1 q1 v r1 => ?_
  split at q1
  · rw [rep_bl] at r1
    exact ⟨_, r1, q1 H1 B1 φ1 Xt.refl w1⟩
  · exact q1.elim
theorem tT.run {σ : L2.St} {H : Hp} {Q : Bool → Hp → Prop} {ρ : Nv} {B : Hp} {φ : List Addr} {S : Sto} {post : Bool → Hp → Hp → List Addr → Sto → Prop} (w : Wd G H B φ S) (en : EnvR G B φ σ ρ) (h : WP G W σ H B φ (c ρ S) post)
    (k : ∀ t H' B' φ' S', Xt H B φ H' B' φ' → Wd G H' B' φ' S' → EnvR G B' φ' σ ρ → post t H' B' φ' S' → Q t H') : tT G W c σ H Q :=
  ⟨ρ, B, φ, S, w, en, h.mono fun t H' B' φ' S' x w' q => k t H' B' φ' S' x w' (en.mono x.b x.p) q⟩
theorem dt_not (ha : PT X a (tT G W c)) : PT X (.UnaryOp .Not a pos) (tT G W (cNot c)) := by
  refine wkT (pt_not ha) fun σ H Q ⟨ρ, B, φ, S, w, en, q⟩ => ?_
  exact tT.run w en (WP.fst q) fun t H1 B1 φ1 S1 x1 w1 en1 q1 => q1 H1 B1 φ1 Xt.refl w1
theorem dw_and1 (ha : PT X a (tT G W c)) : PW X (.BoolOp .And [a] pos) (tT G W c) := pw_and1 ha
theorem dw_or1 (ha : PT X a (tT G W c)) : PW X (.BoolOp .Or [a] pos) (tT G W c) := pw_or1 ha
theorem dw_and {rest : List Expr} (ha : PT X a (tT G W c)) (hb : PW X (.BoolOp .And (b :: rest) pos) (tT G W d)) : PW X (.BoolOp .And (a :: b :: rest) pos) (tT G W (cAnd c d)) := by
  refine wkW (pw_and ha hb) fun σ H Q ⟨ρ, B, φ, S, w, en, q⟩ => ?_
  refine tT.run w en (WP.fst q) fun t H1 B1 φ1 S1 x1 w1 en1 q1 => ?_
  cases t with
  | true => rw [if_pos rfl] at q1 ⊢; exact ⟨ρ, B1, φ1, S1, w1, en1, q1⟩
  | false => rw [if_neg Bool.false_ne_true] at q1 ⊢; exact q1 H1 B1 φ1 Xt.refl w1
theorem dw_or {rest : List Expr} (ha : PT X a (tT G W c)) (hb : PW X (.BoolOp .Or (b :: rest) pos) (tT G W d)) : PW X (.BoolOp .Or (a :: b :: rest) pos) (tT G W (cOr c d)) := by
  refine wkW (pw_or ha hb) fun σ H Q ⟨ρ, B, φ, S, w, en, q⟩ => ?_
  refine tT.run w en (WP.fst q) fun t H1 B1 φ1 S1 x1 w1 en1 q1 => ?_
  cases t with
  | true => rw [if_pos rfl] at q1 ⊢; exact q1 H1 B1 φ1 Xt.refl w1
  | false => rw [if_neg Bool.false_ne_true] at q1 ⊢; exact ⟨ρ, B1, φ1, S1, w1, en1, q1⟩
theorem de_if {cc : Expr} (hc : PT X cc (tT G W c)) (ha : PE X a (tD G W f)) (hb : PE X b (tD G W g)) : PE X (.IfExp cc a b pos) (tD G W (dIf c f g)) := by
  refine wkE (pe_ifExp hc ha hb) fun σ H Q ⟨ρ, B, φ, S, w, en, q⟩ => ?_
  refine tT.run w en (WP.fst q) fun t H1 B1 φ1 S1 x1 w1 en1 q1 => ?_
  cases t with
  | true => rw [if_pos rfl] at q1 ⊢; exact ⟨ρ, B1, φ1, S1, w1, en1, q1⟩
  | false => rw [if_neg Bool.false_ne_true] at q1 ⊢; exact ⟨ρ, B1, φ1, S1, w1, en1, q1⟩
theorem de_one {op} (h : PE X a (tD G W f)) : PE X (.BoolOp op [a] pos) (tD G W f) := pe_one h
theorem de_and {rest : List Expr} (ha : PE X a (tD G W f)) (hb : PE X (.BoolOp .And (b :: rest) pos) (tD G W g)) : PE X (.BoolOp .And (a :: b :: rest) pos) (tD G W (dAnd f g)) := by
  refine wkE (pe_and ha hb) fun σ H Q ⟨ρ, B, φ, S, w, en, q⟩ => ?_
  refine tD.run w en (WP.fst q) fun x v H1 B1 φ1 S1 x1 w1 en1 r1 q1 => ?_
  split at q1
  · rename_i t
    rw [rep_bl] at r1
    refine ⟨t, r1, ?_⟩
    cases t with
    | true => rw [if_pos rfl] at q1 ⊢; exact ⟨ρ, B1, φ1, S1, w1, en1, q1⟩
    | false => rw [if_neg Bool.false_ne_true] at q1 ⊢; exact q1 H1 B1 φ1 Xt.refl w1 _ (rep_bl.mpr rfl)
  · exact q1.elim
theorem de_or {rest : List Expr} (ha : PE X a (tD G W f)) (hb : PE X (.BoolOp .Or (b :: rest) pos) (tD G W g)) : PE X (.BoolOp .Or (a :: b :: rest) pos) (tD G W (dOr f g)) := by
  refine wkE (pe_or ha hb) fun σ H Q ⟨ρ, B, φ, S, w, en, q⟩ => ?_
  refine tD.run w en (WP.fst q) fun x v H1 B1 φ1 S1 x1 w1 en1 r1 q1 => ?_
  split at q1
  · rename_i t
    rw [rep_bl] at r1
    refine ⟨t, r1, ?_⟩
    cases t with
    | true => rw [if_pos rfl] at q1 ⊢; exact q1 H1 B1 φ1 Xt.refl w1 _ (rep_bl.mpr rfl)
    | false => rw [if_neg Bool.false_ne_true] at q1 ⊢; exact ⟨ρ, B1, φ1, S1, w1, en1, q1⟩
  · exact q1.elim
theorem de_not (ha : PE X a (tD G W f)) : PE X (.UnaryOp .Not a pos) (tD G W (dNot f)) := by
  refine wkE (pe_not ha) fun σ H Q ⟨ρ, B, φ, S, w, en, q⟩ => ?_
  refine tD.run w en (WP.fst q) fun x v H1 B1 φ1 S1 x1 w1 en1 r1 q1 => ?_
  split at q1
  · rename_i t
    rw [rep_bl] at r1
    exact ⟨t, r1, q1 H1 B1 φ1 Xt.refl w1 _ (rep_bl.mpr rfl)⟩
  · exact q1.elim
theorem de_chain {o o' : CmpOp} {r r' : R2} {op op' : Op2} {kk : Ef} {c3 : Expr} (hq : PE X (.Compare a [o, o'] [b, c3] pos) (tChain r r' (tD G W f) (tD G W g) (tD G W kk))) (h : Ok2 G W r op) (h' : Ok2 G W r' op') :
    PE X (.Compare a [o, o'] [b, c3] pos) (tD G W (dChain op op' f g kk)) := by
  refine wkE hq fun σ H Q ⟨ρ, B, φ, S, w, en, q⟩ => ?_
  refine tD.run w en (WP.fst q) fun x v H1 B1 φ1 S1 x1 w1 en1 r1 q1 => ?_
  refine tD.run w1 en1 (WP.fst q1) fun y u H2 B2 φ2 S2 x2 w2 en2 r2 q2 => ?_
  refine h H2 B2 φ2 S2 σ x y v u _ w2 (RepV.mono x2.b x2.p x r1) r2 ((WP.fst q2).mono fun z H3 B3 φ3 S3 x3 w3 q3 v3 r3 => ?_)
  split at q3
  · rename_i t
    rw [rep_bl] at r3
    refine ⟨t, r3, ?_⟩
    cases t with
    | true =>
      rw [if_pos rfl] at q3
      refine tD.run w3 (en2.mono x3.b x3.p) (WP.fst q3) fun u4 v4 H4 B4 φ4 S4 x4 w4 en4 r4 q4 => ?_
      exact h' H4 B4 φ4 S4 σ y u4 u v4 Q w4 (RepV.mono x4.b x4.p y (RepV.mono x3.b x3.p y r2)) r4 q4
    | false =>
      rw [if_neg Bool.false_ne_true] at q3
      exact q3 H3 B3 φ3 Xt.refl w3 _ (rep_bl.mpr rfl)
  · exact q3.elim
/-! arguments -/
variable {af : Af} {es : List Expr}
theorem da_nil : PA X [] (tA G W aNil) := wkA pa_nil fun σ H Q ⟨ρ, B, φ, S, w, en, q⟩ => q H B φ Xt.refl w [] rfl
theorem tA.run {σ : L2.St} {H : Hp} {Q : List V → Hp → Prop} {ρ : Nv} {B : Hp} {φ : List Addr} {S : Sto} {post : List Dv → Hp → Hp → List Addr → Sto → Prop} (w : Wd G H B φ S) (en : EnvR G B φ σ ρ) (h : WP G W σ H B φ (af ρ S) post)
    (k : ∀ ds vs H' B' φ' S', Xt H B φ H' B' φ' → Wd G H' B' φ' S' → EnvR G B' φ' σ ρ → RepVs G B' φ' ds vs → post ds H' B' φ' S' → Q vs H') : tA G W af σ H Q :=
  ⟨ρ, B, φ, S, w, en, h.mono fun ds H' B' φ' S' x w' q vs r => k ds vs H' B' φ' S' x w' (en.mono x.b x.p) r q⟩
theorem da_cons (ha : PE X e (tD G W f)) (hr : PA X es (tA G W af)) (hs : starEach (e :: es) X.env = (false, eval e X.env) :: starEach es X.env := by rfl) : PA X (e :: es) (tA G W (aCons f af)) := by
  refine wkA (pa_cons ha hr hs) fun σ H Q ⟨ρ, B, φ, S, w, en, q⟩ => ?_
  refine tD.run w en (WP.fst q) fun x v H1 B1 φ1 S1 x1 w1 en1 r1 q1 => ?_
  refine tA.run w1 en1 (WP.fst q1) fun ds vs H2 B2 φ2 S2 x2 w2 en2 r2 q2 => ?_
  exact q2 H2 B2 φ2 Xt.refl w2 _ ⟨v, vs, rfl, RepV.mono x2.b x2.p x r1, r2⟩
/-! displays -/
def allP : List Dv → Option (List D)
  | [] => some []
  | .p d :: r => (allP r).map (d :: ·)
  | .hnd _ :: _ => none
theorem allP_rep {B : Hp} {φ : List Addr} : ∀ {ds : List Dv} {vs : List V} {es : List D}, allP ds = some es → RepVs G B φ ds vs → Reps G B es vs
  | [], _, _, h, r => by
    simp [allP] at h; subst h; rw [show _ = [] from r]; exact Reps.nil
  | .p d :: r, _, _, h, ⟨x, t, e1, h1, h2⟩ => by
    simp only [allP, Option.map_eq_some_iff] at h
    obtain ⟨es, q1, rfl⟩ := h
    subst e1
    exact Reps.cons h1 (allP_rep q1 h2)
  | .hnd _ :: _, _, _, h, _ => by simp [allP] at h
def big : Nat := 16777216
def dTup (a : Af) : Ef := fun ρ S => (a ρ S).bind fun xs S1 => match allP xs with
  | some ds => if ds.length ≤ big then .ok (.p (.tup ds)) S1 else .bad
  | none => .bad
def dLst (a : Af) : Ef := fun ρ S => (a ρ S).bind fun xs S1 => match allP xs with
  | some ds => if ds.length ≤ big then .ok (.p (.lst ds)) S1 else .bad
  | none => .bad
theorem big_eq : big = sizeLine := by rw [sizeLine_eq]; rfl
theorem de_tup {x1} (h : PA X es (tA G W af)) : PE X (.Tuple es x1 pos) (tD G W (dTup af)) := by
  refine wkE (pe_tup h) fun σ H Q ⟨ρ, B, φ, S, w, en, q⟩ => ?_
  refine tA.run w en (WP.fst q) fun xs vs H1 B1 φ1 S1 x1 w1 en1 r1 q1 => ?_
  split at q1
  · rename_i ds hd
    have r2 := allP_rep hd r1
    split at q1
    · rename_i hl
      refine ⟨by rw [← r2.length, ← big_eq]; exact hl, fun p hp => q1 _ _ _ (Xt.alloc w1 hp) (w1.alloc hp) _ ?_⟩
      exact rep_tup.mpr ⟨p, vs, rfl, SqT.of upd_same, Reps.mono (same_upd' (w1.bfree hp)) _ r2⟩
    · exact q1.elim
  · exact q1.elim
theorem de_lst (h : PA X es (tA G W af)) : PE X (.List es pos) (tD G W (dLst af)) := by
  refine wkE (pe_lst h) fun σ H Q ⟨ρ, B, φ, S, w, en, q⟩ => ?_
  refine tA.run w en (WP.fst q) fun xs vs H1 B1 φ1 S1 x1 w1 en1 r1 q1 => ?_
  split at q1
  · rename_i ds hd
    have r2 := allP_rep hd r1
    split at q1
    · rename_i hl
      refine ⟨by rw [← r2.length, ← big_eq]; exact hl, fun p hp => q1 _ _ _ (Xt.alloc w1 hp) (w1.alloc hp) _ ?_⟩
      exact rep_lst.mpr ⟨p, vs, rfl, upd_same, Reps.mono (same_upd' (w1.bfree hp)) _ r2⟩
    · exact q1.elim
  · exact q1.elim
/-- a list that will be changed: a cell -/
def dLstC (a : Af) : Ef := fun ρ S => (a ρ S).bind fun xs S1 => match allP xs with
  | some ds => if ds.length ≤ big then .ok (.hnd S1.length) (S1 ++ [.lst ds]) else .bad
  | none => .bad
def dLstR (a : Af) : Ef := fun ρ S => (a ρ S).bind fun xs S1 => if xs.length ≤ big then .ok (.hnd S1.length) (S1 ++ [.rcd xs]) else .bad
theorem cell_new {H B : Hp} {φ : List Addr} {S : Sto} {p : Addr} {o : HO} {c : Cell} (w : Wd G H B φ S) (hp : H p = none) (hc : CellR G (upd H p o) B (φ ++ [p]) p c) (hs : c.second = none := by rfl) :
    Wd G (upd H p o) B (φ ++ [p]) (S ++ [c]) ∧ Xt H B φ (upd H p o) B (φ ++ [p]) ∧ RepV G B (φ ++ [p]) (.hnd S.length) (.ref p) := by
  have hf := w.fresh hp
  refine ⟨(w.hide hp).cellOf upd_same (w.bfree hp) hf hc hs, ⟨Same.refl _, List.prefix_append _ _, fun a u h1 h2 h3 => ?_⟩, ⟨p, ?_, rfl⟩⟩
  · have na : a ≠ p := ne_of_none h1 hp
    exact ⟨by rw [upd_ne na]; exact h1, h2, fun z => (List.mem_append.mp z).elim h3 fun z => na (by simpa using z)⟩
  · rw [← w.len, List.getElem?_append_right (Nat.le_refl _), Nat.sub_self]; rfl
theorem de_lstC (h : PA X es (tA G W af)) : PE X (.List es pos) (tD G W (dLstC af)) := by
  refine wkE (pe_lst h) fun σ H Q ⟨ρ, B, φ, S, w, en, q⟩ => ?_
  refine tA.run w en (WP.fst q) fun xs vs H1 B1 φ1 S1 x1 w1 en1 r1 q1 => ?_
  split at q1
  · rename_i ds hd
    have r2 := allP_rep hd r1
    split at q1
    · rename_i hl
      refine ⟨by rw [← r2.length, ← big_eq]; exact hl, fun p hp => ?_⟩
      obtain ⟨w2, x2, rr⟩ := cell_new (c := .lst ds) (o := .lst vs) w1 hp ⟨w1.bfree hp, vs, upd_same, r2⟩
      exact q1 _ _ _ x2 w2 _ rr
    · exact q1.elim
  · exact q1.elim
theorem de_lstR (h : PA X es (tA G W af)) : PE X (.List es pos) (tD G W (dLstR af)) := by
  refine wkE (pe_lst h) fun σ H Q ⟨ρ, B, φ, S, w, en, q⟩ => ?_
  refine tA.run w en (WP.fst q) fun xs vs H1 B1 φ1 S1 x1 w1 en1 r1 q1 => ?_
  split at q1
  · rename_i hl
    refine ⟨by rw [← r1.length, ← big_eq]; exact hl, fun p hp => ?_⟩
    obtain ⟨w2, x2, rr⟩ := cell_new (c := .rcd xs) (o := .lst vs) w1 hp ⟨w1.bfree hp, vs, upd_same, RepVs.mono (Same.refl _) (List.prefix_append _ _) _ r1⟩
    exact q1 _ _ _ x2 w2 _ rr
  · exact q1.elim
end
end DL

namespace DL
open PySem L2
open PySem.Spec PyProof.Rows
/-! ### operators on data -/
def vw (S : Sto) : Dv → Option (List D)
  | .p (.lst ds) => some ds
  | .hnd n => match S[n]? with
    | some (.lst ds) => some ds
    | _ => none
  | _ => none
section
variable {X : Cx} {G : Gx} {W : WX}
variable {H B : Hp} {φ : List Addr} {S : Sto} {x : Dv} {v : V}
theorem vw_at {ds : List D} (w : Wd G H B φ S) (r : RepV G B φ x v) (h : vw S x = some ds) : ∃ a xs, v = .ref a ∧ H a = some (.lst xs) ∧ Reps G B ds xs := by
  unfold vw at h
  split at h
  · cases h
    obtain ⟨a, xs, e, h1, h2⟩ := rep_lst.mp r
    exact ⟨a, xs, e, w.sub _ _ h1, h2⟩
  · rename_i n
    split at h
    · rename_i ds' hs
      cases h
      obtain ⟨a, h1, h2⟩ := r
      obtain ⟨_, xs, h3, h4⟩ := w.cell n a _ h1 hs
      exact ⟨a, xs, h2, h3, h4⟩
    · cases h
  · cases h
def oAdd : Op2 := fun x y S => match x, y with
  | .p (.int i), .p (.int j) => .ok (.p (.int (i + j))) S
  | .p (.str x), .p (.str y) => if x.length + y.length ≤ big then .ok (.p (.str (x ++ y))) S else .bad
  | .p (.tup a), .p (.tup b) => if a.isEmpty = false ∧ b.isEmpty = false ∧ a.length + b.length ≤ big then .ok (.p (.tup (a ++ b))) S else .bad
  | x, y => match vw S x, vw S y with
    | some a, some b => if a.length + b.length ≤ big then .ok (.p (.lst (a ++ b))) S else .bad
    | _, _ => .bad
abbrev rStr : R2 := fun x y H Q => ∃ i j, x = .str i ∧ y = .str j ∧ i.length + j.length ≤ sizeLine ∧ Q (.str (i ++ j)) H
abbrev rAddD (K : PySem.W.Frag) : R2 := fun x y H Q => rI0 (fun i j => .int (i + j)) x y H Q ∨ rStr x y H Q ∨ rCat x y H Q ∨ rCatT K x y H Q
theorem oAdd_op : OpR X (binaryOp .Add) (rAddD X.K) := op_add.or (op_add_str.or (op_cat.or op_catT))
theorem oAdd_ok : Ok2 G W (rAddD G.K) oAdd := by
  intro H B φ S σ x y v u Q w r1 r2 h
  unfold oAdd at h
  split at h
  · rw [rep_int] at r1 r2
    exact .inl ⟨_, _, r1, r2, h H B φ Xt.refl w _ (rep_int.mpr rfl)⟩
  · rw [rep_str] at r1 r2
    split at h
    · rename_i hl
      exact .inr (.inl ⟨_, _, r1, r2, by rw [← big_eq]; exact hl, h H B φ Xt.refl w _ (rep_str.mpr rfl)⟩)
    · exact h.elim
  · split at h
    · rename_i a b hl
      obtain ⟨p, xs, rfl, s1, q1⟩ := rep_tup.mp r1
      obtain ⟨p', ys, rfl, s2, q2⟩ := rep_tup.mp r2
      have ne : ∀ {l : List D} {z : List V}, Reps G B l z → l.isEmpty = false → z ≠ [] := fun {l z} q e z0 => by
        have := q.length
        rw [z0] at this
        cases l with
        | nil => simp at e
        | cons _ _ => simp at this
      refine .inr (.inr (.inr ⟨p, p', xs, ys, rfl, rfl, sqT_mono w.sub s1, sqT_mono w.sub s2, ne q1 hl.1, by rw [← big_eq, ← q1.length, ← q2.length]; exact hl.2.2, fun z => absurd z (ne q2 hl.2.1), fun _ t ht => ?_⟩))
      exact h _ _ _ (Xt.alloc w ht) (w.alloc ht) _ (rep_tup.mpr ⟨t, _, rfl, SqT.of upd_same, Reps.mono (same_upd' (w.bfree ht)) _ (q1.append q2)⟩)
    · exact h.elim
  · split at h
    · rename_i a b e1 e2
      split at h
      · rename_i hl
        obtain ⟨p, xs, rfl, s1, q1⟩ := vw_at w r1 e1
        obtain ⟨p', ys, rfl, s2, q2⟩ := vw_at w r2 e2
        refine .inr (.inr (.inl ⟨p, p', xs, ys, rfl, rfl, s1, s2, by rw [← big_eq, ← q1.length, ← q2.length]; exact hl, fun t ht => ?_⟩))
        exact h _ _ _ (Xt.alloc w ht) (w.alloc ht) _ (rep_lst.mpr ⟨t, _, rfl, upd_same, Reps.mono (same_upd' (w.bfree ht)) _ (q1.append q2)⟩)
      · exact h.elim
    · exact h.elim
/-- an operator of two ints -/
def oInt (C : Int → Int → Bool) (g : Int → Int → D) : Op2 := fun x y S => match x, y with
  | .p (.int i), .p (.int j) => if C i j = true then .ok (.p (g i j)) S else .bad
  | _, _ => .bad
theorem oInt_ok {C : Int → Int → Bool} {g : Int → Int → D} {C' : Int → Int → Prop} {g' : Int → Int → V} (hC : ∀ i j, C i j = true → C' i j) (hg : ∀ B i j, Rep G B (g i j) (g' i j)) : Ok2 G W (rI C' g') (oInt C g) := by
  intro H B φ S σ x y v u Q w r1 r2 h
  unfold oInt at h
  split at h
  · rw [rep_int] at r1 r2
    split at h
    · rename_i hc
      exact ⟨_, _, r1, r2, hC _ _ hc, h H B φ Xt.refl w _ (hg B _ _)⟩
    · exact h.elim
  · exact h.elim
theorem oInt0_ok {g : Int → Int → D} {g' : Int → Int → V} (hg : ∀ B i j, Rep G B (g i j) (g' i j)) : Ok2 G W (rI0 g') (oInt (fun _ _ => true) g) := by
  intro H B φ S σ x y v u Q w r1 r2 h
  unfold oInt at h
  split at h
  · rw [rep_int] at r1 r2
    rw [if_pos rfl] at h
    exact ⟨_, _, r1, r2, h H B φ Xt.refl w _ (hg B _ _)⟩
  · exact h.elim
theorem rpi {B : Hp} (i : Int) : Rep G B (.int i) (.int i) := by unfold Rep; rfl
theorem rpb {B : Hp} (b : Bool) : Rep G B (.bl b) (.bl b) := by unfold Rep; rfl
abbrev oSub : Op2 := oInt (fun _ _ => true) fun i j => .int (i - j)
abbrev oLt : Op2 := oInt (fun _ _ => true) fun i j => .bl (decide (i < j))
abbrev oLe : Op2 := oInt (fun _ _ => true) fun i j => .bl (decide (i ≤ j))
abbrev oGt : Op2 := oInt (fun _ _ => true) fun i j => .bl (decide (j < i))
abbrev oGe : Op2 := oInt (fun _ _ => true) fun i j => .bl (decide (j ≤ i))
theorem oSub_ok : Ok2 G W (rI0 fun i j => .int (i - j)) oSub := oInt0_ok fun _ _ _ => rpi _
theorem oLt_ok : Ok2 G W (rI0 fun i j => .bl (decide (i < j))) oLt := oInt0_ok fun _ _ _ => rpb _
theorem oLe_ok : Ok2 G W (rI0 fun i j => .bl (decide (i ≤ j))) oLe := oInt0_ok fun _ _ _ => rpb _
theorem oGt_ok : Ok2 G W (rI0 fun i j => .bl (decide (j < i))) oGt := oInt0_ok fun _ _ _ => rpb _
theorem oGe_ok : Ok2 G W (rI0 fun i j => .bl (decide (j ≤ i))) oGe := oInt0_ok fun _ _ _ => rpb _
def wid : Nat := 2 ^ 250
/-- // by a positive number -/
abbrev oDiv : Op2 := oInt (fun i j => decide (0 < j) && decide (j.natAbs < wid)) fun i j => .int (i / j)
abbrev oMod : Op2 := oInt (fun i j => decide (0 < j)) fun i j => .int (i % j)
abbrev oPow : Op2 := oInt (fun i j => decide (0 ≤ j) && decide (j ≤ 1000000) && decide (i.natAbs < 18446744073709551616)) fun i j => .int (i ^ j.toNat)
theorem oDiv_ok : Ok2 G W (rI CDivW fun i j => .int (i / j)) oDiv := oInt_ok (fun i j h => by
  rw [Bool.and_eq_true, decide_eq_true_eq, decide_eq_true_eq] at h
  exact wide_div (b := 250) h.1 h.2 (by decide) (by decide)) fun _ _ _ => rpi _
theorem oMod_ok : Ok2 G W (rI (fun _ j => 0 < j) fun i j => .int (i % j)) oMod := oInt_ok (fun i j h => of_decide_eq_true h) fun _ _ _ => rpi _
theorem oPow_ok : Ok2 G W (rI CPow fun i j => .int (i ^ j.toNat)) oPow := oInt_ok (fun i j h => by
  rw [Bool.and_eq_true, Bool.and_eq_true, decide_eq_true_eq, decide_eq_true_eq, decide_eq_true_eq] at h
  exact ⟨h.1.1, h.1.2, h.2⟩) fun _ _ _ => rpi _
def mulOk (i j : Int) : Bool := decide (i.natAbs < 18446744073709551616) || decide (j.natAbs < 18446744073709551616) || (decide (i.natAbs < wid) && decide (j.natAbs < wid))
def oMul : Op2 := fun x y S => match x, y with
  | .p (.int i), .p (.int j) => if mulOk i j = true then .ok (.p (.int (i * j))) S else .bad
  | x, .p (.int k) => match vw S x with
    | some ds => if -9223372036854775808 ≤ k ∧ k < 9223372036854775808 ∧ ds.length * k.toNat ≤ big then .ok (.p (.lst (List.replicate k.toNat ds).flatten)) S else .bad
    | none => .bad
  | _, _ => .bad
/-- .. a list that will be changed -/
def oMulC : Op2 := fun x y S => match x, y with
  | x, .p (.int k) => match vw S x with
    | some ds => if -9223372036854775808 ≤ k ∧ k < 9223372036854775808 ∧ ds.length * k.toNat ≤ big then .ok (.hnd S.length) (S ++ [.lst (List.replicate k.toNat ds).flatten]) else .bad
    | none => .bad
  | _, _ => .bad
abbrev rMulD : R2 := fun x y H Q => rI CMul (fun i j => .int (i * j)) x y H Q ∨ rI CMulW (fun i j => .int (i * j)) x y H Q ∨ rRep x y H Q
theorem oMul_op : OpR X (binaryOp .Mult) rMulD := op_mul.or (op_mulW.or op_rep)
theorem abs64 {i : Int} (h : i.natAbs < 18446744073709551616) : -(2 ^ 64) < i ∧ i < 2 ^ 64 := by omega
theorem oMul_ok : Ok2 G W rMulD oMul := by
  intro H B φ S σ x y v u Q w r1 r2 h
  unfold oMul at h
  split at h
  · rw [rep_int] at r1 r2
    split at h
    · rename_i i j hc
      have q := h H B φ Xt.refl w _ (rep_int.mpr rfl)
      unfold mulOk at hc
      rw [Bool.or_eq_true, Bool.or_eq_true, Bool.and_eq_true, decide_eq_true_eq, decide_eq_true_eq, decide_eq_true_eq, decide_eq_true_eq] at hc
      rcases hc with (hc | hc) | ⟨h1, h2⟩
      · exact .inl ⟨_, _, r1, r2, .inl (abs64 hc), q⟩
      · exact .inl ⟨_, _, r1, r2, .inr (abs64 hc), q⟩
      · exact .inr (.inl ⟨_, _, r1, r2, wide_mul (a := 250) (b := 250) h1 h2 (by decide) (by decide) (by decide), q⟩)
    · exact h.elim
  · split at h
    · rename_i k _ ds hd
      split at h
      · rename_i hl
        obtain ⟨p, xs, rfl, s1, q1⟩ := vw_at w r1 hd
        rw [rep_int] at r2
        refine .inr (.inr ⟨p, _, xs, rfl, r2, s1, hl.1, hl.2.1, by rw [← big_eq, ← q1.length]; exact hl.2.2, fun t ht => ?_⟩)
        exact h _ _ _ (Xt.alloc w ht) (w.alloc ht) _ (rep_lst.mpr ⟨t, _, rfl, upd_same, Reps.mono (same_upd' (w.bfree ht)) _ (q1.rep _)⟩)
      · exact h.elim
    · exact h.elim
  · exact h.elim
theorem oMulC_ok : Ok2 G W rMulD oMulC := by
  intro H B φ S σ x y v u Q w r1 r2 h
  unfold oMulC at h
  split at h
  · split at h
    · rename_i _ k _ ds hd
      split at h
      · rename_i hl
        obtain ⟨p, xs, rfl, s1, q1⟩ := vw_at w r1 hd
        rw [rep_int] at r2
        refine .inr (.inr ⟨p, _, xs, rfl, r2, s1, hl.1, hl.2.1, by rw [← big_eq, ← q1.length]; exact hl.2.2, fun t ht => ?_⟩)
        obtain ⟨w2, x2, rr⟩ := cell_new (c := .lst (List.replicate k.toNat ds).flatten) (o := .lst (List.replicate k.toNat xs).flatten) w ht ⟨w.bfree ht, _, upd_same, q1.rep _⟩
        exact h _ _ _ x2 w2 _ rr
      · exact h.elim
    · exact h.elim
  · exact h.elim
def uNeg : Op1 := fun x S => match x with
  | .p (.int i) => .ok (.p (.int (-i))) S
  | _ => .bad
theorem uNeg_ok : Ok1 G W (rU fun i => .int (-i)) uNeg := by
  intro H B φ S σ x v Q w r1 h
  unfold uNeg at h
  split at h
  · rw [rep_int] at r1
    exact ⟨_, r1, h H B φ Xt.refl w _ (rep_int.mpr rfl)⟩
  · exact h.elim
/-! == -/
mutual
def toPy : D → Option PyData
  | .non => some .none
  | .bl b => some (.bool b)
  | .int i => some (.int i)
  | .str x => some (.str x)
  | .tup ds => match toPys ds with
    | some es => some (.tuple es)
    | none => none
  | .lst ds => match toPys ds with
    | some es => some (.list es)
    | none => none
  | .rul _ => none
  | .scr _ => none
  | .dct _ => none
  | .dki _ => none
  | .dsi _ => none
  | .dpk _ => none
def toPys : List D → Option (List PyData)
  | [] => some []
  | d :: ds => match toPy d, toPys ds with
    | some e, some es => some (e :: es)
    | _, _ => none
end
mutual
theorem toPy_dp {G : Gx} {H B : Hp} (w : Same B H) : ∀ (d : D) {v : V} {e : PyData}, Rep G B d v → toPy d = some e → Dp G.K H v e
  | .non, _, _, r, h => by simp [toPy] at h; subst h; unfold Rep at r; subst r; exact .non
  | .bl b, _, _, r, h => by simp [toPy] at h; subst h; unfold Rep at r; subst r; exact .bl b
  | .int b, _, _, r, h => by simp [toPy] at h; subst h; unfold Rep at r; subst r; exact .int b
  | .str b, _, _, r, h => by simp [toPy] at h; subst h; unfold Rep at r; subst r; exact .str b
  | .tup ds, _, _, r, h => by
    unfold toPy at h
    split at h
    · rename_i es he
      cases h
      unfold Rep at r
      obtain ⟨a, xs, rfl, h1, h2⟩ := r
      exact .tup (sqT_mono w h1) (toPys_dp w ds h2 he)
    · cases h
  | .lst ds, _, _, r, h => by
    unfold toPy at h
    split at h
    · rename_i es he
      cases h
      unfold Rep at r
      obtain ⟨a, xs, rfl, h1, h2⟩ := r
      exact .lst (SqL.of (w _ _ h1)) (toPys_dp w ds h2 he)
    · cases h
  | .rul _, _, _, _, h => by simp [toPy] at h
  | .scr _, _, _, _, h => by simp [toPy] at h
  | .dct _, _, _, _, h => by simp [toPy] at h
  | .dki _, _, _, _, h => by simp [toPy] at h
  | .dsi _, _, _, _, h => by simp [toPy] at h
  | .dpk _, _, _, _, h => by simp [toPy] at h
theorem toPys_dp {G : Gx} {H B : Hp} (w : Same B H) : ∀ (ds : List D) {vs : List V} {es : List PyData}, Reps G B ds vs → toPys ds = some es → DpAll G.K H vs es
  | [], _, _, r, h => by simp [toPys] at h; subst h; unfold Reps at r; subst r; exact .nil
  | d :: ds, _, _, r, h => by
    unfold toPys at h
    split at h
    · rename_i e es he hes
      cases h
      unfold Reps at r
      obtain ⟨x, t, rfl, h1, h2⟩ := r
      exact .cons (toPy_dp w d h1 he) (toPys_dp w ds h2 hes)
    · cases h
end
def vPy (S : Sto) (x : Dv) : Option PyData := match x with
  | .p d => toPy d
  | .hnd n => match S[n]? with
    | some (.lst ds) => toPy (.lst ds)
    | _ => none
theorem vPy_dp {e : PyData} (w : Wd G H B φ S) (r : RepV G B φ x v) (h : vPy S x = some e) : Dp G.K H v e := by
  unfold vPy at h
  split at h
  · exact toPy_dp w.sub _ r h
  · rename_i n
    split at h
    · rename_i ds hs
      obtain ⟨a, h1, rfl⟩ := r
      obtain ⟨_, xs, h3, h4⟩ := w.cell n a _ h1 hs
      unfold toPy at h
      split at h
      · rename_i es he
        cases h
        exact .lst (SqL.of h3) (toPys_dp w.sub ds h4 he)
      · cases h
    · cases h
def oEq : Op2 := fun x y S => match vPy S x, vPy S y with
  | some a, some b => if SeqAt.shaped a = true ∧ SeqAt.shaped b = true then .ok (.p (.bl (PyData.eqv a b))) S else .bad
  | _, _ => .bad
def oNe : Op2 := fun x y S => match vPy S x, vPy S y with
  | some a, some b => if SeqAt.shaped a = true ∧ SeqAt.shaped b = true then .ok (.p (.bl (!PyData.eqv a b))) S else .bad
  | _, _ => .bad
theorem oEq_ok : Ok2 G W (rEqD G.K) oEq := by
  intro H B φ S σ x y v u Q w r1 r2 h
  unfold oEq at h
  split at h
  · rename_i a b ha hb
    split at h
    · rename_i hs
      exact ⟨a, b, vPy_dp w r1 ha, vPy_dp w r2 hb, hs.1, hs.2, h H B φ Xt.refl w _ (rep_bl.mpr rfl)⟩
    · exact h.elim
  · exact h.elim
theorem oNe_ok : Ok2 G W (rNeD G.K) oNe := by
  intro H B φ S σ x y v u Q w r1 r2 h
  unfold oNe at h
  split at h
  · rename_i a b ha hb
    split at h
    · rename_i hs
      exact ⟨a, b, vPy_dp w r1 ha, vPy_dp w r2 hb, hs.1, hs.2, h H B φ Xt.refl w _ (rep_bl.mpr rfl)⟩
    · exact h.elim
  · exact h.elim
/-! in, not in: flat items -/
def flD : D → Option V
  | .non => some .non
  | .bl b => some (.bl b)
  | .int i => some (.int i)
  | .str x => some (.str x)
  | _ => none
def flDs : List D → Option (List V)
  | [] => some []
  | d :: ds => match flD d, flDs ds with
    | some v, some vs => some (v :: vs)
    | _, _ => none
theorem flD_at {d : D} {v u : V} (r : Rep G B d v) (h : flD d = some u) : v = u ∧ flatV u = true := by
  cases d <;> simp [flD] at h <;> subst h <;> unfold Rep at r <;> exact ⟨r, rfl⟩
theorem flDs_at : ∀ {ds : List D} {vs us : List V}, Reps G B ds vs → flDs ds = some us → vs = us ∧ us.all flatV = true
  | [], _, _, r, h => by simp [flDs] at h; subst h; unfold Reps at r; subst r; exact ⟨rfl, rfl⟩
  | d :: ds, _, _, r, h => by
    unfold flDs at h
    split at h
    · rename_i a as ha has
      cases h
      unfold Reps at r
      obtain ⟨x, t, rfl, h1, h2⟩ := r
      obtain ⟨e1, f1⟩ := flD_at h1 ha
      obtain ⟨e2, f2⟩ := flDs_at h2 has
      subst e1 e2
      exact ⟨rfl, by rw [List.all_cons, f1, f2]; rfl⟩
    · cases h
def sqOf (S : Sto) : Dv → Option (List D)
  | .p (.tup ds) => some ds
  | x => vw S x
theorem sq_at {ds : List D} (w : Wd G H B φ S) (r : RepV G B φ x v) (h : sqOf S x = some ds) : ∃ a xs, v = .ref a ∧ (SqL G.K H a xs ∨ SqT G.K H a xs) ∧ Reps G B ds xs := by
  unfold sqOf at h
  split at h
  · cases h
    obtain ⟨a, xs, e, h1, h2⟩ := rep_tup.mp r
    exact ⟨a, xs, e, .inr (sqT_mono w.sub h1), h2⟩
  · obtain ⟨a, xs, e, h1, h2⟩ := vw_at w r h
    exact ⟨a, xs, e, .inl (SqL.of h1), h2⟩
def pOf : Dv → Option D
  | .p d => some d
  | .hnd _ => none
def oInS (neg : Bool) : Op2 := fun x y S => match x, sqOf S y with
  | .p d, some ds => match flD d, flDs ds with
    | some v, some vs => .ok (.p (.bl (if neg = true then !inV v vs else inV v vs))) S
    | _, _ => .bad
  | _, _ => .bad
theorem oInS_ok (neg : Bool) : Ok2 G W (rIn G.K neg) (oInS neg) := by
  intro H B φ S σ x y v u Q w r1 r2 h
  unfold oInS at h
  split at h
  · rename_i d ds hs
    split at h
    · rename_i a as ha has
      obtain ⟨p, xs, rfl, s1, q1⟩ := sq_at w r2 hs
      obtain ⟨e1, f1⟩ := flD_at r1 ha
      obtain ⟨e2, f2⟩ := flDs_at q1 has
      subst e1 e2
      exact ⟨p, _, rfl, s1, f1, f2, h H B φ Xt.refl w _ (rep_bl.mpr rfl)⟩
    · exact h.elim
  · exact h.elim
/-! is None -/
def isN : Dv → Bool
  | .p .non => true
  | _ => false
def oIsN : Op2 := fun x y S => match y with
  | .p .non => .ok (.p (.bl (isN x))) S
  | _ => .bad
def oNotN : Op2 := fun x y S => match y with
  | .p .non => .ok (.p (.bl (!isN x))) S
  | _ => .bad
theorem isN_at (r : RepV G B φ x v) : decide (v = .non) = isN x := by
  cases x with
  | hnd n => obtain ⟨a, _, rfl⟩ := r; rfl
  | p d =>
    cases d with
    | non => rw [rep_non] at r; subst r; rfl
    | bl b => rw [rep_bl] at r; subst r; rfl
    | int b => rw [rep_int] at r; subst r; rfl
    | str b => rw [rep_str] at r; subst r; rfl
    | tup ds => obtain ⟨a, xs, rfl, _⟩ := rep_tup.mp r; rfl
    | lst ds => obtain ⟨a, xs, rfl, _⟩ := rep_lst.mp r; rfl
    | rul ds => obtain ⟨a, xs, _, _, rfl, _⟩ := rep_rul.mp r; rfl
    | scr ds => obtain ⟨a, rfl, _⟩ := rep_scr.mp r; rfl
    | dct ds =>
      have r : Rep G B (.dct ds) v := r
      unfold Rep at r
      obtain ⟨a, rfl, _⟩ := r; rfl
    | dki ds =>
      have r : Rep G B (.dki ds) v := r
      unfold Rep at r
      obtain ⟨a, rfl, _⟩ := r; rfl
    | dsi ds =>
      have r : Rep G B (.dsi ds) v := r
      unfold Rep at r
      obtain ⟨a, rfl, _⟩ := r; rfl
    | dpk ds =>
      have r : Rep G B (.dpk ds) v := r
      unfold Rep at r
      obtain ⟨a, xs, rfl, _⟩ := r; rfl
theorem oIsN_ok : Ok2 G W (fun x y H Q => y = .non ∧ Q (.bl (decide (x = .non))) H) oIsN := by
  intro H B φ S σ x y v u Q w r1 r2 h
  unfold oIsN at h
  split at h
  · rw [rep_non] at r2
    exact ⟨r2, by rw [isN_at r1]; exact h H B φ Xt.refl w _ (rep_bl.mpr rfl)⟩
  · exact h.elim
theorem oNotN_ok : Ok2 G W (fun x y H Q => y = .non ∧ Q (.bl (!decide (x = .non))) H) oNotN := by
  intro H B φ S σ x y v u Q w r1 r2 h
  unfold oNotN at h
  split at h
  · rw [rep_non] at r2
    exact ⟨r2, by rw [isN_at r1]; exact h H B φ Xt.refl w _ (rep_bl.mpr rfl)⟩
  · exact h.elim
/-! items -/
theorem atI_rep {ds : List D} {vs : List V} {i : Int} {d : D} (r : Reps G B ds vs) (h : atI ds i = some d) : ∃ v, atI vs i = some v ∧ Rep G B d v := by
  unfold atI at h ⊢
  rw [← r.length]
  cases q : ixN ds.length i with
  | none => rw [q] at h; cases h
  | some j => rw [q] at h; exact r.get h
theorem atI_repV {ds : List Dv} {vs : List V} {i : Int} {d : Dv} (r : RepVs G B φ ds vs) (h : atI ds i = some d) : ∃ v, atI vs i = some v ∧ RepV G B φ d v := by
  unfold atI at h ⊢
  rw [← r.length]
  cases q : ixN ds.length i with
  | none => rw [q] at h; cases h
  | some j => rw [q] at h; exact r.get h
def oIx : Op2 := fun x y S => match y with
  | .p (.int i) => match sqOf S x with
    | some ds => match atI ds i with
      | some d => .ok (.p d) S
      | none => .bad
    | none => match x with
      | .hnd n => match S[n]? with
        | some (.rcd ds) => match atI ds i with
          | some d => .ok d S
          | none => .bad
        | _ => .bad
      | _ => .bad
  | _ => .bad
theorem oIx_op : IxR X (fun x y H Q => rIxL X.K x y H Q ∨ rIxT X.K x y H Q) := ix_list.or ix_tup
theorem oIx_ok : Ok2 G W (fun x y H Q => rIxL G.K x y H Q ∨ rIxT G.K x y H Q) oIx := by
  intro H B φ S σ x y v u Q w r1 r2 h
  unfold oIx at h
  split at h
  · rename_i i
    rw [rep_int] at r2
    subst r2
    split at h
    · rename_i ds hs
      split at h
      · rename_i d hd
        obtain ⟨p, xs, rfl, s1, q1⟩ := sq_at w r1 hs
        obtain ⟨z, hz, rz⟩ := atI_rep q1 hd
        rcases s1 with s1 | s1
        · exact .inl ⟨p, xs, i, z, rfl, rfl, s1, hz, h H B φ Xt.refl w _ rz⟩
        · exact .inr ⟨p, xs, i, z, rfl, rfl, s1, hz, h H B φ Xt.refl w _ rz⟩
      · exact h.elim
    · split at h
      · rename_i n
        split at h
        · rename_i ds hs
          split at h
          · rename_i d hd
            obtain ⟨a, h1, rfl⟩ := r1
            obtain ⟨_, xs, h3, h4⟩ := w.cell _ a _ h1 hs
            obtain ⟨z, hz, rz⟩ := atI_repV h4 hd
            exact .inl ⟨a, xs, i, z, rfl, rfl, SqL.of h3, hz, h H B φ Xt.refl w _ rz⟩
          · exact h.elim
        · exact h.elim
      · exact h.elim
  · exact h.elim
end
end DL

namespace DL
open PySem L2
open PySem.Spec PyProof.Rows
/-! ### statements -/
inductive Fl where
  | nx (ρ : Nv) | rt (d : Dv) | bk (ρ : Nv) | ct (ρ : Nv)
inductive OS where
  | ok (fl : Fl) (S : Sto) | exc (x : Ex) (ρ : Nv) (S : Sto) | bad
abbrev Sf := Nv → Sto → OS
def Out.toS {α : Type} (o : Out α) (ρ : Nv) (k : α → Sto → OS) : OS := match o with
  | .ok a S => k a S
  | .exc x S => .exc x ρ S
  | .bad => .bad
def FlR (G : Gx) (D : Ends) (H B : Hp) (φ : List Addr) : Fl → Prop
  | .nx ρ => ∀ σ, EnvR G B φ σ ρ → D.nx σ H
  | .rt d => ∀ v, RepV G B φ d v → D.rt v H
  | .bk ρ => ∀ σ, EnvR G B φ σ ρ → D.bk σ H
  | .ct ρ => ∀ σ, EnvR G B φ σ ρ → D.ct σ H
def WPS (G : Gx) (W : WX) (D : Ends) (H B : Hp) (φ : List Addr) (o : OS) : Prop := match o with
  | .ok fl S => ∀ H' B' φ', Xt H B φ H' B' φ' → Wd G H' B' φ' S → FlR G D H' B' φ' fl
  | .exc x ρ S => ∀ H' B' φ' c dd σ, Xt H B φ H' B' φ' → Wd G H' B' φ' S → XRep G B' x c dd → EnvR G B' φ' σ ρ → W c dd σ H'
  | .bad => False
def tS (G : Gx) (W : WX) (f : Sf) : TS := fun D σ H => ∃ ρ B φ S, Wd G H B φ S ∧ EnvR G B φ σ ρ ∧ WPS G W D H B φ (f ρ S)
section
variable {X : Cx} {G : Gx} {W : WX} {Z : Ends} {H B H1 B1 : Hp} {φ φ1 : List Addr} {S : Sto} {σ : L2.St} {ρ : Nv}
theorem WPS.rebase {o : OS} (x : Xt H B φ H1 B1 φ1) (h : WPS G W Z H B φ o) : WPS G W Z H1 B1 φ1 o := by
  cases o with
  | ok fl S => exact fun H' B' φ' y w => h H' B' φ' (x.trans y) w
  | exc e ρ S => exact fun H' B' φ' c dd σ y w r => h H' B' φ' c dd σ (x.trans y) w r
  | bad => exact h
theorem WPS.fst {α : Type} {o : Out α} {k : α → Sto → OS} (en : EnvR G B φ σ ρ) (h : WPS G W Z H B φ (o.toS ρ k)) :
    WP G W σ H B φ o fun a H' B' φ' S' => WPS G W Z H' B' φ' (k a S') := by
  cases o with
  | ok a S => exact fun H' B' φ' x w => WPS.rebase x h
  | exc x S => exact fun H' B' φ' c dd y w r => h H' B' φ' c dd σ y w r (en.mono y.b y.p)
  | bad => exact h
theorem WPS.here {fl : Fl} (w : Wd G H B φ S) (h : WPS G W Z H B φ (.ok fl S)) : FlR G Z H B φ fl := h H B φ Xt.refl w
theorem wkS {st : Stmt} {t t' : TS} (h : PS X st t) (k : ∀ D σ H, t' D σ H → t D σ H) : PS X st t' :=
  ⟨fun pins s σ H D I q => h.run pins s σ H D I (k D σ H q)⟩
theorem wkSs {st : List Stmt} {t t' : TS} (h : PSs X st t) (k : ∀ D σ H, t' D σ H → t D σ H) : PSs X st t' :=
  ⟨fun pins s σ H D I q => h.run pins s σ H D I (k D σ H q)⟩
theorem wkG {e : Expr} {t t' : TG} (h : PG X e t) (k : ∀ v σ H Q, t' v σ H Q → t v σ H Q) : PG X e t' :=
  ⟨fun pins s σ H v u Q I r q => h.run pins s σ H v u Q I r (k v σ H Q q)⟩
theorem wkGs {e : List Expr} {t t' : TGs} (h : PGs X e t) (k : ∀ v σ H Q, t' v σ H Q → t v σ H Q) : PGs X e t' :=
  ⟨fun pins s σ H v u Q I r q => h.run pins s σ H v u Q I r (k v σ H Q q)⟩
theorem wkI {tg e : Expr} {t t' : TI} (h : PI X tg e t) (k : ∀ σ H R, t' σ H R → t σ H R) : PI X tg e t' :=
  ⟨fun pins s σ H R I q => h.run pins s σ H R I (k σ H R q)⟩
def sNil : Sf := fun ρ S => .ok (.nx ρ) S
def sSeq (f g : Sf) : Sf := fun ρ S => match f ρ S with
  | .ok (.nx ρ') S' => g ρ' S'
  | .ok (.rt d) S' => .ok (.rt d) S'
  | .ok (.bk d) S' => .ok (.bk d) S'
  | .ok (.ct d) S' => .ok (.ct d) S'
  | .exc x ρ' S' => .exc x ρ' S'
  | .bad => .bad
def sExpr (f : Ef) : Sf := fun ρ S => (f ρ S).toS ρ fun _ S' => .ok (.nx ρ) S'
def sRet (f : Ef) : Sf := fun ρ S => (f ρ S).toS ρ fun d S' => .ok (.rt d) S'
def sRetN : Sf := fun _ S => .ok (.rt (.p .non)) S
def sIf (c : Tf) (f g : Sf) : Sf := fun ρ S => (c ρ S).toS ρ fun b S' => if b = true then f ρ S' else g ρ S'
variable {f g : Sf} {st : Stmt} {rest : List Stmt} {e : Expr} {ef : Ef} {c : Tf} {pos : Pos}
theorem ds_nil : PSs X [] (tS G W sNil) := wkSs pss_nil fun D σ H ⟨ρ, B, φ, S, w, en, h⟩ => h.here w σ en
theorem ds_cons (h1 : PS X st (tS G W f)) (h2 : PSs X rest (tS G W g)) : PSs X (st :: rest) (tS G W (sSeq f g)) := by
  refine wkSs (pss_cons h1 h2) fun D σ H ⟨ρ, B, φ, S, w, en, h⟩ => ⟨ρ, B, φ, S, w, en, ?_⟩
  unfold sSeq at h
  cases q : f ρ S with
  | bad => rw [q] at h; exact h
  | exc x ρ' S' => rw [q] at h; exact h
  | ok fl S' =>
    rw [q] at h
    cases fl with
    | nx ρ' => exact fun H' B' φ' x w' σ' en' => ⟨ρ', B', φ', S', w', en', WPS.rebase x h⟩
    | rt d => exact h
    | bk d => exact h
    | ct d => exact h
theorem ds_one (h1 : PS X st (tS G W f)) : PSs X [st] (tS G W f) := pss_one h1
theorem dp_pass : PS X (.Pass pos) (tS G W sNil) := wkS ps_pass fun D σ H ⟨ρ, B, φ, S, w, en, h⟩ => h.here w σ en
theorem dp_expr (he : PE X e (tD G W ef)) (hs : swapsWith e none pos.line X.env = pure false := by rfl) : PS X (.Expr e pos) (tS G W (sExpr ef)) :=
  wkS (ps_expr he hs) fun D σ H ⟨ρ, B, φ, S, w, en, h⟩ => tD.run w en (WPS.fst en h) fun d v H1 B1 φ1 S1 x1 w1 en1 r1 q1 => WPS.here w1 q1 σ en1
theorem dp_ret (he : PE X e (tD G W ef)) : PS X (.Return (some e) pos) (tS G W (sRet ef)) :=
  wkS (ps_ret he) fun D σ H ⟨ρ, B, φ, S, w, en, h⟩ => tD.run w en (WPS.fst en h) fun d v H1 B1 φ1 S1 x1 w1 en1 r1 q1 => WPS.here w1 q1 v r1
theorem dp_retN : PS X (.Return none pos) (tS G W sRetN) := wkS ps_retN fun D σ H ⟨ρ, B, φ, S, w, en, h⟩ => h.here w _ (rep_non.mpr rfl)
theorem dp_if {cc : Expr} {a b : List Stmt} (hc : PT X cc (tT G W c)) (ha : PSs X a (tS G W f)) (hb : PSs X b (tS G W g)) : PS X (.If cc a b pos) (tS G W (sIf c f g)) := by
  refine wkS (ps_if hc ha hb) fun D σ H ⟨ρ, B, φ, S, w, en, h⟩ => tT.run w en (WPS.fst en h) fun t H1 B1 φ1 S1 x1 w1 en1 q1 => ?_
  cases t with
  | true => rw [if_pos rfl] at q1 ⊢; exact ⟨ρ, B1, φ1, S1, w1, en1, q1⟩
  | false => rw [if_neg Bool.false_ne_true] at q1 ⊢; exact ⟨ρ, B1, φ1, S1, w1, en1, q1⟩
/-! targets -/
abbrev Tgt := Dv → Nv → Option Nv
abbrev Tgts := List D → Nv → Option Nv
def kept (ts : List Nat) (σ σ' : L2.St) : Prop := ∀ vs : List Nat, (∀ i ∈ ts, i ∈ vs) → wipe σ' vs = wipe σ vs
def tG (G : Gx) (ts : List Nat) (t : Tgt) : TG := fun v σ H Q => ∃ ρ B φ S d, Wd G H B φ S ∧ EnvR G B φ σ ρ ∧ RepV G B φ d v ∧ match t d ρ with
  | some ρ' => ∀ σ', EnvR G B φ σ' ρ' → kept ts σ σ' → Q σ' H
  | none => False
def tGs (G : Gx) (ts : List Nat) (t : Tgts) : TGs := fun vs σ H Q => ∃ ρ B φ S ds, Wd G H B φ S ∧ EnvR G B φ σ ρ ∧ Reps G B ds vs ∧ match t ds ρ with
  | some ρ' => ∀ σ', EnvR G B φ σ' ρ' → kept ts σ σ' → Q σ' H
  | none => False
def gN (i : Nat) : Tgt := fun d ρ => some (ρ.set i (some d))
def gsNil : Tgts := fun ds ρ => match ds with
  | [] => some ρ
  | _ :: _ => none
def gsCons (t : Tgt) (r : Tgts) : Tgts := fun ds ρ => match ds with
  | [] => none
  | d :: ds => match t (.p d) ρ with
    | some ρ1 => r ds ρ1
    | none => none
def gT (n : Nat) (t : Tgts) : Tgt := fun d ρ => match d with
  | .p (.tup ds) => if ds.length = n then t ds ρ else none
  | _ => none
theorem wipe_set {i : Nat} {o : Option V} : ∀ {vs : List Nat}, i ∈ vs → wipe (σ.set i o) vs = wipe σ vs
  | v :: vs, h => by
    unfold wipe
    by_cases e : i ∈ vs
    · rw [wipe_set e]
    · have : i = v := (List.mem_cons.mp h).resolve_right e
      subst this
      have aux : ∀ ws : List Nat, (wipe (σ.set i o) ws).set i none = (wipe σ ws).set i none := by
        intro ws
        induction ws with
        | nil => unfold wipe; rw [List.set_set]
        | cons z zs ih =>
          unfold wipe
          by_cases ez : z = i
          · subst ez; rw [ih]
          · rw [List.set_comm _ _ ez, ih, List.set_comm _ _ ez]
      exact aux vs
theorem kept.refl {ts : List Nat} : kept ts σ σ := fun _ _ => rfl
theorem dg_name {i : Nat} {x : Str} (hN : X.N.Nodup) (hi : X.N[i]? = some x) (hx : Loc X.env.scope x) (hf : X.fn x = true ∨ X.env.scope.names.lookup x = some .local := by first | exact .inl rfl | exact .inr rfl | assumption) :
    PG X (.Name x pos) (tG G [i] (gN i)) :=
  wkG (pg_name hN hi hx hf) fun v σ H Q ⟨ρ, B, φ, S, d, w, en, r, h⟩ => h _ (en.set i r) fun vs hv => wipe_set (hv i (by simp))
theorem dgs_nil : PGs X [] (tGs G [] gsNil) := by
  refine wkGs pgs_nil fun vs σ H Q ⟨ρ, B, φ, S, ds, w, en, r, h⟩ => ?_
  unfold gsNil at h
  cases ds with
  | nil => exact ⟨by unfold Reps at r; exact r, h σ en kept.refl⟩
  | cons _ _ => exact h.elim
theorem dgs_cons {es : List Expr} {ts us : List Nat} {t : Tgt} {r : Tgts} (h1 : PG X e (tG G ts t)) (h2 : PGs X es (tGs G us r)) (hs : (assignEach (e :: es) X.env).map (·.2) = assign e X.env :: (assignEach es X.env).map (·.2) := by rfl) :
    PGs X (e :: es) (tGs G (ts ++ us) (gsCons t r)) := by
  refine wkGs (pgs_cons h1 h2 hs) fun vs σ H Q ⟨ρ, B, φ, S, ds, w, en, rr, h⟩ => ?_
  cases ds with
  | nil => exact (show False from h).elim
  | cons d ds =>
    unfold Reps at rr
    obtain ⟨x, t', rfl, q1, q2⟩ := rr
    refine ⟨x, t', rfl, ρ, B, φ, S, .p d, w, en, q1, ?_⟩
    rw [show gsCons t r (d :: ds) ρ = (match t (.p d) ρ with | some ρ1 => r ds ρ1 | none => none) from rfl] at h
    cases q : t (.p d) ρ with
    | none => rw [q] at h; exact h.elim
    | some ρ1 =>
      rw [q] at h
      have h : (match r ds ρ1 with | some ρ' => ∀ σ', EnvR G B φ σ' ρ' → kept (ts ++ us) σ σ' → Q σ' H | none => False) := h
      refine fun σ' en' k' => ⟨ρ1, B, φ, S, ds, w, en', q2, ?_⟩
      cases q' : r ds ρ1 with
      | none => rw [q'] at h; exact h.elim
      | some ρ2 =>
        rw [q'] at h
        exact fun σ'' en'' k'' => h σ'' en'' fun ws hw => (k'' ws fun i hi => hw i (List.mem_append_right _ hi)).trans (k' ws fun i hi => hw i (List.mem_append_left _ hi))
theorem dg_tup {es : List Expr} {k n : Nat} {ts : List Nat} {t : Tgts} (hK : X.K = G.K) (hc : X.calm = true) (h : PGs X es (tGs G ts t)) (hn : (assignEach es X.env).length = n := by rfl) (hst : (assignEach es X.env).findIdx? (·.1) = none := by rfl) :
    PG X (.Tuple es k pos) (tG G ts (gT n t)) := by
  refine wkG (pg_tup hc h hn hst) fun v σ H Q ⟨ρ, B, φ, S, d, w, en, r, h⟩ => ?_
  unfold gT at h
  split at h
  · rename_i ρ' he
    split at he
    · split at he
      · rename_i ds hl
        obtain ⟨a, xs, rfl, s1, q1⟩ := rep_tup.mp r
        exact ⟨a, xs, rfl, hK ▸ sqT_mono w.sub s1, by rw [← q1.length]; exact hl, ρ, B, φ, S, ds, w, en, q1, by rw [he]; exact h⟩
      · cases he
    · cases he
  · exact h.elim
def sAsg (ef : Ef) (t : Tgt) : Sf := fun ρ S => (ef ρ S).toS ρ fun d S' => match t d ρ with
  | some ρ' => .ok (.nx ρ') S'
  | none => .bad
theorem dp_asg {tg : Expr} {ts : List Nat} {t : Tgt} (he : PE X e (tD G W ef)) (hg : PG X tg (tG G ts t)) (hs : swapsWithSole [tg] e pos.line X.env = pure false := by rfl) (hw : swappedStores [tg] e X.env = pure none := by rfl)
    (h1 : (assignEach [tg] X.env).map (·.2) = [assign tg X.env] := by rfl) : PS X (.Assign [tg] e pos) (tS G W (sAsg ef t)) := by
  refine wkS (ps_asg he hg hs hw h1) fun D σ H ⟨ρ, B, φ, S, w, en, h⟩ => tD.run w en (WPS.fst en h) fun d v H1 B1 φ1 S1 x1 w1 en1 r1 q1 => ?_
  refine ⟨ρ, B1, φ1, S1, d, w1, en1, r1, ?_⟩
  cases q : t d ρ with
  | none => rw [q] at q1; exact q1
  | some ρ' => rw [q] at q1; exact fun σ' en' _ => WPS.here w1 q1 σ' en'
/-- name = value -/
def sSet (i : Nat) (ef : Ef) : Sf := fun ρ S => (ef ρ S).toS ρ fun d S' => .ok (.nx (ρ.set i (some d))) S'
theorem dp_set {i : Nat} {x : Str} {pos' : Pos} (hN : X.N.Nodup) (hi : X.N[i]? = some x) (hx : Loc X.env.scope x) (he : PE X e (tD G W ef)) (hs : swapsWith e (some (.Name x pos')) pos.line X.env = pure false := by rfl)
    (hf : X.fn x = true ∨ X.env.scope.names.lookup x = some .local := by first | exact .inl rfl | exact .inr rfl | assumption) : PS X (.Assign [.Name x pos'] e pos) (tS G W (sSet i ef)) := by
  refine wkS (ps_set hN hi hx he hs hf) fun D σ H ⟨ρ, B, φ, S, w, en, h⟩ => tD.run w en (WPS.fst en h) fun d v H1 B1 φ1 S1 x1 w1 en1 r1 q1 => ?_
  exact WPS.here w1 q1 _ (en1.set i r1)
/-- a, b = x, y -/
def sPar (i j : Nat) (af : Af) : Sf := fun ρ S => (af ρ S).toS ρ fun ds S' => match ds with
  | [d, e] => .ok (.nx ((ρ.set i (some d)).set j (some e))) S'
  | _ => .bad
theorem dp_par {i j : Nat} {x y : Str} {a b : Expr} {af : Af} {px py pt : Pos} {kt k2 pt2} (hc : X.calm = true) (hN : X.N.Nodup) (hi : X.N[i]? = some x) (hj : X.N[j]? = some y) (hij : i ≠ j)
    (hx : X.env.scope.names.lookup x = some .local) (hy : X.env.scope.names.lookup y = some .local) (ha : PA X [a, b] (tA G W af))
    (hw : swappedStores [.Tuple [.Name x px, .Name y py] kt pt] (.Tuple [a, b] k2 pt2) X.env = pure (some [x, y]))
    (hs : swapsWithSole [.Tuple [.Name x px, .Name y py] kt pt] (.Tuple [a, b] k2 pt2) pos.line X.env = pure false := by rfl) :
    PS X (.Assign [.Tuple [.Name x px, .Name y py] kt pt] (.Tuple [a, b] k2 pt2) pos) (tS G W (sPar i j af)) := by
  refine wkS (ps_par hc hN hi hj hij hx hy ha hw hs) fun D σ H ⟨ρ, B, φ, S, w, en, h⟩ => tA.run w en (WPS.fst en h) fun ds vs H1 B1 φ1 S1 x1 w1 en1 r1 q1 => ?_
  match ds, r1, q1 with
  | [], _, q1 => exact q1.elim
  | [_], _, q1 => exact q1.elim
  | [d, e], ⟨v, t, e1, rv, u, t2, e2, ru, e3⟩, q1 =>
    subst e1
    subst e2
    rw [show t2 = [] from e3]
    exact ⟨v, u, rfl, WPS.here w1 q1 _ ((en1.set i rv).set j ru)⟩
  | _ :: _ :: _ :: _, _, q1 => exact q1.elim
/-! what is walked -/
def Yl (G : Gx) (J : It) (ds : List D) (B1 : Hp) : Prop := ∀ i H B φ S, Wd G H B φ S → Same B1 B →
  (i < ds.length → J.go i H ∧ ∀ x H', J.yld i H x H' → ∃ d B', ds[i]? = some d ∧ Xt H B φ H' B' φ ∧ Wd G H' B' φ S ∧ Rep G B' d x) ∧ (i = ds.length → J.stop i H)
abbrev If := Nv → Sto → Out (List D)
def tI (G : Gx) (W : WX) (f : If) : TI := fun σ H R => ∃ ρ B φ S, Wd G H B φ S ∧ EnvR G B φ σ ρ ∧ WP G W σ H B φ (f ρ S) fun ds H' B' _ _ => ∀ J, Yl G J ds B' → R J H'
theorem yl_list {a : Addr} {xs : List V} {ds : List D} (h : SqL G.K B a xs) (r : Reps G B ds xs) : Yl G (Itl G.K a) ds B := by
  intro i H B1 φ S w sb
  have hq : SqL G.K H a xs := w.sub.seq (sb.seq h)
  have hl := r.length
  refine ⟨fun hi => ?_, fun hi => ⟨xs, hq, by omega⟩⟩
  obtain ⟨v, hv, rv⟩ := r.get (List.getElem?_eq_getElem hi)
  refine ⟨⟨xs, v, hq, hv⟩, fun x H' ⟨e, y⟩ => ?_⟩
  subst e
  have ex : x = v := Option.some.inj ((y xs hq).symm.trans hv)
  subst ex
  exact ⟨_, B1, List.getElem?_eq_getElem hi, Xt.refl, w, Rep.mono sb _ rv⟩
theorem yl_tup {a : Addr} {xs : List V} {ds : List D} (h : SqT G.K B a xs) (r : Reps G B ds xs) : Yl G (Itt G.K a) ds B := by
  intro i H B1 φ S w sb
  have hq : SqT G.K H a xs := sqT_mono w.sub (sqT_mono sb h)
  have hl := r.length
  refine ⟨fun hi => ?_, fun hi => ⟨xs, hq, by omega⟩⟩
  obtain ⟨v, hv, rv⟩ := r.get (List.getElem?_eq_getElem hi)
  refine ⟨⟨xs, v, hq, hv⟩, fun x H' ⟨e, y⟩ => ?_⟩
  subst e
  have ex : x = v := Option.some.inj ((y xs hq).symm.trans hv)
  subst ex
  exact ⟨_, B1, List.getElem?_eq_getElem hi, Xt.refl, w, Rep.mono sb _ rv⟩
def rngD (lo : Int) (n : Nat) : List D := (List.range n).map fun i => .int (lo + (i : Nat))
theorem yl_rng (lo : Int) (n : Nat) : Yl G (Itr lo n) (rngD lo n) B := by
  intro i H B1 φ S w sb
  have hl : (rngD lo n).length = n := by unfold rngD; rw [List.length_map, List.length_range]
  rw [hl]
  refine ⟨fun hi => ⟨hi, fun x H' ⟨e, y⟩ => ?_⟩, fun hi => by subst hi; exact Nat.le_refl _⟩
  subst e y
  refine ⟨.int (lo + (i : Nat)), B1, ?_, Xt.refl, w, rpi _⟩
  unfold rngD
  rw [List.getElem?_map, List.getElem?_range hi]; rfl
theorem PI.or' {tg e : Expr} {t t' : TI} (h : PI X tg e t) (h' : PI X tg e t') : PI X tg e (fun σ H R => t σ H R ∨ t' σ H R) :=
  ⟨fun pins s σ H R I q => q.elim (h.run pins s σ H R I) (h'.run pins s σ H R I)⟩
def iSeq (f : Ef) : If := fun ρ S => (f ρ S).bind fun d S1 => match d with
  | .p (.lst ds) => .ok ds S1
  | .p (.tup ds) => .ok ds S1
  | .p (.scr ns) => .ok (ns.map D.int) S1
  | _ => .bad
theorem di_seq {tg : Expr} (hK : X.K = G.K) (he : PE X e (tD G W ef)) : PI X tg e (tI G W (iSeq ef)) := by
  refine wkI (PI.or' (pi_list he) (pi_tup he)) fun σ H R ⟨ρ, B, φ, S, w, en, h⟩ => ?_
  have h2 := WP.fst h
  have core : ∀ {t : V → Hp → Prop}, WP G W σ H B φ (ef ρ S) (fun a H' B' φ' S' => ∀ v, RepV G B' φ' a v → t v H') → tD G W ef σ H t := fun {t} q => ⟨ρ, B, φ, S, w, en, q⟩
  rw [hK]
  have left : (WP G W σ H B φ (ef ρ S) fun a H' B' φ' S' => ∀ v, RepV G B' φ' a v → ∃ p, v = .ref p ∧ (∃ xs, SqL G.K H' p xs) ∧ R (Itl G.K p) H') → iList G.K (tD G W ef) σ H R ∨ iTup G.K (tD G W ef) σ H R := fun q => .inl (core q)
  have right : (WP G W σ H B φ (ef ρ S) fun a H' B' φ' S' => ∀ v, RepV G B' φ' a v → ∃ p, v = .ref p ∧ (∃ xs, SqT G.K H' p xs) ∧ R (Itt G.K p) H') → iList G.K (tD G W ef) σ H R ∨ iTup G.K (tD G W ef) σ H R := fun q => .inr (core q)
  cases q : ef ρ S with
  | bad => rw [q] at h2; exact h2.elim
  | exc x S1 => exact left (by rw [q] at h2 ⊢; exact h2)
  | ok d S1 =>
    rw [q] at h2 left right
    cases d with
    | hnd n => exact left fun H' B' φ' x w' v r => (h2 H' B' φ' x w').elim
    | p d =>
      cases d with
      | lst ds =>
        refine left fun H' B' φ' x w' v r => ?_
        obtain ⟨a, xs, rfl, s1, q1⟩ := rep_lst.mp r
        have sq : SqL G.K B' a xs := SqL.of s1
        exact ⟨a, rfl, ⟨xs, w'.sub.seq sq⟩, h2 H' B' φ' x w' H' B' φ' Xt.refl w' _ (yl_list sq q1)⟩
      | tup ds =>
        refine right fun H' B' φ' x w' v r => ?_
        obtain ⟨a, xs, rfl, s1, q1⟩ := rep_tup.mp r
        exact ⟨a, rfl, ⟨xs, sqT_mono w'.sub s1⟩, h2 H' B' φ' x w' H' B' φ' Xt.refl w' _ (yl_tup s1 q1)⟩
      | scr ns =>
        refine left fun H' B' φ' x w' v r => ?_
        obtain ⟨a, rfl, s1⟩ := rep_scr.mp r
        exact ⟨a, rfl, ⟨_, w'.sub.seq s1⟩, h2 H' B' φ' x w' H' B' φ' Xt.refl w' _ (yl_list s1 (Reps.ints ns))⟩
      | non => exact left fun H' B' φ' x w' v r => (h2 H' B' φ' x w').elim
      | bl _ => exact left fun H' B' φ' x w' v r => (h2 H' B' φ' x w').elim
      | dct _ => exact left fun H' B' φ' x w' v r => (h2 H' B' φ' x w').elim
      | dki _ => exact left fun H' B' φ' x w' v r => (h2 H' B' φ' x w').elim
      | dsi _ => exact left fun H' B' φ' x w' v r => (h2 H' B' φ' x w').elim
      | dpk _ => exact left fun H' B' φ' x w' v r => (h2 H' B' φ' x w').elim
      | int _ => exact left fun H' B' φ' x w' v r => (h2 H' B' φ' x w').elim
      | str _ => exact left fun H' B' φ' x w' v r => (h2 H' B' φ' x w').elim
      | rul _ => exact left fun H' B' φ' x w' v r => (h2 H' B' φ' x w').elim
end
end DL

namespace DL
open PySem L2
open PySem.Spec PyProof.Rows
section
variable {X : Cx} {G : Gx} {W : WX} {Z : Ends} {H B H1 B1 : Hp} {φ φ1 : List Addr} {S : Sto} {σ : L2.St} {ρ : Nv} {e : Expr} {ef eg : Ef} {pos : Pos} {af : Af}
/-! range -/
def rngOk (i j : Int) : Bool := decide (-4611686018427387904 ≤ i) && decide (i < 4611686018427387904) && decide (-4611686018427387904 ≤ j) && decide (j < 4611686018427387904)
theorem rngOk_at {i j : Int} (h : rngOk i j = true) : -(2 ^ 62) ≤ i ∧ i < 2 ^ 62 ∧ -(2 ^ 62) ≤ j ∧ j < 2 ^ 62 := by
  unfold rngOk at h
  simp only [Bool.and_eq_true, decide_eq_true_eq] at h
  omega
def iRng1 (f : Ef) : If := fun ρ S => (f ρ S).bind fun d S1 => match d with
  | .p (.int j) => if rngOk 0 j = true then .ok (rngD 0 j.toNat) S1 else .bad
  | _ => .bad
def iRng2 (f g : Ef) : If := fun ρ S => (f ρ S).bind fun d S1 => (g ρ S1).bind fun d' S2 => match d, d' with
  | .p (.int i), .p (.int j) => if rngOk i j = true then .ok (rngD i (j - i).toNat) S2 else .bad
  | _, _ => .bad
theorem aOne {ds : List Dv} {f : Ef} (hf : aCons f aNil = af) : True := trivial
theorem di_rng1 {tg a : Expr} {p : Pos} (hg : Gl X "range") (hm : X.mg "range" = none) (ha : PE X a (tD G W ef)) (hs : starEach [a] X.env = [(false, eval a X.env)] := by rfl) :
    PI X tg (.Call (.Name "range" p) [a] [] pos) (tI G W (iRng1 ef)) := by
  refine wkI (pi_range1 hg hm (pa_cons ha pa_nil hs) hs) fun σ H R ⟨ρ, B, φ, S, w, en, h⟩ => tD.run w en (WP.fst h) fun d v H1 B1 φ1 S1 x1 w1 en1 r1 q1 => ?_
  split at q1
  · split at q1
    · rename_i j hk
      obtain ⟨_, _, h3, h4⟩ := rngOk_at hk
      exact ⟨j, by rw [rep_int.mp r1], h3, h4, q1 H1 B1 φ1 Xt.refl w1 _ (yl_rng 0 _)⟩
    · exact q1.elim
  · exact q1.elim
theorem di_rng2 {tg a b : Expr} {p : Pos} (hg : Gl X "range") (hm : X.mg "range" = none) (ha : PE X a (tD G W ef)) (hb : PE X b (tD G W eg)) (hs : starEach [a, b] X.env = [(false, eval a X.env), (false, eval b X.env)] := by rfl)
    (hs2 : starEach [b] X.env = [(false, eval b X.env)] := by rfl) : PI X tg (.Call (.Name "range" p) [a, b] [] pos) (tI G W (iRng2 ef eg)) := by
  refine wkI (pi_range2 hg hm (pa_cons ha (pa_cons hb pa_nil hs2) (by rw [hs, hs2])) hs hs2) fun σ H R ⟨ρ, B, φ, S, w, en, h⟩ => tD.run w en (WP.fst h) fun d v H1 B1 φ1 S1 x1 w1 en1 r1 q1 => ?_
  refine tD.run w1 en1 (WP.fst q1) fun d2 v2 H2 B2 φ2 S2 x2 w2 en2 r2 q2 => ?_
  split at q2
  · split at q2
    · rename_i i j hk
      obtain ⟨h1, h2, h3, h4⟩ := rngOk_at hk
      exact ⟨i, j, by rw [rep_int.mp r1, rep_int.mp r2], ⟨h1, h2, h3, h4⟩, q2 H2 B2 φ2 Xt.refl w2 _ (yl_rng i _)⟩
    · exact q2.elim
  · exact q2.elim
/-! for -/
def forL (t : Tgt) (body : Sf) : List D → Nv → Sto → OS
  | [], ρ, S => .ok (.nx ρ) S
  | d :: ds, ρ, S => match t (.p d) ρ with
    | none => .bad
    | some ρ1 => match body ρ1 S with
      | .ok (.nx ρ') S' => forL t body ds ρ' S'
      | .ok (.ct ρ') S' => forL t body ds ρ' S'
      | .ok (.bk ρ') S' => .ok (.nx ρ') S'
      | .ok (.rt d) S' => .ok (.rt d) S'
      | .exc x ρ' S' => .exc x ρ' S'
      | .bad => .bad
def sFor (it : If) (t : Tgt) (body : Sf) : Sf := fun ρ S => (it ρ S).toS ρ fun ds S' => forL t body ds ρ S'
theorem dp_for {tg iter : Expr} {body : List Stmt} {it : If} {ts : List Nat} {t : Tgt} {bf : Sf} (hp : PassesOwn (model X.prog X.w) X.A X.env X.xe) (hc : X.calm = true) (hi : PI X tg iter (tI G W it)) (hg : PG X tg (tG G ts t)) (hb : PSs X body (tS G W bf))
    (hs : ∀ x, foldedSetIterable iter X.env x = pure x := by intro _; rfl) : PS X (.For tg iter body [] pos) (tS G W (sFor it t bf)) := by
  refine wkS (ps_for hp hc hi hg hb hs) fun Z σ H ⟨ρ, B, φ, S, w, en, h⟩ => ?_
  refine ⟨ρ, B, φ, S, w, en, (WPS.fst en h).mono fun ds H1 B1 φ1 S1 x1 w1 q1 J yl => ?_⟩
  have en1 := en.mono x1.b x1.p
  refine ⟨fun i m σ H => ∃ ρ B φ S, Wd G H B φ S ∧ EnvR G B φ σ ρ ∧ Same B1 B ∧ i ≤ ds.length ∧ m = ds.length - i ∧ WPS G W Z H B φ (forL t bf (ds.drop i) ρ S),
    ⟨_, ρ, B1, φ1, S1, w1, en1, Same.refl _, Nat.zero_le _, rfl, q1⟩, ?_⟩
  rintro i m σ H ⟨ρ, B, φ, S, w, en, sb, hi, rfl, q⟩
  obtain ⟨y1, y2⟩ := yl i H B φ S w sb
  by_cases hlt : i < ds.length
  · obtain ⟨go, y1⟩ := y1 hlt
    refine .inr ⟨go, fun σ' H' => ∃ ρ B φ S, Wd G H' B φ S ∧ EnvR G B φ σ' ρ ∧ Same B1 B ∧ WPS G W Z H' B φ (forL t bf (ds.drop (i + 1)) ρ S), ?_, ?_⟩
    · rintro σ' H' ⟨ρ', B', φ', S', w', en', sb', q'⟩
      exact ⟨ds.length - (i + 1), by omega, ρ', B', φ', S', w', en', sb', hlt, rfl, q'⟩
    · intro x H' hy
      obtain ⟨d, B', hd, xx, w', r⟩ := y1 x H' hy
      rw [List.drop_eq_getElem_cons hlt] at q
      have ed : ds[i] = d := by rw [List.getElem?_eq_getElem hlt] at hd; exact Option.some.inj hd
      rw [ed] at q
      unfold forL at q
      refine ⟨ρ, B', φ, S, .p d, w', en.mono xx.b xx.p, r, ?_⟩
      cases e1 : t (.p d) ρ with
      | none => rw [e1] at q; exact q.elim
      | some ρ1 =>
        rw [e1] at q
        refine fun σ2 en2 _ => ⟨ρ1, B', φ, S, w', en2, ?_⟩
        have q := WPS.rebase xx q
        dsimp only at q
        cases e2 : bf ρ1 S with
        | bad => rw [e2] at q; exact q.elim
        | exc x ρ' S' => rw [e2] at q; exact q
        | ok fl S' =>
          rw [e2] at q
          cases fl with
          | nx ρ' => exact fun H3 B3 φ3 x3 w3 σ3 en3 => ⟨ρ', B3, φ3, S', w3, en3, sb.trans (xx.b.trans x3.b), WPS.rebase x3 q⟩
          | ct ρ' => exact fun H3 B3 φ3 x3 w3 σ3 en3 => ⟨ρ', B3, φ3, S', w3, en3, sb.trans (xx.b.trans x3.b), WPS.rebase x3 q⟩
          | bk ρ' => exact q
          | rt d => exact q
  · have e : i = ds.length := by omega
    subst e
    rw [List.drop_length] at q
    exact .inl ⟨y2 rfl, WPS.here w q σ en⟩
/-! while, at most n turns -/
def whileL (c : Tf) (body : Sf) : Nat → Nv → Sto → OS
  | 0, _, _ => .bad
  | n + 1, ρ, S => (c ρ S).toS ρ fun b S1 => if b = true then (match body ρ S1 with
      | .ok (.nx ρ') S' => whileL c body n ρ' S'
      | .ok (.ct ρ') S' => whileL c body n ρ' S'
      | .ok (.bk ρ') S' => .ok (.nx ρ') S'
      | .ok (.rt d) S' => .ok (.rt d) S'
      | .exc x ρ' S' => .exc x ρ' S'
      | .bad => .bad) else .ok (.nx ρ) S1
def sWhile (n : Nat) (c : Tf) (body : Sf) : Sf := whileL c body n
theorem dp_while {cc : Expr} {body : List Stmt} {c : Tf} {bf : Sf} (n : Nat) (hp : PassesOwn (model X.prog X.w) X.A X.env X.xe) (hc : PT X cc (tT G W c)) (hb : PSs X body (tS G W bf)) : PS X (.While cc body [] pos) (tS G W (sWhile n c bf)) := by
  refine wkS (ps_while hp hc hb) fun Z σ H ⟨ρ, B, φ, S, w, en, h⟩ => ?_
  refine ⟨fun m σ H => ∃ ρ B φ S, Wd G H B φ S ∧ EnvR G B φ σ ρ ∧ WPS G W Z H B φ (whileL c bf m ρ S), ⟨n, ρ, B, φ, S, w, en, h⟩, ?_⟩
  rintro m σ H ⟨ρ, B, φ, S, w, en, q⟩
  cases m with
  | zero => exact q.elim
  | succ m =>
    unfold whileL at q
    refine tT.run w en (WPS.fst en q) fun b H1 B1 φ1 S1 x1 w1 en1 q1 => ?_
    cases b with
    | false => rw [if_neg Bool.false_ne_true] at q1 ⊢; exact WPS.here w1 q1 σ en1
    | true =>
      rw [if_pos rfl] at q1 ⊢
      refine ⟨fun σ' H' => ∃ ρ B φ S, Wd G H' B φ S ∧ EnvR G B φ σ' ρ ∧ WPS G W Z H' B φ (whileL c bf m ρ S), fun σ' H' k => ⟨m, Nat.lt_succ_self _, k⟩, ρ, B1, φ1, S1, w1, en1, ?_⟩
      cases e2 : bf ρ S1 with
      | bad => rw [e2] at q1; exact q1.elim
      | exc x ρ' S' => rw [e2] at q1; exact q1
      | ok fl S' =>
        rw [e2] at q1
        cases fl with
        | nx ρ' => exact fun H3 B3 φ3 x3 w3 σ3 en3 => ⟨ρ', B3, φ3, S', w3, en3, WPS.rebase x3 q1⟩
        | ct ρ' => exact fun H3 B3 φ3 x3 w3 σ3 en3 => ⟨ρ', B3, φ3, S', w3, en3, WPS.rebase x3 q1⟩
        | bk ρ' => exact q1
        | rt d => exact q1
/-! comprehensions -/
def Out.nox {α : Type} (o : Out α) : Out α := match o with
  | .ok a S => .ok a S
  | .exc _ _ => .bad
  | .bad => .bad
abbrev noW : WX := fun _ _ _ _ => False
theorem WP.nox {α : Type} {W' : WX} {o : Out α} {post : α → Hp → Hp → List Addr → Sto → Prop} (h : WP G W σ H B φ o.nox post) : WP G W' σ H B φ o post := by
  cases o with
  | ok a S => exact h
  | exc x S => exact h.elim
  | bad => exact h.elim
def cYes : Tf := fun _ S => .ok true S
def compL (t : Tgt) (ifs : Tf) (el : Ef) (ρ : Nv) : List D → Sto → Out (List D)
  | [], S => .ok [] S
  | d :: ds, S => match t (.p d) ρ with
    | none => .bad
    | some ρ1 => (ifs ρ1 S).nox.bind fun b S1 => if b = true then (el ρ1 S1).nox.bind (fun x S2 => match x with
        | .p d' => (compL t ifs el ρ ds S2).bind fun r S3 => Out.ok (d' :: r) S3
        | .hnd _ => .bad) else compL t ifs el ρ ds S1
def dComp (vs : List Nat) (it : If) (t : Tgt) (ifs : Tf) (el : Ef) : Ef := fun ρ S => (it ρ S).bind fun ds S1 => if ds.length ≤ big then (compL t ifs el (wipeN ρ vs) ds S1).bind (fun r S2 => .ok (.p (.lst r)) S2) else .bad
theorem dts_nil : PTs X [] (tT G W cYes) := ⟨fun pins s σ H Q I ⟨ρ, B, φ, S, w, en, h⟩ => pts_nil.run pins s σ H Q I (h H B φ Xt.refl w)⟩
theorem dts_one {c : Expr} {cf : Tf} (h : PT X c (tT G W cf)) : PTs X [c] (tT G W cf) := pts_one h
theorem Out.bind_assoc {α β γ : Type} (o : Out α) (k : α → Sto → Out β) (l : β → Sto → Out γ) : (o.bind k).bind l = o.bind fun a S => (k a S).bind l := by
  cases o <;> rfl
theorem wipe_wipe {vs : List Nat} : ∀ ws : List Nat, (∀ i ∈ ws, i ∈ vs) → wipe (wipe σ ws) vs = wipe σ vs
  | [], _ => rfl
  | w :: ws, h => by
    show wipe ((wipe σ ws).set w none) vs = _
    rw [wipe_set (h w List.mem_cons_self), wipe_wipe ws fun i hi => h i (List.mem_cons_of_mem _ hi)]
/-- a private thing is written -/
theorem Wd.priv {p : Addr} {o : HO} (w : Wd G H B φ S) (hb : B p = none) (hp : p ∉ φ) : Wd G (upd H p o) B φ S := by
  refine ⟨fun b x e => ?_, w.nd, w.len, fun i a c h1 h2 => ?_, w.sec⟩
  · have nb : b ≠ p := fun z => by subst z; rw [hb] at e; cases e
    rw [upd_ne nb]; exact w.sub _ _ e
  · have na : a ≠ p := fun z => hp (by subst z; exact List.mem_of_getElem? h1)
    refine CellR.stay (w.cell i a c h1 h2) (Same.refl _) (List.prefix_refl _) (upd_ne na) (fun _ q => q) fun j dx q0 _ _ q2 => ⟨upd_ne fun z => hp (by subst z; exact List.mem_of_getElem? q0), q2⟩
/-- a private list becomes data -/
theorem Wd.adopt {p : Addr} {av : List V} (w : Wd G H B φ S) (hh : H p = some (.lst av)) (hb : B p = none) (hp : p ∉ φ) : Wd G H (upd B p (.lst av)) φ S := by
  have sb : Same B (upd B p (.lst av)) := same_upd' hb
  refine ⟨fun b x e => ?_, w.nd, w.len, fun i a c h1 h2 => ?_, w.sec⟩
  · by_cases q : b = p
    · subst q; rw [upd_same] at e; rw [← e]; exact hh
    · rw [upd_ne q] at e; exact w.sub _ _ e
  · have na : a ≠ p := fun z => hp (by subst z; exact List.mem_of_getElem? h1)
    refine CellR.stay (w.cell i a c h1 h2) sb (List.prefix_refl _) rfl (fun _ q => by rw [upd_ne na]; exact q) fun j dx q0 _ _ q2 => ⟨rfl, by rw [upd_ne fun z => hp (by subst z; exact List.mem_of_getElem? q0)]; exact q2⟩
theorem comp_le {own : List (Str × Nat)} {it : If} {ts : List Nat} {t : Tgt} {cf : Tf} {el : Ef} (hts : ∀ i ∈ ts, i ∈ own.map (·.2)) :
    ∀ σ H Q, tD G W (dComp (own.map (·.2)) it t cf el) σ H Q → tLc (tI G W it) (tG G ts t) (tT G noW cf) (tD G noW el) (own.map (·.2)) σ H Q := by
  rintro σ H Q ⟨ρ, B, φ, S, w, en, h⟩
  refine ⟨ρ, B, φ, S, w, en, (WP.fst h).mono fun ds H1 B1 φ1 S1 x1 w1 q1 J yl => ?_⟩
  split at q1
  · rename_i hbig
    intro D hD
    have en1 := (en.mono x1.b x1.p).wipe (own.map (·.2))
    generalize hvs : own.map (·.2) = vs at *
    have nD1 : D ∉ φ1 := w1.fresh hD
    refine ⟨fun i m H => ∃ B φ S acc av, Wd G H B φ S ∧ Xt H1 B1 φ1 H B φ ∧ B D = none ∧ D ∉ φ ∧ H D = some (.lst av) ∧ Reps G B acc av ∧ acc.length ≤ i ∧ i ≤ ds.length ∧ m = ds.length - i ∧
        WP G W σ H1 B1 φ1 ((compL t cf el (wipeN ρ vs) (ds.drop i) S).bind fun r S2 => Out.ok (Dv.p (DL.D.lst (acc ++ r))) S2) (fun d H' B' φ' _ => ∀ v, RepV G B' φ' d v → Q v H'),
      ⟨_, B1, φ1, S1, [], [], w1.hide hD, Xt.hide w1 hD, w1.bfree hD, nD1, upd_same, Reps.nil, Nat.le_refl _, Nat.zero_le _, rfl, q1⟩, ?_⟩
    rintro i m H ⟨B, φ, S, acc, av, w, x, hb, hf, hh, rr, hai, hi, rfl, q⟩
    obtain ⟨y1, y2⟩ := yl i H B φ S w x.b
    by_cases hlt : i < ds.length
    · obtain ⟨go, y1⟩ := y1 hlt
      refine .inr ⟨go, fun H' => ∃ B φ S acc av, Wd G H' B φ S ∧ Xt H1 B1 φ1 H' B φ ∧ B D = none ∧ D ∉ φ ∧ H' D = some (.lst av) ∧ Reps G B acc av ∧ acc.length ≤ i + 1 ∧
        WP G W σ H1 B1 φ1 ((compL t cf el (wipeN ρ vs) (ds.drop (i + 1)) S).bind fun r S2 => Out.ok (Dv.p (DL.D.lst (acc ++ r))) S2) (fun d H' B' φ' _ => ∀ v, RepV G B' φ' d v → Q v H'), ?_, ?_⟩
      · rintro H' ⟨B', φ', S', acc', av', w', x', hb', hf', hh', rr', hai', q'⟩
        exact ⟨ds.length - (i + 1), by omega, B', φ', S', acc', av', w', x', hb', hf', hh', rr', hai', hlt, rfl, q'⟩
      · intro y H' hy
        obtain ⟨d, B', hd, xx, w', r⟩ := y1 y H' hy
        rw [List.drop_eq_getElem_cons hlt] at q
        have ed : ds[i] = d := by rw [List.getElem?_eq_getElem hlt] at hd; exact Option.some.inj hd
        rw [ed] at q
        unfold compL at q
        have x' := x.trans xx
        obtain ⟨hh', hb', hf'⟩ := xx.out D _ hh hb hf
        refine ⟨wipeN ρ vs, B', φ, S, .p d, w', en1.mono x'.b x'.p, r, ?_⟩
        cases e1 : t (.p d) (wipeN ρ vs) with
        | none => rw [e1] at q; exact q.elim
        | some ρ1 =>
          rw [e1] at q
          dsimp only at q
          refine fun σ2 en2 k2 => ⟨(k2 vs hts).trans (wipe_wipe vs fun _ z => z), ρ1, B', φ, S, w', en2, ?_⟩
          cases e2 : cf ρ1 S with
          | bad => rw [e2] at q; exact q.elim
          | exc e' S' => rw [e2] at q; exact q.elim
          | ok b S2 =>
            rw [e2] at q
            have q : WP G W σ H1 B1 φ1 ((if b = true then (el ρ1 S2).nox.bind (fun x S2 => match x with
              | .p d' => (compL t cf el (wipeN ρ vs) (ds.drop (i + 1)) S2).bind fun r S3 => Out.ok (d' :: r) S3
              | .hnd _ => .bad) else compL t cf el (wipeN ρ vs) (ds.drop (i + 1)) S2).bind fun r S2 => Out.ok (Dv.p (DL.D.lst (acc ++ r))) S2) (fun d H' B' φ' _ => ∀ v, RepV G B' φ' d v → Q v H') := q
            intro H3 B3 φ3 x3 w3
            obtain ⟨hh3, hb3, hf3⟩ := x3.out D _ hh' hb' hf'
            have x03 := x'.trans x3
            cases b with
            | false =>
              rw [if_neg Bool.false_ne_true] at q ⊢
              exact ⟨B3, φ3, S2, acc, av, w3, x03, hb3, hf3, hh3, Reps.mono (xx.b.trans x3.b) _ rr, Nat.le_succ_of_le hai, q⟩
            | true =>
              rw [if_pos rfl] at q ⊢
              refine ⟨ρ1, B3, φ3, S2, w3, en2.mono x3.b x3.p, ?_⟩
              cases e3 : el ρ1 S2 with
              | bad => rw [e3] at q; exact q.elim
              | exc e' S' => rw [e3] at q; exact q.elim
              | ok dv S4 =>
                rw [e3] at q
                cases dv with
                | hnd n => exact q.elim
                | p d' =>
                  have q : WP G W σ H1 B1 φ1 (((compL t cf el (wipeN ρ vs) (ds.drop (i + 1)) S4).bind fun r S3 => Out.ok (d' :: r) S3).bind fun r S2 => Out.ok (Dv.p (DL.D.lst (acc ++ r))) S2) (fun d H' B' φ' _ => ∀ v, RepV G B' φ' d v → Q v H') := q
                  rw [Out.bind_assoc] at q
                  intro H4 B4 φ4 x4 w4 v4 r4
                  obtain ⟨hh4, hb4, hf4⟩ := x4.out D _ hh3 hb3 hf3
                  have x04 := x03.trans x4
                  have rr4 : Reps G B4 acc av := Reps.mono (xx.b.trans (x3.b.trans x4.b)) _ rr
                  refine ⟨av, hh4, ?_, B4, φ4, S4, acc ++ [d'], av ++ [v4], w4.priv hb4 hf4, ⟨x04.b, x04.p, fun a u h1 h2 h3 => ?_⟩, hb4, hf4, upd_same, rr4.append (Reps.cons r4 Reps.nil), by rw [List.length_append]; show acc.length + 1 ≤ _; omega, ?_⟩
                  · rw [← rr4.length, ← big_eq]; omega
                  · have na : a ≠ D := ne_of_none h1 hD
                    rw [upd_ne na]
                    exact x04.out a u h1 h2 h3
                  · have e5 : (fun (r : List DL.D) (S2 : Sto) => (Out.ok (d' :: r) S2).bind fun r S2 => Out.ok (Dv.p (.lst (acc ++ r))) S2) = fun r S2 => Out.ok (Dv.p (.lst ((acc ++ [d']) ++ r))) S2 := by
                      funext r S2
                      show Out.ok (Dv.p (.lst (acc ++ (d' :: r)))) S2 = _
                      rw [List.append_assoc]; rfl
                    rw [← e5]
                    exact q
    · have e : i = ds.length := by omega
      subst e
      rw [List.drop_length] at q
      refine .inl ⟨y2 rfl, ?_⟩
      have q : WP G W σ H1 B1 φ1 (.ok (.p (.lst (acc ++ []))) S) (fun d H' B' φ' _ => ∀ v, RepV G B' φ' d v → Q v H') := q
      rw [List.append_nil] at q
      have sb : Same B (upd B D (.lst av)) := same_upd' hb
      refine q H (upd B D (.lst av)) φ ⟨x.b.trans sb, x.p, fun a u h1 h2 h3 => ?_⟩ (w.adopt hh hb hf) _ (rep_lst.mpr ⟨D, av, rfl, upd_same, Reps.mono sb _ rr⟩)
      have na : a ≠ D := ne_of_none h1 hD
      rw [upd_ne na]
      exact x.out a u h1 h2 h3
  · exact q1.elim
theorem de_comp {elt tg iter : Expr} {ifs : List Expr} {scope : Scope} {own : List (Str × Nat)} {it : If} {ts : List Nat} {t : Tgt} {cf : Tf} {el : Ef} (hc : X.calm = true) (hN : X.N.Nodup) (hi : PI X tg iter (tI G W it)) (ok : BlkOk X.N X.env.scope scope own)
    (hts : ∀ i ∈ ts, i ∈ own.map (·.2))
    (hg : ∀ (s : Shared) (H : Hp) (C : Addr) (cl : List (Str × Addr)) (fp : List Addr), PG (X.blk s H scope (compEnvC scope cl C X.env) fp) tg (tG G ts t))
    (ht : ∀ (s : Shared) (H : Hp) (C : Addr) (cl : List (Str × Addr)) (fp : List Addr), PTs (X.blk s H scope (compEnvC scope cl C X.env) fp) ifs (tT G noW cf))
    (he : ∀ (s : Shared) (H : Hp) (C : Addr) (cl : List (Str × Addr)) (fp : List Addr), PE (X.blk s H scope (compEnvC scope cl C X.env) fp) elt (tD G noW el))
    (hs : ∀ x, foldedSetIterable iter X.env x = pure x := by intro _; rfl) :
    PE X (.ListComp elt [⟨tg, iter, ifs, 0⟩] scope pos) (tD G W (dComp (own.map (·.2)) it t cf el)) :=
  wkE (pe_lc hc hN hi ok hg ht he hs) (comp_le hts)
theorem dp_setLc {i : Nat} {y : Str} {py spos : Pos} {elt tg iter : Expr} {ifs : List Expr} {scope : Scope} {own : List (Str × Nat)} {it : If} {ts : List Nat} {t : Tgt} {cf : Tf} {el : Ef} (hc : X.calm = true) (hN : X.N.Nodup) (hy : X.N[i]? = some y) (hyl : X.env.scope.names.lookup y = some .local) (hk : X.env.scope.kind = .function) (hl : (py.line == pos.line) = true) (hna : (scope.names.any fun (n, k) => n == y && (k == .local || k == .cell)) = false) (hi : PI X tg iter (tI G W it)) (ok : BlkOk X.N X.env.scope scope own)
    (hts : ∀ i ∈ ts, i ∈ own.map (·.2))
    (hg : ∀ (s : Shared) (H : Hp) (C : Addr) (cl : List (Str × Addr)) (fp : List Addr), PG (X.blk s H scope (compEnvC scope cl C X.env) fp) tg (tG G ts t))
    (ht : ∀ (s : Shared) (H : Hp) (C : Addr) (cl : List (Str × Addr)) (fp : List Addr), PTs (X.blk s H scope (compEnvC scope cl C X.env) fp) ifs (tT G noW cf))
    (he : ∀ (s : Shared) (H : Hp) (C : Addr) (cl : List (Str × Addr)) (fp : List Addr), PE (X.blk s H scope (compEnvC scope cl C X.env) fp) elt (tD G noW el))
    (hs : ∀ x, foldedSetIterable iter X.env x = pure x := by intro _; rfl) :
    PS X (.Assign [.Name y py] (.ListComp elt [⟨tg, iter, ifs, 0⟩] scope pos) spos) (tS G W (sSet i (dComp (own.map (·.2)) it t cf el))) := by
  refine wkS (ps_setLc hc hN hy hyl (sw_true hk hyl hl hna) hi ok hg ht he hs) fun D σ H ⟨ρ, B, φ, S, w, en, h⟩ => ?_
  refine comp_le hts σ H _ ⟨ρ, B, φ, S, w, en, (WPS.fst en h).mono fun a H1 B1 φ1 S1 x1 w1 q1 v r1 => ?_⟩
  exact WPS.here w1 q1 _ ((en.mono x1.b x1.p).set i r1)
end
end DL

namespace DL
open PySem L2
open PySem.Spec PyProof.Rows
/-! ### defs of data alone -/
inductive PO where
  | ok (d : D) | exc (x : Ex) | bad
def spP (G : Gx) (n : Nat) (m : List D → PO) : Sp := fun vs H Q E => ∃ B ds, Same B H ∧ Reps G B ds vs ∧ ds.length = n ∧ match m ds with
  | .ok d => ∀ H' B' v, Xt H B [] H' B' [] → Same B' H' → Rep G B' d v → Q v H'
  | .exc x => ∀ H' B' c dd, Xt H B [] H' B' [] → Same B' H' → XRep G B' x c dd → E c dd H'
  | .bad => False
def init (n : Nat) (ds : List Dv) : Nv := ds.map some ++ List.replicate n none
def runP (n : Nat) (body : Sf) (ds : List D) : PO := match body (init n (ds.map Dv.p)) [] with
  | .ok (.rt (.p d)) _ => .ok d
  | .ok (.rt (.hnd i)) S => match S[i]? with
    | some (.lst es) => .ok (.lst es)
    | _ => .bad
  | .ok (.nx _) _ => .ok .non
  | .ok _ _ => .bad
  | .exc x _ _ => .exc x
  | .bad => .bad
/-- defs that change cells -/
def spE (G : Gx) (n : Nat) (m : List Dv → Sto → Out Dv) : Sp := fun vs H Q E => ∃ B φ S ds, Wd G H B φ S ∧ RepVs G B φ ds vs ∧ ds.length = n ∧
  WP G (fun c dd _ H' => E c dd H') [] H B φ (m ds S) fun d H' B' φ' _ => ∀ v, RepV G B' φ' d v → Q v H'
def runE (n : Nat) (body : Sf) (ds : List Dv) (S : Sto) : Out Dv := match body (init n ds) S with
  | .ok (.rt d) S' => .ok d S'
  | .ok (.nx _) S' => .ok (.p .non) S'
  | .ok _ _ => .bad
  | .exc x _ S' => .exc x S'
  | .bad => .bad
section
variable {G : Gx} {H B H' B' : Hp} {φ φ' : List Addr} {S S' : Sto}
theorem Wd.none (s : Same B H) : Wd G H B [] [] := ⟨s, List.nodup_nil, rfl, fun i a c h => by simp at h, fun i j c h => by simp at h⟩
theorem Xt.bare (x : Xt H B [] H' B' φ') : Xt H B [] H' B' [] := ⟨x.b, List.prefix_refl _, fun a o h1 h2 h3 => let ⟨q1, q2, _⟩ := x.out a o h1 h2 h3; ⟨q1, q2, h3⟩⟩
/-- behind a call of a def of data -/
theorem Wd.call (w : Wd G H B φ S) (x : Xt H B [] H' B' []) (s : Same B' H') : Wd G H' B' φ S ∧ Xt H B φ H' B' φ := by
  have out : ∀ a o, H a = some o → B a = .none → H' a = some o ∧ B' a = .none := fun a o h1 h2 => let ⟨q1, q2, _⟩ := x.out a o h1 h2 (by simp); ⟨q1, q2⟩
  refine ⟨⟨s, w.nd, w.len, fun i a c h1 h2 => ?_, w.sec⟩, ⟨x.b, List.prefix_refl _, fun a o h1 h2 h3 => let ⟨q1, q2⟩ := out a o h1 h2; ⟨q1, q2, h3⟩⟩⟩
  have r := w.cell i a c h1 h2
  obtain ⟨o, ho⟩ := r.there
  cases e : B a with
  | none => exact CellR.stay r x.b (List.prefix_refl _) ((out a o ho e).1.trans ho.symm) (fun _ _ => (out a o ho e).2) fun j dx q1 q2 ⟨u, q3⟩ q4 => ⟨(out dx u q3 q4).1.trans q3.symm, (out dx u q3 q4).2⟩
  | some u =>
    have e2 : H a = some u := w.sub _ _ e
    have e3 : H' a = some u := s _ _ (x.b _ _ e)
    exact CellR.stay r x.b (List.prefix_refl _) (e3.trans e2.symm) (fun _ q => by rw [e] at q; cases q) fun j dx q1 q2 ⟨u, q3⟩ q4 => ⟨(out dx u q3 q4).1.trans q3.symm, (out dx u q3 q4).2⟩
theorem reps_vs : ∀ {ds : List D} {vs : List V}, Reps G B ds vs → RepVs G B φ (ds.map Dv.p) vs
  | [], _, h => by unfold Reps at h; exact h
  | d :: ds, _, h => by
    unfold Reps at h
    obtain ⟨x, r, e, h1, h2⟩ := h
    exact ⟨x, r, e, h1, reps_vs h2⟩
theorem envR_init {N : List Str} {ds : List Dv} {vs : List V} (r : RepVs G B φ ds vs) (hl : N.length = ds.length + n) : EnvR G B φ (L2.start N vs) (init n ds) := by
  have e := r.length
  unfold L2.start init
  refine ⟨by simp; omega, fun i d h => ?_⟩
  by_cases hi : i < ds.length
  · rw [List.getElem?_append_left (by simpa using hi), List.getElem?_map] at h
    cases q : ds[i]? with
    | none => rw [q] at h; cases h
    | some d' =>
      rw [q] at h
      have : d' = d := by simpa using h
      subst this
      obtain ⟨v, h1, h2⟩ := r.get q
      exact ⟨v, by rw [List.getElem?_append_left (by simpa [← e] using hi), List.getElem?_map, h1]; rfl, h2⟩
  · rw [List.getElem?_append_right (by simpa using hi), List.getElem?_replicate] at h
    split at h <;> cases h
end
section
variable {P : Program} {w : World} {K : PySem.W.Frag} {mg : Str → Option Value} {base : Heap} {G : Gx}
/-- the context of a def's body, and what it knows -/
abbrev cxF (P : Program) (w : World) (K : PySem.W.Frag) (mg : Str → Option Value) (base : Heap) (N : List Str) (qual : Str) (scope : Scope) (f : Addr) (cd : Value) (A : Around) (outer : List Env) (s : Shared) (H : Hp) (E : XK) : Cx :=
  cxOf (L2.CX P w) P w K mg base N qual scope f cd A outer s H E
abbrev wF (E : XK) : WX := fun cls d _ H => E cls d H
theorem takesF {N : List Str} {qual : Str} {scope : Scope} {f : Addr} {cd : Value} {A : Around} {outer : List Env} {s : Shared} {H : Hp} {E : XK} : Takes (cxF P w K mg base N qual scope f cd A outer s H E) (wF E) := takes_of rfl rfl rfl rfl
theorem passesF {N : List Str} {qual : Str} {scope : Scope} {f : Addr} {cd : Value} {A : Around} {outer : List Env} {s : Shared} {H : Hp} {E : XK} :
    PassesOwn (model P w) (cxF P w K mg base N qual scope f cd A outer s H E).A (cxF P w K mg base N qual scope f cd A outer s H E).env (cxF P w K mg base N qual scope f cd A outer s H E).xe :=
  passes_of (X := cxF P w K mg base N qual scope f cd A outer s H E) rfl
theorem ok_P {x qual : Str} {st : Stmt} {f : Addr} {fd : FuncData} {N ps : List Str} {k n : Nat} {body : Sf} (F : Fun K x qual st f fd) (Sc : FnScope N ps (defScope st)) (hN : N.length = ps.length + n)
    (der : ∀ (cd : Value) (A : Around) (outer : List Env) (s : Shared) (H : Hp) (E : XK), Room k (cxF P w K mg base N qual (defScope st) f cd A outer s H E).A →
      PSs (cxF P w K mg base N qual (defScope st) f cd A outer s H E) (defBody st) (tS G (wF E) body)) : FnOk P w K mg base (L2.CX P w) (k + 1) f fd ps (spP G ps.length (runP n body)) := by
  refine F.okX Sc (fun vs H Q E h => ?_) (fun cd A outer s H vs Q E hr h => ?_)
  · obtain ⟨B, ds, _, r, hl, _⟩ := h
    rw [← r.length, hl]
  · obtain ⟨B, ds, sb, r, hl, h⟩ := h
    refine ⟨_, der cd A outer s H E hr, init n (ds.map Dv.p), B, [], [], Wd.none sb, envR_init (reps_vs r) (by rw [List.length_map, hl, hN]), ?_⟩
    unfold runP at h
    cases q : body (init n (ds.map Dv.p)) [] with
    | bad => rw [q] at h; exact h.elim
    | exc e ρ S => rw [q] at h; exact fun H' B' φ' c dd σ xx w' r' _ => h H' B' c dd xx.bare w'.sub r'
    | ok fl S =>
      rw [q] at h
      cases fl with
      | nx ρ => exact fun H' B' φ' xx w' σ _ => h H' B' _ xx.bare w'.sub (by unfold Rep; rfl)
      | bk ρ => exact h.elim
      | ct ρ => exact h.elim
      | rt d =>
        cases d with
        | p d => exact fun H' B' φ' xx w' v r' => h H' B' v xx.bare w'.sub r'
        | hnd i =>
          dsimp only at h
          cases qi : S[i]? with
          | none => rw [qi] at h; exact h.elim
          | some c =>
            rw [qi] at h
            cases c with
            | lst es =>
              intro H' B' φ' xx w' v r'
              obtain ⟨a, ha, rfl⟩ := r'
              obtain ⟨xs, h1, h2, h3, w2, x2⟩ := w'.thaw ha qi
              exact h H' _ _ (xx.trans x2).bare w2.sub (rep_lst (φ := []).mpr ⟨a, xs, rfl, upd_same, Reps.mono x2.b _ h3⟩)
            | rcd _ => exact h.elim
            | ins _ _ => exact h.elim
            | dead => exact h.elim
            | raw _ => exact h.elim
            | slt _ _ => exact h.elim
theorem ok_E {x qual : Str} {st : Stmt} {f : Addr} {fd : FuncData} {N ps : List Str} {k n : Nat} {body : Sf} (F : Fun K x qual st f fd) (Sc : FnScope N ps (defScope st)) (hN : N.length = ps.length + n)
    (der : ∀ (cd : Value) (A : Around) (outer : List Env) (s : Shared) (H : Hp) (E : XK), Room k (cxF P w K mg base N qual (defScope st) f cd A outer s H E).A →
      PSs (cxF P w K mg base N qual (defScope st) f cd A outer s H E) (defBody st) (tS G (wF E) body)) : FnOk P w K mg base (L2.CX P w) (k + 1) f fd ps (spE G ps.length (runE n body)) := by
  refine F.okX Sc (fun vs H Q E h => ?_) (fun cd A outer s H vs Q E hr h => ?_)
  · obtain ⟨B, φ, S, ds, _, r, hl, _⟩ := h
    rw [← r.length, hl]
  · obtain ⟨B, φ, S, ds, w0, r, hl, h⟩ := h
    refine ⟨_, der cd A outer s H E hr, init n ds, B, φ, S, w0, envR_init r (by rw [hl, hN]), ?_⟩
    unfold runE at h
    cases q : body (init n ds) S with
    | bad => rw [q] at h; exact h.elim
    | exc e ρ S => rw [q] at h; exact fun H' B' φ' c dd σ xx w' r' _ => h H' B' φ' c dd xx w' r'
    | ok fl S =>
      rw [q] at h
      cases fl with
      | nx ρ => exact fun H' B' φ' xx w' σ _ => h H' B' φ' xx w' _ (rep_non.mpr rfl)
      | bk ρ => exact h.elim
      | ct ρ => exact h.elim
      | rt d => exact fun H' B' φ' xx w' v r' => h H' B' φ' xx w' v r'
end
/-! calls -/
def dCallP (m : List D → PO) (a : Af) : Ef := fun ρ S => (a ρ S).bind fun xs S1 => match allP xs with
  | some ds => match m ds with
    | .ok d => .ok (.p d) S1
    | .exc x => .exc x S1
    | .bad => .bad
  | none => .bad
def dCallE (m : List Dv → Sto → Out Dv) (a : Af) : Ef := fun ρ S => (a ρ S).bind fun xs S1 => m xs S1
section
variable {X : Cx} {G : Gx} {W : WX} {k n : Nat} {f : Addr} {fd : FuncData} {ps : List Str} {x : Str} {p pos : Pos} {e : Expr} {es : List Expr} {af : Af} {H B : Hp} {φ : List Addr} {S : Sto} {σ : L2.St} {Q : VK}
/-- the callee's promise at the arguments -/
theorem spP_of {m : List D → PO} {xs : List Dv} {vs : List V} {ds : List D} (hn : ds.length = n) (w : Wd G H B φ S) (r : RepVs G B φ xs vs) (ha : allP xs = some ds)
    (h : WP G W σ H B φ (match m ds with
      | .ok d => .ok (.p d) S
      | .exc x => .exc x S
      | .bad => .bad : Out Dv) fun d H' B' φ' _ => ∀ v, RepV G B' φ' d v → Q v H') : spP G n m vs H Q (WE W σ) := by
  refine ⟨B, ds, w.sub, allP_rep ha r, hn, ?_⟩
  cases q : m ds with
  | bad => rw [q] at h; exact h
  | ok d =>
    rw [q] at h
    intro H' B' v xx s r'
    obtain ⟨w', x'⟩ := w.call xx s
    exact h H' B' φ x' w' v r'
  | exc x =>
    rw [q] at h
    intro H' B' c dd xx s r'
    obtain ⟨w', x'⟩ := w.call xx s
    exact h H' B' φ c dd x' w' r'
theorem de_callP {m : List D → PO} (tk : Takes X W) (F : FnOk X.prog X.w X.K X.mg X.base (L2.CX X.prog X.w) k f fd ps (spP G n m)) (hr : Room k X.A) (hg : Gl X x) (hm : X.mg x = some (.ref f)) (hk : PySem.W.keepIn X.K (.ref f) = true) (hb : Binds X.K fd ps [])
    (hn : ∀ ρ S xs S', af ρ S = .ok xs S' → xs.length = n)
    (ha : PA X (e :: es) (tA G W af)) (hdb : (x == ("__debug__" : Str)) = false := by decide) (he : starEach (e :: es) X.env = (false, eval e X.env) :: starEach es X.env := by rfl) (hpl : (backTo pos (starEach es X.env)).any (·.1) = false := by rfl) :
    PE X (.Call (.Name x p) (e :: es) [] pos) (tD G W (dCallP m af)) := by
  refine wkE (pe_callS F hr hg hm hk hb (fun σ => passAt tk σ) ha hdb he hpl) fun σ H Q ⟨ρ, B, φ, S, w, en, q⟩ => ?_
  have hlen : ∀ xs S', af ρ S = .ok xs S' → xs.length = n := hn ρ S
  cases qa : af ρ S with
  | bad => unfold dCallP at q; rw [qa] at q; exact q.elim
  | exc x0 S0 => unfold dCallP at q; rw [qa] at q; exact ⟨ρ, B, φ, S, w, en, by rw [qa]; exact q⟩
  | ok xs0 S0 =>
    have l0 := hlen xs0 S0 qa
    refine ⟨ρ, B, φ, S, w, en, ?_⟩
    unfold dCallP at q
    rw [qa] at q ⊢
    intro H1 B1 φ1 x1 w1 vs r1
    have q1 := WP.rebase x1 q
    have q1 : WP G W σ H1 B1 φ1 (match allP xs0 with
      | some ds => match m ds with
        | .ok d => .ok (.p d) S0
        | .exc x => .exc x S0
        | .bad => .bad
      | none => .bad : Out Dv) (fun d H' B' φ' _ => ∀ v, RepV G B' φ' d v → Q v H') := q1
    cases qp : allP xs0 with
    | none => rw [qp] at q1; exact q1.elim
    | some ds =>
      rw [qp] at q1
      have l1 : ds.length = n := by rw [(allP_rep qp r1).length, ← r1.length, l0]
      exact spP_of l1 w1 r1 qp q1
theorem de_callE {m : List Dv → Sto → Out Dv} (tk : Takes X W) (F : FnOk X.prog X.w X.K X.mg X.base (L2.CX X.prog X.w) k f fd ps (spE G n m)) (hr : Room k X.A) (hg : Gl X x) (hm : X.mg x = some (.ref f)) (hk : PySem.W.keepIn X.K (.ref f) = true) (hb : Binds X.K fd ps [])
    (hn : ∀ ρ S xs S', af ρ S = .ok xs S' → xs.length = n)
    (ha : PA X (e :: es) (tA G W af)) (hdb : (x == ("__debug__" : Str)) = false := by decide) (he : starEach (e :: es) X.env = (false, eval e X.env) :: starEach es X.env := by rfl) (hpl : (backTo pos (starEach es X.env)).any (·.1) = false := by rfl) :
    PE X (.Call (.Name x p) (e :: es) [] pos) (tD G W (dCallE m af)) := by
  refine wkE (pe_callS F hr hg hm hk hb (fun σ => passAt tk σ) ha hdb he hpl) fun σ H Q ⟨ρ, B, φ, S, w, en, q⟩ => ?_
  cases qa : af ρ S with
  | bad => unfold dCallE at q; rw [qa] at q; exact q.elim
  | exc x0 S0 => unfold dCallE at q; rw [qa] at q; exact ⟨ρ, B, φ, S, w, en, by rw [qa]; exact q⟩
  | ok xs0 S0 =>
    have l0 := hn ρ S xs0 S0 qa
    refine ⟨ρ, B, φ, S, w, en, ?_⟩
    unfold dCallE at q
    rw [qa] at q ⊢
    intro H1 B1 φ1 x1 w1 vs r1
    have q1 : WP G W σ H1 B1 φ1 (m xs0 S0) (fun d H' B' φ' _ => ∀ v, RepV G B' φ' d v → Q v H') := WP.rebase x1 q
    refine ⟨B1, φ1, S0, xs0, w1, r1, l0, ?_⟩
    cases qm : m xs0 S0 with
    | bad => rw [qm] at q1; exact q1
    | ok d S' => rw [qm] at q1; exact q1
    | exc x S' => rw [qm] at q1; exact q1
/-- argument lists have their length -/
theorem aNil_len {ρ : Nv} {S S' : Sto} {xs : List Dv} (h : aNil ρ S = .ok xs S') : xs.length = 0 := by
  unfold aNil at h; cases h; rfl
theorem aCons_len {ff : Ef} {m : Nat} (h : ∀ ρ S xs S', af ρ S = .ok xs S' → xs.length = m) (ρ : Nv) (S : Sto) (xs : List Dv) (S' : Sto) (q : aCons ff af ρ S = .ok xs S') : xs.length = m + 1 := by
  unfold aCons at q
  cases q1 : ff ρ S with
  | bad => rw [q1] at q; cases q
  | exc _ _ => rw [q1] at q; cases q
  | ok d S1 =>
    rw [q1] at q
    have q : ((af ρ S1).bind fun xs S2 => Out.ok (d :: xs) S2) = .ok xs S' := q
    cases q2 : af ρ S1 with
    | bad => rw [q2] at q; cases q
    | exc _ _ => rw [q2] at q; cases q
    | ok ys S2 =>
      rw [q2] at q
      have q : Out.ok (d :: ys) S2 = .ok xs S' := q
      cases q
      rw [List.length_cons, h _ _ _ _ q2]
/-! built-ins -/
theorem de_callB {id : String} {r : List V → Hp → VK → Prop} {op : OpN} (hc : CallR X (.builtin id) r) (ok : OkN G W r op) (hg : Gl X x) (hm : X.mg x = none) (hv : bootBuiltins x = some (.builtin id)) (ha : PA X (e :: es) (tA G W af)) (hn : x ≠ "__name__" := by decide) (hdb : (x == ("__debug__" : Str)) = false := by decide)
    (he : starEach (e :: es) X.env = (false, eval e X.env) :: starEach es X.env := by rfl) (hpl : (backTo pos (starEach es X.env)).any (·.1) = false := by rfl) : PE X (.Call (.Name x p) (e :: es) [] pos) (tD G W (dCall op af)) :=
  wkE (pe_callB hc hg hm hv ha hn hdb he hpl) fun σ H Q ⟨ρ, B, φ, S, w, en, q⟩ => tA.run w en (WP.fst q) fun ds vs H1 B1 φ1 S1 x1 w1 en1 r1 q1 => ok H1 B1 φ1 S1 σ ds vs Q w1 r1 q1
theorem de_callTy {T : String} {r : List V → Hp → VK → Prop} {op : OpN} (hc : CallR X (.type T) r) (ok : OkN G W r op) (hg : Gl X x) (hm : X.mg x = none) (hv : bootBuiltins x = some (.type T)) (ha : PA X (e :: es) (tA G W af)) (hn : x ≠ "__name__" := by decide) (hdb : (x == ("__debug__" : Str)) = false := by decide)
    (he : starEach (e :: es) X.env = (false, eval e X.env) :: starEach es X.env := by rfl) (hpl : (backTo pos (starEach es X.env)).any (·.1) = false := by rfl) : PE X (.Call (.Name x p) (e :: es) [] pos) (tD G W (dCall op af)) :=
  wkE (pe_callTy hc hg hm hv ha hn hdb he hpl) fun σ H Q ⟨ρ, B, φ, S, w, en, q⟩ => tA.run w en (WP.fst q) fun ds vs H1 B1 φ1 S1 x1 w1 en1 r1 q1 => ok H1 B1 φ1 S1 σ ds vs Q w1 r1 q1
theorem rvs1 {d : Dv} {vs : List V} (r : RepVs G B φ [d] vs) : ∃ v, vs = [v] ∧ RepV G B φ d v := by
  obtain ⟨v, t, rfl, h, e⟩ := r
  rw [show t = [] from e]; exact ⟨v, rfl, h⟩
theorem rvs2 {d d' : Dv} {vs : List V} (r : RepVs G B φ [d, d'] vs) : ∃ v u, vs = [v, u] ∧ RepV G B φ d v ∧ RepV G B φ d' u := by
  obtain ⟨v, t, rfl, h, u, t2, rfl, h2, e⟩ := r
  rw [show t2 = [] from e]; exact ⟨v, u, rfl, h, h2⟩
/-- int(n) -/
def nInt : OpN := fun xs S => match xs with
  | [.p (.int i)] => .ok (.p (.int i)) S
  | [.p (.bl b)] => .ok (.p (.int (if b then 1 else 0))) S
  | _ => .bad
theorem nInt_ok : OkN G W (fun xs H Q => (∃ i, xs = [.int i] ∧ Q (.int i) H) ∨ ∃ k, xs = [.bl k] ∧ Q (.int (if k then 1 else 0)) H) nInt := by
  intro H B φ S σ xs vs Q w r h
  unfold nInt at h
  split at h
  · obtain ⟨v, rfl, rv⟩ := rvs1 r
    exact .inl ⟨_, by rw [rep_int.mp rv], h H B φ Xt.refl w _ (rep_int.mpr rfl)⟩
  · obtain ⟨v, rfl, rv⟩ := rvs1 r
    exact .inr ⟨_, by rw [rep_bl.mp rv], h H B φ Xt.refl w _ (rep_int.mpr rfl)⟩
  · exact h.elim
/-- len -/
def nLen : OpN := fun xs S => match xs with
  | [.p (.scr ns)] => .ok (.p (.int ns.length)) S
  | [x] => match sqOf S x with
    | some ds => .ok (.p (.int ds.length)) S
    | none => .bad
  | _ => .bad
theorem nLen_ok : OkN G W (fun xs H Q => ∃ p ys, xs = [.ref p] ∧ (SqL G.K H p ys ∨ SqT G.K H p ys) ∧ Q (.int ys.length) H) nLen := by
  intro H B φ S σ xs vs Q w r h
  unfold nLen at h
  split at h
  · obtain ⟨v, rfl, rv⟩ := rvs1 r
    obtain ⟨a, rfl, s1⟩ := rep_scr.mp rv
    exact ⟨a, _, rfl, .inl (w.sub.seq s1), by rw [List.length_map]; exact h H B φ Xt.refl w _ (rep_int.mpr rfl)⟩
  · split at h
    · rename_i ds hs
      obtain ⟨v, rfl, rv⟩ := rvs1 r
      obtain ⟨a, ys, rfl, s1, q1⟩ := sq_at w rv hs
      exact ⟨a, ys, rfl, s1, by rw [← q1.length]; exact h H B φ Xt.refl w _ (rep_int.mpr rfl)⟩
    · exact h.elim
  · exact h.elim
/-- max, min of two -/
def nMax2 : OpN := fun xs S => match xs with
  | [.p (.int i), .p (.int j)] => .ok (.p (.int (if j > i then j else i))) S
  | _ => .bad
def nMin2 : OpN := fun xs S => match xs with
  | [.p (.int i), .p (.int j)] => .ok (.p (.int (if j < i then j else i))) S
  | _ => .bad
theorem nMax2_ok : OkN G W (fun xs H Q => ∃ i j, xs = [.int i, .int j] ∧ Q (.int (if j > i then j else i)) H) nMax2 := by
  intro H B φ S σ xs vs Q w r h
  unfold nMax2 at h
  split at h
  · obtain ⟨v, u, rfl, rv, ru⟩ := rvs2 r
    exact ⟨_, _, by rw [rep_int.mp rv, rep_int.mp ru], h H B φ Xt.refl w _ (rep_int.mpr rfl)⟩
  · exact h.elim
theorem nMin2_ok : OkN G W (fun xs H Q => ∃ i j, xs = [.int i, .int j] ∧ Q (.int (if j < i then j else i)) H) nMin2 := by
  intro H B φ S σ xs vs Q w r h
  unfold nMin2 at h
  split at h
  · obtain ⟨v, u, rfl, rv, ru⟩ := rvs2 r
    exact ⟨_, _, by rw [rep_int.mp rv, rep_int.mp ru], h H B φ Xt.refl w _ (rep_int.mpr rfl)⟩
  · exact h.elim
/-- list(x): data, or a cell -/
def lsOf (S : Sto) : Dv → Option (List D)
  | .p (.scr ns) => some (ns.map D.int)
  | x => sqOf S x
theorem ls_at {x : Dv} {v : V} {ds : List D} (w : Wd G H B φ S) (r : RepV G B φ x v) (h : lsOf S x = some ds) : ∃ a xs, v = .ref a ∧ (SqL G.K H a xs ∨ SqT G.K H a xs) ∧ Reps G B ds xs := by
  unfold lsOf at h
  split at h
  · rename_i ns
    cases h
    obtain ⟨a, rfl, s1⟩ := rep_scr.mp r
    exact ⟨a, _, rfl, .inl (w.sub.seq s1), Reps.ints ns⟩
  · exact sq_at w r h
def nList : OpN := fun xs S => match xs with
  | [x] => match lsOf S x with
    | some ds => .ok (.p (.lst ds)) S
    | none => .bad
  | _ => .bad
def nListC : OpN := fun xs S => match xs with
  | [x] => match lsOf S x with
    | some ds => .ok (.hnd S.length) (S ++ [.lst ds])
    | none => .bad
  | _ => .bad
theorem nList_ok : OkN G W (fun xs H Q => ∃ p ys, xs = [.ref p] ∧ (SqL G.K H p ys ∨ SqT G.K H p ys) ∧ ∀ l, H l = none → Q (.ref l) (upd H l (.lst ys))) nList := by
  intro H B φ S σ xs vs Q w r h
  unfold nList at h
  split at h
  · split at h
    · rename_i ds hs
      obtain ⟨v, rfl, rv⟩ := rvs1 r
      obtain ⟨a, ys, rfl, s1, q1⟩ := ls_at w rv hs
      exact ⟨a, ys, rfl, s1, fun l hl => h _ _ _ (Xt.alloc w hl) (w.alloc hl) _ (rep_lst.mpr ⟨l, _, rfl, upd_same, Reps.mono (same_upd' (w.bfree hl)) _ q1⟩)⟩
    · exact h.elim
  · exact h.elim
theorem nListC_ok : OkN G W (fun xs H Q => ∃ p ys, xs = [.ref p] ∧ (SqL G.K H p ys ∨ SqT G.K H p ys) ∧ ∀ l, H l = none → Q (.ref l) (upd H l (.lst ys))) nListC := by
  intro H B φ S σ xs vs Q w r h
  unfold nListC at h
  split at h
  · split at h
    · rename_i ds hs
      obtain ⟨v, rfl, rv⟩ := rvs1 r
      obtain ⟨a, ys, rfl, s1, q1⟩ := ls_at w rv hs
      refine ⟨a, ys, rfl, s1, fun l hl => ?_⟩
      obtain ⟨w2, x2, rr⟩ := cell_new (c := .lst ds) (o := .lst ys) w hl ⟨w.bfree hl, ys, upd_same, q1⟩
      exact h _ _ _ x2 w2 _ rr
    · exact h.elim
  · exact h.elim
/-! all -/
def blsOf : List D → Option (List Bool)
  | [] => some []
  | .bl b :: r => (blsOf r).map (b :: ·)
  | _ :: _ => none
theorem bls_at : ∀ {ds : List D} {bs : List Bool} {vs : List V}, blsOf ds = some bs → Reps G B ds vs → vs = bs.map V.bl
  | [], bs, _, h, r => by simp [blsOf] at h; subst h; unfold Reps at r; rw [r]; rfl
  | .bl b :: ds, bs, _, h, r => by
    simp only [blsOf, Option.map_eq_some_iff] at h
    obtain ⟨t, h1, rfl⟩ := h
    unfold Reps at r
    obtain ⟨x, u, rfl, r1, r2⟩ := r
    unfold Rep at r1
    rw [r1, bls_at h1 r2]; rfl
  | .non :: _, _, _, h, _ => by simp [blsOf] at h
  | .int _ :: _, _, _, h, _ => by simp [blsOf] at h
  | .str _ :: _, _, _, h, _ => by simp [blsOf] at h
  | .tup _ :: _, _, _, h, _ => by simp [blsOf] at h
  | .lst _ :: _, _, _, h, _ => by simp [blsOf] at h
  | .rul _ :: _, _, _, h, _ => by simp [blsOf] at h
  | .scr _ :: _, _, _, h, _ => by simp [blsOf] at h
def nAll : OpN := fun xs S => match xs with
  | [x] => match vw S x with
    | some ds => match blsOf ds with
      | some bs => .ok (.p (.bl (bs.all id))) S
      | none => .bad
    | none => .bad
  | _ => .bad
theorem nAll_ok : OkN G W (rAll G.K) nAll := by
  intro H B φ S σ xs vs Q w r h
  unfold nAll at h
  split at h
  · split at h
    · rename_i ds hs
      split at h
      · rename_i bs hb
        obtain ⟨v, rfl, rv⟩ := rvs1 r
        obtain ⟨a, ys, rfl, s1, q1⟩ := vw_at w rv hs
        exact ⟨a, bs, rfl, by rw [← bls_at hb q1]; exact SqL.of s1, h H B φ Xt.refl w _ (rep_bl.mpr rfl)⟩
      · exact h.elim
    · exact h.elim
  · exact h.elim
/-! max, min of a list of ints -/
def intsOf : List D → Option (List Int)
  | [] => some []
  | .int b :: r => (intsOf r).map (b :: ·)
  | _ :: _ => none
theorem ints_at' : ∀ {ds : List D} {bs : List Int} {vs : List V}, intsOf ds = some bs → Reps G B ds vs → vs = bs.map V.int
  | [], bs, _, h, r => by simp [intsOf] at h; subst h; unfold Reps at r; rw [r]; rfl
  | .int b :: ds, bs, _, h, r => by
    simp only [intsOf, Option.map_eq_some_iff] at h
    obtain ⟨t, h1, rfl⟩ := h
    unfold Reps at r
    obtain ⟨x, u, rfl, r1, r2⟩ := r
    unfold Rep at r1
    rw [r1, ints_at' h1 r2]; rfl
  | .non :: _, _, _, h, _ => by simp [intsOf] at h
  | .bl _ :: _, _, _, h, _ => by simp [intsOf] at h
  | .str _ :: _, _, _, h, _ => by simp [intsOf] at h
  | .tup _ :: _, _, _, h, _ => by simp [intsOf] at h
  | .lst _ :: _, _, _, h, _ => by simp [intsOf] at h
  | .rul _ :: _, _, _, h, _ => by simp [intsOf] at h
  | .scr _ :: _, _, _, h, _ => by simp [intsOf] at h
def maxI : Int → List Int → Int
  | m, [] => m
  | m, x :: r => maxI (if m < x then x else m) r
def minI : Int → List Int → Int
  | m, [] => m
  | m, x :: r => minI (if x < m then x else m) r
theorem maxI_mem : ∀ (r : List Int) (m : Int), (maxI m r = m ∨ maxI m r ∈ r) ∧ m ≤ maxI m r ∧ ∀ y ∈ r, y ≤ maxI m r
  | [], m => ⟨.inl rfl, Int.le_refl _, fun _ h => nomatch h⟩
  | x :: r, m => by
    obtain ⟨h1, h2, h3⟩ := maxI_mem r (if m < x then x else m)
    unfold maxI
    by_cases e : m < x
    · rw [if_pos e] at h1 h2 h3 ⊢
      refine ⟨.inr (h1.elim (fun z => by rw [z]; exact List.mem_cons_self) fun z => List.mem_cons_of_mem _ z), by omega, fun y hy => (List.mem_cons.mp hy).elim (fun z => by rw [z]; exact h2) (h3 y)⟩
    · rw [if_neg e] at h1 h2 h3 ⊢
      refine ⟨h1.imp id fun z => List.mem_cons_of_mem _ z, h2, fun y hy => (List.mem_cons.mp hy).elim (fun z => by rw [z]; omega) (h3 y)⟩
theorem minI_mem : ∀ (r : List Int) (m : Int), (minI m r = m ∨ minI m r ∈ r) ∧ minI m r ≤ m ∧ ∀ y ∈ r, minI m r ≤ y
  | [], m => ⟨.inl rfl, Int.le_refl _, fun _ h => nomatch h⟩
  | x :: r, m => by
    obtain ⟨h1, h2, h3⟩ := minI_mem r (if x < m then x else m)
    unfold minI
    by_cases e : x < m
    · rw [if_pos e] at h1 h2 h3 ⊢
      refine ⟨.inr (h1.elim (fun z => by rw [z]; exact List.mem_cons_self) fun z => List.mem_cons_of_mem _ z), by omega, fun y hy => (List.mem_cons.mp hy).elim (fun z => by rw [z]; exact h2) (h3 y)⟩
    · rw [if_neg e] at h1 h2 h3 ⊢
      refine ⟨h1.imp id fun z => List.mem_cons_of_mem _ z, h2, fun y hy => (List.mem_cons.mp hy).elim (fun z => by rw [z]; omega) (h3 y)⟩
def nMaxL : OpN := fun xs S => match xs with
  | [x] => match vw S x with
    | some ds => match intsOf ds with
      | some (m :: r) => .ok (.p (.int (maxI m r))) S
      | _ => .bad
    | none => .bad
  | _ => .bad
def nMinL : OpN := fun xs S => match xs with
  | [x] => match vw S x with
    | some ds => match intsOf ds with
      | some (m :: r) => .ok (.p (.int (minI m r))) S
      | _ => .bad
    | none => .bad
  | _ => .bad
theorem nMaxL_ok : OkN G W (rMax G.K) nMaxL := by
  intro H B φ S σ xs vs Q w r h
  unfold nMaxL at h
  split at h
  · split at h
    · rename_i ds hs
      split at h
      · rename_i m t hb
        obtain ⟨v, rfl, rv⟩ := rvs1 r
        obtain ⟨a, ys, rfl, s1, q1⟩ := vw_at w rv hs
        refine ⟨a, m :: t, rfl, by rw [← ints_at' hb q1]; exact SqL.of s1, Nat.succ_pos _, fun z hz hm => ?_⟩
        obtain ⟨h1, h2, h3⟩ := maxI_mem t m
        have e : z = maxI m t := by
          have a1 : maxI m t ≤ z := hm _ (h1.elim (fun q => by rw [q]; exact List.mem_cons_self) fun q => List.mem_cons_of_mem _ q)
          have a2 : z ≤ maxI m t := (List.mem_cons.mp hz).elim (fun q => by rw [q]; exact h2) (h3 z)
          omega
        rw [e]
        exact h H B φ Xt.refl w _ (rep_int.mpr rfl)
      · exact h.elim
    · exact h.elim
  · exact h.elim
theorem nMinL_ok : OkN G W (rMin G.K) nMinL := by
  intro H B φ S σ xs vs Q w r h
  unfold nMinL at h
  split at h
  · split at h
    · rename_i ds hs
      split at h
      · rename_i m t hb
        obtain ⟨v, rfl, rv⟩ := rvs1 r
        obtain ⟨a, ys, rfl, s1, q1⟩ := vw_at w rv hs
        refine ⟨a, m :: t, rfl, by rw [← ints_at' hb q1]; exact SqL.of s1, Nat.succ_pos _, fun z hz hm => ?_⟩
        obtain ⟨h1, h2, h3⟩ := minI_mem t m
        have e : z = minI m t := by
          have a1 : z ≤ minI m t := hm _ (h1.elim (fun q => by rw [q]; exact List.mem_cons_self) fun q => List.mem_cons_of_mem _ q)
          have a2 : minI m t ≤ z := (List.mem_cons.mp hz).elim (fun q => by rw [q]; exact h2) (h3 z)
          omega
        rw [e]
        exact h H B φ Xt.refl w _ (rep_int.mpr rfl)
      · exact h.elim
    · exact h.elim
  · exact h.elim
end
end DL

namespace DL
open PySem L2
open PySem.Spec PyProof.Rows
section
variable {X : Cx} {G : Gx} {W : WX} {k n : Nat} {f : Addr} {fd : FuncData} {ps : List Str} {x : Str} {p pos : Pos} {e : Expr} {es : List Expr} {af : Af} {ef eg eh : Ef} {H B H' B' : Hp} {φ φ' : List Addr} {S : Sto} {σ : L2.St} {Q : VK}
/-! ### C(..) of the class of rules -/
def dMake (m : List Dv → Sto → Out Dv) (a : Af) : Ef := fun ρ S => (a ρ S).bind fun xs S1 => match allP xs with
  | some ds => match m (.hnd 0 :: ds.map Dv.p) [.raw 1, .dead] with
    | .ok (.p .non) [.slt 1 es, .dead] => .ok (.p (.rul es)) S1
    | _ => .bad
  | none => .bad
theorem made_wd {x dx : Addr} (s : Same B H) (h1 : H x = none) (h2 : H dx = none) (hn : dx ≠ x) : Wd G (upd (upd H dx (.own x)) x (.ins G.rc dx [])) B [x, dx] [.raw 1, .dead] := by
  have b1 := s.free h1
  have b2 := s.free h2
  have e1 : upd (upd H dx (.own x)) x (.ins G.rc dx []) dx = some (.own x) := by rw [upd_ne hn, upd_same]
  refine ⟨fun b o q => ?_, ?_, rfl, fun i a c q1 q2 => ?_, fun i j c q1 q2 => ?_⟩
  · have n1 : b ≠ x := fun z => by subst z; rw [b1] at q; cases q
    have n2 : b ≠ dx := fun z => by subst z; rw [b2] at q; cases q
    rw [upd_ne n1, upd_ne n2]; exact s _ _ q
  · rw [List.nodup_cons]
    exact ⟨by simpa using Ne.symm hn, by simp⟩
  · match i, q1, q2 with
    | 0, q1, q2 =>
      cases q1
      cases q2
      exact ⟨b1, dx, rfl, b2, hn, upd_same, _, e1⟩
    | 1, q1, q2 =>
      cases q1
      cases q2
      exact ⟨_, e1⟩
    | i + 2, q1, _ => simp at q1
  · match i, q1 with
    | 0, q1 =>
      cases q1
      cases q2
      rfl
    | 1, q1 =>
      cases q1
      cases q2
    | i + 2, q1 => simp at q1
theorem de_make {fI : Addr} {m : List Dv → Sto → Out Dv} (M : Mk X.K G.rc fI) (F : FnOk X.prog X.w X.K X.mg X.base (L2.CX X.prog X.w) k fI fd ps (spE G (n + 1) m)) (hr : Room (k + 1) X.A) (hg : Gl X x) (hm : X.mg x = some (.ref G.rc)) (hb : Binds X.K fd ps [])
    (hn : ∀ ρ S xs S', af ρ S = .ok xs S' → xs.length = n)
    (ha : PA X (e :: es) (tA G W af)) (hdb : (x == ("__debug__" : Str)) = false := by decide) (he : starEach (e :: es) X.env = (false, eval e X.env) :: starEach es X.env := by rfl) (hpl : (backTo pos (starEach es X.env)).any (·.1) = false := by rfl) :
    PE X (.Call (.Name x p) (e :: es) [] pos) (tD G W (dMake m af)) := by
  refine wkE (pe_make M F hr hg hm hb .nil passL ha hdb he hpl) fun σ H Q ⟨ρ, B, φ, S, w, en, q⟩ => ?_
  cases qa : af ρ S with
  | bad => unfold dMake at q; rw [qa] at q; exact q.elim
  | exc x0 S0 => unfold dMake at q; rw [qa] at q; exact ⟨ρ, B, φ, S, w, en, by rw [qa]; exact q⟩
  | ok xs0 S0 =>
    have l0 := hn ρ S xs0 S0 qa
    refine ⟨ρ, B, φ, S, w, en, ?_⟩
    unfold dMake at q
    rw [qa] at q ⊢
    intro H1 B1 φ1 x1 w1 vs r1
    have q1 := WP.rebase x1 q
    have q1 : WP G W σ H1 B1 φ1 (match allP xs0 with
      | some ds => match m (.hnd 0 :: ds.map Dv.p) [.raw 1, .dead] with
        | .ok (.p .non) [.slt 1 es, .dead] => .ok (.p (.rul es)) S0
        | _ => .bad
      | none => .bad : Out Dv) (fun d H' B' φ' _ => ∀ v, RepV G B' φ' d v → Q v H') := q1
    cases qp : allP xs0 with
    | none => rw [qp] at q1; exact q1.elim
    | some ds =>
      rw [qp] at q1
      dsimp only at q1
      have rr := allP_rep qp r1
      have l1 : ds.length = n := by rw [rr.length, ← r1.length, l0]
      intro xx dx hx hdx hne
      rw [List.append_nil]
      refine ⟨B1, [xx, dx], [.raw 1, .dead], .hnd 0 :: ds.map Dv.p, made_wd w1.sub hx hdx hne, ⟨_, _, rfl, ⟨xx, rfl, rfl⟩, reps_vs rr⟩, by rw [List.length_cons, List.length_map, l1], ?_⟩
      cases qm : m (.hnd 0 :: ds.map Dv.p) [.raw 1, .dead] with
      | bad => rw [qm] at q1; exact q1.elim
      | exc e' S' => rw [qm] at q1; exact q1.elim
      | ok d S' =>
        rw [qm] at q1
        split at q1
        · rename_i es0 heq
          cases heq
          intro H2 B2 φ2 x2 w2 v rv
          refine ⟨rep_non.mp rv, ?_⟩
          have hφ : φ2 = [xx, dx] := by
            obtain ⟨t, e1⟩ := x2.p
            have := w2.len
            rw [← e1] at this ⊢
            simp at this
            subst this
            rfl
          subst hφ
          obtain ⟨b1, dx', t, ys, e1, b2, _, h1, h2, s1, rs⟩ : CellR G H2 B2 [xx, dx] xx (.slt 1 es0) := w2.cell 0 xx _ rfl rfl
          cases e1
          have sb : Same B2 (upd (upd B2 dx (.xd [])) xx (SlX.SlO xx G.rc dx [some (.ref t)])) := fun b o q => by
            have n1 : b ≠ xx := fun z => by subst z; rw [b1] at q; cases q
            have n2 : b ≠ dx := fun z => by subst z; rw [b2] at q; cases q
            rw [upd_ne n1, upd_ne n2]; exact q
          have e2 : upd (upd B2 dx (.xd [])) xx (SlX.SlO xx G.rc dx [some (.ref t)]) dx = some (.xd []) := by rw [upd_ne hne, upd_same]
          have s2 : Same (upd (upd B2 dx (.xd [])) xx (SlX.SlO xx G.rc dx [some (.ref t)])) H2 := fun b o q => by
            by_cases n1 : b = xx
            · subst n1; rw [upd_same] at q; rw [← q]; exact h1
            · by_cases n2 : b = dx
              · subst n2; rw [e2] at q; rw [← q]; exact h2
              · rw [upd_ne n1, upd_ne n2] at q; exact w2.sub _ _ q
          have xc : Xt H1 B1 [] H2 (upd (upd B2 dx (.xd [])) xx (SlX.SlO xx G.rc dx [some (.ref t)])) [] := by
            refine ⟨x2.b.trans sb, List.prefix_refl _, fun a o a1 a2 _ => ?_⟩
            have n1 : a ≠ xx := ne_of_none a1 hx
            have n2 : a ≠ dx := ne_of_none a1 hdx
            obtain ⟨a3, a4, _⟩ := x2.out a o (by rw [upd_ne n1, upd_ne n2]; exact a1) a2 (by simp [n1, n2])
            exact ⟨a3, by rw [upd_ne n1, upd_ne n2]; exact a4, by simp⟩
          obtain ⟨w3, x3⟩ := w1.call xc s2
          exact q1 H2 _ φ1 x3 w3 _ (rep_rul.mpr ⟨xx, dx, t, ys, rfl, upd_same, e2, sqT_mono sb s1, Reps.mono sb _ rs⟩)
        · exact q1.elim
/-- rule.parts -/
def dParts (f : Ef) : Ef := fun ρ S => (f ρ S).bind fun d S1 => match d with
  | .p (.rul ds) => .ok (.p (.tup ds)) S1
  | _ => .bad
theorem de_parts {a : Str} {q : Addr} (c : SlX.SCls X.K G.rc) (s : SlX.Slot1 X.K G.rc a q 0) (hK : X.K = G.K) (he : PE X e (tD G W ef)) (hb : attributeBase e a X.env (eval e X.env) = eval e X.env := by rfl) : PE X (.Attribute e a pos) (tD G W (dParts ef)) := by
  refine wkE (SlX.pe_sl he hb) fun σ H Q ⟨ρ, B, φ, S, w, en, h⟩ => tD.run w en (WP.fst h) fun d v H1 B1 φ1 S1 x1 w1 en1 r1 q1 => ?_
  split at q1
  · rename_i ds
    obtain ⟨p, dx, t, xs, rfl, h1, h2, h3, h4⟩ := rep_rul.mp r1
    exact ⟨p, G.rc, dx, q, [some (.ref t)], 0, .ref t, rfl, .inr ⟨w1.sub _ _ h1, w1.sub _ _ h2⟩, c, s, rfl, q1 H1 B1 φ1 Xt.refl w1 _ (rep_tup.mpr ⟨t, xs, rfl, h3, h4⟩)⟩
  · exact q1.elim
/-- self.parts = e, in __init__ -/
def sParts (i : Nat) (f : Ef) : Sf := fun ρ S => (f ρ S).toS ρ fun d S1 => match d, ρ[i]?, S1 with
  | .p (.tup ds), some (some (.hnd 0)), [.raw 1, .dead] => .ok (.nx ρ) [.slt 1 ds, .dead]
  | _, _, _ => .bad
theorem dp_parts {i : Nat} {y : Str} {a : Str} {q : Addr} {pos' py : Pos} (c : SlX.SCls X.K G.rc) (s : SlX.Slot1 X.K G.rc a q 0) (hN : X.N[i]? = some y) (hv : Vis X.env.scope y) (he : PE X e (tD G W ef))
    (hs : swapsWith e (some (.Attribute (.Name y py) a pos')) pos.line X.env = pure false := by rfl) (hd : (y == ("__debug__" : Str)) = false := by decide) (hcd : (y == ("__classdict__" : Str)) = false := by decide) :
    PS X (.Assign [.Attribute (.Name y py) a pos'] e pos) (tS G W (sParts i ef)) := by
  refine wkS (SlX.ps_sl (pe_var hN hv hd hcd) he hs) fun D σ H ⟨ρ, B, φ, S, w, en, h⟩ => tD.run w en (WPS.fst en h) fun d v H1 B1 φ1 S1 x1 w1 en1 r1 q1 => ?_
  split at q1
  · rename_i ds hi
    obtain ⟨v0, hσ, a0, hφ, rfl⟩ := en1.at_ i _ hi
    obtain ⟨b1, dx, e1, b2, hne, h1, o, h2⟩ : CellR G H1 B1 φ1 a0 (.raw 1) := w1.cell 0 a0 _ hφ rfl
    obtain ⟨t, xs, rfl, s1, rs⟩ := rep_tup.mp r1
    have hl : φ1.length = 2 := w1.len
    have e1 : φ1[1]? = some dx := e1
    have hφ : φ1[0]? = some a0 := hφ
    have eφ : φ1 = [a0, dx] := by
      match φ1, hl, hφ, e1 with
      | [u1, u2], _, hφ, e1 => cases hφ; cases e1; rfl
    subst eφ
    refine ⟨.ref a0, hσ, a0, G.rc, dx, q, [], 0, rfl, .inl ⟨h1, rfl⟩, c, s, ?_⟩
    have eH : SlX.slH H1 a0 G.rc dx (SlX.putS 0 (V.ref t) []) = upd (upd H1 dx (.xd [])) a0 (SlX.SlO a0 G.rc dx [some (.ref t)]) := rfl
    rw [eH]
    have e2 : upd (upd H1 dx (.xd [])) a0 (SlX.SlO a0 G.rc dx [some (.ref t)]) dx = some (.xd []) := by rw [upd_ne hne, upd_same]
    refine q1 _ B1 [a0, dx] ⟨Same.refl _, List.prefix_refl _, fun b u z1 z2 z3 => ?_⟩ ⟨fun b u z => ?_, w1.nd, rfl, fun i' a' c' z1 z2 => ?_, fun i' j' c' z1 z2 => ?_⟩ σ en1
    · have n1 : b ≠ a0 := fun z => z3 (by simp [z])
      have n2 : b ≠ dx := fun z => z3 (by simp [z])
      exact ⟨by rw [upd_ne n1, upd_ne n2]; exact z1, z2, z3⟩
    · have n1 : b ≠ a0 := fun y => by subst y; rw [b1] at z; cases z
      have n2 : b ≠ dx := fun y => by subst y; rw [b2] at z; cases z
      rw [upd_ne n1, upd_ne n2]; exact w1.sub _ _ z
    · match i', z1, z2 with
      | 0, z1, z2 =>
        cases z1
        cases z2
        exact ⟨b1, dx, t, xs, rfl, b2, hne, upd_same, e2, s1, rs⟩
      | 1, z1, z2 =>
        cases z1
        cases z2
        exact ⟨_, e2⟩
      | i' + 2, z1, _ => simp at z1
    · match i', z1 with
      | 0, z1 =>
        cases z1
        cases z2
        rfl
      | 1, z1 =>
        cases z1
        cases z2
      | i' + 2, z1 => simp at z1
  · exact q1.elim
/-! ### a tuple of the written part, a dict of it -/
theorem de_globT {a : Addr} {ds : List D} {xs : List V} (hg : Gl X x) (hm : X.mg x = some (.ref a)) (hq : SqT G.K (fun _ => none) a xs) (hr : ∀ B, Reps G B ds xs) (hd : (x == ("__debug__" : Str)) = false := by decide) : PE X (.Name x pos) (tD G W (dC (.tup ds))) :=
  wkE (pe_glob hg hm (v := .ref a) rfl hd) fun σ H Q ⟨ρ, B, φ, S, w, en, h⟩ => h H B φ Xt.refl w _ (rep_tup.mpr ⟨a, xs, rfl, sqT_mono (fun _ _ z => by cases z) hq, hr B⟩)
theorem de_globI {i : Int} {t : Tok} (hg : Gl X x) (hm : X.mg x = some (.int i t)) (hd : (x == ("__debug__" : Str)) = false := by decide) : PE X (.Name x pos) (tD G W (dC (.int i))) :=
  wkE (pe_glob hg hm (v := .int i) ⟨_, rfl⟩ hd) fun σ H Q ⟨ρ, B, φ, S, w, en, h⟩ => h H B φ Xt.refl w _ (rep_int.mpr rfl)
/-- T[e], T a written dict of texts to tuples -/
def dTab (tab : List (Str × List D)) (f : Ef) : Ef := fun ρ S => (f ρ S).bind fun d S1 => match d with
  | .p (.str z) => match tab.lookup z with
    | some ds => .ok (.p (.tup ds)) S1
    | none => .bad
  | _ => .bad
theorem de_tab {a : Addr} {tab : List (Str × List D)} (hK : X.K = G.K) (hg : Gl X x) (hm : X.mg x = some (.ref a)) (ht : ∀ z ds, tab.lookup z = some ds → ∃ b xs, KDct X.K X.w a z (.ref b) ∧ SqT G.K (fun _ => none) b xs ∧ ∀ B, Reps G B ds xs)
    (he : PE X e (tD G W ef)) (hs : PlainIx e) (hd : (x == ("__debug__" : Str)) = false := by decide) : PE X (.Subscript (.Name x p) e pos) (tD G W (dTab tab ef)) := by
  refine wkE (pe_ix ix_kdict (pe_glob hg hm (v := .ref a) rfl hd) he hs) fun σ H Q ⟨ρ, B, φ, S, w, en, h⟩ => ?_
  show tD G W ef σ H _
  refine tD.run w en (WP.fst h) fun d v H1 B1 φ1 S1 x1 w1 en1 r1 q1 => ?_
  split at q1
  · rename_i z
    split at q1
    · rename_i ds hl
      obtain ⟨b, xs, k1, k2, k3⟩ := ht z ds hl
      exact ⟨a, z, .ref b, rfl, rep_str.mp r1, k1, q1 H1 B1 φ1 Xt.refl w1 _ (rep_tup.mpr ⟨b, xs, rfl, sqT_mono (fun _ _ z => by cases z) k2, k3 B1⟩)⟩
    · exact q1.elim
  · exact q1.elim
end
end DL

namespace DL
open PySem L2
open PySem.Spec PyProof.Rows
section
variable {X : Cx} {G : Gx} {W : WX} {k n : Nat} {f : Addr} {fd : FuncData} {ps : List Str} {x : Str} {p pos : Pos} {e : Expr} {es : List Expr} {af : Af} {ef eg eh : Ef} {H B H' B' : Hp} {φ φ' : List Addr} {S : Sto} {σ : L2.St} {Q : VK}
/-! ### isinstance with built-in classes -/
def tyOf (S : Sto) : Dv → Option String
  | .p .non => some "NoneType"
  | .p (.bl _) => some "bool"
  | .p (.int _) => some "int"
  | .p (.str _) => some "str"
  | .p (.tup _) => some "tuple"
  | .p (.lst _) => some "list"
  | .p (.dki _) => some "dict"
  | .hnd n => match S[n]? with
    | some (.lst _) => some "list"
    | some (.rcd _) => some "list"
    | _ => none
  | _ => none
theorem tyOf_at {d : Dv} {v : V} {t : String} (w : Wd G H B φ S) (r : RepV G B φ d v) (h : tyOf S d = some t) : TyX G.K H v (.type t) := by
  unfold tyOf at h
  split at h
  · cases h; rw [rep_non.mp r]; exact .base .non
  · cases h; rw [rep_bl.mp r]; exact .base (.bl _)
  · cases h; rw [rep_int.mp r]; exact .base (.int _)
  · cases h; rw [rep_str.mp r]; exact .base (.str _)
  · cases h
    obtain ⟨a, xs, rfl, h1, _⟩ := rep_tup.mp r
    rcases h1 with (h1 | ⟨o, h1⟩) | ⟨o, its, n, h1, h2, _⟩
    · exact .base (.tup (w.sub _ _ h1))
    · exact .fTuple (w.sub _ _ h1)
    · exact .kTuple h1 h2
  · cases h
    obtain ⟨a, xs, rfl, h1, _⟩ := rep_lst.mp r
    exact .base (.lst (w.sub _ _ h1))
  · cases h
    have r : Rep G B (.dki _) v := r
    unfold Rep at r
    obtain ⟨a, rfl, h1⟩ := r
    exact .base (.dK (w.sub _ _ h1))
  · split at h
    · rename_i ds hs
      cases h
      obtain ⟨a, h1, rfl⟩ := r
      obtain ⟨_, xs, h3, _⟩ := w.cell _ a _ h1 hs
      exact .base (.lst h3)
    · rename_i ds hs
      cases h
      obtain ⟨a, h1, rfl⟩ := r
      obtain ⟨_, xs, h3, _⟩ := w.cell _ a _ h1 hs
      exact .base (.lst h3)
    · cases h
  · cases h
def dIs (T : String) (f : Ef) : Ef := fun ρ S => (f ρ S).bind fun d S1 => match tyOf S1 d with
  | some t => match kitB t T with
    | some b => .ok (.p (.bl b)) S1
    | none => .bad
  | none => .bad
theorem de_is {T : Str} {Ts : String} {pT : Pos} (hK : X.K = G.K) (he : PE X e (tD G W ef)) (hg : Gl X "isinstance") (hm : X.mg "isinstance" = none) (hgT : Gl X T) (hmT : X.mg T = none) (hvT : bootBuiltins T = some (.type Ts)) (hnT : T ≠ "__name__") (hdT : (T == ("__debug__" : Str)) = false)
    (h1 : starEach [e, .Name T pT] X.env = (false, eval e X.env) :: starEach [.Name T pT] X.env := by rfl) (h2 : starEach [.Name T pT] X.env = (false, eval (.Name T pT) X.env) :: starEach [] X.env := by rfl) (hpl : (backTo pos (starEach [.Name T pT] X.env)).any (·.1) = false := by rfl) :
    PE X (.Call (.Name "isinstance" p) [e, .Name T pT] [] pos) (tD G W (dIs Ts ef)) := by
  refine wkE (pe_callB call_isi hg hm boot_isinstance (pa_cons he (pa_cons (pe_bltn hgT hmT hvT (v := .ty Ts) rfl hnT hdT) pa_nil h2) h1) (by decide) (by decide) h1 hpl) fun σ H Q ⟨ρ, B, φ, S, w, en, h⟩ => tD.run w en (WP.fst h) fun d v H1 B1 φ1 S1 x1 w1 en1 r1 q1 => ?_
  split at q1
  · rename_i t ht
    split at q1
    · rename_i b hb
      exact ⟨v, .ty Ts, .type t, .type Ts, b, rfl, .ty Ts, hK ▸ tyOf_at w1 r1 ht, kit_ty hb, q1 H1 B1 φ1 Xt.refl w1 _ (rep_bl.mpr rfl)⟩
    · exact q1.elim
  · exact q1.elim
end
end DL

namespace DL
open PySem L2
open PySem.Spec PyProof.Rows
section
variable {X : Cx} {G : Gx} {W : WX} {k n : Nat} {f : Addr} {fd : FuncData} {ps : List Str} {x : Str} {p pos : Pos} {e : Expr} {es : List Expr} {af : Af} {ef eg eh : Ef} {H B H' B' : Hp} {φ φ' : List Addr} {S : Sto} {σ : L2.St} {Q : VK}
/-! ### o[i] = e, o.append(e), slices -/
def sSetI (fo fi fe : Ef) : Sf := fun ρ S => (fe ρ S).toS ρ fun d S1 => (fo ρ S1).toS ρ fun o S2 => (fi ρ S2).toS ρ fun i S3 => match o, i with
  | .hnd n, .p (.int k) => match S3[n]? with
    | some (.lst ds) => match ixN ds.length k, d with
      | some j, .p d' => .ok (.nx ρ) (S3.set n (.lst (ds.set j d')))
      | _, _ => .bad
    | some (.rcd ds) => match ixN ds.length k with
      | some j => .ok (.nx ρ) (S3.set n (.rcd (ds.set j d)))
      | none => .bad
    | _ => .bad
  | _, _ => .bad
theorem dp_setI {o i : Expr} {pt : Pos} (he : PE X e (tD G W eh)) (ho : PE X o (tD G W ef)) (hi : PE X i (tD G W eg))
    (ha : ∀ v, assign (.Subscript o i pt) X.env v = (do
      let ov ← holding [v] (eval o X.env)
      let iv ← holding [v, ov] (eval i X.env)
      standAt pt
      holding [v, ov, iv] (setItem ov iv v)
      release [v, ov, iv] []) := by intro _; rfl)
    (hs : swapsWithSole [.Subscript o i pt] e pos.line X.env = pure false := by rfl) (hw : swappedStores [.Subscript o i pt] e X.env = pure none := by rfl)
    (h1 : (assignEach [.Subscript o i pt] X.env).map (·.2) = [assign (.Subscript o i pt) X.env] := by rfl) : PS X (.Assign [.Subscript o i pt] e pos) (tS G W (sSetI ef eg eh)) := by
  refine wkS (ps_asg he (pg_sub ho hi set_list ha) hs hw h1) fun D σ H ⟨ρ, B, φ, S, w, en, h⟩ => tD.run w en (WPS.fst en h) fun d v H1 B1 φ1 S1 x1 w1 en1 r1 q1 => ?_
  refine tD.run w1 en1 (WPS.fst en1 q1) fun o v2 H2 B2 φ2 S2 x2 w2 en2 r2 q2 => ?_
  refine tD.run w2 en2 (WPS.fst en2 q2) fun i v3 H3 B3 φ3 S3 x3 w3 en3 r3 q3 => ?_
  have r1' := RepV.mono (x2.b.trans x3.b) (x2.p.trans x3.p) _ r1
  have r2' := RepV.mono x3.b x3.p _ r2
  split at q3
  · rename_i n kk
    obtain ⟨a, hφ, rfl⟩ := r2'
    have e3 := rep_int.mp r3
    subst e3
    split at q3
    · rename_i ds hs
      split at q3
      · rename_i j d' hj
        obtain ⟨hb, xs, hx, rr⟩ : CellR G H3 B3 φ3 a (.lst ds) := w3.cell n a _ hφ hs
        refine ⟨a, xs, kk, j, rfl, rfl, hx, by rw [← rr.length]; exact hj, ?_⟩
        have r1'' : Rep G B3 d' v := r1'
        exact q3 _ B3 φ3 (Xt.set hφ) (w3.set hφ hs (fun z => nomatch z) hb ⟨hb, _, upd_same, rr.set j r1''⟩ rfl) σ en3
      · exact q3.elim
    · rename_i ds hs
      split at q3
      · rename_i j hj
        obtain ⟨hb, xs, hx, rr⟩ : CellR G H3 B3 φ3 a (.rcd ds) := w3.cell n a _ hφ hs
        refine ⟨a, xs, kk, j, rfl, rfl, hx, by rw [← rr.length]; exact hj, ?_⟩
        exact q3 _ B3 φ3 (Xt.set hφ) (w3.set hφ hs (fun z => nomatch z) hb ⟨hb, _, upd_same, rr.set j r1'⟩ rfl) σ en3
      · exact q3.elim
    · exact q3.elim
  · exact q3.elim
def dApp (fo fe : Ef) : Ef := fun ρ S => (fo ρ S).bind fun o S1 => match o with
  | .hnd n => match S1[n]? with
    | some (.lst _) => (fe ρ S1).bind fun d S2 => match d, S2[n]? with
      | .p d', some (.lst ds) => if ds.length < big then .ok (.p .non) (S2.set n (.lst (ds ++ [d']))) else .bad
      | _, _ => .bad
    | _ => .bad
  | _ => .bad
theorem de_app {o : Expr} {apos : Pos} (ho : PE X o (tD G W ef)) (he : PE X e (tD G W eg))
    (hbase : attributeBase o "append" X.env (eval o X.env) = eval o X.env := by rfl)
    (hfew : ((backTo pos (starEach [e] X.env)).all (fun x => !x.1) && (backToKw pos (keywordEach [] X.env)).all (fun x => x.1.isSome) && decide ([e].length + ([] : List Keyword).length + (if ([] : List Keyword).isEmpty then 0 else 1) < 30)) = true := by rfl)
    (hline : (apos.endLine == pos.line) = true := by rfl) (hs : starEach [e] X.env = (false, eval e X.env) :: starEach [] X.env := by rfl) (hpl : (backTo pos (starEach [] X.env)).any (·.1) = false := by rfl) :
    PE X (.Call (.Attribute o "append" apos) [e] [] pos) (tD G W (dApp ef eg)) := by
  refine wkE (pe_bm PySem.F.plainAttrs_list PySem.F.slot_list_append PySem.F.type_list_append mt_append ho (pa_cons he pa_nil hs) hbase hfew hline hs hpl) fun σ H Q ⟨ρ, B, φ, S, w, en, h⟩ => tD.run w en (WP.fst h) fun o v H1 B1 φ1 S1 x1 w1 en1 r1 q1 => ?_
  split at q1
  · rename_i n
    split at q1
    · rename_i ds0 hs0
      have r1 : ∃ a, φ1[n]? = some a ∧ v = .ref a := r1
      obtain ⟨a, hφ, rfl⟩ := r1
      have c0 : CellR G H1 B1 φ1 a (.lst ds0) := w1.cell n a _ hφ hs0
      obtain ⟨_, xs0, hx0, _⟩ := c0
      refine ⟨.inl ⟨rfl, xs0, SqL.of hx0⟩, ?_⟩
      show tD G W eg σ H1 _
      refine tD.run w1 en1 (WP.fst q1) fun d v2 H2 B2 φ2 S2 x2 w2 en2 r2 q2 => ?_
      split at q2
      · rename_i d' ds hs
        split at q2
        · rename_i hl
          have hφ2 : φ2[n]? = some a := by
            obtain ⟨t, rfl⟩ := x2.p
            rw [List.getElem?_append_left (List.getElem?_eq_some_iff.mp hφ).1]; exact hφ
          have c2 : CellR G H2 B2 φ2 a (.lst ds) := w2.cell n a _ hφ2 hs
          obtain ⟨hb, xs, hx, rr⟩ := c2
          refine ⟨a, xs, v2, rfl, rfl, hx, by rw [← rr.length, ← big_eq]; exact hl, ?_⟩
          have r2 : Rep G B2 d' v2 := r2
          exact q2 _ B2 φ2 (Xt.set hφ2) (w2.set hφ2 hs (fun z => nomatch z) hb ⟨hb, _, upd_same, rr.append (Reps.cons r2 Reps.nil)⟩ rfl) _ (rep_non.mpr rfl)
        · exact q2.elim
      · exact q2.elim
    · exact q1.elim
  · exact q1.elim
/-! slices -/
def cutD (ds : List D) (lo hi : Option Int) : List D := (ds.drop (HT.sIx ds.length 0 lo)).take (HT.sIx ds.length ds.length hi - HT.sIx ds.length 0 lo)
theorem cut_rep {ds : List D} {vs : List V} {lo hi : Option Int} (r : Reps G B ds vs) : Reps G B (cutD ds lo hi) (cutV vs lo hi) := by
  unfold cutD cutV
  rw [← r.length]
  exact (r.drop _).take _
abbrev Pf := Nv → Sto → Out (Option Int)
def pNo : Pf := fun _ S => .ok none S
def pAt (f : Ef) : Pf := fun ρ S => (f ρ S).bind fun d S1 => match d with
  | .p (.int i) => .ok (some i) S1
  | _ => .bad
def tP (G : Gx) (W : WX) (f : Pf) : TO := fun σ H Q => ∃ ρ B φ S, Wd G H B φ S ∧ EnvR G B φ σ ρ ∧ WP G W σ H B φ (f ρ S) fun o H' _ _ _ => Q o H'
theorem wkO {e : Option Expr} {t t' : TO} (h : L2.PO X e t) (k : ∀ σ H Q, t' σ H Q → t σ H Q) : L2.PO X e t' := ⟨fun pins s σ H Q I q => h.run pins s σ H Q I (k σ H Q q)⟩
theorem do_no : L2.PO X none (tP G W pNo) := wkO po_none fun σ H Q ⟨ρ, B, φ, S, w, en, h⟩ => h H B φ Xt.refl w
theorem do_at (he : PE X e (tD G W ef)) : L2.PO X (some e) (tP G W (pAt ef)) := by
  refine wkO (po_some he) fun σ H Q ⟨ρ, B, φ, S, w, en, h⟩ => tD.run w en (WP.fst h) fun d v H1 B1 φ1 S1 x1 w1 en1 r1 q1 => ?_
  split at q1
  · exact ⟨_, rep_int.mp r1, q1 H1 B1 φ1 Xt.refl w1⟩
  · exact q1.elim
def dSl (f : Ef) (l h : Pf) : Ef := fun ρ S => (f ρ S).bind fun d S1 => (l ρ S1).bind fun lo S2 => (h ρ S2).bind fun hi S3 => match d with
  | .p (.tup ds) => if HT.sIx ds.length 0 lo = 0 ∧ HT.sIx ds.length ds.length hi = ds.length then .bad else .ok (.p (.tup (cutD ds lo hi))) S3
  | x => match vw S3 x with
    | some ds => .ok (.p (.lst (cutD ds lo hi))) S3
    | none => .bad
theorem de_slice {lo hi : Option Expr} {lf hf : Pf} {p2 : Pos} (hK : X.K = G.K) (he : PE X e (tD G W ef)) (hl : L2.PO X lo (tP G W lf)) (hh : L2.PO X hi (tP G W hf)) : PE X (.Subscript e (.Slice lo hi none p2) pos) (tD G W (dSl ef lf hf)) := by
  refine wkE (pe_slice (sl_list.or sl_tup) he hl hh) fun σ H Q ⟨ρ, B, φ, S, w, en, h⟩ => tD.run w en (WP.fst h) fun d v H1 B1 φ1 S1 x1 w1 en1 r1 q1 => ?_
  refine ⟨ρ, B1, φ1, S1, w1, en1, (WP.fst q1).mono fun lo H2 B2 φ2 S2 x2 w2 q2 => ?_⟩
  refine ⟨ρ, B2, φ2, S2, w2, en1.mono x2.b x2.p, (WP.fst q2).mono fun hi H3 B3 φ3 S3 x3 w3 q3 => ?_⟩
  have r3 := RepV.mono (x2.b.trans x3.b) (x2.p.trans x3.p) _ r1
  split at q3
  · split at q3
    · exact q3.elim
    · rename_i ds hw
      obtain ⟨a, xs, rfl, s1, rr⟩ := rep_tup.mp r3
      refine .inr ⟨a, xs, rfl, hK ▸ sqT_mono w3.sub s1, by rw [← rr.length]; exact hw, fun p hp => ?_⟩
      exact q3 _ _ _ (Xt.alloc w3 hp) (w3.alloc hp) _ (rep_tup.mpr ⟨p, _, rfl, SqT.of upd_same, Reps.mono (same_upd' (w3.bfree hp)) _ (cut_rep rr)⟩)
  · split at q3
    · rename_i ds hs
      obtain ⟨a, xs, rfl, s1, rr⟩ := vw_at w3 r3 hs
      refine .inl ⟨a, xs, rfl, SqL.of s1, fun p hp => ?_⟩
      exact q3 _ _ _ (Xt.alloc w3 hp) (w3.alloc hp) _ (rep_lst.mpr ⟨p, _, rfl, upd_same, Reps.mono (same_upd' (w3.bfree hp)) _ (cut_rep rr)⟩)
    · exact q3.elim
end
end DL

namespace DL
open PySem L2
open PySem.Spec PyProof.Rows
def sBad : Sf := fun _ _ => .bad
section
variable {X : Cx} {G : Gx} {W : WX} {e e2 : Expr} {ef eg : Ef} {pos p : Pos} {B : Hp} {st : Stmt} {sts : List Stmt}
/-- code that is never come to -/
theorem dp_never : PS X st (tS G W sBad) := wkS ps_never fun D σ H ⟨ρ, B, φ, S, w, en, h⟩ => h
theorem ds_never : PSs X sts (tS G W sBad) := wkSs pss_never fun D σ H ⟨ρ, B, φ, S, w, en, h⟩ => h
/-! zip, enumerate -/
def zipD : List D → List D → List D
  | x :: xs, y :: ys => .tup [x, y] :: zipD xs ys
  | _, _ => []
theorem zipD_get : ∀ (xs ys : List D) (i : Nat), (zipD xs ys)[i]? = match xs[i]?, ys[i]? with
    | some x, some y => some (.tup [x, y])
    | _, _ => none
  | [], ys, i => by unfold zipD; simp
  | x :: xs, [], i => by unfold zipD; cases (x :: xs)[i]? <;> simp
  | x :: xs, y :: ys, 0 => by unfold zipD; simp
  | x :: xs, y :: ys, i + 1 => by
    unfold zipD
    simp only [List.getElem?_cons_succ]
    exact zipD_get xs ys i
theorem zipD_len : ∀ (xs ys : List D), (zipD xs ys).length = min xs.length ys.length
  | [], ys => by unfold zipD; simp
  | x :: xs, [] => by unfold zipD; simp
  | x :: xs, y :: ys => by
    unfold zipD
    rw [List.length_cons, zipD_len xs ys, List.length_cons, List.length_cons]
    omega
/-- a new pair at each turn -/
theorem pair_new {H B : Hp} {φ : List Addr} {S : Sto} {T : Addr} {x y : V} {d d' : D} (w : Wd G H B φ S) (hT : H T = none) (r : Rep G B d x) (r' : Rep G B d' y) :
    Xt H B φ (upd H T (.tup [x, y])) (upd B T (.tup [x, y])) φ ∧ Wd G (upd H T (.tup [x, y])) (upd B T (.tup [x, y])) φ S ∧ Rep G (upd B T (.tup [x, y])) (.tup [d, d']) (.ref T) :=
  ⟨Xt.alloc w hT, w.alloc hT, (rep_tup (φ := [])).mpr ⟨T, _, rfl, SqT.of upd_same, Reps.mono (same_upd' (w.bfree hT)) _ (Reps.cons r (Reps.cons r' Reps.nil))⟩⟩
theorem yl_zipT {a b : Addr} {xs ys : List V} {ds es : List D} (h : SqT G.K B a xs) (r : Reps G B ds xs) (h' : SqT G.K B b ys) (r' : Reps G B es ys) : Yl G (RZ.ItzT G.K a b) (zipD ds es) B := by
  intro i H B1 φ S w sb
  have hq : SqT G.K H a xs := sqT_mono w.sub (sqT_mono sb h)
  have hq' : SqT G.K H b ys := sqT_mono w.sub (sqT_mono sb h')
  have l1 := r.length
  have l2 := r'.length
  rw [zipD_len]
  refine ⟨fun hi => ?_, fun hi => ⟨xs, ys, hq, hq', by omega⟩⟩
  have i1 : i < ds.length := by omega
  have i2 : i < es.length := by omega
  obtain ⟨v, hv, rv⟩ := r.get (List.getElem?_eq_getElem i1)
  obtain ⟨u, hu, ru⟩ := r'.get (List.getElem?_eq_getElem i2)
  refine ⟨⟨xs, ys, v, u, hq, hq', hv, hu⟩, fun z H' ⟨T, x, y, e1, hT, e2, q1, q2⟩ => ?_⟩
  subst e1 e2
  have ex : x = v := Option.some.inj ((q1 xs hq).symm.trans hv)
  have ey : y = u := Option.some.inj ((q2 ys hq').symm.trans hu)
  subst ex ey
  obtain ⟨x3, w3, r3⟩ := pair_new w hT (Rep.mono sb _ rv) (Rep.mono sb _ ru)
  exact ⟨_, _, by rw [zipD_get, List.getElem?_eq_getElem i1, List.getElem?_eq_getElem i2], x3, w3, r3⟩
def iZip (f g : Ef) : If := fun ρ S => (f ρ S).bind fun x S1 => (g ρ S1).bind fun y S2 => match x, y with
  | .p (.tup ds), .p (.tup es) => .ok (zipD ds es) S2
  | _, _ => .bad
theorem di_zip {elts : List Expr} {kk : Nat} {tpos : Pos} (hK : X.K = G.K) (hg : Gl X "zip") (hm : X.mg "zip" = none) (ha : PE X e (tD G W ef)) (hb : PE X e2 (tD G W eg))
    (hs : starEach [e, e2] X.env = (false, eval e X.env) :: starEach [e2] X.env := by rfl) (hs2 : starEach [e2] X.env = (false, eval e2 X.env) :: starEach [] X.env := by rfl) (hpl : (backTo pos (starEach [e2] X.env)).any (·.1) = false := by rfl) :
    PI X (.Tuple elts kk tpos) (.Call (.Name "zip" p) [e, e2] [] pos) (tI G W (iZip ef eg)) := by
  refine wkI (RZ.pi_zipA hg hm (pa_cons ha (pa_cons hb pa_nil hs2) hs) hs hpl) fun σ H R ⟨ρ, B, φ, S, w, en, h⟩ => tD.run w en (WP.fst h) fun d v H1 B1 φ1 S1 x1 w1 en1 r1 q1 => ?_
  refine tD.run w1 en1 (WP.fst q1) fun d2 v2 H2 B2 φ2 S2 x2 w2 en2 r2 q2 => ?_
  have r1 := RepV.mono x2.b x2.p _ r1
  split at q2
  · obtain ⟨a, xs, rfl, s1, q3⟩ := rep_tup.mp r1
    obtain ⟨b, ys, rfl, s2, q4⟩ := rep_tup.mp r2
    rw [hK]
    exact ⟨a, b, xs, ys, rfl, .inr ⟨sqT_mono w2.sub s1, sqT_mono w2.sub s2, q2 H2 B2 φ2 Xt.refl w2 _ (yl_zipT s1 q3 s2 q4)⟩⟩
  · exact q2.elim
def enumD : Nat → List D → List D
  | _, [] => []
  | n, d :: ds => .tup [.int (n : Nat), d] :: enumD (n + 1) ds
theorem enumD_len : ∀ (n : Nat) (ds : List D), (enumD n ds).length = ds.length
  | _, [] => rfl
  | n, d :: ds => by unfold enumD; rw [List.length_cons, List.length_cons, enumD_len]
theorem enumD_get : ∀ (n : Nat) (ds : List D) (i : Nat) (d : D), ds[i]? = some d → (enumD n ds)[i]? = some (.tup [.int ((n + i : Nat) : Int), d])
  | _, [], _, _, h => by simp at h
  | n, d :: ds, 0, _, h => by simp at h; subst h; unfold enumD; rfl
  | n, d :: ds, i + 1, _, h => by
    unfold enumD
    rw [List.getElem?_cons_succ, enumD_get (n + 1) ds i _ (by simpa using h), show n + 1 + i = n + (i + 1) by omega]
theorem yl_enum {a : Addr} {xs : List V} {ds : List D} (h : SqL G.K B a xs) (r : Reps G B ds xs) : Yl G (Ite G.K a) (enumD 0 ds) B := by
  intro i H B1 φ S w sb
  have hq : SqL G.K H a xs := w.sub.seq (sb.seq h)
  have l1 := r.length
  rw [enumD_len]
  refine ⟨fun hi => ?_, fun hi => ⟨xs, hq, by omega⟩⟩
  obtain ⟨v, hv, rv⟩ := r.get (List.getElem?_eq_getElem hi)
  refine ⟨⟨xs, v, hq, hv⟩, fun z H' ⟨T, x, e1, hT, e2, q1⟩ => ?_⟩
  subst e1 e2
  have ex : x = v := Option.some.inj ((q1 xs hq).symm.trans hv)
  subst ex
  obtain ⟨x3, w3, r3⟩ := pair_new w hT (rpi (i : Nat)) (Rep.mono sb _ rv)
  exact ⟨_, _, by rw [enumD_get 0 ds i _ (List.getElem?_eq_getElem hi), Nat.zero_add], x3, w3, r3⟩
def iEnumL (f : Ef) : If := fun ρ S => (f ρ S).bind fun x S1 => match x with
  | .p (.lst ds) => .ok (enumD 0 ds) S1
  | _ => .bad
theorem di_enum {elts : List Expr} {kk : Nat} {tpos : Pos} (hK : X.K = G.K) (hg : Gl X "enumerate") (hm : X.mg "enumerate" = none) (ha : PE X e (tD G W ef))
    (hs : starEach [e] X.env = [(false, eval e X.env)] := by rfl) : PI X (.Tuple elts kk tpos) (.Call (.Name "enumerate" p) [e] [] pos) (tI G W (iEnumL ef)) := by
  refine wkI (pi_enum hg hm (pa_cons ha pa_nil hs) hs) fun σ H R ⟨ρ, B, φ, S, w, en, h⟩ => tD.run w en (WP.fst h) fun d v H1 B1 φ1 S1 x1 w1 en1 r1 q1 => ?_
  split at q1
  · obtain ⟨a, xs, rfl, s1, q3⟩ := rep_lst.mp r1
    have s2 : SqL G.K B1 a xs := SqL.of s1
    rw [hK]
    exact ⟨a, xs, rfl, w1.sub.seq s2, q1 H1 B1 φ1 Xt.refl w1 _ (yl_enum s2 q3)⟩
  · exact q1.elim
end
/-! ### the law's end -/
theorem law_end {G : Gx} {K : PySem.W.Frag} {m : List Dv → Sto → Out Dv} (hK : G.K = K) (hm : ∀ ns : List Int, ns.length ≤ 63 → ∃ S, m [.p (.scr ns)] [] = .ok (.p (.bl true)) S)
    {H : Hp} {a : Addr} {ns : List Int} (hl : ns.length ≤ 63) (hs : SqL K H a (ns.map V.int)) : spE G 1 m [.ref a] H (fun v _ => v = .bl true) fun _ _ _ => False := by
  obtain ⟨S, e⟩ := hm ns hl
  refine ⟨H, [], [], [.p (.scr ns)], Wd.none (Same.refl _), ⟨_, _, rfl, rep_scr.mpr ⟨a, rfl, hK ▸ hs⟩, rfl⟩, rfl, ?_⟩
  rw [e]
  exact fun H' B' φ' _ _ v r => rep_bl.mp r
end DL

namespace DL
open PySem L2
open PySem.Spec PyProof.Rows
section
variable {X : Cx} {G : Gx} {W : WX} {e e2 : Expr} {ef eg eh : Ef} {pos p p2 : Pos} {H B : Hp} {φ : List Addr} {S : Sto} {σ : L2.St} {ρ : Nv} {sts : List Stmt} {g : Sf}
/-! a cell's list is given up -/
def sFz (i : Nat) (g : Sf) : Sf := fun ρ S => match ρ[i]? with
  | some (some (.hnd n)) => match S[n]? with
    | some (.lst ds) => g (ρ.set i (some (.p (.lst ds)))) (S.set n .dead)
    | _ => g ρ S
  | _ => g ρ S
theorem ds_fz {i : Nat} (h : PSs X sts (tS G W g)) : PSs X sts (tS G W (sFz i g)) := by
  refine wkSs h fun D σ H ⟨ρ, B, φ, S, w, en, q⟩ => ?_
  unfold sFz at q
  split at q
  · rename_i n hi
    split at q
    · rename_i ds hs
      obtain ⟨v, hσ, a, hφ, rfl⟩ := en.at_ i _ hi
      obtain ⟨xs, h1, h2, h3, w2, x2⟩ := w.thaw hφ hs
      refine ⟨_, _, φ, _, w2, ⟨by rw [List.length_set]; exact en.len, fun j d hj => ?_⟩, WPS.rebase x2 q⟩
      by_cases hij : j = i
      · subst hij
        rw [List.getElem?_set_self (by
          have := (List.getElem?_eq_some_iff.mp hi).1
          exact this)] at hj
        cases hj
        exact ⟨.ref a, hσ, rep_lst.mpr ⟨a, xs, rfl, upd_same, Reps.mono x2.b _ h3⟩⟩
      · rw [List.getElem?_set_ne (Ne.symm hij)] at hj
        obtain ⟨u, u1, u2⟩ := en.at_ j d hj
        exact ⟨u, u1, RepV.mono x2.b x2.p d u2⟩
    · exact ⟨ρ, B, φ, S, w, en, q⟩
  · exact ⟨ρ, B, φ, S, w, en, q⟩
/-! list(range(..)), tuple(x), a chain as a test -/
def lrngOk (i j : Int) : Bool := rngOk i j && decide ((j - i).toNat ≤ 16777216)
theorem lrngOk_at {i j : Int} (h : lrngOk i j = true) : RgOk i j := by
  unfold lrngOk at h
  rw [Bool.and_eq_true, decide_eq_true_eq] at h
  obtain ⟨h1, h2, h3, h4⟩ := rngOk_at h.1
  exact ⟨h1, h2, h3, h4, h.2⟩
theorem reps_rng (i j : Int) : Reps G B (rngD i (j - i).toNat) (rgV i j) := by
  unfold rngD rgV
  have : ∀ l : List Nat, Reps G B (l.map fun k => D.int (i + (k : Nat))) (l.map fun k => V.int (i + (k : Nat))) := by
    intro l
    induction l with
    | nil => exact Reps.nil
    | cons a r ih => exact Reps.cons (rpi _) ih
  exact this _
def dLRng1 (f : Ef) : Ef := fun ρ S => (f ρ S).bind fun d S1 => match d with
  | .p (.int j) => if lrngOk 0 j = true then .ok (.p (.lst (rngD 0 j.toNat))) S1 else .bad
  | _ => .bad
def dLRng2 (f g : Ef) : Ef := fun ρ S => (f ρ S).bind fun d S1 => (g ρ S1).bind fun d2 S2 => match d, d2 with
  | .p (.int i), .p (.int j) => if lrngOk i j = true then .ok (.p (.lst (rngD i (j - i).toNat))) S2 else .bad
  | _, _ => .bad
theorem de_lrng1 {pl : Pos} (hc : X.calm = true) (hgl : Gl X "list") (hml : X.mg "list" = none) (hg : Gl X "range") (hm : X.mg "range" = none) (ha : PE X e (tD G W ef))
    (na : starEach [e] X.env = (false, eval e X.env) :: starEach [] X.env := by rfl) (na2 : starEach [Expr.Call (.Name "range" p) [e] [] p2] X.env = (false, eval (.Call (.Name "range" p) [e] [] p2) X.env) :: starEach [] X.env := by rfl) :
    PE X (.Call (.Name "list" pl) [.Call (.Name "range" p) [e] [] p2] [] pos) (tD G W (dLRng1 ef)) := by
  refine wkE (pe_listRg hc hgl hml (prg_1 hg hm ha na) na2) fun σ H Q ⟨ρ, B, φ, S, w, en, h⟩ => tD.run w en (WP.fst h) fun d v H1 B1 φ1 S1 x1 w1 en1 r1 q1 => ?_
  split at q1
  · rename_i j
    split at q1
    · rename_i hl
      refine ⟨j, rep_int.mp r1, lrngOk_at hl, fun q hq => ?_⟩
      have e0 : rngD 0 j.toNat = rngD 0 (j - 0).toNat := by rw [Int.sub_zero]
      exact q1 _ _ _ (Xt.alloc w1 hq) (w1.alloc hq) _ (rep_lst.mpr ⟨q, _, rfl, upd_same, by rw [e0]; exact reps_rng 0 j⟩)
    · exact q1.elim
  · exact q1.elim
theorem de_lrng2 {pl : Pos} (hc : X.calm = true) (hgl : Gl X "list") (hml : X.mg "list" = none) (hg : Gl X "range") (hm : X.mg "range" = none) (ha : PE X e (tD G W ef)) (hb : PE X e2 (tD G W eg))
    (na : starEach [e, e2] X.env = (false, eval e X.env) :: starEach [e2] X.env := by rfl) (nb : starEach [e2] X.env = (false, eval e2 X.env) :: starEach [] X.env := by rfl) (na2 : starEach [Expr.Call (.Name "range" p) [e, e2] [] p2] X.env = (false, eval (.Call (.Name "range" p) [e, e2] [] p2) X.env) :: starEach [] X.env := by rfl) (hpl : (backTo p2 (starEach [e2] X.env)).any (·.1) = false := by rfl) :
    PE X (.Call (.Name "list" pl) [.Call (.Name "range" p) [e, e2] [] p2] [] pos) (tD G W (dLRng2 ef eg)) := by
  refine wkE (pe_listRg hc hgl hml (prg_2 hg hm ha hb na nb (hp := hpl)) na2) fun σ H Q ⟨ρ, B, φ, S, w, en, h⟩ => tD.run w en (WP.fst h) fun d v H1 B1 φ1 S1 x1 w1 en1 r1 q1 => ?_
  refine tD.run w1 en1 (WP.fst q1) fun d2 v2 H2 B2 φ2 S2 x2 w2 en2 r2 q2 => ?_
  split at q2
  · rename_i i j
    split at q2
    · rename_i hl
      refine ⟨i, j, rep_int.mp r1, rep_int.mp r2, lrngOk_at hl, fun q hq => ?_⟩
      exact q2 _ _ _ (Xt.alloc w2 hq) (w2.alloc hq) _ (rep_lst.mpr ⟨q, _, rfl, upd_same, reps_rng i j⟩)
    · exact q2.elim
  · exact q2.elim
def nTuple : OpN := fun xs S => match xs with
  | [.p (.tup ds)] => .ok (.p (.tup ds)) S
  | [x] => match vw S x with
    | some ds => .ok (.p (.tup ds)) S
    | none => .bad
  | _ => .bad
theorem nTuple_ok : OkN G W (fun xs H Q => ∃ p ys, xs = [.ref p] ∧ ((SqL G.K H p ys ∧ ∀ l, H l = none → Q (.ref l) (upd H l (.tup ys))) ∨ (SqT G.K H p ys ∧ Q (.ref p) H))) nTuple := by
  intro H B φ S σ xs vs Q w r h
  unfold nTuple at h
  split at h
  · obtain ⟨v, rfl, rv⟩ := rvs1 r
    obtain ⟨a, ys, rfl, s1, q1⟩ := rep_tup.mp rv
    exact ⟨a, ys, rfl, .inr ⟨sqT_mono w.sub s1, h H B φ Xt.refl w _ rv⟩⟩
  · split at h
    · rename_i ds hs
      obtain ⟨v, rfl, rv⟩ := rvs1 r
      obtain ⟨a, ys, rfl, s1, q1⟩ := vw_at w rv hs
      exact ⟨a, ys, rfl, .inl ⟨SqL.of s1, fun l hl => h _ _ _ (Xt.alloc w hl) (w.alloc hl) _ (rep_tup.mpr ⟨l, _, rfl, SqT.of upd_same, Reps.mono (same_upd' (w.bfree hl)) _ q1⟩)⟩⟩
    · exact h.elim
  · exact h.elim
theorem dt_chain {a b c3 : Expr} {o o' : CmpOp} {r r' : R2} {op op' : Op2} (hq : PT X (.Compare a [o, o'] [b, c3] pos) (tTest (tChain r r' (tD G W ef) (tD G W eg) (tD G W eh)))) (h : Ok2 G W r op) (h' : Ok2 G W r' op') :
    PT X (.Compare a [o, o'] [b, c3] pos) (tT G W (cVal (dChain op op' ef eg eh))) := by
  refine wkT hq fun σ H Q ⟨ρ, B, φ, S, w, en, q⟩ => ?_
  have q := WP.fst q
  have fin : ∀ {H' B' φ' S'} (d : Dv) (v : V), Wd G H' B' φ' S' → RepV G B' φ' d v → WP G W σ H' B' φ' (match d with
    | .p (.bl b) => .ok b S'
    | _ => .bad : Out Bool) (fun b H' _ _ _ => Q b H') → ∃ k, v = .bl k ∧ Q k H' := by
    intro H' B' φ' S' d v w' r q
    split at q
    · exact ⟨_, rep_bl.mp r, q H' B' φ' Xt.refl w'⟩
    · exact q.elim
  show tChain r r' (tD G W ef) (tD G W eg) (tD G W eh) σ H fun x H' => ∃ k, x = .bl k ∧ Q k H'
  refine tD.run w en (WP.fst q) fun x v H1 B1 φ1 S1 x1 w1 en1 r1 q1 => ?_
  refine tD.run w1 en1 (WP.fst q1) fun y u H2 B2 φ2 S2 x2 w2 en2 r2 q2 => ?_
  refine h H2 B2 φ2 S2 σ x y v u _ w2 (RepV.mono x2.b x2.p x r1) r2 ((WP.fst q2).mono fun z H3 B3 φ3 S3 x3 w3 q3 v3 r3 => ?_)
  split at q3
  · rename_i t
    rw [rep_bl] at r3
    refine ⟨t, r3, ?_⟩
    cases t with
    | true =>
      rw [if_pos rfl] at q3
      rw [if_pos rfl]
      refine tD.run w3 (en2.mono x3.b x3.p) (WP.fst q3) fun u4 v4 H4 B4 φ4 S4 x4 w4 en4 r4 q4 => ?_
      refine h' H4 B4 φ4 S4 σ y u4 u v4 _ w4 (RepV.mono x4.b x4.p y (RepV.mono x3.b x3.p y r2)) r4 (q4.mono fun d H5 B5 φ5 S5 x5 w5 q5 v5 r5 => fin d v5 w5 r5 q5)
    | false =>
      rw [if_neg Bool.false_ne_true] at q3
      rw [if_neg Bool.false_ne_true]
      exact fin _ _ w3 (rep_bl.mpr rfl) (q3 H3 B3 φ3 Xt.refl w3)
  · exact q3.elim
/-! xs[::-1] -/
def dRev (f : Ef) : Ef := fun ρ S => (f ρ S).bind fun d S1 => match vw S1 d with
  | some ds => .ok (.p (.lst ds.reverse)) S1
  | none => .bad
theorem de_rev {k : Nat} {p1 p3 : Pos} (he : PE X e (tD G W ef)) : PE X (.Subscript e (.Slice none none (some (.UnaryOp .USub (.Constant (.int 1) k p1) p2)) p3) pos) (tD G W (dRev ef)) := by
  refine wkE (pe_revL he) fun σ H Q ⟨ρ, B, φ, S, w, en, h⟩ => tD.run w en (WP.fst h) fun d v H1 B1 φ1 S1 x1 w1 en1 r1 q1 => ?_
  split at q1
  · rename_i ds hs
    obtain ⟨a, xs, rfl, s1, rr⟩ := vw_at w1 r1 hs
    exact ⟨a, xs, rfl, SqL.of s1, fun l hl => q1 _ _ _ (Xt.alloc w1 hl) (w1.alloc hl) _ (rep_lst.mpr ⟨l, _, rfl, upd_same, Reps.mono (same_upd' (w1.bfree hl)) _ rr.reverse⟩)⟩
  · exact q1.elim
end
/-! ### ends -/
theorem tabL {α : Type} : ∀ {l : List (Str × α)} {z : Str} {d : α}, l.lookup z = some d → (z, d) ∈ l
  | (k, v) :: r, z, d, h => by
    rw [List.lookup_cons] at h
    cases hb : z == k with
    | true =>
      rw [hb] at h
      have := eq_of_beq hb
      subst this
      cases h
      exact List.mem_cons_self
    | false =>
      rw [hb] at h
      exact List.mem_cons_of_mem _ (tabL h)
def spS (K : PySem.W.Frag) : Sp := fun vs H Q E => ∃ (a : Addr) (ns : List Int), vs = [.ref a] ∧ ns.length ≤ 63 ∧ SqL K H a (ns.map V.int) ∧ Q = (fun v _ => v = .bl true) ∧ E = fun _ _ _ => False
theorem spS_to {G : Gx} {K : PySem.W.Frag} {m : List Dv → Sto → Out Dv} (hK : G.K = K) (hm : ∀ ns : List Int, ns.length ≤ 63 → ∃ S, m [.p (.scr ns)] [] = .ok (.p (.bl true)) S) {vs : List V} {H : Hp} {Q : VK} {E : XK} (h : spS K vs H Q E) : spE G 1 m vs H Q E := by
  obtain ⟨a, ns, rfl, hl, hs, rfl, rfl⟩ := h
  exact law_end hK hm hl hs
theorem cx_none {P : Program} {w : World} {H : Hp} {s : Shared} {e : Value} {s' : Shared} (h : L2.CX P w [] H s (fun _ _ _ => False) e s') : False := by
  obtain ⟨_, _, _, _, _, _, _, _, _, _, _, _, z⟩ := h
  exact z.elim
end DL

namespace DL
open PySem L2
open PySem.Spec PyProof.Rows
section
variable {X : Cx} {G : Gx} {W : WX} {e e2 : Expr} {ef eg eh : Ef} {p p2 pos : Pos} {H B : Hp} {φ : List Addr} {S : Sto} {σ : L2.St} {ρ : Nv} {sts : List Stmt} {f g : Sf}
/-! ### raise -/
theorem pmk_bare {x : Str} {C : Addr} {bmB : List Value} {bn newId initId : String} (F : ExcBaseFacts bn newId initId bmB) (q : PySem.W.excIn X.K C bmB newId = true) (gC : X.mg x = some (.ref C)) (kC : PySem.W.keepIn X.K (.ref C) = true) (r : Raises X (.ref C)) (hg : Gl X x)
    (hdb : (x == ("__debug__" : Str)) = false := by decide) : PMk X (.Call (.Name x p) [] [] pos) (fun _ H Q => Q (.ref C) none H) := by
  intro pins s σ H Q I h
  refine wpAny_Call_Name_kw (ld_glob I hg gC ?_ hdb)
  refine PySem.W.callWith_K0 I.kIn kC ?_
  show wpAny _ _ (call (.ref C) []) _ _ _
  obtain ⟨bm, N, nm, qn, bs, hdct, sn, sub, ab, col, dd, k0, k1, k2, k3, k5, mN, hC, hN, hni, T⟩ := exc_obj I.kIn q
  exact wpAny_call_exc_subT F T hC hN hni (fun h' e hm => mk_of I hm r h (I.hok.gone hm.new)) (by show 0 ≤ sizeLine; omega)
def sRaise (n : Nat) : Sf := fun ρ S => .exc ⟨n, []⟩ ρ S
/-- what the written part says of an own class of errors that has no __init__ -/
structure XCls (K : PySem.W.Frag) (mg : Str → Option Value) (x : Str) (C : Addr) : Prop where
  q : PySem.W.excIn K C [.type "ValueError", .type "Exception", .type "BaseException", .type "object"] "ValueError.__new__" = true
  g : mg x = some (.ref C)
  k : PySem.W.keepIn K (.ref C) = true
  b : PySem.W.subIn K (.ref C) (.type "BaseException") = some true
  t : PySem.W.typeIn K (.ref C) = some (.type "type")
theorem dp_raise0 {x : Str} {n : Nat} {q : Pos} (tk : Takes X W) (hc : X.calm = true) (T : XCls X.K X.mg x (G.xc n)) (hg : Gl X x) (hdb : (x == ("__debug__" : Str)) = false := by decide) : PS X (.Raise (some (.Call (.Name x p) [] [] pos)) none q) (tS G W (sRaise n)) := by
  refine wkS (ps_raise hc tk (pmk_bare PySem.F.excBase_ValueError T.q T.g T.k (raises_own T.b T.t) hg hdb)) fun D σ H ⟨ρ, B, φ, S, w, en, h⟩ => ?_
  exact h H B φ _ _ σ Xt.refl w ⟨rfl, rfl⟩ en
/-! ### try, with clauses that have no name -/
/-- the clauses: which errors each takes, and its suite -/
def sHs : List ((Nat → Option Bool) × Sf) → Ex → Sf
  | [], x => fun ρ S => .exc x ρ S
  | (mt, g) :: r, x => fun ρ S => match mt x.cls with
    | some true => g ρ S
    | some false => sHs r x ρ S
    | none => .bad
def sTry (f : Sf) (l : List ((Nat → Option Bool) × Sf)) : Sf := fun ρ S => match f ρ S with
  | .exc x ρ' S' => sHs l x ρ' S'
  | .ok fl S' => .ok fl S'
  | .bad => .bad
/-- one class, of n that the program has -/
def mtOne (n j : Nat) : Nat → Option Bool := fun m => if m < n then some (m == j) else none
inductive HdsD (X : Cx) (G : Gx) : List ExceptHandler → List ((Nat → Option Bool) × Sf) → Prop
  | nil : HdsD X G [] []
  | cons {x : Str} {c : Value} {b₀ : Stmt} {suite : List Stmt} {np pos' : Pos} {hds : List ExceptHandler} {l : List ((Nat → Option Bool) × Sf)} {mt : Nat → Option Bool} {g : Sf} (hc : Names X x c) (hm : ∀ m b, mt m = some b → PySem.W.exmOne X.K (.ref (G.xc m)) c = some b)
      (hs : ∀ (a : Addr) (pn : List (Addr × Obj)), PSs (X.suite a pn) (b₀ :: suite) (tS G (fun _ _ _ _ => False) g)) (r : HdsD X G hds l) :
      HdsD X G (.ExceptHandler (some (.Name x np)) none (b₀ :: suite) pos' :: hds) ((mt, g) :: l)
theorem WPS.nox {Z : Ends} {o : OS} {W' : WX} (h : WPS G W Z H B φ o) (k : ∀ x ρ S, o ≠ .exc x ρ S) : WPS G W' Z H B φ o := by
  cases o with
  | ok fl S => exact h
  | exc x ρ S => exact absurd rfl (k x ρ S)
  | bad => exact h
theorem hds_ok {hds : List ExceptHandler} {l : List ((Nat → Option Bool) × Sf)} (h : HdsD X G hds l) : ∃ l', HdsOk X hds l' ∧ ∀ (D : Ends) (x : Ex) (c : Value) (dd : Option Addr) (σ : L2.St) (H : Hp), (∃ ρ B φ S, Wd G H B φ S ∧ EnvR G B φ σ ρ ∧ XRep G B x c dd ∧ WPS G W D H B φ (sHs l x ρ S) ∧
    ∀ x' ρ' S', sHs l x ρ S = .exc x' ρ' S' → x' = x ∧ ρ' = ρ ∧ S' = S ∧ ∀ m ∈ l, m.1 x.cls = some false) → wMany X.K W D l' c dd σ H := by
  induction h with
  | nil =>
    refine ⟨[], .nil, fun D x c dd σ H ⟨ρ, B, φ, S, w, en, xr, q, _⟩ => ?_⟩
    exact q H B φ c dd σ Xt.refl w xr en
  | @cons x c b₀ suite np pos' hds l mt g hc hm hs r ih =>
    obtain ⟨l', k1, k2⟩ := ih
    refine ⟨(c, fun _ _ _ => tS G (fun _ _ _ _ => False) g) :: l', .cons hc (fun a oe cls d pn _ _ => hs a _) k1, fun D x c' dd σ H ⟨ρ, B, φ, S, w, en, xr, q, nx⟩ => ?_⟩
    unfold sHs at q nx
    cases hb : mt x.cls with
    | none => rw [hb] at q; exact q.elim
    | some b =>
      rw [hb] at q nx
      refine ⟨b, ?_, fun e a _ => ?_, fun e => ?_⟩
      · rw [xr.1]; exact hm _ _ hb
      · subst e
        dsimp only at q nx
        refine ⟨ρ, B, φ, S, w, en, WPS.nox q fun x' ρ' S' e => ?_⟩
        have := (nx x' ρ' S' e).2.2.2 (mt, g) List.mem_cons_self
        have this : mt x.cls = some false := this
        rw [hb] at this; cases this
      · subst e
        dsimp only at q nx
        refine k2 D x c' dd σ H ⟨ρ, B, φ, S, w, en, xr, q, fun x' ρ' S' e => ?_⟩
        obtain ⟨z1, z2, z3, z4⟩ := nx x' ρ' S' e
        exact ⟨z1, z2, z3, fun m hm' => z4 m (List.mem_cons_of_mem _ hm')⟩
/-- a suite that lets nothing out -/
def Mild (g : Sf) : Prop := ∀ ρ S x ρ' S', g ρ S ≠ .exc x ρ' S'
theorem hs_mild {x : Ex} {ρ : Nv} {S : Sto} : ∀ {l : List ((Nat → Option Bool) × Sf)}, (∀ m ∈ l, Mild m.2) → ∀ x' ρ' S', sHs l x ρ S = .exc x' ρ' S' → x' = x ∧ ρ' = ρ ∧ S' = S ∧ ∀ m ∈ l, m.1 x.cls = some false
  | [], _, x', ρ', S', e => by
    unfold sHs at e
    cases e
    exact ⟨rfl, rfl, rfl, fun m hm => by cases hm⟩
  | (mt, g) :: l, hl, x', ρ', S', e => by
    unfold sHs at e
    cases hb : mt x.cls with
    | none => rw [hb] at e; cases e
    | some b =>
      rw [hb] at e
      cases b with
      | true => exact absurd e (hl (mt, g) List.mem_cons_self ρ S x' ρ' S')
      | false =>
        obtain ⟨z1, z2, z3, z4⟩ := hs_mild (l := l) (fun m hm => hl m (List.mem_cons_of_mem _ hm)) x' ρ' S' e
        exact ⟨z1, z2, z3, fun m hm => by
          rcases List.mem_cons.mp hm with rfl | hm
          · exact hb
          · exact z4 m hm⟩
theorem dp_try {body : List Stmt} {h₀ : ExceptHandler} {hds : List ExceptHandler} {l : List ((Nat → Option Bool) × Sf)} (hs : X.stack = X.env :: X.outer) (hf : X.env.frame = some X.env.locals) (tk : Takes X W)
    (hb : ∀ (W' : WX) (pn : List (Addr × Obj)) (xe : Value → Shared → Prop), Takes (X.tr pn xe) W' → PassesOwn (model X.prog X.w) X.A X.env xe → PSs (X.tr pn xe) body (tS G W' f))
    (hh : HdsD X G (h₀ :: hds) l) (ml : ∀ m ∈ l, Mild m.2) : PS X (.Try body (h₀ :: hds) [] [] pos) (tS G W (sTry f l)) := by
  obtain ⟨l', k1, k2⟩ := hds_ok (W := W) hh
  refine wkS (ps_try_many hs hf tk (tb := fun W' => tS G W' f) hb k1) fun D σ H ⟨ρ, B, φ, S, w, en, q⟩ => ⟨ρ, B, φ, S, w, en, ?_⟩
  unfold sTry at q
  cases e : f ρ S with
  | bad => rw [e] at q; exact q
  | ok fl S' => rw [e] at q; exact q
  | exc x ρ' S' =>
    rw [e] at q
    dsimp only at q
    exact fun H' B' φ' c dd σ' x1 w1 xr en1 => k2 D x c dd σ' H' ⟨ρ', B', φ', S', w1, en1, xr, WPS.rebase x1 q, hs_mild ml⟩
theorem exm_own {K : PySem.W.Frag} {C m : Addr} {b : Bool} (h1 : PySem.W.subIn K (.ref C) (.type "BaseException") = some true) (h2 : PySem.W.isClsIn K C = true) (h3 : PySem.W.typeIn K (.ref C) = some (.type "type")) (h4 : PySem.W.subIn K (.ref m) (.ref C) = some b) : PySem.W.exmOne K (.ref m) (.ref C) = some b := by
  unfold PySem.W.exmOne
  rw [h1]
  rw [if_pos (show (some true == some true) = true from rfl)]
  unfold PySem.W.kitCls
  have e : ((PySem.W.clsIn K C).isSome && PySem.W.typeIn K (.ref C) == some (.type "type")) = true := by
    rw [h3, Bool.and_eq_true]
    exact ⟨h2, beq_self_eq_true _⟩
  dsimp only
  rw [if_pos e, h4]
theorem mt_of {K : PySem.W.Frag} {n j : Nat} {xc : Nat → Addr} (h : ∀ m, m < n → PySem.W.exmOne K (.ref (xc m)) (.ref (xc j)) = some (m == j)) : ∀ m b, mtOne n j m = some b → PySem.W.exmOne K (.ref (xc m)) (.ref (xc j)) = some b := fun m b e => by
  unfold mtOne at e
  split at e
  · rename_i hm
    rw [h m hm, e]
  · cases e
theorem mild_set {i : Nat} {d : D} : Mild (sSet i (dC d)) := fun ρ S x ρ' S' h => by cases h
theorem mild_inc {i j : Nat} {d : D} : Mild (sSet i (dBin oAdd (dName j) (dC d))) := fun ρ S x ρ' S' h => by
  unfold sSet dBin dName at h
  cases e : ρ[j]? with
  | none => rw [e] at h; cases h
  | some o =>
    rw [e] at h
    cases o with
    | none => cases h
    | some v =>
      dsimp only [Out.bind, dC] at h
      cases e2 : oAdd v (.p d) S with
      | ok a S2 => rw [e2] at h; cases h
      | bad => rw [e2] at h; cases h
      | exc x2 S2 =>
        exfalso
        revert e2
        unfold oAdd
        repeat' split
        all_goals exact fun z => by cases z
end
end DL

namespace DL
open PySem L2
open PySem.Spec PyProof.Rows
section
variable {X : Cx} {G : Gx} {W : WX} {e e2 : Expr} {ef eg eh : Ef} {p p2 pos q1 q2 tpos : Pos} {H B : Hp} {φ : List Addr} {S : Sto} {σ : L2.St} {ρ : Nv}
/-! ### isinstance(x, (list, tuple)) -/
def ltB (t : String) : Option Bool := match kitB t "list", kitB t "tuple" with
  | some a, some b => some (a || b)
  | _, _ => none
theorem ltB_at {K : PySem.W.Frag} {t : String} {b : Bool} (h : ltB t = some b) : PySem.W.kitAny K (.type t) [.type "list", .type "tuple"] = some b := by
  unfold ltB at h
  split at h
  · rename_i x y hx hy
    cases h
    refine kitAny_cons (kit_ty hx) (fun e => ?_) (fun e => by rw [e]; rfl)
    rw [e, Bool.false_or]
    exact kitAny_cons (kit_ty hy) (fun e => by rw [e]; exact kitAny_nil) (fun e => e)
  · cases h
def dIsLT (f : Ef) : Ef := fun ρ S => (f ρ S).bind fun d S1 => match tyOf S1 d with
  | some t => match ltB t with
    | some b => .ok (.p (.bl b)) S1
    | none => .bad
  | none => .bad
theorem de_isLT {x1 : Nat} (hK : X.K = G.K) (he : PE X e (tD G W ef)) (hg : Gl X "isinstance") (hm : X.mg "isinstance" = none) (gl : Gl X "list") (ml : X.mg "list" = none) (gt : Gl X "tuple") (mt : X.mg "tuple" = none)
    (h1 : starEach [e, .Tuple [.Name "list" q1, .Name "tuple" q2] x1 tpos] X.env = (false, eval e X.env) :: starEach [.Tuple [.Name "list" q1, .Name "tuple" q2] x1 tpos] X.env := by rfl)
    (h2 : starEach [.Tuple [.Name "list" q1, .Name "tuple" q2] x1 tpos] X.env = (false, eval (.Tuple [.Name "list" q1, .Name "tuple" q2] x1 tpos) X.env) :: starEach [] X.env := by rfl)
    (h3 : starEach [.Name "list" q1, .Name "tuple" q2] X.env = (false, eval (.Name "list" q1) X.env) :: starEach [.Name "tuple" q2] X.env := by rfl) (h4 : starEach [.Name "tuple" q2] X.env = (false, eval (.Name "tuple" q2) X.env) :: starEach [] X.env := by rfl)
    (hpl : (backTo pos (starEach [.Tuple [.Name "list" q1, .Name "tuple" q2] x1 tpos] X.env)).any (·.1) = false := by rfl) :
    PE X (.Call (.Name "isinstance" p) [e, .Tuple [.Name "list" q1, .Name "tuple" q2] x1 tpos] [] pos) (tD G W (dIsLT ef)) := by
  refine wkE (pe_callB call_isiT hg hm boot_isinstance (pa_cons he (pa_cons (pe_tup (pa_cons (pe_bltn gl ml PyProof.Rows.boot_list (v := .ty "list") rfl) (pa_cons (pe_bltn gt mt PyProof.Rows.boot_tuple (v := .ty "tuple") rfl) pa_nil h4) h3)) pa_nil h2) h1) (by decide) (by decide) h1 hpl) fun σ H Q ⟨ρ, B, φ, S, w, en, h⟩ => tD.run w en (WP.fst h) fun d v H1 B1 φ1 S1 x1 w1 en1 r1 q => ?_
  split at q
  · rename_i t ht
    split at q
    · rename_i b hb
      refine ⟨by show 2 ≤ sizeLine; rw [sizeLine_eq]; omega, fun a ha => ?_⟩
      have w2 := w1.alloc (o := .tup [.ty "list", .ty "tuple"]) ha
      have x2 := Xt.alloc (o := .tup [.ty "list", .ty "tuple"]) w1 ha
      exact ⟨v, a, [.ty "list", .ty "tuple"], .type t, [.type "list", .type "tuple"], b, rfl, upd_same, .cons (.ty "list") (.cons (.ty "tuple") .nil), hK ▸ tyOf_at w2 (RepV.mono x2.b x2.p _ r1) ht, ltB_at hb, q _ _ _ x2 w2 _ (rep_bl.mpr rfl)⟩
    · exact q.elim
  · exact q.elim
/-! ### len(set(xs)), numbers -/
def dd (ns : List Int) : List Int := ns.foldl PyProof.Rows.step_dedup []
theorem dd_met (ns : List Int) : PyProof.Rows.firstMet (fun i => ns.getD i 0) ns.length = dd ns := by
  unfold PyProof.Rows.firstMet dd
  congr 1
  refine List.ext_getElem (by rw [List.length_map, List.length_range]) fun i h1 h2 => ?_
  rw [List.getElem_map, List.getElem_range]
  show ns.getD i 0 = _
  rw [List.getD_eq_getElem?_getD, List.getElem?_eq_getElem h2]; rfl
def nLenSet : OpN := fun xs S => match xs with
  | [x] => match vw S x with
    | some ds => match intsOf ds with
      | some ns => if ns.length ≤ 4000 then .ok (.p (.int (dd ns).length)) S else .bad
      | none => .bad
    | none => .bad
  | _ => .bad
theorem len_set_of {P pp : Pos} {ta : TE} (lG : Gl X "len") (lM : X.mg "len" = none) (sG : Gl X "set") (sM : X.mg "set" = none) (he : PE X e ta) (cm : X.calm = true) (st : starEach [e] X.env = (false, eval e X.env) :: starEach [] X.env := by rfl) :
    PE X (.Call (.Name "len" p) [.Call (.Name "set" p2) [e] [] P] [] pp) (fun σ H Q => ta σ H fun x H1 => ∃ (l : Addr) (ns : List Int), x = .ref l ∧ SqL X.K H1 l (ns.map V.int) ∧ ns.length ≤ 4000 ∧ Q (.int ((dd ns).length : Nat)) H1) := by
  constructor
  intro pins s σ H Q I h
  refine Call_ (ld_blt I lG lM boot_len (PyProof.Rows.callWith_builtin1 (PyProof.Rows.args_cons ?_ rfl) rfl rfl))
  refine Call_ (ld_blt I sG sM boot_set (PyProof.Rows.callWith_type1 (PyProof.Rows.args_cons (thn (he.run pins s σ H _ I h) fun v s1 ⟨x, H1, I1, r1, k⟩ => PyProof.Rows.args_nil ?_) st) st rfl))
  obtain ⟨l, ns, rfl, sq, len, k⟩ := k
  cases r1
  obtain ⟨its, r, pl, hz⟩ := I1.list sq
  have eL : its.toArray.size = ns.length := (List.size_toArray ..).trans (r.length.symm.trans (List.length_map ..))
  refine call_set_list (ns := ns) (I1.ok.hd cm) pl.isList (RZ.intsAre_vals (by simpa using r)) (by unfold scanBound; omega) fun hp t made kept => PyProof.Rows.args_nil ?_
  rw [eL, dd_met] at made
  obtain ⟨o, es, ep, tb, ho, hex, hd, _, _, _, hf, hn⟩ := made
  have bnd : (dd ns).length ≤ ns.length := by rw [← dd_met]; exact PyProof.Rows.firstMet_length_le _ _
  have J : Inv X pins σ H1 { s1 with heap := hp, toks := t } := I1.kept fun b o e => kept b o (Heap.lt_size e) e
  exact call_len_set ho hex hd hf (by omega) ⟨.int (dd ns).length, H1, J.tok _, ⟨_, by rw [hn]⟩, k⟩
theorem de_lenSet {P pp : Pos} (hK : X.K = G.K) (cm : X.calm = true) (lG : Gl X "len") (lM : X.mg "len" = none) (sG : Gl X "set") (sM : X.mg "set" = none) (he : PE X e (tD G W ef)) (st : starEach [e] X.env = (false, eval e X.env) :: starEach [] X.env := by rfl) :
    PE X (.Call (.Name "len" p) [.Call (.Name "set" p2) [e] [] P] [] pp) (tD G W (dCall nLenSet (aCons ef aNil))) := by
  refine wkE (len_set_of lG lM sG sM he cm st) fun σ H Q ⟨ρ, B, φ, S, w, en, h⟩ => ?_
  have h : WP G W σ H B φ ((ef ρ S).bind fun x S1 => nLenSet [x] S1) fun d H' B' φ' S' => ∀ v, RepV G B' φ' d v → Q v H' := by
    have e : dCall nLenSet (aCons ef aNil) ρ S = (ef ρ S).bind fun x S1 => nLenSet [x] S1 := by
      unfold dCall aCons aNil
      cases ef ρ S <;> rfl
    rw [e] at h; exact h
  refine tD.run w en (WP.fst h) fun d v H1 B1 φ1 S1 x1 w1 en1 r1 k => ?_
  unfold nLenSet at k
  dsimp only at k
  split at k
  · rename_i ds hv
    split at k
    · rename_i ns hn
      split at k
      · rename_i hl
        obtain ⟨a, xs, rfl, s1, r2⟩ := vw_at w1 r1 hv
        refine ⟨a, ns, rfl, ?_, hl, k H1 B1 φ1 Xt.refl w1 _ (rep_int.mpr rfl)⟩
        rw [hK, ← ints_at' hn r2]
        exact SqL.of s1
      · exact k.elim
    · exact k.elim
  · exact k.elim
end
end DL

namespace DL
open PySem L2
open PySem.Spec PyProof.Rows
section
variable {X : Cx} {G : Gx} {W : WX} {e e2 : Expr} {ef eg eh : Ef} {p p2 pos q1 q2 tpos : Pos} {H B : Hp} {φ : List Addr} {S : Sto} {σ : L2.St} {ρ : Nv}
/-! ### xs.index(y), y among flat items -/
def idV (y : V) : List V → Option Nat
  | [] => none
  | z :: r => if eqV z y = true then some 0 else (idV y r).map (· + 1)
theorem idV_at {y : V} : ∀ {vs : List V} {j : Nat}, idV y vs = some j → (∃ z, vs[j]? = some z ∧ eqV z y = true) ∧ ∀ m z', m < j → vs[m]? = some z' → eqV z' y = false
  | [], _, h => by cases h
  | z :: r, j, h => by
    unfold idV at h
    split at h
    · rename_i hz
      cases h
      exact ⟨⟨z, rfl, hz⟩, fun m z' hm _ => absurd hm (Nat.not_lt_zero _)⟩
    · rename_i hz
      cases q : idV y r with
      | none => rw [q] at h; cases h
      | some i =>
        rw [q] at h
        cases h
        obtain ⟨⟨z2, a1, a2⟩, a3⟩ := idV_at q
        refine ⟨⟨z2, by simpa using a1, a2⟩, fun m z' hm hz' => ?_⟩
        cases m with
        | zero =>
          simp at hz'
          subst hz'
          cases b : eqV z y with
          | true => exact absurd b hz
          | false => rfl
        | succ m =>
          have hm : m + 1 < i + 1 := hm
          exact a3 m z' (by omega) (by simpa using hz')
def dIndex (fo fe : Ef) : Ef := fun ρ S => (fo ρ S).bind fun o S1 => match vw S1 o with
  | some ds0 => (fe ρ S1).bind fun d S2 => match d, vw S2 o with
    | .p d', some ds => match flD d', flDs ds with
      | some v, some vs => match idV v vs with
        | some j => .ok (.p (.int (j : Nat))) S2
        | none => .bad
      | _, _ => .bad
    | _, _ => .bad
  | none => .bad
theorem de_index {o : Expr} {apos : Pos} (hK : X.K = G.K) (ho : PE X o (tD G W ef)) (he : PE X e (tD G W eg))
    (hbase : attributeBase o "index" X.env (eval o X.env) = eval o X.env := by rfl)
    (hfew : ((backTo pos (starEach [e] X.env)).all (fun x => !x.1) && (backToKw pos (keywordEach [] X.env)).all (fun x => x.1.isSome) && decide ([e].length + ([] : List Keyword).length + (if ([] : List Keyword).isEmpty then 0 else 1) < 30)) = true := by rfl)
    (hline : (apos.endLine == pos.line) = true := by rfl) (hs : starEach [e] X.env = (false, eval e X.env) :: starEach [] X.env := by rfl) (hpl : (backTo pos (starEach [] X.env)).any (·.1) = false := by rfl) :
    PE X (.Call (.Attribute o "index" apos) [e] [] pos) (tD G W (dIndex ef eg)) := by
  refine wkE (pe_bm PySem.F.plainAttrs_list PySem.F.slot_list_index PySem.F.type_list_index mt_index ho (pa_cons he pa_nil hs) hbase hfew hline hs hpl) fun σ H Q ⟨ρ, B, φ, S, w, en, h⟩ => tD.run w en (WP.fst h) fun o v H1 B1 φ1 S1 x1 w1 en1 r1 k1 => ?_
  split at k1
  · rename_i ds0 hs0
    obtain ⟨a, xs0, rfl, hx0, _⟩ := vw_at w1 r1 hs0
    refine ⟨.inl ⟨rfl, xs0, SqL.of hx0⟩, ?_⟩
    show tD G W eg σ H1 _
    refine tD.run w1 en1 (WP.fst k1) fun d v2 H2 B2 φ2 S2 x2 w2 en2 r2 k2 => ?_
    split at k2
    · rename_i d' ds hs
      split at k2
      · rename_i y ys hy hys
        split at k2
        · rename_i j hj
          have r1' := RepV.mono x2.b x2.p _ r1
          obtain ⟨a', xs, ea, hx, rr⟩ := vw_at w2 r1' hs
          cases ea
          obtain ⟨rfl, f1⟩ := flD_at r2 hy
          obtain ⟨rfl, f2⟩ := flDs_at rr hys
          obtain ⟨⟨z, z1, z2⟩, z3⟩ := idV_at hj
          exact ⟨a, xs, v2, j, z, rfl, rfl, SqL.of hx, f1, f2, z1, z2, z3, k2 H2 B2 φ2 Xt.refl w2 _ (rep_int.mpr rfl)⟩
        · exact k2.elim
      · exact k2.elim
    · exact k2.elim
  · exact k1.elim
end
end DL

namespace DL
open PySem L2
open PySem.Spec PyProof.Rows
section
variable {X : Cx} {G : Gx} {W : WX} {e e2 o : Expr} {ef eg eh : Ef} {p p2 pos q1 q2 tpos : Pos} {H B : Hp} {φ : List Addr} {S : Sto} {σ : L2.St} {ρ : Nv}
/-! ### a written dict of texts; d.get(x, y) -/
theorem de_dct2 {k1 k2 v1 v2 : Str} {j1 j2 j3 j4 : Nat} {p1 p2 p3 p4 : Pos} (hk : k1 ≠ k2) (hl : [some (Expr.Constant (.str k1) j1 p1), some (.Constant (.str k2) j2 p2)].length = [Expr.Constant (.str v1) j3 p3, .Constant (.str v2) j4 p4].length := by rfl) :
    PE X (.Dict [some (.Constant (.str k1) j1 p1), some (.Constant (.str k2) j2 p2)] [.Constant (.str v1) j3 p3, .Constant (.str v2) j4 p4] pos) (tD G W (dC (.dct [(k1, v1), (k2, v2)]))) := by
  refine wkE (pe_disp (pps_cons pe_str pe_str (pps_cons pe_str pe_str pps_nil)) (by rfl) hl (fun z => by cases z) (by show 2 ≤ 15; omega)) fun σ H Q ⟨ρ, B, φ, S, w, en, h⟩ => ?_
  intro a ha
  refine ⟨upd_same, [(Sum.inr k1, V.str v1), (Sum.inr k2, V.str v2)], rfl, by show 2 ≤ 15; omega, ?_⟩
  have em : mergeK [] [((Sum.inr k1 : Key), V.str v1), (Sum.inr k2, V.str v2)] = [(Sum.inr k1, V.str v1), (Sum.inr k2, V.str v2)] := by
    unfold mergeK
    rw [List.foldl_cons, List.foldl_cons, List.foldl_nil]
    have e1 : putK [] (Sum.inr k1 : Key) (V.str v1) = [(Sum.inr k1, V.str v1)] := rfl
    rw [e1]
    unfold putK
    rw [if_neg (by simp [hk])]; rfl
  rw [em]
  have hu : upd (upd H a (.dK [])) a (.dK [(Sum.inr k1, V.str v1), (Sum.inr k2, V.str v2)]) = upd H a (.dK [(Sum.inr k1, V.str v1), (Sum.inr k2, V.str v2)]) := by
    funext b
    unfold upd
    split <;> rfl
  rw [hu]
  have h : ∀ H' B' φ', Xt H B φ H' B' φ' → Wd G H' B' φ' S → ∀ v, RepV G B' φ' (.p (.dct [(k1, v1), (k2, v2)])) v → Q v H' := h
  refine h _ _ _ (Xt.alloc w ha) (w.alloc ha) _ ?_
  show Rep G _ (.dct _) _
  unfold Rep
  exact ⟨a, rfl, upd_same⟩
def kvGet (kvs : List (Str × Str)) (x : Str) : Option Str := (kvs.find? fun p => decide (p.1 = x)).map (·.2)
theorem kvGet_at {x : Str} : ∀ kvs : List (Str × Str), valV (kvs.map fun p => ((Sum.inr p.1 : Key), V.str p.2)) (Sum.inr x) = (kvGet kvs x).map V.str
  | [] => rfl
  | p :: r => by
    have ih := kvGet_at (x := x) r
    unfold valV kvGet at *
    rw [List.map_cons, List.find?_cons, List.find?_cons]
    by_cases h : p.1 = x
    · have h1 : decide ((Sum.inr p.1 : Key) = Sum.inr x) = true := by simp [h]
      rw [h1, decide_eq_true h]; rfl
    · have h1 : decide ((Sum.inr p.1 : Key) = Sum.inr x) = false := by simp [h]
      rw [h1, decide_eq_false h]
      exact ih
def dGet2 (fo fe fx : Ef) : Ef := fun ρ S => (fo ρ S).bind fun d S1 => match d with
  | .p (.dct kvs) => (fe ρ S1).bind fun y S2 => match y with
    | .p (.str x) => (fx ρ S2).bind fun z S3 => match kvGet kvs x with
      | some u => .ok (.p (.str u)) S3
      | none => .ok z S3
    | _ => .bad
  | _ => .bad
theorem de_get2 {apos : Pos} {f : Expr} (hu : X.A.units + 1 < cLine) (ho : PE X o (tD G W ef)) (he : PE X e (tD G W eg)) (hf : PE X f (tD G W eh)) (m : M2 X o "get" apos e f pos) : PE X (.Call (.Attribute o "get" apos) [e, f] [] pos) (tD G W (dGet2 ef eg eh)) := by
  refine wkE (pe_dget2 hu ho he hf m) fun σ H Q ⟨ρ, B, φ, S, w, en, h⟩ => tD.run w en (WP.fst h) fun d v H1 B1 φ1 S1 x1 w1 en1 r1 k1 => ?_
  split at k1
  · rename_i kvs
    have r1' : Rep G B1 (.dct kvs) v := r1
    unfold Rep at r1'
    obtain ⟨a, rfl, ha⟩ := r1'
    refine ⟨a, rfl, .inl ⟨_, .inl (w1.sub _ _ ha)⟩, ?_⟩
    refine tD.run w1 en1 (WP.fst k1) fun y v2 H2 B2 φ2 S2 x2 w2 en2 r2 k2 => ?_
    split at k2
    · rename_i x
      have ev := rep_str.mp r2
      subst ev
      refine tD.run w2 en2 (WP.fst k2) fun z v3 H3 B3 φ3 S3 x3 w3 en3 r3 k3 => ?_
      have ha3 := w3.sub _ _ (x3.b _ _ (x2.b _ _ ha))
      refine ⟨_, DGet.k (k := Sum.inr x) ha3, ?_⟩
      rw [kvGet_at]
      split at k3
      · rename_i u hq
        rw [hq]
        exact k3 H3 B3 φ3 Xt.refl w3 _ (rep_str.mpr rfl)
      · rename_i hq
        rw [hq]
        exact k3 H3 B3 φ3 Xt.refl w3 _ r3
    · exact k2.elim
  · exact k1.elim
end
end DL

set_option maxHeartbeats 4000000
namespace DL
open PySem L2
open PySem.Spec PyProof.Rows
/-! ### several clauses, some of which name the error -/
abbrev Clause := Value × Option Nat × (Addr → Value → Option Addr → TS)
def without (i : Nat) (Z : Ends) : Ends := ⟨fun t h => Z.nx (t.set i none) h, fun v h => Z.rt v h, fun t h => Z.bk (t.set i none) h, fun t h => Z.ct (t.set i none) h⟩
/-- what the clauses ask, one behind the other -/
def askC (K : PySem.W.Frag) (Out : WX) (Z : Ends) : List Clause → WX
  | [], cls, d, t, h => Out cls d t h
  | (c, none, ts) :: r, cls, d, t, h => ∃ b, PySem.W.exmOne K cls c = some b ∧ (b = true → ∀ a, h a = none → ts a cls d Z t h) ∧ (b = false → askC K Out Z r cls d t h)
  | (c, some i, ts) :: r, cls, d, t, h => ∃ b, PySem.W.exmOne K cls c = some b ∧ (b = true → ∀ a, h a = none → ts a cls d (without i Z) (t.set i (some (.ref a))) h) ∧ (b = false → askC K Out Z r cls d t h)
inductive ClOk (X : Cx) : List ExceptHandler → List Clause → Prop
  | nil : ClOk X [] []
  | bare {x : Str} {c : Value} {ts : Addr → Value → Option Addr → TS} {b : Stmt} {su : List Stmt} {q q' : Pos} {hs : List ExceptHandler} {l : List Clause} (hc : Names X x c)
      (k : ∀ (a : Addr) (ob : Obj) (cls : Value) (d : Option Addr) (pn : List (Addr × Obj)), Zc cls d ob → (∃ vs, ob.data = .fields vs) → PSs (X.suite a ((a, ob) :: pn)) (b :: su) (ts a cls d)) (r : ClOk X hs l) :
      ClOk X (.ExceptHandler (some (.Name x q)) none (b :: su) q' :: hs) ((c, none, ts) :: l)
  | named {x n : Str} {i : Nat} {c : Value} {ts : Addr → Value → Option Addr → TS} {b : Stmt} {su : List Stmt} {q q' : Pos} {hs : List ExceptHandler} {l : List Clause} (hc : Names X x c) (hN : X.N.Nodup) (hi : X.N[i]? = some n) (hk : X.env.kindOf n = some .local)
      (k : ∀ (a : Addr) (ob : Obj) (cls : Value) (d : Option Addr) (pn : List (Addr × Obj)), Zc cls d ob → (∃ vs, ob.data = .fields vs) → PSs (X.suite a ((a, ob) :: pn)) (b :: su) (ts a cls d)) (r : ClOk X hs l) :
      ClOk X (.ExceptHandler (some (.Name x q)) (some n) (b :: su) q' :: hs) ((c, some i, ts) :: l)
section
variable {X : Cx} {body : List Stmt} {e0 : ExceptHandler} {es : List ExceptHandler} {l : List Clause} {pos : Pos} {tb : WX → TS} {Out : WX}
theorem try_rule (hst : X.stack = X.env :: X.outer) (hfr0 : X.env.frame = some X.env.locals) (tk : Takes X Out)
    (hb : ∀ (W : WX) (pn : List (Addr × Obj)) (xe : Value → Shared → Prop), Takes (X.tr pn xe) W → PassesOwn (model X.prog X.w) X.A X.env xe → PSs (X.tr pn xe) body (tb W))
    (hh : ClOk X (e0 :: es) l) : PS X (.Try body (e0 :: es) [] [] pos) (fun Z t h => tb (askC X.K Out Z l) Z t h) := by
  refine ⟨fun pins s t h Z I hy => ?_⟩
  have okI := I.ok
  have hfrm : X.A.frames = some (X.env :: X.outer) := by rw [okI.frames, hst]
  have start := (hb (askC X.K Out Z l) (X.pn ++ pins) (fun er s1 => wpAny (model X.prog X.w) X.A (noteFrame er X.env) (fun _ s2 => wpAny (model X.prog X.w) X.A (setFlight er none) (fun _ s3 =>
    wpAny (model X.prog X.w) X.A (handleBy er X.env (e0 :: es)) (SP X pins Z) X.xe s3) X.xe s2) X.xe s1) ?caught PassesOwn.looking).run [] s t h Z (I.toTry _) hy
  case caught =>
    intro u s' xx
    obtain ⟨a, B, sI, pins', t', h', cls, d, rfl, J', nb, up, sky, na, os, ag, w⟩ := xx
    have J : Inv X pins t' h' sI := J'.ofTry okI
    have sky2 : Sky B (X.env :: X.outer) a (Zc cls d) X.env.locals s'.heap := by rw [← hst]; exact sky
    show wpAny (model X.prog X.w) X.A (noteFrame (.ref a) X.env) _ _ _
    refine Sky.land Zc.steady hfrm hfr0 sky2 fun hp3 fl up3 => ?_
    have J3 : Inv X pins t' h' { s' with heap := hp3 } := J.landed nb fl.1 (up.trans up3) os ag
    obtain ⟨ob3, vs3, g3, z3, d3⟩ := fl.there
    have notIn : a ∉ frs (X.env :: X.outer) := fun hm => by
      obtain ⟨_, o', e', hnf⟩ := fl.2.2.1.mem hm
      rw [g3] at e'; cases e'
      exact hnf _ d3
    have nL : a ≠ X.env.locals := fun z => notIn (List.mem_filterMap.mpr ⟨X.env, List.mem_cons_self, by rw [hfr0, z]⟩)
    have nF : a ∉ X.fs := fun hm => by
      obtain ⟨en, he, q⟩ := List.mem_filterMap.mp hm
      exact notIn (List.mem_filterMap.mpr ⟨en, List.mem_cons_of_mem _ he, q⟩)
    have S3 := J3.suite g3 d3 na nL nF
    have LT : PySem.W.Looks (model X.prog X.w) hp3 (typeOf (.ref a)) cls := fun A Q E s k q => wpAny_typeOf_ref (k _ _ g3) (by rw [z3.1]; exact q)
    have asks : ∀ {x : Str} {c : Value} {q : Pos}, Names X x c → ∀ {Q : Value → Shared → Prop} {E : Value → Shared → Prop}, Q c { s' with heap := hp3 } → wpAny (model X.prog X.w) (X.A.mark (some (.ref a))) (eval (.Name x q) X.env) Q E { s' with heap := hp3 } := fun {x c q} hc {Q E} y => by
      obtain ⟨hg, hdb, hm | ⟨hm, hv, hnn⟩⟩ := hc
      · exact ld_glob (X := X.suite a ((a, ob3) :: (X.pn ++ pins))) S3 hg hm y hdb
      · exact ld_blt (X := X.suite a ((a, ob3) :: (X.pn ++ pins))) S3 hg hm hv y hnn hdb
    have away : askC X.K Out Z [] cls d t' h' → wpAny (model X.prog X.w) X.A (handleBy (.ref a) X.env []) (SP X pins Z) X.xe { s' with heap := hp3 } := fun w => by
      refine wpAny_handleBy_nil ?_
      obtain ⟨k1, k2, k3, ob, vs, T, oT, ts', g4, z4, d4, h1, hr⟩ := id fl
      unfold PySem.passOn
      refine wpAny_bind (wpAny_field g4 d4 h1 ?_)
      rw [if_neg (by simp : ¬ ((Value.ref T == Value.none) = true))]
      have last : wpAny (model X.prog X.w) X.A (setFlight (.ref a) X.env.frame) (fun _ s4 => wpAny (model X.prog X.w) X.A (throw (.ref a) : Sem Flow) (SP X pins Z) X.xe s4) X.xe { s' with heap := hp3 } := by
        rw [hfr0]
        refine HandSPX.setFlight_upZ fl fun hp4 k4 up4 => wpAny_throw (tk _ _ ?_)
        exact ⟨a, B, sI, pins, t', h', cls, d, rfl, J, nb, (up.trans up3).trans up4, .inr (.inr (by rw [hst]; exact k4)), na, os, ag, w⟩
      first
        | exact wpAny_bind (wpAny_pure (wpAny_bind last))
        | exact wpAny_bind last
    have go : ∀ {hs' : List ExceptHandler} {l' : List Clause}, ClOk X hs' l' → askC X.K Out Z l' cls d t' h' →
        wpAny (model X.prog X.w) X.A (handleBy (.ref a) X.env hs') (SP X pins Z) X.xe { s' with heap := hp3 } := by
      intro hs' l' hk
      induction hk with
      | nil => exact away
      | @bare x c ts b su q q' hs2 l2 hc k r ih =>
        intro w
        obtain ⟨bb, hb1, yes, no⟩ := w
        have LM := PySem.W.exm_one (M := model X.prog X.w) (J3.kIn) LT hb1
        refine wpAny_handleBy_cons (codeAny_handlers_test ?_) (by intro z; cases z)
        refine asks hc (LM.here ?_)
        cases bb with
        | false =>
          show wpAny _ X.A (handleBy (.ref a) X.env hs2) _ _ _
          exact ih (no rfl)
        | true =>
          refine codeAny_handlers_suite ?_
          refine HandSPX.lands_againZ fl fun hp4 fl4 up4 => ?_
          have J4 : Inv X pins t' h' { s' with heap := hp4 } := J.landed nb fl4.1 ((up.trans up3).trans up4) os ag
          obtain ⟨ob4, vs4, g4, z4, d4⟩ := fl4.there
          refine wpAny_mono ((k a ob4 cls d (X.pn ++ pins) z4 ⟨_, d4⟩).run [] _ _ h' _ (J4.suite g4 d4 na nL nF) (yes rfl a na)) (fun f s6 hsp => ?_) (fun _ _ z => z.elim)
          cases f with
          | next => exact let ⟨t6, h6, S6, q6⟩ := hsp; ⟨_, _, S6.unsuite okI, q6⟩
          | brk => exact let ⟨t6, h6, S6, q6⟩ := hsp; ⟨_, _, S6.unsuite okI, q6⟩
          | cont => exact let ⟨t6, h6, S6, q6⟩ := hsp; ⟨_, _, S6.unsuite okI, q6⟩
          | ret u => exact let ⟨v6, t6, h6, S6, r6, q6⟩ := hsp; ⟨_, _, _, S6.unsuite okI, r6, q6⟩
      | @named x n i c ts b su q q' hs2 l2 hc hN hi hkn k r ih =>
        intro w
        obtain ⟨bb, hb1, yes, no⟩ := w
        have LM := PySem.W.exm_one (M := model X.prog X.w) (J3.kIn) LT hb1
        have hloc : Loc X.env.scope n := .inl hkn
        refine wpAny_handleBy_cons (codeAny_handlers_test ?_) (by intro z; cases z)
        refine asks hc (LM.here ?_)
        cases bb with
        | false =>
          show wpAny _ X.A (handleBy (.ref a) X.env hs2) _ _ _
          exact ih (no rfl)
        | true =>
          refine codeAny_handlers_suite_as ?_
          refine HandSPX.lands_againZ fl fun hp4 fl4 up4 => ?_
          have J4 : Inv X pins t' h' { s' with heap := hp4 } := J.landed nb fl4.1 ((up.trans up3).trans up4) os ag
          obtain ⟨ob4, vs4, g4, z4, d4⟩ := fl4.there
          refine store_ok (X := X.suite a ((a, ob4) :: (X.pn ++ pins))) (v := .ref a) (J4.suite g4 d4 na nL nF) hN hi hloc rfl (fun s5 S5 => ?_) (.inr hkn)
          have fin : ∀ {t6 : L2.St} {h6 : Hp} {s6 : Shared} {Q : Shared → Prop}, Inv (X.suite a ((a, ob4) :: (X.pn ++ pins))) [] t6 h6 s6 → (∀ s7, Inv X pins (t6.set i none) h6 s7 → Q s7) →
              wpAny (model X.prog X.w) X.A (do bindName X.env n .none; unbindBehindTheSuite X.env n q') (fun _ s7 => Q s7) X.xe s6 := fun {t6 h6 s6 Q} S6 hq => gone_ok (S6.unsuite okI) hN hi hkn hq
          refine wpAny_mono ((k a ob4 cls d (X.pn ++ pins) z4 ⟨_, d4⟩).run [] s5 _ h' _ S5 (yes rfl a na)) (fun f s6 hsp => ?_) (fun _ _ z => z.elim)
          cases f with
          | next => exact let ⟨t6, h6, S6, q6⟩ := hsp; fin S6 fun s7 J7 => ⟨_, _, J7, q6⟩
          | brk => exact let ⟨t6, h6, S6, q6⟩ := hsp; fin S6 fun s7 J7 => ⟨_, _, J7, q6⟩
          | cont => exact let ⟨t6, h6, S6, q6⟩ := hsp; fin S6 fun s7 J7 => ⟨_, _, J7, q6⟩
          | ret u => exact let ⟨v6, t6, h6, S6, r6, q6⟩ := hsp; fin S6 fun s7 J7 => ⟨_, _, _, J7, r6, q6⟩
    exact go hh w
  refine wpAny_Try_except (wpAny_mono start (fun f s1 hsp => ?_) fun er s1 he => he)
  cases f with
  | next => exact let ⟨t', h', J', q⟩ := hsp; wpAny_execs_nil ⟨t', h', J'.ofTry okI, q⟩
  | brk => exact let ⟨t', h', J', q⟩ := hsp; ⟨t', h', J'.ofTry okI, q⟩
  | cont => exact let ⟨t', h', J', q⟩ := hsp; ⟨t', h', J'.ofTry okI, q⟩
  | ret u => exact let ⟨v, t', h', J', r, q⟩ := hsp; ⟨v, t', h', J'.ofTry okI, r, q⟩
end
/-! ### the clauses over data -/
inductive Hc where
  | bare (mt : Nat → Option Bool) (g : Sf)
  | named (mt : Nat → Option Bool) (i : Nat) (g : Ex → Sf)
def OS.away (i : Nat) : OS → OS
  | .ok (.nx ρ) S => .ok (.nx (ρ.set i none)) S
  | .ok (.bk ρ) S => .ok (.bk (ρ.set i none)) S
  | .ok (.ct ρ) S => .ok (.ct (ρ.set i none)) S
  | .ok (.rt d) S => .ok (.rt d) S
  | _ => .bad
def OS.still : OS → OS
  | .ok fl S => .ok fl S
  | _ => .bad
def sHc : List Hc → Ex → Sf
  | [], x => fun ρ S => .exc x ρ S
  | .bare mt g :: r, x => fun ρ S => match mt x.cls with
    | some true => (g ρ S).still
    | some false => sHc r x ρ S
    | none => .bad
  | .named mt i g :: r, x => fun ρ S => match mt x.cls with
    | some true => if i < ρ.length then (g x (ρ.set i none) S).away i else .bad
    | some false => sHc r x ρ S
    | none => .bad
def sTryC (f : Sf) (l : List Hc) : Sf := fun ρ S => match f ρ S with
  | .exc x ρ' S' => sHc l x ρ' S'
  | .ok fl S' => .ok fl S'
  | .bad => .bad
/-- a suite's reading where slot i holds the error at a -/
def tX (G : Gx) (i : Nat) (a : Addr) (cls : Value) (dd : Option Addr) (g : Ex → Sf) : TS := fun D σ H => ∃ x ρ B φ S, Wd G H B φ S ∧ EnvR G B φ σ ρ ∧ σ[i]? = some (some (.ref a)) ∧ XRep G B x cls dd ∧ WPS G noW D H B φ (g x ρ S)
def xD (G : Gx) (i : Nat) (a : Addr) (cls : Value) (dd : Option Addr) (f : Ex → Ef) : TE := fun σ H Q => ∃ x ρ B φ S, Wd G H B φ S ∧ EnvR G B φ σ ρ ∧ σ[i]? = some (some (.ref a)) ∧ XRep G B x cls dd ∧
  WP G noW σ H B φ (f x ρ S) fun d H' B' φ' _ => ∀ v, RepV G B' φ' d v → Q v H'
def xT (G : Gx) (i : Nat) (a : Addr) (cls : Value) (dd : Option Addr) (f : Ex → Tf) : TT := fun σ H Q => ∃ x ρ B φ S, Wd G H B φ S ∧ EnvR G B φ σ ρ ∧ σ[i]? = some (some (.ref a)) ∧ XRep G B x cls dd ∧
  WP G noW σ H B φ (f x ρ S) fun b H' _ _ _ => Q b H'
inductive HcD (X : Cx) (G : Gx) : List ExceptHandler → List Hc → Prop
  | nil : HcD X G [] []
  | bare {x : Str} {c : Value} {b : Stmt} {su : List Stmt} {q q' : Pos} {hs : List ExceptHandler} {l : List Hc} {mt : Nat → Option Bool} {g : Sf} (hc : Names X x c) (hm : ∀ m b, mt m = some b → PySem.W.exmOne X.K (.ref (G.xc m)) c = some b)
      (k : ∀ (a : Addr) (pn : List (Addr × Obj)), PSs (X.suite a pn) (b :: su) (tS G noW g)) (r : HcD X G hs l) :
      HcD X G (.ExceptHandler (some (.Name x q)) none (b :: su) q' :: hs) (.bare mt g :: l)
  | named {x n : Str} {i : Nat} {c : Value} {b : Stmt} {su : List Stmt} {q q' : Pos} {hs : List ExceptHandler} {l : List Hc} {mt : Nat → Option Bool} {g : Ex → Sf} (hc : Names X x c) (hN : X.N.Nodup) (hi : X.N[i]? = some n) (hk : X.env.kindOf n = some .local)
      (hm : ∀ m b, mt m = some b → PySem.W.exmOne X.K (.ref (G.xc m)) c = some b)
      (k : ∀ (a : Addr) (ob : Obj) (cls : Value) (d : Option Addr) (pn : List (Addr × Obj)), Zc cls d ob → (∃ vs, ob.data = .fields vs) → PSs (X.suite a ((a, ob) :: pn)) (b :: su) (tX G i a cls d g)) (r : HcD X G hs l) :
      HcD X G (.ExceptHandler (some (.Name x q)) (some n) (b :: su) q' :: hs) (.named mt i g :: l)
section
variable {X : Cx} {G : Gx} {W : WX} {H B : Hp} {φ : List Addr} {S : Sto} {σ : L2.St} {ρ : Nv}
theorem still_wps {Z : Ends} {o : OS} (h : WPS G W Z H B φ o.still) : WPS G noW Z H B φ o := by
  cases o with
  | ok fl S => exact h
  | exc x ρ S => exact h.elim
  | bad => exact h
theorem away_wps {Z : Ends} {o : OS} {i : Nat} (h : WPS G W Z H B φ (o.away i)) : WPS G noW (without i Z) H B φ o := by
  cases o with
  | ok fl S =>
    cases fl with
    | nx ρ => exact fun H' B' φ' x w σ en => h H' B' φ' x w _ (en.drop1 i none)
    | bk ρ => exact fun H' B' φ' x w σ en => h H' B' φ' x w _ (en.drop1 i none)
    | ct ρ => exact fun H' B' φ' x w σ en => h H' B' φ' x w _ (en.drop1 i none)
    | rt d => exact h
  | exc x ρ S => exact h.elim
  | bad => exact h
theorem hc_ok {hds : List ExceptHandler} {l : List Hc} (h : HcD X G hds l) : ∃ l', ClOk X hds l' ∧ ∀ (D : Ends) (x : Ex) (c : Value) (dd : Option Addr) (σ : L2.St) (H : Hp), (∃ ρ B φ S, Wd G H B φ S ∧ EnvR G B φ σ ρ ∧ XRep G B x c dd ∧ WPS G W D H B φ (sHc l x ρ S)) → askC X.K W D l' c dd σ H := by
  induction h with
  | nil => exact ⟨[], .nil, fun D x c dd σ H ⟨ρ, B, φ, S, w, en, xr, q⟩ => q H B φ c dd σ Xt.refl w xr en⟩
  | @bare x c b su q q' hs l mt g hc hm k r ih =>
    obtain ⟨l', k1, k2⟩ := ih
    refine ⟨(c, none, fun _ _ _ => tS G noW g) :: l', .bare hc (fun a ob cls d pn _ _ => k a _) k1, fun D x c' dd σ H ⟨ρ, B, φ, S, w, en, xr, q⟩ => ?_⟩
    unfold sHc at q
    cases hb : mt x.cls with
    | none => rw [hb] at q; exact q.elim
    | some t =>
      rw [hb] at q
      refine ⟨t, by rw [xr.1]; exact hm _ _ hb, fun e a _ => ?_, fun e => ?_⟩
      · subst e
        exact ⟨ρ, B, φ, S, w, en, still_wps q⟩
      · subst e
        exact k2 D x c' dd σ H ⟨ρ, B, φ, S, w, en, xr, q⟩
  | @named x n i c b su q q' hs l mt g hc hN hi hk hm k r ih =>
    obtain ⟨l', k1, k2⟩ := ih
    refine ⟨(c, some i, fun a cls d => tX G i a cls d g) :: l', .named hc hN hi hk k k1, fun D x c' dd σ H ⟨ρ, B, φ, S, w, en, xr, q⟩ => ?_⟩
    unfold sHc at q
    cases hb : mt x.cls with
    | none => rw [hb] at q; exact q.elim
    | some t =>
      rw [hb] at q
      refine ⟨t, by rw [xr.1]; exact hm _ _ hb, fun e a _ => ?_, fun e => ?_⟩
      · subst e
        dsimp only at q
        split at q
        · rename_i hl
          exact ⟨x, ρ.set i none, B, φ, S, w, en.drop1 i _, List.getElem?_set_self (by rw [← en.len]; exact hl), xr, away_wps q⟩
        · exact q.elim
      · subst e
        exact k2 D x c' dd σ H ⟨ρ, B, φ, S, w, en, xr, q⟩
theorem dp_tryC {f : Sf} {body : List Stmt} {h0 : ExceptHandler} {hds : List ExceptHandler} {l : List Hc} {pos : Pos} (hs : X.stack = X.env :: X.outer) (hf : X.env.frame = some X.env.locals) (tk : Takes X W)
    (hb : ∀ (W' : WX) (pn : List (Addr × Obj)) (xe : Value → Shared → Prop), Takes (X.tr pn xe) W' → PassesOwn (model X.prog X.w) X.A X.env xe → PSs (X.tr pn xe) body (tS G W' f))
    (hh : HcD X G (h0 :: hds) l) : PS X (.Try body (h0 :: hds) [] [] pos) (tS G W (sTryC f l)) := by
  obtain ⟨l', k1, k2⟩ := hc_ok (W := W) hh
  refine wkS (try_rule hs hf tk (tb := fun W' => tS G W' f) hb k1) fun D σ H ⟨ρ, B, φ, S, w, en, q⟩ => ⟨ρ, B, φ, S, w, en, ?_⟩
  unfold sTryC at q
  cases e : f ρ S with
  | bad => rw [e] at q; exact q
  | ok fl S' => rw [e] at q; exact q
  | exc x ρ' S' =>
    rw [e] at q
    dsimp only at q
    exact fun H' B' φ' c dd σ' x1 w1 xr en1 => k2 D x c dd σ' H' ⟨ρ', B', φ', S', w1, en1, xr, WPS.rebase x1 q⟩
end
/-! ### what a suite does with its error -/
section
variable {X : Cx} {G : Gx} {a : Addr} {ob : Obj} {cls : Value} {dd : Option Addr} {pn : List (Addr × Obj)} {i : Nat} {e e2 : Expr} {f g : Ex → Ef} {c : Ex → Tf} {pos p p2 : Pos} {n : Str}
theorem dpx_set {j : Nat} {y : Str} (hN : X.N.Nodup) (hj : X.N[j]? = some y) (hy : Loc X.env.scope y) (he : PE (X.suite a ((a, ob) :: pn)) e (xD G i a cls dd f)) (hs : swapsWith e (some (.Name y p)) pos.line X.env = pure false := by rfl)
    (hf : X.fn y = true ∨ X.env.scope.names.lookup y = some .local := by first | exact .inl rfl | exact .inr rfl | assumption) : PS (X.suite a ((a, ob) :: pn)) (.Assign [.Name y p] e pos) (tX G i a cls dd fun x => sSet j (f x)) :=
  wkS (ps_set (X := X.suite a ((a, ob) :: pn)) hN hj hy he hs hf) fun D σ H ⟨x, ρ, B, φ, S, w, en, hx, xr, h⟩ => ⟨x, ρ, B, φ, S, w, en, hx, xr, (WPS.fst en h).mono fun d H1 B1 φ1 S1 x1 w1 q1 v r1 => WPS.here w1 q1 _ ((en.mono x1.b x1.p).set j r1)⟩
theorem dpx_one {st : Stmt} {s : Ex → Sf} (h : PS X st (tX G i a cls dd s)) : PSs X [st] (tX G i a cls dd s) := pss_one h
theorem xe_str {z : Str} {j} : PE X (.Constant (.str z) j pos) (xD G i a cls dd fun _ => dC (.str z)) := wkE pe_str fun σ H Q ⟨x, ρ, B, φ, S, w, en, hx, xr, h⟩ => h H B φ Xt.refl w _ (rep_str.mpr rfl)
theorem xe_if {cc : Expr} (hc : PT X cc (xT G i a cls dd c)) (h1 : PE X e (xD G i a cls dd f)) (h2 : PE X e2 (xD G i a cls dd g)) : PE X (.IfExp cc e e2 pos) (xD G i a cls dd fun x => dIf (c x) (f x) (g x)) := by
  refine wkE (pe_ifExp hc h1 h2) fun σ H Q ⟨x, ρ, B, φ, S, w, en, hx, xr, h⟩ => ⟨x, ρ, B, φ, S, w, en, hx, xr, (WP.fst h).mono fun t H1 B1 φ1 S1 x1 w1 q1 => ?_⟩
  cases t with
  | true => exact ⟨x, ρ, B1, φ1, S1, w1, en.mono x1.b x1.p, hx, xr.mono x1.b, q1⟩
  | false => exact ⟨x, ρ, B1, φ1, S1, w1, en.mono x1.b x1.p, hx, xr.mono x1.b, q1⟩
/-- e.f: the k-th field of class j -/
def xFld (j k : Nat) : Ex → Ef := fun x ρ S => if x.cls = j then match x.args[k]? with
  | some d => .ok (.p d) S
  | none => .bad else .bad
theorem zip_at {f : Str} : ∀ {ns : List Str} {vs : List V} {k : Nat} {v : V}, ns.Nodup → ns[k]? = some f → vs[k]? = some v → (ns.zip vs).lookup f = some v
  | [], _, k, _, _, h, _ => by simp at h
  | m :: ns, [], k, v, _, _, h => by simp at h
  | m :: ns, u :: vs, 0, v, nd, h, h2 => by
    simp at h h2
    subst h h2
    simp [List.lookup]
  | m :: ns, u :: vs, k + 1, v, nd, h, h2 => by
    have h' : ns[k]? = some f := by simpa using h
    have ne : (f == m) = false := beq_eq_false_iff_ne.mpr fun z => (List.nodup_cons.mp nd).1 (z ▸ List.mem_of_getElem? h')
    rw [List.zip_cons_cons]
    unfold List.lookup
    rw [ne]
    exact zip_at (List.nodup_cons.mp nd).2 h' (by simpa using h2)
theorem xe_fld {f : Str} {j k : Nat} (T : XfC X.K (G.xc j)) (hno : PySem.W.findIn X.K (.ref (G.xc j)) f = some none) (nd : (G.xf j).Nodup) (hk : (G.xf j)[k]? = some f) (hz : Zc cls dd ob) (hf : ∃ vs, ob.data = .fields vs) (hN : X.N[i]? = some n)
    (hv : Vis X.env.scope n := by first | exact Or.inl rfl | exact Or.inr (Or.inl rfl) | exact Or.inr (Or.inr rfl)) (hd : (n == ("__debug__" : Str)) = false := by decide) (hcd : (n == ("__classdict__" : Str)) = false := by decide)
    (hb : attributeBase (.Name n p) f X.env (eval (.Name n p) X.env) = eval (.Name n p) X.env := by rfl) :
    PE (X.suite a ((a, ob) :: pn)) (.Attribute (.Name n p) f pos) (xD G i a cls dd (xFld j k)) := by
  refine ⟨fun pins s σ H Q I ⟨x, ρ, B, φ, S, w, en, hx, xr, h⟩ => ?_⟩
  unfold xFld at h
  split at h
  · rename_i hj
    subst hj
    split at h
    · rename_i d ha
      obtain ⟨e1, e2⟩ := xr
      cases hl : x.args with
      | nil => rw [hl] at ha; simp at ha
      | cons d0 dr =>
        rw [hl] at e2
        obtain ⟨da, vs, rfl, hd1, r, hlen⟩ := e2
        rw [hl] at ha
        obtain ⟨v, hv1, rv⟩ := r.get ha
        have base := pe_xf (X := X) (a := a) (C := G.xc x.cls) (oe := ob) (pn := pn) (pos := pos) T hno hz hf (pe_var (X := X.suite a ((a, ob) :: pn)) (pos := p) hN hv hd hcd) hb
        refine base.run pins s σ H Q I ?_
        exact ⟨_, hx, rfl, e1, da, _, v, rfl, w.sub _ _ hd1, zip_at nd hk hv1, h H B φ Xt.refl w v rv⟩
    · exact h.elim
  · exact h.elim
end
/-! isinstance(e, C) -/
section
variable {prog : Program} {w : World} {A : Around} {E : Value → Shared → Prop} {s : Shared} {K : PySem.W.Frag} {x D : Addr} {ox : Obj} {od : Option Obj}
theorem exc_class {Q : Option Value → Shared → Prop} (T : ExcC K D) (Y : K.In s.heap) (I : PySem.W.InstAt s.heap x ox D od) (h : Q (some (.ref D)) { s with toks := s.toks + 1 }) :
    wpAny (model prog w) A (getAttr? (.ref x) "__class__") Q E s := by
  have hf : PySem.W.findObj K D od "__class__" = some (.bind (.builtin "getset_descriptor.__get__") (.builtin "object.__class__")) := by
    obtain ⟨cd, hc, _⟩ := PySem.W.any_some T.hd
    unfold PySem.W.findObj
    rw [hc, Option.bind_some, T.ha, Option.bind_some]
    simp [T.hn, T.ht]
  obtain ⟨hp, g, d, t, os⟩ := s
  have L0 := I.type (M := model prog w)
  have L1 := PySem.W.looks_findIn (M := model prog w) Y T.hg
  have L2 := PySem.W.looks_findIn (M := model prog w) Y T.hk
  have L3 := PySem.W.looks_find (M := model prog w) Y I hf
  have sub : PySem.W.Looks (model prog w) hp (isInstance (.ref x) (.type "BaseException")) true := L0.andThen (PySem.W.looks_subIn Y T.hs)
  have z0 : (false && onTheHeap (Value.builtin "BaseException.__getattribute__")) = false := rfl
  have z2 : (Value.builtin "BaseException.__getattribute__" == Value.builtin "object.__getattribute__") = false := by decide +kernel
  have z1 : (onTheHeap (Value.ref D) && Value.builtin "BaseException.__getattribute__" == Value.builtin "object.__getattribute__") = false := by rw [z2]; rfl
  unfold getAttr? getAttrBy? getAttrBy
  refine wpAny_bind (wpAny_mkText (wpAny_bind (wpAny_attempt (wpAny_holding (wpAny_bind (L0.at (wpAny_bind (L1.at ?_))))))))
  show wpAny _ _ (if (onTheHeap (Value.ref D) && Value.builtin "BaseException.__getattribute__" == Value.builtin "object.__getattribute__") = true then _ else _) _ _ _
  rw [z1, if_neg Bool.false_ne_true]
  unfold getAttrByItsOwn hookBefore
  refine wpAny_bind ?_
  rw [if_pos (by rfl : onTheHeap (Value.ref D) = true)]
  refine L2.at (wpAny_bind (wpAny_attempt (wpAny_holding ?_)))
  unfold callGetattribute
  rw [z0, if_neg Bool.false_ne_true]
  unfold boundAndCalled
  rw [PySem.F.excAttr_ValueError.ga.bind (.ref x)]
  refine wpAny_bind (wpAny_pure ?_)
  show wpAny _ _ (call (.builtin "BaseException.__getattribute__") [.ref x, .str "__class__" t]) _ _ _
  refine wpAny_call (codeAny_call_builtin PySem.F.excAttr_ValueError.ga.plain PySem.F.entry_bexc_ga ?_)
  refine @PySem.W.check_slot (model prog w) _ _ ⟨hp, g, d, t + 1, os⟩ "BaseException.__getattribute__" "BaseException" "__getattribute__" (.ref x) [.str "__class__" t] [] _ (by decide +kernel) (by decide +kernel) sub (PySem.F.args_bexc_ga (.ref x) (.str "__class__" t)) ?_
  unfold Builtin.«object.__getattribute__»
  refine wpAny_bind (wpAny_of_eq (a := ((Value.ref x : Value), [Value.str "__class__" t])) (by first | rfl | (simp only [slotArgs]; rfl)) (wpAny_bind (wpAny_pure (wpAny_bind (L0.at (wpAny_bind (L3.at ?_)))))))
  show wpAny _ _ (holding [Value.builtin "object.__class__"] (call (.builtin "getset_descriptor.__get__") [.builtin "object.__class__", .ref x, .ref D]) >>= ret) _ _ _
  refine wpAny_bind (wpAny_holding (wpAny_call (PySem.W.class_get (s := ⟨hp, g, d, t + 1, os⟩) (ox := ox) (od := od) Y I T.hm (wpAny_pure ?_))))
  show wpAny _ _ (handedOut (.ref D)) _ _ _
  rw [PySem.W.handedOut_of (v := .ref D) rfl]
  first
    | exact wpAny_pure (wpAny_pure h)
    | exact wpAny_pure h
    | exact wpAny_pure (wpAny_bind (wpAny_pure (wpAny_pure h)))
theorem exc_kit (T : ExcC K D) : PySem.W.KitX K (.ref x) (.ref D) (fun h => PySem.W.InstAt h x ox D od) := by
  obtain ⟨cdD, hcD, _⟩ := PySem.W.any_some T.hd
  unfold PySem.W.clsIn at hcD
  split at hcD
  · rename_i c' d' cd' sl' ho
    refine ⟨fun _ _ _ I => I.type, fun _ _ Y _ A' Q' E' s' k q => ?_, fun h tp dd its n sl Y htp => Bool.eq_false_iff.mpr fun q => ?_, fun Y I k => exc_class T Y I k⟩
    · unfold isType loadHead
      exact wpAny_bind (wpAny_loadPart (k _ _ (Y _ _ ho)) (wpAny_pure q))
    · have e : D = tp := Value.ref.inj (beq_iff_eq.mp q)
      subst e
      have z := (Y _ _ ho).symm.trans htp
      cases z
  · cases hcD
end
section
variable {X : Cx} {G : Gx} {a : Addr} {ob : Obj} {cls : Value} {dd : Option Addr} {pn : List (Addr × Obj)} {i : Nat} {e e2 : Expr} {f g : Ex → Ef} {c : Ex → Tf} {pos p p2 p3 : Pos} {n m : Str}
/-- isinstance(e, C) by the error's class -/
def xIs (f : Nat → Option Bool) : Ex → Tf := fun x _ S => match f x.cls with
  | some b => .ok b S
  | none => .bad
theorem xt_is {C : Addr} {f : Nat → Option Bool} (hF : ∀ j b, f j = some b → ExcC X.K (G.xc j) ∧ PySem.W.kitOne X.K (.ref (G.xc j)) (.ref C) = some b) (hz : Zc cls dd ob) (hf : ∃ vs, ob.data = .fields vs) (hN : X.N[i]? = some n)
    (hg : Gl X "isinstance") (hm : X.mg "isinstance" = none) (hgC : Gl X m) (hmC : X.mg m = some (.ref C))
    (hv : Vis X.env.scope n := by first | exact Or.inl rfl | exact Or.inr (Or.inl rfl) | exact Or.inr (Or.inr rfl)) (hd : (n == ("__debug__" : Str)) = false := by decide) (hcd : (n == ("__classdict__" : Str)) = false := by decide) (hdC : (m == ("__debug__" : Str)) = false := by decide)
    (s1 : starEach [.Name n p, .Name m p2] X.env = [(false, eval (.Name n p) X.env), (false, eval (.Name m p2) X.env)] := by rfl) (he : ∀ whole, isTrue (.Call (.Name "isinstance" p3) [.Name n p, .Name m p2] [] pos) X.env whole = (do let v ← whole; standAt (Expr.Call (.Name "isinstance" p3) [.Name n p, .Name m p2] [] pos).pos; holding [v] (truthy v)) := by intro _; rfl) :
    PT (X.suite a ((a, ob) :: pn)) (.Call (.Name "isinstance" p3) [.Name n p, .Name m p2] [] pos) (xT G i a cls dd (xIs f)) := by
  refine ⟨fun pins s σ H Q I ⟨x, ρ, B, φ, S, w, en, hx, xr, h⟩ => ?_⟩
  unfold xIs at h
  cases hb : f x.cls with
  | none => rw [hb] at h; exact h.elim
  | some b =>
    rw [hb] at h
    obtain ⟨T, kit⟩ := hF _ _ hb
    obtain ⟨e1, e2⟩ := xr
    subst e1
    have hcall : CallR (X.suite a ((a, ob) :: pn)) (.builtin "isinstance") (fun xs H Q => xs = [.ref a, .ref C] ∧ (dd = none ∨ ∃ d fs, dd = some d ∧ H d = some (.xd fs)) ∧ Q (.bl b) H) := by
      intro pins s σ H xs us Q I r ⟨hxs, hdd, q⟩
      subst hxs
      cases r with
      | cons rx rr =>
        cases rr with
        | cons rt rr =>
          cases rr
          cases rx
          cases rt
          obtain ⟨hget, _⟩ := I.pin (a, ob) (List.mem_append.mpr (.inl List.mem_cons_self))
          obtain ⟨vs, hvs⟩ := hf
          have J : ∃ od, PySem.W.InstAt s.heap a ob (G.xc x.cls) od := by
            obtain ⟨oc, oda, odt, osl⟩ := ob
            obtain ⟨z1, z2⟩ := hz
            dsimp only at z1 z2 hvs
            subst z1 z2 hvs
            rcases hdd with rfl | ⟨d, fs, rfl, hd⟩
            · exact ⟨none, hget, rfl, rfl, trivial⟩
            · obtain ⟨mA, hns, hr⟩ : ObjOk X.prog X.w H s.heap d (.xd fs) := I.hok d _ hd
              obtain ⟨od, ho, hl⟩ := lookIn_ns hns
              exact ⟨some od, hget, rfl, rfl, ho⟩
          obtain ⟨od, J⟩ := J
          exact PySem.W.kia_one (exc_kit T) I.kIn J kit (fun z => nomatch z) fun tk => ⟨.bl b, H, I.kept (t' := tk) fun _ _ z => z, rfl, q⟩
    have base := pt_val (X := X.suite a ((a, ob) :: pn)) (pe_callB (pos := pos) (p := p3) hcall hg hm PyProof.Rows.boot_isinstance (pa_cons (pe_var (pos := p) hN hv hd hcd) (pa_cons (pe_glob (pos := p2) hgC hmC (v := .ref C) rfl hdC) pa_nil (by rfl)) s1)) he
    refine base.run pins s σ H Q I ?_
    refine ⟨_, hx, rfl, ?_, ⟨b, rfl, h H B φ Xt.refl w⟩⟩
    cases hl : x.args with
    | nil => rw [hl] at e2; exact .inl e2
    | cons d0 dr =>
      rw [hl] at e2
      obtain ⟨da, vs, q1, hd1, r, hlen⟩ := e2
      exact .inr ⟨da, _, q1, w.sub _ _ hd1⟩
end
def isOf (n : Nat) (b : Bool) : Nat → Option Bool := fun m => if m < n then some b else none
theorem is_of {n : Nat} {b : Bool} {P : Nat → Bool → Prop} (h : ∀ m, m < n → P m b) : ∀ m c, isOf n b m = some c → P m c := fun m c e => by
  unfold isOf at e
  split at e
  · rename_i hm
    cases e
    exact h m hm
  · cases e
theorem kit_own {K : PySem.W.Frag} {C : Addr} {t : Value} (h1 : PySem.W.isClsIn K C = true) (h2 : PySem.W.typeIn K (.ref C) = some (.type "type")) (h3 : PySem.W.subIn K t (.ref C) = some true) : PySem.W.kitOne K t (.ref C) = some true := by
  unfold PySem.W.kitOne
  split
  · rfl
  · unfold PySem.W.kitCls
    have e : ((PySem.W.clsIn K C).isSome && PySem.W.typeIn K (.ref C) == some (.type "type")) = true := by
      rw [h2, Bool.and_eq_true]
      exact ⟨h1, beq_self_eq_true _⟩
    dsimp only
    rw [if_pos e, h3]
end DL

set_option maxHeartbeats 4000000
namespace DL
open PySem L2
open PySem.Spec PyProof.Rows
/-! ### errors with fields -/
/-- an error's __init__: the given names are stored, one behind the other -/
def spX (K : PySem.W.Frag) (fs : List Str) : Sp := fun vs H Q _ => ∃ a C ws, vs = .ref a :: ws ∧ OexC K C ∧ ws.length = fs.length ∧ (∀ f ∈ fs, PySem.W.findIn K (.ref C) f = some none) ∧ H a = some (exo a C none) ∧
  ∀ d, H d = none → d ≠ a → Q .non (upd (upd H d (exd d (fs.zip ws).reverse)) a (exo a C (some d)))
section
variable {P : Program} {w : World} {K : PySem.W.Frag} {mg : Str → Option Value} {base : Heap}
theorem ok_x1 {x qual : Str} {st : Stmt} {f : Addr} {fd : FuncData} {s1 n1 : Str} (F : Fun K x qual st f fd) (Sc : FnScope [s1, n1] [s1, n1] (defScope st))
    (der : ∀ (cd : Value) (A : Around) (outer : List Env) (s : Shared) (H : Hp) (E : XK), PSs (cxF P w K mg base [s1, n1] qual (defScope st) f cd A outer s H E) (defBody st) (tOst K n1 (fun σ H Q => ∃ v, σ[0]? = some (some v) ∧ Q v H) (fun σ H Q => ∃ v, σ[1]? = some (some v) ∧ Q v H))) :
    FnOk P w K mg base (L2.CX P w) 1 f fd [s1, n1] (spX K [n1]) := by
  refine F.okX Sc (fun vs H Q E h => ?_) (fun cd A outer s H vs Q E hr h => ?_)
  · obtain ⟨a, C, ws, rfl, _, hl, _⟩ := h
    rw [List.length_cons, hl]; rfl
  · obtain ⟨a, C, ws, rfl, T, hl, hn, ha, q⟩ := h
    match ws, hl, q with
    | [y], _, q =>
      refine ⟨_, der cd A outer s H E, y, rfl, .ref a, rfl, a, C, rfl, T, hn n1 (by simp), .inl ⟨ha, fun d h1 h2 => q d h1 h2⟩⟩
theorem ok_x2 {x qual : Str} {st : Stmt} {f : Addr} {fd : FuncData} {s1 n1 n2 : Str} (F : Fun K x qual st f fd) (Sc : FnScope [s1, n1, n2] [s1, n1, n2] (defScope st))
    (der : ∀ (cd : Value) (A : Around) (outer : List Env) (s : Shared) (H : Hp) (E : XK), PSs (cxF P w K mg base [s1, n1, n2] qual (defScope st) f cd A outer s H E) (defBody st)
      (fun D σ H => tOst K n1 (fun σ H Q => ∃ v, σ[0]? = some (some v) ∧ Q v H) (fun σ H Q => ∃ v, σ[1]? = some (some v) ∧ Q v H) { D with nx := fun σ H => tOst K n2 (fun σ H Q => ∃ v, σ[0]? = some (some v) ∧ Q v H) (fun σ H Q => ∃ v, σ[2]? = some (some v) ∧ Q v H) D σ H } σ H)) :
    FnOk P w K mg base (L2.CX P w) 1 f fd [s1, n1, n2] (spX K [n1, n2]) := by
  refine F.okX Sc (fun vs H Q E h => ?_) (fun cd A outer s H vs Q E hr h => ?_)
  · obtain ⟨a, C, ws, rfl, _, hl, _⟩ := h
    rw [List.length_cons, hl]; rfl
  · obtain ⟨a, C, ws, rfl, T, hl, hn, ha, q⟩ := h
    match ws, hl, q with
    | [y, z], _, q =>
      refine ⟨_, der cd A outer s H E, y, rfl, .ref a, rfl, a, C, rfl, T, hn n1 (by simp), .inl ⟨ha, fun d h1 h2 => ?_⟩⟩
      refine ⟨z, rfl, .ref a, rfl, a, C, rfl, T, hn n2 (by simp), .inr ⟨d, [(n1, y)], upd_same, by rw [upd_ne h2, upd_same], by show 1 ≤ 900; omega, ?_⟩⟩
      have e : upd (upd (upd H d (exd d [(n1, y)])) a (exo a C (some d))) d (exd d [(n2, z), (n1, y)]) = upd (upd H d (exd d [(n2, z), (n1, y)])) a (exo a C (some d)) := by
        funext b
        by_cases hb : b = d
        · subst hb
          rw [upd_same, upd_ne h2, upd_same]
        · rw [upd_ne hb]
          by_cases hb2 : b = a
          · subst hb2; rw [upd_same, upd_same]
          · rw [upd_ne hb2, upd_ne hb2, upd_ne hb, upd_ne hb]
      rw [e]
      exact q d h1 h2
end
/-- raise C(..) -/
def sRaiseA (j n : Nat) (af : Af) : Sf := fun ρ S => (af ρ S).toS ρ fun xs S' => match allP xs with
  | some ds => if ds.length = n then .exc ⟨j, ds.reverse⟩ ρ S' else .bad
  | none => .bad
theorem zip_rev {α β : Type} : ∀ {l : List α} {m : List β}, l.length = m.length → (l.zip m).reverse = l.reverse.zip m.reverse
  | [], [], _ => rfl
  | x :: l, y :: m, h => by
    have h' : l.length = m.length := by simpa using h
    rw [List.zip_cons_cons, List.reverse_cons, List.reverse_cons, List.reverse_cons, zip_rev h', List.zip_append (by rw [List.length_reverse, List.length_reverse, h'])]
    rfl
section
variable {X : Cx} {G : Gx} {W : WX} {k n j : Nat} {f fI : Addr} {fd : FuncData} {ps fs : List Str} {x : Str} {p q pos : Pos} {e : Expr} {es : List Expr} {af : Af}
theorem dp_raiseA (T : OexC X.K (G.xc j)) (iC : PySem.W.findIn X.K (.ref (G.xc j)) "__init__" = some (some (.ref fI))) (tI : PySem.W.typeIn X.K (.ref fI) = some (.type "function")) (F : FnOk X.prog X.w X.K X.mg X.base (L2.CX X.prog X.w) k fI fd ps (spX X.K fs)) (hr : Room (k + 1) X.A)
    (hb : Binds X.K fd ps []) (hno : ∀ f ∈ fs, PySem.W.findIn X.K (.ref (G.xc j)) f = some none) (hx : G.xf j = fs.reverse) (hn : fs.length = n) (h0 : 0 < n) (h1 : n ≤ 1000) (hK : X.K = G.K) (tk : Takes X W) (hc : X.calm = true) (hg : Gl X x) (hm : X.mg x = some (.ref (G.xc j))) (ha : PA X (e :: es) (tA G W af))
    (hdb : (x == ("__debug__" : Str)) = false := by decide) (he : starEach (e :: es) X.env = (false, eval e X.env) :: starEach es X.env := by rfl) (hpl : (backTo pos (starEach es X.env)).any (·.1) = false := by rfl) :
    PS X (.Raise (some (.Call (.Name x p) (e :: es) [] pos)) none q) (tS G W (sRaiseA j n af)) := by
  refine wkS (ps_raise hc tk (pmk_oex T iC tI F hr hb (ds := []) (dvs := []) .nil passL hg hm ha hdb he hpl)) fun D σ H ⟨ρ, B, φ, S, w, en, h⟩ => ?_
  refine tA.run w en (WPS.fst en h) fun ds vs H1 B1 φ1 S1 x1 w1 en1 r1 q1 => ?_
  split at q1
  · rename_i es0 hd
    split at q1
    · rename_i hl
      have rr := allP_rep hd r1
      have lv : vs.length = n := by rw [← rr.length]; exact hl
      refine ⟨by omega, fun a na => ?_⟩
      refine ⟨a, G.xc j, vs, by rw [List.append_nil], T, by rw [lv, hn], hno, upd_same, fun d nd hda => ⟨rfl, d, (fs.zip vs).reverse, upd_same, by rw [upd_ne hda, upd_same], by rw [upd_ne hda] at nd; exact nd, ?_⟩⟩
      have nd1 : H1 d = none := by rw [upd_ne hda] at nd; exact nd
      have e1 : upd (del (upd (upd (upd H1 a (exo a (G.xc j) none)) d (exd d (fs.zip vs).reverse)) a (exo a (G.xc j) (some d))) a) d (.xd (fs.zip vs).reverse) = upd H1 d (.xd (fs.zip vs).reverse) := by
        funext b
        by_cases hb1 : b = d
        · subst hb1; rw [upd_same, upd_same]
        · rw [upd_ne hb1, upd_ne hb1]
          by_cases hb2 : b = a
          · subst hb2; rw [del_same, na]
          · rw [del_ne hb2, upd_ne hb2, upd_ne hb1, upd_ne hb2]
      rw [e1]
      refine q1 _ _ φ1 _ (some d) σ (Xt.alloc w1 nd1) (w1.alloc nd1) ⟨rfl, ?_⟩ (en1.mono (Xt.alloc w1 nd1).b (List.prefix_refl _))
      have rv : Reps G (upd B1 d (.xd (fs.zip vs).reverse)) es0.reverse vs.reverse := Reps.mono (same_upd' (w1.bfree nd1)) _ rr.reverse
      have hne : es0.reverse ≠ [] := fun z => by
        have : es0.reverse.length = 0 := by rw [z]; rfl
        rw [List.length_reverse] at this
        omega
      cases hq : es0.reverse with
      | nil => exact absurd hq hne
      | cons d0 dr =>
        rw [hq] at rv
        refine ⟨d, vs.reverse, rfl, ?_, rv, ?_⟩
        · rw [upd_same, hx, zip_rev (by rw [hn, lv])]
        · rw [← hq, List.length_reverse, hl, hx, List.length_reverse, hn]
    · exact q1.elim
  · exact q1.elim
/-! ### a class of rules whose __init__ may raise -/
def tMakeR (C : Addr) (sp : Sp) (E : L2.St → XK) (t : TA) : TE := fun σ H Q => t σ H fun vs H1 => ∀ x dx, H1 x = none → H1 dx = none → dx ≠ x → sp (.ref x :: vs) (upd (upd H1 dx (.own x)) x (.ins C dx [])) (fun v H2 => v = .non ∧ Q (.ref x) H2) (E σ)
theorem make_run {C : Addr} {sp : Sp} {E : XK} {pins : List (Addr × Obj)} {σ : L2.St} {H1 : Hp} {s1 : Shared} {Q : VK} {us : List Value} {vs : List V} (M : Mk X.K C f) (F : FnOk X.prog X.w X.K X.mg X.base (L2.CX X.prog X.w) k f fd ps sp) (hr : Room (k + 1) X.A) (hb : Binds X.K fd ps [])
    (hx : PassesAt (L2.CX X.prog X.w) X σ E) (I1 : Inv X pins σ H1 s1) (r : Vals vs us) (q : ∀ x dx, H1 x = none → H1 dx = none → dx ≠ x → sp (.ref x :: vs) (upd (upd H1 dx (.own x)) x (.ins C dx [])) (fun v H2 => v = .non ∧ Q (.ref x) H2) E) :
    wpAny (model X.prog X.w) X.A (call (.ref C) us) (EP X pins σ Q) X.xe s1 := by
  have hq := q (s1.heap.objs.size + 1) s1.heap.objs.size (I1.hok.fresh (Nat.le_succ _)) (I1.hok.fresh (Nat.le_refl _)) (Nat.ne_of_lt (Nat.lt_succ_self _))
  have I2 := Inv.made (C := C) I1
  have r2 : Vals (V.ref (s1.heap.objs.size + 1) :: vs) (Value.ref (s1.heap.objs.size + 1) :: us) := .cons rfl r
  have hl : (Value.ref (s1.heap.objs.size + 1) :: us).length = ps.length := by
    rw [← r2.length]
    exact F.len _ _ _ _ hq
  have bb := hb ((⟨(s1.heap.push _).push _, _, _, _, _⟩ : Shared)) (Value.ref (s1.heap.objs.size + 1) :: us) I2.kIn (by rw [List.append_nil]; exact hl)
  rw [List.append_nil] at bb
  refine wpAny_call (make_map (f := f) I1.kIn M.makes M.init (beq_iff_eq.mp M.fn) (codeAny_mono (F.run _ X.stack _ _ ⟨Value.ref (s1.heap.objs.size + 1) :: us, []⟩ (Value.ref (s1.heap.objs.size + 1) :: us) _ _ E (hr.make C us []) (I2.env0.make C us []) bb r2 hq) fun rr s' hq' => ?_))
  cases rr with
  | error er => exact hx pins _ _ er s' I2 hq'
  | ok fl =>
    cases fl with
    | next => exact hq'.elim
    | brk => exact hq'.elim
    | cont => exact hq'.elim
    | ret u =>
      obtain ⟨v, H', I3, rv, ev, q3⟩ := I2.after hq'
      subst ev
      exact ⟨rv, ⟨V.ref (s1.heap.objs.size + 1), H', I3, rfl, q3⟩⟩
theorem pe_makeR {C : Addr} {sp : Sp} {E : L2.St → XK} {t : TA} (M : Mk X.K C f) (F : FnOk X.prog X.w X.K X.mg X.base (L2.CX X.prog X.w) k f fd ps sp) (hr : Room (k + 1) X.A) (hg : Gl X x) (hm : X.mg x = some (.ref C)) (hb : Binds X.K fd ps []) (hx : ∀ σ, PassesAt (L2.CX X.prog X.w) X σ (E σ))
    (ha : PA X (e :: es) t) (hdb : (x == ("__debug__" : Str)) = false := by decide) (he : starEach (e :: es) X.env = (false, eval e X.env) :: starEach es X.env := by rfl) (hpl : (backTo pos (starEach es X.env)).any (·.1) = false := by rfl) :
    PE X (.Call (.Name x p) (e :: es) [] pos) (tMakeR C sp E t) := by
  refine ⟨fun pins s σ H Q I h => wpAny_Call_Name_kw (ld_glob I hg hm ?_ hdb)⟩
  refine PySem.W.callWith_K (h₀ := X.base) I.ok.mod.kin M.kp (thn (ha.run pos pins s σ H _ I h) fun us s1 ⟨vs, H1, I1, r, q⟩ => ⟨I1.kIn, ?_⟩) he hpl
  exact make_run M F hr hb (hx σ) I1 r q
def makeOf (m : List Dv → Sto → Out Dv) (ds : List D) (S1 : Sto) : Out Dv := match m (.hnd 0 :: ds.map Dv.p) [.raw 1, .dead] with
  | .ok (.p .non) [.slt 1 es, .dead] => .ok (.p (.rul es)) S1
  | .exc x _ => .exc x S1
  | _ => .bad
theorem make_core {m : List Dv → Sto → Out Dv} {H1 B1 : Hp} {φ1 : List Addr} {S0 : Sto} {ds : List D} {vs : List V} {σ : L2.St} {Q : VK} (w1 : Wd G H1 B1 φ1 S0) (rr : Reps G B1 ds vs) (l1 : ds.length = n)
    (q1 : WP G W σ H1 B1 φ1 (makeOf m ds S0) (fun d H' B' φ' _ => ∀ v, RepV G B' φ' d v → Q v H')) (xx dx : Addr) (hx : H1 xx = none) (hdx : H1 dx = none) (hne : dx ≠ xx) :
    spE G (n + 1) m (.ref xx :: vs) (upd (upd H1 dx (.own xx)) xx (.ins G.rc dx [])) (fun v H2 => v = .non ∧ Q (.ref xx) H2) (WE W σ) := by
  refine ⟨B1, [xx, dx], [.raw 1, .dead], .hnd 0 :: ds.map Dv.p, made_wd w1.sub hx hdx hne, ⟨_, _, rfl, ⟨xx, rfl, rfl⟩, reps_vs rr⟩, by rw [List.length_cons, List.length_map, l1], ?_⟩
  have far : ∀ {H2 B2 : Hp} {φ2 : List Addr}, Xt (upd (upd H1 dx (.own xx)) xx (.ins G.rc dx [])) B1 [xx, dx] H2 B2 φ2 → ∀ a o, H1 a = some o → B1 a = none → H2 a = some o ∧ B2 a = none := fun {H2 B2 φ2} x2 a o a1 a2 => by
    have n1 : a ≠ xx := ne_of_none a1 hx
    have n2 : a ≠ dx := ne_of_none a1 hdx
    obtain ⟨a3, a4, _⟩ := x2.out a o (by rw [upd_ne n1, upd_ne n2]; exact a1) a2 (by simp [n1, n2])
    exact ⟨a3, a4⟩
  unfold makeOf at q1
  cases qm : m (.hnd 0 :: ds.map Dv.p) [.raw 1, .dead] with
  | bad => rw [qm] at q1; exact q1.elim
  | exc e' S' =>
    rw [qm] at q1
    dsimp only at q1
    intro H2 B2 φ2 c dd x2 w2 xr
    have xc : Xt H1 B1 [] H2 B2 [] := ⟨x2.b, List.prefix_refl _, fun a o a1 a2 _ => ⟨(far x2 a o a1 a2).1, (far x2 a o a1 a2).2, by simp⟩⟩
    obtain ⟨w3, x3⟩ := w1.call xc w2.sub
    exact q1 H2 B2 φ1 c dd x3 w3 xr
  | ok d S' =>
    rw [qm] at q1
    split at q1
    · rename_i es0 heq
      cases heq
      intro H2 B2 φ2 x2 w2 v rv
      refine ⟨rep_non.mp rv, ?_⟩
      have hφ : φ2 = [xx, dx] := by
        obtain ⟨t, e1⟩ := x2.p
        have := w2.len
        rw [← e1] at this ⊢
        simp at this
        subst this
        rfl
      subst hφ
      obtain ⟨b1, dx', t, ys, e1, b2, _, h1, h2, s1, rs⟩ : CellR G H2 B2 [xx, dx] xx (.slt 1 es0) := w2.cell 0 xx _ rfl rfl
      cases e1
      have sb : Same B2 (upd (upd B2 dx (.xd [])) xx (SlX.SlO xx G.rc dx [some (.ref t)])) := fun b o q => by
        have n1 : b ≠ xx := fun z => by subst z; rw [b1] at q; cases q
        have n2 : b ≠ dx := fun z => by subst z; rw [b2] at q; cases q
        rw [upd_ne n1, upd_ne n2]; exact q
      have e2 : upd (upd B2 dx (.xd [])) xx (SlX.SlO xx G.rc dx [some (.ref t)]) dx = some (.xd []) := by rw [upd_ne hne, upd_same]
      have s2 : Same (upd (upd B2 dx (.xd [])) xx (SlX.SlO xx G.rc dx [some (.ref t)])) H2 := fun b o q => by
        by_cases n1 : b = xx
        · subst n1; rw [upd_same] at q; rw [← q]; exact h1
        · by_cases n2 : b = dx
          · subst n2; rw [e2] at q; rw [← q]; exact h2
          · rw [upd_ne n1, upd_ne n2] at q; exact w2.sub _ _ q
      have xc : Xt H1 B1 [] H2 (upd (upd B2 dx (.xd [])) xx (SlX.SlO xx G.rc dx [some (.ref t)])) [] := by
        refine ⟨x2.b.trans sb, List.prefix_refl _, fun a o a1 a2 _ => ?_⟩
        obtain ⟨a3, a4⟩ := far x2 a o a1 a2
        exact ⟨a3, by rw [upd_ne (ne_of_none a1 hx), upd_ne (ne_of_none a1 hdx)]; exact a4, by simp⟩
      obtain ⟨w3, x3⟩ := w1.call xc s2
      exact q1 H2 _ φ1 x3 w3 _ (rep_rul.mpr ⟨xx, dx, t, ys, rfl, upd_same, e2, sqT_mono sb s1, Reps.mono sb _ rs⟩)
    · rename_i z
      exact nomatch z
    · exact q1.elim
def dMakeX (m : List Dv → Sto → Out Dv) (a : Af) : Ef := fun ρ S => (a ρ S).bind fun xs S1 => match allP xs with
  | some ds => makeOf m ds S1
  | none => .bad
theorem de_makeX {fI : Addr} {m : List Dv → Sto → Out Dv} (tk : Takes X W) (M : Mk X.K G.rc fI) (F : FnOk X.prog X.w X.K X.mg X.base (L2.CX X.prog X.w) k fI fd ps (spE G (n + 1) m)) (hr : Room (k + 1) X.A) (hg : Gl X x) (hm : X.mg x = some (.ref G.rc)) (hb : Binds X.K fd ps [])
    (hn : ∀ ρ S xs S', af ρ S = .ok xs S' → xs.length = n)
    (ha : PA X (e :: es) (tA G W af)) (hdb : (x == ("__debug__" : Str)) = false := by decide) (he : starEach (e :: es) X.env = (false, eval e X.env) :: starEach es X.env := by rfl) (hpl : (backTo pos (starEach es X.env)).any (·.1) = false := by rfl) :
    PE X (.Call (.Name x p) (e :: es) [] pos) (tD G W (dMakeX m af)) := by
  refine wkE (pe_makeR M F hr hg hm hb (passAt tk) ha hdb he hpl) fun σ H Q ⟨ρ, B, φ, S, w, en, q⟩ => ?_
  have q' := WP.fst q
  cases qa : af ρ S with
  | bad => rw [qa] at q'; exact q'.elim
  | exc x0 S0 => exact ⟨ρ, B, φ, S, w, en, by rw [qa] at q' ⊢; exact q'⟩
  | ok xs0 S0 =>
    have l0 := hn ρ S xs0 S0 qa
    refine ⟨ρ, B, φ, S, w, en, ?_⟩
    rw [qa] at q' ⊢
    intro H1 B1 φ1 x1 w1 vs r1
    have q1 := q' H1 B1 φ1 x1 w1
    dsimp only at q1
    cases qp : allP xs0 with
    | none => rw [qp] at q1; exact q1.elim
    | some ds =>
      rw [qp] at q1
      have rr := allP_rep qp r1
      exact make_core w1 rr (by rw [rr.length, ← r1.length, l0]) q1
/-- C(*e) -/
def dMakeS (n : Nat) (m : List Dv → Sto → Out Dv) (f : Ef) : Ef := fun ρ S => (f ρ S).bind fun d S1 => match sqOf S1 d with
  | some ds => if ds.length = n then makeOf m ds S1 else .bad
  | none => .bad
theorem de_makeS {fI : Addr} {m : List Dv → Sto → Out Dv} {sp_ : Pos} {ef : Ef} (hK : X.K = G.K) (tk : Takes X W) (M : Mk X.K G.rc fI) (F : FnOk X.prog X.w X.K X.mg X.base (L2.CX X.prog X.w) k fI fd ps (spE G (n + 1) m)) (hr : Room (k + 1) X.A) (hg : Gl X x) (hm : X.mg x = some (.ref G.rc)) (hb : Binds X.K fd ps [])
    (he : PE X e (tD G W ef)) (hdb : (x == ("__debug__" : Str)) = false := by decide) (hst : starEach [.Starred e sp_] X.env = [(true, eval e X.env)] := by rfl) :
    PE X (.Call (.Name x p) [.Starred e sp_] [] pos) (tD G W (dMakeS n m ef)) := by
  refine ⟨fun pins s σ H Q I h => wpAny_Call_Name_kw (ld_glob I hg hm ?_ hdb)⟩
  obtain ⟨ρ, B, φ, S, w, en, h⟩ := h
  have start : tD G W ef σ H (fun y H1 => ∃ a xs, y = .ref a ∧ (SqL G.K H1 a xs ∨ SqT G.K H1 a xs) ∧ ∀ xx dx, H1 xx = none → H1 dx = none → dx ≠ xx → spE G (n + 1) m (.ref xx :: xs) (upd (upd H1 dx (.own xx)) xx (.ins G.rc dx [])) (fun v H2 => v = .non ∧ Q (.ref xx) H2) (WE W σ)) := by
    refine tD.run w en (WP.fst h) fun d v H1 B1 φ1 S1 x1 w1 en1 r1 q1 => ?_
    split at q1
    · rename_i ds hs
      split at q1
      · rename_i hl
        obtain ⟨a, xs, rfl, s1, rr⟩ := sq_at w1 r1 hs
        exact ⟨a, xs, rfl, s1, fun xx dx h1 h2 h3 => make_core w1 rr hl q1 xx dx h1 h2 h3⟩
      · exact q1.elim
    · exact q1.elim
  refine PySem.W.callWith_S (h₀ := X.base) I.ok.mod.kin M.kp (thn (he.run pins s σ H _ I start) fun v s1 ⟨y, H1, I1, ry, a, xs, ey, hxs, q⟩ => ?_) hst
  subst ey
  obtain rfl : v = Value.ref a := ry
  rw [← hK] at hxs
  refine StX.star_any I1 (hxs.elim .inr .inl) fun us s2 I2 rv => ⟨I2.kIn, ?_⟩
  exact make_run M F hr hb (passAt tk σ) I2 rv q
end
end DL

set_option maxHeartbeats 4000000
namespace DL
open PySem L2
open PySem.Spec PyProof.Rows
section
variable {X : Cx} {G : Gx} {W : WX} {k n j : Nat} {f g : Addr} {fd : FuncData} {ps : List Str} {x : Str} {p q pos : Pos} {e e2 : Expr} {es : List Expr} {af : Af} {ef eg : Ef} {H B : Hp} {φ : List Addr} {S : Sto} {σ : L2.St} {Q : VK}
theorem rul_slt {ds : List D} {v : V} (w : Wd G H B φ S) (r : RepV G B φ (.p (.rul ds)) v) : ∃ a dx t, v = .ref a ∧ SlX.Slt H a G.rc dx [some (.ref t)] := by
  obtain ⟨a, dx, t, xs, rfl, h1, h2, _, _⟩ := rep_rul.mp r
  exact ⟨a, dx, t, rfl, .inr ⟨w.sub _ _ h1, w.sub _ _ h2⟩⟩
theorem cx_no {H : Hp} {s : Shared} {e : Value} {s' : Shared} {l : List Env} (h : L2.CX X.prog X.w l H s E0 e s') : False := by
  obtain ⟨_, _, _, _, _, _, _, _, _, _, _, _, z⟩ := h
  exact z.elim
/-- a promise that lets nothing out, at arguments as they stand -/
theorem raw_P {m : List D → PO} (F : FnOk X.prog X.w X.K X.mg X.base (L2.CX X.prog X.w) k f fd ps (spP G n m)) (hb : Binds X.K fd ps []) : FnR X.prog X.w X.K X.mg X.base (L2.CX X.prog X.w) k f (spP G n m) := by
  have h := F.raw hb (dvs := []) .nil
  exact h.imp fun vs H Q E z => by rw [List.append_nil]; exact z
theorem raw_E {m : List Dv → Sto → Out Dv} (F : FnOk X.prog X.w X.K X.mg X.base (L2.CX X.prog X.w) k f fd ps (spE G n m)) (hb : Binds X.K fd ps []) : FnR X.prog X.w X.K X.mg X.base (L2.CX X.prog X.w) k f (spE G n m) := by
  have h := F.raw hb (dvs := []) .nil
  exact h.imp fun vs H Q E z => by rw [List.append_nil]; exact z
def PO.out (o : PO) (S : Sto) : Out Dv := match o with
  | .ok d => .ok (.p d) S
  | _ => .bad
theorem spP_ok {m : List D → PO} {ds : List D} {vs : List V} {E : XK} (hn : ds.length = n) (w : Wd G H B φ S) (r : Reps G B ds vs) (h : WP G W σ H B φ ((m ds).out S) fun d H' B' φ' _ => ∀ v, RepV G B' φ' d v → Q v H') : spP G n m vs H Q E := by
  refine ⟨B, ds, w.sub, r, hn, ?_⟩
  unfold PO.out at h
  cases q : m ds with
  | bad => rw [q] at h; exact h
  | exc x => rw [q] at h; exact h.elim
  | ok d =>
    rw [q] at h
    intro H' B' v xx s r'
    obtain ⟨w', x'⟩ := w.call xx s
    exact h H' B' φ x' w' v r'
/-! ### properties -/
structure PropR (K : PySem.W.Frag) (C : Addr) (a : Str) (p g : Addr) : Prop where
  at_ : PySem.W.findIn K (.ref C) a = some (some (.ref p))
  get : PySem.W.specialIn K (.ref p) "__get__" = some (some (.builtin "property.__get__"))
  tk : PySem.W.takesIn K (.ref p) = some true
  rc : ∃ rest, PySem.W.recIn K p "property" = some (.ref g :: rest)
def dProp (m : List D → PO) (f : Ef) : Ef := fun ρ S => (f ρ S).bind fun d S1 => match d with
  | .p (.rul ds) => (m [.rul ds]).out S1
  | _ => .bad
theorem de_prop {a : Str} {pa : Addr} {m : List D → PO} (c : SlX.SCls X.K G.rc) (T : PropR X.K G.rc a pa g) (F : FnOk X.prog X.w X.K X.mg X.base (L2.CX X.prog X.w) k g fd ps (spP G 1 m)) (hb : Binds X.K fd ps []) (hr : Room (k + 1) X.A) (he : PE X e (tD G W ef))
    (hba : attributeBase e a X.env (eval e X.env) = eval e X.env := by rfl) : PE X (.Attribute e a pos) (tD G W (dProp m ef)) := by
  refine wkE (SlX.pe_propSl he c T.at_ T.get T.tk T.rc (raw_P F hb) hr (E := E0) (fun _ _ _ _ => cx_no) hba) fun σ H Q ⟨ρ, B, φ, S, w, en, h⟩ => tD.run w en (WP.fst h) fun d v H1 B1 φ1 S1 x1 w1 en1 r1 q1 => ?_
  split at q1
  · rename_i ds
    obtain ⟨a, dx, t, rfl, hs⟩ := rul_slt w1 r1
    have rr : Rep G B1 (.rul ds) (.ref a) := r1
    exact ⟨a, dx, _, rfl, hs, spP_ok rfl w1 (Reps.cons rr Reps.nil) q1⟩
  · exact q1.elim
/-! ### methods that may raise -/
def tMethR (C : Addr) (sp : Sp) (E : L2.St → XK) (ta : TE) (t : TA) : TE := fun σ H Q => ta σ H fun x H1 => ∃ a dx vs, x = .ref a ∧ SlX.Slt H1 a C dx vs ∧ t σ H1 fun ws H2 => sp (x :: ws) H2 Q (E σ)
theorem pe_methR {CX : CXT} {C : Addr} {o : Expr} {m : Str} {sp : Sp} {E : L2.St → XK} {pl : Sem Bool} {ta : TE} {t : TA} {apos : Pos} (he : PE X o ta) (c : SlX.SCls X.K C) (hm : Meth X.K C m g) (F : FnR X.prog X.w X.K X.mg X.base CX k g sp) (hr : Room k X.A) (hx : ∀ σ, PassesAt CX X σ (E σ)) (ha : PA X (e :: es) t)
    (hst : starEach (e :: es) X.env = (false, eval e X.env) :: starEach es X.env := by rfl) (hpl : (backTo pos (starEach es X.env)).any (·.1) = false := by rfl)
    (ht : eval (.Call (.Attribute o m apos) (e :: es) [] pos) X.env = (do
      let ov ← eval o X.env
      standAt apos.atName
      let (f, first) ← holding [ov] (getMethod ov m pl)
      callWith pos f first (backTo pos (starEach (e :: es) X.env)) (backToKw pos (keywordEach [] X.env))) := by rfl) :
    PE X (.Call (.Attribute o m apos) (e :: es) [] pos) (tMethR C sp E ta t) := by
  refine ⟨fun pins s σ H Q I h => PySem.W.methodCall_KW (pl := pl) (thn (he.run pins s σ H _ I h) fun u s1 ⟨x, H1, I1, rx, a, dx, vs, ex, hsl, q⟩ => ?_) ht⟩
  subst ex
  obtain rfl : u = Value.ref a := rx
  refine SlX.getmethsl_ok I1 hsl c hm (PySem.W.callWith_K (first := [.ref a]) (h₀ := X.base) I.ok.mod.kin hm.kp (thn (ha.run pos pins s1 σ H1 _ I1 q) fun us s2 ⟨ws, H2, I2, r, q2⟩ => ⟨I2.kIn, ?_⟩) hst hpl)
  refine wpAny_call (codeAny_mono (F X.A X.stack s2 H2 (.ref a :: us) (.ref a :: ws) Q (E σ) hr I2.env0 (.cons rfl r) q2) fun rr s' hq => ?_)
  cases rr with
  | error er => exact hx σ pins H2 s2 er s' I2 hq
  | ok fl =>
    cases fl with
    | ret u => exact I2.after hq
    | next => exact hq.elim
    | brk => exact hq.elim
    | cont => exact hq.elim
def dMethR (m : List D → PO) (f : Ef) (a : Af) : Ef := fun ρ S => (f ρ S).bind fun d S1 => match d with
  | .p (.rul ds) => (a ρ S1).bind fun xs S2 => match allP xs with
    | some es => match m (.rul ds :: es) with
      | .ok d => .ok (.p d) S2
      | .exc x => .exc x S2
      | .bad => .bad
    | none => .bad
  | _ => .bad
theorem de_methR {o : Expr} {mn : Str} {m : List D → PO} {pl : Sem Bool} {apos : Pos} (c : SlX.SCls X.K G.rc) (tk : Takes X W) (hm : Meth X.K G.rc mn g) (F : FnOk X.prog X.w X.K X.mg X.base (L2.CX X.prog X.w) k g fd ps (spP G (n + 1) m)) (hb : Binds X.K fd ps []) (hr : Room k X.A)
    (hn : ∀ ρ S xs S', af ρ S = .ok xs S' → xs.length = n) (he : PE X o (tD G W ef)) (ha : PA X (e :: es) (tA G W af))
    (hst : starEach (e :: es) X.env = (false, eval e X.env) :: starEach es X.env := by rfl) (hpl : (backTo pos (starEach es X.env)).any (·.1) = false := by rfl)
    (ht : eval (.Call (.Attribute o mn apos) (e :: es) [] pos) X.env = (do
      let ov ← eval o X.env
      standAt apos.atName
      let (f, first) ← holding [ov] (getMethod ov mn pl)
      callWith pos f first (backTo pos (starEach (e :: es) X.env)) (backToKw pos (keywordEach [] X.env))) := by rfl) :
    PE X (.Call (.Attribute o mn apos) (e :: es) [] pos) (tD G W (dMethR m ef af)) := by
  refine wkE (pe_methR he c hm (raw_P F hb) hr (passAt tk) ha hst hpl ht) fun σ H Q ⟨ρ, B, φ, S, w, en, h⟩ => tD.run w en (WP.fst h) fun d v H1 B1 φ1 S1 x1 w1 en1 r1 q1 => ?_
  split at q1
  · rename_i ds
    obtain ⟨a, dx, t, rfl, hs⟩ := rul_slt w1 r1
    refine ⟨a, dx, _, rfl, hs, ?_⟩
    have rr : Rep G B1 (.rul ds) (.ref a) := r1
    cases qa : af ρ S1 with
    | bad => rw [qa] at q1; exact q1.elim
    | exc x0 S0 => exact ⟨ρ, B1, φ1, S1, w1, en1, by rw [qa] at q1 ⊢; exact q1⟩
    | ok xs0 S2 =>
      have l0 := hn ρ S1 xs0 S2 qa
      refine ⟨ρ, B1, φ1, S1, w1, en1, ?_⟩
      rw [qa] at q1 ⊢
      intro H2 B2 φ2 x2 w2 ws r2
      have q2 := WP.rebase x2 q1
      have q2 : WP G W σ H2 B2 φ2 (match allP xs0 with
        | some es => match m (.rul ds :: es) with
          | .ok d => .ok (.p d) S2
          | .exc x => .exc x S2
          | .bad => .bad
        | none => .bad : Out Dv) (fun d H' B' φ' _ => ∀ v, RepV G B' φ' d v → Q v H') := q2
      cases qp : allP xs0 with
      | none => rw [qp] at q2; exact q2.elim
      | some es0 =>
        rw [qp] at q2
        have rs := allP_rep qp r2
        have ll : es0.length = n := by rw [rs.length, ← r2.length, l0]
        have r3 : RepVs G B2 φ2 ((D.rul ds :: es0).map Dv.p) (.ref a :: ws) := reps_vs (Reps.cons (Rep.mono x2.b _ rr) rs)
        have aP : ∀ l : List D, allP (l.map Dv.p) = some l := fun l => by
          induction l with
          | nil => rfl
          | cons d l ih => rw [List.map_cons]; unfold allP; rw [ih]; rfl
        exact spP_of (by rw [List.length_cons, ll]) w2 r3 (aP _) q2
  · exact q1.elim
/-! ### isinstance(e, C), C the class of rules -/
def dIsR (ts : List String) (f : Ef) : Ef := fun ρ S => (f ρ S).bind fun d S1 => match d with
  | .p (.rul _) => .ok (.p (.bl true)) S1
  | d => match tyOf S1 d with
    | some t => if t ∈ ts then .ok (.p (.bl false)) S1 else .bad
    | none => .bad
theorem de_isR {ts : List String} {T : Str} {pT : Pos} (hK : X.K = G.K) (he : PE X e (tD G W ef)) (hg : Gl X "isinstance") (hm : X.mg "isinstance" = none) (hgT : Gl X T) (hmT : X.mg T = some (.ref G.rc)) (c : SlX.SCls X.K G.rc) (si : SlX.SIsi X.K G.rc) (hts : ∀ t ∈ ts, PySem.W.kitOne X.K (.type t) (.ref G.rc) = some false)
    (hdT : (T == ("__debug__" : Str)) = false := by decide)
    (h1 : starEach [e, .Name T pT] X.env = (false, eval e X.env) :: starEach [.Name T pT] X.env := by rfl) (h2 : starEach [.Name T pT] X.env = (false, eval (.Name T pT) X.env) :: starEach [] X.env := by rfl) (hpl : (backTo pos (starEach [.Name T pT] X.env)).any (·.1) = false := by rfl) :
    PE X (.Call (.Name "isinstance" p) [e, .Name T pT] [] pos) (tD G W (dIsR ts ef)) := by
  have both : CallR X (.builtin "isinstance") (fun xs H Q => rIsi X.K xs H Q ∨ SlX.rIsiSl X.K (.ref G.rc) xs H Q) := fun pins s σ H xs us Q I r h => h.elim (call_isi pins s σ H xs us Q I r) (SlX.call_isiSl (.ref G.rc) pins s σ H xs us Q I r)
  refine wkE (pe_callB both hg hm boot_isinstance (pa_cons he (pa_cons (pe_glob hgT hmT (v := .ref G.rc) rfl hdT) pa_nil h2) h1) (by decide) (by decide) h1 hpl) fun σ H Q ⟨ρ, B, φ, S, w, en, h⟩ => tD.run w en (WP.fst h) fun d v H1 B1 φ1 S1 x1 w1 en1 r1 q1 => ?_
  split at q1
  · obtain ⟨a, dx, t, rfl, hs⟩ := rul_slt w1 r1
    refine .inr ⟨a, G.rc, dx, _, .ref G.rc, true, rfl, rfl, fun w hw => hw, hs, c, si, ?_, q1 H1 B1 φ1 Xt.refl w1 _ (rep_bl.mpr rfl)⟩
    unfold PySem.W.kitOne
    rw [if_pos (beq_self_eq_true _)]
  · split at q1
    · rename_i t ht
      split at q1
      · rename_i hm
        exact .inl ⟨v, .ref G.rc, .type t, .ref G.rc, false, rfl, .own G.rc, hK ▸ tyOf_at w1 r1 ht, hts t hm, q1 H1 B1 φ1 Xt.refl w1 _ (rep_bl.mpr rfl)⟩
      · exact q1.elim
    · exact q1.elim
/-! ### == of rules -/
def noX (o : Out Dv) : Out Dv := match o with
  | .ok d S => .ok d S
  | _ => .bad
def oEqR (ts : List String) (m : List Dv → Sto → Out Dv) : Op2 := fun x y S => match x with
  | .p (.rul ds) => match y with
    | .p (.rul es) => noX (m [.p (.rul ds), .p (.rul es)] S)
    | y => match tyOf S y with
      | some t => if t ∈ ts then noX (m [.p (.rul ds), y] S) else .bad
      | none => .bad
  | _ => .bad
def rEqR (K : PySem.W.Frag) (C : Addr) (sp : Sp) : R2 := fun x y H Q => ∃ a dx vs, x = .ref a ∧ SlX.Slt H a C dx vs ∧ ((∃ b C' dy ws, y = .ref b ∧ SlX.Slt H b C' dy ws ∧ PySem.W.notFirst K C (.ref C') = true) ∨ ∃ tb, TyX K H y tb ∧ PySem.W.notFirst K C tb = true) ∧ sp [x, y] H Q E0
theorem op_eqR {C : Addr} {sp : Sp} {CX : CXT} (hs : PySem.W.findIn X.K (.ref C) "__eq__" = some (some (.ref g))) (hf : PySem.W.isFn X.K (.ref g) = true) (F : FnR X.prog X.w X.K X.mg X.base CX n g sp) (hr : Room n X.A) (hx : Passes CX X E0) : OpR X (compareOp .Eq) (rEqR X.K C sp) := by
  intro pins s σ H x y v u Q I rx ry h
  obtain ⟨a, dx, vs, rfl, ha, hy, q⟩ := h
  cases (show v = Value.ref a from rx)
  obtain ⟨sl, od, _, J, _⟩ := SlX.slt_inst I ha
  obtain ⟨m, hF⟩ := I.fr
  have go : ∀ {tb : Value}, PySem.W.Looks (model X.prog X.w) s.heap (typeOf u) tb → PySem.W.notFirst X.K C tb = true → wpAny (model X.prog X.w) X.A (compareOp .Eq (.ref a) u) (EP X pins σ Q) X.xe s := fun {tb} L hn => by
    show wpAny _ _ (richCompare .Eq (.ref a) u) _ _ _
    refine PySem.W.cmp_K (op := .Eq) (tb := tb) hr.units0 hF I.ok.mod.kin J L hn hs hf ?_
    refine wpAny_mono (wpAny_call (run_fnR (us := [.ref a, u]) (vs := [.ref a, y]) F hr hx I (.cons rfl (.cons ry .nil)) q)) (fun w s' z => ?_) fun _ _ x => x
    obtain ⟨z', H', I', rz, qz⟩ := z
    exact SlX.cmpback rz ⟨z', H', I', rz, qz⟩
  rcases hy with ⟨b, C', dy, ws, rfl, hb, hn⟩ | ⟨tb, ty, hn⟩
  · cases (show u = Value.ref b from ry)
    obtain ⟨sl', od', _, J', _⟩ := SlX.slt_inst I hb
    exact go J'.type hn
  · obtain ⟨P, Z, hp, _⟩ := kit_of I ry ty
    exact go (Z.ty _ _ I.kIn hp) hn
theorem spE_ok {m : List Dv → Sto → Out Dv} {ds : List Dv} {vs : List V} {E : XK} (hn : ds.length = n) (w : Wd G H B φ S) (r : RepVs G B φ ds vs) (h : WP G W σ H B φ (noX (m ds S)) fun d H' B' φ' _ => ∀ v, RepV G B' φ' d v → Q v H') : spE G n m vs H Q E := by
  refine ⟨B, φ, S, ds, w, r, hn, ?_⟩
  unfold noX at h
  cases q : m ds S with
  | bad => rw [q] at h; exact h
  | exc x S' => rw [q] at h; exact h.elim
  | ok d S' => rw [q] at h; exact fun H' B' φ' xx w' v r' => h H' B' φ' xx w' v r'
theorem oEqR_ok {ts : List String} {m : List Dv → Sto → Out Dv} (hts : ∀ t ∈ ts, PySem.W.notFirst G.K G.rc (.type t) = true) : Ok2 G W (rEqR G.K G.rc (spE G 2 m)) (oEqR ts m) := by
  intro H B φ S σ x y v u Q w r1 r2 h
  unfold oEqR at h
  split at h
  · rename_i ds
    obtain ⟨a, dx, t, rfl, hs⟩ := rul_slt w r1
    refine ⟨a, dx, _, rfl, hs, ?_⟩
    split at h
    · rename_i es
      obtain ⟨b, dy, t2, rfl, hs2⟩ := rul_slt w r2
      refine ⟨.inl ⟨b, G.rc, dy, _, rfl, hs2, ?_⟩, spE_ok rfl w (show RepVs G B φ [.p (.rul ds), .p (.rul es)] [.ref a, .ref b] from ⟨_, _, rfl, r1, _, _, rfl, r2, rfl⟩) h⟩
      unfold PySem.W.notFirst
      rw [beq_self_eq_true]; rfl
    · split at h
      · rename_i t ht
        split at h
        · rename_i hm
          exact ⟨.inr ⟨.type t, tyOf_at w r2 ht, hts t hm⟩, spE_ok rfl w (show RepVs G B φ [.p (.rul ds), _] [.ref a, u] from ⟨_, _, rfl, r1, _, _, rfl, r2, rfl⟩) h⟩
        · exact h.elim
      · exact h.elim
  · exact h.elim
/-! isinstance(e, T) of a built-in T where e may be a rule -/
def dIsX (T : String) (b : Bool) (f : Ef) : Ef := fun ρ S => (f ρ S).bind fun d S1 => match d with
  | .p (.rul _) => .ok (.p (.bl b)) S1
  | d => match tyOf S1 d with
    | some t => match kitB t T with
      | some b => .ok (.p (.bl b)) S1
      | none => .bad
    | none => .bad
theorem de_isX {T : Str} {Ts : String} {b : Bool} {pT : Pos} (hK : X.K = G.K) (he : PE X e (tD G W ef)) (hg : Gl X "isinstance") (hm : X.mg "isinstance" = none) (hgT : Gl X T) (hmT : X.mg T = none) (hvT : bootBuiltins T = some (.type Ts)) (c : SlX.SCls X.K G.rc) (si : SlX.SIsi X.K G.rc)
    (hb : PySem.W.kitOne X.K (.ref G.rc) (.type Ts) = some b) (hnT : T ≠ "__name__") (hdT : (T == ("__debug__" : Str)) = false)
    (h1 : starEach [e, .Name T pT] X.env = (false, eval e X.env) :: starEach [.Name T pT] X.env := by rfl) (h2 : starEach [.Name T pT] X.env = (false, eval (.Name T pT) X.env) :: starEach [] X.env := by rfl) (hpl : (backTo pos (starEach [.Name T pT] X.env)).any (·.1) = false := by rfl) :
    PE X (.Call (.Name "isinstance" p) [e, .Name T pT] [] pos) (tD G W (dIsX Ts b ef)) := by
  have both : CallR X (.builtin "isinstance") (fun xs H Q => rIsi X.K xs H Q ∨ SlX.rIsiSl X.K (.type Ts) xs H Q) := fun pins s σ H xs us Q I r h => h.elim (call_isi pins s σ H xs us Q I r) (SlX.call_isiSl (.type Ts) pins s σ H xs us Q I r)
  refine wkE (pe_callB both hg hm boot_isinstance (pa_cons he (pa_cons (pe_bltn hgT hmT hvT (v := .ty Ts) rfl hnT hdT) pa_nil h2) h1) (by decide) (by decide) h1 hpl) fun σ H Q ⟨ρ, B, φ, S, w, en, h⟩ => tD.run w en (WP.fst h) fun d v H1 B1 φ1 S1 x1 w1 en1 r1 q1 => ?_
  split at q1
  · obtain ⟨a, dx, t, rfl, hs⟩ := rul_slt w1 r1
    exact .inr ⟨a, G.rc, dx, _, .ty Ts, b, rfl, rfl, fun w hw => hw, hs, c, si, hb, q1 H1 B1 φ1 Xt.refl w1 _ (rep_bl.mpr rfl)⟩
  · split at q1
    · rename_i t ht
      split at q1
      · rename_i b' hb'
        exact .inl ⟨v, .ty Ts, .type t, .type Ts, b', rfl, .ty Ts, hK ▸ tyOf_at w1 r1 ht, kit_ty hb', q1 H1 B1 φ1 Xt.refl w1 _ (rep_bl.mpr rfl)⟩
      · exact q1.elim
    · exact q1.elim
end
structure XCl0 (K : PySem.W.Frag) (mg : Str → Option Value) (x : Str) (C : Addr) : Prop where
  g : mg x = some (.ref C)
  k : PySem.W.keepIn K (.ref C) = true
  b : PySem.W.subIn K (.ref C) (.type "BaseException") = some true
  t : PySem.W.typeIn K (.ref C) = some (.type "type")
theorem notFirst_of {K : PySem.W.Frag} {C : Addr} {t : Value} (h : PySem.W.subIn K t (.ref C) = some false) : PySem.W.notFirst K C t = true := by
  unfold PySem.W.notFirst
  rw [h, beq_self_eq_true, Bool.or_true]
theorem kit_no {K : PySem.W.Frag} {C : Addr} {t : Value} (h1 : PySem.W.isClsIn K C = true) (h2 : PySem.W.typeIn K (.ref C) = some (.type "type")) (hn : (t == .ref C) = false) (h3 : PySem.W.subIn K t (.ref C) = some false) : PySem.W.kitOne K t (.ref C) = some false := by
  unfold PySem.W.kitOne
  rw [hn, if_neg Bool.false_ne_true]
  unfold PySem.W.kitCls
  have e : ((PySem.W.clsIn K C).isSome && PySem.W.typeIn K (.ref C) == some (.type "type")) = true := by
    rw [h2, Bool.and_eq_true]
    exact ⟨h1, beq_self_eq_true _⟩
  dsimp only
  rw [if_pos e, h3]
theorem kit_noT {K : PySem.W.Frag} {t : Value} {T : String} (h1 : PySem.W.kitMeta T = true) (hn : (t == .type T) = false) (h3 : PySem.W.subIn K t (.type T) = some false) : PySem.W.kitOne K t (.type T) = some false := by
  unfold PySem.W.kitOne
  rw [hn, if_neg Bool.false_ne_true]
  unfold PySem.W.kitCls
  dsimp only
  rw [if_pos h1, h3]
end DL

set_option maxHeartbeats 4000000
namespace PySem
open Sem (wp)
open AutoSeq1 (wpAny_loadPart')
theorem dl_enum_tuple (t : Addr) (its : Array Value) (n : Nat) (dc : Option Addr) (sl : Array (Option Value)) :
    Meets (Builtin.«enumerate.__new__» ⟨[.type "enumerate", .ref t], []⟩) (fun _ R s => s.heap.get? t = some { cls := .type "tuple", dict := dc, data := .seq its n, slots := sl } ∧
      R (.ok (.ret (.ref (s.heap.push { cls := .type "tuple_iterator", data := .fields #[.ref t, .int 0 0] }).objs.size)))
        { s with heap := (s.heap.push { cls := .type "tuple_iterator", data := .fields #[.ref t, .int 0 0] }).push { cls := .type "enumerate", data := .fields #[.none, .bool false, .ref s.heap.objs.size, rawInt 0, .none, .none] } }) :=
  .of_wp fun prog w A R s h => by
    obtain ⟨hp, g, d, tk, os⟩ := s
    obtain ⟨hl, h⟩ := h
    have hsub := sub_enumerate
    have hT : Heap.IsTuple (Shared.heap ⟨hp, g, d, tk, os⟩) t its := ⟨_, hl, rfl, n, rfl⟩
    wp_walk using wpAny_loadPart' hl
    refine wpAny_stack_any fun st => wpAny_pure ?_
    split
    · rename_i c _ _ _ _ _
      cases (c == Value.type "enumerate")
      · wp_walk using wpAny_loadPart' hl, wpAny_pyIter_tuple hT
        exact ⟨_, rfl, h⟩
      · wp_walk using wpAny_loadPart' hl, wpAny_pyIter_tuple hT
        exact ⟨_, rfl, h⟩
    · wp_walk using wpAny_loadPart' hl, wpAny_pyIter_tuple hT
      exact ⟨_, rfl, h⟩
theorem dl_call_enumT {prog : Program} {w : World} {A : Around} {E : Value → Shared → Prop} {s : Shared} {t : Addr} {its : Array Value} {Q : Value → Shared → Prop} (hT : s.heap.IsTuple t its)
    (h : ∀ h', IsEnum h' (s.heap.objs.size + 1) s.heap.objs.size 0 .none → h'.IsTupleIter s.heap.objs.size t 0 → h'.objs.size = s.heap.objs.size + 2 → (∀ b o, s.heap.get? b = some o → h'.get? b = some o) → Q (.ref (s.heap.objs.size + 1)) { s with heap := h' }) :
    wpAny (model prog w) A (call (.type "enumerate") [.ref t]) Q E s := by
  obtain ⟨⟨c, dct, dt, sl⟩, hl, hc, n, hd⟩ := hT
  replace hc : c = .type "tuple" := hc
  replace hd : dt = .seq its n := hd
  subst hc hd
  refine callType_new F.called_enumerate (by decide) (F.typeCall_enumerate_1 _) (F.newCall_enumerate_1 _) (fun obj => F.args_object_init_2 obj _) F.entry_enumerate_new (dl_enum_tuple t its n dct sl) ⟨hl, ?_⟩
  have hz : (s.heap.push { cls := .type "tuple_iterator", data := .fields #[.ref t, .int 0 0] }).objs.size = s.heap.objs.size + 1 := Heap.size_push ..
  show _ ∧ _
  rw [hz]
  have he : IsEnum ((s.heap.push { cls := .type "tuple_iterator", data := .fields #[.ref t, .int 0 0] }).push { cls := .type "enumerate", data := .fields #[.none, .bool false, .ref s.heap.objs.size, rawInt 0, .none, .none] }) (s.heap.objs.size + 1) s.heap.objs.size 0 .none := by
    have z := Heap.get?_push_size (s.heap.push { cls := .type "tuple_iterator", data := .fields #[.ref t, .int 0 0] }) (o := { cls := .type "enumerate", data := .fields #[.none, .bool false, .ref s.heap.objs.size, rawInt 0, .none, .none] }) rfl
    rw [hz] at z; exact z
  exact ⟨⟨_, he, rfl⟩, h _ he ⟨_, Heap.get?_push_of_some _ (Heap.get?_push_size _ rfl), rfl, rfl⟩ (by rw [Heap.size_push, hz]) fun b o x => Heap.get?_push_of_some _ (Heap.get?_push_of_some _ x)⟩
end PySem
namespace DL
open PySem L2
open PySem.Spec PyProof.Rows
/-! ### enumerate over a tuple -/
def IteT (K : PySem.W.Frag) (a : Addr) : It :=
  ⟨fun i H => ∃ (xs : List V) (x : V), SqT K H a xs ∧ xs[i]? = some x, fun i H v H' => ∃ T x, v = .ref T ∧ H T = none ∧ H' = upd H T (.tup [.int (i : Nat), x]) ∧ ∀ xs, SqT K H a xs → xs[i]? = some x, fun i H => ∃ xs : List V, SqT K H a xs ∧ xs.length = i⟩
theorem turn_enumT {P : Program} {w : World} {K : PySem.W.Frag} {elts : List Expr} {kk : Nat} {tpos : Pos} (a e it : Addr) :
    Turn P w K (.Tuple elts kk tpos) (IteT K a) [e, it] e (fun i h => (∃ old, IsEnum h e it ((i : Nat) : Int) old) ∧ h.IsTupleIter it a i ∧ e ≠ it) where
  mem := by simp
  obj := fun i h st b hb => by
    obtain ⟨⟨old, he⟩, ⟨o, ho, hc, hd⟩, _⟩ := st
    rcases (by simpa using hb : b = e ∨ b = it) with z | z
    · rw [z]; exact ⟨_, he, fun v q => nomatch q⟩
    · rw [z]; exact ⟨o, ho, fun v q => by rw [hd] at q; cases q⟩
  keep := fun i h h' st k => let ⟨⟨old, he⟩, hi, hne⟩ := st; ⟨⟨old, k e (by simp) _ he⟩, hi.at fun o q => k it (by simp) o q, hne⟩
  item := by
    intro X hP hw hK hc i pins s σ H E I hf st hg
    subst hP hw hK
    obtain ⟨⟨old, he⟩, hit, hne⟩ := st
    obtain ⟨xs, x, hq, hx⟩ := hg
    obtain ⟨its, rv, p, hz⟩ := I.tuple hq
    have p : s.heap.IsTuple a its.toArray := p
    obtain ⟨u, hu, ru⟩ := rv.get hx
    have hel : e < s.heap.objs.size := Heap.lt_size he
    have hil : it < s.heap.objs.size := by obtain ⟨_, q, _⟩ := hit; exact Heap.lt_size q
    have nai : a ≠ it := fun z => by
      obtain ⟨o1, g1, c1, _⟩ := hit
      obtain ⟨o2, g2, c2, _⟩ := p
      rw [z, g1] at g2
      cases g2
      rw [c1] at c2
      exact absurd c2 (by simp)
    have nea : e ≠ a := fun z => by
      obtain ⟨o2, g2, c2, _⟩ := p
      have he' : s.heap.get? e = some _ := he
      rw [z, g2] at he'
      have z2 := Option.some.inj he'
      rw [z2] at c2
      exact absurd c2 (by simp)
    have hlt : i < its.toArray.size := by
      have := (List.getElem?_eq_some_iff.mp hu).1
      simpa using this
    refine wpAny_pyNext_enum_itemD (PySem.Draws.tuple (A := X.A.in1) (by first | exact I.ok.hd hc | (show X.A.handled = none; exact I.ok.hd hc)) it a nai its.toArray) he ⟨hit, p⟩ hlt hne (by simp [hne, nea]) fun y h' tk hy ho hst hT hsz hk => ?_
    have ey : y = u := by
      have hu' : its.toArray[i]? = some u := by simpa using hu
      have : its.toArray[i]? = some y := hy
      rw [hu'] at this
      exact (Option.some.inj this).symm
    subst ey
    refine ⟨_, rfl, wpAny_letOwnedTupleGo_enum (s := { s with heap := h', toks := tk + 1 }) ho fun h'' he' sb => ?_⟩
    have hT2 : h''.get? s.heap.objs.size = some { cls := .type "tuple", data := .seq #[.int i tk, y] } := (sb.2 _ (Nat.ne_of_gt hel)).trans hT
    have new : ObjOk X.prog X.w (upd H s.heap.objs.size (.tup [.int (i : Nat), x])) h'' s.heap.objs.size (.tup [.int (i : Nat), x]) :=
      ⟨by show 2 ≤ sizeLine; decide, [.int i tk, y], .cons ⟨_, rfl⟩ (.cons ru .nil), ⟨_, hT2, rfl, _, rfl⟩⟩
    have I1 : Inv X pins σ (upd H s.heap.objs.size (.tup [.int (i : Nat), x])) { s with heap := h'', toks := tk + 1 } :=
      I.turnedNew (ch := [e, it]) (fun b ob hb q => (sb.2 b (fun z => hb (by simp [z]))).trans (hk b ob (fun z => hb (by simp [z])) (fun z => hb (by simp [z])) q)) hf (Nat.le_refl _) new
    refine ⟨.ref s.heap.objs.size, _, I1, rfl, ⟨_, x, rfl, I.hok.fresh (Nat.le_refl _), rfl, fun ys hy => by rw [I.tuple_inj hy hq]; exact hx⟩, ⟨⟨y, ?_⟩, hst.1.at fun o q => (sb.2 it (Ne.symm hne)).trans q, hne⟩, fun b hb => ?_⟩
    · rw [show ((i + 1 : Nat) : Int) = (i : Int) + 1 by omega]; exact he'
    · have hb' : b < s.heap.objs.size := by
        rcases (by simpa using hb : b = e ∨ b = it) with z | z
        · rw [z]; exact hel
        · rw [z]; exact hil
      rw [upd_ne (Nat.ne_of_lt hb')]
      exact (hf b hb).1
  done := by
    intro X hP hw hK hc i pins s σ H E I hf st hg
    subst hP hw hK
    obtain ⟨⟨old, he⟩, hit, hne⟩ := st
    obtain ⟨xs, hq, hx⟩ := hg
    obtain ⟨its, rv, p, hz⟩ := I.tuple hq
    have p : s.heap.IsTuple a its.toArray := p
    obtain ⟨f0, f1, f2, f3, f4, f5⟩ := hf it (by simp)
    have nai : a ≠ it := fun z => by
      obtain ⟨o1, g1, c1, _⟩ := hit
      obtain ⟨o2, g2, c2, _⟩ := p
      rw [z, g1] at g2
      cases g2
      rw [c1] at c2
      exact absurd c2 (by simp)
    have hl := rv.length
    have hh : X.A.in1.handled = none := by first | exact I.ok.hd hc | (show X.A.handled = none; exact I.ok.hd hc)
    have ei : i = its.toArray.size := by simp; omega
    exact wpAny_pyNext_enum_endD (PySem.Draws.tuple hh it a nai its.toArray) he ⟨by rw [← ei]; exact hit, p⟩ fun h' eb => ⟨rfl, I.turned (t' := s.toks) (fun b o hb q => eb b o hb q) f0 f1 f3 f4 f5⟩
  self := fun A i s Q E st h => let ⟨⟨_, he⟩, _⟩ := st; wpAny_pyIter_enum he h
def iEnT (K : PySem.W.Frag) (ta : TA) : TI := fun σ H R => ta σ H fun vs H1 => ∃ a xs, vs = [.ref a] ∧ SqT K H1 a xs ∧ R (IteT K a) H1
theorem pi_enumT {X : Cx} {e : Expr} {ta : TA} {p pos tpos : Pos} {elts : List Expr} {kk : Nat} (hg : Gl X "enumerate") (hm : X.mg "enumerate" = none) (ha : PA X [e] ta) (hs : starEach [e] X.env = [(false, eval e X.env)] := by rfl) :
    PI X (.Tuple elts kk tpos) (.Call (.Name "enumerate" p) [e] [] pos) (iEnT X.K ta) := by
  refine ⟨fun pins s σ H R I h => Call_ (ld_blt I hg hm boot_enumerate (PyProof.Rows.callWith_type1 (thn (ha.run pos pins s σ H _ I h) fun us s1 ⟨vs, H1, I1, r1, a, xs, ex, hq, q⟩ => ?_) hs rfl))⟩
  subst ex
  cases r1 with
  | cons r rr =>
    cases rr
    cases r
    obtain ⟨its, rv, p', hz⟩ := I1.tuple hq
    have p' : s1.heap.IsTuple a its.toArray := p'
    refine dl_call_enumT p' fun h' he hit hsz hk => wpAny_pyIter_enum he ?_
    have I2 : Inv X pins σ H1 { s1 with heap := h' } := I1.kept (t' := s1.toks) hk
    refine ⟨s1.heap.objs.size + 1, [s1.heap.objs.size + 1, s1.heap.objs.size], _, _, H1, rfl, I2, turn_enumT a (s1.heap.objs.size + 1) s1.heap.objs.size, ⟨⟨.none, he⟩, hit, Nat.succ_ne_self _⟩, fun b hb => ?_, q⟩
    have hle : s1.heap.objs.size ≤ b := by
      rcases (by simpa using hb : b = s1.heap.objs.size + 1 ∨ b = s1.heap.objs.size) with z | z
      · rw [z]; exact Nat.le_add_right _ _
      · rw [z]; exact Nat.le_refl _
    exact I1.fpOk hle (I1.hok.fresh hle)
section
variable {X : Cx} {G : Gx} {W : WX} {e e2 : Expr} {es : List Expr} {ef eg : Ef} {af : Af} {pos p : Pos} {B : Hp}
theorem yl_enumT {a : Addr} {xs : List V} {ds : List D} (h : SqT G.K B a xs) (r : Reps G B ds xs) : Yl G (IteT G.K a) (enumD 0 ds) B := by
  intro i H B1 φ S w sb
  have hq : SqT G.K H a xs := sqT_mono w.sub (sqT_mono sb h)
  have hl := r.length
  rw [enumD_len]
  refine ⟨fun hi => ?_, fun hi => ⟨xs, hq, by omega⟩⟩
  obtain ⟨v, hv, rv⟩ := r.get (List.getElem?_eq_getElem hi)
  refine ⟨⟨xs, v, hq, hv⟩, fun x H' ⟨T, y, e1, hT, e2, hy⟩ => ?_⟩
  subst e1 e2
  have ey : y = v := Option.some.inj ((hy xs hq).symm.trans hv)
  subst ey
  have hd := enumD_get 0 ds i _ (List.getElem?_eq_getElem hi)
  rw [Nat.zero_add] at hd
  refine ⟨_, upd B1 T (.tup [.int (i : Nat), y]), hd, Xt.alloc w hT, w.alloc hT, ?_⟩
  have sb2 : Same B1 (upd B1 T (.tup [.int (i : Nat), y])) := same_upd' (w.bfree hT)
  unfold Rep
  exact ⟨T, _, rfl, SqT.of upd_same, Reps.cons (rpi _) (Reps.cons (Rep.mono sb2 _ (Rep.mono sb _ rv)) Reps.nil)⟩
/-- enumerate(e), e a list or a tuple -/
def iEnumX (f : Ef) : If := fun ρ S => (f ρ S).bind fun x S1 => match x with
  | .p (.lst ds) => .ok (enumD 0 ds) S1
  | .p (.tup ds) => .ok (enumD 0 ds) S1
  | _ => .bad
theorem di_enumX {elts : List Expr} {kk : Nat} {tpos : Pos} (hK : X.K = G.K) (hg : Gl X "enumerate") (hm : X.mg "enumerate" = none) (he : PE X e (tD G W ef)) (hs : starEach [e] X.env = [(false, eval e X.env)] := by rfl) :
    PI X (.Tuple elts kk tpos) (.Call (.Name "enumerate" p) [e] [] pos) (tI G W (iEnumX ef)) := by
  have s1 : starEach (e :: []) X.env = (false, eval e X.env) :: starEach [] X.env := hs
  have ha := da_cons (X := X) (af := aNil) he da_nil s1
  refine wkI (PI.or' (pi_enum hg hm ha hs) (pi_enumT hg hm ha hs)) fun σ H R ⟨ρ, B, φ, S, w, en, h⟩ => ?_
  have h2 := WP.fst h
  rw [hK]
  have step : ∀ {T : List V → Hp → Prop}, WP G W σ H B φ (ef ρ S) (fun a H' B' φ' S' => ∀ v, RepV G B' φ' a v → T [v] H') → tA G W (aCons ef aNil) σ H T := fun {T} q => by
    refine ⟨ρ, B, φ, S, w, en, ?_⟩
    unfold aCons aNil
    cases e1 : ef ρ S with
    | bad => rw [e1] at q; exact q.elim
    | exc x S1 => rw [e1] at q; exact q
    | ok d S1 =>
      rw [e1] at q
      intro H' B' φ' x w' vs ⟨v, t, ev, r, et⟩
      subst ev
      rw [show t = [] from et]
      exact q H' B' φ' x w' v r
  cases q : ef ρ S with
  | bad => rw [q] at h2; exact h2.elim
  | exc x S1 => exact .inl (step (by rw [q] at h2 ⊢; exact h2))
  | ok d S1 =>
    rw [q] at h2
    have no : (∀ H' B' φ', Xt H B φ H' B' φ' → Wd G H' B' φ' S1 → False) → iEnum G.K (tA G W (aCons ef aNil)) σ H R ∨ iEnT G.K (tA G W (aCons ef aNil)) σ H R := fun k => .inl (step (by rw [q]; exact fun H' B' φ' x w' v r => (k H' B' φ' x w').elim))
    cases d with
    | hnd n => exact no fun H' B' φ' x w' => (h2 H' B' φ' x w').elim
    | p d =>
      cases d with
      | lst ds =>
        refine .inl (step (by
          rw [q]
          intro H' B' φ' x w' v r
          obtain ⟨a, xs, rfl, s1, q1⟩ := rep_lst.mp r
          have sq : SqL G.K B' a xs := SqL.of s1
          exact ⟨a, xs, rfl, w'.sub.seq sq, h2 H' B' φ' x w' H' B' φ' Xt.refl w' _ (yl_enum sq q1)⟩))
      | tup ds =>
        refine .inr (step (by
          rw [q]
          intro H' B' φ' x w' v r
          obtain ⟨a, xs, rfl, s1, q1⟩ := rep_tup.mp r
          exact ⟨a, xs, rfl, sqT_mono w'.sub s1, h2 H' B' φ' x w' H' B' φ' Xt.refl w' _ (yl_enumT s1 q1)⟩))
      | _ => exact no fun H' B' φ' x w' => (h2 H' B' φ' x w').elim
/-! ### *e in displays -/
def aStar (f : Ef) (r : Af) : Af := fun ρ S => (f ρ S).bind fun d S1 => match sqOf S1 d with
  | some ds => (r ρ S1).bind fun xs S2 => .ok (ds.map Dv.p ++ xs) S2
  | none => .bad
theorem repsV_append {φ : List Addr} : ∀ {ds : List D} {es : List Dv} {vs us : List V}, Reps G B ds vs → RepVs G B φ es us → RepVs G B φ (ds.map Dv.p ++ es) (vs ++ us)
  | [], _, _, _, h, q => by unfold Reps at h; subst h; exact q
  | d :: ds, es, _, us, h, q => by
    unfold Reps at h
    obtain ⟨x, r, rfl, h1, h2⟩ := h
    exact ⟨x, _, rfl, h1, repsV_append h2 q⟩
theorem da_star (hK : X.K = G.K) (he : PE X e (tD G W ef)) (hr : PA X es (tA G W af)) (hs : starEach (.Starred e p :: es) X.env = (true, eval e X.env) :: starEach es X.env := by rfl) : PA X (.Starred e p :: es) (tA G W (aStar ef af)) := by
  refine wkA (StX.pa_star he hr hs) fun σ H Q ⟨ρ, B, φ, S, w, en, q⟩ => ?_
  refine tD.run w en (WP.fst q) fun d v H1 B1 φ1 S1 x1 w1 en1 r1 q1 => ?_
  split at q1
  · rename_i ds hd
    obtain ⟨a, xs, rfl, s1, rr⟩ := sq_at w1 r1 hd
    rw [← hK] at s1
    refine ⟨a, xs, rfl, s1.elim .inr .inl, ?_⟩
    refine tA.run w1 en1 (WP.fst q1) fun ds2 vs H2 B2 φ2 S2 x2 w2 en2 r2 q2 => ?_
    exact q2 H2 B2 φ2 Xt.refl w2 _ (repsV_append (Reps.mono x2.b _ rr) r2)
  · exact q1.elim
end
end DL

set_option maxHeartbeats 4000000
namespace DL
open PySem L2
open PySem.Spec PyProof.Rows
/-! ### [e for x in xs for y in ys] -/
def comp2L (t : Tgt) (it1 : If) (vs1 : List Nat) (t1 : Tgt) (el : Ef) (ρ : Nv) : Nat → List D → Sto → Out (List D)
  | _, [], S => .ok [] S
  | n, d :: ds, S => match t (.p d) ρ with
    | some ρ1 => (it1 ρ1 S).nox.bind fun ds1 S1 => if n + ds1.length ≤ big then (compL t1 cYes el (wipeN ρ1 vs1) ds1 S1).bind fun r S2 => (comp2L t it1 vs1 t1 el ρ (n + ds1.length) ds S2).bind fun r2 S3 => .ok (r ++ r2) S3 else .bad
    | none => .bad
def dComp2 (vs : List Nat) (it : If) (t : Tgt) (it1 : If) (vs1 : List Nat) (t1 : Tgt) (el : Ef) : Ef := fun ρ S => (it ρ S).bind fun ds S1 => (comp2L t it1 vs1 t1 el (wipeN ρ vs) 0 ds S1).bind fun r S2 => .ok (.p (.lst r)) S2
section
variable {X : Cx} {G : Gx} {W : WX}
theorem bind_id {α : Type} (o : Out (List α)) : (o.bind fun r S => .ok ([] ++ r) S) = o := by cases o <;> rfl
theorem comp2_le {own : List (Str × Nat)} {it it1 : If} {ts ts1 vs1 : List Nat} {t t1 : Tgt} {el : Ef} (hts : ∀ i ∈ ts, i ∈ own.map (·.2)) (hts1 : ∀ i ∈ ts1, i ∈ vs1) :
    ∀ σ H Q, tD G W (dComp2 (own.map (·.2)) it t it1 vs1 t1 el) σ H Q → tLc2 (tI G W it) (tG G ts t) (tT G noW cYes) (tI G noW it1) (tG G ts1 t1) (tT G noW cYes) (tD G noW el) (own.map (·.2)) vs1 σ H Q := by
  rintro σ H Q ⟨ρ, B, φ, S, w, en, h⟩
  refine ⟨ρ, B, φ, S, w, en, (WP.fst h).mono fun ds H1 B1 φ1 S1 x1 w1 q1 J yl => ?_⟩
  intro D hD
  have en1 := (en.mono x1.b x1.p).wipe (own.map (·.2))
  generalize hvs : own.map (·.2) = vs at *
  have nD1 : D ∉ φ1 := w1.fresh hD
  let K : List DL.D → Out (List DL.D) → Prop := fun acc o => WP G W σ H1 B1 φ1 (o.bind fun r S2 => Out.ok (Dv.p (DL.D.lst (acc ++ r))) S2) (fun d H' B' φ' _ => ∀ v, RepV G B' φ' d v → Q v H')
  have away : ∀ {a : Addr} {u o : HO} {H B : Hp} {φ : List Addr}, Xt H1 B1 φ1 H B φ → H1 a = some u → B1 a = none → a ∉ φ1 → upd H D o a = some u ∧ B a = none ∧ a ∉ φ := fun {a u o H B φ} x h1 h2 h3 => by
    have na : a ≠ D := ne_of_none h1 hD
    rw [upd_ne na]
    exact x.out a u h1 h2 h3
  refine ⟨fun i m H => ∃ B φ S acc av n, Wd G H B φ S ∧ Xt H1 B1 φ1 H B φ ∧ B D = none ∧ D ∉ φ ∧ H D = some (.lst av) ∧ Reps G B acc av ∧ acc.length ≤ n ∧ i ≤ ds.length ∧ m = ds.length - i ∧ K acc (comp2L t it1 vs1 t1 el (wipeN ρ vs) n (ds.drop i) S),
    ⟨_, B1, φ1, S1, [], [], 0, w1.hide hD, Xt.hide w1 hD, w1.bfree hD, nD1, upd_same, Reps.nil, Nat.le_refl _, Nat.zero_le _, rfl, q1⟩, ?_⟩
  rintro i m H ⟨B, φ, S, acc, av, n, w, x, hb, hf, hh, rr, hai, hi, rfl, q⟩
  obtain ⟨y1, y2⟩ := yl i H B φ S w x.b
  by_cases hlt : i < ds.length
  · obtain ⟨go, y1⟩ := y1 hlt
    refine .inr ⟨go, fun H' => ∃ B φ S acc av n, Wd G H' B φ S ∧ Xt H1 B1 φ1 H' B φ ∧ B D = none ∧ D ∉ φ ∧ H' D = some (.lst av) ∧ Reps G B acc av ∧ acc.length ≤ n ∧ K acc (comp2L t it1 vs1 t1 el (wipeN ρ vs) n (ds.drop (i + 1)) S), ?_, ?_⟩
    · rintro H' ⟨B', φ', S', acc', av', n', w', x', hb', hf', hh', rr', hai', q'⟩
      exact ⟨ds.length - (i + 1), by omega, B', φ', S', acc', av', n', w', x', hb', hf', hh', rr', hai', hlt, rfl, q'⟩
    · intro y H' hy
      obtain ⟨d, B', hd, xx, w', r⟩ := y1 y H' hy
      rw [List.drop_eq_getElem_cons hlt] at q
      have ed : ds[i] = d := by rw [List.getElem?_eq_getElem hlt] at hd; exact Option.some.inj hd
      rw [ed] at q
      unfold comp2L at q
      have x' := x.trans xx
      obtain ⟨hh', hb', hf'⟩ := xx.out D _ hh hb hf
      refine ⟨wipeN ρ vs, B', φ, S, .p d, w', en1.mono x'.b x'.p, r, ?_⟩
      cases e1 : t (.p d) (wipeN ρ vs) with
      | none => rw [e1] at q; exact q.elim
      | some ρ1 =>
        rw [e1] at q
        dsimp only at q
        refine fun σ2 en2 k2 => ⟨(k2 vs hts).trans (wipe_wipe vs fun _ z => z), ρ1, B', φ, S, w', en2, ?_⟩
        intro H3 B3 φ3 x3 w3
        obtain ⟨hh3, hb3, hf3⟩ := x3.out D _ hh' hb' hf'
        have x03 := x'.trans x3
        rw [if_pos rfl]
        refine ⟨ρ1, B3, φ3, S, w3, en2.mono x3.b x3.p, ?_⟩
        cases e2 : it1 ρ1 S with
        | bad => rw [e2] at q; exact q.elim
        | exc e' S' => rw [e2] at q; exact q.elim
        | ok ds1 S2 =>
          rw [e2] at q
          have q : K acc (if n + ds1.length ≤ big then (compL t1 cYes el (wipeN ρ1 vs1) ds1 S2).bind fun r S2 => (comp2L t it1 vs1 t1 el (wipeN ρ vs) (n + ds1.length) (ds.drop (i + 1)) S2).bind fun r2 S3 => .ok (r ++ r2) S3 else .bad) := q
          split at q
          · rename_i hbig
            intro H4 B4 φ4 x4 w4 J1 yl1
            obtain ⟨hh4, hb4, hf4⟩ := x4.out D _ hh3 hb3 hf3
            have x04 := x03.trans x4
            have sB : Same B B4 := xx.b.trans (x3.b.trans x4.b)
            have en4 := ((en2.mono x3.b x3.p).mono x4.b x4.p).wipe vs1
            refine ⟨fun j k H => ∃ B φ S acc av, Wd G H B φ S ∧ Xt H1 B1 φ1 H B φ ∧ Same B4 B ∧ φ4 <+: φ ∧ B D = none ∧ D ∉ φ ∧ H D = some (.lst av) ∧ Reps G B acc av ∧ acc.length ≤ n + j ∧ j ≤ ds1.length ∧ k = ds1.length - j ∧
                K acc ((compL t1 cYes el (wipeN ρ1 vs1) (ds1.drop j) S).bind fun r S2 => (comp2L t it1 vs1 t1 el (wipeN ρ vs) (n + ds1.length) (ds.drop (i + 1)) S2).bind fun r2 S3 => .ok (r ++ r2) S3),
              ⟨_, B4, φ4, S2, acc, av, w4, x04, Same.refl _, List.prefix_refl _, hb4, hf4, hh4, Reps.mono sB _ rr, hai, Nat.zero_le _, rfl, q⟩, ?_⟩
            rintro j k H5 ⟨B5, φ5, S5, acc5, av5, w5, x5, sB5, pf5, hb5, hf5, hh5, rr5, ha5, hj, rfl, q5⟩
            obtain ⟨z1, z2⟩ := yl1 j H5 B5 φ5 S5 w5 sB5
            by_cases hlt1 : j < ds1.length
            · obtain ⟨go1, z1⟩ := z1 hlt1
              refine .inr ⟨go1, fun H' => ∃ B φ S acc av, Wd G H' B φ S ∧ Xt H1 B1 φ1 H' B φ ∧ Same B4 B ∧ φ4 <+: φ ∧ B D = none ∧ D ∉ φ ∧ H' D = some (.lst av) ∧ Reps G B acc av ∧ acc.length ≤ n + (j + 1) ∧
                K acc ((compL t1 cYes el (wipeN ρ1 vs1) (ds1.drop (j + 1)) S).bind fun r S2 => (comp2L t it1 vs1 t1 el (wipeN ρ vs) (n + ds1.length) (ds.drop (i + 1)) S2).bind fun r2 S3 => .ok (r ++ r2) S3), ?_, ?_⟩
              · rintro H' ⟨B', φ', S', acc', av', w', x', sB', pf', hb', hf', hh', rr', hai', q'⟩
                exact ⟨ds1.length - (j + 1), by omega, B', φ', S', acc', av', w', x', sB', pf', hb', hf', hh', rr', hai', hlt1, rfl, q'⟩
              · intro y1 H6 hy1
                obtain ⟨d1, B6, hd1, xx6, w6, r6⟩ := z1 y1 H6 hy1
                rw [List.drop_eq_getElem_cons hlt1] at q5
                have ed1 : ds1[j] = d1 := by rw [List.getElem?_eq_getElem hlt1] at hd1; exact Option.some.inj hd1
                rw [ed1] at q5
                unfold compL at q5
                have x6 := x5.trans xx6
                obtain ⟨hh6, hb6, hf6⟩ := xx6.out D _ hh5 hb5 hf5
                refine ⟨wipeN ρ1 vs1, B6, φ5, S5, .p d1, w6, (en4.mono sB5 pf5).mono xx6.b xx6.p, r6, ?_⟩
                cases e6 : t1 (.p d1) (wipeN ρ1 vs1) with
                | none => rw [e6] at q5; exact q5.elim
                | some ρ6 =>
                  rw [e6] at q5
                  dsimp only at q5
                  refine fun σ3 en3 k3 => ⟨(k3 vs1 hts1).trans (wipe_wipe vs1 fun _ z => z), ρ6, B6, φ5, S5, w6, en3, ?_⟩
                  intro H7 B7 φ7 x7 w7
                  obtain ⟨hh7, hb7, hf7⟩ := x7.out D _ hh6 hb6 hf6
                  have x07 := x6.trans x7
                  rw [if_pos rfl]
                  refine ⟨ρ6, B7, φ7, S5, w7, en3.mono x7.b x7.p, ?_⟩
                  have q5 : K acc5 (((el ρ6 S5).nox.bind (fun x S2 => match x with
                      | .p d' => (compL t1 cYes el (wipeN ρ1 vs1) (ds1.drop (j + 1)) S2).bind fun r S3 => Out.ok (d' :: r) S3
                      | .hnd _ => .bad)).bind fun r S2 => (comp2L t it1 vs1 t1 el (wipeN ρ vs) (n + ds1.length) (ds.drop (i + 1)) S2).bind fun r2 S3 => .ok (r ++ r2) S3) := q5
                  cases e7 : el ρ6 S5 with
                  | bad => rw [e7] at q5; exact q5.elim
                  | exc e' S' => rw [e7] at q5; exact q5.elim
                  | ok dv S8 =>
                    rw [e7] at q5
                    cases dv with
                    | hnd n => exact q5.elim
                    | p d' =>
                      have q5 : K acc5 (((compL t1 cYes el (wipeN ρ1 vs1) (ds1.drop (j + 1)) S8).bind fun r S3 => Out.ok (d' :: r) S3).bind fun r S2 => (comp2L t it1 vs1 t1 el (wipeN ρ vs) (n + ds1.length) (ds.drop (i + 1)) S2).bind fun r2 S3 => .ok (r ++ r2) S3) := q5
                      intro H8 B8 φ8 x8 w8 v8 r8
                      obtain ⟨hh8, hb8, hf8⟩ := x8.out D _ hh7 hb7 hf7
                      have x08 := x07.trans x8
                      have sB8 : Same B5 B8 := xx6.b.trans (x7.b.trans x8.b)
                      have rr8 : Reps G B8 acc5 av5 := Reps.mono sB8 _ rr5
                      refine ⟨av5, hh8, ?_, B8, φ8, S8, acc5 ++ [d'], av5 ++ [v8], w8.priv hb8 hf8, ⟨x08.b, x08.p, fun a u h1 h2 h3 => away x08 h1 h2 h3⟩, sB5.trans sB8, pf5.trans (xx6.p.trans (x7.p.trans x8.p)), hb8, hf8, upd_same, rr8.append (Reps.cons r8 Reps.nil), by rw [List.length_append]; show acc5.length + 1 ≤ _; omega, ?_⟩
                      · rw [← rr8.length, ← big_eq]; omega
                      · show WP G W σ H1 B1 φ1 _ _
                        have q5 : WP G W σ H1 B1 φ1 ((((compL t1 cYes el (wipeN ρ1 vs1) (ds1.drop (j + 1)) S8).bind fun r S3 => Out.ok (d' :: r) S3).bind fun r S2 => (comp2L t it1 vs1 t1 el (wipeN ρ vs) (n + ds1.length) (ds.drop (i + 1)) S2).bind fun r2 S3 => .ok (r ++ r2) S3).bind fun r S2 => Out.ok (Dv.p (DL.D.lst (acc5 ++ r))) S2) (fun d H' B' φ' _ => ∀ v, RepV G B' φ' d v → Q v H') := q5
                        rw [Out.bind_assoc, Out.bind_assoc] at q5
                        rw [Out.bind_assoc]
                        have e9 : (fun (r : List DL.D) (S : Sto) => (Out.ok (d' :: r) S).bind fun a S => ((comp2L t it1 vs1 t1 el (wipeN ρ vs) (n + ds1.length) (ds.drop (i + 1)) S).bind fun r2 S3 => .ok (a ++ r2) S3).bind fun r S2 => Out.ok (Dv.p (DL.D.lst (acc5 ++ r))) S2)
                            = fun r S => ((comp2L t it1 vs1 t1 el (wipeN ρ vs) (n + ds1.length) (ds.drop (i + 1)) S).bind fun r2 S3 => .ok (r ++ r2) S3).bind fun r S2 => Out.ok (Dv.p (DL.D.lst (acc5 ++ [d'] ++ r))) S2 := by
                          funext r S
                          show ((comp2L t it1 vs1 t1 el (wipeN ρ vs) (n + ds1.length) (ds.drop (i + 1)) S).bind fun r2 S3 => .ok ((d' :: r) ++ r2) S3).bind _ = _
                          rw [Out.bind_assoc, Out.bind_assoc]
                          congr 1
                          funext r2 S3
                          show Out.ok (Dv.p (DL.D.lst (acc5 ++ (d' :: r ++ r2)))) S3 = Out.ok (Dv.p (DL.D.lst (acc5 ++ [d'] ++ (r ++ r2)))) S3
                          rw [List.append_assoc acc5]; rfl
                        rw [← e9]
                        exact q5
            · have ej : j = ds1.length := by omega
              subst ej
              rw [List.drop_length] at q5
              refine .inl ⟨z2 rfl, B5, φ5, S5, acc5, av5, n + ds1.length, w5, x5, hb5, hf5, hh5, rr5, ha5, ?_⟩
              have q5 : K acc5 ((comp2L t it1 vs1 t1 el (wipeN ρ vs) (n + ds1.length) (ds.drop (i + 1)) S5).bind fun r2 S3 => .ok ([] ++ r2) S3) := q5
              rw [bind_id] at q5
              exact q5
          · exact q.elim
  · have e : i = ds.length := by omega
    subst e
    rw [List.drop_length] at q
    refine .inl ⟨y2 rfl, ?_⟩
    have q : WP G W σ H1 B1 φ1 (.ok (.p (.lst (acc ++ []))) S) (fun d H' B' φ' _ => ∀ v, RepV G B' φ' d v → Q v H') := q
    rw [List.append_nil] at q
    have sb : Same B (upd B D (.lst av)) := same_upd' hb
    refine q H (upd B D (.lst av)) φ ⟨x.b.trans sb, x.p, fun a u h1 h2 h3 => ?_⟩ (w.adopt hh hb hf) _ (rep_lst.mpr ⟨D, av, rfl, upd_same, Reps.mono sb _ rr⟩)
    have na : a ≠ D := ne_of_none h1 hD
    rw [upd_ne na]
    exact x.out a u h1 h2 h3
theorem de_comp2 {elt tg iter tg1 iter1 : Expr} {scope : Scope} {own : List (Str × Nat)} {it it1 : If} {ts ts1 vs1 : List Nat} {t t1 : Tgt} {el : Ef} {pos : Pos} (hc : X.calm = true) (hN : X.N.Nodup) (hi : PI X tg iter (tI G W it)) (ok : BlkOk X.N X.env.scope scope own)
    (hts : ∀ i ∈ ts, i ∈ own.map (·.2)) (hts1 : ∀ i ∈ ts1, i ∈ vs1) (hv : ∀ i ∈ vs1, i ∈ own.map (·.2))
    (hg : ∀ (s : Shared) (H : Hp) (C : Addr) (cl : List (Str × Addr)) (fp : List Addr), PG (X.blk s H scope (compEnvC scope cl C X.env) fp) tg (tG G ts t))
    (hi1 : ∀ (s : Shared) (H : Hp) (C : Addr) (cl : List (Str × Addr)) (fp : List Addr), PI (X.blk s H scope (compEnvC scope cl C X.env) fp) tg1 iter1 (tI G noW it1))
    (hg1 : ∀ (s : Shared) (H : Hp) (C : Addr) (cl : List (Str × Addr)) (fp : List Addr), PG (X.blk s H scope (compEnvC scope cl C X.env) fp) tg1 (tG G ts1 t1))
    (he : ∀ (s : Shared) (H : Hp) (C : Addr) (cl : List (Str × Addr)) (fp : List Addr), PE (X.blk s H scope (compEnvC scope cl C X.env) fp) elt (tD G noW el))
    (hs : ∀ x, foldedSetIterable iter X.env x = pure x := by intro _; rfl) (hs1 : ∀ env x, foldedSetIterable iter1 env x = pure x := by intro _ _; rfl) :
    PE X (.ListComp elt [⟨tg, iter, [], 0⟩, ⟨tg1, iter1, [], 0⟩] scope pos) (tD G W (dComp2 (own.map (·.2)) it t it1 vs1 t1 el)) :=
  wkE (pe_lc2 (tt := tT G noW cYes) (tt1 := tT G noW cYes) hc hN hi ok hv hg (fun _ _ _ _ _ => dts_nil) hi1 hg1 (fun _ _ _ _ _ => dts_nil) he hs hs1) (comp2_le hts hts1)
theorem dp_setLc2 {i : Nat} {y : Str} {py spos pos : Pos} {elt tg iter tg1 iter1 : Expr} {scope : Scope} {own : List (Str × Nat)} {it it1 : If} {ts ts1 vs1 : List Nat} {t t1 : Tgt} {el : Ef} (hc : X.calm = true) (hN : X.N.Nodup) (hy : X.N[i]? = some y) (hyl : X.env.scope.names.lookup y = some .local) (hk : X.env.scope.kind = .function) (hl : (py.line == pos.line) = true) (hna : (scope.names.any fun (n, k) => n == y && (k == .local || k == .cell)) = false)
    (hi : PI X tg iter (tI G W it)) (ok : BlkOk X.N X.env.scope scope own)
    (hts : ∀ i ∈ ts, i ∈ own.map (·.2)) (hts1 : ∀ i ∈ ts1, i ∈ vs1) (hv : ∀ i ∈ vs1, i ∈ own.map (·.2))
    (hg : ∀ (s : Shared) (H : Hp) (C : Addr) (cl : List (Str × Addr)) (fp : List Addr), PG (X.blk s H scope (compEnvC scope cl C X.env) fp) tg (tG G ts t))
    (hi1 : ∀ (s : Shared) (H : Hp) (C : Addr) (cl : List (Str × Addr)) (fp : List Addr), PI (X.blk s H scope (compEnvC scope cl C X.env) fp) tg1 iter1 (tI G noW it1))
    (hg1 : ∀ (s : Shared) (H : Hp) (C : Addr) (cl : List (Str × Addr)) (fp : List Addr), PG (X.blk s H scope (compEnvC scope cl C X.env) fp) tg1 (tG G ts1 t1))
    (he : ∀ (s : Shared) (H : Hp) (C : Addr) (cl : List (Str × Addr)) (fp : List Addr), PE (X.blk s H scope (compEnvC scope cl C X.env) fp) elt (tD G noW el))
    (hs : ∀ x, foldedSetIterable iter X.env x = pure x := by intro _; rfl) (hs1 : ∀ env x, foldedSetIterable iter1 env x = pure x := by intro _ _; rfl) :
    PS X (.Assign [.Name y py] (.ListComp elt [⟨tg, iter, [], 0⟩, ⟨tg1, iter1, [], 0⟩] scope pos) spos) (tS G W (sSet i (dComp2 (own.map (·.2)) it t it1 vs1 t1 el))) := by
  refine wkS (ps_setLc2 (tt := tT G noW cYes) (tt1 := tT G noW cYes) hc hN hy hyl (sw_true hk hyl hl hna) hi ok hv hg (fun _ _ _ _ _ => dts_nil) hi1 hg1 (fun _ _ _ _ _ => dts_nil) he hs hs1) fun D σ H ⟨ρ, B, φ, S, w, en, h⟩ => ?_
  refine comp2_le hts hts1 σ H _ ⟨ρ, B, φ, S, w, en, (WPS.fst en h).mono fun a H1 B1 φ1 S1 x1 w1 q1 v r1 => ?_⟩
  exact WPS.here w1 q1 _ ((en.mono x1.b x1.p).set i r1)
/-! f() -/
def dCall0 (m : List D → PO) : Ef := fun _ S => (m []).out S
theorem de_call0 {k : Nat} {f : Addr} {fd : FuncData} {ps : List Str} {x : Str} {p pos : Pos} {m : List D → PO} (F : FnOk X.prog X.w X.K X.mg X.base (L2.CX X.prog X.w) k f fd ps (spP G 0 m)) (hr : Room k X.A) (hg : Gl X x) (hm : X.mg x = some (.ref f)) (hk : PySem.W.keepIn X.K (.ref f) = true) (hb : Binds X.K fd ps [])
    (hdb : (x == ("__debug__" : Str)) = false := by decide) : PE X (.Call (.Name x p) [] [] pos) (tD G W (dCall0 m)) :=
  wkE (pe_call0 F hr hg hm hk hb (dvs := []) .nil passL hdb) fun σ H Q ⟨ρ, B, φ, S, w, en, q⟩ => spP_ok (ds := []) rfl w Reps.nil q
end
end DL

set_option maxHeartbeats 4000000
namespace DL
open PySem L2
open PySem.Spec PyProof.Rows
/-! ### numbers in order -/
def insI (x : Int) : List Int → List Int
  | [] => [x]
  | y :: r => if x ≤ y then x :: y :: r else y :: insI x r
def srtI : List Int → List Int
  | [] => []
  | x :: r => insI x (srtI r)
theorem insI_perm (x : Int) : ∀ l : List Int, (insI x l).Perm (x :: l)
  | [] => .refl _
  | y :: r => by
    unfold insI
    split
    · exact .refl _
    · exact ((insI_perm x r).cons y).trans (.swap x y r)
theorem srtI_perm : ∀ l : List Int, (srtI l).Perm l
  | [] => .refl _
  | x :: r => by
    unfold srtI
    exact (insI_perm x _).trans ((srtI_perm r).cons x)
theorem insI_srt (x : Int) : ∀ {l : List Int}, l.Pairwise (· ≤ ·) → (insI x l).Pairwise (· ≤ ·)
  | [], _ => by unfold insI; exact List.pairwise_singleton _ _
  | y :: r, h => by
    obtain ⟨h1, h2⟩ := List.pairwise_cons.mp h
    unfold insI
    split
    · rename_i hx
      refine List.pairwise_cons.mpr ⟨fun z hz => ?_, h⟩
      rcases List.mem_cons.mp hz with e | e
      · rw [e]; exact hx
      · exact Int.le_trans hx (h1 z e)
    · rename_i hx
      refine List.pairwise_cons.mpr ⟨fun z hz => ?_, insI_srt x h2⟩
      rcases List.mem_cons.mp ((insI_perm x r).mem_iff.mp hz) with e | e
      · rw [e]; omega
      · exact h1 z e
theorem srtI_srt : ∀ l : List Int, (srtI l).Pairwise (· ≤ ·)
  | [] => .nil
  | x :: r => by unfold srtI; exact insI_srt x (srtI_srt r)
theorem srt_one : ∀ {a b : List Int}, a.Perm b → a.Pairwise (· ≤ ·) → b.Pairwise (· ≤ ·) → a = b
  | [], b, p, _, _ => (List.Perm.nil_eq p)
  | x :: r, b, p, ha, hb => by
    cases b with
    | nil => cases List.Perm.eq_nil p
    | cons y t =>
      obtain ⟨a1, a2⟩ := List.pairwise_cons.mp ha
      obtain ⟨b1, b2⟩ := List.pairwise_cons.mp hb
      have e : x = y := by
        have h1 : x ≤ y := by
          rcases List.mem_cons.mp (p.mem_iff.mpr (List.mem_cons_self (a := y) (l := t))) with e | e
          · rw [e]; exact Int.le_refl _
          · exact a1 y e
        have h2 : y ≤ x := by
          rcases List.mem_cons.mp (p.mem_iff.mp (List.mem_cons_self (a := x) (l := r))) with e | e
          · rw [e]; exact Int.le_refl _
          · exact b1 x e
        omega
      subst e
      rw [srt_one (List.Perm.cons_inv p) a2 b2]
section
variable {X : Cx} {G : Gx} {W : WX} {e : Expr} {ef : Ef} {p p2 pos P pp : Pos} {H B : Hp} {φ : List Addr} {S : Sto} {σ : L2.St} {ρ : Nv}
def nSortI : OpN := fun xs S => match xs with
  | [x] => match vw S x with
    | some ds => match intsOf ds with
      | some ns => .ok (.p (.lst ((srtI ns).map D.int))) S
      | none => .bad
    | none => .bad
  | _ => .bad
theorem nSortI_ok : OkN G W (rSortedI G.K) nSortI := by
  intro H B φ S σ xs vs Q w r h
  unfold nSortI at h
  split at h
  · split at h
    · rename_i ds hs
      split at h
      · rename_i ns hb
        obtain ⟨v, rfl, rv⟩ := rvs1 r
        obtain ⟨a, ys, rfl, s1, q1⟩ := vw_at w rv hs
        refine ⟨a, ns, rfl, by rw [← ints_at' hb q1]; exact SqL.of s1, fun ns' l hp hw hl => ?_⟩
        rw [srt_one (hp.trans (srtI_perm ns).symm) hw (srtI_srt ns)]
        exact h _ _ _ (Xt.alloc w hl) (w.alloc hl) _ (rep_lst.mpr ⟨l, _, rfl, upd_same, Reps.ints _⟩)
      · exact h.elim
    · exact h.elim
  · exact h.elim
end
/-! ### sorted(set(xs)), numbers -/
/-- a new set without elements -/
abbrev fso (w : World) : Obj := { cls := .type "set", dict := none, data := .set #[] 0 (.fresh 0 0 (!w.params.followText "set-order")) }
section
variable {P : Program} {w : World} {A : Around} {E : Value → Shared → Prop} {s : Shared}
set_option maxHeartbeats 3200000 in
theorem call_set_lstI {l : Addr} {items : Array Value} (ns : List Int) {Q : Value → Shared → Prop} (hh : A.handled = none) (hl : s.heap.IsList l items) (hit : IntsAre items.toList ns) (hb : ns.length + 1 < scanBound)
    (h : ∀ (h' : Heap) (tk c : Nat), SetR w h' s.heap.objs.size (fun j => decide (j ∈ ns)) c → c ≤ ns.length → (∀ b o, s.heap.get? b = some o → h'.get? b = some o) → Q (.ref s.heap.objs.size) { s with heap := h', toks := tk }) :
    wpAny (model P w) A (call (.type "set") [.ref l]) Q E s := by
  have hisz : items.size = ns.length := by
    have q := IntsAre.length hit
    rw [Array.length_toList] at q
    exact q
  obtain ⟨c, tl, hmro⟩ := F.called_set.mro
  have hmade := F.called_set.made
  have hsub := F.called_set.sub
  refine wpAny_call (codeAny_of_tree ?_)
  show wpAny _ _ (callAny (.type "set") _) _ _ _
  refine wpAny_pure ⟨Code.quiet_builtin _ (by decide +kernel), codeAny_builtin F.entry_type_call ?_⟩
  rw [Around.under_plain (weight_type_call_type "set" [.ref l] []) rfl]
  have h1 := F.called_set.notType
  have h2 := F.called_set.canCreate
  have hct := F.typeCall_set_1 (.ref l)
  repeat (any_goals (first | assumption | wp_step))
  refine codeAny_mono (code_set_led1 (.ref l) (E := E) (Q₁ := fun obj s₁ => obj = .ref s.heap.objs.size ∧ s₁ = { s with heap := s.heap.push (fso w) }) ⟨rfl, rfl⟩) fun r s₁ hr => ?_
  cases r with
  | error e => exact hr
  | ok fl =>
    cases fl with
    | ret obj =>
      obtain ⟨rfl, rfl⟩ := hr
      have hS : (s.heap.push (fso w)).get? s.heap.objs.size = some (fso w) := Heap.get?_push_size _ rfl
      have hT : Shared.TypeIs { s with heap := s.heap.push (fso w) } (.ref s.heap.objs.size) "set" := ⟨_, hS, rfl⟩
      have hli := F.called_set.init.lookup
      have hbi := F.called_set.init.bind (.ref s.heap.objs.size)
      repeat (any_goals (first | assumption | wp_step))
      refine codeAny_mono (codeAny_call_builtin (R := wants (fun r s₂ => r = .none ∧ ∃ h' tk c, s₂ = { s with heap := h', toks := tk } ∧ SetR w h' s.heap.objs.size (fun j => decide (j ∈ ns)) c ∧ c ≤ ns.length ∧
          (∀ b o, s.heap.get? b = some o → h'.get? b = some o)) E) F.called_set.init.plain F.entry_set_init (check_set_init_1 hT ?_)) fun r₂ s₂ hr₂ => ?_
      · obtain ⟨ol, hol, hcl, nl, hdl⟩ := hl
        obtain ⟨ocls, odict, odata, oslots⟩ := ol
        simp only at hcl hdl
        subst hcl; subst hdl
        have hol' : (s.heap.push (fso w)).get? l = some { cls := .type "list", dict := odict, data := .seq items nl, slots := oslots } := Heap.get?_push_of_some _ hol
        have hsls := F.sub_list_set
        have hslf := F.sub_list_frozenset
        have hne : (Value.type "list" == Value.type "dict") = false := by decide
        have hl1 : (s.heap.push (fso w)).IsList l items := ⟨_, hol', rfl, nl, rfl⟩
        unfold Builtin.«set.__init__» noKeywords Builtin.Frozenset.updateFrom
        generalize hPI : pyIter = PI
        wp_walk
        subst hPI
        refine wpAny_pyIter_list hl1 ?_
        refine wpAny_bind (wpAny_runValue ?_)
        have hlS : l < s.heap.objs.size := Heap.lt_size hol
        have hh3 : A.in1.in1.in1.handled = none := by simp [hh]
        have hneI : l ≠ (s.heap.push (fso w)).objs.size := by
          rw [Heap.size_push]; exact Nat.ne_of_lt (Nat.lt_succ_of_lt hlS)
        have hSf : s.heap.objs.size ∉ [(s.heap.push (fso w)).objs.size, l] := by
          rw [Heap.size_push]; simp only [List.mem_cons, List.mem_singleton, List.not_mem_nil, or_false, not_or]
          exact ⟨Nat.ne_of_lt (Nat.lt_succ_self _), Nat.ne_of_gt hlS⟩
        have hval : ∀ (i : Nat) (v : Value), items[i]? = some v → ∃ k t, ns[i]? = some k ∧ v = .int k t := fun i v hv => by
          have hi : i < ns.length := by rw [← hisz]; exact (Array.getElem?_eq_some_iff.mp hv).1
          obtain ⟨t, e⟩ := PyProof.Rows.IntsAre.int_at hit i v (by rw [Array.getElem?_toList]; exact hv)
          refine ⟨ns[i], t, List.getElem?_eq_getElem hi, ?_⟩
          rw [e, List.getD_eq_getElem?_getD, List.getElem?_eq_getElem hi] <;> rfl
        refine set_update_ints ((Walks.list hh3 _ l hneI items).toS) s.heap.objs.size
          hSf ns hisz hb hval (items.size - 0) 0 _ (by omega) (Nat.zero_le _)
          ⟨⟨_, Heap.get?_push_size _ rfl, rfl, rfl⟩, (hl1.push _)⟩ ?hS0 ?hR
        case hS0 =>
          have hget : ((s.heap.push (fso w)).push { cls := .type "list_iterator", data := .fields #[.ref l, .int 0 0] }).get? s.heap.objs.size = some (fso w) := Heap.get?_push_of_some _ hS
          exact ⟨0, Nat.le_refl 0, setR_new_at hget⟩
        case hR =>
          intro s' c' hm hc' hS'
          obtain ⟨h', g2, d', tk', os'⟩ := s'
          have eg : g2 = s.gens := hm.gens
          have ed : d' = s.drawn := hm.drawn
          have eo : os' = s.os := hm.os
          subst eg; subst ed; subst eo
          show wpAny _ _ _ _ _ _
          refine wpAny_pure ?_
          show wpAny _ _ (ret Value.none) _ _ _
          rw [hisz] at hc'
          refine wpAny_pure ⟨rfl, h', tk', c', rfl, hS', hc', fun b o e => ?_⟩
          have hb0 : b < s.heap.objs.size := Heap.lt_size e
          have hb1 : b ≠ s.heap.objs.size := Nat.ne_of_lt hb0
          have hb2 : b ≠ (s.heap.push (fso w)).objs.size := by
            rw [Heap.size_push]; exact Nat.ne_of_lt (Nat.lt_succ_of_lt hb0)
          exact hm.heap b o (by simp only [List.mem_cons, List.mem_singleton, List.not_mem_nil, or_false, not_or]; exact ⟨hb1, hb2⟩) (Heap.get?_push_of_some _ (Heap.get?_push_of_some _ e))
      · cases r₂ with
        | error e => exact hr₂
        | ok fl₂ =>
          cases fl₂ with
          | ret r =>
            obtain ⟨rfl, h', tk, c', rfl, hS', hc', hk'⟩ := hr₂
            repeat (any_goals (first | assumption | wp_step))
            exact h _ _ _ hS' hc' hk'
          | _ => exact hr₂.elim
    | _ => exact hr.elim
end
section
variable {X : Cx} {G : Gx} {W : WX} {e : Expr} {ef : Ef} {p p2 pos P pp : Pos} {H B : Hp} {φ : List Addr} {S : Sto} {σ : L2.St} {ρ : Nv} {ta : TE}
/-- numbers in order, each once -/
def srtS (ns : List Int) : List Int := srtI (dd ns)
theorem dd_memF : ∀ (ns acc : List Int) (k : Int), k ∈ ns.foldl PyProof.Rows.step_dedup acc ↔ k ∈ acc ∨ k ∈ ns
  | [], acc, k => by simp
  | n :: r, acc, k => by
    rw [List.foldl_cons, dd_memF r]
    unfold PyProof.Rows.step_dedup
    split
    · rename_i h
      obtain ⟨y, hy, ey⟩ := List.any_eq_true.mp h
      have ey : y = n := eq_of_beq ey
      subst ey
      constructor
      · rintro (h | h)
        · exact .inl h
        · exact .inr (List.mem_cons_of_mem _ h)
      · rintro (h | h)
        · exact .inl h
        · rcases List.mem_cons.mp h with e | e
          · exact .inl (e ▸ hy)
          · exact .inr e
    · rw [List.mem_append, List.mem_singleton, List.mem_cons, or_assoc]
theorem dd_mem {ns : List Int} {k : Int} : k ∈ dd ns ↔ k ∈ ns := by unfold dd; rw [dd_memF]; simp
theorem dd_ndF : ∀ (ns acc : List Int), acc.Nodup → (ns.foldl PyProof.Rows.step_dedup acc).Nodup
  | [], acc, h => h
  | n :: r, acc, h => by
    rw [List.foldl_cons]
    refine dd_ndF r _ ?_
    unfold PyProof.Rows.step_dedup
    split
    · exact h
    · rename_i q
      refine List.nodup_append.mpr ⟨h, List.nodup_cons.mpr ⟨List.not_mem_nil, List.nodup_nil⟩, fun a ha b hb e => q ?_⟩
      rw [List.mem_singleton] at hb
      subst hb
      subst e
      exact List.any_eq_true.mpr ⟨a, ha, beq_self_eq_true a⟩
theorem dd_nd (ns : List Int) : (dd ns).Nodup := dd_ndF ns [] List.nodup_nil
theorem srtS_mem {ns : List Int} {k : Int} : k ∈ srtS ns ↔ k ∈ ns := (srtI_perm _).mem_iff.trans dd_mem
theorem srtS_len {ns : List Int} : (srtS ns).length = (dd ns).length := (srtI_perm _).length_eq
theorem srtS_lt (ns : List Int) : (srtS ns).Pairwise (· < ·) := by
  have h1 := srtI_srt (dd ns)
  have h2 : (srtI (dd ns)).Nodup := ((srtI_perm _).nodup_iff).mpr (dd_nd ns)
  exact (List.pairwise_and_iff.mpr ⟨h1, h2⟩).imp fun ⟨a, b⟩ => by omega
theorem srtS_one {ns out : List Int} (hp : out.Pairwise (· < ·)) (hm : ∀ k, k ∈ out ↔ k ∈ ns) : out = srtS ns := by
  refine srt_one ?_ (hp.imp fun h => Int.le_of_lt h) ((srtS_lt ns).imp fun h => Int.le_of_lt h)
  refine (List.perm_ext_iff_of_nodup (hp.imp fun h => by omega) ((srtS_lt ns).imp fun h => by omega)).mpr fun k => (hm k).trans srtS_mem.symm
theorem sort_set_of (cm : X.calm = true) (lG : Gl X "sorted") (lM : X.mg "sorted" = none) (sG : Gl X "set") (sM : X.mg "set" = none) (he : PE X e ta) (st : starEach [e] X.env = (false, eval e X.env) :: starEach [] X.env := by rfl) :
    PE X (.Call (.Name "sorted" p) [.Call (.Name "set" p2) [e] [] P] [] pp) (fun σ H Q => ta σ H fun x H1 => ∃ (l : Addr) (ns : List Int), x = .ref l ∧ SqL X.K H1 l (ns.map V.int) ∧ ns.length < 64 ∧ ∀ a o q, H1 a = none → upd H1 a o q = none → Q (.ref q) (upd (upd H1 a o) q (.lst ((srtS ns).map V.int)))) := by
  constructor
  intro pins s σ H Q I h
  refine Call_ (ld_blt I lG lM boot_sorted (PyProof.Rows.callWith_builtin1 (PyProof.Rows.args_cons ?_ rfl) rfl rfl))
  refine Call_ (ld_blt I sG sM boot_set (PyProof.Rows.callWith_type1 (PyProof.Rows.args_cons (thn (he.run pins s σ H _ I h) fun v s1 ⟨x, H1, I1, r1, k⟩ => PyProof.Rows.args_nil ?_) st) st rfl))
  obtain ⟨l, ns, rfl, sq, len, k⟩ := k
  cases r1
  obtain ⟨its, r, pl, hz⟩ := I1.list sq
  refine call_set_lstI ns (I1.ok.hd cm) pl.isList (RZ.intsAre_vals (by simpa using r)) (by unfold scanBound; omega) fun hp t c made hc kept => PyProof.Rows.args_nil ?_
  have hn : H1 s1.heap.objs.size = none := I1.hok.fresh (Nat.le_refl _)
  have I2 : Inv X pins σ (upd H1 s1.heap.objs.size (SetO X.w s1.heap.objs.size (fun j => decide (j ∈ ns)) c)) { s1 with heap := hp, toks := t } :=
    I1.laid (t' := t) (a := s1.heap.objs.size) (fun b u e => kept b u e) (Nat.le_refl _) (setO_new made)
  refine cr_sortedSet cm pins _ σ _ [.ref s1.heap.objs.size] _ Q I2 (.cons rfl .nil) ⟨_, _, _, rfl, upd_same, by omega, fun out q h1 h2 h3 h4 => ?_⟩
  have eo : out = srtS ns := srtS_one h1 fun j => (h2 j).trans decide_eq_true_iff
  rw [eo]
  exact k _ _ _ hn h4
def nSortS : OpN := fun xs S => match xs with
  | [x] => match vw S x with
    | some ds => match intsOf ds with
      | some ns => if ns.length < 64 then .ok (.p (.lst ((srtS ns).map D.int))) S else .bad
      | none => .bad
    | none => .bad
  | _ => .bad
theorem de_sortSet (hK : X.K = G.K) (cm : X.calm = true) (lG : Gl X "sorted") (lM : X.mg "sorted" = none) (sG : Gl X "set") (sM : X.mg "set" = none) (he : PE X e (tD G W ef)) (st : starEach [e] X.env = (false, eval e X.env) :: starEach [] X.env := by rfl) :
    PE X (.Call (.Name "sorted" p) [.Call (.Name "set" p2) [e] [] P] [] pp) (tD G W (dCall nSortS (aCons ef aNil))) := by
  refine wkE (sort_set_of cm lG lM sG sM he st) fun σ H Q ⟨ρ, B, φ, S, w, en, h⟩ => ?_
  have h : WP G W σ H B φ ((ef ρ S).bind fun x S1 => nSortS [x] S1) fun d H' B' φ' S' => ∀ v, RepV G B' φ' d v → Q v H' := by
    have e : dCall nSortS (aCons ef aNil) ρ S = (ef ρ S).bind fun x S1 => nSortS [x] S1 := by
      unfold dCall aCons aNil
      cases ef ρ S <;> rfl
    rw [e] at h; exact h
  refine tD.run w en (WP.fst h) fun d v H1 B1 φ1 S1 x1 w1 en1 r1 k => ?_
  unfold nSortS at k
  dsimp only at k
  split at k
  · rename_i ds hv
    split at k
    · rename_i ns hn
      split at k
      · rename_i hl
        obtain ⟨a, xs, rfl, s1, r2⟩ := vw_at w1 r1 hv
        refine ⟨a, ns, rfl, ?_, hl, fun b o q hb hq => ?_⟩
        · rw [hK, ← ints_at' hn r2]
          exact SqL.of s1
        · have w2 := w1.alloc (o := o) hb
          have x2 := Xt.alloc (o := o) w1 hb
          exact k _ _ _ (x2.trans (Xt.alloc w2 hq)) (w2.alloc hq) _ (rep_lst.mpr ⟨q, _, rfl, upd_same, Reps.ints _⟩)
      · exact k.elim
    · exact k.elim
  · exact k.elim
/-! ### a written dict of two numbers -/
theorem de_dki1 {k v : Int} {j1 j2 : Nat} {p1 p2 : Pos} (hl : [some (Expr.Constant (.int k) j1 p1)].length = [Expr.Constant (.int v) j2 p2].length := by rfl) :
    PE X (.Dict [some (.Constant (.int k) j1 p1)] [.Constant (.int v) j2 p2] pos) (tD G W (dC (.dki [(k, v)]))) := by
  refine wkE (pe_disp (pps_cons pe_int pe_int pps_nil) (by rfl) hl (fun z => by cases z) (by show 1 ≤ 15; omega)) fun σ H Q ⟨ρ, B, φ, S, w, en, h⟩ => ?_
  intro a ha
  refine ⟨upd_same, [(Sum.inl k, V.int v)], rfl, by show 1 ≤ 15; omega, ?_⟩
  have em : mergeK [] [((Sum.inl k : Key), V.int v)] = [(Sum.inl k, V.int v)] := rfl
  rw [em]
  have hu : upd (upd H a (.dK [])) a (.dK [(Sum.inl k, V.int v)]) = upd H a (.dK [(Sum.inl k, V.int v)]) := by
    funext b
    unfold upd
    split <;> rfl
  rw [hu]
  have h : ∀ H' B' φ', Xt H B φ H' B' φ' → Wd G H' B' φ' S → ∀ v', RepV G B' φ' (.p (.dki [(k, v)])) v' → Q v' H' := h
  refine h _ _ _ (Xt.alloc w ha) (w.alloc ha) _ ?_
  show Rep G _ (.dki _) _
  unfold Rep
  exact ⟨a, rfl, upd_same⟩
end
end DL

set_option maxHeartbeats 4000000
namespace DL
open PySem L2
open PySem.Spec PyProof.Rows
/-! ### sorted(t), t a tuple of texts -/
theorem cr_sortT {X : Cx} : CallR X (.builtin "sorted") (fun vs H Q => ∃ (a : Addr) (xs : List Str), vs = [.ref a] ∧ SqT X.K H a (xs.map V.str) ∧ xs.length < 64 ∧ ∀ (ys : List Str) (p : Addr), ys.Perm xs → sortedS ys = true → H p = none → Q (.ref p) (upd H p (.lst (ys.map V.str)))) := by
  intro pins s σ H vs us Q I r h
  obtain ⟨a, xs, rfl, hs, h64, q⟩ := h
  obtain ⟨its, rv, p, hz⟩ := I.tuple hs
  rw [Vals.ref1 r]
  have hlen0 := rv.length
  rw [List.length_map] at hlen0
  have hS := rv.strs
  have p : s.heap.IsTuple a its.toArray := p
  obtain ⟨o, ho, hc, n, hd⟩ := p
  refine PySem.Calls.call_function_entry PyProof.Rows.kind_sorted PyProof.Rows.plain_sorted PyProof.Rows.entry_sorted (PyProof.Rows.args_sorted1 _) ?_
  unfold Builtin.«sorted»
  refine wpAny_bind (m := checkCount "sorted" 1 1 _) (wpAny_pure (wpAny_bind (wpAny_collect_seq a (.inr rfl) ho hc hd (fun h' hk => ?_) (by rw [List.size_toArray, sizeLine_eq]; omega))))
  have et : its.toArray.toList = its := by simp
  rw [et]
  have I1 : Inv X pins σ H { s with heap := h' } := I.kept (t' := s.toks) hk
  refine wpAny_bind (wpAny_newList ?_)
  have hoL : (h'.push (seqObj "list" its.toArray 0)).get? h'.objs.size = some (seqObj "list" its.toArray 0) := Heap.get?_push_size _ rfl
  have hn : H h'.objs.size = none := I1.hok.fresh (Nat.le_refl _)
  have hl0 : (xs.map V.str).length ≤ sizeLine := by rw [List.length_map]; exact small64 h64
  have I2 : Inv X pins σ (upd H h'.objs.size (.lst (xs.map V.str))) { s with heap := h'.push (seqObj "list" its.toArray 0) } :=
    I1.laid (t' := s.toks) (a := h'.objs.size) (fun _ _ e => Heap.get?_push_of_some _ e) (Nat.le_refl _) ⟨hl0, its, 0, rv, hoL⟩
  show wpAny _ _ _ _ _ { s with heap := h'.push (seqObj "list" its.toArray 0) }
  refine wpAny_bind (wpAny_holding (wpAny_call_entry PyProof.Rows.slot_list_sort ⟨_, hoL, rfl⟩ PyProof.Rows.entry_list_sort
    (PyProof.Rows.list_sort_treeK PyProof.Rows.strKind_oneLt hoL hS.keysOf (fun v₁ v₂ rest e => PyProof.Rows.keyKind_strs (by rw [← e]; exact hS)) (by rw [← hlen0]; exact h64) fun st' a1 a2 => ⟨_, rfl, ?_⟩) (PyProof.Rows.args_list_sort _)))
  refine wpAny_pure ⟨_, rfl, ?_⟩
  obtain ⟨ys, h1, h2, h3⟩ := PyProof.Rows.sorted_out_str hS a1 a2
  obtain ⟨ep, he'⟩ := PyProof.Rows.sortedHeap_at (vs := its) (out := (arrOf st').map (·.2)) hoL
  have hlen : (ys.map V.str).length ≤ sizeLine := by rw [List.length_map, h2.length_eq]; exact small64 h64
  have e2 : upd (upd H h'.objs.size (.lst (xs.map V.str))) h'.objs.size (.lst (ys.map V.str)) = upd H h'.objs.size (.lst (ys.map V.str)) := by
    funext b
    by_cases hb : b = h'.objs.size
    · subst hb; rw [upd_same, upd_same]
    · rw [upd_ne hb, upd_ne hb, upd_ne hb]
  refine ⟨.ref h'.objs.size, upd H h'.objs.size (.lst (ys.map V.str)), ?_, rfl, q ys _ h2 h3 hn⟩
  rw [← e2]
  exact I2.write (e := h'.objs.size) (t' := s.toks) (by rw [upd_same]; trivial) (.inl rfl) (fun b u hb hu => by rw [PyProof.Rows.sortedHeap_old hb (Heap.lt_size hu)]; exact hu) ⟨_, he'⟩ ⟨hlen, ((arrOf st').map (·.2)).toList, ep, vals_of_strs h1, he'⟩
/-! ### the names of points, sorted -/
def strsOf : List D → Option (List Str)
  | [] => some []
  | .str x :: r => (strsOf r).map (x :: ·)
  | _ :: _ => none
theorem strs_at {G : Gx} {B : Hp} : ∀ {ds : List D} {ys : List Str} {vs : List V}, strsOf ds = some ys → Reps G B ds vs → vs = ys.map V.str
  | [], ys, vs, h, r => by
    cases h
    unfold Reps at r; exact r
  | d :: ds, ys, vs, h, r => by
    unfold Reps at r
    obtain ⟨x, t, rfl, r1, r2⟩ := r
    cases d with
    | str z =>
      unfold strsOf at h
      cases e : strsOf ds with
      | none => rw [e] at h; cases h
      | some zs =>
        rw [e] at h
        cases h
        unfold Rep at r1
        rw [r1, strs_at e r2]; rfl
    | _ => cases h
def ptsU : List Str := ["start", "rows", "ways", "out", "kind"]
def ptsS : List Str := ["kind", "out", "rows", "start", "ways"]
theorem pts_cases : (ptsU.all fun a => ptsU.all fun b => ptsU.all fun c => ptsU.all fun d => ptsU.all fun e => !(sortedS [a, b, c, d, e]) || !(decide [a, b, c, d, e].Nodup) || ([a, b, c, d, e] == ptsS)) = true := by decide +kernel
theorem pts_nd : ptsU.Nodup := by decide
theorem pts_one {ys : List Str} (p : ys.Perm ptsU) (h : sortedS ys = true) : ys = ptsS := by
  have hl : ys.length = 5 := p.length_eq
  have hn : ys.Nodup := p.nodup_iff.mpr pts_nd
  match ys, hl with
  | [a, b, c, d, e], _ =>
    have m : ∀ z ∈ [a, b, c, d, e], z ∈ ptsU := fun z hz => p.mem_iff.mp hz
    have q := pts_cases
    have q := List.all_eq_true.mp q a (m a (by simp))
    have q := List.all_eq_true.mp q b (m b (by simp))
    have q := List.all_eq_true.mp q c (m c (by simp))
    have q := List.all_eq_true.mp q d (m d (by simp))
    have q := List.all_eq_true.mp q e (m e (by simp))
    rw [h, decide_eq_true hn] at q
    exact eq_of_beq (by simpa using q)
section
variable {X : Cx} {G : Gx} {W : WX} {e o : Expr} {es : List Expr} {ef eg : Ef} {af kf : Af} {p p2 pos P pp : Pos} {H B : Hp} {φ : List Addr} {S : Sto} {σ : L2.St} {ρ : Nv} {ta : TE} {k n : Nat} {f : Addr} {fd : FuncData} {ps : List Str} {x : Str}
/-- sorted(POINTS) -/
def nSortP : OpN := fun xs S => match xs with
  | [.p (.tup ds)] => if strsOf ds = some ptsU then .ok (.p (.lst (ptsS.map D.str))) S else .bad
  | _ => .bad
theorem Reps.strs {G : Gx} {B : Hp} : ∀ ys : List Str, Reps G B (ys.map D.str) (ys.map V.str)
  | [] => Reps.nil
  | y :: ys => Reps.cons (by unfold Rep; rfl) (Reps.strs ys)
theorem nSortP_ok : OkN G W (fun vs H Q => ∃ (a : Addr) (xs : List Str), vs = [.ref a] ∧ SqT G.K H a (xs.map V.str) ∧ xs.length < 64 ∧ ∀ (ys : List Str) (p : Addr), ys.Perm xs → sortedS ys = true → H p = none → Q (.ref p) (upd H p (.lst (ys.map V.str)))) nSortP := by
  intro H B φ S σ xs vs Q w r h
  unfold nSortP at h
  split at h
  · split at h
    · rename_i ds hd
      obtain ⟨v, rfl, rv⟩ := rvs1 r
      obtain ⟨a, ys, rfl, s1, q1⟩ := rep_tup.mp rv
      refine ⟨a, ptsU, rfl, by rw [← strs_at hd q1]; exact sqT_mono w.sub s1, by decide, fun zs l hp hw hl => ?_⟩
      rw [pts_one hp hw]
      exact h _ _ _ (Xt.alloc w hl) (w.alloc hl) _ (rep_lst.mpr ⟨l, _, rfl, upd_same, Reps.strs _⟩)
    · exact h.elim
  · exact h.elim
/-! ### t.index(x), t a tuple of texts -/
def idS (z : Str) : List Str → Option Nat
  | [] => none
  | y :: r => if y = z then some 0 else (idS z r).map (· + 1)
theorem idS_at {z : Str} : ∀ {ys : List Str} {j : Nat}, idS z ys = some j → ys[j]? = some z ∧ ∀ m, m < j → ys[m]? ≠ some z
  | [], j, h => by cases h
  | y :: r, j, h => by
    unfold idS at h
    split at h
    · rename_i e
      cases h
      exact ⟨by rw [e]; rfl, fun m hm => by omega⟩
    · rename_i e
      cases q : idS z r with
      | none => rw [q] at h; cases h
      | some i =>
        rw [q] at h
        cases h
        obtain ⟨h1, h2⟩ := idS_at q
        refine ⟨h1, fun m hm => ?_⟩
        cases m with
        | zero => exact fun w => e (by simpa using w)
        | succ m =>
        have hm : m + 1 < i + 1 := hm
        exact h2 m (by omega)
def dIndexC (ys : List Str) (fe : Ef) : Ef := fun ρ S => (fe ρ S).bind fun d S1 => match d with
  | .p (.str z) => match idS z ys with
    | some j => .ok (.p (.int (j : Nat))) S1
    | none => .bad
  | _ => .bad
theorem de_indexC {c : Str} {cp apos : Pos} {a : Addr} {ys : List Str} (hK : X.K = G.K) (hg : Gl X c) (hm : X.mg c = some (.ref a)) (hT : ∃ ob, G.K.lookup a = some ob ∧ ob.cls = .type "tuple" ∧ ob.dict = none) (hq : SqT G.K (fun _ => none) a (ys.map V.str)) (he : PE X e (tD G W eg)) (hd : (c == ("__debug__" : Str)) = false := by decide)
    (hbase : attributeBase (.Name c cp) "index" X.env (eval (.Name c cp) X.env) = eval (.Name c cp) X.env := by rfl)
    (hfew : ((backTo pos (starEach [e] X.env)).all (fun x => !x.1) && (backToKw pos (keywordEach [] X.env)).all (fun x => x.1.isSome) && decide ([e].length + ([] : List Keyword).length + (if ([] : List Keyword).isEmpty then 0 else 1) < 30)) = true := by rfl)
    (hline : (apos.endLine == pos.line) = true := by rfl) (hs : starEach [e] X.env = (false, eval e X.env) :: starEach [] X.env := by rfl) (hpl : (backTo pos (starEach [] X.env)).any (·.1) = false := by rfl) :
    PE X (.Call (.Attribute (.Name c cp) "index" apos) [e] [] pos) (tD G W (dIndexC ys eg)) := by
  refine wkE (pe_bm PySem.F.plainAttrs_tuple PySem.F.slot_tuple_index PySem.F.type_tuple_index L2.mt_tup_index (pe_glob hg hm (v := .ref a) rfl hd) (pa_cons he pa_nil hs) hbase hfew hline hs hpl) fun σ H Q ⟨ρ, B, φ, S, w, en, h⟩ => ?_
  refine ⟨.inr (.inl ⟨rfl, hK ▸ hT⟩), ?_⟩
  show tD G W eg σ H _
  refine tD.run w en (WP.fst h) fun d v2 H2 B2 φ2 S2 x2 w2 en2 r2 k2 => ?_
  split at k2
  · rename_i z
    split at k2
    · rename_i j hj
      obtain ⟨h1, h2⟩ := idS_at hj
      refine ⟨a, ys, z, j, rfl, by rw [rep_str.mp r2], ?_, h1, h2, k2 H2 B2 φ2 Xt.refl w2 _ (rep_int.mpr rfl)⟩
      rw [hK]
      exact sqT_mono (fun _ _ z => by cases z) hq
    · exact k2.elim
  · exact k2.elim
/-! ### xs.extend(ys), ys a new list -/
def dExt (fo fe : Ef) : Ef := fun ρ S => (fo ρ S).bind fun o S1 => match o with
  | .hnd n => match S1[n]? with
    | some (.lst _) => (fe ρ S1).bind fun d S2 => match d, S2[n]? with
      | .p (.lst es), some (.lst ds) => if ds.length + es.length < big then .ok (.p .non) (S2.set n (.lst (ds ++ es))) else .bad
      | _, _ => .bad
    | _ => .bad
  | _ => .bad
theorem de_ext {apos : Pos} (ho : PE X o (tD G W ef)) (he : PE X e (tD G W eg))
    (hbase : attributeBase o "extend" X.env (eval o X.env) = eval o X.env := by rfl)
    (hfew : ((backTo pos (starEach [e] X.env)).all (fun x => !x.1) && (backToKw pos (keywordEach [] X.env)).all (fun x => x.1.isSome) && decide ([e].length + ([] : List Keyword).length + (if ([] : List Keyword).isEmpty then 0 else 1) < 30)) = true := by rfl)
    (hline : (apos.endLine == pos.line) = true := by rfl) (hs : starEach [e] X.env = (false, eval e X.env) :: starEach [] X.env := by rfl) (hpl : (backTo pos (starEach [] X.env)).any (·.1) = false := by rfl) :
    PE X (.Call (.Attribute o "extend" apos) [e] [] pos) (tD G W (dExt ef eg)) := by
  refine wkE (pe_bm PySem.F.plainAttrs_list PySem.F.slot_list_extend PySem.F.type_list_extend mt_extend ho (pa_cons he pa_nil hs) hbase hfew hline hs hpl) fun σ H Q ⟨ρ, B, φ, S, w, en, h⟩ => tD.run w en (WP.fst h) fun o v H1 B1 φ1 S1 x1 w1 en1 r1 q1 => ?_
  split at q1
  · rename_i n
    split at q1
    · rename_i ds0 hs0
      have r1 : ∃ a, φ1[n]? = some a ∧ v = .ref a := r1
      obtain ⟨a, hφ, rfl⟩ := r1
      have c0 : CellR G H1 B1 φ1 a (.lst ds0) := w1.cell n a _ hφ hs0
      obtain ⟨_, xs0, hx0, _⟩ := c0
      refine ⟨.inl ⟨rfl, xs0, SqL.of hx0⟩, ?_⟩
      show tD G W eg σ H1 _
      refine tD.run w1 en1 (WP.fst q1) fun d v2 H2 B2 φ2 S2 x2 w2 en2 r2 q2 => ?_
      split at q2
      · rename_i es ds hs
        split at q2
        · rename_i hl
          have hφ2 : φ2[n]? = some a := by
            obtain ⟨t, rfl⟩ := x2.p
            rw [List.getElem?_append_left (List.getElem?_eq_some_iff.mp hφ).1]; exact hφ
          have c2 : CellR G H2 B2 φ2 a (.lst ds) := w2.cell n a _ hφ2 hs
          obtain ⟨hb, xs, hx, rr⟩ := c2
          obtain ⟨b, zs, rfl, hz, rz⟩ := rep_lst.mp r2
          refine ⟨a, b, xs, zs, rfl, rfl, hx, w2.sub _ _ hz, by rw [← rr.length, ← rz.length]; have := big_eq; omega, ?_⟩
          exact q2 _ B2 φ2 (Xt.set hφ2) (w2.set hφ2 hs (fun z => nomatch z) hb ⟨hb, _, upd_same, rr.append rz⟩ rfl) _ (rep_non.mpr rfl)
        · exact q2.elim
      · exact q2.elim
    · exact q1.elim
  · exact q1.elim
/-! ### a keyword-only argument with a default: f(a, b) and f(a, b, limit = c) -/
theorem funD_of {K : PySem.W.Frag} {qual nm : Str} {st : Stmt} {oc doc pm cd ct : Value} {od an : Option Addr} {osl : Array (Option Value)} {Dk : Addr} {v : Int} {tk : Tok} (l : K.lookup f = some ⟨oc, od, .func (PySem.W.fnOf x qual (defArgs st) (defBody st) (defScope st) .none (.ref Dk) doc pm an cd ct), osl⟩)
    (c : PySem.W.codeIn K cd qual = true) (k : PySem.W.keepIn K (.ref f) = true) (hn : PySem.W.nsIn K Dk nm = some (some (.int v tk))) :
    FunD K x qual (defArgs st) (defBody st) (defScope st) [] [(nm, V.int v)] f (PySem.W.fnOf x qual (defArgs st) (defBody st) (defScope st) .none (.ref Dk) doc pm an cd ct) :=
  ⟨⟨oc, od, .none, .ref Dk, doc, pm, an, cd, ct, osl, rfl, l, c, .inl ⟨rfl, rfl⟩, .inr ⟨Dk, rfl, fun q hq => by rw [List.mem_singleton.mp hq]; exact ⟨_, hn, _, rfl⟩⟩⟩, k⟩
def aEnd (af : Af) (dds : List D) : Af := fun ρ S => (af ρ S).bind fun xs S1 => .ok (xs ++ dds.map Dv.p) S1
theorem RepVs.app {φ : List Addr} : ∀ {xs ys : List Dv} {vs us : List V}, RepVs G B φ xs vs → RepVs G B φ ys us → RepVs G B φ (xs ++ ys) (vs ++ us)
  | [], ys, vs, us, r, r2 => by
    cases (show vs = [] from r)
    exact r2
  | d :: xs, ys, vs, us, r, r2 => by
    obtain ⟨v, t, rfl, h, k⟩ := r
    exact ⟨v, t ++ us, rfl, h, RepVs.app k r2⟩
theorem de_callD {m : List D → PO} {dds : List D} {dvs : List V} {j : Nat} (tk : Takes X W) (F : FnOk X.prog X.w X.K X.mg X.base (L2.CX X.prog X.w) k f fd ps (spP G n m)) (hr : Room k X.A) (hg : Gl X x) (hm : X.mg x = some (.ref f)) (hk : PySem.W.keepIn X.K (.ref f) = true) (hb : ∃ dsv, Vals dvs dsv ∧ Binds X.K fd ps dsv) (hv : ∀ B, Reps G B dds dvs)
    (hj : j + dds.length = n) (hn : ∀ ρ S xs S', af ρ S = .ok xs S' → xs.length = j)
    (ha : PA X (e :: es) (tA G W af)) (hdb : (x == ("__debug__" : Str)) = false := by decide) (he : starEach (e :: es) X.env = (false, eval e X.env) :: starEach es X.env := by rfl) (hpl : (backTo pos (starEach es X.env)).any (·.1) = false := by rfl) :
    PE X (.Call (.Name x p) (e :: es) [] pos) (tD G W (dCallP m (aEnd af dds))) := by
  obtain ⟨dsv, hvd, hb⟩ := hb
  refine wkE (pe_callSD F hr hg hm hk hb hvd (fun σ => passAt tk σ) ha hdb he hpl) fun σ H Q ⟨ρ, B, φ, S, w, en, q⟩ => ?_
  cases qa : af ρ S with
  | bad => unfold dCallP aEnd at q; rw [qa] at q; exact q.elim
  | exc x0 S0 => unfold dCallP aEnd at q; rw [qa] at q; exact ⟨ρ, B, φ, S, w, en, by rw [qa]; exact q⟩
  | ok xs0 S0 =>
    have l0 := hn ρ S xs0 S0 qa
    refine ⟨ρ, B, φ, S, w, en, ?_⟩
    unfold dCallP aEnd at q
    rw [qa] at q ⊢
    intro H1 B1 φ1 x1 w1 vs r1
    have q1 := WP.rebase x1 q
    have q1 : WP G W σ H1 B1 φ1 (match allP (xs0 ++ dds.map Dv.p) with
      | some ds => match m ds with
        | .ok d => .ok (.p d) S0
        | .exc x => .exc x S0
        | .bad => .bad
      | none => .bad : Out Dv) (fun d H' B' φ' _ => ∀ v, RepV G B' φ' d v → Q v H') := q1
    have r2 : RepVs G B1 φ1 (xs0 ++ dds.map Dv.p) (vs ++ dvs) := r1.app (reps_vs (hv B1))
    cases qp : allP (xs0 ++ dds.map Dv.p) with
    | none => rw [qp] at q1; exact q1.elim
    | some ds =>
      rw [qp] at q1
      have l1 : ds.length = n := by rw [(allP_rep qp r2).length, ← r2.length, List.length_append, List.length_map, l0, hj]
      exact spP_of l1 w1 r2 qp q1
def tCallNS (n m : Nat) (sp : Sp) (gV : List V → List V → List V) (E : L2.St → XK) (t tk : TA) : TE := fun σ H Q => t σ H fun vs H1 => tk σ H1 fun zs H2 => vs.length = n ∧ zs.length = m ∧ sp (gV vs zs) H2 Q (E σ)
theorem pe_callNS {CX : CXT} {sp : Sp} {ks : List Str} {kws : List Keyword} {t tk : TA} {E : L2.St → XK} {g : List Value → List Value → List Value} {gV : List V → List V → List V} (F : FnOk X.prog X.w X.K X.mg X.base CX k f fd ps sp) (hr : Room k X.A) (hg : Gl X x) (hm : X.mg x = some (.ref f)) (hk : PySem.W.keepIn X.K (.ref f) = true) (hb : KBn X.K fd ps n ks g gV) (hx : ∀ σ, PassesAt CX X σ (E σ))
    (ha : PA X (e :: es) t) (hkw : PK X kws tk) (hall : (backToKw pos (keywordEach kws X.env)).all (·.1.isSome) = true := by rfl) (hks : (backToKw pos (keywordEach kws X.env)).filterMap (·.1) = ks := by rfl)
    (hdb : (x == ("__debug__" : Str)) = false := by decide) (he : starEach (e :: es) X.env = (false, eval e X.env) :: starEach es X.env := by rfl)
    (hpl : ((backTo pos (starEach (e :: es) X.env)).any (·.1) || (backToKw pos (keywordEach kws X.env)).any (·.1.isNone)) = false := by rfl) :
    PE X (.Call (.Name x p) (e :: es) kws pos) (tCallNS n ks.length sp gV E t tk) := by
  refine ⟨fun pins s σ H Q I h => ?_⟩
  refine wpAny_Call_Name_kw (ld_glob I hg hm ?_ hdb)
  refine PySem.W.callWith_KW (h₀ := X.base) I.ok.mod.kin hk hall (thn (ha.run pos pins s σ H _ I h) fun us s1 ⟨vs, H1, I1, r, q⟩ => ?_) hpl he
  refine thn (hkw.run pos pins s1 σ H1 _ I1 q) fun ws s2 ⟨zs, H2, I2, rz, l1, l2, q2⟩ => ⟨I2.kIn, ?_⟩
  rw [hks]
  have r2 := hb.rel r rz
  refine wpAny_call (codeAny_mono (F.run X.A X.stack s2 H2 ⟨us, ks.zip ws⟩ (g us ws) (gV vs zs) Q (E σ) hr I2.env0 (hb.to s2 us ws I2.kIn (r.length.symm.trans l1) (rz.length.symm.trans l2)) r2 q2) fun r s' hq => ?_)
  cases r with
  | error e => exact hx σ pins H2 s2 e s' I2 hq
  | ok fl =>
    cases fl with
    | ret u => exact I2.after hq
    | next => exact False.elim hq
    | brk => exact False.elim hq
    | cont => exact False.elim hq
def aKw (af : Af) (kf : Ef) : Af := fun ρ S => (af ρ S).bind fun xs S1 => (kf ρ S1).bind fun y S2 => .ok (xs ++ [y]) S2
theorem de_callK {m : List D → PO} {nm : Str} {ke : Expr} {kpos : Pos} {kf : Ef} {j : Nat} {g : List Value → List Value → List Value} (tk : Takes X W) (F : FnOk X.prog X.w X.K X.mg X.base (L2.CX X.prog X.w) k f fd ps (spP G n m)) (hr : Room k X.A) (hg : Gl X x) (hm : X.mg x = some (.ref f)) (hk : PySem.W.keepIn X.K (.ref f) = true) (hb : KBn X.K fd ps j [nm] g fun vs zs => vs ++ zs)
    (hj : j + 1 = n) (hn : ∀ ρ S xs S', af ρ S = .ok xs S' → xs.length = j)
    (ha : PA X (e :: es) (tA G W af)) (hke : PE X ke (tD G W kf)) (hall : (backToKw pos (keywordEach [⟨some nm, ke, kpos⟩] X.env)).all (·.1.isSome) = true := by rfl) (hks : (backToKw pos (keywordEach [⟨some nm, ke, kpos⟩] X.env)).filterMap (·.1) = [nm] := by rfl)
    (hdb : (x == ("__debug__" : Str)) = false := by decide) (he : starEach (e :: es) X.env = (false, eval e X.env) :: starEach es X.env := by rfl)
    (hpl : ((backTo pos (starEach (e :: es) X.env)).any (·.1) || (backToKw pos (keywordEach [⟨some nm, ke, kpos⟩] X.env)).any (·.1.isNone)) = false := by rfl) :
    PE X (.Call (.Name x p) (e :: es) [⟨some nm, ke, kpos⟩] pos) (tD G W (dCallP m (aKw af kf))) := by
  refine wkE (pe_callNS F hr hg hm hk hb (fun σ => passAt tk σ) ha (pk_cons hke pk_nil) hall hks hdb he hpl) fun σ H Q ⟨ρ, B, φ, S, w, en, q⟩ => ?_
  have q : WP G W σ H B φ ((af ρ S).bind fun xs S1 => (kf ρ S1).bind fun y S2 => match allP (xs ++ [y]) with
      | some ds => match m ds with
        | .ok d => .ok (.p d) S2
        | .exc x => .exc x S2
        | .bad => .bad
      | none => .bad : Out Dv) (fun d H' B' φ' _ => ∀ v, RepV G B' φ' d v → Q v H') := by
    have e : dCallP m (aKw af kf) ρ S = ((af ρ S).bind fun xs S1 => (kf ρ S1).bind fun y S2 => match allP (xs ++ [y]) with
      | some ds => match m ds with
        | .ok d => .ok (.p d) S2
        | .exc x => .exc x S2
        | .bad => .bad
      | none => .bad : Out Dv) := by
      unfold dCallP aKw
      cases af ρ S with
      | bad => rfl
      | exc _ _ => rfl
      | ok xs S1 =>
        show ((kf ρ S1).bind fun y S2 => Out.ok (xs ++ [y]) S2).bind _ = (kf ρ S1).bind _
        cases kf ρ S1 <;> rfl
    rw [← e]; exact q
  show tA G W af σ H _
  have hA : af ρ S = .bad ∨ (∃ x0 S0, af ρ S = .exc x0 S0) ∨ ∃ xs0 S0, af ρ S = .ok xs0 S0 := by
    cases af ρ S with
    | bad => exact .inl rfl
    | exc x0 S0 => exact .inr (.inl ⟨_, _, rfl⟩)
    | ok xs0 S0 => exact .inr (.inr ⟨_, _, rfl⟩)
  rcases hA with qa | ⟨x0, S0, qa⟩ | ⟨xs0, S0, qa⟩
  · rw [qa] at q; exact q.elim
  · rw [qa] at q; exact ⟨ρ, B, φ, S, w, en, by rw [qa]; exact q⟩
  · have l0 := hn ρ S xs0 S0 qa
    refine ⟨ρ, B, φ, S, w, en, ?_⟩
    rw [qa] at q ⊢
    intro H1 B1 φ1 x1 w1 vs r1
    have q1 : WP G W σ H1 B1 φ1 ((kf ρ S0).bind fun y S2 => match allP (xs0 ++ [y]) with
      | some ds => match m ds with
        | .ok d => .ok (.p d) S2
        | .exc x => .exc x S2
        | .bad => .bad
      | none => .bad : Out Dv) (fun d H' B' φ' _ => ∀ v, RepV G B' φ' d v → Q v H') := WP.rebase x1 q
    show tD G W kf σ H1 _
    refine tD.run w1 (en.mono x1.b x1.p) (WP.fst q1) fun y v H2 B2 φ2 S2 x2 w2 en2 r2 k2 => ?_
    refine ⟨by rw [← r1.length, l0], rfl, ?_⟩
    have r3 : RepVs G B2 φ2 (xs0 ++ [y]) (vs ++ [v]) := (RepVs.mono x2.b x2.p _ r1).append ⟨v, [], rfl, r2, rfl⟩
    cases qp : allP (xs0 ++ [y]) with
    | none => rw [qp] at k2; exact k2.elim
    | some ds =>
      rw [qp] at k2
      have l1 : ds.length = n := by rw [(allP_rep qp r3).length, ← r3.length, List.length_append, l0, ← hj]; rfl
      exact spP_of l1 w2 r3 qp k2
theorem ok_bad {Pr : Program} {w : World} {K : PySem.W.Frag} {mg : Str → Option Value} {base : Heap} {CX : CXT} : FnOk Pr w K mg base CX k f fd ps (spP G n fun _ => .bad) :=
  ⟨fun vs H Q E ⟨_, _, _, _, _, h⟩ => h.elim, fun A outer s H args us vs Q E _ _ _ _ ⟨_, _, _, _, _, h⟩ => h.elim⟩
end
end DL

set_option maxHeartbeats 4000000
namespace DL
open PySem L2
open PySem.Spec PyProof.Rows
section
variable {X : Cx} {G : Gx} {W : WX} {e : Expr} {ef : Ef} {p p2 pos P pp : Pos} {H B : Hp} {φ : List Addr} {S : Sto} {σ : L2.St} {ρ : Nv} {ta : TE}
theorem room65 {k : Nat} {A : Around} (r : L2.Room k A) : A.units + 65 < cLine := by have := r.un; omega
/-! ### in, not in: deep items -/
def oInD (neg : Bool) : Op2 := fun x y S => match vPy S x, vPy S y with
  | some d, some (.list ds) => if SeqAt.shaped d = true ∧ SeqAt.shaped (.list ds) = true then .ok (.p (.bl (if neg then !ds.any fun z => PyData.eqv z d else ds.any fun z => PyData.eqv z d))) S else .bad
  | _, _ => .bad
theorem oInD_ok : Ok2 G W (rInD G.K) (oInD false) := by
  intro H B φ S σ x y v u Q w r1 r2 h
  unfold oInD at h
  split at h
  · rename_i d ds ha hb
    split at h
    · rename_i hs
      exact ⟨d, ds, vPy_dp w r1 ha, vPy_dp w r2 hb, hs.1, hs.2, h H B φ Xt.refl w _ (rep_bl.mpr rfl)⟩
    · exact h.elim
  · exact h.elim
theorem oNotInD_ok : Ok2 G W (rNotInD G.K) (oInD true) := by
  intro H B φ S σ x y v u Q w r1 r2 h
  unfold oInD at h
  split at h
  · rename_i d ds ha hb
    split at h
    · rename_i hs
      exact ⟨d, ds, vPy_dp w r1 ha, vPy_dp w r2 hb, hs.1, hs.2, h H B φ Xt.refl w _ (rep_bl.mpr rfl)⟩
    · exact h.elim
  · exact h.elim
/-! ### len(set(xs)), xs tuples of numbers -/
def ddT : List (List Int) → List (List Int)
  | [] => []
  | x :: r => if x ∈ ddT r then ddT r else x :: ddT r
theorem ddT_mem {k : List Int} : ∀ {ns : List (List Int)}, k ∈ ddT ns ↔ k ∈ ns
  | [] => Iff.rfl
  | x :: r => by
    unfold ddT
    split
    · rename_i h
      rw [ddT_mem (ns := r), List.mem_cons]
      exact ⟨.inr, fun q => q.elim (fun e => by rw [e]; exact ddT_mem.mp h) id⟩
    · rw [List.mem_cons, List.mem_cons, ddT_mem (ns := r)]
theorem ddT_nd : ∀ ns : List (List Int), (ddT ns).Nodup
  | [] => List.nodup_nil
  | x :: r => by
    unfold ddT
    split
    · exact ddT_nd r
    · rename_i h
      exact List.nodup_cons.mpr ⟨h, ddT_nd r⟩
theorem ddT_id : ∀ {ns : List (List Int)}, ns.Nodup → ddT ns = ns
  | [], _ => rfl
  | x :: r, h => by
    obtain ⟨h1, h2⟩ := List.nodup_cons.mp h
    unfold ddT
    rw [ddT_id h2, if_neg h1]
theorem ddT_len {l ns : List (List Int)} (h : l.Nodup) (hm : ∀ k, k ∈ l ↔ k ∈ ns) : l.length = (ddT ns).length :=
  ((List.perm_ext_iff_of_nodup h (ddT_nd ns)).mpr fun k => (hm k).trans ddT_mem.symm).length_eq
def tupsOf : List D → Option (List (List Int))
  | [] => some []
  | .tup ds :: r => match intsOf ds, tupsOf r with
    | some ns, some nss => some (ns :: nss)
    | _, _ => none
  | _ :: _ => none
theorem tups_at : ∀ {ds : List D} {nss : List (List Int)} {vs : List V}, tupsOf ds = some nss → Reps G B ds vs → ∃ ks : List (Addr × List Int), ks.map (·.2) = nss ∧ vs = ks.map (fun p => V.ref p.1) ∧ ∀ p ∈ ks, SqT G.K B p.1 (p.2.map V.int)
  | [], nss, vs, h, r => by
    cases h
    unfold Reps at r
    exact ⟨[], rfl, r, fun p hp => by cases hp⟩
  | d :: ds, nss, vs, h, r => by
    unfold Reps at r
    obtain ⟨x, t, rfl, r1, r2⟩ := r
    cases d with
    | tup es =>
      unfold tupsOf at h
      split at h
      · rename_i ns nss' h1 h2
        cases h
        obtain ⟨ks, e1, e2, e3⟩ := tups_at h2 r2
        unfold Rep at r1
        obtain ⟨a, xs, rfl, s1, q1⟩ := r1
        refine ⟨(a, ns) :: ks, by rw [List.map_cons, e1], by rw [List.map_cons, e2], fun p hp => ?_⟩
        rcases List.mem_cons.mp hp with rfl | hp
        · show SqT G.K B a (ns.map V.int)
          rw [← ints_at' h1 q1]; exact s1
        · exact e3 p hp
      · cases h
    | _ => cases h
theorem len_setT_of (cm : X.calm = true) (hu : X.A.units + 3 < cLine) (lG : Gl X "len") (lM : X.mg "len" = none) (sG : Gl X "set") (sM : X.mg "set" = none) (he : PE X e ta) (st : starEach [e] X.env = (false, eval e X.env) :: starEach [] X.env := by rfl) :
    PE X (.Call (.Name "len" p) [.Call (.Name "set" p2) [e] [] P] [] pp) (fun σ H Q => ta σ H fun x H1 => ∃ (l : Addr) (ks : List (Addr × List Int)), x = .ref l ∧ SqL X.K H1 l (ks.map fun p => V.ref p.1) ∧ (∀ p ∈ ks, SqT X.K H1 p.1 (p.2.map V.int)) ∧ ks.length < 64 ∧ Q (.int ((ddT (ks.map (·.2))).length : Nat)) H1) := by
  constructor
  intro pins s σ H Q I h
  refine Call_ (ld_blt I lG lM boot_len (PyProof.Rows.callWith_builtin1 (PyProof.Rows.args_cons ?_ rfl) rfl rfl))
  refine Call_ (ld_blt I sG sM boot_set (PyProof.Rows.callWith_type1 (PyProof.Rows.args_cons (thn (he.run pins s σ H _ I h) fun v s1 ⟨x, H1, I1, r1, k⟩ => PyProof.Rows.args_nil ?_) st) st rfl))
  obtain ⟨l, ks, rfl, sq, hk, len, k⟩ := k
  cases r1
  obtain ⟨its, r, pl, hz⟩ := I1.list sq
  refine call_set_tups (P := X.prog) (w := X.w) ks (I1.ok.hd cm) pl.isList (by simpa using refs_of_vals r) (fun p hp => I1.isT (hk p hp)) len hu fun h' t L es ep tb R g kept => PyProof.Rows.args_nil ?_
  have I2 : Inv X pins σ H1 { s1 with heap := h', toks := t } := I1.kept fun b o e => kept b o e
  have eL : L.length = (ddT (ks.map (·.2))).length := by
    rw [← List.length_map (f := fun p : Addr × List Int => p.2)]
    refine ddT_len R.nd fun k => ?_
    constructor
    · intro hk
      obtain ⟨p, hp, e⟩ := List.mem_map.mp hk
      exact List.mem_map.mpr ⟨p, List.mem_of_mem_take (g.sub p hp), e⟩
    · intro hk
      obtain ⟨p, hp, e⟩ := List.mem_map.mp hk
      rw [← e]
      exact g.all p (by rw [List.take_length]; exact hp)
  have R' : SetTR X.prog X.w ({ s1 with heap := h', toks := t } : Shared).heap s1.heap.objs.size L es ep tb := R
  obtain ⟨o, ho, hex, hd⟩ := R'.ob
  have hsz := R'.size
  have hfew := R'.few
  refine call_len_set ho hex hd R'.fits (by omega) ⟨.int ((ddT (ks.map (·.2))).length : Nat), H1, I2.tok _, ⟨_, by rw [hsz, eL]⟩, k⟩
def nLenSetT : OpN := fun xs S => match xs with
  | [x] => match vw S x with
    | some ds => match tupsOf ds with
      | some nss => if nss.length < 64 then .ok (.p (.int (ddT nss).length)) S else .bad
      | none => .bad
    | none => .bad
  | _ => .bad
theorem de_lenSetT (hK : X.K = G.K) (cm : X.calm = true) (hu : X.A.units + 3 < cLine) (lG : Gl X "len") (lM : X.mg "len" = none) (sG : Gl X "set") (sM : X.mg "set" = none) (he : PE X e (tD G W ef)) (st : starEach [e] X.env = (false, eval e X.env) :: starEach [] X.env := by rfl) :
    PE X (.Call (.Name "len" p) [.Call (.Name "set" p2) [e] [] P] [] pp) (tD G W (dCall nLenSetT (aCons ef aNil))) := by
  refine wkE (len_setT_of cm hu lG lM sG sM he st) fun σ H Q ⟨ρ, B, φ, S, w, en, h⟩ => ?_
  have h : WP G W σ H B φ ((ef ρ S).bind fun x S1 => nLenSetT [x] S1) fun d H' B' φ' S' => ∀ v, RepV G B' φ' d v → Q v H' := by
    have e : dCall nLenSetT (aCons ef aNil) ρ S = (ef ρ S).bind fun x S1 => nLenSetT [x] S1 := by
      unfold dCall aCons aNil
      cases ef ρ S <;> rfl
    rw [e] at h; exact h
  refine tD.run w en (WP.fst h) fun d v H1 B1 φ1 S1 x1 w1 en1 r1 k => ?_
  unfold nLenSetT at k
  dsimp only at k
  split at k
  · rename_i ds hv
    split at k
    · rename_i nss hn
      split at k
      · rename_i hl
        obtain ⟨a, xs, rfl, s1, r2⟩ := vw_at w1 r1 hv
        obtain ⟨ks, e1, e2, e3⟩ := tups_at hn r2
        subst e1
        rw [List.length_map] at hl
        refine ⟨a, ks, rfl, by rw [← e2]; exact SqL.of s1, fun p hp => by rw [hK]; exact sqT_mono w1.sub (e3 p hp), hl, k H1 B1 φ1 Xt.refl w1 _ (rep_int.mpr rfl)⟩
      · exact k.elim
    · exact k.elim
  · exact k.elim
end
end DL

set_option maxHeartbeats 4000000
namespace DL
open PySem L2
open PySem.Spec PyProof.Rows
/-! ### own objects with a dict: fields by name -/
def putD (f : Str) (d : Dv) : List (Str × Dv) → List (Str × Dv)
  | [] => [(f, d)]
  | (g, x) :: r => if g = f then (g, d) :: r else (g, x) :: putD f d r
def FldR (G : Gx) (B : Hp) (φ : List Addr) (fs : List (Str × Dv)) (vs : List (Str × V)) : Prop := vs.map (·.1) = fs.map (·.1) ∧ RepVs G B φ (fs.map (·.2)) (vs.map (·.2))
section
variable {G : Gx} {B H : Hp} {φ : List Addr}
theorem FldR.nil : FldR G B φ [] [] := ⟨rfl, rfl⟩
theorem FldR.cons_inv {g : Str} {x : Dv} {fs : List (Str × Dv)} {vs : List (Str × V)} (h : FldR G B φ ((g, x) :: fs) vs) : ∃ v r, vs = (g, v) :: r ∧ RepV G B φ x v ∧ FldR G B φ fs r := by
  obtain ⟨h1, h2⟩ := h
  cases vs with
  | nil => simp at h1
  | cons p r =>
    obtain ⟨k, v⟩ := p
    simp only [List.map_cons, List.cons.injEq] at h1
    obtain ⟨e, h1⟩ := h1
    subst e
    obtain ⟨v', t, e, r1, r2⟩ := h2
    have e : v :: r.map (·.2) = v' :: t := e
    cases e
    exact ⟨v, r, rfl, r1, h1, r2⟩
theorem FldR.cons {g : Str} {x : Dv} {v : V} {fs : List (Str × Dv)} {vs : List (Str × V)} (h : RepV G B φ x v) (r : FldR G B φ fs vs) : FldR G B φ ((g, x) :: fs) ((g, v) :: vs) :=
  ⟨by rw [List.map_cons, List.map_cons, r.1], ⟨_, _, rfl, h, r.2⟩⟩
theorem FldR.get {f : Str} {d : Dv} : ∀ {fs : List (Str × Dv)} {vs : List (Str × V)}, FldR G B φ fs vs → fs.lookup f = some d → ∃ v, vs.lookup f = some v ∧ RepV G B φ d v
  | [], _, _, h => by cases h
  | (g, x) :: fs, vs, r, h => by
    obtain ⟨v, r', rfl, rv, rr⟩ := r.cons_inv
    rw [List.lookup_cons] at h ⊢
    cases hb : f == g with
    | true =>
      rw [hb] at h
      cases h
      exact ⟨v, rfl, rv⟩
    | false =>
      rw [hb] at h
      exact rr.get h
theorem FldR.no {f : Str} : ∀ {fs : List (Str × Dv)} {vs : List (Str × V)}, FldR G B φ fs vs → fs.lookup f = none → vs.lookup f = none
  | [], vs, r, h => by
    have e : vs.map (·.1) = [] := r.1
    rw [List.map_eq_nil_iff.mp e]; rfl
  | (g, x) :: fs, vs, r, h => by
    obtain ⟨v, r', rfl, rv, rr⟩ := r.cons_inv
    rw [List.lookup_cons] at h ⊢
    cases hb : f == g with
    | true => rw [hb] at h; cases h
    | false => rw [hb] at h; exact rr.no h
theorem FldR.put {f : Str} {d : Dv} {y : V} (q : RepV G B φ d y) : ∀ {fs : List (Str × Dv)} {vs : List (Str × V)}, FldR G B φ fs vs → FldR G B φ (putD f d fs) (putF f y vs)
  | [], vs, r => by
    have e : vs.map (·.1) = [] := r.1
    rw [List.map_eq_nil_iff.mp e]
    exact FldR.nil.cons q
  | (g, x) :: fs, vs, r => by
    obtain ⟨v, r', rfl, rv, rr⟩ := r.cons_inv
    unfold putD putF
    by_cases e : g = f
    · rw [if_pos e, if_pos e]; exact rr.cons q
    · rw [if_neg e, if_neg e]; exact (rr.put q).cons rv
theorem FldR.len {fs : List (Str × Dv)} {vs : List (Str × V)} (r : FldR G B φ fs vs) : vs.length = fs.length := by
  have := congrArg List.length r.1
  simpa using this
end
section
variable {X : Cx} {G : Gx} {W : WX} {k n : Nat} {f g pa : Addr} {fd : FuncData} {ps : List Str} {x fn : Str} {p pos pos' apos : Pos} {e o : Expr} {es : List Expr} {af : Af} {ef eg eh : Ef} {H B : Hp} {φ : List Addr} {S : Sto} {σ : L2.St} {Q : VK}
def insOf (S : Sto) : Dv → Option (Nat × List (Str × Dv))
  | .hnd n => match S[n]? with
    | some (.ins _ fs) => some (n, fs)
    | _ => none
  | _ => none
theorem ins_at {d : Dv} {v : V} {n : Nat} {fs : List (Str × Dv)} (w : Wd G H B φ S) (r : RepV G B φ d v) (h : insOf S d = some (n, fs)) :
    d = .hnd n ∧ ∃ c a dx vs, S[n]? = some (.ins c fs) ∧ φ[n]? = some a ∧ v = .ref a ∧ B a = none ∧ H a = some (.ins G.uc dx vs) ∧ FldR G B φ fs vs := by
  unfold insOf at h
  split at h
  · rename_i m
    split at h
    · rename_i c fs' hs
      cases h
      obtain ⟨a, h1, rfl⟩ := r
      obtain ⟨hb, dx, vs, h2, h3, h4⟩ : CellR G H B φ a (.ins c fs) := w.cell _ a _ h1 hs
      exact ⟨rfl, c, a, dx, vs, hs, h1, rfl, hb, h2, h3, h4⟩
    · cases h
  · cases h
/-! e.f -/
def dFld (fn : Str) (ef : Ef) : Ef := fun ρ S => (ef ρ S).bind fun d S1 => match insOf S1 d with
  | some (_, fs) => match fs.lookup fn with
    | some x => .ok x S1
    | none => .bad
  | none => .bad
theorem de_fld (c : Cls X.K G.uc) (na : NoAttr X.K G.uc fn) (he : PE X e (tD G W ef)) (hb : attributeBase e fn X.env (eval e X.env) = eval e X.env := by rfl) : PE X (.Attribute e fn pos) (tD G W (dFld fn ef)) := by
  refine wkE (pe_fld he hb) fun σ H Q ⟨ρ, B, φ, S, w, en, h⟩ => tD.run w en (WP.fst h) fun d v H1 B1 φ1 S1 x1 w1 en1 r1 q1 => ?_
  split at q1
  · rename_i m fs hi
    split at q1
    · rename_i x hx
      obtain ⟨rfl, c0, a, dx, vs, hs, hφ, rfl, hb, hH, fr⟩ := ins_at w1 r1 hi
      obtain ⟨y, hy, ry⟩ := fr.get hx
      exact ⟨a, G.uc, dx, vs, y, rfl, hH, c, na, hy, q1 H1 B1 φ1 Xt.refl w1 y ry⟩
    · exact q1.elim
  · exact q1.elim
/-! o.f = e -/
def sFldSet (fn : Str) (eo ev : Ef) : Sf := fun ρ S => (ev ρ S).toS ρ fun d S1 => (eo ρ S1).toS ρ fun o S2 => match insOf S2 o with
  | some (n, fs) => if fs.length < 1000 then .ok (.nx ρ) (S2.set n (.ins 0 (putD fn d fs))) else .bad
  | none => .bad
theorem dp_fldSet (c : Cls X.K G.uc) (na : NoAttr X.K G.uc fn) (ho : PE X o (tD G W ef)) (he : PE X e (tD G W eg)) (hs : swapsWith e (some (.Attribute o fn pos')) pos.line X.env = pure false := by rfl) : PS X (.Assign [.Attribute o fn pos'] e pos) (tS G W (sFldSet fn ef eg)) := by
  refine wkS (ps_fld ho he hs) fun D σ H ⟨ρ, B, φ, S, w, en, h⟩ => tD.run w en (WPS.fst en h) fun d v H1 B1 φ1 S1 x1 w1 en1 r1 q1 => ?_
  refine tD.run w1 en1 (WPS.fst en1 q1) fun ov v2 H2 B2 φ2 S2 x2 w2 en2 r2 q2 => ?_
  split at q2
  · rename_i m fs hi
    split at q2
    · rename_i hl
      obtain ⟨rfl, c0, a, dx, vs, hs, hφ, rfl, hb, hH, fr⟩ := ins_at w2 r2 hi
      refine ⟨a, G.uc, dx, vs, rfl, hH, c, na, by rw [fr.len]; exact hl, ?_⟩
      have r1' := RepV.mono x2.b x2.p _ r1
      have fr' := fr.put (f := fn) r1'
      exact q2 _ B2 φ2 (Xt.set hφ) (w2.set hφ hs (fun z => nomatch z) hb ⟨hb, dx, _, upd_same, fr'.1, fr'.2⟩ rfl) σ en2
    · exact q2.elim
  · exact q2.elim
/-! C(..) -/
def dMakeO (m : List Dv → Sto → Out Dv) (a : Af) : Ef := fun ρ S => (a ρ S).bind fun xs S1 => (m (.hnd S1.length :: xs) (S1 ++ [.ins 0 []])).bind fun d S2 => match d with
  | .p .non => .ok (.hnd S1.length) S2
  | _ => .bad
theorem de_makeO {fI : Addr} {m : List Dv → Sto → Out Dv} (tk : Takes X W) (M : Mk X.K G.uc fI) (F : FnOk X.prog X.w X.K X.mg X.base (L2.CX X.prog X.w) k fI fd ps (spE G (n + 1) m)) (hr : Room (k + 1) X.A) (hg : Gl X x) (hm : X.mg x = some (.ref G.uc)) (hb : Binds X.K fd ps [])
    (hn : ∀ ρ S xs S', af ρ S = .ok xs S' → xs.length = n)
    (ha : PA X (e :: es) (tA G W af)) (hdb : (x == ("__debug__" : Str)) = false := by decide) (he : starEach (e :: es) X.env = (false, eval e X.env) :: starEach es X.env := by rfl) (hpl : (backTo pos (starEach es X.env)).any (·.1) = false := by rfl) :
    PE X (.Call (.Name x p) (e :: es) [] pos) (tD G W (dMakeO m af)) := by
  refine wkE (pe_makeR M F hr hg hm hb (passAt tk) ha hdb he hpl) fun σ H Q ⟨ρ, B, φ, S, w, en, q⟩ => ?_
  have q' := WP.fst q
  cases qa : af ρ S with
  | bad => rw [qa] at q'; exact q'.elim
  | exc x0 S0 => exact ⟨ρ, B, φ, S, w, en, by rw [qa] at q' ⊢; exact q'⟩
  | ok xs0 S0 =>
    have l0 := hn ρ S xs0 S0 qa
    refine ⟨ρ, B, φ, S, w, en, ?_⟩
    rw [qa] at q' ⊢
    intro H1 B1 φ1 x1 w1 vs r1
    have q1 := q' H1 B1 φ1 x1 w1
    intro xx dx hx hdx hne
    have w2 := w1.hide (o := .own xx) hdx
    have x2 : Xt H1 B1 φ1 (upd H1 dx (.own xx)) B1 φ1 := Xt.hide w1 hdx
    have hx2 : (upd H1 dx (.own xx)) xx = none := by rw [upd_ne (Ne.symm hne)]; exact hx
    obtain ⟨w3, x3, rr⟩ := cell_new (c := .ins 0 []) (o := .ins G.uc dx []) w2 hx2 ⟨w2.bfree hx2, dx, [], upd_same, rfl, rfl⟩
    have x23 := x2.trans x3
    refine ⟨B1, φ1 ++ [xx], S0 ++ [.ins 0 []], .hnd S0.length :: xs0, w3, ⟨_, _, rfl, rr, RepVs.mono (Same.refl _) (List.prefix_append _ _) _ r1⟩, by rw [List.length_cons, l0], ?_⟩
    have q2 := WP.fst (WP.rebase x23 q1)
    cases qm : m (.hnd S0.length :: xs0) (S0 ++ [.ins 0 []]) with
    | bad => rw [qm] at q2; exact q2.elim
    | exc e' S' => rw [qm] at q2; exact q2
    | ok d S' =>
      rw [qm] at q2
      intro H4 B4 φ4 x4 w4 v rv
      have q4 := q2 H4 B4 φ4 x4 w4
      dsimp only at q4
      split at q4
      · refine ⟨rep_non.mp rv, q4 H4 B4 φ4 Xt.refl w4 _ ?_⟩
        obtain ⟨a, ha1, ha2⟩ := rr
        cases ha2
        obtain ⟨t, et⟩ := x4.p
        refine ⟨xx, ?_, rfl⟩
        rw [← et, List.getElem?_append_left (List.getElem?_eq_some_iff.mp ha1).1]
        exact ha1
      · exact q4.elim
/-! methods -/
def tMethS (C : Addr) (m : Str) (sp : Sp) (E : L2.St → XK) (ta : TE) (t : TA) : TE := fun σ H Q => ta σ H fun x H1 => ∃ a dx fs, x = .ref a ∧ H1 a = some (.ins C dx fs) ∧ fs.lookup m = none ∧ t σ H1 fun vs H2 => sp (x :: vs) H2 Q (E σ)
theorem pe_methS {CX : CXT} {C : Addr} {m : Str} {sp : Sp} {E : L2.St → XK} {pl : Sem Bool} {ta : TE} {t : TA} (he : PE X o ta) (c : Cls X.K C) (hm : Meth X.K C m g) (F : FnR X.prog X.w X.K X.mg X.base CX k g sp) (hr : Room k X.A) (hx : ∀ σ, PassesAt CX X σ (E σ)) (ha : PA X (e :: es) t)
    (hst : starEach (e :: es) X.env = (false, eval e X.env) :: starEach es X.env := by rfl) (hpl : (backTo pos (starEach es X.env)).any (·.1) = false := by rfl)
    (ht : eval (.Call (.Attribute o m apos) (e :: es) [] pos) X.env = (do
      let ov ← eval o X.env
      standAt apos.atName
      let (f, first) ← holding [ov] (getMethod ov m pl)
      callWith pos f first (backTo pos (starEach (e :: es) X.env)) (backToKw pos (keywordEach [] X.env))) := by rfl) :
    PE X (.Call (.Attribute o m apos) (e :: es) [] pos) (tMethS C m sp E ta t) := by
  refine ⟨fun pins s σ H Q I h => PySem.W.methodCall_KW (pl := pl) (thn (he.run pins s σ H _ I h) fun u s1 ⟨x, H1, I1, rx, a, dx, fs, ex, ea, l, q⟩ => ?_) ht⟩
  subst ex
  obtain rfl : u = Value.ref a := rx
  refine getmeth_ok I1 ea c hm l (PySem.W.callWith_K (first := [.ref a]) (h₀ := X.base) I.ok.mod.kin hm.kp (thn (ha.run pos pins s1 σ H1 _ I1 q) fun us s2 ⟨ws, H2, I2, r, q2⟩ => ⟨I2.kIn, ?_⟩) hst hpl)
  refine wpAny_call (codeAny_mono (F X.A X.stack s2 H2 (.ref a :: us) (.ref a :: ws) Q (E σ) hr I2.env0 (.cons rfl r) q2) fun rr s' hq => ?_)
  cases rr with
  | error er => exact hx σ pins H2 s2 er s' I2 hq
  | ok fl =>
    cases fl with
    | ret u => exact I2.after hq
    | next => exact hq.elim
    | brk => exact hq.elim
    | cont => exact hq.elim
theorem pe_methS0 {CX : CXT} {C : Addr} {m : Str} {sp : Sp} {E : L2.St → XK} {pl : Sem Bool} {ta : TE} (he : PE X o ta) (c : Cls X.K C) (hm : Meth X.K C m g) (F : FnR X.prog X.w X.K X.mg X.base CX k g sp) (hr : Room k X.A) (hx : ∀ σ, PassesAt CX X σ (E σ))
    (ht : eval (.Call (.Attribute o m apos) [] [] pos) X.env = (do
      let ov ← eval o X.env
      standAt apos.atName
      let (f, first) ← holding [ov] (getMethod ov m pl)
      callWith pos f first (backTo pos (starEach [] X.env)) (backToKw pos (keywordEach [] X.env))) := by rfl) :
    PE X (.Call (.Attribute o m apos) [] [] pos) (tMethS C m sp E ta tNil) := by
  refine ⟨fun pins s σ H Q I h => PySem.W.methodCall_KW (pl := pl) (thn (he.run pins s σ H _ I h) fun u s1 ⟨x, H1, I1, rx, a, dx, fs, ex, ea, l, q⟩ => ?_) ht⟩
  subst ex
  obtain rfl : u = Value.ref a := rx
  refine getmeth_ok I1 ea c hm l (PySem.W.callWith_K0 (first := [.ref a]) I1.kIn hm.kp ?_)
  refine wpAny_call (codeAny_mono (F X.A X.stack s1 H1 [.ref a] [.ref a] Q (E σ) hr I1.env0 (.cons rfl .nil) q) fun rr s' hq => ?_)
  cases rr with
  | error er => exact hx σ pins H1 s1 er s' I1 hq
  | ok fl =>
    cases fl with
    | ret u => exact I1.after hq
    | next => exact hq.elim
    | brk => exact hq.elim
    | cont => exact hq.elim
def dMethO (mn : Str) (m : List Dv → Sto → Out Dv) (f : Ef) (a : Af) : Ef := fun ρ S => (f ρ S).bind fun d S1 => match insOf S1 d with
  | some (_, fs) => match fs.lookup mn with
    | none => (a ρ S1).bind fun xs S2 => m (d :: xs) S2
    | some _ => .bad
  | none => .bad
theorem spE_of {m : List Dv → Sto → Out Dv} {xs : List Dv} {vs : List V} (hn : xs.length = n) (w : Wd G H B φ S) (r : RepVs G B φ xs vs) (h : WP G W σ H B φ (m xs S) fun d H' B' φ' _ => ∀ v, RepV G B' φ' d v → Q v H') : spE G n m vs H Q (WE W σ) := by
  refine ⟨B, φ, S, xs, w, r, hn, ?_⟩
  cases qm : m xs S with
  | bad => rw [qm] at h; exact h
  | ok d S' => rw [qm] at h; exact h
  | exc x S' => rw [qm] at h; exact h
theorem de_methO {mn : Str} {m : List Dv → Sto → Out Dv} {pl : Sem Bool} (c : Cls X.K G.uc) (tk : Takes X W) (hm : Meth X.K G.uc mn g) (F : FnOk X.prog X.w X.K X.mg X.base (L2.CX X.prog X.w) k g fd ps (spE G (n + 1) m)) (hb : Binds X.K fd ps []) (hr : Room k X.A)
    (hn : ∀ ρ S xs S', af ρ S = .ok xs S' → xs.length = n) (he : PE X o (tD G W ef)) (ha : PA X (e :: es) (tA G W af))
    (hst : starEach (e :: es) X.env = (false, eval e X.env) :: starEach es X.env := by rfl) (hpl : (backTo pos (starEach es X.env)).any (·.1) = false := by rfl)
    (ht : eval (.Call (.Attribute o mn apos) (e :: es) [] pos) X.env = (do
      let ov ← eval o X.env
      standAt apos.atName
      let (f, first) ← holding [ov] (getMethod ov mn pl)
      callWith pos f first (backTo pos (starEach (e :: es) X.env)) (backToKw pos (keywordEach [] X.env))) := by rfl) :
    PE X (.Call (.Attribute o mn apos) (e :: es) [] pos) (tD G W (dMethO mn m ef af)) := by
  refine wkE (pe_methS he c hm (raw_E F hb) hr (passAt tk) ha hst hpl ht) fun σ H Q ⟨ρ, B, φ, S, w, en, h⟩ => tD.run w en (WP.fst h) fun d v H1 B1 φ1 S1 x1 w1 en1 r1 q1 => ?_
  split at q1
  · rename_i m0 fs hi
    split at q1
    · rename_i hl
      obtain ⟨rfl, c0, a, dx, vs, hs, hφ, rfl, hb, hH, fr⟩ := ins_at w1 r1 hi
      refine ⟨a, dx, vs, rfl, hH, fr.no hl, ?_⟩
      cases qa : af ρ S1 with
      | bad => rw [qa] at q1; exact q1.elim
      | exc x0 S0 => exact ⟨ρ, B1, φ1, S1, w1, en1, by rw [qa] at q1 ⊢; exact q1⟩
      | ok xs0 S2 =>
        have l0 := hn ρ S1 xs0 S2 qa
        refine ⟨ρ, B1, φ1, S1, w1, en1, ?_⟩
        rw [qa] at q1 ⊢
        intro H2 B2 φ2 x2 w2 ws r2
        have q2 : WP G W σ H2 B2 φ2 (m (.hnd m0 :: xs0) S2) (fun d H' B' φ' _ => ∀ v, RepV G B' φ' d v → Q v H') := WP.rebase x2 q1
        exact spE_of (by rw [List.length_cons, l0]) w2 (show RepVs G B2 φ2 (.hnd m0 :: xs0) (.ref a :: ws) from ⟨_, _, rfl, RepV.mono x2.b x2.p _ r1, r2⟩) q2
    · exact q1.elim
  · exact q1.elim
theorem de_methO0 {mn : Str} {m : List Dv → Sto → Out Dv} {pl : Sem Bool} (c : Cls X.K G.uc) (tk : Takes X W) (hm : Meth X.K G.uc mn g) (F : FnOk X.prog X.w X.K X.mg X.base (L2.CX X.prog X.w) k g fd ps (spE G 1 m)) (hb : Binds X.K fd ps []) (hr : Room k X.A) (he : PE X o (tD G W ef))
    (ht : eval (.Call (.Attribute o mn apos) [] [] pos) X.env = (do
      let ov ← eval o X.env
      standAt apos.atName
      let (f, first) ← holding [ov] (getMethod ov mn pl)
      callWith pos f first (backTo pos (starEach [] X.env)) (backToKw pos (keywordEach [] X.env))) := by rfl) :
    PE X (.Call (.Attribute o mn apos) [] [] pos) (tD G W (dMethO mn m ef aNil)) := by
  refine wkE (pe_methS0 he c hm (raw_E F hb) hr (passAt tk) ht) fun σ H Q ⟨ρ, B, φ, S, w, en, h⟩ => tD.run w en (WP.fst h) fun d v H1 B1 φ1 S1 x1 w1 en1 r1 q1 => ?_
  split at q1
  · rename_i m0 fs hi
    split at q1
    · rename_i hl
      obtain ⟨rfl, c0, a, dx, vs, hs, hφ, rfl, hb, hH, fr⟩ := ins_at w1 r1 hi
      refine ⟨a, dx, vs, rfl, hH, fr.no hl, ?_⟩
      have q1 : WP G W σ H1 B1 φ1 (m [.hnd m0] S1) (fun d H' B' φ' _ => ∀ v, RepV G B' φ' d v → Q v H') := q1
      exact spE_of rfl w1 (show RepVs G B1 φ1 [.hnd m0] [.ref a] from ⟨_, _, rfl, r1, rfl⟩) q1
    · exact q1.elim
  · exact q1.elim
/-! properties -/
def dPropO (m : List Dv → Sto → Out Dv) (f : Ef) : Ef := fun ρ S => (f ρ S).bind fun d S1 => match insOf S1 d with
  | some _ => noX (m [d] S1)
  | none => .bad
theorem de_propO {a : Str} {m : List Dv → Sto → Out Dv} (c : Cls X.K G.uc) (hp : PropOf X.K G.uc a pa g) (F : FnOk X.prog X.w X.K X.mg X.base (L2.CX X.prog X.w) k g fd ps (spE G 1 m)) (hb : Binds X.K fd ps []) (hr : Room (k + 1) X.A) (he : PE X e (tD G W ef))
    (hab : attributeBase e a X.env (eval e X.env) = eval e X.env := by rfl) : PE X (.Attribute e a pos) (tD G W (dPropO m ef)) := by
  refine wkE (pe_prop he c hp F hr hb .nil (E := E0) (fun _ _ _ _ _ _ _ z => cx_no z) hab) fun σ H Q ⟨ρ, B, φ, S, w, en, h⟩ => tD.run w en (WP.fst h) fun d v H1 B1 φ1 S1 x1 w1 en1 r1 q1 => ?_
  split at q1
  · rename_i z hi
    obtain ⟨m0, fs⟩ := z
    obtain ⟨rfl, c0, a, dx, vs, hs, hφ, rfl, hb, hH, fr⟩ := ins_at w1 r1 hi
    exact ⟨a, dx, vs, rfl, hH, spE_ok rfl w1 (show RepVs G B1 φ1 [.hnd m0] [.ref a] from ⟨_, _, rfl, r1, rfl⟩) q1⟩
  · exact q1.elim
/-! len(o) by an own __len__ -/
def rLenO (C : Addr) (sp : Sp) : List V → Hp → VK → Prop := fun xs H Q => ∃ a dx fs, xs = [.ref a] ∧ H a = some (.ins C dx fs) ∧ sp [.ref a] H (fun v H2 => ∃ n : Int, v = .int n ∧ 0 ≤ n ∧ n < 2 ^ 63 ∧ Q (.int n) H2) E0
theorem ins_inst {pins : List (Addr × Obj)} {s : Shared} {a C dx : Addr} {fs : List (Str × V)} (I : Inv X pins σ H s) (ea : H a = some (.ins C dx fs)) : ∃ ox od, PySem.W.InstAt s.heap a ox C od := by
  obtain ⟨mA, O, _, _, _, _⟩ := ins_get I.hok ea
  obtain ⟨od, J, _⟩ := O.look
  exact ⟨_, _, J⟩
theorem call_lenO {CX : CXT} {C : Addr} {sp : Sp} (hs : PySem.W.findIn X.K (.ref C) "__len__" = some (some (.ref g))) (hf : PySem.W.isFn X.K (.ref g) = true) (F : FnR X.prog X.w X.K X.mg X.base CX k g sp) (hr : Room (k + 1) X.A) (hx : ∀ (H : Hp) (s : Shared) (e : Value) (s' : Shared), CX X.stack H s E0 e s' → False) : CallR X (.builtin "len") (rLenO C sp) := by
  intro pins s σ H xs us Q I r h
  obtain ⟨a, dx, fs, rfl, ea, q⟩ := h
  obtain ⟨u, rfl, ru⟩ := vals1 r
  obtain rfl : u = Value.ref a := ru
  obtain ⟨ox, od, J⟩ := ins_inst I ea
  obtain ⟨m, hF⟩ := I.fr
  refine PySem.W.len_K hF I.ok.mod.kin J hs hf (wpAny_call (codeAny_mono (F X.A.in1 X.stack s H [.ref a] [.ref a] _ E0 hr.in1 I.env0.in1 (.cons rfl .nil) q) fun rr s' hq => ?_))
  cases rr with
  | error er => exact (hx _ _ _ _ hq).elim
  | ok fl =>
    cases fl with
    | ret u =>
      obtain ⟨v, H', I3, rv, n, rfl, h0, h1, q3⟩ := I.after hq
      obtain ⟨t, rfl⟩ := (show ∃ t, u = Value.int n t from rv)
      exact ⟨⟨h0, h1⟩, .int n, H', I3.tok _, ⟨_, rfl⟩, q3⟩
    | next => exact hq.elim
    | brk => exact hq.elim
    | cont => exact hq.elim
def lenBk (o : Out Dv) : Out Dv := match o with
  | .ok (.p (.int i)) S => if 0 ≤ i ∧ i < 9223372036854775808 then .ok (.p (.int i)) S else .bad
  | _ => .bad
def dLenO (m : List Dv → Sto → Out Dv) (f : Ef) : Ef := fun ρ S => (f ρ S).bind fun d S1 => match insOf S1 d with
  | some _ => lenBk (m [d] S1)
  | none => .bad
theorem de_lenO {m : List Dv → Sto → Out Dv} (hs : PySem.W.findIn X.K (.ref G.uc) "__len__" = some (some (.ref g))) (hf : PySem.W.isFn X.K (.ref g) = true) (F : FnOk X.prog X.w X.K X.mg X.base (L2.CX X.prog X.w) k g fd ps (spE G 1 m)) (hb : Binds X.K fd ps []) (hr : Room (k + 1) X.A)
    (hg : Gl X "len") (hm : X.mg "len" = none) (he : PE X e (tD G W ef)) (h1 : starEach [e] X.env = (false, eval e X.env) :: starEach [] X.env := by rfl) :
    PE X (.Call (.Name "len" p) [e] [] pos) (tD G W (dLenO m ef)) := by
  refine wkE (pe_callB (call_lenO hs hf (raw_E F hb) hr (fun _ _ _ _ => cx_no)) hg hm PySem.boot_len (pa_cons he pa_nil h1) (by decide) (by decide) h1 rfl) fun σ H Q ⟨ρ, B, φ, S, w, en, h⟩ => tD.run w en (WP.fst h) fun d v H1 B1 φ1 S1 x1 w1 en1 r1 q1 => ?_
  split at q1
  · rename_i z hi
    obtain ⟨m0, fs⟩ := z
    obtain ⟨rfl, c0, a, dx, vs, hs, hφ, rfl, hb, hH, fr⟩ := ins_at w1 r1 hi
    refine ⟨a, dx, vs, rfl, hH, B1, φ1, S1, [.hnd m0], w1, ⟨_, _, rfl, r1, rfl⟩, rfl, ?_⟩
    cases qm : m [.hnd m0] S1 with
    | bad => rw [qm] at q1; exact q1.elim
    | exc x S' => rw [qm] at q1; exact q1.elim
    | ok d S' =>
      rw [qm] at q1
      intro H2 B2 φ2 x2 w2 v2 r2
      unfold lenBk at q1
      split at q1
      · rename_i i S'' heq
        cases heq
        split at q1
        · rename_i hb2
          have e := rep_int.mp r2
          exact ⟨i, e, hb2.1, hb2.2, q1 H2 B2 φ2 x2 w2 _ (rep_int.mpr rfl)⟩
        · exact q1.elim
      · exact q1.elim
  · exact q1.elim
/-! xs.pop() -/
def dPop (f : Ef) : Ef := fun ρ S => (f ρ S).bind fun d S1 => match d with
  | .hnd n => match S1[n]? with
    | some (.lst ds) => match ds[ds.length - 1]? with
      | some y => .ok (.p y) (S1.set n (.lst ds.dropLast))
      | none => .bad
    | _ => .bad
  | _ => .bad
theorem reps_dropLast : ∀ {ds : List D} {vs : List V}, Reps G B ds vs → Reps G B ds.dropLast vs.dropLast
  | [], _, h => by unfold Reps at h; subst h; exact Reps.nil
  | [d], _, h => by
    unfold Reps at h
    obtain ⟨x, r, rfl, h1, h2⟩ := h
    unfold Reps at h2
    subst h2
    exact Reps.nil
  | d :: d' :: ds, _, h => by
    unfold Reps at h
    obtain ⟨x, r, rfl, h1, h2⟩ := h
    have h3 := h2
    unfold Reps at h3
    obtain ⟨y, t, rfl, _, _⟩ := h3
    rw [List.dropLast_cons_cons, List.dropLast_cons_cons]
    exact Reps.cons h1 (reps_dropLast h2)
theorem de_pop (ho : PE X o (tD G W ef)) (hbase : attributeBase o "pop" X.env (eval o X.env) = eval o X.env := by rfl) (hline : (apos.endLine == pos.line) = true := by rfl) :
    PE X (.Call (.Attribute o "pop" apos) [] [] pos) (tD G W (dPop ef)) := by
  refine wkE (pe_bm0 PySem.F.plainAttrs_list PySem.F.slot_list_pop PySem.F.type_list_pop mt_pop ho hbase hline) fun σ H Q ⟨ρ, B, φ, S, w, en, h⟩ => tD.run w en (WP.fst h) fun d v H1 B1 φ1 S1 x1 w1 en1 r1 q1 => ?_
  split at q1
  · rename_i m
    split at q1
    · rename_i ds hs
      split at q1
      · rename_i y hy
        have r1 : ∃ a, φ1[m]? = some a ∧ v = .ref a := r1
        obtain ⟨a, hφ, rfl⟩ := r1
        obtain ⟨hb, xs, hx, rr⟩ : CellR G H1 B1 φ1 a (.lst ds) := w1.cell m a _ hφ hs
        obtain ⟨z, hz, rz⟩ := rr.get hy
        refine ⟨.inl ⟨rfl, xs, SqL.of hx⟩, a, xs, z, rfl, rfl, hx, by rw [← rr.length]; exact hz, ?_⟩
        exact q1 _ B1 φ1 (Xt.set hφ) (w1.set hφ hs (fun z => nomatch z) hb ⟨hb, _, upd_same, reps_dropLast rr⟩ rfl) _ rz
      · exact q1.elim
    · exact q1.elim
  · exact q1.elim
end
/-! ### x += e, o.f += e -/
section
variable {X : Cx} {G : Gx} {W : WX} {ef eg : Ef} {e o : Expr} {pos pos' : Pos} {fn : Str}
def sAug (i : Nat) (ef : Ef) : Sf := fun ρ S => match ρ[i]? with
  | some (some (.p (.int a))) => (ef ρ S).toS ρ fun d S1 => match d with
    | .p (.int b) => .ok (.nx (ρ.set i (some (.p (.int (a + b)))))) S1
    | _ => .bad
  | _ => .bad
theorem dp_aug {i : Nat} {x : Str} (hN : X.N.Nodup) (hi : X.N[i]? = some x) (hx : Loc X.env.scope x) (he : PE X e (tD G W ef)) (hf : X.fn x = true ∨ X.env.scope.names.lookup x = some .local := by first | exact .inl rfl | exact .inr rfl | assumption) :
    PS X (.AugAssign (.Name x pos') .Add e pos) (tS G W (sAug i ef)) := by
  refine wkS (ps_aug hN hi hx he ip_add hf) fun D σ H ⟨ρ, B, φ, S, w, en, h⟩ => ?_
  unfold sAug at h
  split at h
  · rename_i a ha
    obtain ⟨v, hv, rv⟩ := en.at_ i _ ha
    refine ⟨v, hv, ?_⟩
    refine tD.run w en (WPS.fst en h) fun d u H1 B1 φ1 S1 x1 w1 en1 r1 q1 => ?_
    split at q1
    · rename_i b
      exact ⟨a, b, rep_int.mp rv, rep_int.mp r1, WPS.here w1 q1 _ (en1.set i (rep_int.mpr rfl))⟩
    · exact q1.elim
  · exact h.elim
def sAugF (fn : Str) (eo ev : Ef) : Sf := fun ρ S => (eo ρ S).toS ρ fun o S1 => match insOf S1 o with
  | some (n, fs) => match fs.lookup fn with
    | some (.p (.int a)) => (ev ρ S1).toS ρ fun d S2 => match d, insOf S2 o with
      | .p (.int b), some (_, fs2) => if fs2.length < 1000 then .ok (.nx ρ) (S2.set n (.ins 0 (putD fn (.p (.int (a + b))) fs2))) else .bad
      | _, _ => .bad
    | _ => .bad
  | none => .bad
theorem dp_augF (c : Cls X.K G.uc) (na : NoAttr X.K G.uc fn) (ho : PE X o (tD G W ef)) (he : PE X e (tD G W eg)) : PS X (.AugAssign (.Attribute o fn pos') .Add e pos) (tS G W (sAugF fn ef eg)) := by
  refine wkS (ps_fldaug ho he in_add) fun D σ H ⟨ρ, B, φ, S, w, en, h⟩ => tD.run w en (WPS.fst en h) fun ov v H1 B1 φ1 S1 x1 w1 en1 r1 q1 => ?_
  split at q1
  · rename_i m fs hi
    split at q1
    · rename_i a ha
      obtain ⟨rfl, c0, p, dx, vs, hs, hφ, rfl, hb, hH, fr⟩ := ins_at w1 r1 hi
      obtain ⟨y, hy, ry⟩ := fr.get ha
      refine ⟨p, G.uc, dx, vs, y, rfl, hH, c, na, hy, ?_⟩
      refine tD.run w1 en1 (WPS.fst en1 q1) fun d u H2 B2 φ2 S2 x2 w2 en2 r2 q2 => ?_
      split at q2
      · rename_i b m2 fs2 hi2
        split at q2
        · rename_i hl
          obtain ⟨e1, c1, p2, dx2, vs2, hs2, hφ2, e2, hb2, hH2, fr2⟩ := ins_at w2 (RepV.mono x2.b x2.p _ r1) hi2
          cases e1
          cases e2
          refine ⟨a, b, rep_int.mp ry, rep_int.mp r2, dx2, vs2, hH2, by rw [fr2.len]; exact hl, ?_⟩
          have fr' := fr2.put (f := fn) (y := V.int (a + b)) (d := .p (.int (a + b))) (rep_int.mpr rfl)
          exact q2 _ B2 φ2 (Xt.set hφ2) (w2.set hφ2 hs2 (fun z => nomatch z) hb2 ⟨hb2, dx2, _, upd_same, fr'.1, fr'.2⟩ rfl) σ en2
        · exact q2.elim
      · exact q2.elim
    · exact q1.elim
  · exact q1.elim
end
/-! ### sorted(pairs of numbers) -/
abbrev Pr := Int × Int
def insP (x : Pr) : List Pr → List Pr
  | [] => [x]
  | y :: r => if SrtO.lexB y x = false then x :: y :: r else y :: insP x r
def srtP : List Pr → List Pr
  | [] => []
  | x :: r => insP x (srtP r)
theorem insP_perm (x : Pr) : ∀ l : List Pr, (insP x l).Perm (x :: l)
  | [] => .refl _
  | y :: r => by
    unfold insP
    split
    · exact .refl _
    · exact ((insP_perm x r).cons y).trans (.swap x y r)
theorem srtP_perm : ∀ l : List Pr, (srtP l).Perm l
  | [] => .refl _
  | x :: r => by
    unfold srtP
    exact (insP_perm x _).trans ((srtP_perm r).cons x)
def leP (p q : Pr) : Prop := SrtO.lexB q p = false
theorem leP_iff {p q : Pr} : leP p q ↔ p.1 < q.1 ∨ (p.1 = q.1 ∧ p.2 ≤ q.2) := by
  unfold leP
  rw [SrtO.lexB_no]
  omega
theorem leP_refl (p : Pr) : leP p p := leP_iff.mpr (.inr ⟨rfl, Int.le_refl _⟩)
theorem leP_trans {p q r : Pr} (h : leP p q) (h' : leP q r) : leP p r := by
  rw [leP_iff] at h h' ⊢
  omega
theorem leP_anti {p q : Pr} (h : leP p q) (h' : leP q p) : p = q := by
  rw [leP_iff] at h h'
  exact Prod.ext (by omega) (by omega)
theorem insP_srt (x : Pr) : ∀ {l : List Pr}, l.Pairwise leP → (insP x l).Pairwise leP
  | [], _ => by unfold insP; exact List.pairwise_singleton _ _
  | y :: r, h => by
    obtain ⟨h1, h2⟩ := List.pairwise_cons.mp h
    unfold insP
    split
    · rename_i hx
      refine List.pairwise_cons.mpr ⟨fun z hz => ?_, h⟩
      rcases List.mem_cons.mp hz with e | e
      · rw [e]; exact hx
      · exact leP_trans (q := y) hx (h1 z e)
    · rename_i hx
      refine List.pairwise_cons.mpr ⟨fun z hz => ?_, insP_srt x h2⟩
      rcases List.mem_cons.mp ((insP_perm x r).mem_iff.mp hz) with e | e
      · rw [e, leP_iff]
        have hx : SrtO.lexB y x = true := by simpa using hx
        rw [SrtO.lexB_iff] at hx
        omega
      · exact h1 z e
theorem srtP_srt : ∀ l : List Pr, (srtP l).Pairwise leP
  | [] => .nil
  | x :: r => by unfold srtP; exact insP_srt x (srtP_srt r)
theorem srtP_one : ∀ {a b : List Pr}, a.Perm b → a.Pairwise leP → b.Pairwise leP → a = b
  | [], b, p, _, _ => (List.Perm.nil_eq p)
  | x :: r, b, p, ha, hb => by
    cases b with
    | nil => cases List.Perm.eq_nil p
    | cons y t =>
      obtain ⟨a1, a2⟩ := List.pairwise_cons.mp ha
      obtain ⟨b1, b2⟩ := List.pairwise_cons.mp hb
      have e : x = y := by
        have h1 : leP x y := by
          rcases List.mem_cons.mp (p.mem_iff.mpr (List.mem_cons_self (a := y) (l := t))) with e | e
          · rw [e]; exact leP_refl _
          · exact a1 y e
        have h2 : leP y x := by
          rcases List.mem_cons.mp (p.mem_iff.mp (List.mem_cons_self (a := x) (l := r))) with e | e
          · rw [e]; exact leP_refl _
          · exact b1 x e
        exact leP_anti h1 h2
      subst e
      rw [srtP_one (List.Perm.cons_inv p) a2 b2]
/-- sorted(xs), xs a list of pairs as they stand -/
def rSortedPT (K : PySem.W.Frag) : List V → Hp → VK → Prop := fun vs H Q => ∃ (a : Addr) (zs : List (V × Pr)), vs = [V.ref a] ∧ SqL K H a (zs.map (·.1)) ∧ (∀ z ∈ zs, ∃ t, z.1 = V.ref t ∧ SqT K H t [.int z.2.1, .int z.2.2]) ∧
  ∀ (zs' : List (V × Pr)) p, (∀ z ∈ zs', z ∈ zs) → zs'.map (·.2) = srtP (zs.map (·.2)) → H p = none → Q (.ref p) (upd H p (.lst (zs'.map (·.1))))
section
variable {X : Cx} {G : Gx} {W : WX}
open Classical in
theorem cr_sortedPT : CallR X (.builtin "sorted") (rSortedPT X.K) := by
  intro pins s σ H vs us Q I r h
  obtain ⟨a, zs, rfl, hs, hx, q⟩ := h
  obtain ⟨its, rv, hl, hz⟩ := I.list hs
  obtain ⟨u, rfl, ru⟩ := vals1 r
  obtain rfl : u = Value.ref a := ru
  let k : V → Pr := fun v => if h : ∃ p : Pr, ∃ t, v = V.ref t ∧ SqT X.K H t [.int p.1, .int p.2] then h.choose else (0, 0)
  have hk : ∀ {v : V} {p : Pr} {t : Addr}, v = V.ref t → SqT X.K H t [.int p.1, .int p.2] → k v = p := fun {v p t} e hp => by
    have hh : ∃ p : Pr, ∃ t, v = V.ref t ∧ SqT X.K H t [.int p.1, .int p.2] := ⟨p, t, e, hp⟩
    have e0 : k v = hh.choose := dif_pos hh
    obtain ⟨t', e1, h1⟩ := hh.choose_spec
    rw [e] at e1
    cases e1
    have e2 := I.tuple_inj h1 hp
    simp only [List.cons.injEq, V.int.injEq, and_true] at e2
    rw [e0]
    exact Prod.ext e2.1 e2.2
  obtain ⟨e1, e2⟩ := refs_back rv fun x m => by
    obtain ⟨z, hz1, rfl⟩ := List.mem_map.mp m
    obtain ⟨t, e, _⟩ := hx z hz1
    exact ⟨t, e⟩
  refine SrtO.sorted_pairsO (k := fun u => k (backV u)) hl.isList (by rw [← rv.length]; exact hz) (fun v hv => ?_) fun h' d out h1 h2 kp hd hn => ?_
  · obtain ⟨t, rfl⟩ := e2 v hv
    have hm : V.ref t ∈ zs.map (·.1) := by rw [e1]; exact List.mem_map.mpr ⟨_, hv, rfl⟩
    obtain ⟨z, hz1, ez⟩ := List.mem_map.mp hm
    obtain ⟨t', e, ht⟩ := hx z hz1
    rw [ez] at e
    cases e
    have ek : k (backV (Value.ref t)) = z.2 := hk rfl ht
    obtain ⟨its2, r2, ⟨o, ho, hc, n, hd⟩, hz2⟩ := I.tuple ht
    obtain ⟨u1, u2, rfl, ri, rj⟩ := vals2 r2
    obtain ⟨t1, rfl⟩ := ri
    obtain ⟨t2, rfl⟩ := rj
    show ∃ a o t_1 u n, _ = Value.ref a ∧ s.heap.get? a = some o ∧ o.cls = .type "tuple" ∧ o.data = .seq #[.int (k (backV (Value.ref t))).1 t_1, .int (k (backV (Value.ref t))).2 u] n
    rw [ek]
    exact ⟨t, o, t1, t2, n, rfl, ho, hc, hd⟩
  · have h3 : ∀ u ∈ out, ∃ a, u = Value.ref a := fun u hu => e2 u (h2.perm.mem_iff.mp hu)
    obtain ⟨n, hn⟩ := hn
    have hb : SrtO.Stb (ltP k) (out.map backV) (zs.map (·.1)) := by
      rw [e1]
      exact SrtO.Stb.map (ltP_swo k) backV h2
    have hsrt : SrtO.Srtd (ltP k) (out.map backV) := SrtO.srtd_map h1
    have hlen : (out.map backV).length ≤ sizeLine := by
      rw [hb.len]
      exact hz
    have hmem : ∀ y ∈ out.map backV, (y, k y) ∈ zs := fun y hy => by
      have hy' := hb.perm.mem_iff.mp hy
      obtain ⟨z, hz1, ez⟩ := List.mem_map.mp hy'
      obtain ⟨t', e, ht⟩ := hx z hz1
      have := hk (ez.symm.trans e) ht
      rw [this, ← ez]
      exact hz1
    have hq := q ((out.map backV).map fun y => (y, k y)) d (fun z hz1 => by
      obtain ⟨y, hy, rfl⟩ := List.mem_map.mp hz1
      exact hmem y hy) (by
        rw [List.map_map]
        refine srtP_one ?_ ?_ (srtP_srt _)
        · have p1 : ((out.map backV).map k).Perm ((zs.map (·.1)).map k) := hb.perm.map k
          have e3 : (zs.map (·.1)).map k = zs.map (·.2) := by
            rw [List.map_map]
            refine List.map_congr_left fun z hz1 => ?_
            obtain ⟨t', e, ht⟩ := hx z hz1
            exact hk e ht
          rw [e3] at p1
          exact p1.trans (srtP_perm _).symm
        · refine List.pairwise_map.mpr ?_
          exact hsrt) (I.hok.fresh hd)
    have e4 : ((out.map backV).map fun y => (y, k y)).map (·.1) = out.map backV := by
      rw [List.map_map]
      exact List.map_id _
    rw [e4] at hq
    exact ⟨.ref d, upd H d (.lst (out.map backV)), I.laid (t' := s.toks) kp hd ⟨hlen, out, n, vals_back h3, hn⟩, rfl, hq⟩
def prsOf : List D → Option (List Pr)
  | [] => some []
  | .tup [.int i, .int j] :: r => (prsOf r).map ((i, j) :: ·)
  | _ :: _ => none
def prD (p : Pr) : D := .tup [.int p.1, .int p.2]
theorem prs_at {B H : Hp} (sb : Same B H) : ∀ {ds : List D} {ps : List Pr} {vs : List V}, prsOf ds = some ps → Reps G B ds vs → ∃ zs : List (V × Pr), zs.map (·.1) = vs ∧ zs.map (·.2) = ps ∧ ∀ z ∈ zs, Rep G B (prD z.2) z.1 ∧ ∃ t, z.1 = V.ref t ∧ SqT G.K H t [.int z.2.1, .int z.2.2]
  | [], ps, vs, h, r => by
    cases h
    unfold Reps at r
    subst r
    exact ⟨[], rfl, rfl, fun _ z => nomatch z⟩
  | d :: ds, ps, vs, h, r => by
    unfold Reps at r
    obtain ⟨x, t, rfl, r1, r2⟩ := r
    unfold prsOf at h
    split at h
    · rename_i he
      cases he
    · rename_i i j r0 he
      cases he
      cases e : prsOf ds with
      | none => rw [e] at h; cases h
      | some qs =>
        rw [e] at h
        cases h
        obtain ⟨zs, e1, e2, e3⟩ := prs_at sb e r2
        refine ⟨(x, (i, j)) :: zs, by rw [List.map_cons, e1], by rw [List.map_cons, e2], fun z hz => ?_⟩
        rcases List.mem_cons.mp hz with rfl | hz
        · refine ⟨r1, ?_⟩
          have r1' := r1
          unfold Rep at r1'
          obtain ⟨a, xs, rfl, s1, rs⟩ := r1'
          unfold Reps at rs
          obtain ⟨y1, t1, rfl, p1, rs⟩ := rs
          unfold Reps at rs
          obtain ⟨y2, t2, rfl, p2, rs⟩ := rs
          unfold Reps at rs
          subst rs
          unfold Rep at p1 p2
          subst p1 p2
          exact ⟨a, rfl, sqT_mono sb s1⟩
        · exact e3 z hz
    · cases h
def nSortPr : OpN := fun xs S => match xs with
  | [x] => match vw S x with
    | some ds => match prsOf ds with
      | some ps => .ok (.p (.lst ((srtP ps).map prD))) S
      | none => .bad
    | none => .bad
  | _ => .bad
theorem nSortPr_ok : OkN G W (rSortedPT G.K) nSortPr := by
  intro H B φ S σ xs vs Q w r h
  unfold nSortPr at h
  split at h
  · split at h
    · rename_i ds hs
      split at h
      · rename_i ps hb
        obtain ⟨v, rfl, rv⟩ := rvs1 r
        obtain ⟨a, ys, rfl, s1, q1⟩ := vw_at w rv hs
        obtain ⟨zs, e1, e2, e3⟩ := prs_at w.sub hb q1
        refine ⟨a, zs, rfl, by rw [e1]; exact SqL.of s1, fun z hz => (e3 z hz).2, fun zs' l hm he hl => ?_⟩
        rw [e2] at he
        have rr : Reps G B ((srtP ps).map prD) (zs'.map (·.1)) := by
          rw [← he, List.map_map]
          clear he
          induction zs' with
          | nil => exact Reps.nil
          | cons z t ih => exact Reps.cons (e3 z (hm z List.mem_cons_self)).1 (ih fun y hy => hm y (List.mem_cons_of_mem _ hy))
        exact h _ _ _ (Xt.alloc w hl) (w.alloc hl) _ (rep_lst.mpr ⟨l, _, rfl, upd_same, Reps.mono (same_upd' (w.bfree hl)) _ rr⟩)
      · exact h.elim
    · exact h.elim
  · exact h.elim
end
/-! ### in, not in: a tuple of deep items -/
section
variable {X : Cx} {G : Gx} {W : WX}
def rInT (K : PySem.W.Frag) : R2 := fun x y H Q => ∃ d ds, Dp K H x d ∧ Dp K H y (.tuple ds) ∧ SeqAt.shaped d = true ∧ SeqAt.shaped (.tuple ds) = true ∧ Q (.bl (ds.any fun z => PyData.eqv z d)) H
def rNotInT (K : PySem.W.Frag) : R2 := fun x y H Q => ∃ d ds, Dp K H x d ∧ Dp K H y (.tuple ds) ∧ SeqAt.shaped d = true ∧ SeqAt.shaped (.tuple ds) = true ∧ Q (.bl (!ds.any fun z => PyData.eqv z d)) H
theorem op_inT (hu : X.A.units + 65 < cLine) : OpR X (compareOp .In) (rInT X.K) := by
  intro pins s σ H x y v u Q I rx ry h
  obtain ⟨d, ds, hd, he, sd, se, q⟩ := h
  obtain ⟨as, r1⟩ := Dp.reads I d x v hd rx
  obtain ⟨bs, r2⟩ := Dp.reads I (.tuple ds) y u he ry
  exact SeqAt.in_tuple_reads r2 r1 (SeqAt.canLay_of_shaped se) (SeqAt.canLay_of_shaped sd) (room_in_shaped sd hu) ⟨.bl _, H, I, rfl, q⟩
theorem op_notInT (hu : X.A.units + 65 < cLine) : OpR X (compareOp .NotIn) (rNotInT X.K) := by
  intro pins s σ H x y v u Q I rx ry h
  obtain ⟨d, ds, hd, he, sd, se, q⟩ := h
  obtain ⟨as, r1⟩ := Dp.reads I d x v hd rx
  obtain ⟨bs, r2⟩ := Dp.reads I (.tuple ds) y u he ry
  exact SeqAt.notIn_tuple_reads r2 r1 (SeqAt.canLay_of_shaped se) (SeqAt.canLay_of_shaped sd) (room_in_shaped sd hu) ⟨.bl _, H, I, rfl, q⟩
def oInT (neg : Bool) : Op2 := fun x y S => match vPy S x, vPy S y with
  | some d, some (.tuple ds) => if SeqAt.shaped d = true ∧ SeqAt.shaped (.tuple ds) = true then .ok (.p (.bl (if neg then !ds.any fun z => PyData.eqv z d else ds.any fun z => PyData.eqv z d))) S else .bad
  | _, _ => .bad
theorem oInT_ok : Ok2 G W (rInT G.K) (oInT false) := by
  intro H B φ S σ x y v u Q w r1 r2 h
  unfold oInT at h
  split at h
  · rename_i d ds ha hb
    split at h
    · rename_i hs
      exact ⟨d, ds, vPy_dp w r1 ha, vPy_dp w r2 hb, hs.1, hs.2, h H B φ Xt.refl w _ (rep_bl.mpr rfl)⟩
    · exact h.elim
  · exact h.elim
theorem oNotInT_ok : Ok2 G W (rNotInT G.K) (oInT true) := by
  intro H B φ S σ x y v u Q w r1 r2 h
  unfold oInT at h
  split at h
  · rename_i d ds ha hb
    split at h
    · rename_i hs
      exact ⟨d, ds, vPy_dp w r1 ha, vPy_dp w r2 hb, hs.1, hs.2, h H B φ Xt.refl w _ (rep_bl.mpr rfl)⟩
    · exact h.elim
  · exact h.elim
end
/-! ### [f, g, ..][e](), defs without parameters -/
section
variable {X : Cx} {G : Gx} {W : WX} {ef : Ef} {e : Expr} {es : List Expr} {p1 p2 pos : Pos} {k : Nat}
def tCall0 (S : Addr → Option Sp) (tf : TE) (E : L2.St → XK) : TE := fun σ H Q => tf σ H fun v H1 => ∃ f sp, v = V.ref f ∧ S f = some sp ∧ sp [] H1 Q (E σ)
theorem pe_callF0 {fe : Expr} {tf : TE} {S : Addr → Option Sp} {E : L2.St → XK} (hf : PE X fe tf) (A : ∀ f sp, S f = some sp → PySem.W.keepIn X.K (.ref f) = true ∧ ∃ fd ps, FnOk X.prog X.w X.K X.mg X.base (L2.CX X.prog X.w) k f fd ps sp ∧ Binds X.K fd ps []) (hr : Room k X.A) (hx : ∀ σ, PassesAt (L2.CX X.prog X.w) X σ (E σ))
    (ht : eval (.Call fe [] [] pos) X.env = (do callWith pos (← eval fe X.env) [] (backTo pos (starEach [] X.env)) (backToKw pos (keywordEach [] X.env))) := by rfl) : PE X (.Call fe [] [] pos) (tCall0 S tf E) := by
  refine ⟨fun pins s σ H Q I h => ?_⟩
  refine Call_ (thn (hf.run pins s σ H _ I h) fun u s1 ⟨y, H1, I1, ry, f, sp, ey, hS, q⟩ => ?_) ht
  subst ey
  obtain rfl : u = Value.ref f := ry
  obtain ⟨hk, fd, ps, F, hb⟩ := A f sp hS
  exact PySem.W.callWith_K0 I1.kIn hk (run_fnS (us := []) F hr hb (hx σ) I1 .nil q)
/-- names of defs, as a display's items -/
def tRefs (fs : List Addr) : TA := fun _ H Q => Q (fs.map V.ref) H
theorem pa_refs_nil : PA X [] (tRefs []) := ⟨fun pos pins s σ H Q I h => pa_nil.run pos pins s σ H Q I h⟩
theorem pa_refs {x : Str} {p : Pos} {f : Addr} {fs : List Addr} (hg : Gl X x) (hm : X.mg x = some (.ref f)) (hr : PA X es (tRefs fs)) (hd : (x == ("__debug__" : Str)) = false := by decide) (hs : starEach (.Name x p :: es) X.env = (false, eval (.Name x p) X.env) :: starEach es X.env := by rfl) :
    PA X (.Name x p :: es) (tRefs (f :: fs)) :=
  ⟨fun pos pins s σ H Q I h => (pa_cons (pe_glob hg hm (v := .ref f) rfl hd) hr hs).run pos pins s σ H Q I h⟩
def dPick (ms : List PO) (ef : Ef) : Ef := fun ρ S => (ef ρ S).bind fun d S1 => match d with
  | .p (.int i) => match atI ms i with
    | some (.ok d) => .ok (.p d) S1
    | _ => .bad
  | _ => .bad
def POs (G : Gx) : List (Addr × PO) → Addr → Option Sp
  | [], _ => none
  | (g, o) :: r, f => if f = g then some (spP G 0 fun _ => o) else POs G r f
theorem POs_at {f : Addr} {o : PO} : ∀ {l : List (Addr × PO)}, (l.map (·.1)).Nodup → (f, o) ∈ l → POs G l f = some (spP G 0 fun _ => o)
  | [], _, h => nomatch h
  | (g, o') :: r, hn, h => by
    rw [List.map_cons, List.nodup_cons] at hn
    unfold POs
    rcases List.mem_cons.mp h with e | e
    · cases e
      rw [if_pos rfl]
    · have : f ≠ g := fun z => hn.1 (by rw [← z]; exact List.mem_map.mpr ⟨_, e, rfl⟩)
      rw [if_neg this]
      exact POs_at hn.2 e
theorem POs_mem {f : Addr} {sp : Sp} : ∀ {l : List (Addr × PO)}, POs G l f = some sp → ∃ o, (f, o) ∈ l ∧ sp = spP G 0 fun _ => o
  | [], h => by cases h
  | (g, o') :: r, h => by
    unfold POs at h
    split at h
    · rename_i e
      cases h
      exact ⟨o', by rw [e]; exact List.mem_cons_self, rfl⟩
    · obtain ⟨o, h1, h2⟩ := POs_mem h
      exact ⟨o, List.mem_cons_of_mem _ h1, h2⟩
theorem pick_sp {m : List D → PO} {vs : List V} {H : Hp} {Q : VK} {E : XK} (h : spP G 0 (fun _ => m []) vs H Q E) : spP G 0 m vs H Q E := by
  obtain ⟨B, ds, h1, h2, h3, h4⟩ := h
  have e : ds = [] := List.length_eq_zero_iff.mp h3
  subst e
  exact ⟨B, [], h1, h2, h3, h4⟩
theorem de_pick {l : List (Addr × PO)} (hK : X.K = G.K) (tk : Takes X W) (hn : (l.map (·.1)).Nodup) (hl : l.length ≤ 1000) (ha : PA X es (tRefs (l.map (·.1)))) (hi : PE X e (tD G W ef)) (hs : PlainIx e)
    (A : ∀ f o, (f, o) ∈ l → PySem.W.keepIn X.K (.ref f) = true ∧ ∃ fd ps, FnOk X.prog X.w X.K X.mg X.base (L2.CX X.prog X.w) k f fd ps (spP G 0 fun _ => o) ∧ Binds X.K fd ps []) (hr : Room k X.A)
    (ht : eval (.Call (.Subscript (.List es p1) e p2) [] [] pos) X.env = (do callWith pos (← eval (.Subscript (.List es p1) e p2) X.env) [] (backTo pos (starEach [] X.env)) (backToKw pos (keywordEach [] X.env))) := by rfl) :
    PE X (.Call (.Subscript (.List es p1) e p2) [] [] pos) (tD G W (dPick (l.map (·.2)) ef)) := by
  refine wkE (pe_callF0 (S := POs G l) (E := WE W) (pe_ix ix_list (pe_lst ha) hi hs) (fun f sp h => by
    obtain ⟨o, h1, rfl⟩ := POs_mem h
    exact A f o h1) hr (passAt tk) ht) fun σ H Q ⟨ρ, B, φ, S, w, en, h⟩ => ?_
  refine ⟨by rw [List.length_map, List.length_map, sizeLine_eq]; omega, fun p hp => ?_⟩
  have w1 := w.hide (o := .lst ((l.map (·.1)).map V.ref)) hp
  have x1 : Xt H B φ (upd H p (.lst ((l.map (·.1)).map V.ref))) B φ := Xt.hide w hp
  show tD G W ef σ _ _
  refine tD.run w1 (en.mono x1.b x1.p) (WP.fst (WP.rebase x1 h)) fun d v H2 B2 φ2 S2 x2 w2 en2 r2 q2 => ?_
  split at q2
  · rename_i i
    split at q2
    · rename_i d hd
      obtain ⟨h2, hb2, hf2⟩ := x2.out p _ upd_same (w.bfree hp) (w.fresh hp)
      unfold atI at hd
      rw [List.length_map] at hd
      cases q : ixN l.length i with
      | none => rw [q] at hd; cases hd
      | some j =>
        rw [q] at hd
        have hd : (l.map (·.2))[j]? = some (PO.ok d) := hd
        rw [List.getElem?_map, Option.map_eq_some_iff] at hd
        obtain ⟨z, hz, ez⟩ := hd
        obtain ⟨f, o⟩ := z
        have ez : o = PO.ok d := ez
        subst ez
        have hj : atI ((l.map (·.1)).map V.ref) i = some (V.ref f) := by
          unfold atI
          rw [List.length_map, List.length_map, q]
          show ((l.map (·.1)).map V.ref)[j]? = _
          rw [List.getElem?_map, List.getElem?_map, hz]; rfl
        refine ⟨p, _, i, V.ref f, rfl, rep_int.mp r2, SqL.of h2, hj, f, _, rfl, POs_at hn (List.mem_of_getElem? hz), ?_⟩
        refine ⟨B2, [], w2.sub, Reps.nil, rfl, fun H' B' v' xx s' r' => ?_⟩
        obtain ⟨w3, x3⟩ := w2.call xx s'
        exact q2 H' B' φ2 x3 w3 v' r'
    · exact q2.elim
  · exact q2.elim
end
end DL

set_option maxHeartbeats 4000000
namespace DL
open PySem L2
open PySem.Spec PyProof.Rows
/-! ### texts -/
section
variable {X : Cx} {G : Gx} {W : WX} {e o : Expr} {ef eg : Ef} {pos apos p : Pos} {H B : Hp} {φ : List Addr} {S : Sto} {σ : L2.St} {ρ : Nv}
def nStr : OpN := fun xs S => match xs with
  | [.p (.int i)] => if i.natAbs < wid then .ok (.p (.str (Str.ofString (toString i)))) S else .bad
  | [.p (.str x)] => .ok (.p (.str x)) S
  | _ => .bad
theorem call_strX : CallR X (.type "str") (fun xs H Q => (∃ i : Int, xs = [.int i] ∧ i.natAbs.log2 < 1920 ∧ Q (.str (Str.ofString (toString i))) H) ∨ ∃ a, xs = [.str a] ∧ Q (.str a) H) :=
  fun pins s σ H xs us Q I r h => h.elim (call_str_int pins s σ H xs us Q I r) (SkE.call_str_str pins s σ H xs us Q I r)
theorem nStr_ok : OkN G W (fun xs H Q => (∃ i : Int, xs = [.int i] ∧ i.natAbs.log2 < 1920 ∧ Q (.str (Str.ofString (toString i))) H) ∨ ∃ a, xs = [.str a] ∧ Q (.str a) H) nStr := by
  intro H B φ S σ xs vs Q w r h
  unfold nStr at h
  split at h
  · split at h
    · rename_i i hi
      obtain ⟨v, rfl, rv⟩ := rvs1 r
      refine .inl ⟨i, by rw [rep_int.mp rv], ?_, h H B φ Xt.refl w _ (rep_str.mpr rfl)⟩
      by_cases z : i.natAbs = 0
      · rw [z]; decide
      · have : i.natAbs < 2 ^ 250 := hi
        have := (Nat.log2_lt z).mpr this
        omega
    · exact h.elim
  · obtain ⟨v, rfl, rv⟩ := rvs1 r
    exact .inr ⟨_, by rw [rep_str.mp rv], h H B φ Xt.refl w _ (rep_str.mpr rfl)⟩
  · exact h.elim
/-- int(text) -/
def nIntS : OpN := fun xs S => match xs with
  | [.p (.str a)] => match PySem.intText? a with
    | some n => if a.length ≤ 640 then .ok (.p (.int n)) S else .bad
    | none => .bad
  | _ => .bad
theorem nIntS_ok : OkN G W (fun xs H Q => ∃ a n, xs = [.str a] ∧ PySem.intText? a = some n ∧ a.length ≤ 640 ∧ Q (.int n) H) nIntS := by
  intro H B φ S σ xs vs Q w r h
  unfold nIntS at h
  split at h
  · split at h
    · rename_i n hn
      split at h
      · rename_i hl
        obtain ⟨v, rfl, rv⟩ := rvs1 r
        exact ⟨_, n, by rw [rep_str.mp rv], hn, hl, h H B φ Xt.refl w _ (rep_int.mpr rfl)⟩
      · exact h.elim
    · exact h.elim
  · exact h.elim
/-- len(text) -/
def nLenS : OpN := fun xs S => match xs with
  | [.p (.str a)] => if a.length ≤ big then .ok (.p (.int a.length)) S else .bad
  | _ => .bad
theorem nLenS_ok : OkN G W (fun xs H Q => ∃ z : Str, xs = [.str z] ∧ z.length ≤ sizeLine ∧ Q (.int z.length) H) nLenS := by
  intro H B φ S σ xs vs Q w r h
  unfold nLenS at h
  split at h
  · split at h
    · rename_i hl
      obtain ⟨v, rfl, rv⟩ := rvs1 r
      exact ⟨_, by rw [rep_str.mp rv], by rw [← big_eq]; exact hl, h H B φ Xt.refl w _ (rep_int.mpr rfl)⟩
    · exact h.elim
  · exact h.elim
/-- text * n -/
def oMulS : Op2 := fun x y S => match x, y with
  | .p (.str a), .p (.int n) => if n < 1000 ∧ 0 ≤ n ∧ a.length ≤ 1000 then .ok (.p (.str (Txt.mul a n))) S else .bad
  | _, _ => .bad
abbrev rMulS : R2 := fun x y H Q => ∃ a n, x = .str a ∧ y = .int n ∧ MulOk a n ∧ Q (.str (Txt.mul a n)) H
theorem op_mulS : OpR X (binaryOp .Mult) rMulS := by
  intro pins s σ H x y v u Q I rx ry h
  obtain ⟨a, n, rfl, rfl, hm, q⟩ := h
  obtain ⟨t, rfl⟩ := (show ∃ t, v = Value.str a t from rx)
  obtain ⟨t', rfl⟩ := (show ∃ t', u = Value.int n t' from ry)
  exact PySem.SB.mul hm fun t2 k => ⟨.str (Txt.mul a n), H, I.tok _, ⟨_, rfl⟩, q⟩
theorem oMulS_ok : Ok2 G W rMulS oMulS := by
  intro H B φ S σ x y v u Q w r1 r2 h
  unfold oMulS at h
  split at h
  · split at h
    · rename_i a n hl
      refine ⟨a, n, rep_str.mp r1, rep_int.mp r2, ⟨?_, fun h1 _ => ?_, fun h1 _ => ?_⟩, h H B φ Xt.refl w _ (rep_str.mpr rfl)⟩
      · rw [decide_eq_false (by omega), decide_eq_false (by omega)]; rfl
      · have h2 : (1000 : Int) ≤ (2 ^ 63 - 1) / n := by
          rw [Int.le_ediv_iff_mul_le (by omega)]
          have : (1000 : Int) * n ≤ 1000 * 1000 := by omega
          omega
        omega
      · unfold Builtin.Str.tooLong
        rw [sizeLine_eq]
        refine decide_eq_false fun q => ?_
        have h3 : n.toNat ≤ 1000 := by omega
        have : a.length * n.toNat ≤ 1000 * 1000 := Nat.mul_le_mul hl.2.2 h3
        omega
    · exact h.elim
  · exact h.elim
/-- text[i] -/
def oIxS : Op2 := fun x y S => match x, y with
  | .p (.str z), .p (.int i) => if 0 ≤ i ∧ i < 1000000 then match z.cps[i.toNat]? with
    | some c => .ok (.p (.str ⟨#[c]⟩)) S
    | none => .bad
    else .bad
  | _, _ => .bad
theorem de_ixS {a b : Expr} (ha : PE X a (tD G W ef)) (hb : PE X b (tD G W eg)) (hs : PlainIxT b) : PE X (.Subscript a b pos) (tD G W (dBin oIxS ef eg)) := by
  refine wkE (pe_item_str ha hb hs) fun σ H Q ⟨ρ, B, φ, S, w, en, q⟩ => ?_
  refine tD.run w en (WP.fst q) fun x v H1 B1 φ1 S1 x1 w1 en1 r1 q1 => ?_
  refine tD.run w1 en1 (WP.fst q1) fun y u H2 B2 φ2 S2 x2 w2 en2 r2 q2 => ?_
  unfold oIxS at q2
  split at q2
  · rename_i z i
    split at q2
    · rename_i hl
      split at q2
      · rename_i c hc
        have e1 := rep_str.mp (RepV.mono x2.b x2.p _ r1)
        have hlt : i.toNat < z.cps.size := (Array.getElem?_eq_some_iff.mp hc).1
        refine ⟨z, i, c, e1, rep_int.mp r2, hl.1, by omega, ?_, hc, q2 H2 B2 φ2 Xt.refl w2 _ (rep_str.mpr rfl)⟩
        show i < (z.cps.size : Nat)
        omega
      · exact q2.elim
    · exact q2.elim
  · exact q2.elim
/-- sign in text -/
def oInC (neg : Bool) : Op2 := fun x y S => match x, y with
  | .p (.str ⟨⟨[c]⟩⟩), .p (.str z) => .ok (.p (.bl (if neg = true then !decide (c ∈ z.cps.toList) else decide (c ∈ z.cps.toList)))) S
  | _, _ => .bad
abbrev rInC (neg : Bool) : R2 := fun x y H Q => ∃ (c : Nat) (z : Str), x = .str ⟨#[c]⟩ ∧ y = .str z ∧ Q (.bl (if neg = true then !decide (c ∈ z.cps.toList) else decide (c ∈ z.cps.toList))) H
theorem oInC_ok {neg : Bool} : Ok2 G W (rInC neg) (oInC neg) := by
  intro H B φ S σ x y v u Q w r1 r2 h
  unfold oInC at h
  split at h
  · exact ⟨_, _, rep_str.mp r1, rep_str.mp r2, h H B φ Xt.refl w _ (rep_bl.mpr rfl)⟩
  · exact h.elim
theorem op_inC : OpR X (compareOp .In) (rInC false) := fun pins s σ H x y v u Q I rx ry h => op_in_sign pins s σ H x y v u Q I rx ry h
theorem op_notInC : OpR X (compareOp .NotIn) (rInC true) := fun pins s σ H x y v u Q I rx ry h => op_notIn_sign pins s σ H x y v u Q I rx ry h
/-- sep.join(texts) -/
def dJoin (f g : Ef) : Ef := fun ρ S => (f ρ S).bind fun d S1 => match d with
  | .p (.str a) => (g ρ S1).bind fun d2 S2 => match sqOf S2 d2 with
    | some ds => match strsOf ds with
      | some ys => if (ys.map (·.length)).sum + ys.length * a.length ≤ 16777216 then .ok (.p (.str (Txt.join a ys))) S2 else .bad
      | none => .bad
    | none => .bad
  | _ => .bad
theorem de_join (hK : X.K = G.K) (ho : PE X o (tD G W ef)) (he : PE X e (tD G W eg)) (hs : starEach [e] X.env = [(false, eval e X.env)] := by rfl) (hbase : attributeBase o "join" X.env (eval o X.env) = eval o X.env := by rfl) (hline : (apos.endLine == pos.line) = true := by rfl) :
    PE X (.Call (.Attribute o "join" apos) [e] [] pos) (tD G W (dJoin ef eg)) := by
  refine wkE (pe_join ho he hs hbase hline) fun σ H Q ⟨ρ, B, φ, S, w, en, h⟩ => tD.run w en (WP.fst h) fun d v H1 B1 φ1 S1 x1 w1 en1 r1 q1 => ?_
  split at q1
  · rename_i a
    have e1 := rep_str.mp r1
    refine ⟨⟨a, e1⟩, ?_⟩
    refine tD.run w1 en1 (WP.fst q1) fun d2 v2 H2 B2 φ2 S2 x2 w2 en2 r2 q2 => ?_
    split at q2
    · rename_i ds hd
      split at q2
      · rename_i ys hy
        split at q2
        · rename_i hl
          obtain ⟨b, xs, rfl, s1, rr⟩ := sq_at w2 r2 hd
          have ev := strs_at hy rr
          subst ev
          exact ⟨a, b, ys, e1, rfl, by rw [hK]; exact s1, hl, q2 H2 B2 φ2 Xt.refl w2 _ (rep_str.mpr rfl)⟩
        · exact q2.elim
      · exact q2.elim
    · exact q2.elim
  · exact q1.elim
/-- text.split(sep) -/
def dSplit (f g : Ef) : Ef := fun ρ S => (f ρ S).bind fun d S1 => match d with
  | .p (.str a) => (g ρ S1).bind fun d2 S2 => match d2 with
    | .p (.str b) => if (b.length == 0) = false ∧ a.length + 2 ≤ big then .ok (.p (.lst ((Txt.split a b).map D.str))) S2 else .bad
    | _ => .bad
  | _ => .bad
theorem de_split (ho : PE X o (tD G W ef)) (he : PE X e (tD G W eg)) (hs : starEach [e] X.env = [(false, eval e X.env)] := by rfl) (hbase : attributeBase o "split" X.env (eval o X.env) = eval o X.env := by rfl) (hline : (apos.endLine == pos.line) = true := by rfl) :
    PE X (.Call (.Attribute o "split" apos) [e] [] pos) (tD G W (dSplit ef eg)) := by
  refine wkE (pe_split ho he hs hbase hline) fun σ H Q ⟨ρ, B, φ, S, w, en, h⟩ => tD.run w en (WP.fst h) fun d v H1 B1 φ1 S1 x1 w1 en1 r1 q1 => ?_
  split at q1
  · rename_i a
    have e1 := rep_str.mp r1
    refine ⟨⟨a, e1⟩, ?_⟩
    refine tD.run w1 en1 (WP.fst q1) fun d2 v2 H2 B2 φ2 S2 x2 w2 en2 r2 q2 => ?_
    split at q2
    · rename_i b
      split at q2
      · rename_i hl
        refine ⟨a, b, e1, by rw [rep_str.mp r2], hl.1, by rw [← big_eq]; exact hl.2, fun q hq => ?_⟩
        exact q2 _ _ _ (Xt.alloc w2 hq) (w2.alloc hq) _ (rep_lst.mpr ⟨q, _, rfl, upd_same, Reps.strs _⟩)
      · exact q2.elim
    · exact q2.elim
  · exact q1.elim
theorem de_globS {x : Str} {z : Str} {t : Tok} (hg : Gl X x) (hm : X.mg x = some (.str z t)) (hd : (x == ("__debug__" : Str)) = false := by decide) : PE X (.Name x pos) (tD G W (dC (.str z))) :=
  wkE (pe_glob hg hm (v := .str z) ⟨_, rfl⟩ hd) fun σ H Q ⟨ρ, B, φ, S, w, en, h⟩ => h H B φ Xt.refl w _ (rep_str.mpr rfl)
/-- for sign in text -/
def sgD (x : Str) : List D := x.cps.toList.map fun c => .str ⟨#[c]⟩
theorem yl_str (x : Str) : Yl G (Its x) (sgD x) B := by
  intro i H B1 φ S w sb
  have hl : (sgD x).length = x.cps.size := by unfold sgD; rw [List.length_map, Array.length_toList]
  refine ⟨fun hi => ⟨by show i < x.cps.size; omega, fun y H' ⟨e, c, hc, ey⟩ => ?_⟩, fun hi => by show x.cps.size ≤ i; omega⟩
  subst e
  subst ey
  refine ⟨.str ⟨#[c]⟩, B1, ?_, Xt.refl, w, by unfold Rep; rfl⟩
  unfold sgD
  rw [List.getElem?_map, Array.getElem?_toList, hc]; rfl
def iStrF (f : Ef) : If := fun ρ S => (f ρ S).bind fun d S1 => match d with
  | .p (.str x) => .ok (sgD x) S1
  | _ => .bad
theorem di_str {tg : Expr} (he : PE X e (tD G W ef)) : PI X tg e (tI G W (iStrF ef)) := by
  refine wkI (pi_str he) fun σ H R ⟨ρ, B, φ, S, w, en, h⟩ => tD.run w en (WP.fst h) fun d v H1 B1 φ1 S1 x1 w1 en1 r1 q1 => ?_
  split at q1
  · rename_i x
    exact ⟨x, rep_str.mp r1, q1 H1 B1 φ1 Xt.refl w1 _ (yl_str x)⟩
  · exact q1.elim
end
/-! ### lists of anything: what a comprehension makes -/
def compLV (t : Tgt) (ifs : Tf) (el : Ef) (ρ : Nv) : List D → Sto → Out (List Dv)
  | [], S => .ok [] S
  | d :: ds, S => match t (.p d) ρ with
    | none => .bad
    | some ρ1 => (ifs ρ1 S).nox.bind fun b S1 => if b = true then (el ρ1 S1).nox.bind (fun x S2 => (compLV t ifs el ρ ds S2).bind fun r S3 => Out.ok (x :: r) S3) else compLV t ifs el ρ ds S1
def dCompR (vs : List Nat) (it : If) (t : Tgt) (ifs : Tf) (el : Ef) : Ef := fun ρ S => (it ρ S).bind fun ds S1 => if ds.length ≤ big then (compLV t ifs el (wipeN ρ vs) ds S1).bind (fun r S2 => .ok (.hnd S2.length) (S2 ++ [.rcd r])) else .bad
section
variable {X : Cx} {G : Gx} {W : WX} {H B : Hp} {φ : List Addr} {S : Sto} {σ : L2.St}
theorem RepVs.nil : RepVs G B φ [] [] := rfl
theorem RepVs.one {d : Dv} {v : V} (h : RepV G B φ d v) : RepVs G B φ [d] [v] := ⟨v, [], rfl, h, rfl⟩
theorem Wd.hired {D : Addr} {av : List V} {acc : List Dv} {H1 B1 : Hp} {φ1 : List Addr} (w : Wd G H B φ S) (x : Xt H1 B1 φ1 H B φ) (hD : H1 D = Option.none) (hb : B D = Option.none) (hf : D ∉ φ) (hh : H D = some (.lst av)) (rr : RepVs G B φ acc av) :
    Wd G H B (φ ++ [D]) (S ++ [.rcd acc]) ∧ Xt H1 B1 φ1 H B (φ ++ [D]) ∧ RepV G B (φ ++ [D]) (.hnd S.length) (.ref D) := by
  refine ⟨w.cellOf hh hb hf ⟨hb, av, hh, RepVs.mono (Same.refl _) (List.prefix_append _ _) _ rr⟩ rfl, ⟨x.b, x.p.trans (List.prefix_append _ _), fun a u h1 h2 h3 => ?_⟩, ⟨D, ?_, rfl⟩⟩
  · obtain ⟨q1, q2, q3⟩ := x.out a u h1 h2 h3
    have na : a ≠ D := ne_of_none h1 hD
    exact ⟨q1, q2, fun z => (List.mem_append.mp z).elim q3 fun z => na (by simpa using z)⟩
  · rw [← w.len, List.getElem?_append_right (Nat.le_refl _), Nat.sub_self]; rfl
theorem compR_le {own : List (Str × Nat)} {it : If} {ts : List Nat} {t : Tgt} {cf : Tf} {el : Ef} (hts : ∀ i ∈ ts, i ∈ own.map (·.2)) :
    ∀ σ H Q, tD G W (dCompR (own.map (·.2)) it t cf el) σ H Q → tLc (tI G W it) (tG G ts t) (tT G noW cf) (tD G noW el) (own.map (·.2)) σ H Q := by
  rintro σ H Q ⟨ρ, B, φ, S, w, en, h⟩
  refine ⟨ρ, B, φ, S, w, en, (WP.fst h).mono fun ds H1 B1 φ1 S1 x1 w1 q1 J yl => ?_⟩
  split at q1
  · rename_i hbig
    intro D hD
    have en1 := (en.mono x1.b x1.p).wipe (own.map (·.2))
    generalize hvs : own.map (·.2) = vs at *
    have nD1 : D ∉ φ1 := w1.fresh hD
    let fin : List Dv → List Dv → Sto → Out Dv := fun acc r S2 => .ok (.hnd S2.length) (S2 ++ [.rcd (acc ++ r)])
    refine ⟨fun i m H => ∃ B φ S acc av, Wd G H B φ S ∧ Xt H1 B1 φ1 H B φ ∧ B D = none ∧ D ∉ φ ∧ H D = some (.lst av) ∧ RepVs G B φ acc av ∧ acc.length ≤ i ∧ i ≤ ds.length ∧ m = ds.length - i ∧
        WP G W σ H1 B1 φ1 ((compLV t cf el (wipeN ρ vs) (ds.drop i) S).bind (fin acc)) (fun d H' B' φ' _ => ∀ v, RepV G B' φ' d v → Q v H'),
      ⟨_, B1, φ1, S1, [], [], w1.hide hD, Xt.hide w1 hD, w1.bfree hD, nD1, upd_same, RepVs.nil, Nat.le_refl _, Nat.zero_le _, rfl, q1⟩, ?_⟩
    rintro i m H ⟨B, φ, S, acc, av, w, x, hb, hf, hh, rr, hai, hi, rfl, q⟩
    obtain ⟨y1, y2⟩ := yl i H B φ S w x.b
    by_cases hlt : i < ds.length
    · obtain ⟨go, y1⟩ := y1 hlt
      refine .inr ⟨go, fun H' => ∃ B φ S acc av, Wd G H' B φ S ∧ Xt H1 B1 φ1 H' B φ ∧ B D = none ∧ D ∉ φ ∧ H' D = some (.lst av) ∧ RepVs G B φ acc av ∧ acc.length ≤ i + 1 ∧
        WP G W σ H1 B1 φ1 ((compLV t cf el (wipeN ρ vs) (ds.drop (i + 1)) S).bind (fin acc)) (fun d H' B' φ' _ => ∀ v, RepV G B' φ' d v → Q v H'), ?_, ?_⟩
      · rintro H' ⟨B', φ', S', acc', av', w', x', hb', hf', hh', rr', hai', q'⟩
        exact ⟨ds.length - (i + 1), by omega, B', φ', S', acc', av', w', x', hb', hf', hh', rr', hai', hlt, rfl, q'⟩
      · intro y H' hy
        obtain ⟨d, B', hd, xx, w', r⟩ := y1 y H' hy
        rw [List.drop_eq_getElem_cons hlt] at q
        have ed : ds[i] = d := by rw [List.getElem?_eq_getElem hlt] at hd; exact Option.some.inj hd
        rw [ed] at q
        unfold compLV at q
        have x' := x.trans xx
        obtain ⟨hh', hb', hf'⟩ := xx.out D _ hh hb hf
        refine ⟨wipeN ρ vs, B', φ, S, .p d, w', en1.mono x'.b x'.p, r, ?_⟩
        cases e1 : t (.p d) (wipeN ρ vs) with
        | none => rw [e1] at q; exact q.elim
        | some ρ1 =>
          rw [e1] at q
          dsimp only at q
          refine fun σ2 en2 k2 => ⟨(k2 vs hts).trans (wipe_wipe vs fun _ z => z), ρ1, B', φ, S, w', en2, ?_⟩
          cases e2 : cf ρ1 S with
          | bad => rw [e2] at q; exact q.elim
          | exc e' S' => rw [e2] at q; exact q.elim
          | ok b S2 =>
            rw [e2] at q
            have q : WP G W σ H1 B1 φ1 ((if b = true then (el ρ1 S2).nox.bind (fun x S2 => (compLV t cf el (wipeN ρ vs) (ds.drop (i + 1)) S2).bind fun r S3 => Out.ok (x :: r) S3) else compLV t cf el (wipeN ρ vs) (ds.drop (i + 1)) S2).bind (fin acc)) (fun d H' B' φ' _ => ∀ v, RepV G B' φ' d v → Q v H') := q
            intro H3 B3 φ3 x3 w3
            obtain ⟨hh3, hb3, hf3⟩ := x3.out D _ hh' hb' hf'
            have x03 := x'.trans x3
            cases b with
            | false =>
              rw [if_neg Bool.false_ne_true] at q ⊢
              exact ⟨B3, φ3, S2, acc, av, w3, x03, hb3, hf3, hh3, RepVs.mono (xx.b.trans x3.b) (xx.p.trans x3.p) _ rr, Nat.le_succ_of_le hai, q⟩
            | true =>
              rw [if_pos rfl] at q ⊢
              refine ⟨ρ1, B3, φ3, S2, w3, en2.mono x3.b x3.p, ?_⟩
              cases e3 : el ρ1 S2 with
              | bad => rw [e3] at q; exact q.elim
              | exc e' S' => rw [e3] at q; exact q.elim
              | ok dv S4 =>
                rw [e3] at q
                have q : WP G W σ H1 B1 φ1 (((compLV t cf el (wipeN ρ vs) (ds.drop (i + 1)) S4).bind fun r S3 => Out.ok (dv :: r) S3).bind (fin acc)) (fun d H' B' φ' _ => ∀ v, RepV G B' φ' d v → Q v H') := q
                rw [Out.bind_assoc] at q
                intro H4 B4 φ4 x4 w4 v4 r4
                obtain ⟨hh4, hb4, hf4⟩ := x4.out D _ hh3 hb3 hf3
                have x04 := x03.trans x4
                have rr4 : RepVs G B4 φ4 acc av := RepVs.mono (xx.b.trans (x3.b.trans x4.b)) (xx.p.trans (x3.p.trans x4.p)) _ rr
                refine ⟨av, hh4, ?_, B4, φ4, S4, acc ++ [dv], av ++ [v4], w4.priv hb4 hf4, ⟨x04.b, x04.p, fun a u h1 h2 h3 => ?_⟩, hb4, hf4, upd_same, rr4.append (RepVs.one r4), by rw [List.length_append]; show acc.length + 1 ≤ _; omega, ?_⟩
                · rw [← rr4.length, ← big_eq]; omega
                · have na : a ≠ D := ne_of_none h1 hD
                  rw [upd_ne na]
                  exact x04.out a u h1 h2 h3
                · have e5 : (fun (r : List Dv) (S2 : Sto) => (Out.ok (dv :: r) S2).bind (fin acc)) = fin (acc ++ [dv]) := by
                    funext r S2
                    show Out.ok (Dv.hnd S2.length) (S2 ++ [.rcd (acc ++ (dv :: r))]) = Out.ok (Dv.hnd S2.length) (S2 ++ [.rcd ((acc ++ [dv]) ++ r)])
                    rw [List.append_assoc]; rfl
                  rw [← e5]
                  exact q
    · have e : i = ds.length := by omega
      subst e
      rw [List.drop_length] at q
      refine .inl ⟨y2 rfl, ?_⟩
      have q : WP G W σ H1 B1 φ1 (.ok (.hnd S.length) (S ++ [.rcd (acc ++ [])])) (fun d H' B' φ' _ => ∀ v, RepV G B' φ' d v → Q v H') := q
      rw [List.append_nil] at q
      obtain ⟨z1, z2, z3⟩ := w.hired x hD hb hf hh rr
      exact q H B (φ ++ [D]) z2 z1 _ z3
  · exact q1.elim
theorem de_compR {elt tg iter : Expr} {ifs : List Expr} {scope : Scope} {own : List (Str × Nat)} {it : If} {ts : List Nat} {t : Tgt} {cf : Tf} {el : Ef} {pos : Pos} (hc : X.calm = true) (hN : X.N.Nodup) (hi : PI X tg iter (tI G W it)) (ok : BlkOk X.N X.env.scope scope own)
    (hts : ∀ i ∈ ts, i ∈ own.map (·.2))
    (hg : ∀ (s : Shared) (H : Hp) (C : Addr) (cl : List (Str × Addr)) (fp : List Addr), PG (X.blk s H scope (compEnvC scope cl C X.env) fp) tg (tG G ts t))
    (ht : ∀ (s : Shared) (H : Hp) (C : Addr) (cl : List (Str × Addr)) (fp : List Addr), PTs (X.blk s H scope (compEnvC scope cl C X.env) fp) ifs (tT G noW cf))
    (he : ∀ (s : Shared) (H : Hp) (C : Addr) (cl : List (Str × Addr)) (fp : List Addr), PE (X.blk s H scope (compEnvC scope cl C X.env) fp) elt (tD G noW el))
    (hs : ∀ x, foldedSetIterable iter X.env x = pure x := by intro _; rfl) :
    PE X (.ListComp elt [⟨tg, iter, ifs, 0⟩] scope pos) (tD G W (dCompR (own.map (·.2)) it t cf el)) :=
  wkE (pe_lc hc hN hi ok hg ht he hs) (compR_le hts)
theorem dp_setLcR {i : Nat} {y : Str} {py spos pos : Pos} {elt tg iter : Expr} {ifs : List Expr} {scope : Scope} {own : List (Str × Nat)} {it : If} {ts : List Nat} {t : Tgt} {cf : Tf} {el : Ef} (hc : X.calm = true) (hN : X.N.Nodup) (hy : X.N[i]? = some y) (hyl : X.env.scope.names.lookup y = some .local) (hk : X.env.scope.kind = .function) (hl : (py.line == pos.line) = true) (hna : (scope.names.any fun (n, k) => n == y && (k == .local || k == .cell)) = false) (hi : PI X tg iter (tI G W it)) (ok : BlkOk X.N X.env.scope scope own)
    (hts : ∀ i ∈ ts, i ∈ own.map (·.2))
    (hg : ∀ (s : Shared) (H : Hp) (C : Addr) (cl : List (Str × Addr)) (fp : List Addr), PG (X.blk s H scope (compEnvC scope cl C X.env) fp) tg (tG G ts t))
    (ht : ∀ (s : Shared) (H : Hp) (C : Addr) (cl : List (Str × Addr)) (fp : List Addr), PTs (X.blk s H scope (compEnvC scope cl C X.env) fp) ifs (tT G noW cf))
    (he : ∀ (s : Shared) (H : Hp) (C : Addr) (cl : List (Str × Addr)) (fp : List Addr), PE (X.blk s H scope (compEnvC scope cl C X.env) fp) elt (tD G noW el))
    (hs : ∀ x, foldedSetIterable iter X.env x = pure x := by intro _; rfl) :
    PS X (.Assign [.Name y py] (.ListComp elt [⟨tg, iter, ifs, 0⟩] scope pos) spos) (tS G W (sSet i (dCompR (own.map (·.2)) it t cf el))) := by
  refine wkS (ps_setLc hc hN hy hyl (sw_true hk hyl hl hna) hi ok hg ht he hs) fun D σ H ⟨ρ, B, φ, S, w, en, h⟩ => ?_
  refine compR_le hts σ H _ ⟨ρ, B, φ, S, w, en, (WPS.fst en h).mono fun a H1 B1 φ1 S1 x1 w1 q1 v r1 => ?_⟩
  exact WPS.here w1 q1 _ ((en.mono x1.b x1.p).set i r1)
/-! ### .. over a list of anything -/
def compLS (t : Tgt) (ifs : Tf) (el : Ef) (ρ : Nv) (n : Nat) : Nat → Nat → Sto → Out (List D)
  | 0, i, S => match S[n]? with
    | some (.rcd es) => if es.length = i then .ok [] S else .bad
    | _ => .bad
  | k + 1, i, S => match S[n]? with
    | some (.rcd es) => match es[i]? with
      | some d => match t d ρ with
        | none => .bad
        | some ρ1 => (ifs ρ1 S).nox.bind fun b S1 => if b = true then (el ρ1 S1).nox.bind (fun x S2 => match x with
            | .p d' => (compLS t ifs el ρ n k (i + 1) S2).bind fun r S3 => Out.ok (d' :: r) S3
            | .hnd _ => .bad) else compLS t ifs el ρ n k (i + 1) S1
      | none => .bad
    | _ => .bad
def dCompS (vs : List Nat) (f : Ef) (t : Tgt) (ifs : Tf) (el : Ef) : Ef := fun ρ S => (f ρ S).bind fun d S1 => match d with
  | .hnd n => match S1[n]? with
    | some (.rcd es) => if es.length ≤ big then (compLS t ifs el (wipeN ρ vs) n es.length 0 S1).bind (fun r S2 => .ok (.p (.lst r)) S2) else .bad
    | _ => .bad
  | _ => .bad
theorem compS_le {own : List (Str × Nat)} {f : Ef} {ts : List Nat} {t : Tgt} {cf : Tf} {el : Ef} (hts : ∀ i ∈ ts, i ∈ own.map (·.2)) :
    ∀ σ H Q, tD G W (dCompS (own.map (·.2)) f t cf el) σ H Q → tLc (iList G.K (tD G W f)) (tG G ts t) (tT G noW cf) (tD G noW el) (own.map (·.2)) σ H Q := by
  rintro σ H Q ⟨ρ, B, φ, S, w, en, h⟩
  show tD G W f σ H _
  refine tD.run w en (WP.fst h) fun d v H1 B1 φ1 S1 x1 w1 en0 r1 q1 => ?_
  split at q1
  · rename_i n
    split at q1
    · rename_i es0 hs0
      split at q1
      · rename_i hbig
        obtain ⟨p, hφ, rfl⟩ := r1
        have c0 : CellR G H1 B1 φ1 p (.rcd es0) := w1.cell n p _ hφ hs0
        obtain ⟨_, xs0, hx0, _⟩ := c0
        refine ⟨p, rfl, ⟨xs0, SqL.of hx0⟩, ?_⟩
        generalize hL : es0.length = L at *
        intro D hD
        have en1 := en0.wipe (own.map (·.2))
        generalize hvs : own.map (·.2) = vs at *
        have nD1 : D ∉ φ1 := w1.fresh hD
        refine ⟨fun i m H => ∃ B φ S acc av, Wd G H B φ S ∧ Xt H1 B1 φ1 H B φ ∧ B D = none ∧ D ∉ φ ∧ H D = some (.lst av) ∧ Reps G B acc av ∧ acc.length ≤ i ∧ m + i = L ∧
            WP G W σ H1 B1 φ1 ((compLS t cf el (wipeN ρ vs) n m i S).bind fun r S2 => Out.ok (Dv.p (DL.D.lst (acc ++ r))) S2) (fun d H' B' φ' _ => ∀ v, RepV G B' φ' d v → Q v H'),
          ⟨L, B1, φ1, S1, [], [], w1.hide hD, Xt.hide w1 hD, w1.bfree hD, nD1, upd_same, Reps.nil, Nat.le_refl _, Nat.add_zero _, q1⟩, ?_⟩
        rintro i m H ⟨B, φ, S, acc, av, w, x, hb, hf, hh, rr, hai, hmi, q⟩
        have hφ' : φ[n]? = some p := by
          obtain ⟨tt, rfl⟩ := x.p
          rw [List.getElem?_append_left (List.getElem?_eq_some_iff.mp hφ).1]; exact hφ
        cases m with
        | zero =>
          unfold compLS at q
          split at q
          · rename_i es hs
            split at q
            · rename_i hl
              have c1 : CellR G H B φ p (.rcd es) := w.cell n p _ hφ' hs
              obtain ⟨_, xs, hx, rx⟩ := c1
              refine .inl ⟨⟨xs, SqL.of hx, by rw [← rx.length]; omega⟩, ?_⟩
              have q : WP G W σ H1 B1 φ1 (.ok (.p (.lst (acc ++ []))) S) (fun d H' B' φ' _ => ∀ v, RepV G B' φ' d v → Q v H') := q
              rw [List.append_nil] at q
              have sb : Same B (upd B D (.lst av)) := same_upd' hb
              refine q H (upd B D (.lst av)) φ ⟨x.b.trans sb, x.p, fun a u h1 h2 h3 => ?_⟩ (w.adopt hh hb hf) _ (rep_lst.mpr ⟨D, av, rfl, upd_same, Reps.mono sb _ rr⟩)
              have na : a ≠ D := ne_of_none h1 hD
              rw [upd_ne na]
              exact x.out a u h1 h2 h3
            · exact q.elim
          · exact q.elim
        | succ m =>
          unfold compLS at q
          split at q
          · rename_i es hs
            split at q
            · rename_i d hd
              have c1 : CellR G H B φ p (.rcd es) := w.cell n p _ hφ' hs
              obtain ⟨_, xs, hx, rx⟩ := c1
              obtain ⟨u0, hu0, ru0⟩ := rx.get hd
              refine .inr ⟨⟨xs, u0, SqL.of hx, hu0⟩, fun H' => ∃ B φ S acc av, Wd G H' B φ S ∧ Xt H1 B1 φ1 H' B φ ∧ B D = none ∧ D ∉ φ ∧ H' D = some (.lst av) ∧ Reps G B acc av ∧ acc.length ≤ i + 1 ∧
                WP G W σ H1 B1 φ1 ((compLS t cf el (wipeN ρ vs) n m (i + 1) S).bind fun r S2 => Out.ok (Dv.p (DL.D.lst (acc ++ r))) S2) (fun d H' B' φ' _ => ∀ v, RepV G B' φ' d v → Q v H'), ?_, ?_⟩
              · rintro H' ⟨B', φ', S', acc', av', w', x', hb', hf', hh', rr', hai', q'⟩
                exact ⟨m, Nat.lt_succ_self _, B', φ', S', acc', av', w', x', hb', hf', hh', rr', hai', by omega, q'⟩
              · intro y H' hy
                obtain ⟨eH, hy⟩ := hy
                subst eH
                have ey : y = u0 := Option.some.inj ((hy xs (SqL.of hx)).symm.trans hu0)
                subst ey
                refine ⟨wipeN ρ vs, B, φ, S, d, w, en1.mono x.b x.p, ru0, ?_⟩
                cases e1 : t d (wipeN ρ vs) with
                | none => rw [e1] at q; exact q.elim
                | some ρ1 =>
                  rw [e1] at q
                  dsimp only at q
                  refine fun σ2 en2 k2 => ⟨(k2 vs hts).trans (wipe_wipe vs fun _ z => z), ρ1, B, φ, S, w, en2, ?_⟩
                  cases e2 : cf ρ1 S with
                  | bad => rw [e2] at q; exact q.elim
                  | exc e' S' => rw [e2] at q; exact q.elim
                  | ok b S2 =>
                    rw [e2] at q
                    have q : WP G W σ H1 B1 φ1 ((if b = true then (el ρ1 S2).nox.bind (fun x S2 => match x with
                      | .p d' => (compLS t cf el (wipeN ρ vs) n m (i + 1) S2).bind fun r S3 => Out.ok (d' :: r) S3
                      | .hnd _ => .bad) else compLS t cf el (wipeN ρ vs) n m (i + 1) S2).bind fun r S2 => Out.ok (Dv.p (DL.D.lst (acc ++ r))) S2) (fun d H' B' φ' _ => ∀ v, RepV G B' φ' d v → Q v H') := q
                    intro H3 B3 φ3 x3 w3
                    obtain ⟨hh3, hb3, hf3⟩ := x3.out D _ hh hb hf
                    have x03 := x.trans x3
                    cases b with
                    | false =>
                      rw [if_neg Bool.false_ne_true] at q ⊢
                      exact ⟨B3, φ3, S2, acc, av, w3, x03, hb3, hf3, hh3, Reps.mono x3.b _ rr, Nat.le_succ_of_le hai, q⟩
                    | true =>
                      rw [if_pos rfl] at q ⊢
                      refine ⟨ρ1, B3, φ3, S2, w3, en2.mono x3.b x3.p, ?_⟩
                      cases e3 : el ρ1 S2 with
                      | bad => rw [e3] at q; exact q.elim
                      | exc e' S' => rw [e3] at q; exact q.elim
                      | ok dv S4 =>
                        rw [e3] at q
                        cases dv with
                        | hnd n => exact q.elim
                        | p d' =>
                          have q : WP G W σ H1 B1 φ1 (((compLS t cf el (wipeN ρ vs) n m (i + 1) S4).bind fun r S3 => Out.ok (d' :: r) S3).bind fun r S2 => Out.ok (Dv.p (DL.D.lst (acc ++ r))) S2) (fun d H' B' φ' _ => ∀ v, RepV G B' φ' d v → Q v H') := q
                          rw [Out.bind_assoc] at q
                          intro H4 B4 φ4 x4 w4 v4 r4
                          obtain ⟨hh4, hb4, hf4⟩ := x4.out D _ hh3 hb3 hf3
                          have x04 := x03.trans x4
                          have rr4 : Reps G B4 acc av := Reps.mono (x3.b.trans x4.b) _ rr
                          refine ⟨av, hh4, ?_, B4, φ4, S4, acc ++ [d'], av ++ [v4], w4.priv hb4 hf4, ⟨x04.b, x04.p, fun a u h1 h2 h3 => ?_⟩, hb4, hf4, upd_same, rr4.append (Reps.cons r4 Reps.nil), by rw [List.length_append]; show acc.length + 1 ≤ _; omega, ?_⟩
                          · rw [← rr4.length, ← big_eq]; omega
                          · have na : a ≠ D := ne_of_none h1 hD
                            rw [upd_ne na]
                            exact x04.out a u h1 h2 h3
                          · have e5 : (fun (r : List DL.D) (S2 : Sto) => (Out.ok (d' :: r) S2).bind fun r S2 => Out.ok (Dv.p (.lst (acc ++ r))) S2) = fun r S2 => Out.ok (Dv.p (.lst ((acc ++ [d']) ++ r))) S2 := by
                              funext r S2
                              show Out.ok (Dv.p (.lst (acc ++ (d' :: r)))) S2 = _
                              rw [List.append_assoc]; rfl
                            rw [← e5]
                            exact q
            · exact q.elim
          · exact q.elim
      · exact q1.elim
    · exact q1.elim
  · exact q1.elim
theorem de_compS {elt tg iter : Expr} {ifs : List Expr} {scope : Scope} {own : List (Str × Nat)} {f : Ef} {ts : List Nat} {t : Tgt} {cf : Tf} {el : Ef} {pos : Pos} (hK : X.K = G.K) (hc : X.calm = true) (hN : X.N.Nodup) (hf : PE X iter (tD G W f)) (ok : BlkOk X.N X.env.scope scope own)
    (hts : ∀ i ∈ ts, i ∈ own.map (·.2))
    (hg : ∀ (s : Shared) (H : Hp) (C : Addr) (cl : List (Str × Addr)) (fp : List Addr), PG (X.blk s H scope (compEnvC scope cl C X.env) fp) tg (tG G ts t))
    (ht : ∀ (s : Shared) (H : Hp) (C : Addr) (cl : List (Str × Addr)) (fp : List Addr), PTs (X.blk s H scope (compEnvC scope cl C X.env) fp) ifs (tT G noW cf))
    (he : ∀ (s : Shared) (H : Hp) (C : Addr) (cl : List (Str × Addr)) (fp : List Addr), PE (X.blk s H scope (compEnvC scope cl C X.env) fp) elt (tD G noW el))
    (hs : ∀ x, foldedSetIterable iter X.env x = pure x := by intro _; rfl) :
    PE X (.ListComp elt [⟨tg, iter, ifs, 0⟩] scope pos) (tD G W (dCompS (own.map (·.2)) f t cf el)) :=
  wkE (pe_lc hc hN (pi_list hf) ok hg ht he hs) (by rw [hK]; exact compS_le hts)
/-! ### a slice of a list of anything -/
theorem RepVs.take' : ∀ {ds : List Dv} {vs : List V} (n : Nat), RepVs G B φ ds vs → RepVs G B φ (ds.take n) (vs.take n)
  | ds, vs, 0, _ => by rw [List.take_zero, List.take_zero]; exact RepVs.nil
  | [], _, n + 1, h => by rw [show _ = [] from h]; exact RepVs.nil
  | d :: ds, _, n + 1, ⟨x, r, e, h1, h2⟩ => by
    subst e
    exact ⟨_, _, rfl, h1, h2.take' n⟩
theorem RepVs.drop' : ∀ {ds : List Dv} {vs : List V} (n : Nat), RepVs G B φ ds vs → RepVs G B φ (ds.drop n) (vs.drop n)
  | ds, vs, 0, h => h
  | [], _, n + 1, h => by rw [show _ = [] from h]; exact RepVs.nil
  | d :: ds, _, n + 1, ⟨x, r, e, h1, h2⟩ => by
    subst e
    exact h2.drop' n
def cutV' (ds : List Dv) (lo hi : Option Int) : List Dv := (ds.drop (HT.sIx ds.length 0 lo)).take (HT.sIx ds.length ds.length hi - HT.sIx ds.length 0 lo)
theorem cutV_rep {ds : List Dv} {vs : List V} {lo hi : Option Int} (r : RepVs G B φ ds vs) : RepVs G B φ (cutV' ds lo hi) (cutV vs lo hi) := by
  unfold cutV' cutV
  rw [← r.length]
  exact (r.drop' _).take' _
def dSlR (f : Ef) (l h : Pf) : Ef := fun ρ S => (f ρ S).bind fun d S1 => (l ρ S1).bind fun lo S2 => (h ρ S2).bind fun hi S3 => match d with
  | .hnd n => match S3[n]? with
    | some (.rcd ds) => .ok (.hnd S3.length) (S3 ++ [.rcd (cutV' ds lo hi)])
    | _ => .bad
  | _ => .bad
theorem de_sliceR {lo hi : Option Expr} {lf hf : Pf} {p2 pos : Pos} {e : Expr} {ef : Ef} (he : PE X e (tD G W ef)) (hl : L2.PO X lo (tP G W lf)) (hh : L2.PO X hi (tP G W hf)) : PE X (.Subscript e (.Slice lo hi none p2) pos) (tD G W (dSlR ef lf hf)) := by
  refine wkE (pe_slice sl_list he hl hh) fun σ H Q ⟨ρ, B, φ, S, w, en, h⟩ => tD.run w en (WP.fst h) fun d v H1 B1 φ1 S1 x1 w1 en1 r1 q1 => ?_
  refine ⟨ρ, B1, φ1, S1, w1, en1, (WP.fst q1).mono fun lo H2 B2 φ2 S2 x2 w2 q2 => ?_⟩
  refine ⟨ρ, B2, φ2, S2, w2, en1.mono x2.b x2.p, (WP.fst q2).mono fun hi H3 B3 φ3 S3 x3 w3 q3 => ?_⟩
  have r3 := RepV.mono (x2.b.trans x3.b) (x2.p.trans x3.p) _ r1
  split at q3
  · rename_i n
    split at q3
    · rename_i ds hs
      obtain ⟨a, hφ, rfl⟩ := r3
      obtain ⟨_, xs, hx, rr⟩ : CellR G H3 B3 φ3 a (.rcd ds) := w3.cell n a _ hφ hs
      refine ⟨a, xs, rfl, SqL.of hx, fun p hp => ?_⟩
      obtain ⟨w4, x4, r4⟩ := cell_new (c := .rcd (cutV' ds lo hi)) (o := .lst (cutV xs lo hi)) w3 hp ⟨w3.bfree hp, _, upd_same, RepVs.mono (Same.refl _) (List.prefix_append _ _) _ (cutV_rep rr)⟩
      exact q3 _ _ _ x4 w4 _ r4
    · exact q3.elim
  · exact q3.elim
end
end DL

set_option maxHeartbeats 4000000
namespace DL
open PySem L2
open PySem.Spec PyProof.Rows
/-! ### an error leaves a comprehension -/
theorem note_by_frame {e : Value} {env env' : Env} (h : env.frame = env'.frame) : noteFrame e env = noteFrame e env' := by
  unfold noteFrame PySem.frameOf
  rw [h]
theorem pass_by_frame {α : Type} {what : String} {e : Value} {env env' : Env} (h : env.frame = env'.frame) : (PySem.passOn what e env : Sem α) = PySem.passOn what e env' := by
  unfold PySem.passOn
  rw [h]
theorem frames_cut {B h h' : Heap} {C : Addr} {oC : Obj} (hC : B.get? C = some oC) (k : ∀ b, b ≠ C → h'.get? b = h.get? b) : ∀ {l : List Env}, h.FunFrames B l → h'.FunFrames (PySem.W.hideAll B [C]) l
  | [], _ => trivial
  | env :: l, ⟨m, ⟨L, o, e1, e2, e3, e4⟩, r⟩ => by
    have hL : L ≠ C := fun z => by rw [z, hC] at e2; cases e2
    refine ⟨m, ⟨L, o, e1, ?_, (k L hL).trans e3, e4⟩, frames_cut hC k r⟩
    cases q : (PySem.W.hideAll B [C]).get? L with
    | none => rfl
    | some o' => have := PySem.W.of_hideAll _ q; rw [e2] at this; cases this
theorem hide_gone {B : Heap} {C b : Addr} (h : B.get? b = none) : (PySem.W.hideAll B [C]).get? b = none := by
  cases q : (PySem.W.hideAll B [C]).get? b with
  | none => rfl
  | some o' => have := PySem.W.of_hideAll _ q; rw [h] at this; cases this
theorem hide_some {B : Heap} {C b : Addr} {o : Obj} (h : (PySem.W.hideAll B [C]).get? b = some o) : b ≠ C ∧ B.get? b = some o := by
  refine ⟨fun z => ?_, PySem.W.of_hideAll _ h⟩
  rw [z, PySem.W.hideAll_none [C] (List.mem_singleton.mpr rfl)] at h
  cases h
section
variable {X : Cx} {W : WX} {E : XK} {σ : L2.St} {H : Hp} {s s' : Shared} {pins : List (Addr × Obj)} {C : Addr} {m0 : Str → Option Value} {ce : Env} {u : Value} {E₁ : Value → Shared → Prop}
theorem out_of_block (hst : X.stack = X.env :: X.outer) (hfr : X.env.frame = some X.env.locals) (tk : Takes X W) (I : Inv X pins σ H s) (fC : FpOk X pins H C) (nC : s.heap.Ns C m0) (hW : ∀ cls d H', E cls d H' → W cls d σ H')
    (hce : ce.locals = C) (hcf : ce.frame = X.env.frame) (c : CX X.prog X.w X.stack H s E u s') :
    wpAny (model X.prog X.w) X.A (noteFrame u ce) (fun _ s2 => CompFails (model X.prog X.w) X.A X.xe ce u s2) E₁ s' := by
  obtain ⟨a, B, H', cls, d, rfl, fl, hok, ub, na, os, ag, hE⟩ := c
  have hfrm : X.A.frames = some (X.env :: X.outer) := by rw [I.ok.frames, hst]
  obtain ⟨oC, es, ep, ho, rest⟩ := nC
  obtain ⟨c1, c2, c3, c4, c5, c6⟩ := id fC
  have hC : C ∉ frs X.stack := fun hm => by
    rw [hst] at hm
    obtain ⟨en, he, q⟩ := List.mem_filterMap.mp hm
    rcases List.mem_cons.mp he with rfl | he
    · rw [hfr] at q
      exact c2 (Option.some.inj q).symm
    · exact c3 (List.mem_filterMap.mpr ⟨en, he, q⟩)
  have hB : B.get? C = some oC := ub.keep C oC ho c1 hC
  have nC' : H' C = none := ub.free C oC ho c1
  -- the state without the error and without the block's names
  have Ih : Inv X pins σ H { s with heap := PySem.W.hideAll s.heap [C], toks := s.toks } := I.turned (it := C) (fun b o hb e => PySem.W.hideAll_get [C] e fun z => hb (List.mem_singleton.mp z)) c1 c2 c4 c5 c6
  obtain ⟨G, g1, g2⟩ := restrict s'.heap fun b => ((PySem.W.hideAll B [C]).get? b).isSome || decide (b ∈ frs X.stack)
  have st : B.StaysIn s'.heap := fl.1
  have gB : ∀ b o, (PySem.W.hideAll B [C]).get? b = some o → G.get? b = some o := fun b o e => by
    rw [g1 b (by simp [e])]
    exact st b o (hide_some e).2
  have gB' : ∀ b o, b ≠ C → B.get? b = some o → G.get? b = some o := fun b o hb e => gB b o (PySem.W.hideAll_get [C] e fun z => hb (List.mem_singleton.mp z))
  have gF : ∀ b, b ∈ frs X.stack → G.get? b = s'.heap.get? b := fun b hb => g1 b (by simp [hb])
  have og : ∀ b o, G.get? b = some o → s'.heap.get? b = some o ∧ (((PySem.W.hideAll B [C]).get? b).isSome = true ∨ b ∈ frs X.stack) := fun b o e => by
    cases q : (((PySem.W.hideAll B [C]).get? b).isSome || decide (b ∈ frs X.stack)) with
    | false => rw [g2 b q] at e; cases e
    | true =>
      rw [g1 b q] at e
      exact ⟨e, by simpa [Bool.or_eq_true] using q⟩
  have ogC : ∀ b o, G.get? b = some o → b ≠ C := fun b o e z => by
    subst z
    rcases (og b o e).2 with h | h
    · obtain ⟨o', q⟩ := Option.isSome_iff_exists.mp h
      exact (hide_some q).1 rfl
    · exact hC h
  have hokG : HOk X.prog X.w H' G := fun b v e => (hok b v e).stay (fun k w hk q => gB' k w (fun z => by
      subst z
      rcases hk with hk | hk
      · rw [hk, e] at nC'; cases nC'
      · rw [nC'] at hk; cases hk) q) (fun _ q => q) fun _ _ q => q
  have IG : Inv X pins σ H' { s with heap := G, gens := s'.gens, drawn := s'.drawn, toks := s'.toks } := by
    refine Ih.call' (s' := { s with heap := G, gens := s'.gens, drawn := s'.drawn, toks := s'.toks }) (ch := []) rfl ⟨fun b o e n hb _ => gB' b o (hide_some e).1 (ub.keep b o (hide_some e).2 n hb), fun b o e n hb _ => ?_, fun b o e n _ => ub.free b o (hide_some e).2 n, fun b o e _ => ?_, ub.tups, ub.frzs, ub.tbls⟩ hokG ag (fun _ z => nomatch z)
    · obtain ⟨sl, q⟩ := ub.slot b o (hide_some e).2 hb
      exact ⟨sl, by rw [gF b hb]; exact q⟩
    · by_cases hb : b ∈ frs X.stack
      · obtain ⟨sl, q⟩ := ub.slot b o (hide_some e).2 hb
        exact ⟨_, by rw [gF b hb]; exact q⟩
      · obtain ⟨o', q⟩ := ub.there b o (hide_some e).2 hb
        exact ⟨o', gB' b o' (hide_some e).1 q⟩
  have nb : ∀ b o, G.get? b = some o → b ∉ frs X.stack → (PySem.W.hideAll B [C]).get? b = some o := fun b o e hb => by
    obtain ⟨e', h⟩ := og b o e
    rcases h with h | h
    · obtain ⟨o', q⟩ := Option.isSome_iff_exists.mp h
      have z := st b o' (hide_some q).2
      rw [e'] at z; cases z
      exact q
    · exact absurd h hb
  rw [note_by_frame hcf]
  have fl' : HandSPX.FlyingZ B (X.env :: X.outer) a (Zc cls d) s'.heap := by rw [← hst]; exact fl
  refine HandSPX.looks_onZ Zc.steady hfrm hfr fl' fun h1 hh up1 => ?_
  obtain ⟨k1, k2, k3, oe, vs, T, oT, ts, t1, t2, t3, t4, t5, t6, t7, t8, t9⟩ := hh
  refine ⟨m0, by rw [hce]; exact ⟨oC, es, ep, k1 C oC hB, rest⟩, fun h' m' _ sb => ?_⟩
  rw [hce] at sb
  have aC : a ≠ C := fun z => by rw [z, hB] at k2; cases k2
  have TC : T ≠ C := fun z => by rw [z, hB] at t5; cases t5
  have sA : (PySem.W.hideAll B [C]).StaysIn h' := fun b o e => (sb.2 b (hide_some e).1).trans (k1 b o (hide_some e).2)
  have ff : h'.FunFrames (PySem.W.hideAll B [C]) (X.env :: X.outer) := frames_cut hB (fun b hb => sb.2 b hb) k3
  have tz : HandSPX.TracedZ h' (PySem.W.hideAll B [C]) a (Zc cls d) (rawInt X.env.locals) := ⟨oe, vs, T, oT, ts, (sb.2 a aC).trans t1, t2, t3, t4, hide_gone t5, t6, (sb.2 T TC).trans t7, t8, t9⟩
  rw [pass_by_frame hcf]
  unfold PySem.passOn
  refine wpAny_bind (wpAny_field ((sb.2 a aC).trans t1) t3 t4 ?_)
  rw [if_neg (by simp : ¬ ((Value.ref T == Value.none) = true))]
  have last : wpAny (model X.prog X.w) X.A (setFlight (.ref a) X.env.frame) (fun _ s4 => wpAny (model X.prog X.w) X.A (throw (.ref a) : Sem Value) (fun _ _ => False) X.xe s4) X.xe { s' with heap := h' } := by
    refine HandSPX.setFlight_anyZ sA ff tz fun h4 q1 q2 q3 up4 => wpAny_throw (tk _ _ ?_)
    rw [hfr] at q3
    refine ⟨a, PySem.W.hideAll B [C], { s with heap := G, gens := s'.gens, drawn := s'.drawn, toks := s'.toks }, pins, σ, H', cls, d, rfl, IG, nb, fun b o e hn => ?_, .inr (.inr (by rw [hst]; exact ⟨q1, hide_gone k2, q2, q3⟩)), na, os, ag, hW _ _ _ hE⟩
    obtain ⟨sl1, z1⟩ := up1 b o (og b o e).1 hn
    obtain ⟨sl2, z2⟩ := up4 b _ ((sb.2 b (ogC b o e)).trans z1) hn
    exact ⟨sl2, z2⟩
  first
    | exact wpAny_bind (wpAny_pure (wpAny_bind last))
    | exact wpAny_bind last
end
/-! ### the comprehension whose item may raise -/
abbrev Cx.blkx (X : Cx) (s : Shared) (H : Hp) (scope : Scope) (cenv : Env) (fp : List Addr) (xe : Value → Shared → Prop) : Cx := { X.blk s H scope cenv fp with xe := xe }
theorem wished {X : Cx} {xe : Value → Shared → Prop} {pins : List (Addr × Obj)} {σ : L2.St} {H : Hp} {s : Shared} (I : Inv X pins σ H s) : Inv { X with xe := xe } pins σ H s :=
  ⟨⟨I.ok.mod, I.ok.kind, I.ok.glob, I.ok.blt, I.ok.above, I.ok.inj, I.ok.has, I.ok.cab, I.ok.hd, I.ok.frames, I.ok.stk, I.ok.exf, I.ok.bs, I.ok.bsz, I.ok.noex, I.ok.exfs, I.ok.funs, I.ok.frf⟩, I.os, I.bare, I.base, I.loc, I.cell, I.free, I.freeC, I.pin, I.hok, I.len⟩
def tLcx (wi : TI) (g : TG) (te : L2.St → TE) (vs : List Nat) : TE := fun σ H Q => tLc wi g tYes (te σ) vs σ H Q
section
variable {X : Cx} {W : WX}
theorem pe_lcx {elt tg iter : Expr} {scope : Scope} {own : List (Str × Nat)} {pos : Pos} {wi : TI} {g : TG} {te : L2.St → TE} (hst : X.stack = X.env :: X.outer) (hfr : X.env.frame = some X.env.locals) (tk : Takes X W) (hcm : X.calm = true) (hnd : X.N.Nodup) (hit : PI X tg iter wi) (bo : BlkOk X.N X.env.scope scope own)
    (hpg : ∀ (s : Shared) (H : Hp) (C : Addr) (cl : List (Str × Addr)) (fp : List Addr) (xe : Value → Shared → Prop), PG (Cx.blkx X s H scope (compEnvC scope cl C X.env) fp xe) tg g)
    (hpe : ∀ (σ0 : L2.St) (s : Shared) (H : Hp) (C : Addr) (cl : List (Str × Addr)) (fp : List Addr) (xe : Value → Shared → Prop), (∀ σ', PassesAt (L2.CX X.prog X.w) (Cx.blkx X s H scope (compEnvC scope cl C X.env) fp xe) σ' (fun cls d H' => W cls d σ0 H')) → PE (Cx.blkx X s H scope (compEnvC scope cl C X.env) fp xe) elt (te σ0))
    (hfs : ∀ x, foldedSetIterable iter X.env x = pure x := by intro _; rfl) : PE X (.ListComp elt [⟨tg, iter, [], 0⟩] scope pos) (tLcx wi g te (own.map (·.2))) := by
  refine ⟨fun pins s σ H Q I0 hq => ?_⟩
  rw [eval_ListComp]
  have free0 : ∀ y ∈ scope.names, y.2 = .free → ∃ c, X.env.cells.lookup y.1 = some c := fun y hy e => (bo.free y hy e).elim (fun k => I0.ok.has _ (.inl k)) fun k => I0.ok.has _ (.inr k)
  refine comprehension_at (use := none) rfl hfs (closure_ok free0) bo.kind (fun y hy e => by rw [bo.uniq y hy, e]) ?_
  refine thn (hit.run pins s σ H _ I0 hq) fun xv sa hx => thn hx fun itv sb hb => ?_
  obtain ⟨it, fp, tn, J, Hb, rfl, Ib, T, stb, fb, more⟩ := hb
  refine wpAny_newObj_type (newEnv_comp ?_) (Nat.zero_le _)
  generalize hD : sb.heap.objs.size = D
  have freshD : Hb D = none := Ib.hok.fresh (Nat.le_of_eq hD)
  obtain ⟨V, ⟨m0, v0⟩, step⟩ := more D freshD
  generalize hsc : ({ sb with heap := sb.heap.push { cls := .type "list", data := .seq ([] : List Value).toArray } } : Shared) = sc
  have heapc : sc.heap = sb.heap.push { cls := .type "list", data := .seq ([] : List Value).toArray } := by rw [← hsc]
  have Ic : Inv X pins σ (upd Hb D (.lst [])) sc := by
    rw [← hsc]
    refine Ib.laid (t' := sb.toks) (fun b o e => Heap.get?_push_of_some _ e) (Nat.le_of_eq hD) ⟨Nat.zero_le _, [], 0, .nil, ?_⟩
    rw [← hD]
    exact Heap.get?_push_size _ rfl
  have fc : ∀ b ∈ fp, FpOk X pins (upd Hb D (.lst [])) b ∧ b < sc.heap.objs.size := fun b hb => by
    obtain ⟨o, e, _⟩ := T.obj _ _ stb b hb
    have lt := Heap.lt_size e
    refine ⟨⟨?_, (fb b hb).2⟩, by rw [heapc, Heap.size_push]; exact Nat.lt_succ_of_lt lt⟩
    rw [upd_ne (fun z => absurd (by rw [z, ← hD]) (Nat.ne_of_lt lt))]
    exact (fb b hb).1
  have stc : tn 0 sc.heap := T.keep _ _ _ stb fun b _ o e => by rw [heapc]; exact Heap.get?_push_of_some _ e
  have Id0 := block_start Ic bo hnd fc
  show codeAny _ _ (.compStart (.ListComp elt [⟨tg, iter, [], 0⟩] scope pos) 0 (.ref it) (.ref D) (compEnvC scope (cellsFrom (sc.heap.objs.size + 1) scope.names (cloFrom X.env.cells scope.names [])) sc.heap.objs.size X.env)) (compEnds (model X.prog X.w) X.A X.xe none (fun v s' => ∃ x H', Inv X pins σ H' s' ∧ RelV x v ∧ Q x H') (.ref D) (compEnvC scope (cellsFrom (sc.heap.objs.size + 1) scope.names (cloFrom X.env.cells scope.names [])) sc.heap.objs.size X.env)) { sc with heap := pushCells (sc.heap.push { cls := .type "dict", data := .dict #[] }) scope.names }
  have pg := fun fp xe => hpg sc (upd Hb D (.lst [])) sc.heap.objs.size (cellsFrom (sc.heap.objs.size + 1) scope.names (cloFrom X.env.cells scope.names [])) fp xe
  have pe := fun fp xe => hpe σ sc (upd Hb D (.lst [])) sc.heap.objs.size (cellsFrom (sc.heap.objs.size + 1) scope.names (cloFrom X.env.cells scope.names [])) fp xe
  generalize hce : compEnvC scope (cellsFrom (sc.heap.objs.size + 1) scope.names (cloFrom X.env.cells scope.names [])) sc.heap.objs.size X.env = ce at Id0 pg pe ⊢
  have lce : ce.locals = sc.heap.objs.size := by rw [← hce]; rfl
  have fce : ce.frame = X.env.frame := by rw [← hce]; rfl
  generalize hH : upd Hb D (.lst []) = Hc at Ic Id0 pg pe v0 fc
  generalize hsd : ({ sc with heap := pushCells (sc.heap.push { cls := .type "dict", data := .dict #[] }) scope.names } : Shared) = sd at Id0 ⊢
  have std : tn 0 sd.heap := T.keep _ _ _ stc fun b _ o e => by rw [← hsd]; exact pushCells_keeps _ _ _ _ (Heap.get?_push_of_some _ e)
  have none_fp : ∀ b ∈ fp, Hc b = none := fun b hb => (fc b hb).1.1
  let xe : Value → Shared → Prop := notedBy (model X.prog X.w) X.A ce fun e s' => CompFails (model X.prog X.w) X.A X.xe ce e s'
  have Id : Inv (Cx.blkx X sc Hc scope ce fp xe) [] (wipe σ (own.map (·.2))) Hc sd := wished Id0
  -- the def's own context, at any time in the block
  have around : ∀ {pins' : List (Addr × Obj)} {σ' : L2.St} {H' : Hp} {s' : Shared}, Inv (Cx.blkx X sc Hc scope ce fp xe) pins' σ' H' s' → Inv X pins σ H' s' ∧ FpOk X pins H' sc.heap.objs.size ∧ ∃ m, s'.heap.Ns sc.heap.objs.size m := fun {pins' σ' H' s'} I' => by
    have nC : H' sc.heap.objs.size = none := by
      rw [← lce]
      exact I'.free
    refine ⟨Ic.call' (ch := fp) I'.os I'.base I'.hok I'.bare fun b hb => ⟨(fc b hb).1.2.2.2.1, (fc b hb).1.2.1, (fc b hb).1.2.2.2.2.1, (fc b hb).1.2.2.2.2.2⟩, Ic.fpOk (Nat.le_refl _) nC, ?_⟩
    obtain ⟨m, hm, _⟩ := I'.loc
    rw [← lce]
    exact ⟨m, hm⟩
  have lets : ∀ σ', PassesAt (L2.CX X.prog X.w) (Cx.blkx X sc Hc scope ce fp xe) σ' (fun cls d H' => W cls d σ H') := fun σ' pins' H' s' e s'' I' c => by
    obtain ⟨Io, fC, m, nC⟩ := around I'
    exact out_of_block hst hfr tk Io fC nC (fun _ _ _ w => w) lce fce c
  have pgx := pg fp xe
  have pex := pe fp xe lets
  have stays : ∀ {σ' : L2.St} {H' : Hp} {s' : Shared}, Inv (Cx.blkx X sc Hc scope ce fp xe) [] σ' H' s' → (∀ b ∈ fp, H' b = none) → ∀ b ∈ fp, FpOk (Cx.blkx X sc Hc scope ce fp xe) [] H' b := fun {σ' H' s'} I' hn b hb => by
    obtain ⟨k1, k2⟩ := I'.ok.exf b hb
    exact ⟨hn b hb, k1, I'.ok.exfs b hb, .inl hb, fun x c e => k2 x c e, fun p hp => nomatch (show p ∈ ([] : List (Addr × Obj)) from hp)⟩
  have loop : codeAny (model X.prog X.w) X.A (.compLoop (.ListComp elt [⟨tg, iter, [], 0⟩] scope pos) 0 (.ref it) (.ref D) ce) (compEnds (model X.prog X.w) X.A X.xe none (fun v s' => ∃ x H', Inv X pins σ H' s' ∧ RelV x v ∧ Q x H') (.ref D) ce) sd := by
    refine compLoop_any (fun k z => ∃ i h, Inv (Cx.blkx X sc Hc scope ce fp xe) [] (wipe σ (own.map (·.2))) h z ∧ tn i z.heap ∧ (∀ b ∈ fp, h b = none) ∧ V i k h) ?_ m0 ⟨0, Hc, Id, std, none_fp, v0⟩
    rintro k z ⟨i, h, J1, tz, nz, vz⟩
    rcases step i k h vz with ⟨halt, qq⟩ | ⟨going, Nx, less, body⟩
    · refine thnF (T.done (Cx.blkx X sc Hc scope ce fp xe) rfl rfl rfl hcm i [] z _ h (fun _ _ => False) J1 (stays J1 nz) tz halt) fun r z1 ⟨hr, J2⟩ => ?_
      subst hr
      obtain ⟨J3, ⟨f0, f1, f2, f3, f4, f5⟩, m, nC⟩ := around J2
      refine ⟨m, by rw [lce]; exact nC, fun h' sb => ?_⟩
      rw [lce] at sb
      exact ⟨.ref D, h, J3.turned (t' := z1.toks) (fun b o hb e => (sb.2 b hb).trans e) f0 f1 f3 f4 f5, rfl, qq⟩
    · refine thnF (T.item (Cx.blkx X sc Hc scope ce fp xe) rfl rfl rfl hcm i [] z _ h (fun _ _ => False) J1 (stays J1 nz) tz going) fun r z1 ⟨u, hr, h6⟩ => ?_
      subst hr
      refine thnF h6 fun _ z2 ⟨x, h2, J2, rx, yx, t2, n2⟩ => ?_
      have J2' := J2.pinned (stays J2 n2) (T.obj _ _ t2)
      refine wpAny_mono (pgx.run _ z2 _ h2 x u _ J2' rx (body x h2 yx)) (fun _ z3 ⟨σ3, h3, J3, same3, q3⟩ => ?_) fun _ _ y => y
      refine wpAny_tests_nil ?_
      have q3 : te σ σ3 h3 fun y H4 => ∃ acc, H4 D = some (.lst acc) ∧ acc.length < sizeLine ∧ Nx (upd H4 D (.lst (acc ++ [y]))) := q3
      rw [if_pos rfl]
      refine wpAny_mono (pex.run _ z3 σ3 h3 _ J3 q3) (fun y z4 ⟨yv, h4, J4, ry, acc, hacc, hlt, nx⟩ => ?_) fun _ _ y => y
      refine app_ok (X := Cx.blkx X sc Hc scope ce fp xe) J4 hacc hlt ry fun z5 J5 => ?_
      obtain ⟨k', lt, v'⟩ := less _ nx
      have kept : ∀ b ∈ fp, ∀ o, z2.heap.get? b = some o → z5.heap.get? b = some o ∧ _ = none := fun b hb o e =>
        let p := J5.pin (b, o) (List.mem_append_right _ (List.mem_append_right _ (mem_pinsAt hb e)))
        ⟨p.1, p.2.1⟩
      have len : (wipe σ (own.map (·.2))).length = σ3.length := by rw [← same3, wipe_length]
      refine ⟨k', lt, i + 1, _, (J5.unpinned (pins := [])).weak len (fun j v e => ?_), T.keep _ _ _ t2 fun b hb o e => (kept b hb o e).1, fun b hb => ?_, v'⟩
      · rw [← same3] at e
        exact (wipe_some e).1
      · obtain ⟨o, e, _⟩ := T.obj _ _ t2 b hb
        exact (kept b hb o e).2
  exact codeAny_compStart_list loop (T.self X.A 0 _ _ _ std loop)
end
/-! ### over data -/
def compLX (t : Tgt) (el : Ef) (ρ : Nv) (n : Nat) : Nat → Nat → Sto → Out (List D)
  | 0, i, S => match S[n]? with
    | some (.rcd es) => if es.length = i then .ok [] S else .bad
    | _ => .bad
  | k + 1, i, S => match S[n]? with
    | some (.rcd es) => match es[i]? with
      | some d => match t d ρ with
        | none => .bad
        | some ρ1 => (el ρ1 S).bind (fun x S2 => match x with
            | .p d' => (compLX t el ρ n k (i + 1) S2).bind fun r S3 => Out.ok (d' :: r) S3
            | .hnd _ => .bad)
      | none => .bad
    | _ => .bad
/-- [el for target in list], the list of anything; el may raise -/
def dCompX (vs : List Nat) (f : Ef) (t : Tgt) (el : Ef) : Ef := fun ρ S => (f ρ S).bind fun d S1 => match d with
  | .hnd n => match S1[n]? with
    | some (.rcd es) => if es.length ≤ big then (compLX t el (wipeN ρ vs) n es.length 0 S1).bind (fun r S2 => .ok (.p (.lst r)) S2) else .bad
    | _ => .bad
  | _ => .bad
section
variable {X : Cx} {G : Gx} {W : WX} {e o : Expr} {ef eg : Ef} {pos apos p : Pos} {H B : Hp} {φ : List Addr} {S : Sto} {σ : L2.St} {ρ : Nv}
theorem compX_le {own : List (Str × Nat)} {f : Ef} {ts : List Nat} {t : Tgt} {el : Ef} (hts : ∀ i ∈ ts, i ∈ own.map (·.2)) :
    ∀ σ H Q, tD G W (dCompX (own.map (·.2)) f t el) σ H Q → tLcx (iList G.K (tD G W f)) (tG G ts t) (fun σ0 => tD G (fun cls d _ H' => W cls d σ0 H') el) (own.map (·.2)) σ H Q := by
  rintro σ H Q ⟨ρ, B, φ, S, w, en, h⟩
  show tD G W f σ H _
  refine tD.run w en (WP.fst h) fun d v H1 B1 φ1 S1 x1 w1 en0 r1 q1 => ?_
  split at q1
  · rename_i n
    split at q1
    · rename_i es0 hs0
      split at q1
      · rename_i hbig
        obtain ⟨p, hφ, rfl⟩ := r1
        have c0 : CellR G H1 B1 φ1 p (.rcd es0) := w1.cell n p _ hφ hs0
        obtain ⟨_, xs0, hx0, _⟩ := c0
        refine ⟨p, rfl, ⟨xs0, SqL.of hx0⟩, ?_⟩
        generalize hL : es0.length = L at *
        intro D hD
        have en1 := en0.wipe (own.map (·.2))
        generalize hvs : own.map (·.2) = vs at *
        have nD1 : D ∉ φ1 := w1.fresh hD
        refine ⟨fun i m H => ∃ B φ S acc av, Wd G H B φ S ∧ Xt H1 B1 φ1 H B φ ∧ B D = none ∧ D ∉ φ ∧ H D = some (.lst av) ∧ Reps G B acc av ∧ acc.length ≤ i ∧ m + i = L ∧
            WP G W σ H1 B1 φ1 ((compLX t el (wipeN ρ vs) n m i S).bind fun r S2 => Out.ok (Dv.p (DL.D.lst (acc ++ r))) S2) (fun d H' B' φ' _ => ∀ v, RepV G B' φ' d v → Q v H'),
          ⟨L, B1, φ1, S1, [], [], w1.hide hD, Xt.hide w1 hD, w1.bfree hD, nD1, upd_same, Reps.nil, Nat.le_refl _, Nat.add_zero _, q1⟩, ?_⟩
        rintro i m H ⟨B, φ, S, acc, av, w, x, hb, hf, hh, rr, hai, hmi, q⟩
        have hφ' : φ[n]? = some p := by
          obtain ⟨tt, rfl⟩ := x.p
          rw [List.getElem?_append_left (List.getElem?_eq_some_iff.mp hφ).1]; exact hφ
        cases m with
        | zero =>
          unfold compLX at q
          split at q
          · rename_i es hs
            split at q
            · rename_i hl
              have c1 : CellR G H B φ p (.rcd es) := w.cell n p _ hφ' hs
              obtain ⟨_, xs, hx, rx⟩ := c1
              refine .inl ⟨⟨xs, SqL.of hx, by rw [← rx.length]; omega⟩, ?_⟩
              have q : WP G W σ H1 B1 φ1 (.ok (.p (.lst (acc ++ []))) S) (fun d H' B' φ' _ => ∀ v, RepV G B' φ' d v → Q v H') := q
              rw [List.append_nil] at q
              have sb : Same B (upd B D (.lst av)) := same_upd' hb
              refine q H (upd B D (.lst av)) φ ⟨x.b.trans sb, x.p, fun a u h1 h2 h3 => ?_⟩ (w.adopt hh hb hf) _ (rep_lst.mpr ⟨D, av, rfl, upd_same, Reps.mono sb _ rr⟩)
              have na : a ≠ D := ne_of_none h1 hD
              rw [upd_ne na]
              exact x.out a u h1 h2 h3
            · exact q.elim
          · exact q.elim
        | succ m =>
          unfold compLX at q
          split at q
          · rename_i es hs
            split at q
            · rename_i d hd
              have c1 : CellR G H B φ p (.rcd es) := w.cell n p _ hφ' hs
              obtain ⟨_, xs, hx, rx⟩ := c1
              obtain ⟨u0, hu0, ru0⟩ := rx.get hd
              refine .inr ⟨⟨xs, u0, SqL.of hx, hu0⟩, fun H' => ∃ B φ S acc av, Wd G H' B φ S ∧ Xt H1 B1 φ1 H' B φ ∧ B D = none ∧ D ∉ φ ∧ H' D = some (.lst av) ∧ Reps G B acc av ∧ acc.length ≤ i + 1 ∧
                WP G W σ H1 B1 φ1 ((compLX t el (wipeN ρ vs) n m (i + 1) S).bind fun r S2 => Out.ok (Dv.p (DL.D.lst (acc ++ r))) S2) (fun d H' B' φ' _ => ∀ v, RepV G B' φ' d v → Q v H'), ?_, ?_⟩
              · rintro H' ⟨B', φ', S', acc', av', w', x', hb', hf', hh', rr', hai', q'⟩
                exact ⟨m, Nat.lt_succ_self _, B', φ', S', acc', av', w', x', hb', hf', hh', rr', hai', by omega, q'⟩
              · intro y H' hy
                obtain ⟨eH, hy⟩ := hy
                subst eH
                have ey : y = u0 := Option.some.inj ((hy xs (SqL.of hx)).symm.trans hu0)
                subst ey
                refine ⟨wipeN ρ vs, B, φ, S, d, w, en1.mono x.b x.p, ru0, ?_⟩
                cases e1 : t d (wipeN ρ vs) with
                | none => rw [e1] at q; exact q.elim
                | some ρ1 =>
                  rw [e1] at q
                  dsimp only at q
                  refine fun σ2 en2 k2 => ⟨(k2 vs hts).trans (wipe_wipe vs fun _ z => z), ?_⟩
                  dsimp only [tYes]
                  rw [if_pos rfl]
                  refine ⟨ρ1, B, φ, S, w, en2, ?_⟩
                  cases e3 : el ρ1 S with
                  | bad => rw [e3] at q; exact q.elim
                  | exc e' S' =>
                    rw [e3] at q
                    intro H' B' φ' c dd x' w' r'
                    exact q H' B' φ' c dd (x.trans x') w' r'
                  | ok dv S4 =>
                    rw [e3] at q
                    cases dv with
                    | hnd n => exact q.elim
                    | p d' =>
                      have q : WP G W σ H1 B1 φ1 (((compLX t el (wipeN ρ vs) n m (i + 1) S4).bind fun r S3 => Out.ok (d' :: r) S3).bind fun r S2 => Out.ok (Dv.p (DL.D.lst (acc ++ r))) S2) (fun d H' B' φ' _ => ∀ v, RepV G B' φ' d v → Q v H') := q
                      rw [Out.bind_assoc] at q
                      intro H4 B4 φ4 x4 w4 v4 r4
                      obtain ⟨hh4, hb4, hf4⟩ := x4.out D _ hh hb hf
                      have x04 := x.trans x4
                      have rr4 : Reps G B4 acc av := Reps.mono x4.b _ rr
                      refine ⟨av, hh4, ?_, B4, φ4, S4, acc ++ [d'], av ++ [v4], w4.priv hb4 hf4, ⟨x04.b, x04.p, fun a u h1 h2 h3 => ?_⟩, hb4, hf4, upd_same, rr4.append (Reps.cons r4 Reps.nil), by rw [List.length_append]; show acc.length + 1 ≤ _; omega, ?_⟩
                      · rw [← rr4.length, ← big_eq]; omega
                      · have na : a ≠ D := ne_of_none h1 hD
                        rw [upd_ne na]
                        exact x04.out a u h1 h2 h3
                      · have e5 : (fun (r : List DL.D) (S2 : Sto) => (Out.ok (d' :: r) S2).bind fun r S2 => Out.ok (Dv.p (.lst (acc ++ r))) S2) = fun r S2 => Out.ok (Dv.p (.lst ((acc ++ [d']) ++ r))) S2 := by
                          funext r S2
                          show Out.ok (Dv.p (.lst (acc ++ (d' :: r)))) S2 = _
                          rw [List.append_assoc]; rfl
                        rw [← e5]
                        exact q
            · exact q.elim
          · exact q.elim
      · exact q1.elim
    · exact q1.elim
  · exact q1.elim
theorem de_compX {elt tg iter : Expr} {scope : Scope} {own : List (Str × Nat)} {f : Ef} {ts : List Nat} {t : Tgt} {el : Ef} {pos : Pos} (hst : X.stack = X.env :: X.outer) (hfr : X.env.frame = some X.env.locals) (tk : Takes X W) (hK : X.K = G.K) (hc : X.calm = true) (hN : X.N.Nodup) (hf : PE X iter (tD G W f)) (ok : BlkOk X.N X.env.scope scope own)
    (hts : ∀ i ∈ ts, i ∈ own.map (·.2))
    (hg : ∀ (s : Shared) (H : Hp) (C : Addr) (cl : List (Str × Addr)) (fp : List Addr) (xe : Value → Shared → Prop), PG (Cx.blkx X s H scope (compEnvC scope cl C X.env) fp xe) tg (tG G ts t))
    (he : ∀ (W' : WX) (s : Shared) (H : Hp) (C : Addr) (cl : List (Str × Addr)) (fp : List Addr) (xe : Value → Shared → Prop), (∀ σ', PassesAt (L2.CX X.prog X.w) (Cx.blkx X s H scope (compEnvC scope cl C X.env) fp xe) σ' (WE W' σ')) → PE (Cx.blkx X s H scope (compEnvC scope cl C X.env) fp xe) elt (tD G W' el))
    (hs : ∀ x, foldedSetIterable iter X.env x = pure x := by intro _; rfl) :
    PE X (.ListComp elt [⟨tg, iter, [], 0⟩] scope pos) (tD G W (dCompX (own.map (·.2)) f t el)) :=
  wkE (pe_lcx (te := fun σ0 => tD G (fun cls d _ H' => W cls d σ0 H') el) hst hfr tk hc hN (pi_list hf) ok hg (fun σ0 s H C cl fp xe h => he _ s H C cl fp xe h) hs) (by rw [hK]; exact compX_le hts)
theorem de_callEX {k n : Nat} {f : Addr} {fd : FuncData} {ps : List Str} {x : Str} {es : List Expr} {af : Af} {m : List Dv → Sto → Out Dv} (pa : ∀ σ, PassesAt (L2.CX X.prog X.w) X σ (WE W σ)) (F : FnOk X.prog X.w X.K X.mg X.base (L2.CX X.prog X.w) k f fd ps (spE G n m)) (hr : Room k X.A) (hg : Gl X x) (hm : X.mg x = some (.ref f)) (hk : PySem.W.keepIn X.K (.ref f) = true) (hb : Binds X.K fd ps [])
    (hn : ∀ ρ S xs S', af ρ S = .ok xs S' → xs.length = n)
    (ha : PA X (e :: es) (tA G W af)) (hdb : (x == ("__debug__" : Str)) = false := by decide) (he : starEach (e :: es) X.env = (false, eval e X.env) :: starEach es X.env := by rfl) (hpl : (backTo pos (starEach es X.env)).any (·.1) = false := by rfl) :
    PE X (.Call (.Name x p) (e :: es) [] pos) (tD G W (dCallE m af)) := by
  refine wkE (pe_callS F hr hg hm hk hb pa ha hdb he hpl) fun σ H Q ⟨ρ, B, φ, S, w, en, q⟩ => ?_
  cases qa : af ρ S with
  | bad => unfold dCallE at q; rw [qa] at q; exact q.elim
  | exc x0 S0 => unfold dCallE at q; rw [qa] at q; exact ⟨ρ, B, φ, S, w, en, by rw [qa]; exact q⟩
  | ok xs0 S0 =>
    have l0 := hn ρ S xs0 S0 qa
    refine ⟨ρ, B, φ, S, w, en, ?_⟩
    unfold dCallE at q
    rw [qa] at q ⊢
    intro H1 B1 φ1 x1 w1 vs r1
    have q1 : WP G W σ H1 B1 φ1 (m xs0 S0) (fun d H' B' φ' _ => ∀ v, RepV G B' φ' d v → Q v H') := WP.rebase x1 q
    refine ⟨B1, φ1, S0, xs0, w1, r1, l0, ?_⟩
    cases qm : m xs0 S0 with
    | bad => rw [qm] at q1; exact q1
    | ok d S' => rw [qm] at q1; exact q1
    | exc x S' => rw [qm] at q1; exact q1
end
/-! ### a pair of what a suite reads of its error -/
theorem tup2 (f g : Ef) (ρ : Nv) (S : Sto) : dTup (aCons f (aCons g aNil)) ρ S = (f ρ S).bind fun d S1 => (g ρ S1).bind fun d2 S2 => match allP [d, d2] with
    | some ds => if ds.length ≤ big then .ok (.p (.tup ds)) S2 else .bad
    | none => .bad := by
  unfold dTup aCons
  cases f ρ S with
  | bad => rfl
  | exc _ _ => rfl
  | ok d S1 =>
    show (((aCons g aNil ρ S1).bind fun xs S2 => Out.ok (d :: xs) S2).bind fun xs S1 => _) = _
    unfold aCons
    show ((((g ρ S1).bind fun x S2 => (aNil ρ S2).bind fun xs S2 => Out.ok (x :: xs) S2).bind fun xs S2 => Out.ok (d :: xs) S2).bind fun xs S1 => _) = (g ρ S1).bind fun d2 S2 => match allP [d, d2] with
      | some ds => if ds.length ≤ big then Out.ok (Dv.p (D.tup ds)) S2 else Out.bad
      | none => Out.bad
    cases g ρ S1 with
    | bad => rfl
    | exc _ _ => rfl
    | ok d2 S2 => rfl
section
variable {X : Cx} {G : Gx} {a : Addr} {ob : Obj} {cls : Value} {dd : Option Addr} {pn : List (Addr × Obj)} {i : Nat} {e e2 : Expr} {f g : Ex → Ef} {pos : Pos}
theorem xe_pair {x1} (h1 : PE (X.suite a ((a, ob) :: pn)) e (xD G i a cls dd f)) (h2 : PE (X.suite a ((a, ob) :: pn)) e2 (xD G i a cls dd g)) (s1 : starEach [e, e2] X.env = (false, eval e X.env) :: starEach [e2] X.env := by rfl) (s2 : starEach [e2] X.env = (false, eval e2 X.env) :: starEach [] X.env := by rfl) :
    PE (X.suite a ((a, ob) :: pn)) (.Tuple [e, e2] x1 pos) (xD G i a cls dd fun x => dTup (aCons (f x) (aCons (g x) aNil))) := by
  refine wkE (pe_tup (pa_cons h1 (pa_cons h2 pa_nil s2) s1)) fun σ H Q ⟨x, ρ, B, φ, S, w, en, hx, xr, h⟩ => ?_
  dsimp only at h
  rw [tup2] at h
  refine ⟨x, ρ, B, φ, S, w, en, hx, xr, (WP.fst h).mono fun d1 H1 B1 φ1 S1 y1 w1 q1 v1 r1 => ?_⟩
  refine ⟨x, ρ, B1, φ1, S1, w1, en.mono y1.b y1.p, hx, xr.mono y1.b, (WP.fst q1).mono fun d2 H2 B2 φ2 S2 y2 w2 q2 v2 r2 => ?_⟩
  split at q2
  · rename_i ds hd
    have rr := allP_rep (B := B2) (φ := φ2) (vs := [v1, v2]) hd ⟨v1, [v2], rfl, RepV.mono y2.b y2.p _ r1, v2, [], rfl, r2, rfl⟩
    split at q2
    · rename_i hl
      refine ⟨by rw [← rr.length, ← big_eq]; exact hl, fun p hp => q2 _ _ _ (Xt.alloc w2 hp) (w2.alloc hp) _ ?_⟩
      exact rep_tup.mpr ⟨p, [v1, v2], rfl, SqT.of upd_same, Reps.mono (same_upd' (w2.bfree hp)) _ rr⟩
    · exact q2.elim
  · exact q2.elim
end
end DL

set_option maxHeartbeats 4000000
namespace DL
open PySem L2 L2H
open PySem.Spec PyProof.Rows
/-! ### a comprehension over a range within an except suite -/
section
variable {X : Cx}
theorem blk_pin {sc : Shared} {Hc : Hp} {scope : Scope} {ce : Env} {fp : List Addr} {p : Addr × Obj} {σ' : L2.St} {h : Hp} {z : Shared} (J : Inv (X.blk sc Hc scope ce fp) [] σ' h z)
    (k1 : sc.heap.get? p.1 = some p.2) (k2 : Hc p.1 = none) (k3 : p.1 ∉ frs X.stack) (k4 : ∀ b ∈ fp, p.1 ≠ b) (k5 : p.1 ≠ ce.locals) (k6 : ∀ v, p.2.data ≠ .cell v) : Inv { X.blk sc Hc scope ce fp with pn := [p] } [] σ' h z := by
  have nx : p.1 ∉ fp := fun m => k4 _ m rfl
  refine ⟨⟨J.ok.mod, J.ok.kind, J.ok.glob, J.ok.blt, J.ok.above, J.ok.inj, J.ok.has, J.ok.cab, J.ok.hd, J.ok.frames, J.ok.stk, J.ok.exf, J.ok.bs, J.ok.bsz, J.ok.noex, J.ok.exfs, J.ok.funs, J.ok.frf⟩, J.os, J.bare, J.base, J.loc, J.cell, J.free, J.freeC, fun q hq => ?_, J.hok, J.len⟩
  have eq : q = p := by simpa using (show q ∈ [p] ++ ([] : List (Addr × Obj)) from hq)
  subst eq
  exact ⟨J.base.keep q.1 q.2 k1 k2 k3 nx, J.base.free q.1 q.2 k1 k2 nx, k5, k3, k6⟩
theorem blk_unpin {sc : Shared} {Hc : Hp} {scope : Scope} {ce : Env} {fp : List Addr} {pn : List (Addr × Obj)} {σ' : L2.St} {h : Hp} {z : Shared} (J : Inv { X.blk sc Hc scope ce fp with pn := pn } [] σ' h z) : Inv (X.blk sc Hc scope ce fp) [] σ' h z :=
  ⟨⟨J.ok.mod, J.ok.kind, J.ok.glob, J.ok.blt, J.ok.above, J.ok.inj, J.ok.has, J.ok.cab, J.ok.hd, J.ok.frames, J.ok.stk, J.ok.exf, J.ok.bs, J.ok.bsz, J.ok.noex, J.ok.exfs, J.ok.funs, J.ok.frf⟩, J.os, J.bare, J.base, J.loc, J.cell, J.free, J.freeC, fun q hq => (nomatch (show q ∈ ([] : List (Addr × Obj)) from hq)), J.hok, J.len⟩
theorem pe_lch {elt tg iter : Expr} {scope : Scope} {own : List (Str × Nat)} {pos : Pos} {wi : TI} {g : TG} {tt : TT} {te : TE} (hot : HotC X) (hnd : X.N.Nodup) (hit : PIH X tg iter wi) (bo : BlkOk X.N X.env.scope scope own)
    (hpg : ∀ (s : Shared) (H : Hp) (C : Addr) (cl : List (Str × Addr)) (fp : List Addr), PG (X.blk s H scope (compEnvC scope cl C X.env) fp) tg g)
    (hpt : ∀ (s : Shared) (H : Hp) (C : Addr) (cl : List (Str × Addr)) (fp : List Addr), PTs (X.blk s H scope (compEnvC scope cl C X.env) fp) [] tt)
    (hpe : ∀ (s : Shared) (H : Hp) (C : Addr) (cl : List (Str × Addr)) (fp : List Addr), PE (X.blk s H scope (compEnvC scope cl C X.env) fp) elt te)
    (hfs : ∀ x, foldedSetIterable iter X.env x = pure x := by intro _; rfl) : PE X (.ListComp elt [⟨tg, iter, [], 0⟩] scope pos) (tLc wi g tt te (own.map (·.2))) := by
  refine ⟨fun pins s σ H Q I0 hq => ?_⟩
  rw [eval_ListComp]
  have free0 : ∀ y ∈ scope.names, y.2 = .free → ∃ c, X.env.cells.lookup y.1 = some c := fun y hy e => (bo.free y hy e).elim (fun k => I0.ok.has _ (.inl k)) fun k => I0.ok.has _ (.inr k)
  refine comprehension_at (use := none) rfl hfs (closure_ok free0) bo.kind (fun y hy e => by rw [bo.uniq y hy, e]) ?_
  refine thn (hit.run pins s σ H _ I0 hq) fun xv sa hx => thn hx fun itv sb hb => ?_
  obtain ⟨it, fp, tn, J, Hb, rfl, Ib, T, stb, fb, more⟩ := hb
  refine wpAny_newObj_type (newEnv_comp ?_) (Nat.zero_le _)
  generalize hD : sb.heap.objs.size = D
  have freshD : Hb D = none := Ib.hok.fresh (Nat.le_of_eq hD)
  obtain ⟨V, ⟨m0, v0⟩, step⟩ := more D freshD
  generalize hsc : ({ sb with heap := sb.heap.push { cls := .type "list", data := .seq ([] : List Value).toArray } } : Shared) = sc
  have heapc : sc.heap = sb.heap.push { cls := .type "list", data := .seq ([] : List Value).toArray } := by rw [← hsc]
  have Ic : Inv X pins σ (upd Hb D (.lst [])) sc := by
    rw [← hsc]
    refine Ib.laid (t' := sb.toks) (fun b o e => Heap.get?_push_of_some _ e) (Nat.le_of_eq hD) ⟨Nat.zero_le _, [], 0, .nil, ?_⟩
    rw [← hD]
    exact Heap.get?_push_size _ rfl
  have fc : ∀ b ∈ fp, FpOk X pins (upd Hb D (.lst [])) b ∧ b < sc.heap.objs.size := fun b hb => by
    obtain ⟨o, e, _⟩ := T.obj _ _ stb b hb
    have lt := Heap.lt_size e
    refine ⟨⟨?_, (fb b hb).2⟩, by rw [heapc, Heap.size_push]; exact Nat.lt_succ_of_lt lt⟩
    rw [upd_ne (fun z => absurd (by rw [z, ← hD]) (Nat.ne_of_lt lt))]
    exact (fb b hb).1
  have stc : tn 0 sc.heap := T.keep _ _ _ stb fun b _ o e => by rw [heapc]; exact Heap.get?_push_of_some _ e
  have Id0 := block_start Ic bo hnd fc
  show codeAny _ _ (.compStart (.ListComp elt [⟨tg, iter, [], 0⟩] scope pos) 0 (.ref it) (.ref D) (compEnvC scope (cellsFrom (sc.heap.objs.size + 1) scope.names (cloFrom X.env.cells scope.names [])) sc.heap.objs.size X.env)) (compEnds (model X.prog X.w) X.A X.xe none (fun v s' => ∃ x H', Inv X pins σ H' s' ∧ RelV x v ∧ Q x H') (.ref D) (compEnvC scope (cellsFrom (sc.heap.objs.size + 1) scope.names (cloFrom X.env.cells scope.names [])) sc.heap.objs.size X.env)) { sc with heap := pushCells (sc.heap.push { cls := .type "dict", data := .dict #[] }) scope.names }
  have pg := hpg sc (upd Hb D (.lst [])) sc.heap.objs.size (cellsFrom (sc.heap.objs.size + 1) scope.names (cloFrom X.env.cells scope.names [])) fp
  have pt := hpt sc (upd Hb D (.lst [])) sc.heap.objs.size (cellsFrom (sc.heap.objs.size + 1) scope.names (cloFrom X.env.cells scope.names [])) fp
  have pe := hpe sc (upd Hb D (.lst [])) sc.heap.objs.size (cellsFrom (sc.heap.objs.size + 1) scope.names (cloFrom X.env.cells scope.names [])) fp
  generalize hce : compEnvC scope (cellsFrom (sc.heap.objs.size + 1) scope.names (cloFrom X.env.cells scope.names [])) sc.heap.objs.size X.env = ce at Id0 pg pt pe ⊢
  have lce : ce.locals = sc.heap.objs.size := by rw [← hce]; rfl
  generalize hH : upd Hb D (.lst []) = Hc at Ic Id0 pg pt pe v0 fc
  generalize hsd : ({ sc with heap := pushCells (sc.heap.push { cls := .type "dict", data := .dict #[] }) scope.names } : Shared) = sd at Id0 ⊢
  have std : tn 0 sd.heap := T.keep _ _ _ stc fun b _ o e => by rw [← hsd]; exact pushCells_keeps _ _ _ _ (Heap.get?_push_of_some _ e)
  have none_fp : ∀ b ∈ fp, Hc b = none := fun b hb => (fc b hb).1.1
  have Id : Inv (X.blk sc Hc scope ce fp) [] (wipe σ (own.map (·.2))) Hc sd := Id0
  -- the handled error, at any time in the block
  obtain ⟨p, h1, hp⟩ := hot
  obtain ⟨p1, p2, p3, p4, p5⟩ := Ic.pin p (List.mem_append_left _ hp)
  have p6 : p.1 ∉ frs X.stack := fun hm => (List.mem_cons.mp (Ic.stkSub p.1 hm)).elim p3 p4
  have p7 : ∀ b ∈ fp, p.1 ≠ b := fun b hb => (fc b hb).1.2.2.2.2.2 p (List.mem_append_left _ hp)
  have p8 : p.1 ≠ ce.locals := by rw [lce]; exact Nat.ne_of_lt (Heap.lt_size p1)
  have pinned : ∀ {σ' : L2.St} {h : Hp} {z : Shared}, Inv (X.blk sc Hc scope ce fp) [] σ' h z → Inv { X.blk sc Hc scope ce fp with pn := [p] } [] σ' h z := fun J => blk_pin J p1 p2 p6 p7 p8 p5
  have hotB : HotC { X.blk sc Hc scope ce fp with pn := [p] } := ⟨p, h1, List.mem_singleton.mpr rfl⟩
  -- the def's own context, at any time in the block
  have around : ∀ {pins' : List (Addr × Obj)} {σ' : L2.St} {H' : Hp} {s' : Shared}, Inv (X.blk sc Hc scope ce fp) pins' σ' H' s' → Inv X pins σ H' s' ∧ FpOk X pins H' sc.heap.objs.size ∧ ∃ m, s'.heap.Ns sc.heap.objs.size m := fun {pins' σ' H' s'} I' => by
    have nC : H' sc.heap.objs.size = none := by
      rw [← lce]
      exact I'.free
    refine ⟨Ic.call' (ch := fp) I'.os I'.base I'.hok I'.bare fun b hb => ⟨(fc b hb).1.2.2.2.1, (fc b hb).1.2.1, (fc b hb).1.2.2.2.2.1, (fc b hb).1.2.2.2.2.2⟩, Ic.fpOk (Nat.le_refl _) nC, ?_⟩
    obtain ⟨m, hm, _⟩ := I'.loc
    rw [← lce]
    exact ⟨m, hm⟩
  have stays : ∀ {σ' : L2.St} {H' : Hp} {s' : Shared}, Inv (X.blk sc Hc scope ce fp) [] σ' H' s' → (∀ b ∈ fp, H' b = none) → ∀ b ∈ fp, FpOk (X.blk sc Hc scope ce fp) [] H' b := fun {σ' H' s'} I' hn b hb => by
    obtain ⟨k1, k2⟩ := I'.ok.exf b hb
    exact ⟨hn b hb, k1, I'.ok.exfs b hb, .inl hb, fun x c e => k2 x c e, fun p hp => nomatch (show p ∈ ([] : List (Addr × Obj)) from hp)⟩
  have staysP : ∀ {σ' : L2.St} {H' : Hp} {s' : Shared}, Inv (X.blk sc Hc scope ce fp) [] σ' H' s' → (∀ b ∈ fp, H' b = none) → ∀ b ∈ fp, FpOk { X.blk sc Hc scope ce fp with pn := [p] } [] H' b := fun {σ' H' s'} I' hn b hb => by
    obtain ⟨k1, k2⟩ := I'.ok.exf b hb
    exact ⟨hn b hb, k1, I'.ok.exfs b hb, .inl hb, fun x c e => k2 x c e, fun q hq => by
      have eq : q = p := by simpa using (show q ∈ [p] ++ ([] : List (Addr × Obj)) from hq)
      subst eq
      exact p7 b hb⟩
  have loop : codeAny (model X.prog X.w) X.A (.compLoop (.ListComp elt [⟨tg, iter, [], 0⟩] scope pos) 0 (.ref it) (.ref D) ce) (compEnds (model X.prog X.w) X.A X.xe none (fun v s' => ∃ x H', Inv X pins σ H' s' ∧ RelV x v ∧ Q x H') (.ref D) ce) sd := by
    refine compLoop_any (fun k z => ∃ i h, Inv (X.blk sc Hc scope ce fp) [] (wipe σ (own.map (·.2))) h z ∧ tn i z.heap ∧ (∀ b ∈ fp, h b = none) ∧ V i k h) ?_ m0 ⟨0, Hc, Id, std, none_fp, v0⟩
    rintro k z ⟨i, h, J1, tz, nz, vz⟩
    rcases step i k h vz with ⟨halt, qq⟩ | ⟨going, Nx, less, body⟩
    · refine thnF (T.done { X.blk sc Hc scope ce fp with pn := [p] } rfl rfl rfl hotB i [] z _ h (fun _ _ => False) (pinned J1) (staysP J1 nz) tz halt) fun r z1 ⟨hr, J2'⟩ => ?_
      subst hr
      have J2 : Inv (X.blk sc Hc scope ce fp) [] (wipe σ (own.map (·.2))) h z1 := blk_unpin J2'
      obtain ⟨J3, ⟨f0, f1, f2, f3, f4, f5⟩, m, nC⟩ := around J2
      refine ⟨m, by rw [lce]; exact nC, fun h' sb => ?_⟩
      rw [lce] at sb
      exact ⟨.ref D, h, J3.turned (t' := z1.toks) (fun b o hb e => (sb.2 b hb).trans e) f0 f1 f3 f4 f5, rfl, qq⟩
    · refine thnF (T.item { X.blk sc Hc scope ce fp with pn := [p] } rfl rfl rfl hotB i [] z _ h (fun _ _ => False) (pinned J1) (staysP J1 nz) tz going) fun r z1 ⟨u, hr, h6⟩ => ?_
      subst hr
      refine thnF h6 fun _ z2 ⟨x, h2, J2', rx, yx, t2, n2⟩ => ?_
      have J2 : Inv (X.blk sc Hc scope ce fp) [] (wipe σ (own.map (·.2))) h2 z2 := blk_unpin J2'
      have J3 := J2.pinned (stays J2 n2) (T.obj _ _ t2)
      refine thnF (pg.run _ z2 _ h2 x u _ J3 rx (body x h2 yx)) fun _ z3 ⟨σ3, h3, J4, same3, q3⟩ => ?_
      have kept : ∀ {z' : Shared} {h' : Hp}, Inv (X.blk sc Hc scope ce fp) ([] ++ pinsAt fp z2.heap) σ3 h' z' → Nx h' → ∃ m, m < k ∧ ∃ i h, Inv (X.blk sc Hc scope ce fp) [] (wipe σ (own.map (·.2))) h z' ∧ tn i z'.heap ∧ (∀ b ∈ fp, h b = none) ∧ V i m h := fun {z' h'} J6 nx => by
        obtain ⟨k', lt, v'⟩ := less _ nx
        have kp : ∀ b ∈ fp, ∀ o, z2.heap.get? b = some o → z'.heap.get? b = some o ∧ h' b = none := fun b hb o e =>
          let p := J6.pin (b, o) (List.mem_append_right _ (List.mem_append_right _ (mem_pinsAt hb e)))
          ⟨p.1, p.2.1⟩
        have len : (wipe σ (own.map (·.2))).length = σ3.length := by rw [← same3, wipe_length]
        refine ⟨k', lt, i + 1, _, (J6.unpinned (pins := [])).weak len (fun j v e => ?_), T.keep _ _ _ t2 fun b hb o e => (kp b hb o e).1, fun b hb => ?_, v'⟩
        · rw [← same3] at e
          exact (wipe_some e).1
        · obtain ⟨o, e, _⟩ := T.obj _ _ t2 b hb
          exact (kp b hb o e).2
      refine thnF (pt.run _ z3 σ3 h3 _ J4 q3) fun b z4 ⟨h4, J5, q4⟩ => ?_
      cases b with
      | false =>
        simp only [Bool.false_eq_true, if_false] at q4 ⊢
        exact kept J5 q4
      | true =>
        simp only [if_true] at q4 ⊢
        refine thnF (pe.run _ z4 σ3 h4 _ J5 q4) fun y z5 ⟨yv, h5, J6, ry, acc, hacc, hlt, nx⟩ => ?_
        exact app_ok (X := X.blk sc Hc scope ce fp) J6 hacc hlt ry fun z6 J7 => kept J7 nx
  exact codeAny_compStart_list loop (T.self X.A 0 _ _ _ std loop)
end
section
variable {X : Cx} {G : Gx} {W : WX} {e : Expr} {ef : Ef}
theorem di_rng1H {tg a : Expr} {p : Pos} {pos : Pos} (hg : Gl X "range") (hm : X.mg "range" = none) (ha : PE X a (tD G W ef)) (hs : starEach [a] X.env = [(false, eval a X.env)] := by rfl) :
    PIH X tg (.Call (.Name "range" p) [a] [] pos) (tI G W (DL.iRng1 ef)) := by
  have base := pi_range1H (tg := tg) (p := p) (pos := pos) hg hm (pa_cons ha pa_nil hs) hs
  refine ⟨fun pins s σ H R I ⟨ρ, B, φ, S, w, en, h⟩ => base.run pins s σ H R I (tD.run w en (WP.fst h) fun d v H1 B1 φ1 S1 x1 w1 en1 r1 q1 => ?_)⟩
  split at q1
  · split at q1
    · rename_i j hk
      obtain ⟨_, _, h3, h4⟩ := rngOk_at hk
      exact ⟨j, by rw [rep_int.mp r1], h3, h4, q1 H1 B1 φ1 Xt.refl w1 _ (yl_rng 0 _)⟩
    · exact q1.elim
  · exact q1.elim
theorem de_compH {elt tg iter : Expr} {scope : Scope} {own : List (Str × Nat)} {it : If} {ts : List Nat} {t : Tgt} {el : Ef} {pos : Pos} (hot : HotC X) (hN : X.N.Nodup) (hi : PIH X tg iter (tI G W it)) (ok : BlkOk X.N X.env.scope scope own)
    (hts : ∀ i ∈ ts, i ∈ own.map (·.2))
    (hg : ∀ (s : Shared) (H : Hp) (C : Addr) (cl : List (Str × Addr)) (fp : List Addr), PG (X.blk s H scope (compEnvC scope cl C X.env) fp) tg (tG G ts t))
    (he : ∀ (s : Shared) (H : Hp) (C : Addr) (cl : List (Str × Addr)) (fp : List Addr), PE (X.blk s H scope (compEnvC scope cl C X.env) fp) elt (tD G noW el))
    (hs : ∀ x, foldedSetIterable iter X.env x = pure x := by intro _; rfl) :
    PE X (.ListComp elt [⟨tg, iter, [], 0⟩] scope pos) (tD G W (dComp (own.map (·.2)) it t cYes el)) :=
  wkE (pe_lch hot hN hi ok hg (fun _ _ _ _ _ => dts_nil) he hs) (comp_le hts)
end
end DL

set_option maxHeartbeats 4000000
namespace DL
open PySem L2
open PySem.Spec PyProof.Rows
/-! ### errors whose context is known to be None -/
section
variable {X : Cx} {G : Gx} {W : WX}
theorem pmkN_bare {x : Str} {C : Addr} {bmB : List Value} {bn newId initId : String} {p pos : Pos} (F : ExcBaseFacts bn newId initId bmB) (q : PySem.W.excIn X.K C bmB newId = true) (gC : X.mg x = some (.ref C)) (kC : PySem.W.keepIn X.K (.ref C) = true) (r : Raises X (.ref C)) (hg : Gl X x)
    (hdb : (x == ("__debug__" : Str)) = false := by decide) : L2N.PMk X (.Call (.Name x p) [] [] pos) (fun _ H Q => Q (.ref C) none H) := by
  intro pins s σ H Q I h
  refine wpAny_Call_Name_kw (ld_glob I hg gC ?_ hdb)
  refine PySem.W.callWith_K0 I.kIn kC ?_
  show wpAny _ _ (call (.ref C) []) _ _ _
  obtain ⟨bm, N, nm, qn, bs, hdct, sn, sub, ab, col, dd, k0, k1, k2, k3, k5, mN, hC, hN, hni, T⟩ := exc_obj I.kIn q
  exact wpAny_call_exc_subT F T hC hN hni (fun h' e hm => L2N.mk_of I hm r h (I.hok.gone hm.new)) (by show 0 ≤ sizeLine; omega)
theorem pmkN_oex {CX : CXT} {x : Str} {e : Expr} {es : List Expr} {ta : TA} {p pos : Pos} {C fI : Addr} {k : Nat} {fd : FuncData} {ps : List Str} {sp : Sp} (T : OexC X.K C) (iC : PySem.W.findIn X.K (.ref C) "__init__" = some (some (.ref fI))) (tI : PySem.W.typeIn X.K (.ref fI) = some (.type "function"))
    (F1 : FnOk X.prog X.w X.K X.mg X.base CX k fI fd ps sp) (hr : Room (k + 1) X.A) (hb : Binds X.K fd ps []) (hx : Passes CX X (fun _ _ _ => False)) (hg : Gl X x) (hm : X.mg x = some (.ref C)) (ha : PA X (e :: es) ta)
    (hdb : (x == ("__debug__" : Str)) = false := by decide) (he : starEach (e :: es) X.env = (false, eval e X.env) :: starEach es X.env := by rfl) (hpl : (backTo pos (starEach es X.env)).any (·.1) = false := by rfl) :
    L2N.PMk X (.Call (.Name x p) (e :: es) [] pos) (tMkO C sp [] ta) := by
  intro pins s σ H Q I h
  obtain ⟨nm, q, N, bs, bm, sn, sub, ab, col, dd, k0, k1, k2, k3, k5, hC, hbm⟩ := T.cls
  refine wpAny_Call_Name_kw (ld_glob I hg hm ?_ hdb)
  refine PySem.W.callWith_K (h₀ := X.base) I.ok.mod.kin T.kC (thn (ha.run pos pins s σ H _ I h) fun us s1 ⟨vs, H1, I1, r1, hz, q1⟩ => ⟨I1.kIn, ?_⟩) he hpl
  show wpAny _ _ (call (.ref C) us) _ _ _
  obtain ⟨hp, g, dr, tk, os⟩ := s1
  have hsz : hp.objs.size ≤ hp.objs.size + 1 := Nat.le_succ _
  have hn : H1 (hp.objs.size + 1) = none := I1.hok.fresh hsz
  have hq := q1 (hp.objs.size + 1) hn
  rw [List.append_nil] at hq
  have kk : ∀ b o, hp.get? b = some o → ((hp.push (PySem.W.kdv_tup us)).push (PySem.HandSPX.excO C hp.objs.size)).get? b = some o := fun b o e => Heap.get?_push_of_some _ (Heap.get?_push_of_some _ e)
  have hget : ((hp.push (PySem.W.kdv_tup us)).push (PySem.HandSPX.excO C hp.objs.size)).get? (hp.objs.size + 1) = some (PySem.HandSPX.excO C hp.objs.size) := by heap_get
  have I2 : Inv X pins σ (upd H1 (hp.objs.size + 1) (exo (hp.objs.size + 1) C none)) ⟨(hp.push (PySem.W.kdv_tup us)).push (PySem.HandSPX.excO C hp.objs.size), g, dr, tk, os⟩ :=
    I1.laid (t' := tk) (a := hp.objs.size + 1) (o := exo (hp.objs.size + 1) C none) (h' := (hp.push (PySem.W.kdv_tup us)).push (PySem.HandSPX.excO C hp.objs.size)) kk hsz (exo_ok hget)
  have r2 : Vals (V.ref (hp.objs.size + 1) :: vs) (Value.ref (hp.objs.size + 1) :: us) := .cons rfl r1
  have hl : (Value.ref (hp.objs.size + 1) :: us ++ []).length = ps.length := by
    have e := r2.length
    rw [F1.len _ _ _ _ hq] at e
    rw [List.append_nil]
    exact e.symm
  have hus : us.length ≤ sizeLine := by
    rw [← Paired.length r1, sizeLine_eq]
    omega
  have b2 := hb _ (Value.ref (hp.objs.size + 1) :: us) I2.kIn hl
  rw [List.append_nil] at b2
  refine wpAny_call (PySem.HandSPX.call_own F.excBase_ValueError (fun Y => PySem.HandSPX.refsVE_contains Y bm hbm) (I1.kIn _ _ hC) (PySem.W.looks_findIn I1.kIn iC) (fun self => PySem.W.bind_fn I1.kIn self tI) hus
    (codeAny_mono (F1.run _ X.stack _ _ ⟨Value.ref (hp.objs.size + 1) :: us, []⟩ (Value.ref (hp.objs.size + 1) :: us) _ _ (fun _ _ _ => False) (hr.make C us []) (I2.env0.make C us []) b2 r2 hq) fun r s' hq' => ?_))
  cases r with
  | error er => exact hx pins σ _ _ er s' I2 hq'
  | ok fl =>
    cases fl with
    | ret u =>
      obtain ⟨v, H2, os2, bare2, un2, hok2, rv, ev, d, fs, ea, ed, hd1, q2⟩ := hq'
      subst ev
      obtain ⟨h2, g2, d2, t2, os'⟩ := s'
      obtain ⟨t0, G, J, kG, ge, hoe, na⟩ := mk_end0 (d2 := d2) (t2 := t2) I1 hsz kk un2 hok2 os2 bare2 ea ed hd1
      refine ⟨rv, ⟨hp.objs.size + 1, _, _, ⟨G, g2, d2, t2, os'⟩, _, .ref C, some d, rfl, J, kG, ge, hoe, ⟨rfl, rfl, fun vs hv => ?_⟩, rfl, rfl, na, rfl, bare2, raises_own T.exC T.tyC, q2⟩⟩
      cases hv
      rfl
    | next => exact False.elim hq'
    | brk => exact False.elim hq'
    | cont => exact False.elim hq'
theorem dpN_raise0 {x : Str} {n : Nat} {p q pos : Pos} (tk : L2N.Takes X W) (hc : X.calm = true) (T : XCls X.K X.mg x (G.xc n)) (hg : Gl X x) (hdb : (x == ("__debug__" : Str)) = false := by decide) : PS X (.Raise (some (.Call (.Name x p) [] [] pos)) none q) (tS G W (sRaise n)) := by
  refine wkS (L2N.ps_raise hc tk (pmkN_bare PySem.F.excBase_ValueError T.q T.g T.k (raises_own T.b T.t) hg hdb)) fun D σ H ⟨ρ, B, φ, S, w, en, h⟩ => ?_
  exact h H B φ _ _ σ Xt.refl w ⟨rfl, rfl⟩ en
end
section
variable {X : Cx} {G : Gx} {W : WX} {k n j : Nat} {f fI : Addr} {fd : FuncData} {ps fs : List Str} {x : Str} {p q pos : Pos} {e : Expr} {es : List Expr} {af : Af}
theorem raiseA_le (T : OexC X.K (G.xc j)) (hno : ∀ f ∈ fs, PySem.W.findIn X.K (.ref (G.xc j)) f = some none) (hx : G.xf j = fs.reverse) (hn : fs.length = n) (h0 : 0 < n) (h1 : n ≤ 1000) :
    ∀ (D : Ends) (σ : L2.St) (H : Hp), tS G W (sRaiseA j n af) D σ H → tMkO (G.xc j) (spX X.K fs) [] (tA G W af) σ H fun cls d H' => W cls d σ H' := by
  intro D σ H ⟨ρ, B, φ, S, w, en, h⟩
  refine tA.run w en (WPS.fst en h) fun ds vs H1 B1 φ1 S1 x1 w1 en1 r1 q1 => ?_
  split at q1
  · rename_i es0 hd
    split at q1
    · rename_i hl
      have rr := allP_rep hd r1
      have lv : vs.length = n := by rw [← rr.length]; exact hl
      refine ⟨by omega, fun a na => ?_⟩
      refine ⟨a, G.xc j, vs, by rw [List.append_nil], T, by rw [lv, hn], hno, upd_same, fun d nd hda => ⟨rfl, d, (fs.zip vs).reverse, upd_same, by rw [upd_ne hda, upd_same], by rw [upd_ne hda] at nd; exact nd, ?_⟩⟩
      have nd1 : H1 d = none := by rw [upd_ne hda] at nd; exact nd
      have e1 : upd (del (upd (upd (upd H1 a (exo a (G.xc j) none)) d (exd d (fs.zip vs).reverse)) a (exo a (G.xc j) (some d))) a) d (.xd (fs.zip vs).reverse) = upd H1 d (.xd (fs.zip vs).reverse) := by
        funext b
        by_cases hb1 : b = d
        · subst hb1; rw [upd_same, upd_same]
        · rw [upd_ne hb1, upd_ne hb1]
          by_cases hb2 : b = a
          · subst hb2; rw [del_same, na]
          · rw [del_ne hb2, upd_ne hb2, upd_ne hb1, upd_ne hb2]
      rw [e1]
      refine q1 _ _ φ1 _ (some d) σ (Xt.alloc w1 nd1) (w1.alloc nd1) ⟨rfl, ?_⟩ (en1.mono (Xt.alloc w1 nd1).b (List.prefix_refl _))
      have rv : Reps G (upd B1 d (.xd (fs.zip vs).reverse)) es0.reverse vs.reverse := Reps.mono (same_upd' (w1.bfree nd1)) _ rr.reverse
      have hne : es0.reverse ≠ [] := fun z => by
        have : es0.reverse.length = 0 := by rw [z]; rfl
        rw [List.length_reverse] at this
        omega
      cases hq : es0.reverse with
      | nil => exact absurd hq hne
      | cons d0 dr =>
        rw [hq] at rv
        refine ⟨d, vs.reverse, rfl, ?_, rv, ?_⟩
        · rw [upd_same, hx, zip_rev (by rw [hn, lv])]
        · rw [← hq, List.length_reverse, hl, hx, List.length_reverse, hn]
    · exact q1.elim
  · exact q1.elim

theorem dpN_raiseA (T : OexC X.K (G.xc j)) (iC : PySem.W.findIn X.K (.ref (G.xc j)) "__init__" = some (some (.ref fI))) (tI : PySem.W.typeIn X.K (.ref fI) = some (.type "function")) (F : FnOk X.prog X.w X.K X.mg X.base (L2.CX X.prog X.w) k fI fd ps (spX X.K fs)) (hr : Room (k + 1) X.A)
    (hb : Binds X.K fd ps []) (hno : ∀ f ∈ fs, PySem.W.findIn X.K (.ref (G.xc j)) f = some none) (hx : G.xf j = fs.reverse) (hn : fs.length = n) (h0 : 0 < n) (h1 : n ≤ 1000) (tk : L2N.Takes X W) (hc : X.calm = true) (hg : Gl X x) (hm : X.mg x = some (.ref (G.xc j))) (ha : PA X (e :: es) (tA G W af))
    (hdb : (x == ("__debug__" : Str)) = false := by decide) (he : starEach (e :: es) X.env = (false, eval e X.env) :: starEach es X.env := by rfl) (hpl : (backTo pos (starEach es X.env)).any (·.1) = false := by rfl) :
    PS X (.Raise (some (.Call (.Name x p) (e :: es) [] pos)) none q) (tS G W (sRaiseA j n af)) :=
  wkS (L2N.ps_raise hc tk (pmkN_oex T iC tI F hr hb passL hg hm ha hdb he hpl)) (raiseA_le T hno hx hn h0 h1)
end
/-! defs that raise so -/
section
variable {P : Program} {w : World} {K : PySem.W.Frag} {mg : Str → Option Value} {base : Heap} {G : Gx}
abbrev cxN (P : Program) (w : World) (K : PySem.W.Frag) (mg : Str → Option Value) (base : Heap) (N : List Str) (qual : Str) (scope : Scope) (f : Addr) (cd : Value) (A : Around) (outer : List Env) (s : Shared) (H : Hp) (E : XK) : Cx :=
  cxOf (L2N.CX P w) P w K mg base N qual scope f cd A outer s H E
theorem takesN {N : List Str} {qual : Str} {scope : Scope} {f : Addr} {cd : Value} {A : Around} {outer : List Env} {s : Shared} {H : Hp} {E : XK} : L2N.Takes (cxN P w K mg base N qual scope f cd A outer s H E) (wF E) := L2N.takes_of rfl rfl rfl rfl
theorem okN_E {x qual : Str} {st : Stmt} {f : Addr} {fd : FuncData} {N ps : List Str} {k n : Nat} {body : Sf} (F : Fun K x qual st f fd) (Sc : FnScope N ps (defScope st)) (hN : N.length = ps.length + n)
    (der : ∀ (cd : Value) (A : Around) (outer : List Env) (s : Shared) (H : Hp) (E : XK), Room k (cxN P w K mg base N qual (defScope st) f cd A outer s H E).A →
      PSs (cxN P w K mg base N qual (defScope st) f cd A outer s H E) (defBody st) (tS G (wF E) body)) : FnOk P w K mg base (L2N.CX P w) (k + 1) f fd ps (spE G ps.length (runE n body)) := by
  obtain ⟨oc, od, kV, doc, pm, an, cdv, ct, osl, rfl, lk, hcd⟩ := F.ex
  refine fn_of lk hcd Sc (fun vs H Q E h => ?_) (fun A outer s H vs Q E hr h => ?_)
  · obtain ⟨B, φ, S, ds, _, r, hl, _⟩ := h
    rw [← r.length, hl]
  · obtain ⟨B, φ, S, ds, w0, r, hl, h⟩ := h
    refine ⟨_, der cdv A outer s H E hr, init n ds, B, φ, S, w0, envR_init r (by rw [hl, hN]), ?_⟩
    unfold runE at h
    cases q : body (init n ds) S with
    | bad => rw [q] at h; exact h.elim
    | exc e ρ S => rw [q] at h; exact fun H' B' φ' c dd σ xx w' r' _ => h H' B' φ' c dd xx w' r'
    | ok fl S =>
      rw [q] at h
      cases fl with
      | nx ρ => exact fun H' B' φ' xx w' σ _ => h H' B' φ' xx w' _ (rep_non.mpr rfl)
      | bk ρ => exact h.elim
      | ct ρ => exact h.elim
      | rt d => exact fun H' B' φ' xx w' v r' => h H' B' φ' xx w' v r'
end
section
variable {X : Cx} {G : Gx} {W : WX}
theorem deN_callE {k n : Nat} {f : Addr} {fd : FuncData} {ps : List Str} {x : Str} {e : Expr} {es : List Expr} {af : Af} {p pos : Pos} {m : List Dv → Sto → Out Dv} (tk : L2N.Takes X W) (F : FnOk X.prog X.w X.K X.mg X.base (L2N.CX X.prog X.w) k f fd ps (spE G n m)) (hr : Room k X.A) (hg : Gl X x) (hm : X.mg x = some (.ref f)) (hk : PySem.W.keepIn X.K (.ref f) = true) (hb : Binds X.K fd ps [])
    (hn : ∀ ρ S xs S', af ρ S = .ok xs S' → xs.length = n)
    (ha : PA X (e :: es) (tA G W af)) (hdb : (x == ("__debug__" : Str)) = false := by decide) (he : starEach (e :: es) X.env = (false, eval e X.env) :: starEach es X.env := by rfl) (hpl : (backTo pos (starEach es X.env)).any (·.1) = false := by rfl) :
    PE X (.Call (.Name x p) (e :: es) [] pos) (tD G W (dCallE m af)) := by
  refine wkE (pe_callS F hr hg hm hk hb (L2N.passAt (W := W) tk) ha hdb he hpl) fun σ H Q ⟨ρ, B, φ, S, w, en, q⟩ => ?_
  cases qa : af ρ S with
  | bad => unfold dCallE at q; rw [qa] at q; exact q.elim
  | exc x0 S0 => unfold dCallE at q; rw [qa] at q; exact ⟨ρ, B, φ, S, w, en, by rw [qa]; exact q⟩
  | ok xs0 S0 =>
    have l0 := hn ρ S xs0 S0 qa
    refine ⟨ρ, B, φ, S, w, en, ?_⟩
    unfold dCallE at q
    rw [qa] at q ⊢
    intro H1 B1 φ1 x1 w1 vs r1
    have q1 : WP G W σ H1 B1 φ1 (m xs0 S0) (fun d H' B' φ' _ => ∀ v, RepV G B' φ' d v → Q v H') := WP.rebase x1 q
    refine ⟨B1, φ1, S0, xs0, w1, r1, l0, ?_⟩
    cases qm : m xs0 S0 with
    | bad => rw [qm] at q1; exact q1
    | ok d S' => rw [qm] at q1; exact q1
    | exc x S' => rw [qm] at q1; exact q1
end
end DL

set_option maxHeartbeats 4000000
namespace DL
open PySem L2 L2H
open PySem.Spec PyProof.Rows
/-! ### defs that are called with the handled error -/
structure FnHp (P : Program) (w : World) (K : PySem.W.Frag) (mg : Str → Option Value) (base : Heap) (CX : CXT) (k : Nat) (f : Addr) (fd : FuncData) (ps : List Str) (sp : Addr × Obj → Sp) : Prop where
  len : ∀ p vs H Q E, sp p vs H Q E → vs.length = ps.length
  run : ∀ (A : Around) (outer : List Env) (s : Shared) (H : Hp) (args : Args) (us : List Value) (vs : List V) (Q : VK) (E : XK) (p : Addr × Obj), RoomH k A → Hot1 A p → PinOk outer H s p → Env0 P w K mg base A outer s H → BindsTo s fd args (ps.zip us) → Vals vs us → sp p vs H Q E →
    codeAny (model P w) A (.call (.ref f) args) (CR CX outer P w H s Q E) s
theorem fnHp_of {P : Program} {w : World} {K : PySem.W.Frag} {mg : Str → Option Value} {base : Heap} {CX : CXT} {k : Nat} {f : Addr} {fd : FuncData} {x qual : Str} {st : Stmt} {N ps : List Str} {sp : Addr × Obj → Sp} (F : Fun K x qual st f fd) (S : FnScope N ps (defScope st))
    (len : ∀ p vs H Q E, sp p vs H Q E → vs.length = ps.length)
    (hbody : ∀ (cdv : Value) (A : Around) (outer : List Env) (s : Shared) (H : Hp) (vs : List V) (Q : VK) (E : XK) (p : Addr × Obj), Hot1 A p → RoomH k (A.deeper (envOfC qual (defScope st) s.heap.objs.size f cdv)) → sp p vs H Q E →
      ∃ t, PSs (cxH CX P w K mg base N qual (defScope st) f cdv A outer s H E p) (defBody st) t ∧ t { nx := fun _ H' => Q .non H', rt := Q } (L2.start N vs) H) :
    FnHp P w K mg base CX (k + 1) f fd ps sp := by
  obtain ⟨oc, od, kV, doc, pm, an, cdv, ct, osl, rfl, lk, hcd⟩ := F.ex
  refine ⟨len, fun A outer s H args us vs Q E p hr hot hpin e0 hb r hsp => ?_⟩
  have hl := len _ _ _ _ _ hsp
  have here : K.In s.heap := e0.mod.kin.keeps fun b o e => (e0.bs b o e).1
  have lim : s.heap.NoLimit := e0.mod.nolimit.keeps fun b o e => (e0.bs b o e).1
  have kinds : ∀ y ∈ ps.zip us, (defScope st).names.lookup y.1 = some .local ∨ ((defScope st).names.lookup y.1 = some .cell ∧ ((cellsFrom (s.heap.objs.size + 1) (defScope st).names []).lookup y.1).isSome = true) := fun ⟨n, v⟩ hy =>
    (S.par n (List.of_mem_zip hy).1).imp id fun q => ⟨q, PySem.W.cellsFrom_some _ _ _ (.inl q)⟩
  refine codeAny_call_function hr.depth (here _ _ lk) rfl S.co S.gen rfl (PySem.W.codeRec_of here hcd) (hb _ _ _ _ ?_)
  refine wpAny_newFunctionEnv_cells S.kind kinds fun env he s1 x1 => ?_
  subst he
  refine ⟨lim.keeps x1.toInCall.keep, codeAny_func ?_⟩
  obtain ⟨t, ht, hq⟩ := hbody cdv A outer s H vs Q E p hot (hr.deeper _) hsp
  have I : Inv (cxH CX P w K mg base N qual (defScope st) f cdv A outer s H E p) [] (L2.start N vs) H s1 := inv_startH S hpin e0 hl r x1
  refine wpAny_mono (ht.run [] s1 (L2.start N vs) H _ I hq) (fun fl s' hs => ?_) fun e s' hs => hs
  cases fl with
  | ret u =>
    obtain ⟨v, σ', H', J, rv, q⟩ := hs
    exact ⟨v, H', J.os, J.bare, J.base, J.hok, rv, q⟩
  | next =>
    obtain ⟨σ', H', J, q⟩ := hs
    exact ⟨V.non, H', J.os, J.bare, J.base, J.hok, (rfl : RelV V.non Value.none), q⟩
  | brk =>
    obtain ⟨_, _, _, q⟩ := hs
    exact q.elim
  | cont =>
    obtain ⟨_, _, _, q⟩ := hs
    exact q.elim
/-! ### readings where slot i holds the error at a -/
def yD (G : Gx) (i : Nat) (a : Addr) (cls : Value) (dd : Option Addr) (x : Ex) (f : Ef) : TE := fun σ H Q => ∃ ρ B φ S, Wd G H B φ S ∧ EnvR G B φ σ ρ ∧ σ[i]? = some (some (.ref a)) ∧ XRep G B x cls dd ∧
  WP G noW σ H B φ (f ρ S) fun d H' B' φ' _ => ∀ v, RepV G B' φ' d v → Q v H'
def yA (G : Gx) (i : Nat) (a : Addr) (cls : Value) (dd : Option Addr) (x : Ex) (af : Af) (suf : List V) : TA := fun σ H Q => ∃ ρ B φ S, Wd G H B φ S ∧ EnvR G B φ σ ρ ∧ σ[i]? = some (some (.ref a)) ∧ XRep G B x cls dd ∧
  WP G noW σ H B φ (af ρ S) fun ds H' B' φ' _ => ∀ us, RepVs G B' φ' ds us → Q (us ++ suf) H'
def yS (G : Gx) (i : Nat) (a : Addr) (cls : Value) (dd : Option Addr) (x : Ex) (g : Sf) : TS := fun D σ H => ∃ ρ B φ S, Wd G H B φ S ∧ EnvR G B φ σ ρ ∧ σ[i]? = some (some (.ref a)) ∧ XRep G B x cls dd ∧ WPS G noW D H B φ (g ρ S)
section
variable {Y : Cx} {G : Gx} {i : Nat} {a : Addr} {ob : Obj} {cls : Value} {dd : Option Addr} {x : Ex} {e e2 : Expr} {es : List Expr} {f g : Ef} {c : Tf} {af : Af} {suf : List V} {pos p p2 p3 : Pos} {σ : L2.St} {H B : Hp} {φ : List Addr} {S : Sto} {ρ : Nv}
theorem yD.run {Q : VK} {post : Dv → Hp → Hp → List Addr → Sto → Prop} (w : Wd G H B φ S) (en : EnvR G B φ σ ρ) (hx : σ[i]? = some (some (.ref a))) (xr : XRep G B x cls dd) (h : WP G noW σ H B φ (f ρ S) post)
    (k : ∀ d v H' B' φ' S', Xt H B φ H' B' φ' → Wd G H' B' φ' S' → EnvR G B' φ' σ ρ → XRep G B' x cls dd → RepV G B' φ' d v → post d H' B' φ' S' → Q v H') : yD G i a cls dd x f σ H Q :=
  ⟨ρ, B, φ, S, w, en, hx, xr, h.mono fun d H' B' φ' S' y w' q v r => k d v H' B' φ' S' y w' (en.mono y.b y.p) (xr.mono y.b) r q⟩
theorem yA.run {Q : List V → Hp → Prop} {post : List Dv → Hp → Hp → List Addr → Sto → Prop} (w : Wd G H B φ S) (en : EnvR G B φ σ ρ) (hx : σ[i]? = some (some (.ref a))) (xr : XRep G B x cls dd) (h : WP G noW σ H B φ (af ρ S) post)
    (k : ∀ ds vs H' B' φ' S', Xt H B φ H' B' φ' → Wd G H' B' φ' S' → EnvR G B' φ' σ ρ → XRep G B' x cls dd → RepVs G B' φ' ds vs → post ds H' B' φ' S' → Q (vs ++ suf) H') : yA G i a cls dd x af suf σ H Q :=
  ⟨ρ, B, φ, S, w, en, hx, xr, h.mono fun d H' B' φ' S' y w' q v r => k d v H' B' φ' S' y w' (en.mono y.b y.p) (xr.mono y.b) r q⟩
theorem y_lift (h : PE Y e (tD G noW f)) : PE Y e (yD G i a cls dd x f) := wkE h fun σ H Q ⟨ρ, B, φ, S, w, en, hx, xr, q⟩ => ⟨ρ, B, φ, S, w, en, q⟩
theorem yA_nil : PA Y [] (yA G i a cls dd x aNil []) := wkA pa_nil fun σ H Q ⟨ρ, B, φ, S, w, en, hx, xr, q⟩ => q H B φ Xt.refl w [] rfl
theorem yA_cons (ha : PE Y e (yD G i a cls dd x f)) (hr : PA Y es (yA G i a cls dd x af suf)) (hs : starEach (e :: es) Y.env = (false, eval e Y.env) :: starEach es Y.env := by rfl) : PA Y (e :: es) (yA G i a cls dd x (aCons f af) suf) := by
  refine wkA (pa_cons ha hr hs) fun σ H Q ⟨ρ, B, φ, S, w, en, hx, xr, q⟩ => ?_
  refine yD.run w en hx xr (WP.fst q) fun y v H1 B1 φ1 S1 x1 w1 en1 xr1 r1 q1 => ?_
  refine yA.run w1 en1 hx xr1 (WP.fst q1) fun ds vs H2 B2 φ2 S2 x2 w2 en2 xr2 r2 q2 => ?_
  exact q2 H2 B2 φ2 Xt.refl w2 _ ⟨v, vs, rfl, RepV.mono x2.b x2.p y r1, r2⟩
/-- the error itself, as the last argument -/
theorem yA_err {n : Str} (hN : Y.N[i]? = some n) (hv : Vis Y.env.scope n := by first | exact Or.inl rfl | exact Or.inr (Or.inl rfl) | exact Or.inr (Or.inr rfl)) (hd : (n == ("__debug__" : Str)) = false := by decide) (hcd : (n == ("__classdict__" : Str)) = false := by decide)
    (hs : starEach [.Name n p] Y.env = (false, eval (.Name n p) Y.env) :: starEach [] Y.env := by rfl) : PA Y [.Name n p] (yA G i a cls dd x aNil [.ref a]) :=
  wkA (pa_cons (pe_var hN hv hd hcd) pa_nil hs) fun σ H Q ⟨ρ, B, φ, S, w, en, hx, xr, q⟩ => ⟨_, hx, q H B φ Xt.refl w [] rfl⟩
theorem y_lst (h : PA Y es (yA G i a cls dd x af [])) : PE Y (.List es pos) (yD G i a cls dd x (dLst af)) := by
  refine wkE (pe_lst h) fun σ H Q ⟨ρ, B, φ, S, w, en, hx, xr, q⟩ => ?_
  refine yA.run w en hx xr (WP.fst q) fun xs vs H1 B1 φ1 S1 x1 w1 en1 xr1 r1 q1 => ?_
  split at q1
  · rename_i ds hd
    have r2 := allP_rep hd r1
    rw [List.append_nil]
    split at q1
    · rename_i hl
      refine ⟨by rw [← r2.length, ← big_eq]; exact hl, fun p hp => q1 _ _ _ (Xt.alloc w1 hp) (w1.alloc hp) _ ?_⟩
      exact rep_lst.mpr ⟨p, vs, rfl, upd_same, Reps.mono (same_upd' (w1.bfree hp)) _ r2⟩
    · exact q1.elim
  · exact q1.elim
theorem y_two {r : R2} {op : Op2} (h : Ok2 G noW r op) (σ : L2.St) (H : Hp) (Q : VK) (q : yD G i a cls dd x (dBin op f g) σ H Q) : tOp r (yD G i a cls dd x f) (yD G i a cls dd x g) σ H Q := by
  obtain ⟨ρ, B, φ, S, w, en, hx, xr, q⟩ := q
  refine yD.run w en hx xr (WP.fst q) fun y v H1 B1 φ1 S1 x1 w1 en1 xr1 r1 q1 => ?_
  refine yD.run w1 en1 hx xr1 (WP.fst q1) fun z u H2 B2 φ2 S2 x2 w2 en2 xr2 r2 q2 => ?_
  exact h H2 B2 φ2 S2 σ y z v u Q w2 (RepV.mono x2.b x2.p y r1) r2 q2
theorem y_bin {o : Operator} {r : R2} {op : Op2} (ho : OpR Y (binaryOp o) r) (h : Ok2 G noW r op) (ha : PE Y e (yD G i a cls dd x f)) (hb : PE Y e2 (yD G i a cls dd x g)) : PE Y (.BinOp e o e2 pos) (yD G i a cls dd x (dBin op f g)) := wkE (pe_op ho ha hb) (y_two h)
theorem y_cmp {o : CmpOp} {r : R2} {op : Op2} (ho : OpR Y (compareOp o) r) (h : Ok2 G noW r op) (ha : PE Y e (yD G i a cls dd x f)) (hb : PE Y e2 (yD G i a cls dd x g)) (hm : behindInMarks o e2 = false) : PE Y (.Compare e [o] [e2] pos) (yD G i a cls dd x (dBin op f g)) := wkE (pe_cmpR ho ha hb hm) (y_two h)
theorem y_one {op} (h : PE Y e (yD G i a cls dd x f)) : PE Y (.BoolOp op [e] pos) (yD G i a cls dd x f) := pe_one h
theorem y_and {rest : List Expr} (ha : PE Y e (yD G i a cls dd x f)) (hb : PE Y (.BoolOp .And (e2 :: rest) pos) (yD G i a cls dd x g)) : PE Y (.BoolOp .And (e :: e2 :: rest) pos) (yD G i a cls dd x (dAnd f g)) := by
  refine wkE (pe_and ha hb) fun σ H Q ⟨ρ, B, φ, S, w, en, hx, xr, q⟩ => ?_
  refine yD.run w en hx xr (WP.fst q) fun y v H1 B1 φ1 S1 x1 w1 en1 xr1 r1 q1 => ?_
  split at q1
  · rename_i t
    rw [rep_bl] at r1
    refine ⟨t, r1, ?_⟩
    cases t with
    | true => rw [if_pos rfl] at q1 ⊢; exact ⟨ρ, B1, φ1, S1, w1, en1, hx, xr1, q1⟩
    | false => rw [if_neg Bool.false_ne_true] at q1 ⊢; exact q1 H1 B1 φ1 Xt.refl w1 _ (rep_bl.mpr rfl)
  · exact q1.elim
theorem y_if {cc : Expr} (hc : PT Y cc (tT G noW c)) (ha : PE Y e (yD G i a cls dd x f)) (hb : PE Y e2 (yD G i a cls dd x g)) : PE Y (.IfExp cc e e2 pos) (yD G i a cls dd x (dIf c f g)) := by
  refine wkE (pe_ifExp hc ha hb) fun σ H Q ⟨ρ, B, φ, S, w, en, hx, xr, q⟩ => ?_
  refine tT.run w en (WP.fst q) fun t H1 B1 φ1 S1 x1 w1 en1 q1 => ?_
  cases t with
  | true => rw [if_pos rfl] at q1 ⊢; exact ⟨ρ, B1, φ1, S1, w1, en1, hx, xr.mono x1.b, q1⟩
  | false => rw [if_neg Bool.false_ne_true] at q1 ⊢; exact ⟨ρ, B1, φ1, S1, w1, en1, hx, xr.mono x1.b, q1⟩
/-- e.f -/
theorem y_fld {fl n : Str} {k : Nat} {d : D} (hp : (a, ob) ∈ Y.pn) (T : XfC Y.K (G.xc x.cls)) (hno : PySem.W.findIn Y.K (.ref (G.xc x.cls)) fl = some none) (nd : (G.xf x.cls).Nodup) (hk : (G.xf x.cls)[k]? = some fl) (hd0 : x.args[k]? = some d) (hz : Zc cls dd ob) (hf : ∃ vs, ob.data = .fields vs) (hN : Y.N[i]? = some n)
    (hv : Vis Y.env.scope n := by first | exact Or.inl rfl | exact Or.inr (Or.inl rfl) | exact Or.inr (Or.inr rfl)) (hd : (n == ("__debug__" : Str)) = false := by decide) (hcd : (n == ("__classdict__" : Str)) = false := by decide)
    (hb : attributeBase (.Name n p) fl Y.env (eval (.Name n p) Y.env) = eval (.Name n p) Y.env := by rfl) :
    PE Y (.Attribute (.Name n p) fl pos) (yD G i a cls dd x (dC d)) := by
  refine ⟨fun pins s σ H Q I ⟨ρ, B, φ, S, w, en, hx, xr, h⟩ => ?_⟩
  obtain ⟨e1, e2⟩ := xr
  cases hl : x.args with
  | nil => rw [hl] at hd0; simp at hd0
  | cons d0 dr =>
    rw [hl] at e2
    obtain ⟨da, vs, rfl, hd1, r, hlen⟩ := e2
    rw [hl] at hd0
    obtain ⟨v, hv1, rv⟩ := r.get hd0
    refine attr_of hb (thn ((pe_var (X := Y) (pos := p) hN hv hd hcd).run pins s σ H (fun y H1 => y = .ref a ∧ H1 = H) I ⟨_, hx, rfl, rfl⟩) fun u s1 hh => ?_)
    obtain ⟨y, H1, I1, rx, ey, eH⟩ := hh
    subst ey eH
    obtain rfl : u = Value.ref a := rx
    obtain ⟨ha, _⟩ := I1.pin (a, ob) (List.mem_append_left _ hp)
    obtain ⟨vs0, hdat⟩ := hf
    have hxx : ObjOk Y.prog Y.w H1 s1.heap da (.xd ((G.xf x.cls).zip vs)) := I1.hok da _ (w.sub _ _ hd1)
    obtain ⟨mA, hns, hr⟩ := hxx
    obtain ⟨od, ho, hl2⟩ := lookIn_ns hns
    obtain ⟨u, hu, ru⟩ := RelO.some_of (v := v) (o := mA fl) (by rw [← zip_at nd hk hv1]; exact hr fl)
    have J : PySem.W.InstAt s1.heap a ob (G.xc x.cls) (some od) := ⟨ha, by rw [hz.1, e1], by unfold PySem.W.notCls; rw [hdat] <;> rfl, by rw [hz.2]; exact ho⟩
    exact HandSPX.exc_get I1.kIn J T.ga T.gg T.exC (PySem.W.findObj_own T.hdC hno rfl (by rw [hl2, hu])) (handed_of ru) ⟨v, H1, I1.tok _, ru, h H1 B φ Xt.refl w v rv⟩
/-- isinstance(e, C), C an own class or a built-in one -/
theorem y_is {m n : Str} {cv : Value} {z : V} {b : Bool} (hp : (a, ob) ∈ Y.pn) (T : ExcC Y.K (G.xc x.cls)) (kit : PySem.W.kitOne Y.K (.ref (G.xc x.cls)) cv = some b) (hz : Zc cls dd ob) (hf : ∃ vs, ob.data = .fields vs) (hN : Y.N[i]? = some n)
    (hg : Gl Y "isinstance") (hm : Y.mg "isinstance" = none) (hC : PE Y (.Name m p2) (tC z)) (hz2 : ∀ u, RelV z u → u = cv) (hcn : ∀ r : Addr, cv = .ref r → True := by intros; trivial)
    (hv : Vis Y.env.scope n := by first | exact Or.inl rfl | exact Or.inr (Or.inl rfl) | exact Or.inr (Or.inr rfl)) (hd : (n == ("__debug__" : Str)) = false := by decide) (hcd : (n == ("__classdict__" : Str)) = false := by decide)
    (s1 : starEach [.Name n p, .Name m p2] Y.env = [(false, eval (.Name n p) Y.env), (false, eval (.Name m p2) Y.env)] := by rfl) :
    PE Y (.Call (.Name "isinstance" p3) [.Name n p, .Name m p2] [] pos) (yD G i a cls dd x (dC (.bl b))) := by
  refine ⟨fun pins s σ H Q I ⟨ρ, B, φ, S, w, en, hx, xr, h⟩ => ?_⟩
  obtain ⟨e1, e2⟩ := xr
  subst e1
  have hcall : CallR Y (.builtin "isinstance") (fun xs H Q => xs = [.ref a, z] ∧ (dd = none ∨ ∃ d fs, dd = some d ∧ H d = some (.xd fs)) ∧ Q (.bl b) H) := by
    intro pins s σ H xs us Q I r ⟨hxs, hdd, q⟩
    subst hxs
    cases r with
    | cons rx rr =>
      cases rr with
      | cons rt rr =>
        cases rr
        cases rx
        have ez := hz2 _ rt
        subst ez
        obtain ⟨hget, _⟩ := I.pin (a, ob) (List.mem_append.mpr (.inl hp))
        obtain ⟨vs, hvs⟩ := hf
        have J : ∃ od, PySem.W.InstAt s.heap a ob (G.xc x.cls) od := by
          obtain ⟨oc, oda, odt, osl⟩ := ob
          obtain ⟨z1, z2⟩ := hz
          dsimp only at z1 z2 hvs
          subst z1 z2 hvs
          rcases hdd with rfl | ⟨d, fs, rfl, hd⟩
          · exact ⟨none, hget, rfl, rfl, trivial⟩
          · obtain ⟨mA, hns, hr⟩ : ObjOk Y.prog Y.w H s.heap d (.xd fs) := I.hok d _ hd
            obtain ⟨od, ho, hl⟩ := lookIn_ns hns
            exact ⟨some od, hget, rfl, rfl, ho⟩
        obtain ⟨od, J⟩ := J
        exact PySem.W.kia_one (exc_kit T) I.kIn J kit (fun z => nomatch z) fun tk => ⟨.bl b, H, I.kept (t' := tk) fun _ _ z => z, rfl, q⟩
  have base := pe_callB (pos := pos) (p := p3) hcall hg hm PyProof.Rows.boot_isinstance (pa_cons (pe_var (pos := p) hN hv hd hcd) (pa_cons hC pa_nil (by rfl)) s1)
  refine base.run pins s σ H Q I ?_
  refine ⟨_, hx, rfl, ?_, h H B φ Xt.refl w _ (rep_bl.mpr rfl)⟩
  cases hl : x.args with
  | nil => rw [hl] at e2; exact .inl e2
  | cons d0 dr =>
    rw [hl] at e2
    obtain ⟨da, vs, q1, hd1, r, hlen⟩ := e2
    exact .inr ⟨da, _, q1, w.sub _ _ hd1⟩
theorem y_bad : PE Y e (yD G i a cls dd x fun _ _ => .bad) := ⟨fun _ _ _ _ _ _ ⟨_, _, _, _, _, _, _, _, h⟩ => h.elim⟩
/-- the class of the error, of n that are known -/
def eIs (n : Nat) (b : Nat → Bool) (x : Ex) : Ef := if x.cls < n then dC (.bl (b x.cls)) else fun _ _ => .bad
def eFld (j k : Nat) (x : Ex) : Ef := if x.cls = j then (match x.args[k]? with
  | some d => dC d
  | none => fun _ _ => .bad) else fun _ _ => .bad
theorem y_isX {m n : Str} {cv : Value} {z : V} {c : Nat} {b : Nat → Bool} (hp : (a, ob) ∈ Y.pn) (T : ∀ j, j < c → ExcC Y.K (G.xc j) ∧ PySem.W.kitOne Y.K (.ref (G.xc j)) cv = some (b j)) (hz : Zc cls dd ob) (hf : ∃ vs, ob.data = .fields vs) (hN : Y.N[i]? = some n)
    (hg : Gl Y "isinstance") (hm : Y.mg "isinstance" = none) (hC : PE Y (.Name m p2) (tC z)) (hz2 : ∀ u, RelV z u → u = cv)
    (hv : Vis Y.env.scope n := by first | exact Or.inl rfl | exact Or.inr (Or.inl rfl) | exact Or.inr (Or.inr rfl)) (hd : (n == ("__debug__" : Str)) = false := by decide) (hcd : (n == ("__classdict__" : Str)) = false := by decide)
    (s1 : starEach [.Name n p, .Name m p2] Y.env = [(false, eval (.Name n p) Y.env), (false, eval (.Name m p2) Y.env)] := by rfl) :
    PE Y (.Call (.Name "isinstance" p3) [.Name n p, .Name m p2] [] pos) (yD G i a cls dd x (eIs c b x)) := by
  unfold eIs
  split
  · rename_i h
    exact y_is hp (T _ h).1 (T _ h).2 hz hf hN hg hm hC hz2 (fun _ _ => trivial) hv hd hcd s1
  · exact y_bad
theorem y_fldX {fl n : Str} {j k : Nat} (hp : (a, ob) ∈ Y.pn) (T : XfC Y.K (G.xc j)) (hno : PySem.W.findIn Y.K (.ref (G.xc j)) fl = some none) (nd : (G.xf j).Nodup) (hk : (G.xf j)[k]? = some fl) (hz : Zc cls dd ob) (hf : ∃ vs, ob.data = .fields vs) (hN : Y.N[i]? = some n)
    (hv : Vis Y.env.scope n := by first | exact Or.inl rfl | exact Or.inr (Or.inl rfl) | exact Or.inr (Or.inr rfl)) (hd : (n == ("__debug__" : Str)) = false := by decide) (hcd : (n == ("__classdict__" : Str)) = false := by decide)
    (hb : attributeBase (.Name n p) fl Y.env (eval (.Name n p) Y.env) = eval (.Name n p) Y.env := by rfl) :
    PE Y (.Attribute (.Name n p) fl pos) (yD G i a cls dd x (eFld j k x)) := by
  unfold eFld
  split
  · rename_i h
    subst h
    split
    · rename_i d hd0
      exact y_fld hp T hno nd hk hd0 hz hf hN hv hd hcd hb
    · exact y_bad
  · exact y_bad
/-! statements -/
variable {rest : List Stmt} {st : Stmt} {g2 : Sf}
def sThen (j : Nat) (f : Ef) (g : Sf) : Sf := fun ρ S => (f ρ S).toS ρ fun d S' => g (ρ.set j (some d)) S'
def sElse (c : Tf) (f : Ef) (g : Sf) : Sf := fun ρ S => (c ρ S).toS ρ fun b S' => if b = true then sRet f ρ S' else g ρ S'
theorem y_set_cons {j : Nat} {y : Str} (hij : i ≠ j) (hN : Y.N.Nodup) (hj : Y.N[j]? = some y) (hy : Loc Y.env.scope y) (he : PE Y e (yD G i a cls dd x f)) (hr : PSs Y rest (yS G i a cls dd x g2)) (hs : swapsWith e (some (.Name y p)) pos.line Y.env = pure false := by rfl)
    (hf : Y.fn y = true ∨ Y.env.scope.names.lookup y = some .local := by first | exact .inl rfl | exact .inr rfl | assumption) : PSs Y (.Assign [.Name y p] e pos :: rest) (yS G i a cls dd x (sThen j f g2)) :=
  wkSs (pss_cons (ps_set hN hj hy he hs hf) hr) fun D σ H ⟨ρ, B, φ, S, w, en, hx, xr, h⟩ =>
    yD.run w en hx xr (WPS.fst en h) fun d v H1 B1 φ1 S1 x1 w1 en1 xr1 r1 q1 => ⟨ρ.set j (some d), B1, φ1, S1, w1, en1.set j r1, by rw [List.getElem?_set_ne (Ne.symm hij)]; exact hx, xr1, q1⟩
theorem y_set_one {j : Nat} {y : Str} (hN : Y.N.Nodup) (hj : Y.N[j]? = some y) (hy : Loc Y.env.scope y) (he : PE Y e (yD G i a cls dd x f)) (hs : swapsWith e (some (.Name y p)) pos.line Y.env = pure false := by rfl)
    (hf : Y.fn y = true ∨ Y.env.scope.names.lookup y = some .local := by first | exact .inl rfl | exact .inr rfl | assumption) : PSs Y [.Assign [.Name y p] e pos] (yS G i a cls dd x (sSet j f)) :=
  wkSs (pss_one (ps_set hN hj hy he hs hf)) fun D σ H ⟨ρ, B, φ, S, w, en, hx, xr, h⟩ =>
    yD.run w en hx xr (WPS.fst en h) fun d v H1 B1 φ1 S1 x1 w1 en1 xr1 r1 q1 => WPS.here w1 q1 _ (en1.set j r1)
theorem y_ret_one (he : PE Y e (yD G i a cls dd x f)) : PSs Y [.Return (some e) pos] (yS G i a cls dd x (sRet f)) :=
  wkSs (pss_one (ps_ret he)) fun D σ H ⟨ρ, B, φ, S, w, en, hx, xr, h⟩ =>
    yD.run w en hx xr (WPS.fst en h) fun d v H1 B1 φ1 S1 x1 w1 en1 xr1 r1 q1 => WPS.here w1 q1 v r1
theorem y_if_cons {cc : Expr} (hc : PT Y cc (tT G noW c)) (he : PE Y e (yD G i a cls dd x f)) (hr : PSs Y rest (yS G i a cls dd x g2)) : PSs Y (.If cc [.Return (some e) p] [] pos :: rest) (yS G i a cls dd x (sElse c f g2)) :=
  wkSs (pss_cons (ps_if hc (pss_one (ps_ret he)) pss_nil) hr) fun D σ H ⟨ρ, B, φ, S, w, en, hx, xr, h⟩ =>
    tT.run w en (WPS.fst en h) fun t H1 B1 φ1 S1 x1 w1 en1 q1 => by
      cases t with
      | true =>
        rw [if_pos rfl] at q1 ⊢
        exact yD.run w1 en1 hx (xr.mono x1.b) (WPS.fst en1 q1) fun d v H2 B2 φ2 S2 x2 w2 en2 xr2 r2 q2 => WPS.here w2 q2 v r2
      | false =>
        rw [if_neg Bool.false_ne_true] at q1 ⊢
        exact ⟨ρ, B1, φ1, S1, w1, en1, hx, xr.mono x1.b, q1⟩
/-! calls -/
def spH (G : Gx) (n : Nat) (m : Ex → List Dv → Sto → Out Dv) (p : Addr × Obj) : Sp := fun vs H Q _ => ∃ B φ S x cls dd ds us, vs = us ++ [.ref p.1] ∧ Zc cls dd p.2 ∧ Wd G H B φ S ∧ RepVs G B φ ds us ∧ ds.length = n ∧ XRep G B x cls dd ∧
  WP G noW [] H B φ (m x ds S) fun d H' B' φ' _ => ∀ v, RepV G B' φ' d v → Q v H'
def dCallH (n : Nat) (m : List Dv → Sto → Out Dv) (af : Af) : Ef := fun ρ S => (af ρ S).bind fun ds S1 => if ds.length = n then m ds S1 else .bad
theorem noW_wp {α : Type} {σ' : L2.St} {o : Out α} {post : α → Hp → Hp → List Addr → Sto → Prop} (h : WP G noW σ H B φ o post) : WP G noW σ' H B φ o post := by
  cases o with
  | ok d S => exact h
  | exc x S => exact h
  | bad => exact h
theorem y_call {n k : Nat} {fa : Addr} {fd : FuncData} {ps : List Str} {m : Ex → List Dv → Sto → Out Dv} {nm : Str} (hp : (a, ob) ∈ Y.pn) (hz : Zc cls dd ob) (h1 : Hot1 Y.A (a, ob)) (F : FnHp Y.prog Y.w Y.K Y.mg Y.base (L2.CX Y.prog Y.w) k fa fd ps (spH G n m)) (hr : RoomH k Y.A) (hg : Gl Y nm) (hm : Y.mg nm = some (.ref fa)) (hk : PySem.W.keepIn Y.K (.ref fa) = true) (hb : Binds Y.K fd ps [])
    (ha : PA Y (e :: es) (yA G i a cls dd x af [.ref a])) (hdb : (nm == ("__debug__" : Str)) = false := by decide) (he : starEach (e :: es) Y.env = (false, eval e Y.env) :: starEach es Y.env := by rfl) (hpl : (backTo pos (starEach es Y.env)).any (·.1) = false := by rfl) :
    PE Y (.Call (.Name nm p) (e :: es) [] pos) (yD G i a cls dd x (dCallH n (m x) af)) := by
  refine ⟨fun pins s σ H Q I ⟨ρ, B, φ, S, w, en, hx, xr, h⟩ => ?_⟩
  have start : yA G i a cls dd x af [.ref a] σ H (fun vs H1 => spH G n m (a, ob) vs H1 Q (fun _ _ _ => False)) := by
    refine yA.run w en hx xr (WP.fst h) fun ds vs H1 B1 φ1 S1 x1 w1 en1 xr1 r1 q1 => ?_
    split at q1
    · rename_i hl
      exact ⟨B1, φ1, S1, x, cls, dd, ds, vs, rfl, hz, w1, r1, hl, xr1, noW_wp q1⟩
    · exact q1.elim
  refine wpAny_Call_Name_kw (ld_glob I hg hm ?_ hdb)
  refine PySem.W.callWith_K (h₀ := Y.base) I.ok.mod.kin hk (thn (ha.run pos pins s σ H _ I start) fun us s1 ⟨vs, H1, I1, r, q⟩ => ⟨I1.kIn, ?_⟩) he hpl
  have hl : us.length = ps.length := by rw [← r.length]; exact F.len _ _ _ _ _ q
  have b := hb s1 us I1.kIn (by rw [List.append_nil]; exact hl)
  rw [List.append_nil] at b
  have P1 := I1.pin (a, ob) (List.mem_append_left _ hp)
  have hpin : PinOk Y.stack H1 s1 (a, ob) := ⟨P1.1, P1.2.1, fun hm => (List.mem_cons.mp (I1.stkSub _ hm)).elim P1.2.2.1 P1.2.2.2.1, P1.2.2.2.2⟩
  refine wpAny_call (codeAny_mono (F.run Y.A Y.stack s1 H1 ⟨us, []⟩ us vs Q (fun _ _ _ => False) (a, ob) hr h1 hpin I1.env0 b r q) fun r s' hq => ?_)
  cases r with
  | error er => exact passL _ _ _ _ _ _ I1 hq
  | ok fl =>
    cases fl with
    | ret u => exact I1.after hq
    | next => exact hq.elim
    | brk => exact hq.elim
    | cont => exact hq.elim
/-- what such a def's body makes: its data, the error, its other names -/
def runH (j : Nat) (body : Ex → Sf) (x : Ex) (ds : List Dv) (S : Sto) : Out Dv := match body x (ds.map some ++ none :: List.replicate j none) S with
  | .ok (.rt d) S' => .ok d S'
  | _ => .bad
end
section
variable {P : Program} {w : World} {K : PySem.W.Frag} {mg : Str → Option Value} {base : Heap} {G : Gx}
theorem envR_hot {B : Hp} {φ : List Addr} {N : List Str} {ds : List Dv} {us : List V} {v : V} {j : Nat} (r : RepVs G B φ ds us) (hl : N.length = ds.length + 1 + j) : EnvR G B φ (L2.start N (us ++ [v])) (ds.map some ++ none :: List.replicate j none) := by
  have e := r.length
  unfold L2.start
  refine ⟨by simp; omega, fun i d h => ?_⟩
  by_cases hi : i < ds.length
  · rw [List.getElem?_append_left (by simpa using hi), List.getElem?_map] at h
    cases q : ds[i]? with
    | none => rw [q] at h; cases h
    | some d' =>
      rw [q] at h
      have : d' = d := by simpa using h
      subst this
      obtain ⟨v, h1, h2⟩ := r.get q
      exact ⟨v, by rw [List.map_append, List.append_assoc, List.getElem?_append_left (by simpa [← e] using hi), List.getElem?_map, h1]; rfl, h2⟩
  · rw [List.getElem?_append_right (by simpa using hi), ← List.replicate_succ, List.getElem?_replicate] at h
    split at h <;> cases h
theorem okH {x qual : Str} {st : Stmt} {f : Addr} {fd : FuncData} {N ps : List Str} {k n j : Nat} {body : Ex → Sf} (F : Fun K x qual st f fd) (Sc : FnScope N ps (defScope st)) (hps : ps.length = n + 1) (hN : N.length = n + 1 + j)
    (der : ∀ (cd : Value) (A : Around) (outer : List Env) (s : Shared) (H : Hp) (E : XK) (p : Addr × Obj) (cls : Value) (dd : Option Addr) (y : Ex), RoomH k (cxH (L2.CX P w) P w K mg base N qual (defScope st) f cd A outer s H E p).A → Hot1 A p → Zc cls dd p.2 → (∃ vs, p.2.data = .fields vs) →
      PSs (cxH (L2.CX P w) P w K mg base N qual (defScope st) f cd A outer s H E p) (defBody st) (yS G n p.1 cls dd y (body y))) : FnHp P w K mg base (L2.CX P w) (k + 1) f fd ps (spH G n (runH j body)) := by
  refine fnHp_of F Sc (fun p vs H Q E h => ?_) (fun cd A outer s H vs Q E p hot hr h => ?_)
  · obtain ⟨B, φ, S, y, cls, dd, ds, us, rfl, hz, w0, r, hl, xr, q⟩ := h
    rw [List.length_append, ← r.length, hl, hps]; rfl
  · obtain ⟨B, φ, S, y, cls, dd, ds, us, rfl, hz, w0, r, hl, xr, q⟩ := h
    obtain ⟨_, vs0, hvs0, _⟩ := id hot
    refine ⟨_, der cd A outer s H E p cls dd y hr hot hz ⟨_, hvs0⟩, _, B, φ, S, w0, envR_hot (j := j) r (by rw [hl, hN]), ?_, xr, ?_⟩
    · unfold L2.start
      have e := r.length
      rw [List.map_append, List.append_assoc, List.getElem?_append_right (by simp; omega)]
      simp [← e, hl]
    · unfold runH at q
      cases qb : body y (ds.map some ++ none :: List.replicate j none) S with
      | bad => rw [qb] at q; exact q.elim
      | exc e ρ S => rw [qb] at q; exact q.elim
      | ok fl S =>
        rw [qb] at q
        cases fl with
        | nx ρ => exact q.elim
        | bk ρ => exact q.elim
        | ct ρ => exact q.elim
        | rt d => exact fun H' B' φ' xx w' v r' => q H' B' φ' xx w' v r'
end
/-! ### try: .. except C as e: .. where nothing else flies -/
def sTryN (f : Sf) (n i : Nat) (g : Ex → Sf) : Sf := fun ρ S => match f ρ S with
  | .exc x ρ' S' => if x.cls < n ∧ i < ρ'.length then (g x (ρ'.set i none) S').away i else .bad
  | .ok fl S' => .ok fl S'
  | .bad => .bad
section
variable {X : Cx} {G : Gx} {W : WX}
theorem hot_suite {a : Addr} {ob : Obj} {cls : Value} {dd : Option Addr} {pn : List (Addr × Obj)} (hz : L2N.Zn cls dd ob) (hf : ∃ vs, ob.data = .fields vs) : Hot1 (X.suite a ((a, ob) :: pn)).A (a, ob) := by
  obtain ⟨vs, hv⟩ := hf
  exact ⟨rfl, vs, hv, hz.2.2 vs hv⟩
theorem suite_of {Y : Cx} {i : Nat} {a : Addr} {cls : Value} {dd : Option Addr} {sts : List Stmt} {g : Ex → Sf} (h : ∀ x, PSs Y sts (yS G i a cls dd x (g x))) : PSs Y sts (tX G i a cls dd g) :=
  ⟨fun pins s σ H D I ⟨x, ρ, B, φ, S, w, en, hx, xr, q⟩ => (h x).run pins s σ H D I ⟨ρ, B, φ, S, w, en, hx, xr, q⟩⟩
theorem dpN_try {f : Sf} {g : Ex → Sf} {n i : Nat} {x y : Str} {c : Value} {body suite : List Stmt} {b₀ : Stmt} {np pos pos' : Pos} (hs : X.stack = X.env :: X.outer) (hfr : X.env.frame = some X.env.locals) (hN : X.N.Nodup) (hi : X.N[i]? = some y) (hln : X.env.kindOf y = some .local) (hc : Names X x c)
    (hm : ∀ m, m < n → PySem.W.exmOne X.K (.ref (G.xc m)) c = some true)
    (hb : ∀ (W' : WX) (pn : List (Addr × Obj)) (xe : Value → Shared → Prop), L2N.Takes (X.tr pn xe) W' → PassesOwn (model X.prog X.w) X.A X.env xe → PSs (X.tr pn xe) body (tS G W' f))
    (hsu : ∀ (a : Addr) (oe : Obj) (cls : Value) (dd : Option Addr) (pn : List (Addr × Obj)), L2N.Zn cls dd oe → (∃ vs, oe.data = .fields vs) → PSs (X.suite a ((a, oe) :: pn)) (b₀ :: suite) (tX G i a cls dd g)) :
    PS X (.Try body [.ExceptHandler (some (.Name x np)) (some y) (b₀ :: suite) pos'] [] [] pos) (tS G W (sTryN f n i g)) := by
  refine wkS (L2N.ps_try_as (Wout := noW) (ts := fun a cls d => tX G i a cls d g) (tb := fun W' => tS G W' f) hs hfr hN hi hln hc (fun _ _ ⟨_, _, _, _, _, _, _, _, _, _, _, _, _, _, _, _, z⟩ => z.elim) hb hsu) fun D σ H ⟨ρ, B, φ, S, w, en, q⟩ => ⟨ρ, B, φ, S, w, en, ?_⟩
  unfold sTryN at q
  cases e : f ρ S with
  | bad => rw [e] at q; exact q
  | ok fl S' => rw [e] at q; exact q
  | exc z ρ' S' =>
    rw [e] at q
    dsimp only at q
    split at q
    · rename_i hh
      intro H' B' φ' c' dd σ' x1 w1 xr en1
      refine ⟨true, by rw [xr.1]; exact hm _ hh.1, fun _ a na => ?_, fun e => nomatch e⟩
      exact ⟨z, ρ'.set i none, B', φ', S', w1, en1.drop1 i _, List.getElem?_set_self (by rw [← en1.len]; exact hh.2), xr, away_wps (WPS.rebase x1 q)⟩
    · exact q.elim
end
theorem roomU {k : Nat} {A : Around} (r : L2H.RoomH k A) : A.units + 64 < cLine := by have := r.un; omega
theorem roomHot {k : Nat} {A : Around} {h : Option Value} (r : Room k A) (hk : 1 ≤ k) : L2H.RoomH 1 (A.mark h) := ⟨(r.mono hk).dp, (r.mono hk).un⟩
theorem boot_VE : bootBuiltins "ValueError" = some (.type "ValueError") := by decide +kernel
theorem kit_sub {K : PySem.W.Frag} {C D : Addr} {b : Bool} (h1 : PySem.W.isClsIn K C = true) (h2 : PySem.W.typeIn K (.ref C) = some (.type "type")) (h3 : PySem.W.subIn K (.ref D) (.ref C) = some b) (h4 : PySem.W.subIn K (.ref C) (.ref C) = some true) : PySem.W.kitOne K (.ref D) (.ref C) = some b := by
  cases b with
  | true => exact kit_own h1 h2 h3
  | false =>
    refine kit_no h1 h2 (beq_eq_false_iff_ne.mpr fun e => ?_) h3
    rw [e, h4] at h3
    cases h3
theorem kit_yesT {K : PySem.W.Frag} {t : Value} {T : String} (h1 : PySem.W.kitMeta T = true) (h3 : PySem.W.subIn K t (.type T) = some true) : PySem.W.kitOne K t (.type T) = some true := by
  unfold PySem.W.kitOne
  split
  · rfl
  · unfold PySem.W.kitCls
    dsimp only
    rw [if_pos h1, h3]
end DL

namespace DL
open PySem L2
open PySem.Spec PyProof.Rows
/-! ### evaluation of mirrors, by simp only [..] -/
section
variable {α β : Type} {ρ ρ' : Nv} {S S' : Sto} {f g : Ef} {d e : D} {x y : Dv} {i j : Int} {n : Nat} {b : Bool} {st su : Sf} {c c' : Tf}
def OS.seq (o : OS) (g : Sf) : OS := match o with
  | .ok (.nx ρ') S' => g ρ' S'
  | .ok (.rt d) S' => .ok (.rt d) S'
  | .ok (.bk d) S' => .ok (.bk d) S'
  | .ok (.ct d) S' => .ok (.ct d) S'
  | .exc x ρ' S' => .exc x ρ' S'
  | .bad => .bad
theorem e_seq : sSeq st su ρ S = (st ρ S).seq su := rfl
theorem e_seq_nx : OS.seq (.ok (.nx ρ) S) su = su ρ S := rfl
theorem e_seq_rt : OS.seq (.ok (.rt x) S) su = .ok (.rt x) S := rfl
theorem e_seq_ite {p : Prop} [Decidable p] {o o' : OS} : OS.seq (if p then o else o') su = if p then o.seq su else o'.seq su := by split <;> rfl
theorem e_bind {a : α} {k : α → Sto → Out β} : (Out.ok a S).bind k = k a S := rfl
theorem e_bind_ite {p : Prop} [Decidable p] {o o' : Out α} {k : α → Sto → Out β} : (if p then o else o').bind k = if p then o.bind k else o'.bind k := by split <;> rfl
theorem e_toS {a : α} {k : α → Sto → OS} : (Out.ok a S).toS ρ k = k a S := rfl
theorem e_toS_ite {p : Prop} [Decidable p] {o o' : Out α} {k : α → Sto → OS} : (if p then o else o').toS ρ k = if p then o.toS ρ k else o'.toS ρ k := by split <;> rfl
theorem e_set : sSet n f ρ S = (f ρ S).toS ρ fun d S' => .ok (.nx (ρ.set n (some d))) S' := rfl
theorem e_ret : sRet f ρ S = (f ρ S).toS ρ fun d S' => .ok (.rt d) S' := rfl
theorem e_expr : sExpr f ρ S = (f ρ S).toS ρ fun _ S' => .ok (.nx ρ) S' := rfl
theorem e_nil : sNil ρ S = .ok (.nx ρ) S := rfl
theorem e_if : sIf c st su ρ S = (c ρ S).toS ρ fun b S' => if b = true then st ρ S' else su ρ S' := rfl
theorem e_par {i j : Nat} {a : Af} : sPar i j a ρ S = (a ρ S).toS ρ fun ds S' => match ds with
  | [d, e] => .ok (.nx ((ρ.set i (some d)).set j (some e))) S'
  | _ => .bad := rfl
theorem e_name : dName n ρ S = match ρ[n]? with
  | some (some d) => .ok d S
  | _ => .bad := rfl
theorem e_C : dC d ρ S = .ok (.p d) S := rfl
theorem e_bin {op : Op2} : dBin op f g ρ S = (f ρ S).bind fun x S1 => (g ρ S1).bind fun y S2 => op x y S2 := rfl
theorem e_un {op : Op1} : dUn op f ρ S = (f ρ S).bind op := rfl
theorem e_ifx : dIf c f g ρ S = (c ρ S).bind fun b S1 => if b = true then f ρ S1 else g ρ S1 := rfl
theorem e_aNil : aNil ρ S = .ok [] S := rfl
theorem e_aCons {r : Af} : aCons f r ρ S = (f ρ S).bind fun x S1 => (r ρ S1).bind fun xs S2 => .ok (x :: xs) S2 := rfl
theorem e_call {op : OpN} {a : Af} : dCall op a ρ S = (a ρ S).bind op := rfl
theorem e_cVal : cVal f ρ S = (f ρ S).bind fun d S1 => match d with
  | .p (.bl b) => .ok b S1
  | _ => .bad := rfl
theorem e_cNot : cNot c ρ S = (c ρ S).bind fun b S1 => .ok (!b) S1 := rfl
theorem e_cAnd : cAnd c c' ρ S = (c ρ S).bind fun b S1 => if b = true then c' ρ S1 else .ok false S1 := rfl
theorem e_cOr : cOr c c' ρ S = (c ρ S).bind fun b S1 => if b = true then .ok true S1 else c' ρ S1 := rfl
theorem e_and : dAnd f g ρ S = (f ρ S).bind fun d S1 => match d with
  | .p (.bl b) => if b = true then g ρ S1 else .ok (.p (.bl false)) S1
  | _ => .bad := rfl
theorem e_or : dOr f g ρ S = (f ρ S).bind fun d S1 => match d with
  | .p (.bl b) => if b = true then .ok (.p (.bl true)) S1 else g ρ S1
  | _ => .bad := rfl
theorem e_not : dNot f ρ S = (f ρ S).bind fun d S1 => match d with
  | .p (.bl b) => .ok (.p (.bl (!b))) S1
  | _ => .bad := rfl
theorem e_add : oAdd (.p (.int i)) (.p (.int j)) S = .ok (.p (.int (i + j))) S := rfl
theorem e_sub : oSub (.p (.int i)) (.p (.int j)) S = .ok (.p (.int (i - j))) S := rfl
theorem e_lt : oLt (.p (.int i)) (.p (.int j)) S = .ok (.p (.bl (decide (i < j)))) S := rfl
theorem e_le : oLe (.p (.int i)) (.p (.int j)) S = .ok (.p (.bl (decide (i ≤ j)))) S := rfl
theorem e_gt : oGt (.p (.int i)) (.p (.int j)) S = .ok (.p (.bl (decide (j < i)))) S := rfl
theorem e_ge : oGe (.p (.int i)) (.p (.int j)) S = .ok (.p (.bl (decide (j ≤ i)))) S := rfl
theorem e_mul : oMul (.p (.int i)) (.p (.int j)) S = if mulOk i j = true then .ok (.p (.int (i * j))) S else .bad := rfl
theorem e_mul1 (h : mulOk i j = true) : oMul (.p (.int i)) (.p (.int j)) S = .ok (.p (.int (i * j))) S := by rw [e_mul, if_pos h]
theorem mul_l (h : i.natAbs < 18446744073709551616) : mulOk i j = true := by unfold mulOk; simp [h]
theorem mul_r (h : j.natAbs < 18446744073709551616) : mulOk i j = true := by unfold mulOk; simp [h]
theorem mul_w (h : i.natAbs < wid) (h' : j.natAbs < wid) : mulOk i j = true := by unfold mulOk; simp [h, h']
theorem e_div (h : 0 < j) (h' : j.natAbs < wid) : oDiv (.p (.int i)) (.p (.int j)) S = .ok (.p (.int (i / j))) S := by
  show (if (decide (0 < j) && decide (j.natAbs < wid)) = true then _ else _) = _
  rw [decide_eq_true h, decide_eq_true h']; rfl
theorem e_mod (h : 0 < j) : oMod (.p (.int i)) (.p (.int j)) S = .ok (.p (.int (i % j))) S := by
  show (if decide (0 < j) = true then _ else _) = _
  rw [decide_eq_true h, if_pos rfl]
theorem e_neg : uNeg (.p (.int i)) S = .ok (.p (.int (-i))) S := rfl
theorem e_eqi : oEq (.p (.int i)) (.p (.int j)) S = .ok (.p (.bl (i == j))) S := rfl
theorem e_nei : oNe (.p (.int i)) (.p (.int j)) S = .ok (.p (.bl (!(i == j)))) S := rfl
theorem shaped_str {z : Str} (h : PyData.strOk z = true) : SeqAt.shaped (.str z) = true := by
  unfold SeqAt.shaped PyData.canLay0 PyData.depth
  rw [h]; rfl
theorem e_eqs {z u : Str} (h : PyData.strOk z = true) (h' : PyData.strOk u = true) : oEq (.p (.str z)) (.p (.str u)) S = .ok (.p (.bl (z == u))) S := by
  show (if SeqAt.shaped (.str z) = true ∧ SeqAt.shaped (.str u) = true then _ else _) = _
  rw [if_pos ⟨shaped_str h, shaped_str h'⟩]; rfl
theorem e_isN : oIsN x (.p .non) S = .ok (.p (.bl (isN x))) S := rfl
theorem e_notN : oNotN x (.p .non) S = .ok (.p (.bl (!isN x))) S := rfl
theorem e_isN_p {d : D} : isN (.p d) = match d with
  | .non => true
  | _ => false := by cases d <;> rfl
theorem e_parts {ds : List D} (h : f ρ S = .ok (.p (.rul ds)) S') : dParts f ρ S = .ok (.p (.tup ds)) S' := by unfold dParts; rw [h]; rfl
theorem e_partsE : dParts f ρ S = (f ρ S).bind fun d S1 => match d with
  | .p (.rul ds) => .ok (.p (.tup ds)) S1
  | _ => .bad := rfl
theorem e_ixT {ds : List D} (k : Nat) (h : ds[k]? = some d) : oIx (.p (.tup ds)) (.p (.int (k : Nat))) S = .ok (.p d) S := by
  unfold oIx sqOf
  show (match atI ds (k : Nat) with | some d => _ | none => _) = _
  rw [atI_nat h]
theorem e_ixL {ds : List D} (k : Nat) (h : ds[k]? = some d) : oIx (.p (.lst ds)) (.p (.int (k : Nat))) S = .ok (.p d) S := by
  unfold oIx sqOf
  show (match atI ds (k : Nat) with | some d => _ | none => _) = _
  rw [atI_nat h]
theorem e_ixT0 {a : D} {r : List D} : oIx (.p (.tup (a :: r))) (.p (.int 0)) S = .ok (.p a) S := e_ixT 0 rfl
theorem e_ixT1 {a b : D} {r : List D} : oIx (.p (.tup (a :: b :: r))) (.p (.int 1)) S = .ok (.p b) S := e_ixT 1 rfl
theorem e_ixT2 {a b c : D} {r : List D} : oIx (.p (.tup (a :: b :: c :: r))) (.p (.int 2)) S = .ok (.p c) S := e_ixT 2 rfl
theorem e_ixT3 {a b c d : D} {r : List D} : oIx (.p (.tup (a :: b :: c :: d :: r))) (.p (.int 3)) S = .ok (.p d) S := e_ixT 3 rfl
theorem e_ixT4 {a b c d e : D} {r : List D} : oIx (.p (.tup (a :: b :: c :: d :: e :: r))) (.p (.int 4)) S = .ok (.p e) S := e_ixT 4 rfl
theorem e_ixL0 {a : D} {r : List D} : oIx (.p (.lst (a :: r))) (.p (.int 0)) S = .ok (.p a) S := e_ixL 0 rfl
theorem e_ixL1 {a b : D} {r : List D} : oIx (.p (.lst (a :: b :: r))) (.p (.int 1)) S = .ok (.p b) S := e_ixL 1 rfl
theorem e_ixL2 {a b c : D} {r : List D} : oIx (.p (.lst (a :: b :: c :: r))) (.p (.int 2)) S = .ok (.p c) S := e_ixL 2 rfl
theorem e_ixL3 {a b c d : D} {r : List D} : oIx (.p (.lst (a :: b :: c :: d :: r))) (.p (.int 3)) S = .ok (.p d) S := e_ixL 3 rfl
theorem e_ixL4 {a b c d e : D} {r : List D} : oIx (.p (.lst (a :: b :: c :: d :: e :: r))) (.p (.int 4)) S = .ok (.p e) S := e_ixL 4 rfl
theorem e_callP {m : List D → PO} {a : Af} : dCallP m a ρ S = (a ρ S).bind fun xs S1 => match allP xs with
  | some ds => match m ds with
    | .ok d => .ok (.p d) S1
    | .exc x => .exc x S1
    | .bad => .bad
  | none => .bad := rfl
theorem e_callE {m : List Dv → Sto → Out Dv} {a : Af} : dCallE m a ρ S = (a ρ S).bind fun xs S1 => m xs S1 := rfl
theorem e_allP {xs : List Dv} : allP (.p d :: xs) = (allP xs).map (d :: ·) := rfl
theorem e_allP0 : allP [] = some [] := rfl
theorem e_tup {a : Af} : dTup a ρ S = (a ρ S).bind fun xs S1 => match allP xs with
  | some ds => if ds.length ≤ big then .ok (.p (.tup ds)) S1 else .bad
  | none => .bad := rfl
theorem e_lst {a : Af} : dLst a ρ S = (a ρ S).bind fun xs S1 => match allP xs with
  | some ds => if ds.length ≤ big then .ok (.p (.lst ds)) S1 else .bad
  | none => .bad := rfl
theorem bg0 : (0 ≤ big) = True := by simp [big]
theorem bg1 : (0 + 1 ≤ big) = True := by simp [big]
theorem bg2 : (0 + 1 + 1 ≤ big) = True := by simp [big]
theorem bg3 : (0 + 1 + 1 + 1 ≤ big) = True := by simp [big]
theorem bg4 : (0 + 1 + 1 + 1 + 1 ≤ big) = True := by simp [big]
theorem bg5 : (0 + 1 + 1 + 1 + 1 + 1 ≤ big) = True := by simp [big]
theorem bg6 : (0 + 1 + 1 + 1 + 1 + 1 + 1 ≤ big) = True := by simp [big]
theorem bg7 : (0 + 1 + 1 + 1 + 1 + 1 + 1 + 1 ≤ big) = True := by simp [big]
theorem bg8 : (0 + 1 + 1 + 1 + 1 + 1 + 1 + 1 + 1 ≤ big) = True := by simp [big]
theorem bg9 : (0 + 1 + 1 + 1 + 1 + 1 + 1 + 1 + 1 + 1 ≤ big) = True := by simp [big]
theorem bg10 : (0 + 1 + 1 + 1 + 1 + 1 + 1 + 1 + 1 + 1 + 1 ≤ big) = True := by simp [big]
theorem bg11 : (0 + 1 + 1 + 1 + 1 + 1 + 1 + 1 + 1 + 1 + 1 + 1 ≤ big) = True := by simp [big]
theorem bg12 : (0 + 1 + 1 + 1 + 1 + 1 + 1 + 1 + 1 + 1 + 1 + 1 + 1 ≤ big) = True := by simp [big]
theorem bg13 : (0 + 1 + 1 + 1 + 1 + 1 + 1 + 1 + 1 + 1 + 1 + 1 + 1 + 1 ≤ big) = True := by simp [big]
theorem bg14 : (0 + 1 + 1 + 1 + 1 + 1 + 1 + 1 + 1 + 1 + 1 + 1 + 1 + 1 + 1 ≤ big) = True := by simp [big]
end
/-! texts that are compared -/
section
theorem s_ll : (("left" : Str) == "left") = true := by decide +kernel
theorem s_lr : (("left" : Str) == "right") = false := by decide +kernel
theorem s_lm : (("left" : Str) == "middle") = false := by decide +kernel
theorem s_rl : (("right" : Str) == "left") = false := by decide +kernel
theorem s_rr : (("right" : Str) == "right") = true := by decide +kernel
theorem s_rm : (("right" : Str) == "middle") = false := by decide +kernel
theorem s_ml : (("middle" : Str) == "left") = false := by decide +kernel
theorem s_mr : (("middle" : Str) == "right") = false := by decide +kernel
theorem s_mm : (("middle" : Str) == "middle") = true := by decide +kernel
theorem s_an : (("anew" : Str) == "on") = false := by decide +kernel
theorem s_oo : (("on" : Str) == "on") = true := by decide +kernel
theorem s_aa : (("anew" : Str) == "anew") = true := by decide +kernel
theorem s_oa : (("on" : Str) == "anew") = false := by decide +kernel
theorem s_ff : (("fro" : Str) == "fro") = true := by decide +kernel
theorem s_sf : (("same" : Str) == "fro") = false := by decide +kernel
theorem s_kk : (("once" : Str) == "once") = true := by decide +kernel
theorem s_ka : (("once" : Str) == "always") = false := by decide +kernel
theorem s_ak : (("always" : Str) == "once") = false := by decide +kernel
theorem s_kv : (("always" : Str) == "always") = true := by decide +kernel
theorem s_ko : (("once" : Str) == "always") = false := s_ka
theorem k_l : PyData.strOk ("left" : Str) = true := by decide +kernel
theorem k_r : PyData.strOk ("right" : Str) = true := by decide +kernel
theorem k_m : PyData.strOk ("middle" : Str) = true := by decide +kernel
theorem k_an : PyData.strOk ("anew" : Str) = true := by decide +kernel
theorem k_on : PyData.strOk ("on" : Str) = true := by decide +kernel
theorem k_f : PyData.strOk ("fro" : Str) = true := by decide +kernel
theorem k_s : PyData.strOk ("same" : Str) = true := by decide +kernel
theorem k_o : PyData.strOk ("once" : Str) = true := by decide +kernel
theorem k_al : PyData.strOk ("always" : Str) = true := by decide +kernel
end
end DL

namespace Hn
open PySem L2 DL
open PySem.Spec PyProof.Rows
/-! mirrors of law_k16_errors_apart, printed by gen.py -/
/-- 0 _law_script, 1 _law_seed, 2 _law_state, 3 _law_cell -/
def b_law_mix : Sf := (sSeq (sSet 2 (dName 1)) (sSeq (sFor (iSeq (dName 0)) (gN 3) (sSet 2 (dBin oMod (dCall nInt (aCons (dBin oAdd (dBin oAdd (dBin oMul (dName 2) (dC (.int 48271))) (dBin oMod (dCall nInt (aCons (dName 3) aNil)) (dC (.int 2147483629)))) (dC (.int 1))) aNil)) (dC (.int 2147483647))))) (sRet (dLstR (aCons (dName 2) (aCons (dCall nListC (aCons (dName 0) aNil)) (aCons (dC (.int 0)) (aCons (dC (.int 14)) aNil))))))))
def m_law_mix : List Dv → Sto → Out Dv := runE 2 b_law_mix
/-- 0 _law_h, 1 _law_bound, 2 _law_cell -/
def b_law_next : Sf := (sSeq (sSet 2 (dBin oIx (dBin oAdd (dBin oIx (dName 0) (dC (.int 1))) (dLst (aCons (dC (.int 0)) aNil))) (dBin oMod (dCall nInt (aCons (dBin oIx (dName 0) (dC (.int 2))) aNil)) (dCall nMax2 (aCons (dC (.int 1)) (aCons (dCall nLen (aCons (dBin oIx (dName 0) (dC (.int 1))) aNil)) aNil)))))) (sSeq (sIf (cVal (dBin oGe (dName 2) (dBin oPow (dC (.int 10)) (dC (.int 18))))) (sSeq (sSetI (dBin oIx (dName 0) (dC (.int 1))) (dBin oMod (dCall nInt (aCons (dBin oIx (dName 0) (dC (.int 2))) aNil)) (dCall nLen (aCons (dBin oIx (dName 0) (dC (.int 1))) aNil))) (dBin oDiv (dName 2) (dName 1))) (sRet (dBin oMod (dCall nInt (aCons (dName 2) aNil)) (dName 1)))) sNil) (sSeq (sSetI (dName 0) (dC (.int 0)) (dBin oMod (dCall nInt (aCons (dBin oAdd (dBin oAdd (dBin oMul (dBin oIx (dName 0) (dC (.int 0))) (dC (.int 48271))) (dBin oMul (dName 2) (dC (.int 69621)))) (dC (.int 11))) aNil)) (dC (.int 2147483647)))) (sSeq (sSetI (dName 0) (dC (.int 2)) (dBin oAdd (dBin oIx (dName 0) (dC (.int 2))) (dC (.int 1)))) (sRet (dBin oMod (dCall nInt (aCons (dBin oDiv (dBin oIx (dName 0) (dC (.int 0))) (dC (.int 7))) aNil)) (dName 1)))))))
def m_law_next : List Dv → Sto → Out Dv := runE 1 b_law_next
/-- 0 _law_k -/
def b_law_bare : Sf := (sSeq (sIf (cVal (dBin oEq (dName 0) (dC (.int 0)))) (sRaise 0) sNil) (sSeq (sIf (cVal (dBin oEq (dName 0) (dC (.int 1)))) (sRaise 1) sNil) (sSeq (sIf (cVal (dBin oEq (dName 0) (dC (.int 2)))) (sRaise 2) sNil) (sSeq (sIf (cVal (dBin oEq (dName 0) (dC (.int 3)))) (sRaise 3) sNil) (sSeq (sIf (cVal (dBin oEq (dName 0) (dC (.int 4)))) (sRaise 4) sNil) (sSeq (sIf (cVal (dBin oEq (dName 0) (dC (.int 5)))) (sRaise 5) sNil) (sRaise 6)))))))
def m_law_bare : List Dv → Sto → Out Dv := runE 0 b_law_bare
/-- 0 _law_k, 1 _law_one, 2 _law_two -/
def b_law_thrown : Sf := (sSeq (sIf (cVal (dBin oLt (dName 0) (dC (.int 7)))) (sExpr (dCallE m_law_bare (aCons (dName 0) aNil))) sNil) (sSeq (sIf (cVal (dBin oEq (dName 0) (dC (.int 7)))) (sRaiseA 7 1 (aCons (dName 1) aNil)) sNil) (sSeq (sIf (cVal (dBin oEq (dName 0) (dC (.int 8)))) (sRaiseA 8 1 (aCons (dName 1) aNil)) sNil) (sRaiseA 9 2 (aCons (dName 1) (aCons (dName 2) aNil))))))
def m_law_thrown : List Dv → Sto → Out Dv := runE 0 b_law_thrown
def bh_law_classes (x : Ex) : Sf := (sThen 1 (dLst (aCons (eIs 10 (fun m => decide (m = 0)) x) (aCons (eIs 10 (fun m => decide (m = 1)) x) (aCons (eIs 10 (fun m => decide (m = 2)) x) aNil)))) (sThen 1 (dBin oAdd (dName 1) (dLst (aCons (eIs 10 (fun m => decide (m = 3)) x) (aCons (eIs 10 (fun m => decide (m = 4)) x) (aCons (eIs 10 (fun m => decide (m = 5)) x) aNil))))) (sThen 1 (dBin oAdd (dName 1) (dLst (aCons (eIs 10 (fun m => decide (m = 6)) x) (aCons (eIs 10 (fun m => decide (m = 7)) x) (aCons (eIs 10 (fun m => decide (m = 8)) x) aNil))))) (sRet (dBin oAdd (dName 1) (dLst (aCons (eIs 10 (fun m => decide (m = 9)) x) aNil)))))))
def mh_law_classes : Ex → List Dv → Sto → Out Dv := runH 1 bh_law_classes
def bh_law_parts (x : Ex) : Sf := (sElse (cVal (dBin oLt (dName 0) (dC (.int 7)))) (dLst aNil) (sElse (cVal (dBin oEq (dName 0) (dC (.int 7)))) (dLst (aCons (eFld 7 0 x) aNil)) (sRet (dIf (cVal (dBin oEq (dName 0) (dC (.int 8)))) (dLst (aCons (eFld 8 0 x) aNil)) (dLst (aCons (eFld 9 1 x) (aCons (eFld 9 0 x) aNil)))))))
def mh_law_parts : Ex → List Dv → Sto → Out Dv := runH 0 bh_law_parts
/-- 0 _law_k, 1 _law_one, 2 _law_two, 3 _law_good, 4 _law_due, 5 _law_e, 6 _law_other -/
def b_law_right : Sf := (sSeq (sSet 3 (dC (.bl false))) (sSeq (sSet 4 (dBin oAdd (dSl (dLst (aCons (dName 1) aNil)) pNo (pAt (dCall nInt (aCons (dBin oGt (dName 0) (dC (.int 6))) aNil)))) (dSl (dLst (aCons (dName 2) aNil)) pNo (pAt (dCall nInt (aCons (dBin oGt (dName 0) (dC (.int 8))) aNil)))))) (sSeq (sTryN (sExpr (dCallE m_law_thrown (aCons (dName 0) (aCons (dName 1) (aCons (dName 2) aNil))))) 10 5 (fun x => (sThen 3 (dAnd (eIs 10 (fun _ => true) x) (dBin oEq (dCallH 0 (mh_law_classes x) aNil) (dComp [6] (DL.iRng1 (dC (.int 10))) (gN 6) cYes (dBin oEq (dName 6) (dName 0))))) (sSet 3 (dAnd (dName 3) (dBin oEq (dCallH 1 (mh_law_parts x) (aCons (dName 0) aNil)) (dName 4))))))) (sRet (dName 3)))))
def m_law_right : List D → DL.PO := runP 4 b_law_right
/-- 0 _law_script, 1 _law_h, 2 _law_one, 3 _law_two, 4 _law_k -/
def b_law : Sf := (sSeq (sSet 1 (dCallE m_law_mix (aCons (dName 0) (aCons (dC (.int 16)) aNil)))) (sSeq (sSet 2 (dBin oIx (dLst (aCons (dC (.str "a")) (aCons (dC (.str "")) (aCons (dC (.int 7)) (aCons (dTup (aCons (dC (.str "out")) (aCons (dC (.int 0)) aNil))) (aCons (dC .non) aNil)))))) (dCallE m_law_next (aCons (dName 1) (aCons (dC (.int 5)) aNil))))) (sSeq (sSet 3 (dBin oIx (dLst (aCons (dTup aNil) (aCons (dC (.str "kind")) (aCons (dC (.int 0)) (aCons (dC .non) aNil))))) (dCallE m_law_next (aCons (dName 1) (aCons (dC (.int 4)) aNil))))) (sRet (dCall nAll (aCons (dComp [4] (iRng1 (dC (.int 10))) (gN 4) cYes (dCallP m_law_right (aCons (dName 4) (aCons (dName 2) (aCons (dName 3) aNil))))) aNil))))))
def m_law : List Dv → Sto → Out Dv := runE 4 b_law
/-! ### the mathematics that the laws share -/
structure Ru where
  s : Str
  r : Str
  w : Str
  o : Int
  k : Str
def okO (o : Int) : Prop := o = 0 ∨ (2 ≤ o ∧ o ≤ 13)
structure Ru.ok (t : Ru) : Prop where
  hs : t.s = "left" ∨ t.s = "right" ∨ t.s = "middle"
  hr : t.r = "anew" ∨ t.r = "on"
  hw : t.w = "same" ∨ t.w = "fro"
  ho : okO t.o
  hk : t.k = "once" ∨ t.k = "always"
def ruD (r : Ru) : List D := [.str r.s, .str r.r, .str r.w, .int r.o, .str r.k]
theorem okO_cases {o : Int} (h : okO o) : o = 0 ∨ o = 2 ∨ o = 3 ∨ o = 4 ∨ o = 5 ∨ o = 6 ∨ o = 7 ∨ o = 8 ∨ o = 9 ∨ o = 10 ∨ o = 11 ∨ o = 12 ∨ o = 13 := by unfold okO at h; omega
/-! numbers -/
def numAt (o : Int) (k : Str) (p : Int) : Int := if o = 0 then p + 1 else if (k == "always") = true then p + 1 + p / (o - 1) else if p + 1 < o then p + 1 else p + 2
def ordOf (s : Str) (seats seat : Int) : Int := if (s == "left") = true then seat else if (s == "right") = true then seats - 1 - seat else if seat - (seats - 1) / 2 > 0 then 2 * (seat - (seats - 1) / 2) - 1 else -2 * (seat - (seats - 1) / 2)
def mir (w : Str) (row : Int) : Bool := w == "fro" && row % 2 == 1
def placeOf (r : Ru) (seats row seat : Int) : Int := if (r.r == "on") = true then ordOf r.s seats (if mir r.w row = true then seats - 1 - seat else seat) + row * seats else ordOf r.s seats (if mir r.w row = true then seats - 1 - seat else seat)
def ownNum (r : Ru) (seats row seat : Int) : Int := numAt r.o r.k (placeOf r seats row seat)
theorem wid_big : 1000000000000000000000000000000000000000000000000000000000000000000000 < wid := by decide
/-! the laws' own account -/
def lawPlace (r : Ru) (seats row seat0 : Int) : Int :=
  let seat := if (r.w == "fro") = true ∧ row / 2 * 2 < row then seats - 1 - seat0 else seat0
  let mid := (seats + 1) / 2 - 1
  let found := if (r.s == "middle") = true then (if mid < seat then 2 * (seat - mid) - 1 else 2 * (mid - seat)) else if (r.s == "left") = true then seat else seats - 1 - seat
  if (r.r == "on") = true then found + seats * row else found
def lawNum (o : Int) (k : Str) (p : Int) : Int := if o = 0 ∨ ((k == "once") = true ∧ p < o - 1) then p + 1 else if (k == "once") = true then p + 2 else p / (o - 1) * o + (p - p / (o - 1) * (o - 1)) + 1
theorem num_same {o p : Int} {k : Str} (ho : okO o) (hk : k = "once" ∨ k = "always") : lawNum o k p = numAt o k p := by
  unfold okO at ho
  unfold lawNum numAt
  by_cases h0 : o = 0
  · simp [h0]
  · rcases hk with rfl | rfl
    · simp only [h0, s_kk, s_ko, false_or, true_and, if_false, if_true, Bool.false_eq_true]
      by_cases h1 : p < o - 1
      · rw [if_pos h1, if_pos (show p + 1 < o by omega)]
      · rw [if_neg h1, if_neg (show ¬ p + 1 < o by omega)]
    · simp only [h0, s_ak, s_kv, false_or, false_and, if_false, if_true, Bool.false_eq_true]
      have e : p / (o - 1) * (o - 1) = p / (o - 1) * o - p / (o - 1) := by rw [Int.mul_sub, Int.mul_one]
      omega
theorem place_same {r : Ru} (hr : r.ok) {seats row seat : Int} (h0 : 0 ≤ row) : lawPlace r seats row seat = placeOf r seats row seat := by
  obtain ⟨s, rr, w, o, k⟩ := r
  obtain ⟨h1, h2, h3, h4, h5⟩ := hr
  dsimp only at h1 h2 h3 h4 h5
  have em : (if (w == ("fro" : Str)) = true ∧ row / 2 * 2 < row then seats - 1 - seat else seat) = (if mir w row = true then seats - 1 - seat else seat) := by
    unfold mir
    rcases h3 with rfl | rfl
    · simp [s_sf]
    · simp only [s_ff, true_and, Bool.true_and, beq_iff_eq]
      by_cases h : row / 2 * 2 < row
      · rw [if_pos h, if_pos (by omega)]
      · rw [if_neg h, if_neg (by omega)]
  unfold lawPlace placeOf
  dsimp only
  rw [em]
  generalize (if mir w row = true then seats - 1 - seat else seat) = q
  have eo : (if (s == ("middle" : Str)) = true then (if (seats + 1) / 2 - 1 < q then 2 * (q - ((seats + 1) / 2 - 1)) - 1 else 2 * ((seats + 1) / 2 - 1 - q)) else if (s == ("left" : Str)) = true then q else seats - 1 - q) = ordOf s seats q := by
    unfold ordOf
    rcases h1 with rfl | rfl | rfl
    · simp [s_lm, s_ll]
    · simp [s_rm, s_rl, s_rr]
    · simp only [s_mm, s_ml, s_mr, if_true, if_false, Bool.false_eq_true]
      by_cases h : (seats + 1) / 2 - 1 < q
      · rw [if_pos h, if_pos (by omega)]; omega
      · rw [if_neg h, if_neg (by omega)]; omega
  rw [eo, Int.mul_comm row seats]
/-- the law's number of a seat is the program's -/
theorem own_same {r : Ru} (hr : r.ok) {seats row seat : Int} (h0 : 0 ≤ row) : lawNum r.o r.k (lawPlace r seats row seat) = ownNum r seats row seat := by
  rw [num_same hr.ho hr.hk, place_same hr h0]; rfl

/-! ### draws -/
/-- the state of the source of draws, and whatever cells came later -/
def Dr (S rest : Sto) : Prop := ∃ (st idx : Int) (ns : List Int), S = .lst (ns.map D.int) :: .rcd [.p (.int st), .hnd 0, .p (.int idx), .p (.int 14)] :: rest ∧ 0 ≤ idx ∧ ns.length ≤ 63
theorem mixL {x : Option Dv} (seed0 : D) (a0 : D) : ∀ (ns : List Int) (st : Int) (x : Option Dv), ∃ st' x', forL (gN 3) (sSet 2 (dBin oMod (dCall nInt (aCons (dBin oAdd (dBin oAdd (dBin oMul (dName 2) (dC (.int 48271))) (dBin oMod (dCall nInt (aCons (dName 3) aNil)) (dC (.int 2147483629)))) (dC (.int 1))) aNil)) (dC (.int 2147483647)))) (ns.map D.int) [some (.p a0), some (.p seed0), some (.p (.int st)), x] [] = .ok (.nx [some (.p a0), some (.p seed0), some (.p (.int st')), x']) []
  | [], st, x => ⟨st, x, rfl⟩
  | n :: ns, st, x => by
    have e2 : ∀ (i j : Int) (S : Sto), oMul (.p (.int i)) (.p (.int 48271)) S = .ok (.p (.int (i * 48271))) S := fun i j S => e_mul1 (mul_r (by decide))
    have e3 : ∀ (i : Int) (S : Sto), oMod (.p (.int i)) (.p (.int 2147483629)) S = .ok (.p (.int (i % 2147483629))) S := fun i S => e_mod (by decide)
    have e4 : ∀ (i : Int) (S : Sto), oMod (.p (.int i)) (.p (.int 2147483647)) S = .ok (.p (.int (i % 2147483647))) S := fun i S => e_mod (by decide)
    have e5 : ∀ (i : Int) (S : Sto), nInt [.p (.int i)] S = .ok (.p (.int i)) S := fun i S => rfl
    obtain ⟨st', x', e⟩ := mixL (x := x) seed0 a0 ns ((st * 48271 + n % 2147483629 + 1) % 2147483647) (some (.p (.int n)))
    refine ⟨st', x', ?_⟩
    rw [← e, List.map_cons]
    conv => lhs; unfold forL
    simp only [gN, e_seq, e_seq_nx, e_seq_rt, e_seq_ite, e_bind, e_bind_ite, e_toS, e_toS_ite, e_set, e_ret, e_expr, e_nil, e_if, e_name, e_C, e_bin, e_un, e_ifx, e_aNil, e_aCons, e_call, e_cVal, e_cNot, e_cAnd, e_cOr, e_and, e_or, e_not, e_add, e_sub, e_lt, e_le, e_gt, e_ge, e_neg, e_eqi, e_nei, e_isN, e_notN, e_partsE, e_ixT0, e_ixT1, e_ixT2, e_ixT3, e_ixT4, e_ixL0, e_ixL1, e_ixL2, e_ixL3, e_ixL4, e_callP, e_callE, e_allP, e_allP0, e_tup, e_lst, e_par, List.map_cons, List.map_nil, List.append_assoc, List.nil_append, List.cons_append, List.replicate, List.getElem?_cons_zero, List.getElem?_cons_succ, List.set_cons_zero, List.set_cons_succ, Option.map_some, if_true, if_false, Bool.false_eq_true, decide_eq_true_eq, List.length_cons, List.length_nil, bg0, bg1, bg2, bg3, bg4, bg5, bg6, bg7, bg8, bg9, bg10, bg11, bg12, bg13, bg14, e2 _ 0, e3, e4, e5]
theorem mix_eq (ns : List Int) (hl : ns.length ≤ 63) (seed : Int) : ∃ S, m_law_mix [.p (.scr ns), .p (.int seed)] [] = .ok (.hnd 1) S ∧ Dr S [] := by
  obtain ⟨st', x', e⟩ := mixL (x := none) (.int seed) (.scr ns) ns seed none
  refine ⟨_, ?_, st', 0, ns, rfl, by omega, hl⟩
  have e6 : ∀ (ns : List Int) (S : Sto), nListC [.p (.scr ns)] S = .ok (.hnd S.length) (S ++ [.lst (ns.map D.int)]) := fun ns S => rfl
  have e7 : iSeq (dName 0) [some (.p (.scr ns)), some (.p (.int seed)), some (.p (.int seed)), none] [] = .ok (ns.map D.int) [] := rfl
  have e8 : ∀ (st : Int), dLstR (aCons (dName 2) (aCons (dCall nListC (aCons (dName 0) aNil)) (aCons (dC (.int 0)) (aCons (dC (.int 14)) aNil)))) [some (.p (.scr ns)), some (.p (.int seed)), some (.p (.int st)), x'] [] = .ok (.hnd 1) [.lst (ns.map D.int), .rcd [.p (.int st), .hnd 0, .p (.int 0), .p (.int 14)]] := fun st => rfl
  simp only [m_law_mix, runE, init, b_law_mix, sFor, e7, e_seq, e_seq_nx, e_seq_rt, e_seq_ite, e_bind, e_bind_ite, e_toS, e_toS_ite, e_set, e_ret, e_expr, e_nil, e_if, e_name, e_C, e_bin, e_un, e_ifx, e_aNil, e_aCons, e_call, e_cVal, e_cNot, e_cAnd, e_cOr, e_and, e_or, e_not, e_add, e_sub, e_lt, e_le, e_gt, e_ge, e_neg, e_eqi, e_nei, e_isN, e_notN, e_partsE, e_ixT0, e_ixT1, e_ixT2, e_ixT3, e_ixT4, e_ixL0, e_ixL1, e_ixL2, e_ixL3, e_ixL4, e_callP, e_callE, e_allP, e_allP0, e_tup, e_lst, e_par, List.map_cons, List.map_nil, List.append_assoc, List.nil_append, List.cons_append, List.replicate, List.getElem?_cons_zero, List.getElem?_cons_succ, List.set_cons_zero, List.set_cons_succ, Option.map_some, if_true, if_false, Bool.false_eq_true, decide_eq_true_eq, List.length_cons, List.length_nil, bg0, bg1, bg2, bg3, bg4, bg5, bg6, bg7, bg8, bg9, bg10, bg11, bg12, bg13, bg14]
  rw [e]
  simp only [e_seq, e_seq_nx, e_seq_rt, e_seq_ite, e_bind, e_bind_ite, e_toS, e_toS_ite, e_set, e_ret, e_expr, e_nil, e_if, e_name, e_C, e_bin, e_un, e_ifx, e_aNil, e_aCons, e_call, e_cVal, e_cNot, e_cAnd, e_cOr, e_and, e_or, e_not, e_add, e_sub, e_lt, e_le, e_gt, e_ge, e_neg, e_eqi, e_nei, e_isN, e_notN, e_partsE, e_ixT0, e_ixT1, e_ixT2, e_ixT3, e_ixT4, e_ixL0, e_ixL1, e_ixL2, e_ixL3, e_ixL4, e_callP, e_callE, e_allP, e_allP0, e_tup, e_lst, e_par, List.map_cons, List.map_nil, List.append_assoc, List.nil_append, List.cons_append, List.replicate, List.getElem?_cons_zero, List.getElem?_cons_succ, List.set_cons_zero, List.set_cons_succ, Option.map_some, if_true, if_false, Bool.false_eq_true, decide_eq_true_eq, List.length_cons, List.length_nil, bg0, bg1, bg2, bg3, bg4, bg5, bg6, bg7, bg8, bg9, bg10, bg11, bg12, bg13, bg14, e8]
theorem next_eq {S rest : Sto} (h : Dr S rest) {b : Int} (hb : 0 < b) (hbw : b.natAbs < wid) : ∃ (k : Int) (S' : Sto), m_law_next [.hnd 1, .p (.int b)] S = .ok (.p (.int k)) S' ∧ 0 ≤ k ∧ k < b ∧ Dr S' rest := by
  obtain ⟨st, idx, ns, rfl, hi, hl⟩ := h
  have x1 : ∀ (c0 : List D) (st idx : Int) (r : Sto), oIx (.hnd 1) (.p (.int 1)) (.lst c0 :: .rcd [.p (.int st), .hnd 0, .p (.int idx), .p (.int 14)] :: r) = .ok (.hnd 0) (.lst c0 :: .rcd [.p (.int st), .hnd 0, .p (.int idx), .p (.int 14)] :: r) := fun _ _ _ _ => rfl
  have x0 : ∀ (c0 : List D) (st idx : Int) (r : Sto), oIx (.hnd 1) (.p (.int 0)) (.lst c0 :: .rcd [.p (.int st), .hnd 0, .p (.int idx), .p (.int 14)] :: r) = .ok (.p (.int st)) (.lst c0 :: .rcd [.p (.int st), .hnd 0, .p (.int idx), .p (.int 14)] :: r) := fun _ _ _ _ => rfl
  have x2 : ∀ (c0 : List D) (st idx : Int) (r : Sto), oIx (.hnd 1) (.p (.int 2)) (.lst c0 :: .rcd [.p (.int st), .hnd 0, .p (.int idx), .p (.int 14)] :: r) = .ok (.p (.int idx)) (.lst c0 :: .rcd [.p (.int st), .hnd 0, .p (.int idx), .p (.int 14)] :: r) := fun _ _ _ _ => rfl
  have ea : ∀ (r : Sto), oAdd (.hnd 0) (.p (.lst [.int 0])) (.lst (ns.map D.int) :: r) = .ok (.p (.lst (ns.map D.int ++ [.int 0]))) (.lst (ns.map D.int) :: r) := fun r => by
    show (if (ns.map D.int).length + [D.int 0].length ≤ big then Out.ok (Dv.p (.lst (ns.map D.int ++ [.int 0]))) _ else .bad) = _
    rw [if_pos (by rw [List.length_map]; show ns.length + 1 ≤ 16777216; omega)]
  have eL : ∀ (S : Sto), dLst (aCons (dC (.int 0)) aNil) [some (.hnd 1), some (.p (.int b)), none] S = .ok (.p (.lst [.int 0])) S := fun S => rfl
  have el : ∀ (r : Sto), nLen [.hnd 0] (.lst (ns.map D.int) :: r) = .ok (.p (.int ns.length)) (.lst (ns.map D.int) :: r) := fun r => by
    show Out.ok (Dv.p (.int ((ns.map D.int).length : Nat))) _ = _
    rw [List.length_map]
  have e5 : ∀ (i : Int) (S : Sto), nInt [.p (.int i)] S = .ok (.p (.int i)) S := fun i S => rfl
  have em : ∀ (i j : Int) (S : Sto), nMax2 [.p (.int i), .p (.int j)] S = .ok (.p (.int (if j > i then j else i))) S := fun i j S => rfl
  have hmx : (0 : Int) < (if (ns.length : Int) > 1 then (ns.length : Int) else 1) := by split <;> omega
  have emod : ∀ (S : Sto), oMod (.p (.int idx)) (.p (.int (if (ns.length : Int) > 1 then (ns.length : Int) else 1))) S = .ok (.p (.int (idx % (if (ns.length : Int) > 1 then (ns.length : Int) else 1)))) S := fun S => e_mod hmx
  generalize hj : idx % (if (ns.length : Int) > 1 then (ns.length : Int) else 1) = j at emod
  have j0 : 0 ≤ j := by rw [← hj]; exact Int.emod_nonneg _ (by omega)
  have j1 : j < (if (ns.length : Int) > 1 then (ns.length : Int) else 1) := by rw [← hj]; exact Int.emod_lt_of_pos _ hmx
  have jl : j.toNat < (ns ++ [0]).length := by
    rw [List.length_append]
    show j.toNat < ns.length + 1
    split at j1 <;> omega
  obtain ⟨c, hc⟩ : ∃ c, (ns ++ [0])[j.toNat]? = some c := ⟨_, List.getElem?_eq_getElem jl⟩
  have eix : ∀ (S : Sto), oIx (.p (.lst (ns.map D.int ++ [.int 0]))) (.p (.int j)) S = .ok (.p (.int c)) S := fun S => by
    have := e_ixL (S := S) (ds := ns.map D.int ++ [.int 0]) (d := .int c) j.toNat (by
      have e : ns.map D.int ++ [.int 0] = (ns ++ [0]).map D.int := by rw [List.map_append]; rfl
      rw [e, List.getElem?_map, hc]; rfl)
    rw [Int.toNat_of_nonneg j0] at this
    exact this
  have e10 : ∀ (S : Sto), oPow (.p (.int 10)) (.p (.int 18)) S = .ok (.p (.int 1000000000000000000)) S := fun S => rfl
  have eM1 : ∀ (i : Int) (S : Sto), oMul (.p (.int i)) (.p (.int 48271)) S = .ok (.p (.int (i * 48271))) S := fun i S => e_mul1 (mul_r (by decide))
  have eM2 : ∀ (i : Int) (S : Sto), oMul (.p (.int i)) (.p (.int 69621)) S = .ok (.p (.int (i * 69621))) S := fun i S => e_mul1 (mul_r (by decide))
  have eD7 : ∀ (i : Int) (S : Sto), oDiv (.p (.int i)) (.p (.int 7)) S = .ok (.p (.int (i / 7))) S := fun i S => e_div (by decide) (by decide)
  have eDb : ∀ (i : Int) (S : Sto), oDiv (.p (.int i)) (.p (.int b)) S = .ok (.p (.int (i / b))) S := fun i S => e_div hb hbw
  have eMb : ∀ (i : Int) (S : Sto), oMod (.p (.int i)) (.p (.int b)) S = .ok (.p (.int (i % b))) S := fun i S => e_mod hb
  have eMs : ∀ (i : Int) (S : Sto), oMod (.p (.int i)) (.p (.int 2147483647)) S = .ok (.p (.int (i % 2147483647))) S := fun i S => e_mod (by decide)
  by_cases hbig : 1000000000000000000 ≤ c
  · -- a large cell gives its digits
    have hjn : j.toNat < ns.length := by
      rw [List.length_append] at jl
      have jl : j.toNat < ns.length + 1 := jl
      by_cases q : j.toNat = ns.length
      · rw [q, List.getElem?_append_right (Nat.le_refl _), Nat.sub_self] at hc
        have : (0 : Int) = c := by simpa using hc
        omega
      · omega
    have hlen : (0 : Int) < ns.length := by omega
    have ejm : idx % (ns.length : Int) = j := by
      rw [← hj]
      split
      · rfl
      · have : (ns.length : Int) = 1 := by omega
        rw [this]
    have emod2 : ∀ (S : Sto), oMod (.p (.int idx)) (.p (.int (ns.length : Int))) S = .ok (.p (.int j)) S := fun S => by rw [← ejm]; exact e_mod hlen
    refine ⟨c % b, .lst ((ns.set j.toNat (c / b)).map D.int) :: .rcd [.p (.int st), .hnd 0, .p (.int idx), .p (.int 14)] :: rest, ?_, Int.emod_nonneg _ (by omega), Int.emod_lt_of_pos _ hb, st, idx, ns.set j.toNat (c / b), rfl, hi, by rw [List.length_set]; exact hl⟩
    have eset : ∀ (ρ : Nv), ρ = [some (.hnd 1), some (.p (.int b)), some (.p (.int c))] → sSetI (dBin oIx (dName 0) (dC (.int 1))) (dBin oMod (dCall nInt (aCons (dBin oIx (dName 0) (dC (.int 2))) aNil)) (dCall nLen (aCons (dBin oIx (dName 0) (dC (.int 1))) aNil))) (dBin oDiv (dName 2) (dName 1)) ρ (.lst (ns.map D.int) :: .rcd [.p (.int st), .hnd 0, .p (.int idx), .p (.int 14)] :: rest)
        = .ok (.nx ρ) (.lst ((ns.set j.toNat (c / b)).map D.int) :: .rcd [.p (.int st), .hnd 0, .p (.int idx), .p (.int 14)] :: rest) := by
      rintro ρ rfl
      simp only [sSetI, e_seq, e_seq_nx, e_seq_rt, e_seq_ite, e_bind, e_bind_ite, e_toS, e_toS_ite, e_set, e_ret, e_expr, e_nil, e_if, e_name, e_C, e_bin, e_un, e_ifx, e_aNil, e_aCons, e_call, e_cVal, e_cNot, e_cAnd, e_cOr, e_and, e_or, e_not, e_add, e_sub, e_lt, e_le, e_gt, e_ge, e_neg, e_eqi, e_nei, e_isN, e_notN, e_partsE, e_ixT0, e_ixT1, e_ixT2, e_ixT3, e_ixT4, e_ixL0, e_ixL1, e_ixL2, e_ixL3, e_ixL4, e_callP, e_callE, e_allP, e_allP0, e_tup, e_lst, e_par, List.map_cons, List.map_nil, List.append_assoc, List.nil_append, List.cons_append, List.replicate, List.getElem?_cons_zero, List.getElem?_cons_succ, List.set_cons_zero, List.set_cons_succ, Option.map_some, if_true, if_false, Bool.false_eq_true, decide_eq_true_eq, List.length_cons, List.length_nil, bg0, bg1, bg2, bg3, bg4, bg5, bg6, bg7, bg8, bg9, bg10, bg11, bg12, bg13, bg14, eDb, x1, x2, e5, el, emod2]
      have e3 : ixN (ns.map D.int).length j = some j.toNat := by
        unfold ixN
        rw [if_pos j0, List.length_map, if_pos (by omega)]
      rw [e3]
      simp only [List.set_cons_zero, List.map_set]
    simp only [m_law_next, runE, init, b_law_next, e_seq, e_seq_nx, e_seq_rt, e_seq_ite, e_bind, e_bind_ite, e_toS, e_toS_ite, e_set, e_ret, e_expr, e_nil, e_if, e_name, e_C, e_bin, e_un, e_ifx, e_aNil, e_aCons, e_call, e_cVal, e_cNot, e_cAnd, e_cOr, e_and, e_or, e_not, e_add, e_sub, e_lt, e_le, e_gt, e_ge, e_neg, e_eqi, e_nei, e_isN, e_notN, e_partsE, e_ixT0, e_ixT1, e_ixT2, e_ixT3, e_ixT4, e_ixL0, e_ixL1, e_ixL2, e_ixL3, e_ixL4, e_callP, e_callE, e_allP, e_allP0, e_tup, e_lst, e_par, List.map_cons, List.map_nil, List.append_assoc, List.nil_append, List.cons_append, List.replicate, List.getElem?_cons_zero, List.getElem?_cons_succ, List.set_cons_zero, List.set_cons_succ, Option.map_some, if_true, if_false, Bool.false_eq_true, decide_eq_true_eq, List.length_cons, List.length_nil, bg0, bg1, bg2, bg3, bg4, bg5, bg6, bg7, bg8, bg9, bg10, bg11, bg12, bg13, bg14, x1, x2, x0, ea, eL, el, e5, em, emod, eix, e10, hbig, decide_true, eset _ rfl, eMb]
  · refine ⟨((st * 48271 + c * 69621 + 11) % 2147483647) / 7 % b, .lst (ns.map D.int) :: .rcd [.p (.int ((st * 48271 + c * 69621 + 11) % 2147483647)), .hnd 0, .p (.int (idx + 1)), .p (.int 14)] :: rest, ?_, Int.emod_nonneg _ (by omega), Int.emod_lt_of_pos _ hb, _, idx + 1, ns, rfl, by omega, hl⟩
    have es0 : ∀ (v : Int) (ef : Ef) (ρ : Nv), ρ[0]? = some (some (.hnd 1)) → ef ρ (.lst (ns.map D.int) :: .rcd [.p (.int st), .hnd 0, .p (.int idx), .p (.int 14)] :: rest) = .ok (.p (.int v)) (.lst (ns.map D.int) :: .rcd [.p (.int st), .hnd 0, .p (.int idx), .p (.int 14)] :: rest) →
        sSetI (dName 0) (dC (.int 0)) ef ρ (.lst (ns.map D.int) :: .rcd [.p (.int st), .hnd 0, .p (.int idx), .p (.int 14)] :: rest) = .ok (.nx ρ) (.lst (ns.map D.int) :: .rcd [.p (.int v), .hnd 0, .p (.int idx), .p (.int 14)] :: rest) := fun v ef ρ h1 h2 => by
      simp only [sSetI, h2, e_seq, e_seq_nx, e_seq_rt, e_seq_ite, e_bind, e_bind_ite, e_toS, e_toS_ite, e_set, e_ret, e_expr, e_nil, e_if, e_name, e_C, e_bin, e_un, e_ifx, e_aNil, e_aCons, e_call, e_cVal, e_cNot, e_cAnd, e_cOr, e_and, e_or, e_not, e_add, e_sub, e_lt, e_le, e_gt, e_ge, e_neg, e_eqi, e_nei, e_isN, e_notN, e_partsE, e_ixT0, e_ixT1, e_ixT2, e_ixT3, e_ixT4, e_ixL0, e_ixL1, e_ixL2, e_ixL3, e_ixL4, e_callP, e_callE, e_allP, e_allP0, e_tup, e_lst, e_par, List.map_cons, List.map_nil, List.append_assoc, List.nil_append, List.cons_append, List.replicate, List.getElem?_cons_zero, List.getElem?_cons_succ, List.set_cons_zero, List.set_cons_succ, Option.map_some, if_true, if_false, Bool.false_eq_true, decide_eq_true_eq, List.length_cons, List.length_nil, bg0, bg1, bg2, bg3, bg4, bg5, bg6, bg7, bg8, bg9, bg10, bg11, bg12, bg13, bg14, h1]; rfl
    have es2 : ∀ (st v : Int) (ef : Ef) (ρ : Nv), ρ[0]? = some (some (.hnd 1)) → ef ρ (.lst (ns.map D.int) :: .rcd [.p (.int st), .hnd 0, .p (.int idx), .p (.int 14)] :: rest) = .ok (.p (.int v)) (.lst (ns.map D.int) :: .rcd [.p (.int st), .hnd 0, .p (.int idx), .p (.int 14)] :: rest) →
        sSetI (dName 0) (dC (.int 2)) ef ρ (.lst (ns.map D.int) :: .rcd [.p (.int st), .hnd 0, .p (.int idx), .p (.int 14)] :: rest) = .ok (.nx ρ) (.lst (ns.map D.int) :: .rcd [.p (.int st), .hnd 0, .p (.int v), .p (.int 14)] :: rest) := fun st v ef ρ h1 h2 => by
      simp only [sSetI, h2, e_seq, e_seq_nx, e_seq_rt, e_seq_ite, e_bind, e_bind_ite, e_toS, e_toS_ite, e_set, e_ret, e_expr, e_nil, e_if, e_name, e_C, e_bin, e_un, e_ifx, e_aNil, e_aCons, e_call, e_cVal, e_cNot, e_cAnd, e_cOr, e_and, e_or, e_not, e_add, e_sub, e_lt, e_le, e_gt, e_ge, e_neg, e_eqi, e_nei, e_isN, e_notN, e_partsE, e_ixT0, e_ixT1, e_ixT2, e_ixT3, e_ixT4, e_ixL0, e_ixL1, e_ixL2, e_ixL3, e_ixL4, e_callP, e_callE, e_allP, e_allP0, e_tup, e_lst, e_par, List.map_cons, List.map_nil, List.append_assoc, List.nil_append, List.cons_append, List.replicate, List.getElem?_cons_zero, List.getElem?_cons_succ, List.set_cons_zero, List.set_cons_succ, Option.map_some, if_true, if_false, Bool.false_eq_true, decide_eq_true_eq, List.length_cons, List.length_nil, bg0, bg1, bg2, bg3, bg4, bg5, bg6, bg7, bg8, bg9, bg10, bg11, bg12, bg13, bg14, h1]; rfl
    simp only [m_law_next, runE, init, b_law_next, e_seq, e_seq_nx, e_seq_rt, e_seq_ite, e_bind, e_bind_ite, e_toS, e_toS_ite, e_set, e_ret, e_expr, e_nil, e_if, e_name, e_C, e_bin, e_un, e_ifx, e_aNil, e_aCons, e_call, e_cVal, e_cNot, e_cAnd, e_cOr, e_and, e_or, e_not, e_add, e_sub, e_lt, e_le, e_gt, e_ge, e_neg, e_eqi, e_nei, e_isN, e_notN, e_partsE, e_ixT0, e_ixT1, e_ixT2, e_ixT3, e_ixT4, e_ixL0, e_ixL1, e_ixL2, e_ixL3, e_ixL4, e_callP, e_callE, e_allP, e_allP0, e_tup, e_lst, e_par, List.map_cons, List.map_nil, List.append_assoc, List.nil_append, List.cons_append, List.replicate, List.getElem?_cons_zero, List.getElem?_cons_succ, List.set_cons_zero, List.set_cons_succ, Option.map_some, if_true, if_false, Bool.false_eq_true, decide_eq_true_eq, List.length_cons, List.length_nil, bg0, bg1, bg2, bg3, bg4, bg5, bg6, bg7, bg8, bg9, bg10, bg11, bg12, bg13, bg14, x1, x2, x0, ea, eL, el, e5, em, emod, eix, e10, hbig, decide_false]
    rw [es0 ((st * 48271 + c * 69621 + 11) % 2147483647) _ _ rfl (by simp only [e_seq, e_seq_nx, e_seq_rt, e_seq_ite, e_bind, e_bind_ite, e_toS, e_toS_ite, e_set, e_ret, e_expr, e_nil, e_if, e_name, e_C, e_bin, e_un, e_ifx, e_aNil, e_aCons, e_call, e_cVal, e_cNot, e_cAnd, e_cOr, e_and, e_or, e_not, e_add, e_sub, e_lt, e_le, e_gt, e_ge, e_neg, e_eqi, e_nei, e_isN, e_notN, e_partsE, e_ixT0, e_ixT1, e_ixT2, e_ixT3, e_ixT4, e_ixL0, e_ixL1, e_ixL2, e_ixL3, e_ixL4, e_callP, e_callE, e_allP, e_allP0, e_tup, e_lst, e_par, List.map_cons, List.map_nil, List.append_assoc, List.nil_append, List.cons_append, List.replicate, List.getElem?_cons_zero, List.getElem?_cons_succ, List.set_cons_zero, List.set_cons_succ, Option.map_some, if_true, if_false, Bool.false_eq_true, decide_eq_true_eq, List.length_cons, List.length_nil, bg0, bg1, bg2, bg3, bg4, bg5, bg6, bg7, bg8, bg9, bg10, bg11, bg12, bg13, bg14, x0, eM1, eM2, e5, eMs])]
    simp only [e_seq, e_seq_nx, e_seq_rt, e_seq_ite, e_bind, e_bind_ite, e_toS, e_toS_ite, e_set, e_ret, e_expr, e_nil, e_if, e_name, e_C, e_bin, e_un, e_ifx, e_aNil, e_aCons, e_call, e_cVal, e_cNot, e_cAnd, e_cOr, e_and, e_or, e_not, e_add, e_sub, e_lt, e_le, e_gt, e_ge, e_neg, e_eqi, e_nei, e_isN, e_notN, e_partsE, e_ixT0, e_ixT1, e_ixT2, e_ixT3, e_ixT4, e_ixL0, e_ixL1, e_ixL2, e_ixL3, e_ixL4, e_callP, e_callE, e_allP, e_allP0, e_tup, e_lst, e_par, List.map_cons, List.map_nil, List.append_assoc, List.nil_append, List.cons_append, List.replicate, List.getElem?_cons_zero, List.getElem?_cons_succ, List.set_cons_zero, List.set_cons_succ, Option.map_some, if_true, if_false, Bool.false_eq_true, decide_eq_true_eq, List.length_cons, List.length_nil, bg0, bg1, bg2, bg3, bg4, bg5, bg6, bg7, bg8, bg9, bg10, bg11, bg12, bg13, bg14]
    rw [es2 _ (idx + 1) _ _ rfl (by simp only [e_seq, e_seq_nx, e_seq_rt, e_seq_ite, e_bind, e_bind_ite, e_toS, e_toS_ite, e_set, e_ret, e_expr, e_nil, e_if, e_name, e_C, e_bin, e_un, e_ifx, e_aNil, e_aCons, e_call, e_cVal, e_cNot, e_cAnd, e_cOr, e_and, e_or, e_not, e_add, e_sub, e_lt, e_le, e_gt, e_ge, e_neg, e_eqi, e_nei, e_isN, e_notN, e_partsE, e_ixT0, e_ixT1, e_ixT2, e_ixT3, e_ixT4, e_ixL0, e_ixL1, e_ixL2, e_ixL3, e_ixL4, e_callP, e_callE, e_allP, e_allP0, e_tup, e_lst, e_par, List.map_cons, List.map_nil, List.append_assoc, List.nil_append, List.cons_append, List.replicate, List.getElem?_cons_zero, List.getElem?_cons_succ, List.set_cons_zero, List.set_cons_succ, Option.map_some, if_true, if_false, Bool.false_eq_true, decide_eq_true_eq, List.length_cons, List.length_nil, bg0, bg1, bg2, bg3, bg4, bg5, bg6, bg7, bg8, bg9, bg10, bg11, bg12, bg13, bg14, x2])]
    simp only [e_seq, e_seq_nx, e_seq_rt, e_seq_ite, e_bind, e_bind_ite, e_toS, e_toS_ite, e_set, e_ret, e_expr, e_nil, e_if, e_name, e_C, e_bin, e_un, e_ifx, e_aNil, e_aCons, e_call, e_cVal, e_cNot, e_cAnd, e_cOr, e_and, e_or, e_not, e_add, e_sub, e_lt, e_le, e_gt, e_ge, e_neg, e_eqi, e_nei, e_isN, e_notN, e_partsE, e_ixT0, e_ixT1, e_ixT2, e_ixT3, e_ixT4, e_ixL0, e_ixL1, e_ixL2, e_ixL3, e_ixL4, e_callP, e_callE, e_allP, e_allP0, e_tup, e_lst, e_par, List.map_cons, List.map_nil, List.append_assoc, List.nil_append, List.cons_append, List.replicate, List.getElem?_cons_zero, List.getElem?_cons_succ, List.set_cons_zero, List.set_cons_succ, Option.map_some, if_true, if_false, Bool.false_eq_true, decide_eq_true_eq, List.length_cons, List.length_nil, bg0, bg1, bg2, bg3, bg4, bg5, bg6, bg7, bg8, bg9, bg10, bg11, bg12, bg13, bg14, x0, e5, eD7, eMb]

/-! ### errors apart -/
theorem comp_map {t : Tgt} {el : Ef} {ρ : Nv} {S : Sto} (F : DL.D → DL.D) : ∀ {ds : List DL.D}, (∀ d ∈ ds, ∃ ρ1, t (.p d) ρ = some ρ1 ∧ el ρ1 S = .ok (.p (F d)) S) → compL t cYes el ρ ds S = .ok (ds.map F) S
  | [], _ => rfl
  | d :: ds, h => by
    obtain ⟨ρ1, e1, e2⟩ := h d List.mem_cons_self
    have ih := comp_map (t := t) (el := el) (ρ := ρ) (S := S) F (ds := ds) fun d' hd => h d' (List.mem_cons_of_mem _ hd)
    unfold compL
    rw [e1]
    show ((el ρ1 S).nox.bind _) = _
    rw [e2]
    show ((compL t cYes el ρ ds S).bind _) = _
    rw [ih]; rfl
theorem e_comp {vs : List Nat} {it : If} {t : Tgt} {el : Ef} {ρ : Nv} {S S1 S2 : Sto} {ds r : List DL.D} (h : it ρ S = .ok ds S1) (hl : ds.length ≤ big) (hc : compL t cYes el (wipeN ρ vs) ds S1 = .ok r S2) : dComp vs it t cYes el ρ S = .ok (.p (.lst r)) S2 := by
  unfold dComp
  rw [h]
  show (if ds.length ≤ big then _ else _) = _
  rw [if_pos hl, hc]; rfl
theorem rngD_mem {lo : Int} {n : Nat} {d : D} (h : d ∈ rngD lo n) : ∃ i : Nat, i < n ∧ d = .int (lo + i) := by
  unfold rngD at h
  obtain ⟨i, h1, h2⟩ := List.mem_map.mp h
  exact ⟨i, List.mem_range.mp h1, h2.symm⟩
theorem e_rng1 {f : Ef} {ρ : Nv} {S S1 : Sto} {j : Int} (h : f ρ S = .ok (.p (.int j)) S1) (hj : -1000000000000000000 ≤ j ∧ j < 1000000000000000000) : DL.iRng1 f ρ S = .ok (rngD 0 j.toNat) S1 := by
  unfold DL.iRng1
  rw [h]
  show (if rngOk 0 j = true then _ else _) = _
  rw [if_pos (by unfold rngOk; simp only [Bool.and_eq_true, decide_eq_true_eq]; omega)]
def okT : DL.PO → Bool
  | .ok (.bl b) => b
  | _ => false
theorem okT_eq {o : DL.PO} (h : okT o = true) : o = .ok (.bl true) := by
  cases o with
  | ok d => cases d with
    | bl b => cases b with
      | true => rfl
      | false => cases h
    | _ => cases h
  | exc x => cases h
  | bad => cases h
def ones : List DL.D := [.str "a", .str "", .int 7, .tup [.str "out", .int 0], .non]
def twos : List DL.D := [.tup [], .str "kind", .int 0, .non]
theorem right_all : (List.range 10).all (fun (k : Nat) => ones.all fun a => twos.all fun b => okT (m_law_right [.int (k : Int), a, b])) = true := by decide +kernel
theorem right_eq {k : Nat} {a b : DL.D} (hk : k < 10) (ha : a ∈ ones) (hb : b ∈ twos) : m_law_right [.int (k : Int), a, b] = .ok (.bl true) := by
  have h := right_all
  rw [List.all_eq_true] at h
  have h1 := h k (List.mem_range.mpr hk)
  rw [List.all_eq_true] at h1
  have h2 := h1 a ha
  rw [List.all_eq_true] at h2
  exact okT_eq (h2 b hb)
theorem pick_one {k : Int} (h0 : 0 ≤ k) (h1 : k < 5) : ∃ a, a ∈ ones ∧ ∀ S, oIx (.p (.lst ones)) (.p (.int k)) S = .ok (.p a) S := by
  have h : k = 0 ∨ k = 1 ∨ k = 2 ∨ k = 3 ∨ k = 4 := by omega
  rcases h with rfl | rfl | rfl | rfl | rfl
  · exact ⟨.str "a", by simp [ones], fun S => rfl⟩
  · exact ⟨.str "", by simp [ones], fun S => rfl⟩
  · exact ⟨.int 7, by simp [ones], fun S => rfl⟩
  · exact ⟨.tup [.str "out", .int 0], by simp [ones], fun S => rfl⟩
  · exact ⟨.non, by simp [ones], fun S => rfl⟩
theorem pick_two {k : Int} (h0 : 0 ≤ k) (h1 : k < 4) : ∃ a, a ∈ twos ∧ ∀ S, oIx (.p (.lst twos)) (.p (.int k)) S = .ok (.p a) S := by
  have h : k = 0 ∨ k = 1 ∨ k = 2 ∨ k = 3 := by omega
  rcases h with rfl | rfl | rfl | rfl
  · exact ⟨.tup [], by simp [twos], fun S => rfl⟩
  · exact ⟨.str "kind", by simp [twos], fun S => rfl⟩
  · exact ⟨.int 0, by simp [twos], fun S => rfl⟩
  · exact ⟨.non, by simp [twos], fun S => rfl⟩
theorem law_comp {a b : DL.D} (ha : a ∈ ones) (hb : b ∈ twos) (x0 x1 x4 : Option Dv) (S : Sto) : dComp [4] (DL.iRng1 (dC (.int 10))) (gN 4) cYes (dCallP m_law_right (aCons (dName 4) (aCons (dName 2) (aCons (dName 3) aNil)))) [x0, x1, some (.p a), some (.p b), x4] S =
    .ok (.p (.lst ((rngD 0 10).map fun _ => DL.D.bl true))) S := by
  refine e_comp (e_rng1 (j := 10) rfl (by omega)) (by decide) (comp_map (F := fun _ => DL.D.bl true) fun d hd => ?_)
  obtain ⟨i, hi, rfl⟩ := rngD_mem hd
  refine ⟨_, rfl, ?_⟩
  have h := right_eq (show i < 10 from hi) ha hb
  rw [Int.zero_add]
  show (match m_law_right [.int (i : Int), a, b] with
    | .ok d => Out.ok (Dv.p d) S
    | .exc x => .exc x S
    | .bad => .bad) = _
  rw [h]
theorem law_all (S : Sto) : nAll [.p (.lst ((rngD 0 10).map fun _ => DL.D.bl true))] S = .ok (.p (.bl true)) S := rfl
theorem math : ∀ ns : List Int, ns.length ≤ 63 → ∃ S, m_law [.p (.scr ns)] [] = .ok (.p (.bl true)) S := by
  intro ns hl
  obtain ⟨S0, n0, d0⟩ := mix_eq ns hl 16
  obtain ⟨k1, S1, n1, a1, b1, d1⟩ := next_eq d0 (b := 5) (by decide) (by decide)
  obtain ⟨k2, S2, n2, a2, b2, d2⟩ := next_eq d1 (b := 4) (by decide) (by decide)
  obtain ⟨o1, m1, p1⟩ := pick_one a1 b1
  obtain ⟨o2, m2, p2⟩ := pick_two a2 b2
  have l1 : ∀ (ρ : Nv) (S : Sto), dLst (aCons (dC (.str "a")) (aCons (dC (.str "")) (aCons (dC (.int 7)) (aCons (dTup (aCons (dC (.str "out")) (aCons (dC (.int 0)) aNil))) (aCons (dC .non) aNil))))) ρ S = .ok (.p (.lst ones)) S := fun _ _ => rfl
  have l2 : ∀ (ρ : Nv) (S : Sto), dLst (aCons (dTup aNil) (aCons (dC (.str "kind")) (aCons (dC (.int 0)) (aCons (dC .non) aNil)))) ρ S = .ok (.p (.lst twos)) S := fun _ _ => rfl
  have c := law_comp m1 m2 (some (.p (.scr ns))) (some (.hnd 1)) none S2
  refine ⟨S2, ?_⟩
  simp only [m_law, runE, init, b_law]
  generalize dComp [4] (DL.iRng1 (dC (.int 10))) (gN 4) cYes (dCallP m_law_right (aCons (dName 4) (aCons (dName 2) (aCons (dName 3) aNil)))) = g1 at c ⊢
  generalize dLst (aCons (dC (.str "a")) (aCons (dC (.str "")) (aCons (dC (.int 7)) (aCons (dTup (aCons (dC (.str "out")) (aCons (dC (.int 0)) aNil))) (aCons (dC .non) aNil))))) = g2 at l1 ⊢
  generalize dLst (aCons (dTup aNil) (aCons (dC (.str "kind")) (aCons (dC (.int 0)) (aCons (dC .non) aNil)))) = g3 at l2 ⊢
  simp only [e_seq, e_seq_nx, e_seq_rt, e_seq_ite, e_bind, e_bind_ite, e_toS, e_toS_ite, e_set, e_ret, e_expr, e_nil, e_if, e_name, e_C, e_bin, e_un, e_ifx, e_aNil, e_aCons, e_call, e_cVal, e_cNot, e_cAnd, e_cOr, e_and, e_or, e_not, e_add, e_sub, e_lt, e_le, e_gt, e_ge, e_neg, e_eqi, e_nei, e_isN, e_notN, e_partsE, e_ixT0, e_ixT1, e_ixT2, e_ixT3, e_ixT4, e_ixL0, e_ixL1, e_ixL2, e_ixL3, e_ixL4, e_callP, e_callE, e_allP, e_allP0, e_tup, e_lst, e_par, List.map_cons, List.map_nil, List.append_assoc, List.nil_append, List.cons_append, List.replicate, List.getElem?_cons_zero, List.getElem?_cons_succ, List.set_cons_zero, List.set_cons_succ, Option.map_some, if_true, if_false, Bool.false_eq_true, decide_eq_true_eq, List.length_cons, List.length_nil, bg0, bg1, bg2, bg3, bg4, bg5, bg6, bg7, bg8, bg9, bg10, bg11, bg12, bg13, bg14, n0, l1, n1, p1, l2, n2, p2, c, law_all]

def topS (i : Nat) : Stmt := PySem.Challenge.pw_hallnumbers_k16_errors_apart.main.body.getD i (.Pass ⟨0, 0, 0, 0⟩)
abbrev s_law_mix : Stmt := (topS 13)
theorem sc_law_mix : FnScope ["_law_script", "_law_seed", "_law_state", "_law_cell"] ["_law_script", "_law_seed"] (defScope s_law_mix) := ⟨rfl, rfl, rfl, by decide +kernel, rfl, by decide +kernel, by decide +kernel⟩
abbrev s_law_next : Stmt := (topS 14)
theorem sc_law_next : FnScope ["_law_h", "_law_bound", "_law_cell"] ["_law_h", "_law_bound"] (defScope s_law_next) := ⟨rfl, rfl, rfl, by decide +kernel, rfl, by decide +kernel, by decide +kernel⟩
abbrev s_InvalidText_init : Stmt := (inClass (topS 11) 0)
theorem sc_InvalidText_init : FnScope ["self", "line", "word"] ["self", "line", "word"] (defScope s_InvalidText_init) := ⟨rfl, rfl, rfl, by decide +kernel, rfl, by decide +kernel, by decide +kernel⟩
abbrev s_law_bare : Stmt := (topS 15)
theorem sc_law_bare : FnScope ["_law_k"] ["_law_k"] (defScope s_law_bare) := ⟨rfl, rfl, rfl, by decide +kernel, rfl, by decide +kernel, by decide +kernel⟩
abbrev s_InvalidPoint_init : Stmt := (inClass (topS 2) 0)
theorem sc_InvalidPoint_init : FnScope ["self", "point"] ["self", "point"] (defScope s_InvalidPoint_init) := ⟨rfl, rfl, rfl, by decide +kernel, rfl, by decide +kernel, by decide +kernel⟩
abbrev s_InvalidTicket_init : Stmt := (inClass (topS 7) 0)
theorem sc_InvalidTicket_init : FnScope ["self", "index"] ["self", "index"] (defScope s_InvalidTicket_init) := ⟨rfl, rfl, rfl, by decide +kernel, rfl, by decide +kernel, by decide +kernel⟩
abbrev s_law_thrown : Stmt := (topS 16)
theorem sc_law_thrown : FnScope ["_law_k", "_law_one", "_law_two"] ["_law_k", "_law_one", "_law_two"] (defScope s_law_thrown) := ⟨rfl, rfl, rfl, by decide +kernel, rfl, by decide +kernel, by decide +kernel⟩
abbrev s_law_classes : Stmt := (topS 17)
theorem sc_law_classes : FnScope ["_law_e", "_law_found"] ["_law_e"] (defScope s_law_classes) := ⟨rfl, rfl, rfl, by decide +kernel, rfl, by decide +kernel, by decide +kernel⟩
abbrev s_law_parts : Stmt := (topS 18)
theorem sc_law_parts : FnScope ["_law_k", "_law_e"] ["_law_k", "_law_e"] (defScope s_law_parts) := ⟨rfl, rfl, rfl, by decide +kernel, rfl, by decide +kernel, by decide +kernel⟩
abbrev s_law_right : Stmt := (topS 19)
theorem sc_law_right : FnScope ["_law_k", "_law_one", "_law_two", "_law_good", "_law_due", "_law_e", "_law_other"] ["_law_k", "_law_one", "_law_two"] (defScope s_law_right) := ⟨rfl, rfl, rfl, by decide +kernel, rfl, by decide +kernel, by decide +kernel⟩
abbrev s_law : Stmt := (topS 20)
theorem sc_law : FnScope ["_law_script", "_law_h", "_law_one", "_law_two", "_law_k"] ["_law_script"] (defScope s_law) := ⟨rfl, rfl, rfl, by decide +kernel, rfl, by decide +kernel, by decide +kernel⟩
structure Ad where
  f_law_mix : Addr
  d_law_mix : FuncData
  f_law_next : Addr
  d_law_next : FuncData
  f_InvalidText_init : Addr
  d_InvalidText_init : FuncData
  f_law_bare : Addr
  d_law_bare : FuncData
  f_InvalidPoint_init : Addr
  d_InvalidPoint_init : FuncData
  f_InvalidTicket_init : Addr
  d_InvalidTicket_init : FuncData
  f_law_thrown : Addr
  d_law_thrown : FuncData
  f_law_classes : Addr
  d_law_classes : FuncData
  f_law_parts : Addr
  d_law_parts : FuncData
  f_law_right : Addr
  d_law_right : FuncData
  f_law : Addr
  d_law : FuncData
  c_NumberError : Addr
structure Tx (P : Program) (w : World) (A : Ad) (mg : Str → Option Value) (G : Gx) : Prop where
  F_law_mix : Fun G.K "_law_mix" "_law_mix" s_law_mix A.f_law_mix A.d_law_mix
  b_law_mix : L2.Binds G.K A.d_law_mix ["_law_script", "_law_seed"] []
  g_law_mix : mg "_law_mix" = some (.ref A.f_law_mix)
  F_law_next : Fun G.K "_law_next" "_law_next" s_law_next A.f_law_next A.d_law_next
  b_law_next : L2.Binds G.K A.d_law_next ["_law_h", "_law_bound"] []
  g_law_next : mg "_law_next" = some (.ref A.f_law_next)
  F_InvalidText_init : Fun G.K "__init__" "InvalidText.__init__" s_InvalidText_init A.f_InvalidText_init A.d_InvalidText_init
  b_InvalidText_init : L2.Binds G.K A.d_InvalidText_init ["self", "line", "word"] []
  F_law_bare : Fun G.K "_law_bare" "_law_bare" s_law_bare A.f_law_bare A.d_law_bare
  b_law_bare : L2.Binds G.K A.d_law_bare ["_law_k"] []
  g_law_bare : mg "_law_bare" = some (.ref A.f_law_bare)
  F_InvalidPoint_init : Fun G.K "__init__" "InvalidPoint.__init__" s_InvalidPoint_init A.f_InvalidPoint_init A.d_InvalidPoint_init
  b_InvalidPoint_init : L2.Binds G.K A.d_InvalidPoint_init ["self", "point"] []
  F_InvalidTicket_init : Fun G.K "__init__" "InvalidTicket.__init__" s_InvalidTicket_init A.f_InvalidTicket_init A.d_InvalidTicket_init
  b_InvalidTicket_init : L2.Binds G.K A.d_InvalidTicket_init ["self", "index"] []
  F_law_thrown : Fun G.K "_law_thrown" "_law_thrown" s_law_thrown A.f_law_thrown A.d_law_thrown
  b_law_thrown : L2.Binds G.K A.d_law_thrown ["_law_k", "_law_one", "_law_two"] []
  g_law_thrown : mg "_law_thrown" = some (.ref A.f_law_thrown)
  F_law_classes : Fun G.K "_law_classes" "_law_classes" s_law_classes A.f_law_classes A.d_law_classes
  b_law_classes : L2.Binds G.K A.d_law_classes ["_law_e"] []
  g_law_classes : mg "_law_classes" = some (.ref A.f_law_classes)
  F_law_parts : Fun G.K "_law_parts" "_law_parts" s_law_parts A.f_law_parts A.d_law_parts
  b_law_parts : L2.Binds G.K A.d_law_parts ["_law_k", "_law_e"] []
  g_law_parts : mg "_law_parts" = some (.ref A.f_law_parts)
  F_law_right : Fun G.K "_law_right" "_law_right" s_law_right A.f_law_right A.d_law_right
  b_law_right : L2.Binds G.K A.d_law_right ["_law_k", "_law_one", "_law_two"] []
  g_law_right : mg "_law_right" = some (.ref A.f_law_right)
  F_law : Fun G.K "law" "law" s_law A.f_law A.d_law
  b_law : L2.Binds G.K A.d_law ["_law_script"] []
  g_law : mg "law" = some (.ref A.f_law)
  z_ValueError : mg "ValueError" = none
  z_all : mg "all" = none
  z_int : mg "int" = none
  z_isinstance : mg "isinstance" = none
  z_len : mg "len" = none
  z_list : mg "list" = none
  z_max : mg "max" = none
  z_range : mg "range" = none
  X_InvalidHall : XCls G.K mg "InvalidHall" (G.xc 0)
  m_InvalidHall : ∀ m b, mtOne 10 0 m = some b → PySem.W.exmOne G.K (.ref (G.xc m)) (.ref (G.xc 0)) = some b
  X_InvalidRow : XCls G.K mg "InvalidRow" (G.xc 1)
  m_InvalidRow : ∀ m b, mtOne 10 1 m = some b → PySem.W.exmOne G.K (.ref (G.xc m)) (.ref (G.xc 1)) = some b
  X_InvalidSeat : XCls G.K mg "InvalidSeat" (G.xc 2)
  m_InvalidSeat : ∀ m b, mtOne 10 2 m = some b → PySem.W.exmOne G.K (.ref (G.xc m)) (.ref (G.xc 2)) = some b
  X_InvalidNumber : XCls G.K mg "InvalidNumber" (G.xc 3)
  m_InvalidNumber : ∀ m b, mtOne 10 3 m = some b → PySem.W.exmOne G.K (.ref (G.xc m)) (.ref (G.xc 3)) = some b
  X_InvalidLimit : XCls G.K mg "InvalidLimit" (G.xc 4)
  m_InvalidLimit : ∀ m b, mtOne 10 4 m = some b → PySem.W.exmOne G.K (.ref (G.xc m)) (.ref (G.xc 4)) = some b
  X_NoSeat : XCls G.K mg "NoSeat" (G.xc 5)
  m_NoSeat : ∀ m b, mtOne 10 5 m = some b → PySem.W.exmOne G.K (.ref (G.xc m)) (.ref (G.xc 5)) = some b
  X_NotSold : XCls G.K mg "NotSold" (G.xc 6)
  m_NotSold : ∀ m b, mtOne 10 6 m = some b → PySem.W.exmOne G.K (.ref (G.xc m)) (.ref (G.xc 6)) = some b
  X_InvalidPoint : XCl0 G.K mg "InvalidPoint" (G.xc 7)
  O_InvalidPoint : OexC G.K (G.xc 7)
  xi_InvalidPoint : PySem.W.findIn G.K (.ref (G.xc 7)) "__init__" = some (some (.ref A.f_InvalidPoint_init))
  xt_InvalidPoint : PySem.W.typeIn G.K (.ref A.f_InvalidPoint_init) = some (.type "function")
  xn_InvalidPoint : ∀ f ∈ (["point"] : List Str), PySem.W.findIn G.K (.ref (G.xc 7)) f = some none
  xf_InvalidPoint : G.xf 7 = (["point"] : List Str).reverse
  m_InvalidPoint : ∀ m b, mtOne 10 7 m = some b → PySem.W.exmOne G.K (.ref (G.xc m)) (.ref (G.xc 7)) = some b
  X_InvalidTicket : XCl0 G.K mg "InvalidTicket" (G.xc 8)
  O_InvalidTicket : OexC G.K (G.xc 8)
  xi_InvalidTicket : PySem.W.findIn G.K (.ref (G.xc 8)) "__init__" = some (some (.ref A.f_InvalidTicket_init))
  xt_InvalidTicket : PySem.W.typeIn G.K (.ref A.f_InvalidTicket_init) = some (.type "function")
  xn_InvalidTicket : ∀ f ∈ (["index"] : List Str), PySem.W.findIn G.K (.ref (G.xc 8)) f = some none
  xf_InvalidTicket : G.xf 8 = (["index"] : List Str).reverse
  m_InvalidTicket : ∀ m b, mtOne 10 8 m = some b → PySem.W.exmOne G.K (.ref (G.xc m)) (.ref (G.xc 8)) = some b
  X_InvalidText : XCl0 G.K mg "InvalidText" (G.xc 9)
  O_InvalidText : OexC G.K (G.xc 9)
  xi_InvalidText : PySem.W.findIn G.K (.ref (G.xc 9)) "__init__" = some (some (.ref A.f_InvalidText_init))
  xt_InvalidText : PySem.W.typeIn G.K (.ref A.f_InvalidText_init) = some (.type "function")
  xn_InvalidText : ∀ f ∈ (["line", "word"] : List Str), PySem.W.findIn G.K (.ref (G.xc 9)) f = some none
  xf_InvalidText : G.xf 9 = (["line", "word"] : List Str).reverse
  m_InvalidText : ∀ m b, mtOne 10 9 m = some b → PySem.W.exmOne G.K (.ref (G.xc m)) (.ref (G.xc 9)) = some b
  g_NumberError : mg "NumberError" = some (.ref A.c_NumberError)
  is_NumberError : ∀ j b, isOf 10 true j = some b → ExcC G.K (G.xc j) ∧ PySem.W.kitOne G.K (.ref (G.xc j)) (.ref A.c_NumberError) = some b
  is_InvalidHall : ∀ j, j < 10 → ExcC G.K (G.xc j) ∧ PySem.W.kitOne G.K (.ref (G.xc j)) (.ref (G.xc 0)) = some (decide (j = 0))
  is_InvalidRow : ∀ j, j < 10 → ExcC G.K (G.xc j) ∧ PySem.W.kitOne G.K (.ref (G.xc j)) (.ref (G.xc 1)) = some (decide (j = 1))
  is_InvalidSeat : ∀ j, j < 10 → ExcC G.K (G.xc j) ∧ PySem.W.kitOne G.K (.ref (G.xc j)) (.ref (G.xc 2)) = some (decide (j = 2))
  is_InvalidNumber : ∀ j, j < 10 → ExcC G.K (G.xc j) ∧ PySem.W.kitOne G.K (.ref (G.xc j)) (.ref (G.xc 3)) = some (decide (j = 3))
  is_InvalidLimit : ∀ j, j < 10 → ExcC G.K (G.xc j) ∧ PySem.W.kitOne G.K (.ref (G.xc j)) (.ref (G.xc 4)) = some (decide (j = 4))
  is_NoSeat : ∀ j, j < 10 → ExcC G.K (G.xc j) ∧ PySem.W.kitOne G.K (.ref (G.xc j)) (.ref (G.xc 5)) = some (decide (j = 5))
  is_NotSold : ∀ j, j < 10 → ExcC G.K (G.xc j) ∧ PySem.W.kitOne G.K (.ref (G.xc j)) (.ref (G.xc 6)) = some (decide (j = 6))
  is_InvalidPoint : ∀ j, j < 10 → ExcC G.K (G.xc j) ∧ PySem.W.kitOne G.K (.ref (G.xc j)) (.ref (G.xc 7)) = some (decide (j = 7))
  is_InvalidTicket : ∀ j, j < 10 → ExcC G.K (G.xc j) ∧ PySem.W.kitOne G.K (.ref (G.xc j)) (.ref (G.xc 8)) = some (decide (j = 8))
  is_InvalidText : ∀ j, j < 10 → ExcC G.K (G.xc j) ∧ PySem.W.kitOne G.K (.ref (G.xc j)) (.ref (G.xc 9)) = some (decide (j = 9))
  isV : ∀ j, j < 10 → ExcC G.K (G.xc j) ∧ PySem.W.kitOne G.K (.ref (G.xc j)) (.type "ValueError") = some true
  mNE : ∀ m, m < 10 → PySem.W.exmOne G.K (.ref (G.xc m)) (.ref A.c_NumberError) = some true
  XF_InvalidPoint : XfC G.K (G.xc 7)
  nd_InvalidPoint : (G.xf 7).Nodup
  XF_InvalidText : XfC G.K (G.xc 9)
  nd_InvalidText : (G.xf 9).Nodup
  XF_InvalidTicket : XfC G.K (G.xc 8)
  nd_InvalidTicket : (G.xf 8).Nodup
  no_InvalidPoint_point : PySem.W.findIn G.K (.ref (G.xc 7)) "point" = some none
  fk_InvalidPoint_point : (G.xf 7)[0]? = some ("point" : Str)
  no_InvalidText_line : PySem.W.findIn G.K (.ref (G.xc 9)) "line" = some none
  fk_InvalidText_line : (G.xf 9)[1]? = some ("line" : Str)
  no_InvalidText_word : PySem.W.findIn G.K (.ref (G.xc 9)) "word" = some none
  fk_InvalidText_word : (G.xf 9)[0]? = some ("word" : Str)
  no_InvalidTicket_index : PySem.W.findIn G.K (.ref (G.xc 8)) "index" = some none
  fk_InvalidTicket_index : (G.xf 8)[0]? = some ("index" : Str)
section
variable {P : Program} {w : World} {A : Ad} {mg : Str → Option Value} {G : Gx} {base : Heap}
theorem ok_law_mix (T : Tx P w A mg G) : FnOk P w G.K mg base (L2.CX P w) 1 A.f_law_mix A.d_law_mix ["_law_script", "_law_seed"] (spE G 2 m_law_mix) :=
  ok_E (k := 0) T.F_law_mix sc_law_mix rfl fun cd A' outer s H E hr =>
    (ds_cons (dp_set (i := 2) sc_law_mix.nd rfl (by first | exact Or.inl rfl | exact Or.inr rfl) (de_name 1))
    (ds_cons (dp_for passesF rfl (di_seq rfl (de_name 0)) (dg_name sc_law_mix.nd rfl (by first | exact Or.inl rfl | exact Or.inr rfl))
      (ds_one (dp_set (i := 2) sc_law_mix.nd rfl (by first | exact Or.inl rfl | exact Or.inr rfl) (de_bin op_mod oMod_ok (de_callTy call_int1 nInt_ok rfl T.z_int PyProof.Rows.boot_int (da_cons (de_bin oAdd_op oAdd_ok (de_bin oAdd_op oAdd_ok (de_bin oMul_op oMul_ok (de_name 2) de_int) (de_bin op_mod oMod_ok (de_callTy call_int1 nInt_ok rfl T.z_int PyProof.Rows.boot_int (da_cons (de_name 3) da_nil)) de_int)) de_int) da_nil)) de_int))))
    (ds_one (dp_ret (de_lstR (da_cons (de_name 2) (da_cons (de_callTy call_list_of nListC_ok rfl T.z_list PyProof.Rows.boot_list (da_cons (de_name 0) da_nil)) (da_cons de_int (da_cons de_int da_nil)))))))))
theorem ok_law_next (T : Tx P w A mg G) : FnOk P w G.K mg base (L2.CX P w) 1 A.f_law_next A.d_law_next ["_law_h", "_law_bound"] (spE G 2 m_law_next) :=
  ok_E (k := 0) T.F_law_next sc_law_next rfl fun cd A' outer s H E hr =>
    (ds_cons (dp_set (i := 2) sc_law_next.nd rfl (by first | exact Or.inl rfl | exact Or.inr rfl) (de_ix oIx_op oIx_ok (de_bin oAdd_op oAdd_ok (de_ix oIx_op oIx_ok (de_name 0) de_int (fun _ _ => rfl)) (de_lst (da_cons de_int da_nil))) (de_bin op_mod oMod_ok (de_callTy call_int1 nInt_ok rfl T.z_int PyProof.Rows.boot_int (da_cons (de_ix oIx_op oIx_ok (de_name 0) de_int (fun _ _ => rfl)) da_nil)) (de_callB (call_max2 rfl) nMax2_ok rfl T.z_max boot_max (da_cons de_int (da_cons (de_callB call_len_seq nLen_ok rfl T.z_len PySem.boot_len (da_cons (de_ix oIx_op oIx_ok (de_name 0) de_int (fun _ _ => rfl)) da_nil)) da_nil)))) (fun _ _ => rfl)))
    (ds_cons (dp_if (dt_cmp op_ge oGe_ok (de_name 2) (de_bin op_pow oPow_ok de_int de_int) (nomark _)) (ds_cons (dp_setI (de_bin op_fdivW oDiv_ok (de_name 2) (de_name 1)) (de_ix oIx_op oIx_ok (de_name 0) de_int (fun _ _ => rfl)) (de_bin op_mod oMod_ok (de_callTy call_int1 nInt_ok rfl T.z_int PyProof.Rows.boot_int (da_cons (de_ix oIx_op oIx_ok (de_name 0) de_int (fun _ _ => rfl)) da_nil)) (de_callB call_len_seq nLen_ok rfl T.z_len PySem.boot_len (da_cons (de_ix oIx_op oIx_ok (de_name 0) de_int (fun _ _ => rfl)) da_nil))))
    (ds_one (dp_ret (de_bin op_mod oMod_ok (de_callTy call_int1 nInt_ok rfl T.z_int PyProof.Rows.boot_int (da_cons (de_name 2) da_nil)) (de_name 1))))) ds_nil)
    (ds_cons (dp_setI (de_bin op_mod oMod_ok (de_callTy call_int1 nInt_ok rfl T.z_int PyProof.Rows.boot_int (da_cons (de_bin oAdd_op oAdd_ok (de_bin oAdd_op oAdd_ok (de_bin oMul_op oMul_ok (de_ix oIx_op oIx_ok (de_name 0) de_int (fun _ _ => rfl)) de_int) (de_bin oMul_op oMul_ok (de_name 2) de_int)) de_int) da_nil)) de_int) (de_name 0) de_int)
    (ds_cons (dp_setI (de_bin oAdd_op oAdd_ok (de_ix oIx_op oIx_ok (de_name 0) de_int (fun _ _ => rfl)) de_int) (de_name 0) de_int)
    (ds_one (dp_ret (de_bin op_mod oMod_ok (de_callTy call_int1 nInt_ok rfl T.z_int PyProof.Rows.boot_int (da_cons (de_bin op_fdivW oDiv_ok (de_ix oIx_op oIx_ok (de_name 0) de_int (fun _ _ => rfl)) de_int) da_nil)) (de_name 1))))))))
theorem ok_InvalidText_init (T : Tx P w A mg G) : FnOk P w G.K mg base (L2.CX P w) 1 A.f_InvalidText_init A.d_InvalidText_init ["self", "line", "word"] (spX G.K ["line", "word"]) :=
  ok_x2 T.F_InvalidText_init sc_InvalidText_init fun cd A' outer s H E => pss_cons (ps_ost (pe_var (i := 0) rfl (by first | exact Or.inl rfl | exact Or.inr (Or.inl rfl))) (pe_var (i := 1) rfl (by first | exact Or.inl rfl | exact Or.inr (Or.inl rfl)))) (pss_one (ps_ost (pe_var (i := 0) rfl (by first | exact Or.inl rfl | exact Or.inr (Or.inl rfl))) (pe_var (i := 2) rfl (by first | exact Or.inl rfl | exact Or.inr (Or.inl rfl)))))
theorem ok_law_bare (T : Tx P w A mg G) : FnOk P w G.K mg base (L2N.CX P w) 1 A.f_law_bare A.d_law_bare ["_law_k"] (spE G 1 m_law_bare) :=
  okN_E (k := 0) T.F_law_bare sc_law_bare rfl fun cd A' outer s H E hr =>
    (ds_cons (dp_if (dt_cmp (op_eqD hr.units) oEq_ok (de_name 0) de_int (nomark _)) (ds_one (dpN_raise0 takesN rfl T.X_InvalidHall rfl)) ds_nil)
    (ds_cons (dp_if (dt_cmp (op_eqD hr.units) oEq_ok (de_name 0) de_int (nomark _)) (ds_one (dpN_raise0 takesN rfl T.X_InvalidRow rfl)) ds_nil)
    (ds_cons (dp_if (dt_cmp (op_eqD hr.units) oEq_ok (de_name 0) de_int (nomark _)) (ds_one (dpN_raise0 takesN rfl T.X_InvalidSeat rfl)) ds_nil)
    (ds_cons (dp_if (dt_cmp (op_eqD hr.units) oEq_ok (de_name 0) de_int (nomark _)) (ds_one (dpN_raise0 takesN rfl T.X_InvalidNumber rfl)) ds_nil)
    (ds_cons (dp_if (dt_cmp (op_eqD hr.units) oEq_ok (de_name 0) de_int (nomark _)) (ds_one (dpN_raise0 takesN rfl T.X_InvalidLimit rfl)) ds_nil)
    (ds_cons (dp_if (dt_cmp (op_eqD hr.units) oEq_ok (de_name 0) de_int (nomark _)) (ds_one (dpN_raise0 takesN rfl T.X_NoSeat rfl)) ds_nil)
    (ds_one (dpN_raise0 takesN rfl T.X_NotSold rfl))))))))
theorem ok_InvalidPoint_init (T : Tx P w A mg G) : FnOk P w G.K mg base (L2.CX P w) 1 A.f_InvalidPoint_init A.d_InvalidPoint_init ["self", "point"] (spX G.K ["point"]) :=
  ok_x1 T.F_InvalidPoint_init sc_InvalidPoint_init fun cd A' outer s H E => pss_one (ps_ost (pe_var (i := 0) rfl (by first | exact Or.inl rfl | exact Or.inr (Or.inl rfl))) (pe_var (i := 1) rfl (by first | exact Or.inl rfl | exact Or.inr (Or.inl rfl))))
theorem ok_InvalidTicket_init (T : Tx P w A mg G) : FnOk P w G.K mg base (L2.CX P w) 1 A.f_InvalidTicket_init A.d_InvalidTicket_init ["self", "index"] (spX G.K ["index"]) :=
  ok_x1 T.F_InvalidTicket_init sc_InvalidTicket_init fun cd A' outer s H E => pss_one (ps_ost (pe_var (i := 0) rfl (by first | exact Or.inl rfl | exact Or.inr (Or.inl rfl))) (pe_var (i := 1) rfl (by first | exact Or.inl rfl | exact Or.inr (Or.inl rfl))))
theorem ok_law_thrown (T : Tx P w A mg G) : FnOk P w G.K mg base (L2N.CX P w) 3 A.f_law_thrown A.d_law_thrown ["_law_k", "_law_one", "_law_two"] (spE G 3 m_law_thrown) :=
  okN_E (k := 2) T.F_law_thrown sc_law_thrown rfl fun cd A' outer s H E hr =>
    (ds_cons (dp_if (dt_cmp op_lt oLt_ok (de_name 0) de_int (nomark _)) (ds_one (dp_expr (deN_callE takesN (ok_law_bare T) (hr.mono (by decide)) rfl T.g_law_bare T.F_law_bare.kp T.b_law_bare (aCons_len (fun _ _ _ _ h => aNil_len h)) (da_cons (de_name 0) da_nil)))) ds_nil)
    (ds_cons (dp_if (dt_cmp (op_eqD hr.units) oEq_ok (de_name 0) de_int (nomark _)) (ds_one (dpN_raiseA T.O_InvalidPoint T.xi_InvalidPoint T.xt_InvalidPoint (ok_InvalidPoint_init T) (hr.mono (by decide)) T.b_InvalidPoint_init T.xn_InvalidPoint T.xf_InvalidPoint rfl (by decide) (by decide) takesN rfl rfl T.X_InvalidPoint.g (da_cons (de_name 1) da_nil))) ds_nil)
    (ds_cons (dp_if (dt_cmp (op_eqD hr.units) oEq_ok (de_name 0) de_int (nomark _)) (ds_one (dpN_raiseA T.O_InvalidTicket T.xi_InvalidTicket T.xt_InvalidTicket (ok_InvalidTicket_init T) (hr.mono (by decide)) T.b_InvalidTicket_init T.xn_InvalidTicket T.xf_InvalidTicket rfl (by decide) (by decide) takesN rfl rfl T.X_InvalidTicket.g (da_cons (de_name 1) da_nil))) ds_nil)
    (ds_one (dpN_raiseA T.O_InvalidText T.xi_InvalidText T.xt_InvalidText (ok_InvalidText_init T) (hr.mono (by decide)) T.b_InvalidText_init T.xn_InvalidText T.xf_InvalidText rfl (by decide) (by decide) takesN rfl rfl T.X_InvalidText.g (da_cons (de_name 1) (da_cons (de_name 2) da_nil)))))))
theorem okh_law_classes (T : Tx P w A mg G) : FnHp P w G.K mg base (L2.CX P w) 1 A.f_law_classes A.d_law_classes ["_law_e"] (spH G 0 mh_law_classes) :=
  okH (k := 0) T.F_law_classes sc_law_classes rfl rfl fun cd A' outer s H E p cls dd x hr hot hz hf =>
    (y_set_cons (j := 1) (by decide) sc_law_classes.nd rfl (by first | exact Or.inl rfl | exact Or.inr rfl) (y_lst (yA_cons (y_isX (List.mem_singleton.mpr rfl) T.is_InvalidHall hz hf rfl rfl T.z_isinstance (pe_glob (v := .ref (G.xc 0)) rfl T.X_InvalidHall.g rfl) (fun _ h => h)) (yA_cons (y_isX (List.mem_singleton.mpr rfl) T.is_InvalidRow hz hf rfl rfl T.z_isinstance (pe_glob (v := .ref (G.xc 1)) rfl T.X_InvalidRow.g rfl) (fun _ h => h)) (yA_cons (y_isX (List.mem_singleton.mpr rfl) T.is_InvalidSeat hz hf rfl rfl T.z_isinstance (pe_glob (v := .ref (G.xc 2)) rfl T.X_InvalidSeat.g rfl) (fun _ h => h)) yA_nil))))
    (y_set_cons (j := 1) (by decide) sc_law_classes.nd rfl (by first | exact Or.inl rfl | exact Or.inr rfl) (y_bin oAdd_op oAdd_ok (y_lift (de_name 1)) (y_lst (yA_cons (y_isX (List.mem_singleton.mpr rfl) T.is_InvalidNumber hz hf rfl rfl T.z_isinstance (pe_glob (v := .ref (G.xc 3)) rfl T.X_InvalidNumber.g rfl) (fun _ h => h)) (yA_cons (y_isX (List.mem_singleton.mpr rfl) T.is_InvalidLimit hz hf rfl rfl T.z_isinstance (pe_glob (v := .ref (G.xc 4)) rfl T.X_InvalidLimit.g rfl) (fun _ h => h)) (yA_cons (y_isX (List.mem_singleton.mpr rfl) T.is_NoSeat hz hf rfl rfl T.z_isinstance (pe_glob (v := .ref (G.xc 5)) rfl T.X_NoSeat.g rfl) (fun _ h => h)) yA_nil)))))
    (y_set_cons (j := 1) (by decide) sc_law_classes.nd rfl (by first | exact Or.inl rfl | exact Or.inr rfl) (y_bin oAdd_op oAdd_ok (y_lift (de_name 1)) (y_lst (yA_cons (y_isX (List.mem_singleton.mpr rfl) T.is_NotSold hz hf rfl rfl T.z_isinstance (pe_glob (v := .ref (G.xc 6)) rfl T.X_NotSold.g rfl) (fun _ h => h)) (yA_cons (y_isX (List.mem_singleton.mpr rfl) T.is_InvalidPoint hz hf rfl rfl T.z_isinstance (pe_glob (v := .ref (G.xc 7)) rfl T.X_InvalidPoint.g rfl) (fun _ h => h)) (yA_cons (y_isX (List.mem_singleton.mpr rfl) T.is_InvalidTicket hz hf rfl rfl T.z_isinstance (pe_glob (v := .ref (G.xc 8)) rfl T.X_InvalidTicket.g rfl) (fun _ h => h)) yA_nil)))))
    (y_ret_one (y_bin oAdd_op oAdd_ok (y_lift (de_name 1)) (y_lst (yA_cons (y_isX (List.mem_singleton.mpr rfl) T.is_InvalidText hz hf rfl rfl T.z_isinstance (pe_glob (v := .ref (G.xc 9)) rfl T.X_InvalidText.g rfl) (fun _ h => h)) yA_nil)))))))
theorem okh_law_parts (T : Tx P w A mg G) : FnHp P w G.K mg base (L2.CX P w) 1 A.f_law_parts A.d_law_parts ["_law_k", "_law_e"] (spH G 1 mh_law_parts) :=
  okH (k := 0) T.F_law_parts sc_law_parts rfl rfl fun cd A' outer s H E p cls dd x hr hot hz hf =>
    (y_if_cons (dt_cmp op_lt oLt_ok (de_name 0) de_int (nomark _)) (y_lift (de_lst da_nil))
    (y_if_cons (dt_cmp (op_eqD (roomU hr)) oEq_ok (de_name 0) de_int (nomark _)) (y_lst (yA_cons (y_fldX (List.mem_singleton.mpr rfl) T.XF_InvalidPoint T.no_InvalidPoint_point T.nd_InvalidPoint T.fk_InvalidPoint_point hz hf rfl) yA_nil))
    (y_ret_one (y_if (dt_cmp (op_eqD (roomU hr)) oEq_ok (de_name 0) de_int (nomark _)) (y_lst (yA_cons (y_fldX (List.mem_singleton.mpr rfl) T.XF_InvalidTicket T.no_InvalidTicket_index T.nd_InvalidTicket T.fk_InvalidTicket_index hz hf rfl) yA_nil)) (y_lst (yA_cons (y_fldX (List.mem_singleton.mpr rfl) T.XF_InvalidText T.no_InvalidText_line T.nd_InvalidText T.fk_InvalidText_line hz hf rfl) (yA_cons (y_fldX (List.mem_singleton.mpr rfl) T.XF_InvalidText T.no_InvalidText_word T.nd_InvalidText T.fk_InvalidText_word hz hf rfl) yA_nil)))))))
theorem ok_law_right (T : Tx P w A mg G) : FnOk P w G.K mg base (L2.CX P w) 4 A.f_law_right A.d_law_right ["_law_k", "_law_one", "_law_two"] (spP G 3 m_law_right) :=
  ok_P (k := 3) T.F_law_right sc_law_right rfl fun cd A' outer s H E hr =>
    (ds_cons (dp_set (i := 3) sc_law_right.nd rfl (by first | exact Or.inl rfl | exact Or.inr rfl) de_bl)
    (ds_cons (dp_set (i := 4) sc_law_right.nd rfl (by first | exact Or.inl rfl | exact Or.inr rfl) (de_bin oAdd_op oAdd_ok (de_slice rfl (de_lst (da_cons (de_name 1) da_nil)) do_no (do_at (de_callTy call_int1 nInt_ok rfl T.z_int PyProof.Rows.boot_int (da_cons (de_cmp op_gt oGt_ok (de_name 0) de_int (nomark _)) da_nil)))) (de_slice rfl (de_lst (da_cons (de_name 2) da_nil)) do_no (do_at (de_callTy call_int1 nInt_ok rfl T.z_int PyProof.Rows.boot_int (da_cons (de_cmp op_gt oGt_ok (de_name 0) de_int (nomark _)) da_nil))))))
    (ds_cons (dpN_try (n := 10) (i := 5) (g := fun x => (sThen 3 (dAnd (eIs 10 (fun _ => true) x) (dBin oEq (dCallH 0 (mh_law_classes x) aNil) (dComp [6] (DL.iRng1 (dC (.int 10))) (gN 6) cYes (dBin oEq (dName 6) (dName 0))))) (sSet 3 (dAnd (dName 3) (dBin oEq (dCallH 1 (mh_law_parts x) (aCons (dName 0) aNil)) (dName 4)))))) rfl rfl sc_law_right.nd rfl rfl ⟨rfl, by decide, .inl T.g_NumberError⟩ T.mNE (fun _ _ _ tk' _ => (ds_one (dp_expr (deN_callE tk' (ok_law_thrown T) (hr.mono (by decide)) rfl T.g_law_thrown T.F_law_thrown.kp T.b_law_thrown (aCons_len (aCons_len (aCons_len (fun _ _ _ _ h => aNil_len h)))) (da_cons (de_name 0) (da_cons (de_name 1) (da_cons (de_name 2) da_nil)))))))
      (fun a oe cls dd pn hz hf => suite_of fun x => (y_set_cons (j := 3) (by decide) sc_law_right.nd rfl (by first | exact Or.inl rfl | exact Or.inr rfl) (y_and (y_isX List.mem_cons_self T.isV hz.zc hf rfl rfl T.z_isinstance (pe_bltn (v := .ty "ValueError") rfl T.z_ValueError boot_VE rfl) (fun _ h => h)) (y_one (y_cmp (op_eqD hr.units) oEq_ok (y_call List.mem_cons_self hz.zc (hot_suite hz hf) (okh_law_classes T) (roomHot hr (by decide)) rfl T.g_law_classes T.F_law_classes.kp T.b_law_classes (yA_err rfl)) (y_lift (de_compH (own := [("_law_other", 6)]) ⟨_, (hot_suite hz hf), List.mem_cons_self⟩ sc_law_right.nd (di_rng1H rfl T.z_range de_int) (blkOk_by (N := ["_law_k", "_law_one", "_law_two", "_law_good", "_law_due", "_law_e", "_law_other"]) (sc := (defScope s_law_right)) (by decide +kernel)) (by decide)
      (fun _ _ _ _ _ => (dg_name sc_law_right.nd rfl (by first | exact Or.inl rfl | exact Or.inr rfl))) (fun _ _ _ _ _ => (de_cmp (op_eqD hr.units) oEq_ok (de_name 6) (de_name 0) (nomark _))))) (nomark _))))
    (y_set_one (j := 3) sc_law_right.nd rfl (by first | exact Or.inl rfl | exact Or.inr rfl) (y_and (y_lift (de_name 3)) (y_one (y_cmp (op_eqD hr.units) oEq_ok (y_call List.mem_cons_self hz.zc (hot_suite hz hf) (okh_law_parts T) (roomHot hr (by decide)) rfl T.g_law_parts T.F_law_parts.kp T.b_law_parts (yA_cons (y_lift (de_name 0)) (yA_err rfl))) (y_lift (de_name 4)) (nomark _))))))))
    (ds_one (dp_ret (de_name 3))))))
theorem ok_law (T : Tx P w A mg G) : FnOk P w G.K mg base (L2.CX P w) 5 A.f_law A.d_law ["_law_script"] (spE G 1 m_law) :=
  ok_E (k := 4) T.F_law sc_law rfl fun cd A' outer s H E hr =>
    (ds_cons (dp_set (i := 1) sc_law.nd rfl (by first | exact Or.inl rfl | exact Or.inr rfl) (de_callE takesF (ok_law_mix T) (hr.mono (by decide)) rfl T.g_law_mix T.F_law_mix.kp T.b_law_mix (aCons_len (aCons_len (fun _ _ _ _ h => aNil_len h))) (da_cons (de_name 0) (da_cons de_int da_nil))))
    (ds_cons (dp_set (i := 2) sc_law.nd rfl (by first | exact Or.inl rfl | exact Or.inr rfl) (de_ix oIx_op oIx_ok (de_lst (da_cons de_str (da_cons de_str (da_cons de_int (da_cons (de_tup (da_cons de_str (da_cons de_int da_nil))) (da_cons de_non da_nil)))))) (de_callE takesF (ok_law_next T) (hr.mono (by decide)) rfl T.g_law_next T.F_law_next.kp T.b_law_next (aCons_len (aCons_len (fun _ _ _ _ h => aNil_len h))) (da_cons (de_name 1) (da_cons de_int da_nil))) (fun _ _ => rfl)))
    (ds_cons (dp_set (i := 3) sc_law.nd rfl (by first | exact Or.inl rfl | exact Or.inr rfl) (de_ix oIx_op oIx_ok (de_lst (da_cons (de_tup da_nil) (da_cons de_str (da_cons de_int (da_cons de_non da_nil))))) (de_callE takesF (ok_law_next T) (hr.mono (by decide)) rfl T.g_law_next T.F_law_next.kp T.b_law_next (aCons_len (aCons_len (fun _ _ _ _ h => aNil_len h))) (da_cons (de_name 1) (da_cons de_int da_nil))) (fun _ _ => rfl)))
    (ds_one (dp_ret (de_callB (cr_all rfl) nAll_ok rfl T.z_all boot_all (da_cons (de_comp (own := [("_law_k", 4)]) rfl sc_law.nd (di_rng1 rfl T.z_range de_int) (blkOk_by (N := ["_law_script", "_law_h", "_law_one", "_law_two", "_law_k"]) (sc := (defScope s_law)) (by decide +kernel)) (by decide)
      (fun _ _ _ _ _ => (dg_name sc_law.nd rfl (by first | exact Or.inl rfl | exact Or.inr rfl))) (fun _ _ _ _ _ => dts_nil) (fun _ _ _ _ _ => (de_callP takes_none5 (ok_law_right T) (hr.mono (by decide)) rfl T.g_law_right T.F_law_right.kp T.b_law_right (aCons_len (aCons_len (aCons_len (fun _ _ _ _ h => aNil_len h)))) (da_cons (de_name 4) (da_cons (de_name 2) (da_cons (de_name 3) da_nil)))))) da_nil)))))))
end
theorem all_mk {l : PySem.W.OpenLaw} {w : World} {K : PySem.W.Frag} {h : Heap} {mg : Str → Option Value} {fa f0 f1 f2 f3 f4 f5 f6 f7 f8 f9 f10 n7 n8 n9 x0 x1 x2 x3 x4 x5 x6 x7 x8 x9 c_NumberError : Addr} (X : K.In h) (Gm : h.Ns mainGlobals mg) (hfa : mg "law" = some (.ref fa))
    {od0 an0 : Option Addr} {sl0 : Array (Option Value)} {oc0 kV0 dc0 pm0 cd0 ct0 : Value}
    {od1 an1 : Option Addr} {sl1 : Array (Option Value)} {oc1 kV1 dc1 pm1 cd1 ct1 : Value}
    {od2 an2 : Option Addr} {sl2 : Array (Option Value)} {oc2 kV2 dc2 pm2 cd2 ct2 : Value}
    {od3 an3 : Option Addr} {sl3 : Array (Option Value)} {oc3 kV3 dc3 pm3 cd3 ct3 : Value}
    {od4 an4 : Option Addr} {sl4 : Array (Option Value)} {oc4 kV4 dc4 pm4 cd4 ct4 : Value}
    {od5 an5 : Option Addr} {sl5 : Array (Option Value)} {oc5 kV5 dc5 pm5 cd5 ct5 : Value}
    {od6 an6 : Option Addr} {sl6 : Array (Option Value)} {oc6 kV6 dc6 pm6 cd6 ct6 : Value}
    {od7 an7 : Option Addr} {sl7 : Array (Option Value)} {oc7 kV7 dc7 pm7 cd7 ct7 : Value}
    {od8 an8 : Option Addr} {sl8 : Array (Option Value)} {oc8 kV8 dc8 pm8 cd8 ct8 : Value}
    {od9 an9 : Option Addr} {sl9 : Array (Option Value)} {oc9 kV9 dc9 pm9 cd9 ct9 : Value}
    {od10 an10 : Option Addr} {sl10 : Array (Option Value)} {oc10 kV10 dc10 pm10 cd10 ct10 : Value}
    (a0 : PySem.W.nsIn K mainGlobals "_law_mix" = some (some (.ref f0)))
    (a1 : PySem.W.nsIn K mainGlobals "_law_next" = some (some (.ref f1)))
    (a3 : PySem.W.nsIn K mainGlobals "_law_bare" = some (some (.ref f3)))
    (a6 : PySem.W.nsIn K mainGlobals "_law_thrown" = some (some (.ref f6)))
    (a7 : PySem.W.nsIn K mainGlobals "_law_classes" = some (some (.ref f7)))
    (a8 : PySem.W.nsIn K mainGlobals "_law_parts" = some (some (.ref f8)))
    (a9 : PySem.W.nsIn K mainGlobals "_law_right" = some (some (.ref f9)))
    (a10 : PySem.W.nsIn K mainGlobals "law" = some (some (.ref f10)))
    (l0 : K.lookup f0 = some ⟨oc0, od0, .func (PySem.W.fnOf "_law_mix" "_law_mix" (defArgs s_law_mix) (defBody s_law_mix) (defScope s_law_mix) .none kV0 dc0 pm0 an0 cd0 ct0), sl0⟩) (c0 : PySem.W.codeIn K cd0 "_law_mix" = true) (k0 : PySem.W.keepIn K (.ref f0) = true)
    (l1 : K.lookup f1 = some ⟨oc1, od1, .func (PySem.W.fnOf "_law_next" "_law_next" (defArgs s_law_next) (defBody s_law_next) (defScope s_law_next) .none kV1 dc1 pm1 an1 cd1 ct1), sl1⟩) (c1 : PySem.W.codeIn K cd1 "_law_next" = true) (k1 : PySem.W.keepIn K (.ref f1) = true)
    (l2 : K.lookup f2 = some ⟨oc2, od2, .func (PySem.W.fnOf "__init__" "InvalidText.__init__" (defArgs s_InvalidText_init) (defBody s_InvalidText_init) (defScope s_InvalidText_init) .none kV2 dc2 pm2 an2 cd2 ct2), sl2⟩) (c2 : PySem.W.codeIn K cd2 "InvalidText.__init__" = true) (k2 : PySem.W.keepIn K (.ref f2) = true)
    (l3 : K.lookup f3 = some ⟨oc3, od3, .func (PySem.W.fnOf "_law_bare" "_law_bare" (defArgs s_law_bare) (defBody s_law_bare) (defScope s_law_bare) .none kV3 dc3 pm3 an3 cd3 ct3), sl3⟩) (c3 : PySem.W.codeIn K cd3 "_law_bare" = true) (k3 : PySem.W.keepIn K (.ref f3) = true)
    (l4 : K.lookup f4 = some ⟨oc4, od4, .func (PySem.W.fnOf "__init__" "InvalidPoint.__init__" (defArgs s_InvalidPoint_init) (defBody s_InvalidPoint_init) (defScope s_InvalidPoint_init) .none kV4 dc4 pm4 an4 cd4 ct4), sl4⟩) (c4 : PySem.W.codeIn K cd4 "InvalidPoint.__init__" = true) (k4 : PySem.W.keepIn K (.ref f4) = true)
    (l5 : K.lookup f5 = some ⟨oc5, od5, .func (PySem.W.fnOf "__init__" "InvalidTicket.__init__" (defArgs s_InvalidTicket_init) (defBody s_InvalidTicket_init) (defScope s_InvalidTicket_init) .none kV5 dc5 pm5 an5 cd5 ct5), sl5⟩) (c5 : PySem.W.codeIn K cd5 "InvalidTicket.__init__" = true) (k5 : PySem.W.keepIn K (.ref f5) = true)
    (l6 : K.lookup f6 = some ⟨oc6, od6, .func (PySem.W.fnOf "_law_thrown" "_law_thrown" (defArgs s_law_thrown) (defBody s_law_thrown) (defScope s_law_thrown) .none kV6 dc6 pm6 an6 cd6 ct6), sl6⟩) (c6 : PySem.W.codeIn K cd6 "_law_thrown" = true) (k6 : PySem.W.keepIn K (.ref f6) = true)
    (l7 : K.lookup f7 = some ⟨oc7, od7, .func (PySem.W.fnOf "_law_classes" "_law_classes" (defArgs s_law_classes) (defBody s_law_classes) (defScope s_law_classes) .none kV7 dc7 pm7 an7 cd7 ct7), sl7⟩) (c7 : PySem.W.codeIn K cd7 "_law_classes" = true) (k7 : PySem.W.keepIn K (.ref f7) = true)
    (l8 : K.lookup f8 = some ⟨oc8, od8, .func (PySem.W.fnOf "_law_parts" "_law_parts" (defArgs s_law_parts) (defBody s_law_parts) (defScope s_law_parts) .none kV8 dc8 pm8 an8 cd8 ct8), sl8⟩) (c8 : PySem.W.codeIn K cd8 "_law_parts" = true) (k8 : PySem.W.keepIn K (.ref f8) = true)
    (l9 : K.lookup f9 = some ⟨oc9, od9, .func (PySem.W.fnOf "_law_right" "_law_right" (defArgs s_law_right) (defBody s_law_right) (defScope s_law_right) .none kV9 dc9 pm9 an9 cd9 ct9), sl9⟩) (c9 : PySem.W.codeIn K cd9 "_law_right" = true) (k9 : PySem.W.keepIn K (.ref f9) = true)
    (l10 : K.lookup f10 = some ⟨oc10, od10, .func (PySem.W.fnOf "law" "law" (defArgs s_law) (defBody s_law) (defScope s_law) .none kV10 dc10 pm10 an10 cd10 ct10), sl10⟩) (c10 : PySem.W.codeIn K cd10 "law" = true) (k10 : PySem.W.keepIn K (.ref f10) = true)
    (xg0 : PySem.W.nsIn K mainGlobals "InvalidHall" = some (some (.ref x0))) (xq0 : PySem.W.excIn K x0 [.type "ValueError", .type "Exception", .type "BaseException", .type "object"] "ValueError.__new__" = true) (xk0 : PySem.W.keepIn K (.ref x0) = true) (xb0 : PySem.W.subIn K (.ref x0) (.type "BaseException") = some true) (xt0 : PySem.W.typeIn K (.ref x0) = some (.type "type")) (xi0 : PySem.W.isClsIn K x0 = true)
    (xg1 : PySem.W.nsIn K mainGlobals "InvalidRow" = some (some (.ref x1))) (xq1 : PySem.W.excIn K x1 [.type "ValueError", .type "Exception", .type "BaseException", .type "object"] "ValueError.__new__" = true) (xk1 : PySem.W.keepIn K (.ref x1) = true) (xb1 : PySem.W.subIn K (.ref x1) (.type "BaseException") = some true) (xt1 : PySem.W.typeIn K (.ref x1) = some (.type "type")) (xi1 : PySem.W.isClsIn K x1 = true)
    (xg2 : PySem.W.nsIn K mainGlobals "InvalidSeat" = some (some (.ref x2))) (xq2 : PySem.W.excIn K x2 [.type "ValueError", .type "Exception", .type "BaseException", .type "object"] "ValueError.__new__" = true) (xk2 : PySem.W.keepIn K (.ref x2) = true) (xb2 : PySem.W.subIn K (.ref x2) (.type "BaseException") = some true) (xt2 : PySem.W.typeIn K (.ref x2) = some (.type "type")) (xi2 : PySem.W.isClsIn K x2 = true)
    (xg3 : PySem.W.nsIn K mainGlobals "InvalidNumber" = some (some (.ref x3))) (xq3 : PySem.W.excIn K x3 [.type "ValueError", .type "Exception", .type "BaseException", .type "object"] "ValueError.__new__" = true) (xk3 : PySem.W.keepIn K (.ref x3) = true) (xb3 : PySem.W.subIn K (.ref x3) (.type "BaseException") = some true) (xt3 : PySem.W.typeIn K (.ref x3) = some (.type "type")) (xi3 : PySem.W.isClsIn K x3 = true)
    (xg4 : PySem.W.nsIn K mainGlobals "InvalidLimit" = some (some (.ref x4))) (xq4 : PySem.W.excIn K x4 [.type "ValueError", .type "Exception", .type "BaseException", .type "object"] "ValueError.__new__" = true) (xk4 : PySem.W.keepIn K (.ref x4) = true) (xb4 : PySem.W.subIn K (.ref x4) (.type "BaseException") = some true) (xt4 : PySem.W.typeIn K (.ref x4) = some (.type "type")) (xi4 : PySem.W.isClsIn K x4 = true)
    (xg5 : PySem.W.nsIn K mainGlobals "NoSeat" = some (some (.ref x5))) (xq5 : PySem.W.excIn K x5 [.type "ValueError", .type "Exception", .type "BaseException", .type "object"] "ValueError.__new__" = true) (xk5 : PySem.W.keepIn K (.ref x5) = true) (xb5 : PySem.W.subIn K (.ref x5) (.type "BaseException") = some true) (xt5 : PySem.W.typeIn K (.ref x5) = some (.type "type")) (xi5 : PySem.W.isClsIn K x5 = true)
    (xg6 : PySem.W.nsIn K mainGlobals "NotSold" = some (some (.ref x6))) (xq6 : PySem.W.excIn K x6 [.type "ValueError", .type "Exception", .type "BaseException", .type "object"] "ValueError.__new__" = true) (xk6 : PySem.W.keepIn K (.ref x6) = true) (xb6 : PySem.W.subIn K (.ref x6) (.type "BaseException") = some true) (xt6 : PySem.W.typeIn K (.ref x6) = some (.type "type")) (xi6 : PySem.W.isClsIn K x6 = true)
    (xg7 : PySem.W.nsIn K mainGlobals "InvalidPoint" = some (some (.ref x7))) (xk7 : PySem.W.keepIn K (.ref x7) = true) (xb7 : PySem.W.subIn K (.ref x7) (.type "BaseException") = some true) (xt7 : PySem.W.typeIn K (.ref x7) = some (.type "type")) (xi7 : PySem.W.isClsIn K x7 = true)
    {nm7 q7 : Str} {N7 : Addr} {bs7 : List Value} {sn7 : List Str} {sub7 : List Value} {ab7 : Bool} {col7 : Option Bool} {dd7 : Option Addr} {u07 u17 u27 u37 u57 : Option Value}
    (xL7 : K.lookup x7 = some (excClassObj nm7 q7 x7 N7 bs7 [.ref n7, .type "ValueError", .type "Exception", .type "BaseException", .type "object"] true sn7 sub7 ab7 col7 dd7 u07 u17 u27 u37 u57 "ValueError.__new__")) (xs7 : PySem.W.findIn K (.ref x7) "__setattr__" = some (some (.builtin "object.__setattr__")))
    (xI7 : PySem.W.findIn K (.ref x7) "__init__" = some (some (.ref f4))) (xT7 : PySem.W.typeIn K (.ref f4) = some (.type "function"))
    (xg8 : PySem.W.nsIn K mainGlobals "InvalidTicket" = some (some (.ref x8))) (xk8 : PySem.W.keepIn K (.ref x8) = true) (xb8 : PySem.W.subIn K (.ref x8) (.type "BaseException") = some true) (xt8 : PySem.W.typeIn K (.ref x8) = some (.type "type")) (xi8 : PySem.W.isClsIn K x8 = true)
    {nm8 q8 : Str} {N8 : Addr} {bs8 : List Value} {sn8 : List Str} {sub8 : List Value} {ab8 : Bool} {col8 : Option Bool} {dd8 : Option Addr} {u08 u18 u28 u38 u58 : Option Value}
    (xL8 : K.lookup x8 = some (excClassObj nm8 q8 x8 N8 bs8 [.ref n8, .type "ValueError", .type "Exception", .type "BaseException", .type "object"] true sn8 sub8 ab8 col8 dd8 u08 u18 u28 u38 u58 "ValueError.__new__")) (xs8 : PySem.W.findIn K (.ref x8) "__setattr__" = some (some (.builtin "object.__setattr__")))
    (xI8 : PySem.W.findIn K (.ref x8) "__init__" = some (some (.ref f5))) (xT8 : PySem.W.typeIn K (.ref f5) = some (.type "function"))
    (xg9 : PySem.W.nsIn K mainGlobals "InvalidText" = some (some (.ref x9))) (xk9 : PySem.W.keepIn K (.ref x9) = true) (xb9 : PySem.W.subIn K (.ref x9) (.type "BaseException") = some true) (xt9 : PySem.W.typeIn K (.ref x9) = some (.type "type")) (xi9 : PySem.W.isClsIn K x9 = true)
    {nm9 q9 : Str} {N9 : Addr} {bs9 : List Value} {sn9 : List Str} {sub9 : List Value} {ab9 : Bool} {col9 : Option Bool} {dd9 : Option Addr} {u09 u19 u29 u39 u59 : Option Value}
    (xL9 : K.lookup x9 = some (excClassObj nm9 q9 x9 N9 bs9 [.ref n9, .type "ValueError", .type "Exception", .type "BaseException", .type "object"] true sn9 sub9 ab9 col9 dd9 u09 u19 u29 u39 u59 "ValueError.__new__")) (xs9 : PySem.W.findIn K (.ref x9) "__setattr__" = some (some (.builtin "object.__setattr__")))
    (xI9 : PySem.W.findIn K (.ref x9) "__init__" = some (some (.ref f2))) (xT9 : PySem.W.typeIn K (.ref f2) = some (.type "function"))
    (xm0_0 : PySem.W.subIn K (.ref x0) (.ref x0) = some true)
    (xm1_0 : PySem.W.subIn K (.ref x1) (.ref x0) = some false)
    (xm2_0 : PySem.W.subIn K (.ref x2) (.ref x0) = some false)
    (xm3_0 : PySem.W.subIn K (.ref x3) (.ref x0) = some false)
    (xm4_0 : PySem.W.subIn K (.ref x4) (.ref x0) = some false)
    (xm5_0 : PySem.W.subIn K (.ref x5) (.ref x0) = some false)
    (xm6_0 : PySem.W.subIn K (.ref x6) (.ref x0) = some false)
    (xm7_0 : PySem.W.subIn K (.ref x7) (.ref x0) = some false)
    (xm8_0 : PySem.W.subIn K (.ref x8) (.ref x0) = some false)
    (xm9_0 : PySem.W.subIn K (.ref x9) (.ref x0) = some false)
    (xm0_1 : PySem.W.subIn K (.ref x0) (.ref x1) = some false)
    (xm1_1 : PySem.W.subIn K (.ref x1) (.ref x1) = some true)
    (xm2_1 : PySem.W.subIn K (.ref x2) (.ref x1) = some false)
    (xm3_1 : PySem.W.subIn K (.ref x3) (.ref x1) = some false)
    (xm4_1 : PySem.W.subIn K (.ref x4) (.ref x1) = some false)
    (xm5_1 : PySem.W.subIn K (.ref x5) (.ref x1) = some false)
    (xm6_1 : PySem.W.subIn K (.ref x6) (.ref x1) = some false)
    (xm7_1 : PySem.W.subIn K (.ref x7) (.ref x1) = some false)
    (xm8_1 : PySem.W.subIn K (.ref x8) (.ref x1) = some false)
    (xm9_1 : PySem.W.subIn K (.ref x9) (.ref x1) = some false)
    (xm0_2 : PySem.W.subIn K (.ref x0) (.ref x2) = some false)
    (xm1_2 : PySem.W.subIn K (.ref x1) (.ref x2) = some false)
    (xm2_2 : PySem.W.subIn K (.ref x2) (.ref x2) = some true)
    (xm3_2 : PySem.W.subIn K (.ref x3) (.ref x2) = some false)
    (xm4_2 : PySem.W.subIn K (.ref x4) (.ref x2) = some false)
    (xm5_2 : PySem.W.subIn K (.ref x5) (.ref x2) = some false)
    (xm6_2 : PySem.W.subIn K (.ref x6) (.ref x2) = some false)
    (xm7_2 : PySem.W.subIn K (.ref x7) (.ref x2) = some false)
    (xm8_2 : PySem.W.subIn K (.ref x8) (.ref x2) = some false)
    (xm9_2 : PySem.W.subIn K (.ref x9) (.ref x2) = some false)
    (xm0_3 : PySem.W.subIn K (.ref x0) (.ref x3) = some false)
    (xm1_3 : PySem.W.subIn K (.ref x1) (.ref x3) = some false)
    (xm2_3 : PySem.W.subIn K (.ref x2) (.ref x3) = some false)
    (xm3_3 : PySem.W.subIn K (.ref x3) (.ref x3) = some true)
    (xm4_3 : PySem.W.subIn K (.ref x4) (.ref x3) = some false)
    (xm5_3 : PySem.W.subIn K (.ref x5) (.ref x3) = some false)
    (xm6_3 : PySem.W.subIn K (.ref x6) (.ref x3) = some false)
    (xm7_3 : PySem.W.subIn K (.ref x7) (.ref x3) = some false)
    (xm8_3 : PySem.W.subIn K (.ref x8) (.ref x3) = some false)
    (xm9_3 : PySem.W.subIn K (.ref x9) (.ref x3) = some false)
    (xm0_4 : PySem.W.subIn K (.ref x0) (.ref x4) = some false)
    (xm1_4 : PySem.W.subIn K (.ref x1) (.ref x4) = some false)
    (xm2_4 : PySem.W.subIn K (.ref x2) (.ref x4) = some false)
    (xm3_4 : PySem.W.subIn K (.ref x3) (.ref x4) = some false)
    (xm4_4 : PySem.W.subIn K (.ref x4) (.ref x4) = some true)
    (xm5_4 : PySem.W.subIn K (.ref x5) (.ref x4) = some false)
    (xm6_4 : PySem.W.subIn K (.ref x6) (.ref x4) = some false)
    (xm7_4 : PySem.W.subIn K (.ref x7) (.ref x4) = some false)
    (xm8_4 : PySem.W.subIn K (.ref x8) (.ref x4) = some false)
    (xm9_4 : PySem.W.subIn K (.ref x9) (.ref x4) = some false)
    (xm0_5 : PySem.W.subIn K (.ref x0) (.ref x5) = some false)
    (xm1_5 : PySem.W.subIn K (.ref x1) (.ref x5) = some false)
    (xm2_5 : PySem.W.subIn K (.ref x2) (.ref x5) = some false)
    (xm3_5 : PySem.W.subIn K (.ref x3) (.ref x5) = some false)
    (xm4_5 : PySem.W.subIn K (.ref x4) (.ref x5) = some false)
    (xm5_5 : PySem.W.subIn K (.ref x5) (.ref x5) = some true)
    (xm6_5 : PySem.W.subIn K (.ref x6) (.ref x5) = some false)
    (xm7_5 : PySem.W.subIn K (.ref x7) (.ref x5) = some false)
    (xm8_5 : PySem.W.subIn K (.ref x8) (.ref x5) = some false)
    (xm9_5 : PySem.W.subIn K (.ref x9) (.ref x5) = some false)
    (xm0_6 : PySem.W.subIn K (.ref x0) (.ref x6) = some false)
    (xm1_6 : PySem.W.subIn K (.ref x1) (.ref x6) = some false)
    (xm2_6 : PySem.W.subIn K (.ref x2) (.ref x6) = some false)
    (xm3_6 : PySem.W.subIn K (.ref x3) (.ref x6) = some false)
    (xm4_6 : PySem.W.subIn K (.ref x4) (.ref x6) = some false)
    (xm5_6 : PySem.W.subIn K (.ref x5) (.ref x6) = some false)
    (xm6_6 : PySem.W.subIn K (.ref x6) (.ref x6) = some true)
    (xm7_6 : PySem.W.subIn K (.ref x7) (.ref x6) = some false)
    (xm8_6 : PySem.W.subIn K (.ref x8) (.ref x6) = some false)
    (xm9_6 : PySem.W.subIn K (.ref x9) (.ref x6) = some false)
    (xm0_7 : PySem.W.subIn K (.ref x0) (.ref x7) = some false)
    (xm1_7 : PySem.W.subIn K (.ref x1) (.ref x7) = some false)
    (xm2_7 : PySem.W.subIn K (.ref x2) (.ref x7) = some false)
    (xm3_7 : PySem.W.subIn K (.ref x3) (.ref x7) = some false)
    (xm4_7 : PySem.W.subIn K (.ref x4) (.ref x7) = some false)
    (xm5_7 : PySem.W.subIn K (.ref x5) (.ref x7) = some false)
    (xm6_7 : PySem.W.subIn K (.ref x6) (.ref x7) = some false)
    (xm7_7 : PySem.W.subIn K (.ref x7) (.ref x7) = some true)
    (xm8_7 : PySem.W.subIn K (.ref x8) (.ref x7) = some false)
    (xm9_7 : PySem.W.subIn K (.ref x9) (.ref x7) = some false)
    (xm0_8 : PySem.W.subIn K (.ref x0) (.ref x8) = some false)
    (xm1_8 : PySem.W.subIn K (.ref x1) (.ref x8) = some false)
    (xm2_8 : PySem.W.subIn K (.ref x2) (.ref x8) = some false)
    (xm3_8 : PySem.W.subIn K (.ref x3) (.ref x8) = some false)
    (xm4_8 : PySem.W.subIn K (.ref x4) (.ref x8) = some false)
    (xm5_8 : PySem.W.subIn K (.ref x5) (.ref x8) = some false)
    (xm6_8 : PySem.W.subIn K (.ref x6) (.ref x8) = some false)
    (xm7_8 : PySem.W.subIn K (.ref x7) (.ref x8) = some false)
    (xm8_8 : PySem.W.subIn K (.ref x8) (.ref x8) = some true)
    (xm9_8 : PySem.W.subIn K (.ref x9) (.ref x8) = some false)
    (xm0_9 : PySem.W.subIn K (.ref x0) (.ref x9) = some false)
    (xm1_9 : PySem.W.subIn K (.ref x1) (.ref x9) = some false)
    (xm2_9 : PySem.W.subIn K (.ref x2) (.ref x9) = some false)
    (xm3_9 : PySem.W.subIn K (.ref x3) (.ref x9) = some false)
    (xm4_9 : PySem.W.subIn K (.ref x4) (.ref x9) = some false)
    (xm5_9 : PySem.W.subIn K (.ref x5) (.ref x9) = some false)
    (xm6_9 : PySem.W.subIn K (.ref x6) (.ref x9) = some false)
    (xm7_9 : PySem.W.subIn K (.ref x7) (.ref x9) = some false)
    (xm8_9 : PySem.W.subIn K (.ref x8) (.ref x9) = some false)
    (xm9_9 : PySem.W.subIn K (.ref x9) (.ref x9) = some true)
    (eg0 : PySem.W.findIn K (.ref x0) "__getattribute__" = some (some (.builtin "BaseException.__getattribute__"))) (ek0 : PySem.W.findIn K (.ref x0) "__getattr__" = some none) (ed0 : PySem.W.hasDictIn K x0 = true)
    (eg1 : PySem.W.findIn K (.ref x1) "__getattribute__" = some (some (.builtin "BaseException.__getattribute__"))) (ek1 : PySem.W.findIn K (.ref x1) "__getattr__" = some none) (ed1 : PySem.W.hasDictIn K x1 = true)
    (eg2 : PySem.W.findIn K (.ref x2) "__getattribute__" = some (some (.builtin "BaseException.__getattribute__"))) (ek2 : PySem.W.findIn K (.ref x2) "__getattr__" = some none) (ed2 : PySem.W.hasDictIn K x2 = true)
    (eg3 : PySem.W.findIn K (.ref x3) "__getattribute__" = some (some (.builtin "BaseException.__getattribute__"))) (ek3 : PySem.W.findIn K (.ref x3) "__getattr__" = some none) (ed3 : PySem.W.hasDictIn K x3 = true)
    (eg4 : PySem.W.findIn K (.ref x4) "__getattribute__" = some (some (.builtin "BaseException.__getattribute__"))) (ek4 : PySem.W.findIn K (.ref x4) "__getattr__" = some none) (ed4 : PySem.W.hasDictIn K x4 = true)
    (eg5 : PySem.W.findIn K (.ref x5) "__getattribute__" = some (some (.builtin "BaseException.__getattribute__"))) (ek5 : PySem.W.findIn K (.ref x5) "__getattr__" = some none) (ed5 : PySem.W.hasDictIn K x5 = true)
    (eg6 : PySem.W.findIn K (.ref x6) "__getattribute__" = some (some (.builtin "BaseException.__getattribute__"))) (ek6 : PySem.W.findIn K (.ref x6) "__getattr__" = some none) (ed6 : PySem.W.hasDictIn K x6 = true)
    (eg7 : PySem.W.findIn K (.ref x7) "__getattribute__" = some (some (.builtin "BaseException.__getattribute__"))) (ek7 : PySem.W.findIn K (.ref x7) "__getattr__" = some none) (ed7 : PySem.W.hasDictIn K x7 = true)
    (eg8 : PySem.W.findIn K (.ref x8) "__getattribute__" = some (some (.builtin "BaseException.__getattribute__"))) (ek8 : PySem.W.findIn K (.ref x8) "__getattr__" = some none) (ed8 : PySem.W.hasDictIn K x8 = true)
    (eg9 : PySem.W.findIn K (.ref x9) "__getattribute__" = some (some (.builtin "BaseException.__getattribute__"))) (ek9 : PySem.W.findIn K (.ref x9) "__getattr__" = some none) (ed9 : PySem.W.hasDictIn K x9 = true)
    (en : PySem.W.specialIn K (.builtin "object.__class__") "__get__" = some (some (.builtin "getset_descriptor.__get__"))) (et : PySem.W.takesIn K (.builtin "object.__class__") = some true)
    (ea0 : PySem.W.findIn K (.ref x0) "__class__" = some (some (.builtin "object.__class__"))) (em0 : PySem.W.mroIn K x0 (.type "object") = some true)
    (ea1 : PySem.W.findIn K (.ref x1) "__class__" = some (some (.builtin "object.__class__"))) (em1 : PySem.W.mroIn K x1 (.type "object") = some true)
    (ea2 : PySem.W.findIn K (.ref x2) "__class__" = some (some (.builtin "object.__class__"))) (em2 : PySem.W.mroIn K x2 (.type "object") = some true)
    (ea3 : PySem.W.findIn K (.ref x3) "__class__" = some (some (.builtin "object.__class__"))) (em3 : PySem.W.mroIn K x3 (.type "object") = some true)
    (ea4 : PySem.W.findIn K (.ref x4) "__class__" = some (some (.builtin "object.__class__"))) (em4 : PySem.W.mroIn K x4 (.type "object") = some true)
    (ea5 : PySem.W.findIn K (.ref x5) "__class__" = some (some (.builtin "object.__class__"))) (em5 : PySem.W.mroIn K x5 (.type "object") = some true)
    (ea6 : PySem.W.findIn K (.ref x6) "__class__" = some (some (.builtin "object.__class__"))) (em6 : PySem.W.mroIn K x6 (.type "object") = some true)
    (ea7 : PySem.W.findIn K (.ref x7) "__class__" = some (some (.builtin "object.__class__"))) (em7 : PySem.W.mroIn K x7 (.type "object") = some true)
    (ea8 : PySem.W.findIn K (.ref x8) "__class__" = some (some (.builtin "object.__class__"))) (em8 : PySem.W.mroIn K x8 (.type "object") = some true)
    (ea9 : PySem.W.findIn K (.ref x9) "__class__" = some (some (.builtin "object.__class__"))) (em9 : PySem.W.mroIn K x9 (.type "object") = some true)
    (cg_NumberError : PySem.W.nsIn K mainGlobals "NumberError" = some (some (.ref c_NumberError))) (ci_NumberError : PySem.W.isClsIn K c_NumberError = true) (ct_NumberError : PySem.W.typeIn K (.ref c_NumberError) = some (.type "type"))
    (cs0_NumberError : PySem.W.subIn K (.ref x0) (.ref c_NumberError) = some true)
    (cs1_NumberError : PySem.W.subIn K (.ref x1) (.ref c_NumberError) = some true)
    (cs2_NumberError : PySem.W.subIn K (.ref x2) (.ref c_NumberError) = some true)
    (cs3_NumberError : PySem.W.subIn K (.ref x3) (.ref c_NumberError) = some true)
    (cs4_NumberError : PySem.W.subIn K (.ref x4) (.ref c_NumberError) = some true)
    (cs5_NumberError : PySem.W.subIn K (.ref x5) (.ref c_NumberError) = some true)
    (cs6_NumberError : PySem.W.subIn K (.ref x6) (.ref c_NumberError) = some true)
    (cs7_NumberError : PySem.W.subIn K (.ref x7) (.ref c_NumberError) = some true)
    (cs8_NumberError : PySem.W.subIn K (.ref x8) (.ref c_NumberError) = some true)
    (cs9_NumberError : PySem.W.subIn K (.ref x9) (.ref c_NumberError) = some true)
    (cb_NumberError : PySem.W.subIn K (.ref c_NumberError) (.type "BaseException") = some true)
    (kv0 : PySem.W.subIn K (.ref x0) (.type "ValueError") = some true)
    (kv1 : PySem.W.subIn K (.ref x1) (.type "ValueError") = some true)
    (kv2 : PySem.W.subIn K (.ref x2) (.type "ValueError") = some true)
    (kv3 : PySem.W.subIn K (.ref x3) (.type "ValueError") = some true)
    (kv4 : PySem.W.subIn K (.ref x4) (.type "ValueError") = some true)
    (kv5 : PySem.W.subIn K (.ref x5) (.type "ValueError") = some true)
    (kv6 : PySem.W.subIn K (.ref x6) (.type "ValueError") = some true)
    (kv7 : PySem.W.subIn K (.ref x7) (.type "ValueError") = some true)
    (kv8 : PySem.W.subIn K (.ref x8) (.type "ValueError") = some true)
    (kv9 : PySem.W.subIn K (.ref x9) (.type "ValueError") = some true)
    (no7_point : PySem.W.findIn K (.ref x7) "point" = some none)
    (no9_line : PySem.W.findIn K (.ref x9) "line" = some none)
    (no9_word : PySem.W.findIn K (.ref x9) "word" = some none)
    (no8_index : PySem.W.findIn K (.ref x8) "index" = some none)
    (z_ValueError : PySem.W.nsIn K mainGlobals "ValueError" = some none)
    (z_all : PySem.W.nsIn K mainGlobals "all" = some none)
    (z_int : PySem.W.nsIn K mainGlobals "int" = some none)
    (z_isinstance : PySem.W.nsIn K mainGlobals "isinstance" = some none)
    (z_len : PySem.W.nsIn K mainGlobals "len" = some none)
    (z_list : PySem.W.nsIn K mainGlobals "list" = some none)
    (z_max : PySem.W.nsIn K mainGlobals "max" = some none)
    (z_range : PySem.W.nsIn K mainGlobals "range" = some none)
    (hK : K = K) : ∃ fd : FuncData, (∀ (s : Shared) (v : Value), BindsTo s fd ⟨[v], []⟩ [("_law_script", v)]) ∧ ∀ base : Heap, K.In base → base.Ns mainGlobals mg → ∃ G : Gx, G.K = K ∧ FnOk l.prog w K mg base (L2.CX l.prog w) 5 fa fd ["_law_script"] (spE G 1 m_law) := by
  have e := hfa.symm.trans (PySem.W.mg_of X Gm a10)
  cases e
  have F0 := fun_mk (st := s_law_mix) l0 c0 k0
  have b0 := F0.binds (ps := ["_law_script", "_law_seed"]) fun _ _ _ _ _ _ us hl => match us, hl with | [_, _], _ => rfl
  have F1 := fun_mk (st := s_law_next) l1 c1 k1
  have b1 := F1.binds (ps := ["_law_h", "_law_bound"]) fun _ _ _ _ _ _ us hl => match us, hl with | [_, _], _ => rfl
  have F2 := fun_mk (st := s_InvalidText_init) l2 c2 k2
  have b2 := F2.binds (ps := ["self", "line", "word"]) fun _ _ _ _ _ _ us hl => match us, hl with | [_, _, _], _ => rfl
  have F3 := fun_mk (st := s_law_bare) l3 c3 k3
  have b3 := F3.binds (ps := ["_law_k"]) fun _ _ _ _ _ _ us hl => match us, hl with | [_], _ => rfl
  have F4 := fun_mk (st := s_InvalidPoint_init) l4 c4 k4
  have b4 := F4.binds (ps := ["self", "point"]) fun _ _ _ _ _ _ us hl => match us, hl with | [_, _], _ => rfl
  have F5 := fun_mk (st := s_InvalidTicket_init) l5 c5 k5
  have b5 := F5.binds (ps := ["self", "index"]) fun _ _ _ _ _ _ us hl => match us, hl with | [_, _], _ => rfl
  have F6 := fun_mk (st := s_law_thrown) l6 c6 k6
  have b6 := F6.binds (ps := ["_law_k", "_law_one", "_law_two"]) fun _ _ _ _ _ _ us hl => match us, hl with | [_, _, _], _ => rfl
  have F7 := fun_mk (st := s_law_classes) l7 c7 k7
  have b7 := F7.binds (ps := ["_law_e"]) fun _ _ _ _ _ _ us hl => match us, hl with | [_], _ => rfl
  have F8 := fun_mk (st := s_law_parts) l8 c8 k8
  have b8 := F8.binds (ps := ["_law_k", "_law_e"]) fun _ _ _ _ _ _ us hl => match us, hl with | [_, _], _ => rfl
  have F9 := fun_mk (st := s_law_right) l9 c9 k9
  have b9 := F9.binds (ps := ["_law_k", "_law_one", "_law_two"]) fun _ _ _ _ _ _ us hl => match us, hl with | [_, _, _], _ => rfl
  have F10 := fun_mk (st := s_law) l10 c10 k10
  have b10 := F10.binds (ps := ["_law_script"]) fun _ _ _ _ _ _ us hl => match us, hl with | [_], _ => rfl
  refine ⟨PySem.W.fnOf "law" "law" (defArgs s_law) (defBody s_law) (defScope s_law) .none kV10 dc10 pm10 an10 cd10 ct10, fun s v => .of_eq rfl, fun base _ _ => ⟨⟨K, 0, fun m => ([x0, x1, x2, x3, x4, x5, x6, x7, x8, x9] : List Addr).getD m 0, fun m => ([[], [], [], [], [], [], [], ["point"], ["index"], ["word", "line"]] : List (List Str)).getD m [], 0⟩, rfl, ?_⟩⟩
  exact ok_law (A := ⟨f0, _, f1, _, f2, _, f3, _, f4, _, f5, _, f6, _, f7, _, f8, _, f9, _, fa, _, c_NumberError⟩) (G := ⟨K, 0, fun m => ([x0, x1, x2, x3, x4, x5, x6, x7, x8, x9] : List Addr).getD m 0, fun m => ([[], [], [], [], [], [], [], ["point"], ["index"], ["word", "line"]] : List (List Str)).getD m [], 0⟩) ⟨F0, b0, PySem.W.mg_of X Gm a0, F1, b1, PySem.W.mg_of X Gm a1, F2, b2, F3, b3, PySem.W.mg_of X Gm a3, F4, b4, F5, b5, F6, b6, PySem.W.mg_of X Gm a6, F7, b7, PySem.W.mg_of X Gm a7, F8, b8, PySem.W.mg_of X Gm a8, F9, b9, PySem.W.mg_of X Gm a9, F10, b10, PySem.W.mg_of X Gm a10, PySem.W.mg_none_of X Gm z_ValueError, PySem.W.mg_none_of X Gm z_all, PySem.W.mg_none_of X Gm z_int, PySem.W.mg_none_of X Gm z_isinstance, PySem.W.mg_none_of X Gm z_len, PySem.W.mg_none_of X Gm z_list, PySem.W.mg_none_of X Gm z_max, PySem.W.mg_none_of X Gm z_range, ⟨xq0, PySem.W.mg_of X Gm xg0, xk0, xb0, xt0⟩, mt_of (by intro m hm; match m, hm with | 0, _ => exact exm_own xb0 xi0 xt0 xm0_0 | 1, _ => exact exm_own xb0 xi0 xt0 xm1_0 | 2, _ => exact exm_own xb0 xi0 xt0 xm2_0 | 3, _ => exact exm_own xb0 xi0 xt0 xm3_0 | 4, _ => exact exm_own xb0 xi0 xt0 xm4_0 | 5, _ => exact exm_own xb0 xi0 xt0 xm5_0 | 6, _ => exact exm_own xb0 xi0 xt0 xm6_0 | 7, _ => exact exm_own xb0 xi0 xt0 xm7_0 | 8, _ => exact exm_own xb0 xi0 xt0 xm8_0 | 9, _ => exact exm_own xb0 xi0 xt0 xm9_0 | (k + 10), hm => exact absurd hm (by omega)), ⟨xq1, PySem.W.mg_of X Gm xg1, xk1, xb1, xt1⟩, mt_of (by intro m hm; match m, hm with | 0, _ => exact exm_own xb1 xi1 xt1 xm0_1 | 1, _ => exact exm_own xb1 xi1 xt1 xm1_1 | 2, _ => exact exm_own xb1 xi1 xt1 xm2_1 | 3, _ => exact exm_own xb1 xi1 xt1 xm3_1 | 4, _ => exact exm_own xb1 xi1 xt1 xm4_1 | 5, _ => exact exm_own xb1 xi1 xt1 xm5_1 | 6, _ => exact exm_own xb1 xi1 xt1 xm6_1 | 7, _ => exact exm_own xb1 xi1 xt1 xm7_1 | 8, _ => exact exm_own xb1 xi1 xt1 xm8_1 | 9, _ => exact exm_own xb1 xi1 xt1 xm9_1 | (k + 10), hm => exact absurd hm (by omega)), ⟨xq2, PySem.W.mg_of X Gm xg2, xk2, xb2, xt2⟩, mt_of (by intro m hm; match m, hm with | 0, _ => exact exm_own xb2 xi2 xt2 xm0_2 | 1, _ => exact exm_own xb2 xi2 xt2 xm1_2 | 2, _ => exact exm_own xb2 xi2 xt2 xm2_2 | 3, _ => exact exm_own xb2 xi2 xt2 xm3_2 | 4, _ => exact exm_own xb2 xi2 xt2 xm4_2 | 5, _ => exact exm_own xb2 xi2 xt2 xm5_2 | 6, _ => exact exm_own xb2 xi2 xt2 xm6_2 | 7, _ => exact exm_own xb2 xi2 xt2 xm7_2 | 8, _ => exact exm_own xb2 xi2 xt2 xm8_2 | 9, _ => exact exm_own xb2 xi2 xt2 xm9_2 | (k + 10), hm => exact absurd hm (by omega)), ⟨xq3, PySem.W.mg_of X Gm xg3, xk3, xb3, xt3⟩, mt_of (by intro m hm; match m, hm with | 0, _ => exact exm_own xb3 xi3 xt3 xm0_3 | 1, _ => exact exm_own xb3 xi3 xt3 xm1_3 | 2, _ => exact exm_own xb3 xi3 xt3 xm2_3 | 3, _ => exact exm_own xb3 xi3 xt3 xm3_3 | 4, _ => exact exm_own xb3 xi3 xt3 xm4_3 | 5, _ => exact exm_own xb3 xi3 xt3 xm5_3 | 6, _ => exact exm_own xb3 xi3 xt3 xm6_3 | 7, _ => exact exm_own xb3 xi3 xt3 xm7_3 | 8, _ => exact exm_own xb3 xi3 xt3 xm8_3 | 9, _ => exact exm_own xb3 xi3 xt3 xm9_3 | (k + 10), hm => exact absurd hm (by omega)), ⟨xq4, PySem.W.mg_of X Gm xg4, xk4, xb4, xt4⟩, mt_of (by intro m hm; match m, hm with | 0, _ => exact exm_own xb4 xi4 xt4 xm0_4 | 1, _ => exact exm_own xb4 xi4 xt4 xm1_4 | 2, _ => exact exm_own xb4 xi4 xt4 xm2_4 | 3, _ => exact exm_own xb4 xi4 xt4 xm3_4 | 4, _ => exact exm_own xb4 xi4 xt4 xm4_4 | 5, _ => exact exm_own xb4 xi4 xt4 xm5_4 | 6, _ => exact exm_own xb4 xi4 xt4 xm6_4 | 7, _ => exact exm_own xb4 xi4 xt4 xm7_4 | 8, _ => exact exm_own xb4 xi4 xt4 xm8_4 | 9, _ => exact exm_own xb4 xi4 xt4 xm9_4 | (k + 10), hm => exact absurd hm (by omega)), ⟨xq5, PySem.W.mg_of X Gm xg5, xk5, xb5, xt5⟩, mt_of (by intro m hm; match m, hm with | 0, _ => exact exm_own xb5 xi5 xt5 xm0_5 | 1, _ => exact exm_own xb5 xi5 xt5 xm1_5 | 2, _ => exact exm_own xb5 xi5 xt5 xm2_5 | 3, _ => exact exm_own xb5 xi5 xt5 xm3_5 | 4, _ => exact exm_own xb5 xi5 xt5 xm4_5 | 5, _ => exact exm_own xb5 xi5 xt5 xm5_5 | 6, _ => exact exm_own xb5 xi5 xt5 xm6_5 | 7, _ => exact exm_own xb5 xi5 xt5 xm7_5 | 8, _ => exact exm_own xb5 xi5 xt5 xm8_5 | 9, _ => exact exm_own xb5 xi5 xt5 xm9_5 | (k + 10), hm => exact absurd hm (by omega)), ⟨xq6, PySem.W.mg_of X Gm xg6, xk6, xb6, xt6⟩, mt_of (by intro m hm; match m, hm with | 0, _ => exact exm_own xb6 xi6 xt6 xm0_6 | 1, _ => exact exm_own xb6 xi6 xt6 xm1_6 | 2, _ => exact exm_own xb6 xi6 xt6 xm2_6 | 3, _ => exact exm_own xb6 xi6 xt6 xm3_6 | 4, _ => exact exm_own xb6 xi6 xt6 xm4_6 | 5, _ => exact exm_own xb6 xi6 xt6 xm5_6 | 6, _ => exact exm_own xb6 xi6 xt6 xm6_6 | 7, _ => exact exm_own xb6 xi6 xt6 xm7_6 | 8, _ => exact exm_own xb6 xi6 xt6 xm8_6 | 9, _ => exact exm_own xb6 xi6 xt6 xm9_6 | (k + 10), hm => exact absurd hm (by omega)), ⟨PySem.W.mg_of X Gm xg7, xk7, xb7, xt7⟩, ⟨⟨_, _, _, _, _, _, _, _, _, _, _, _, _, _, _, xL7, by rfl⟩, xs7, xb7, xt7, xk7⟩, xI7, xT7, (by intro f hf; simp only [List.mem_cons, List.not_mem_nil, or_false] at hf; rcases hf with rfl <;> first | exact no7_point), rfl, mt_of (by intro m hm; match m, hm with | 0, _ => exact exm_own xb7 xi7 xt7 xm0_7 | 1, _ => exact exm_own xb7 xi7 xt7 xm1_7 | 2, _ => exact exm_own xb7 xi7 xt7 xm2_7 | 3, _ => exact exm_own xb7 xi7 xt7 xm3_7 | 4, _ => exact exm_own xb7 xi7 xt7 xm4_7 | 5, _ => exact exm_own xb7 xi7 xt7 xm5_7 | 6, _ => exact exm_own xb7 xi7 xt7 xm6_7 | 7, _ => exact exm_own xb7 xi7 xt7 xm7_7 | 8, _ => exact exm_own xb7 xi7 xt7 xm8_7 | 9, _ => exact exm_own xb7 xi7 xt7 xm9_7 | (k + 10), hm => exact absurd hm (by omega)), ⟨PySem.W.mg_of X Gm xg8, xk8, xb8, xt8⟩, ⟨⟨_, _, _, _, _, _, _, _, _, _, _, _, _, _, _, xL8, by rfl⟩, xs8, xb8, xt8, xk8⟩, xI8, xT8, (by intro f hf; simp only [List.mem_cons, List.not_mem_nil, or_false] at hf; rcases hf with rfl <;> first | exact no8_index), rfl, mt_of (by intro m hm; match m, hm with | 0, _ => exact exm_own xb8 xi8 xt8 xm0_8 | 1, _ => exact exm_own xb8 xi8 xt8 xm1_8 | 2, _ => exact exm_own xb8 xi8 xt8 xm2_8 | 3, _ => exact exm_own xb8 xi8 xt8 xm3_8 | 4, _ => exact exm_own xb8 xi8 xt8 xm4_8 | 5, _ => exact exm_own xb8 xi8 xt8 xm5_8 | 6, _ => exact exm_own xb8 xi8 xt8 xm6_8 | 7, _ => exact exm_own xb8 xi8 xt8 xm7_8 | 8, _ => exact exm_own xb8 xi8 xt8 xm8_8 | 9, _ => exact exm_own xb8 xi8 xt8 xm9_8 | (k + 10), hm => exact absurd hm (by omega)), ⟨PySem.W.mg_of X Gm xg9, xk9, xb9, xt9⟩, ⟨⟨_, _, _, _, _, _, _, _, _, _, _, _, _, _, _, xL9, by rfl⟩, xs9, xb9, xt9, xk9⟩, xI9, xT9, (by intro f hf; simp only [List.mem_cons, List.not_mem_nil, or_false] at hf; rcases hf with rfl | rfl <;> first | exact no9_line | exact no9_word), rfl, mt_of (by intro m hm; match m, hm with | 0, _ => exact exm_own xb9 xi9 xt9 xm0_9 | 1, _ => exact exm_own xb9 xi9 xt9 xm1_9 | 2, _ => exact exm_own xb9 xi9 xt9 xm2_9 | 3, _ => exact exm_own xb9 xi9 xt9 xm3_9 | 4, _ => exact exm_own xb9 xi9 xt9 xm4_9 | 5, _ => exact exm_own xb9 xi9 xt9 xm5_9 | 6, _ => exact exm_own xb9 xi9 xt9 xm6_9 | 7, _ => exact exm_own xb9 xi9 xt9 xm7_9 | 8, _ => exact exm_own xb9 xi9 xt9 xm8_9 | 9, _ => exact exm_own xb9 xi9 xt9 xm9_9 | (k + 10), hm => exact absurd hm (by omega)), PySem.W.mg_of X Gm cg_NumberError, is_of (n := 10) (P := fun m b => ExcC K ((([x0, x1, x2, x3, x4, x5, x6, x7, x8, x9] : List Addr).getD m 0)) ∧ PySem.W.kitOne K (.ref (([x0, x1, x2, x3, x4, x5, x6, x7, x8, x9] : List Addr).getD m 0)) (.ref c_NumberError) = some b) (by intro m hm; match m, hm with | 0, _ => exact ⟨⟨eg0, ek0, xb0, ed0, ea0, en, et, em0⟩, kit_own ci_NumberError ct_NumberError cs0_NumberError⟩ | 1, _ => exact ⟨⟨eg1, ek1, xb1, ed1, ea1, en, et, em1⟩, kit_own ci_NumberError ct_NumberError cs1_NumberError⟩ | 2, _ => exact ⟨⟨eg2, ek2, xb2, ed2, ea2, en, et, em2⟩, kit_own ci_NumberError ct_NumberError cs2_NumberError⟩ | 3, _ => exact ⟨⟨eg3, ek3, xb3, ed3, ea3, en, et, em3⟩, kit_own ci_NumberError ct_NumberError cs3_NumberError⟩ | 4, _ => exact ⟨⟨eg4, ek4, xb4, ed4, ea4, en, et, em4⟩, kit_own ci_NumberError ct_NumberError cs4_NumberError⟩ | 5, _ => exact ⟨⟨eg5, ek5, xb5, ed5, ea5, en, et, em5⟩, kit_own ci_NumberError ct_NumberError cs5_NumberError⟩ | 6, _ => exact ⟨⟨eg6, ek6, xb6, ed6, ea6, en, et, em6⟩, kit_own ci_NumberError ct_NumberError cs6_NumberError⟩ | 7, _ => exact ⟨⟨eg7, ek7, xb7, ed7, ea7, en, et, em7⟩, kit_own ci_NumberError ct_NumberError cs7_NumberError⟩ | 8, _ => exact ⟨⟨eg8, ek8, xb8, ed8, ea8, en, et, em8⟩, kit_own ci_NumberError ct_NumberError cs8_NumberError⟩ | 9, _ => exact ⟨⟨eg9, ek9, xb9, ed9, ea9, en, et, em9⟩, kit_own ci_NumberError ct_NumberError cs9_NumberError⟩ | (k + 10), hm => exact absurd hm (by omega)), (show ∀ j, j < 10 → ExcC K (([x0, x1, x2, x3, x4, x5, x6, x7, x8, x9] : List Addr).getD j 0) ∧ PySem.W.kitOne K (.ref (([x0, x1, x2, x3, x4, x5, x6, x7, x8, x9] : List Addr).getD j 0)) (.ref x0) = some (decide (j = 0)) from by intro m hm; match m, hm with | 0, _ => exact ⟨⟨eg0, ek0, xb0, ed0, ea0, en, et, em0⟩, kit_sub xi0 xt0 xm0_0 xm0_0⟩ | 1, _ => exact ⟨⟨eg1, ek1, xb1, ed1, ea1, en, et, em1⟩, kit_sub xi0 xt0 xm1_0 xm0_0⟩ | 2, _ => exact ⟨⟨eg2, ek2, xb2, ed2, ea2, en, et, em2⟩, kit_sub xi0 xt0 xm2_0 xm0_0⟩ | 3, _ => exact ⟨⟨eg3, ek3, xb3, ed3, ea3, en, et, em3⟩, kit_sub xi0 xt0 xm3_0 xm0_0⟩ | 4, _ => exact ⟨⟨eg4, ek4, xb4, ed4, ea4, en, et, em4⟩, kit_sub xi0 xt0 xm4_0 xm0_0⟩ | 5, _ => exact ⟨⟨eg5, ek5, xb5, ed5, ea5, en, et, em5⟩, kit_sub xi0 xt0 xm5_0 xm0_0⟩ | 6, _ => exact ⟨⟨eg6, ek6, xb6, ed6, ea6, en, et, em6⟩, kit_sub xi0 xt0 xm6_0 xm0_0⟩ | 7, _ => exact ⟨⟨eg7, ek7, xb7, ed7, ea7, en, et, em7⟩, kit_sub xi0 xt0 xm7_0 xm0_0⟩ | 8, _ => exact ⟨⟨eg8, ek8, xb8, ed8, ea8, en, et, em8⟩, kit_sub xi0 xt0 xm8_0 xm0_0⟩ | 9, _ => exact ⟨⟨eg9, ek9, xb9, ed9, ea9, en, et, em9⟩, kit_sub xi0 xt0 xm9_0 xm0_0⟩ | (k + 10), hm => exact absurd hm (by omega)), (show ∀ j, j < 10 → ExcC K (([x0, x1, x2, x3, x4, x5, x6, x7, x8, x9] : List Addr).getD j 0) ∧ PySem.W.kitOne K (.ref (([x0, x1, x2, x3, x4, x5, x6, x7, x8, x9] : List Addr).getD j 0)) (.ref x1) = some (decide (j = 1)) from by intro m hm; match m, hm with | 0, _ => exact ⟨⟨eg0, ek0, xb0, ed0, ea0, en, et, em0⟩, kit_sub xi1 xt1 xm0_1 xm1_1⟩ | 1, _ => exact ⟨⟨eg1, ek1, xb1, ed1, ea1, en, et, em1⟩, kit_sub xi1 xt1 xm1_1 xm1_1⟩ | 2, _ => exact ⟨⟨eg2, ek2, xb2, ed2, ea2, en, et, em2⟩, kit_sub xi1 xt1 xm2_1 xm1_1⟩ | 3, _ => exact ⟨⟨eg3, ek3, xb3, ed3, ea3, en, et, em3⟩, kit_sub xi1 xt1 xm3_1 xm1_1⟩ | 4, _ => exact ⟨⟨eg4, ek4, xb4, ed4, ea4, en, et, em4⟩, kit_sub xi1 xt1 xm4_1 xm1_1⟩ | 5, _ => exact ⟨⟨eg5, ek5, xb5, ed5, ea5, en, et, em5⟩, kit_sub xi1 xt1 xm5_1 xm1_1⟩ | 6, _ => exact ⟨⟨eg6, ek6, xb6, ed6, ea6, en, et, em6⟩, kit_sub xi1 xt1 xm6_1 xm1_1⟩ | 7, _ => exact ⟨⟨eg7, ek7, xb7, ed7, ea7, en, et, em7⟩, kit_sub xi1 xt1 xm7_1 xm1_1⟩ | 8, _ => exact ⟨⟨eg8, ek8, xb8, ed8, ea8, en, et, em8⟩, kit_sub xi1 xt1 xm8_1 xm1_1⟩ | 9, _ => exact ⟨⟨eg9, ek9, xb9, ed9, ea9, en, et, em9⟩, kit_sub xi1 xt1 xm9_1 xm1_1⟩ | (k + 10), hm => exact absurd hm (by omega)), (show ∀ j, j < 10 → ExcC K (([x0, x1, x2, x3, x4, x5, x6, x7, x8, x9] : List Addr).getD j 0) ∧ PySem.W.kitOne K (.ref (([x0, x1, x2, x3, x4, x5, x6, x7, x8, x9] : List Addr).getD j 0)) (.ref x2) = some (decide (j = 2)) from by intro m hm; match m, hm with | 0, _ => exact ⟨⟨eg0, ek0, xb0, ed0, ea0, en, et, em0⟩, kit_sub xi2 xt2 xm0_2 xm2_2⟩ | 1, _ => exact ⟨⟨eg1, ek1, xb1, ed1, ea1, en, et, em1⟩, kit_sub xi2 xt2 xm1_2 xm2_2⟩ | 2, _ => exact ⟨⟨eg2, ek2, xb2, ed2, ea2, en, et, em2⟩, kit_sub xi2 xt2 xm2_2 xm2_2⟩ | 3, _ => exact ⟨⟨eg3, ek3, xb3, ed3, ea3, en, et, em3⟩, kit_sub xi2 xt2 xm3_2 xm2_2⟩ | 4, _ => exact ⟨⟨eg4, ek4, xb4, ed4, ea4, en, et, em4⟩, kit_sub xi2 xt2 xm4_2 xm2_2⟩ | 5, _ => exact ⟨⟨eg5, ek5, xb5, ed5, ea5, en, et, em5⟩, kit_sub xi2 xt2 xm5_2 xm2_2⟩ | 6, _ => exact ⟨⟨eg6, ek6, xb6, ed6, ea6, en, et, em6⟩, kit_sub xi2 xt2 xm6_2 xm2_2⟩ | 7, _ => exact ⟨⟨eg7, ek7, xb7, ed7, ea7, en, et, em7⟩, kit_sub xi2 xt2 xm7_2 xm2_2⟩ | 8, _ => exact ⟨⟨eg8, ek8, xb8, ed8, ea8, en, et, em8⟩, kit_sub xi2 xt2 xm8_2 xm2_2⟩ | 9, _ => exact ⟨⟨eg9, ek9, xb9, ed9, ea9, en, et, em9⟩, kit_sub xi2 xt2 xm9_2 xm2_2⟩ | (k + 10), hm => exact absurd hm (by omega)), (show ∀ j, j < 10 → ExcC K (([x0, x1, x2, x3, x4, x5, x6, x7, x8, x9] : List Addr).getD j 0) ∧ PySem.W.kitOne K (.ref (([x0, x1, x2, x3, x4, x5, x6, x7, x8, x9] : List Addr).getD j 0)) (.ref x3) = some (decide (j = 3)) from by intro m hm; match m, hm with | 0, _ => exact ⟨⟨eg0, ek0, xb0, ed0, ea0, en, et, em0⟩, kit_sub xi3 xt3 xm0_3 xm3_3⟩ | 1, _ => exact ⟨⟨eg1, ek1, xb1, ed1, ea1, en, et, em1⟩, kit_sub xi3 xt3 xm1_3 xm3_3⟩ | 2, _ => exact ⟨⟨eg2, ek2, xb2, ed2, ea2, en, et, em2⟩, kit_sub xi3 xt3 xm2_3 xm3_3⟩ | 3, _ => exact ⟨⟨eg3, ek3, xb3, ed3, ea3, en, et, em3⟩, kit_sub xi3 xt3 xm3_3 xm3_3⟩ | 4, _ => exact ⟨⟨eg4, ek4, xb4, ed4, ea4, en, et, em4⟩, kit_sub xi3 xt3 xm4_3 xm3_3⟩ | 5, _ => exact ⟨⟨eg5, ek5, xb5, ed5, ea5, en, et, em5⟩, kit_sub xi3 xt3 xm5_3 xm3_3⟩ | 6, _ => exact ⟨⟨eg6, ek6, xb6, ed6, ea6, en, et, em6⟩, kit_sub xi3 xt3 xm6_3 xm3_3⟩ | 7, _ => exact ⟨⟨eg7, ek7, xb7, ed7, ea7, en, et, em7⟩, kit_sub xi3 xt3 xm7_3 xm3_3⟩ | 8, _ => exact ⟨⟨eg8, ek8, xb8, ed8, ea8, en, et, em8⟩, kit_sub xi3 xt3 xm8_3 xm3_3⟩ | 9, _ => exact ⟨⟨eg9, ek9, xb9, ed9, ea9, en, et, em9⟩, kit_sub xi3 xt3 xm9_3 xm3_3⟩ | (k + 10), hm => exact absurd hm (by omega)), (show ∀ j, j < 10 → ExcC K (([x0, x1, x2, x3, x4, x5, x6, x7, x8, x9] : List Addr).getD j 0) ∧ PySem.W.kitOne K (.ref (([x0, x1, x2, x3, x4, x5, x6, x7, x8, x9] : List Addr).getD j 0)) (.ref x4) = some (decide (j = 4)) from by intro m hm; match m, hm with | 0, _ => exact ⟨⟨eg0, ek0, xb0, ed0, ea0, en, et, em0⟩, kit_sub xi4 xt4 xm0_4 xm4_4⟩ | 1, _ => exact ⟨⟨eg1, ek1, xb1, ed1, ea1, en, et, em1⟩, kit_sub xi4 xt4 xm1_4 xm4_4⟩ | 2, _ => exact ⟨⟨eg2, ek2, xb2, ed2, ea2, en, et, em2⟩, kit_sub xi4 xt4 xm2_4 xm4_4⟩ | 3, _ => exact ⟨⟨eg3, ek3, xb3, ed3, ea3, en, et, em3⟩, kit_sub xi4 xt4 xm3_4 xm4_4⟩ | 4, _ => exact ⟨⟨eg4, ek4, xb4, ed4, ea4, en, et, em4⟩, kit_sub xi4 xt4 xm4_4 xm4_4⟩ | 5, _ => exact ⟨⟨eg5, ek5, xb5, ed5, ea5, en, et, em5⟩, kit_sub xi4 xt4 xm5_4 xm4_4⟩ | 6, _ => exact ⟨⟨eg6, ek6, xb6, ed6, ea6, en, et, em6⟩, kit_sub xi4 xt4 xm6_4 xm4_4⟩ | 7, _ => exact ⟨⟨eg7, ek7, xb7, ed7, ea7, en, et, em7⟩, kit_sub xi4 xt4 xm7_4 xm4_4⟩ | 8, _ => exact ⟨⟨eg8, ek8, xb8, ed8, ea8, en, et, em8⟩, kit_sub xi4 xt4 xm8_4 xm4_4⟩ | 9, _ => exact ⟨⟨eg9, ek9, xb9, ed9, ea9, en, et, em9⟩, kit_sub xi4 xt4 xm9_4 xm4_4⟩ | (k + 10), hm => exact absurd hm (by omega)), (show ∀ j, j < 10 → ExcC K (([x0, x1, x2, x3, x4, x5, x6, x7, x8, x9] : List Addr).getD j 0) ∧ PySem.W.kitOne K (.ref (([x0, x1, x2, x3, x4, x5, x6, x7, x8, x9] : List Addr).getD j 0)) (.ref x5) = some (decide (j = 5)) from by intro m hm; match m, hm with | 0, _ => exact ⟨⟨eg0, ek0, xb0, ed0, ea0, en, et, em0⟩, kit_sub xi5 xt5 xm0_5 xm5_5⟩ | 1, _ => exact ⟨⟨eg1, ek1, xb1, ed1, ea1, en, et, em1⟩, kit_sub xi5 xt5 xm1_5 xm5_5⟩ | 2, _ => exact ⟨⟨eg2, ek2, xb2, ed2, ea2, en, et, em2⟩, kit_sub xi5 xt5 xm2_5 xm5_5⟩ | 3, _ => exact ⟨⟨eg3, ek3, xb3, ed3, ea3, en, et, em3⟩, kit_sub xi5 xt5 xm3_5 xm5_5⟩ | 4, _ => exact ⟨⟨eg4, ek4, xb4, ed4, ea4, en, et, em4⟩, kit_sub xi5 xt5 xm4_5 xm5_5⟩ | 5, _ => exact ⟨⟨eg5, ek5, xb5, ed5, ea5, en, et, em5⟩, kit_sub xi5 xt5 xm5_5 xm5_5⟩ | 6, _ => exact ⟨⟨eg6, ek6, xb6, ed6, ea6, en, et, em6⟩, kit_sub xi5 xt5 xm6_5 xm5_5⟩ | 7, _ => exact ⟨⟨eg7, ek7, xb7, ed7, ea7, en, et, em7⟩, kit_sub xi5 xt5 xm7_5 xm5_5⟩ | 8, _ => exact ⟨⟨eg8, ek8, xb8, ed8, ea8, en, et, em8⟩, kit_sub xi5 xt5 xm8_5 xm5_5⟩ | 9, _ => exact ⟨⟨eg9, ek9, xb9, ed9, ea9, en, et, em9⟩, kit_sub xi5 xt5 xm9_5 xm5_5⟩ | (k + 10), hm => exact absurd hm (by omega)), (show ∀ j, j < 10 → ExcC K (([x0, x1, x2, x3, x4, x5, x6, x7, x8, x9] : List Addr).getD j 0) ∧ PySem.W.kitOne K (.ref (([x0, x1, x2, x3, x4, x5, x6, x7, x8, x9] : List Addr).getD j 0)) (.ref x6) = some (decide (j = 6)) from by intro m hm; match m, hm with | 0, _ => exact ⟨⟨eg0, ek0, xb0, ed0, ea0, en, et, em0⟩, kit_sub xi6 xt6 xm0_6 xm6_6⟩ | 1, _ => exact ⟨⟨eg1, ek1, xb1, ed1, ea1, en, et, em1⟩, kit_sub xi6 xt6 xm1_6 xm6_6⟩ | 2, _ => exact ⟨⟨eg2, ek2, xb2, ed2, ea2, en, et, em2⟩, kit_sub xi6 xt6 xm2_6 xm6_6⟩ | 3, _ => exact ⟨⟨eg3, ek3, xb3, ed3, ea3, en, et, em3⟩, kit_sub xi6 xt6 xm3_6 xm6_6⟩ | 4, _ => exact ⟨⟨eg4, ek4, xb4, ed4, ea4, en, et, em4⟩, kit_sub xi6 xt6 xm4_6 xm6_6⟩ | 5, _ => exact ⟨⟨eg5, ek5, xb5, ed5, ea5, en, et, em5⟩, kit_sub xi6 xt6 xm5_6 xm6_6⟩ | 6, _ => exact ⟨⟨eg6, ek6, xb6, ed6, ea6, en, et, em6⟩, kit_sub xi6 xt6 xm6_6 xm6_6⟩ | 7, _ => exact ⟨⟨eg7, ek7, xb7, ed7, ea7, en, et, em7⟩, kit_sub xi6 xt6 xm7_6 xm6_6⟩ | 8, _ => exact ⟨⟨eg8, ek8, xb8, ed8, ea8, en, et, em8⟩, kit_sub xi6 xt6 xm8_6 xm6_6⟩ | 9, _ => exact ⟨⟨eg9, ek9, xb9, ed9, ea9, en, et, em9⟩, kit_sub xi6 xt6 xm9_6 xm6_6⟩ | (k + 10), hm => exact absurd hm (by omega)), (show ∀ j, j < 10 → ExcC K (([x0, x1, x2, x3, x4, x5, x6, x7, x8, x9] : List Addr).getD j 0) ∧ PySem.W.kitOne K (.ref (([x0, x1, x2, x3, x4, x5, x6, x7, x8, x9] : List Addr).getD j 0)) (.ref x7) = some (decide (j = 7)) from by intro m hm; match m, hm with | 0, _ => exact ⟨⟨eg0, ek0, xb0, ed0, ea0, en, et, em0⟩, kit_sub xi7 xt7 xm0_7 xm7_7⟩ | 1, _ => exact ⟨⟨eg1, ek1, xb1, ed1, ea1, en, et, em1⟩, kit_sub xi7 xt7 xm1_7 xm7_7⟩ | 2, _ => exact ⟨⟨eg2, ek2, xb2, ed2, ea2, en, et, em2⟩, kit_sub xi7 xt7 xm2_7 xm7_7⟩ | 3, _ => exact ⟨⟨eg3, ek3, xb3, ed3, ea3, en, et, em3⟩, kit_sub xi7 xt7 xm3_7 xm7_7⟩ | 4, _ => exact ⟨⟨eg4, ek4, xb4, ed4, ea4, en, et, em4⟩, kit_sub xi7 xt7 xm4_7 xm7_7⟩ | 5, _ => exact ⟨⟨eg5, ek5, xb5, ed5, ea5, en, et, em5⟩, kit_sub xi7 xt7 xm5_7 xm7_7⟩ | 6, _ => exact ⟨⟨eg6, ek6, xb6, ed6, ea6, en, et, em6⟩, kit_sub xi7 xt7 xm6_7 xm7_7⟩ | 7, _ => exact ⟨⟨eg7, ek7, xb7, ed7, ea7, en, et, em7⟩, kit_sub xi7 xt7 xm7_7 xm7_7⟩ | 8, _ => exact ⟨⟨eg8, ek8, xb8, ed8, ea8, en, et, em8⟩, kit_sub xi7 xt7 xm8_7 xm7_7⟩ | 9, _ => exact ⟨⟨eg9, ek9, xb9, ed9, ea9, en, et, em9⟩, kit_sub xi7 xt7 xm9_7 xm7_7⟩ | (k + 10), hm => exact absurd hm (by omega)), (show ∀ j, j < 10 → ExcC K (([x0, x1, x2, x3, x4, x5, x6, x7, x8, x9] : List Addr).getD j 0) ∧ PySem.W.kitOne K (.ref (([x0, x1, x2, x3, x4, x5, x6, x7, x8, x9] : List Addr).getD j 0)) (.ref x8) = some (decide (j = 8)) from by intro m hm; match m, hm with | 0, _ => exact ⟨⟨eg0, ek0, xb0, ed0, ea0, en, et, em0⟩, kit_sub xi8 xt8 xm0_8 xm8_8⟩ | 1, _ => exact ⟨⟨eg1, ek1, xb1, ed1, ea1, en, et, em1⟩, kit_sub xi8 xt8 xm1_8 xm8_8⟩ | 2, _ => exact ⟨⟨eg2, ek2, xb2, ed2, ea2, en, et, em2⟩, kit_sub xi8 xt8 xm2_8 xm8_8⟩ | 3, _ => exact ⟨⟨eg3, ek3, xb3, ed3, ea3, en, et, em3⟩, kit_sub xi8 xt8 xm3_8 xm8_8⟩ | 4, _ => exact ⟨⟨eg4, ek4, xb4, ed4, ea4, en, et, em4⟩, kit_sub xi8 xt8 xm4_8 xm8_8⟩ | 5, _ => exact ⟨⟨eg5, ek5, xb5, ed5, ea5, en, et, em5⟩, kit_sub xi8 xt8 xm5_8 xm8_8⟩ | 6, _ => exact ⟨⟨eg6, ek6, xb6, ed6, ea6, en, et, em6⟩, kit_sub xi8 xt8 xm6_8 xm8_8⟩ | 7, _ => exact ⟨⟨eg7, ek7, xb7, ed7, ea7, en, et, em7⟩, kit_sub xi8 xt8 xm7_8 xm8_8⟩ | 8, _ => exact ⟨⟨eg8, ek8, xb8, ed8, ea8, en, et, em8⟩, kit_sub xi8 xt8 xm8_8 xm8_8⟩ | 9, _ => exact ⟨⟨eg9, ek9, xb9, ed9, ea9, en, et, em9⟩, kit_sub xi8 xt8 xm9_8 xm8_8⟩ | (k + 10), hm => exact absurd hm (by omega)), (show ∀ j, j < 10 → ExcC K (([x0, x1, x2, x3, x4, x5, x6, x7, x8, x9] : List Addr).getD j 0) ∧ PySem.W.kitOne K (.ref (([x0, x1, x2, x3, x4, x5, x6, x7, x8, x9] : List Addr).getD j 0)) (.ref x9) = some (decide (j = 9)) from by intro m hm; match m, hm with | 0, _ => exact ⟨⟨eg0, ek0, xb0, ed0, ea0, en, et, em0⟩, kit_sub xi9 xt9 xm0_9 xm9_9⟩ | 1, _ => exact ⟨⟨eg1, ek1, xb1, ed1, ea1, en, et, em1⟩, kit_sub xi9 xt9 xm1_9 xm9_9⟩ | 2, _ => exact ⟨⟨eg2, ek2, xb2, ed2, ea2, en, et, em2⟩, kit_sub xi9 xt9 xm2_9 xm9_9⟩ | 3, _ => exact ⟨⟨eg3, ek3, xb3, ed3, ea3, en, et, em3⟩, kit_sub xi9 xt9 xm3_9 xm9_9⟩ | 4, _ => exact ⟨⟨eg4, ek4, xb4, ed4, ea4, en, et, em4⟩, kit_sub xi9 xt9 xm4_9 xm9_9⟩ | 5, _ => exact ⟨⟨eg5, ek5, xb5, ed5, ea5, en, et, em5⟩, kit_sub xi9 xt9 xm5_9 xm9_9⟩ | 6, _ => exact ⟨⟨eg6, ek6, xb6, ed6, ea6, en, et, em6⟩, kit_sub xi9 xt9 xm6_9 xm9_9⟩ | 7, _ => exact ⟨⟨eg7, ek7, xb7, ed7, ea7, en, et, em7⟩, kit_sub xi9 xt9 xm7_9 xm9_9⟩ | 8, _ => exact ⟨⟨eg8, ek8, xb8, ed8, ea8, en, et, em8⟩, kit_sub xi9 xt9 xm8_9 xm9_9⟩ | 9, _ => exact ⟨⟨eg9, ek9, xb9, ed9, ea9, en, et, em9⟩, kit_sub xi9 xt9 xm9_9 xm9_9⟩ | (k + 10), hm => exact absurd hm (by omega)), (show ∀ j, j < 10 → ExcC K (([x0, x1, x2, x3, x4, x5, x6, x7, x8, x9] : List Addr).getD j 0) ∧ PySem.W.kitOne K (.ref (([x0, x1, x2, x3, x4, x5, x6, x7, x8, x9] : List Addr).getD j 0)) (.type "ValueError") = some true from by intro m hm; match m, hm with | 0, _ => exact ⟨⟨eg0, ek0, xb0, ed0, ea0, en, et, em0⟩, kit_yesT (by rfl) kv0⟩ | 1, _ => exact ⟨⟨eg1, ek1, xb1, ed1, ea1, en, et, em1⟩, kit_yesT (by rfl) kv1⟩ | 2, _ => exact ⟨⟨eg2, ek2, xb2, ed2, ea2, en, et, em2⟩, kit_yesT (by rfl) kv2⟩ | 3, _ => exact ⟨⟨eg3, ek3, xb3, ed3, ea3, en, et, em3⟩, kit_yesT (by rfl) kv3⟩ | 4, _ => exact ⟨⟨eg4, ek4, xb4, ed4, ea4, en, et, em4⟩, kit_yesT (by rfl) kv4⟩ | 5, _ => exact ⟨⟨eg5, ek5, xb5, ed5, ea5, en, et, em5⟩, kit_yesT (by rfl) kv5⟩ | 6, _ => exact ⟨⟨eg6, ek6, xb6, ed6, ea6, en, et, em6⟩, kit_yesT (by rfl) kv6⟩ | 7, _ => exact ⟨⟨eg7, ek7, xb7, ed7, ea7, en, et, em7⟩, kit_yesT (by rfl) kv7⟩ | 8, _ => exact ⟨⟨eg8, ek8, xb8, ed8, ea8, en, et, em8⟩, kit_yesT (by rfl) kv8⟩ | 9, _ => exact ⟨⟨eg9, ek9, xb9, ed9, ea9, en, et, em9⟩, kit_yesT (by rfl) kv9⟩ | (k + 10), hm => exact absurd hm (by omega)), (show ∀ j, j < 10 → PySem.W.exmOne K (.ref (([x0, x1, x2, x3, x4, x5, x6, x7, x8, x9] : List Addr).getD j 0)) (.ref c_NumberError) = some true from by intro m hm; match m, hm with | 0, _ => exact exm_own cb_NumberError ci_NumberError ct_NumberError cs0_NumberError | 1, _ => exact exm_own cb_NumberError ci_NumberError ct_NumberError cs1_NumberError | 2, _ => exact exm_own cb_NumberError ci_NumberError ct_NumberError cs2_NumberError | 3, _ => exact exm_own cb_NumberError ci_NumberError ct_NumberError cs3_NumberError | 4, _ => exact exm_own cb_NumberError ci_NumberError ct_NumberError cs4_NumberError | 5, _ => exact exm_own cb_NumberError ci_NumberError ct_NumberError cs5_NumberError | 6, _ => exact exm_own cb_NumberError ci_NumberError ct_NumberError cs6_NumberError | 7, _ => exact exm_own cb_NumberError ci_NumberError ct_NumberError cs7_NumberError | 8, _ => exact exm_own cb_NumberError ci_NumberError ct_NumberError cs8_NumberError | 9, _ => exact exm_own cb_NumberError ci_NumberError ct_NumberError cs9_NumberError | (k + 10), hm => exact absurd hm (by omega)), ⟨eg7, ek7, xb7, ed7⟩, (show ((["point"] : List Str)).Nodup from by decide), ⟨eg9, ek9, xb9, ed9⟩, (show ((["word", "line"] : List Str)).Nodup from by decide), ⟨eg8, ek8, xb8, ed8⟩, (show ((["index"] : List Str)).Nodup from by decide), no7_point, rfl, no9_line, rfl, no9_word, rfl, no8_index, rfl⟩
theorem walk {l : PySem.W.OpenLaw} {q : Program} {loose : List Str} {XP : (Str → Option Value) → Heap → Prop} {YP : World → Heap → Prop} {d : DefRec} {K : Params → PySem.W.Frag} (hn : l.most = some 63) (hdf : d.params.defaults = [])
    (hY : ∀ (w : World) (h : Heap), YP w h → (K w.params).In h) (math : ∀ ns : List Int, ns.length ≤ 63 → ∃ S, m_law [.p (.scr ns)] [] = .ok (.p (.bl true)) S)
    (F : ∀ (w : World) (mg : Str → Option Value) (fa : Addr) (h : Heap), (K w.params).In h → h.Ns mainGlobals mg → mg d.name = some (.ref fa) →
      ∃ fd : FuncData, (∀ (s : Shared) (u : Value), BindsTo s fd ⟨[u], []⟩ [("_law_script", u)]) ∧ ∀ base : Heap, (K w.params).In base → base.Ns mainGlobals mg → ∃ G : Gx, G.K = K w.params ∧ FnOk l.prog w (K w.params) mg base (L2.CX l.prog w) 5 fa fd ["_law_script"] (spE G 1 m_law)) :
    PySem.W.WalkO q loose XP YP l.row.toRowW d [] (fun f vs => PySem.call f vs) :=
  L2.walk_of (n := 63) (k := 5) (x := "_law_script") (CX := fun w => L2.CX l.prog w) (sp := fun w => spS (K w.params)) hn (by decide) hdf ⟨rfl, by decide, by decide⟩ hY
    (fun w mg fa h a b c => let ⟨fd, h1, h2⟩ := F w mg fa h a b c; ⟨fd, h1, fun base z1 z2 => let ⟨G, e, k⟩ := h2 base z1 z2; k.imp fun vs H Q E z => spS_to e math z⟩)
    (fun w H a ns h1 h2 h3 => ⟨a, ns, rfl, h1, h3, rfl, rfl⟩) fun w H s e s' z => cx_none z
end Hn
open PySem PySem.W PyProof.Rows in
set_option maxRecDepth 100000 in
set_option maxHeartbeats 0 in
theorem PySem.Challenge.cw_hallnumbers_k16_errors_apart_holds : PySem.Challenge.rw_hallnumbers_k16_errors_apart.Holds := by
  w_on; o_law; k_head; (case hw => w_witness2)
  k_fill
  refine Hn.walk (l := PySem.Challenge.rw_hallnumbers_k16_errors_apart) rfl rfl (fun w h Y => PySem.W.kIn_of Y) Hn.math ?F
  case F =>
    intro w mg fa h KX G hmg
    refine' Hn.all_mk KX G hmg ?a0 ?a1 ?a3 ?a6 ?a7 ?a8 ?a9 ?a10 ?l0 ?c0 ?k0 ?l1 ?c1 ?k1 ?l2 ?c2 ?k2 ?l3 ?c3 ?k3 ?l4 ?c4 ?k4 ?l5 ?c5 ?k5 ?l6 ?c6 ?k6 ?l7 ?c7 ?k7 ?l8 ?c8 ?k8 ?l9 ?c9 ?k9 ?l10 ?c10 ?k10 ?xg0 ?xq0 ?xk0 ?xb0 ?xt0 ?xi0 ?xg1 ?xq1 ?xk1 ?xb1 ?xt1 ?xi1 ?xg2 ?xq2 ?xk2 ?xb2 ?xt2 ?xi2 ?xg3 ?xq3 ?xk3 ?xb3 ?xt3 ?xi3 ?xg4 ?xq4 ?xk4 ?xb4 ?xt4 ?xi4 ?xg5 ?xq5 ?xk5 ?xb5 ?xt5 ?xi5 ?xg6 ?xq6 ?xk6 ?xb6 ?xt6 ?xi6 ?xg7 ?xk7 ?xb7 ?xt7 ?xi7 ?xL7 ?xs7 ?xI7 ?xT7 ?xg8 ?xk8 ?xb8 ?xt8 ?xi8 ?xL8 ?xs8 ?xI8 ?xT8 ?xg9 ?xk9 ?xb9 ?xt9 ?xi9 ?xL9 ?xs9 ?xI9 ?xT9 ?xm0_0 ?xm1_0 ?xm2_0 ?xm3_0 ?xm4_0 ?xm5_0 ?xm6_0 ?xm7_0 ?xm8_0 ?xm9_0 ?xm0_1 ?xm1_1 ?xm2_1 ?xm3_1 ?xm4_1 ?xm5_1 ?xm6_1 ?xm7_1 ?xm8_1 ?xm9_1 ?xm0_2 ?xm1_2 ?xm2_2 ?xm3_2 ?xm4_2 ?xm5_2 ?xm6_2 ?xm7_2 ?xm8_2 ?xm9_2 ?xm0_3 ?xm1_3 ?xm2_3 ?xm3_3 ?xm4_3 ?xm5_3 ?xm6_3 ?xm7_3 ?xm8_3 ?xm9_3 ?xm0_4 ?xm1_4 ?xm2_4 ?xm3_4 ?xm4_4 ?xm5_4 ?xm6_4 ?xm7_4 ?xm8_4 ?xm9_4 ?xm0_5 ?xm1_5 ?xm2_5 ?xm3_5 ?xm4_5 ?xm5_5 ?xm6_5 ?xm7_5 ?xm8_5 ?xm9_5 ?xm0_6 ?xm1_6 ?xm2_6 ?xm3_6 ?xm4_6 ?xm5_6 ?xm6_6 ?xm7_6 ?xm8_6 ?xm9_6 ?xm0_7 ?xm1_7 ?xm2_7 ?xm3_7 ?xm4_7 ?xm5_7 ?xm6_7 ?xm7_7 ?xm8_7 ?xm9_7 ?xm0_8 ?xm1_8 ?xm2_8 ?xm3_8 ?xm4_8 ?xm5_8 ?xm6_8 ?xm7_8 ?xm8_8 ?xm9_8 ?xm0_9 ?xm1_9 ?xm2_9 ?xm3_9 ?xm4_9 ?xm5_9 ?xm6_9 ?xm7_9 ?xm8_9 ?xm9_9 ?eg0 ?ek0 ?ed0 ?eg1 ?ek1 ?ed1 ?eg2 ?ek2 ?ed2 ?eg3 ?ek3 ?ed3 ?eg4 ?ek4 ?ed4 ?eg5 ?ek5 ?ed5 ?eg6 ?ek6 ?ed6 ?eg7 ?ek7 ?ed7 ?eg8 ?ek8 ?ed8 ?eg9 ?ek9 ?ed9 ?en ?et ?ea0 ?em0 ?ea1 ?em1 ?ea2 ?em2 ?ea3 ?em3 ?ea4 ?em4 ?ea5 ?em5 ?ea6 ?em6 ?ea7 ?em7 ?ea8 ?em8 ?ea9 ?em9 ?cg_NumberError ?ci_NumberError ?ct_NumberError ?cs0_NumberError ?cs1_NumberError ?cs2_NumberError ?cs3_NumberError ?cs4_NumberError ?cs5_NumberError ?cs6_NumberError ?cs7_NumberError ?cs8_NumberError ?cs9_NumberError ?cb_NumberError ?kv0 ?kv1 ?kv2 ?kv3 ?kv4 ?kv5 ?kv6 ?kv7 ?kv8 ?kv9 ?no7_point ?no9_line ?no9_word ?no8_index ?z_ValueError ?z_all ?z_int ?z_isinstance ?z_len ?z_list ?z_max ?z_range rfl
    (case a0 => k_is)
    (case a1 => k_is)
    (case a3 => k_is)
    (case a6 => k_is)
    (case a7 => k_is)
    (case a8 => k_is)
    (case a9 => k_is)
    (case a10 => k_is)
    (case xg0 => k_is)
    (case xg1 => k_is)
    (case xg2 => k_is)
    (case xg3 => k_is)
    (case xg4 => k_is)
    (case xg5 => k_is)
    (case xg6 => k_is)
    (case xg7 => k_is)
    (case xg8 => k_is)
    (case xg9 => k_is)
    (case cg_NumberError => k_is)
    (case xI7 => k_is)
    (case xI8 => k_is)
    (case xI9 => k_is)
    (case l0 => k_is)
    (case c0 => k_is)
    (case k0 => k_is)
    (case l1 => k_is)
    (case c1 => k_is)
    (case k1 => k_is)
    (case l2 => k_is)
    (case c2 => k_is)
    (case k2 => k_is)
    (case l3 => k_is)
    (case c3 => k_is)
    (case k3 => k_is)
    (case l4 => k_is)
    (case c4 => k_is)
    (case k4 => k_is)
    (case l5 => k_is)
    (case c5 => k_is)
    (case k5 => k_is)
    (case l6 => k_is)
    (case c6 => k_is)
    (case k6 => k_is)
    (case l7 => k_is)
    (case c7 => k_is)
    (case k7 => k_is)
    (case l8 => k_is)
    (case c8 => k_is)
    (case k8 => k_is)
    (case l9 => k_is)
    (case c9 => k_is)
    (case k9 => k_is)
    (case l10 => k_is)
    (case c10 => k_is)
    (case k10 => k_is)
    (case xq0 => k_exc)
    (case xk0 => k_is)
    (case xb0 => k_is)
    (case xt0 => k_is)
    (case xi0 => k_is)
    (case xq1 => k_exc)
    (case xk1 => k_is)
    (case xb1 => k_is)
    (case xt1 => k_is)
    (case xi1 => k_is)
    (case xq2 => k_exc)
    (case xk2 => k_is)
    (case xb2 => k_is)
    (case xt2 => k_is)
    (case xi2 => k_is)
    (case xq3 => k_exc)
    (case xk3 => k_is)
    (case xb3 => k_is)
    (case xt3 => k_is)
    (case xi3 => k_is)
    (case xq4 => k_exc)
    (case xk4 => k_is)
    (case xb4 => k_is)
    (case xt4 => k_is)
    (case xi4 => k_is)
    (case xq5 => k_exc)
    (case xk5 => k_is)
    (case xb5 => k_is)
    (case xt5 => k_is)
    (case xi5 => k_is)
    (case xq6 => k_exc)
    (case xk6 => k_is)
    (case xb6 => k_is)
    (case xt6 => k_is)
    (case xi6 => k_is)
    (case xk7 => k_is)
    (case xb7 => k_is)
    (case xt7 => k_is)
    (case xi7 => k_is)
    (case xL7 => k_is)
    (case xs7 => k_is)
    (case xT7 => k_is)
    (case xk8 => k_is)
    (case xb8 => k_is)
    (case xt8 => k_is)
    (case xi8 => k_is)
    (case xL8 => k_is)
    (case xs8 => k_is)
    (case xT8 => k_is)
    (case xk9 => k_is)
    (case xb9 => k_is)
    (case xt9 => k_is)
    (case xi9 => k_is)
    (case xL9 => k_is)
    (case xs9 => k_is)
    (case xT9 => k_is)
    (case xm0_0 => k_is)
    (case xm1_0 => k_is)
    (case xm2_0 => k_is)
    (case xm3_0 => k_is)
    (case xm4_0 => k_is)
    (case xm5_0 => k_is)
    (case xm6_0 => k_is)
    (case xm7_0 => k_is)
    (case xm8_0 => k_is)
    (case xm9_0 => k_is)
    (case xm0_1 => k_is)
    (case xm1_1 => k_is)
    (case xm2_1 => k_is)
    (case xm3_1 => k_is)
    (case xm4_1 => k_is)
    (case xm5_1 => k_is)
    (case xm6_1 => k_is)
    (case xm7_1 => k_is)
    (case xm8_1 => k_is)
    (case xm9_1 => k_is)
    (case xm0_2 => k_is)
    (case xm1_2 => k_is)
    (case xm2_2 => k_is)
    (case xm3_2 => k_is)
    (case xm4_2 => k_is)
    (case xm5_2 => k_is)
    (case xm6_2 => k_is)
    (case xm7_2 => k_is)
    (case xm8_2 => k_is)
    (case xm9_2 => k_is)
    (case xm0_3 => k_is)
    (case xm1_3 => k_is)
    (case xm2_3 => k_is)
    (case xm3_3 => k_is)
    (case xm4_3 => k_is)
    (case xm5_3 => k_is)
    (case xm6_3 => k_is)
    (case xm7_3 => k_is)
    (case xm8_3 => k_is)
    (case xm9_3 => k_is)
    (case xm0_4 => k_is)
    (case xm1_4 => k_is)
    (case xm2_4 => k_is)
    (case xm3_4 => k_is)
    (case xm4_4 => k_is)
    (case xm5_4 => k_is)
    (case xm6_4 => k_is)
    (case xm7_4 => k_is)
    (case xm8_4 => k_is)
    (case xm9_4 => k_is)
    (case xm0_5 => k_is)
    (case xm1_5 => k_is)
    (case xm2_5 => k_is)
    (case xm3_5 => k_is)
    (case xm4_5 => k_is)
    (case xm5_5 => k_is)
    (case xm6_5 => k_is)
    (case xm7_5 => k_is)
    (case xm8_5 => k_is)
    (case xm9_5 => k_is)
    (case xm0_6 => k_is)
    (case xm1_6 => k_is)
    (case xm2_6 => k_is)
    (case xm3_6 => k_is)
    (case xm4_6 => k_is)
    (case xm5_6 => k_is)
    (case xm6_6 => k_is)
    (case xm7_6 => k_is)
    (case xm8_6 => k_is)
    (case xm9_6 => k_is)
    (case xm0_7 => k_is)
    (case xm1_7 => k_is)
    (case xm2_7 => k_is)
    (case xm3_7 => k_is)
    (case xm4_7 => k_is)
    (case xm5_7 => k_is)
    (case xm6_7 => k_is)
    (case xm7_7 => k_is)
    (case xm8_7 => k_is)
    (case xm9_7 => k_is)
    (case xm0_8 => k_is)
    (case xm1_8 => k_is)
    (case xm2_8 => k_is)
    (case xm3_8 => k_is)
    (case xm4_8 => k_is)
    (case xm5_8 => k_is)
    (case xm6_8 => k_is)
    (case xm7_8 => k_is)
    (case xm8_8 => k_is)
    (case xm9_8 => k_is)
    (case xm0_9 => k_is)
    (case xm1_9 => k_is)
    (case xm2_9 => k_is)
    (case xm3_9 => k_is)
    (case xm4_9 => k_is)
    (case xm5_9 => k_is)
    (case xm6_9 => k_is)
    (case xm7_9 => k_is)
    (case xm8_9 => k_is)
    (case xm9_9 => k_is)
    (case eg0 => k_is)
    (case ek0 => k_is)
    (case ed0 => k_is)
    (case eg1 => k_is)
    (case ek1 => k_is)
    (case ed1 => k_is)
    (case eg2 => k_is)
    (case ek2 => k_is)
    (case ed2 => k_is)
    (case eg3 => k_is)
    (case ek3 => k_is)
    (case ed3 => k_is)
    (case eg4 => k_is)
    (case ek4 => k_is)
    (case ed4 => k_is)
    (case eg5 => k_is)
    (case ek5 => k_is)
    (case ed5 => k_is)
    (case eg6 => k_is)
    (case ek6 => k_is)
    (case ed6 => k_is)
    (case eg7 => k_is)
    (case ek7 => k_is)
    (case ed7 => k_is)
    (case eg8 => k_is)
    (case ek8 => k_is)
    (case ed8 => k_is)
    (case eg9 => k_is)
    (case ek9 => k_is)
    (case ed9 => k_is)
    (case en => k_is)
    (case et => k_is)
    (case ea0 => k_is)
    (case em0 => k_is)
    (case ea1 => k_is)
    (case em1 => k_is)
    (case ea2 => k_is)
    (case em2 => k_is)
    (case ea3 => k_is)
    (case em3 => k_is)
    (case ea4 => k_is)
    (case em4 => k_is)
    (case ea5 => k_is)
    (case em5 => k_is)
    (case ea6 => k_is)
    (case em6 => k_is)
    (case ea7 => k_is)
    (case em7 => k_is)
    (case ea8 => k_is)
    (case em8 => k_is)
    (case ea9 => k_is)
    (case em9 => k_is)
    (case ci_NumberError => k_is)
    (case ct_NumberError => k_is)
    (case cs0_NumberError => k_is)
    (case cs1_NumberError => k_is)
    (case cs2_NumberError => k_is)
    (case cs3_NumberError => k_is)
    (case cs4_NumberError => k_is)
    (case cs5_NumberError => k_is)
    (case cs6_NumberError => k_is)
    (case cs7_NumberError => k_is)
    (case cs8_NumberError => k_is)
    (case cs9_NumberError => k_is)
    (case cb_NumberError => k_is)
    (case kv0 => k_is)
    (case kv1 => k_is)
    (case kv2 => k_is)
    (case kv3 => k_is)
    (case kv4 => k_is)
    (case kv5 => k_is)
    (case kv6 => k_is)
    (case kv7 => k_is)
    (case kv8 => k_is)
    (case kv9 => k_is)
    (case no7_point => k_is)
    (case no9_line => k_is)
    (case no9_word => k_is)
    (case no8_index => k_is)
    (case z_ValueError => k_is)
    (case z_all => k_is)
    (case z_int => k_is)
    (case z_isinstance => k_is)
    (case z_len => k_is)
    (case z_list => k_is)
    (case z_max => k_is)
    (case z_range => k_is)
