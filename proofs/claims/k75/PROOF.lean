import PyProof.Rows.All
import Wide.All
import OpenK.AllK
import Wide.FinOn
import HandS.ForMost
import HandS.Wide
import HandS.TupAny
import HandS.Deep
import HandS.IsInst
import HandS.More
import HandS.EndBits
import HandS.Style
import HandS.FStr
import HandS.MakeKwOnly
import KE.KDictZip
import HandS.Zip
import PySem.Challenge.RW_weldmill_k75_cells_changed
set_option Elab.async false
set_option linter.all false
set_option maxRecDepth 100000
set_option maxHeartbeats 4000000
/-! FL: a plain-function layer over HandS. -/
namespace FL
open PySem PySem.Spec L2

/-- data: pure trees -/
inductive D where
  | non | bl (b : Bool) | int (i : Int) | str (x : Str)
  | tup (ds : List D) | rtup (ds : List D) | lst (ds : List D) | rol (ds : List D)
  | ins (C : Addr) (fs : List Str) (ds : List D)
  | dk (ks : List Key) (ds : List D) | dt (ks : List (List Key)) (ds : List D)
  | op (v : V)
/-- what a name holds: data, a mutable cell of the running defs, or a tuple with such in it -/
inductive W where
  | d (x : D) | cel (n : Nat) | tup (ws : List W)
/-- a mutable object -/
inductive Cell where
  | lst (ds : List W) | dk (ks : List Key) (ds : List W) | dt (ks : List (List Key)) (ds : List W)
  | ins (C : Addr) (fs : List Str) (ds : List W) | gone
structure Rho where
  sl : List (Option W)
  cl : List Cell

mutual
def Rep0 (K : PySem.W.Frag) (F : Hp) : D → V → Prop
  | .non, v => v = .non
  | .bl b, v => v = .bl b
  | .int i, v => v = .int i
  | .str x, v => v = .str x
  | .tup ds, v => ∃ a vs, v = .ref a ∧ F a = some (.tup vs) ∧ Reps0 K F ds vs
  | .rtup ds, v => ∃ a vs, v = .ref a ∧ SqT K F a vs ∧ Reps0 K F ds vs
  | .lst ds, v => ∃ a vs, v = .ref a ∧ F a = some (.lst vs) ∧ Reps0 K F ds vs
  | .rol ds, v => ∃ a vs, v = .ref a ∧ SqL K F a vs ∧ Reps0 K F ds vs
  | .ins C fs ds, v => ∃ a dx fvs, v = .ref a ∧ F a = some (.ins C dx fvs) ∧ fvs.map (·.1) = fs ∧ Reps0 K F ds (fvs.map (·.2))
  | .dk ks ds, v => ∃ a kvs, v = .ref a ∧ Rd F a (.dK kvs) ∧ kvs.map (·.1) = ks ∧ Reps0 K F ds (kvs.map (·.2))
  | .dt ks ds, v => ∃ a kvs, v = .ref a ∧ Rd F a (.dT kvs) ∧ kvs.map (·.1) = ks ∧ Reps0 K F ds (kvs.map (·.2))
  | .op u, v => v = u
def Reps0 (K : PySem.W.Frag) (F : Hp) : List D → List V → Prop
  | [], vs => vs = []
  | d :: ds, vs => ∃ v r, vs = v :: r ∧ Rep0 K F d v ∧ Reps0 K F ds r
end
mutual
def Rep (K : PySem.W.Frag) (F : Hp) (al : List Addr) : W → V → Prop
  | .d x, v => Rep0 K F x v
  | .cel n, v => ∃ a, v = .ref a ∧ al[n]? = some a
  | .tup ds, v => ∃ a vs, v = .ref a ∧ F a = some (.tup vs) ∧ Reps K F al ds vs
def Reps (K : PySem.W.Frag) (F : Hp) (al : List Addr) : List W → List V → Prop
  | [], vs => vs = []
  | d :: ds, vs => ∃ v r, vs = v :: r ∧ Rep K F al d v ∧ Reps K F al ds r
end

theorem Same.seqT {K : PySem.W.Frag} {H H' : Hp} {a : Addr} {xs : List V} (e : Same H H') (h : SqT K H a xs) : SqT K H' a xs := by
  rcases h with (h | ⟨o, h⟩) | h
  · exact .inl (.inl (e _ _ h))
  · exact .inl (.inr ⟨o, e _ _ h⟩)
  · exact .inr h
theorem Same.rd {H H' : Hp} {a : Addr} {u : HO} (e : Same H H') (h : Rd H a u) : Rd H' a u := by
  rcases h with h | ⟨o, h⟩
  · exact .inl (e _ _ h)
  · exact .inr ⟨o, e _ _ h⟩

section
variable {K : PySem.W.Frag} {F F' : Hp} {al be : List Addr}
theorem get_pre {a : Addr} {n : Nat} {al ga : List Addr} (h : al[n]? = some a) : (al ++ ga)[n]? = some a := by
  rw [List.getElem?_append_left (List.getElem?_eq_some_iff.mp h).1]
  exact h
mutual
theorem Rep0.mono (e : Same F F') : ∀ {d : D} {v : V}, Rep0 K F d v → Rep0 K F' d v
  | .non, _, h => h
  | .bl _, _, h => h
  | .int _, _, h => h
  | .str _, _, h => h
  | .tup ds, _, ⟨a, vs, e1, e2, e3⟩ => ⟨a, vs, e1, e _ _ e2, Reps0.mono e e3⟩
  | .rtup ds, _, ⟨a, vs, e1, e2, e3⟩ => ⟨a, vs, e1, Same.seqT e e2, Reps0.mono e e3⟩
  | .lst ds, _, ⟨a, vs, e1, e2, e3⟩ => ⟨a, vs, e1, e _ _ e2, Reps0.mono e e3⟩
  | .rol ds, _, ⟨a, vs, e1, e2, e3⟩ => ⟨a, vs, e1, e.seq e2, Reps0.mono e e3⟩
  | .ins C fs ds, _, ⟨a, dx, vs, e1, e2, e0, e3⟩ => ⟨a, dx, vs, e1, e _ _ e2, e0, Reps0.mono e e3⟩
  | .dk ks ds, _, ⟨a, vs, e1, e2, e0, e3⟩ => ⟨a, vs, e1, Same.rd e e2, e0, Reps0.mono e e3⟩
  | .dt ks ds, _, ⟨a, vs, e1, e2, e0, e3⟩ => ⟨a, vs, e1, Same.rd e e2, e0, Reps0.mono e e3⟩
  | .op _, _, h => h
theorem Reps0.mono (e : Same F F') : ∀ {ds : List D} {vs : List V}, Reps0 K F ds vs → Reps0 K F' ds vs
  | [], _, h => h
  | d :: ds, _, ⟨v, r, e1, e2, e3⟩ => ⟨v, r, e1, Rep0.mono e e2, Reps0.mono e e3⟩
end
mutual
theorem Rep.mono (e : Same F F') : ∀ {d : W} {v : V}, Rep K F al d v → Rep K F' (al ++ be) d v
  | .d x, _, h => Rep0.mono (d := x) e h
  | .tup ds, _, ⟨a, vs, e1, e2, e3⟩ => ⟨a, vs, e1, e _ _ e2, Reps.mono e e3⟩
  | .cel n, _, ⟨a, e1, e2⟩ => ⟨a, e1, get_pre e2⟩
theorem Reps.mono (e : Same F F') : ∀ {ds : List W} {vs : List V}, Reps K F al ds vs → Reps K F' (al ++ be) ds vs
  | [], _, h => h
  | d :: ds, _, ⟨v, r, e1, e2, e3⟩ => ⟨v, r, e1, Rep.mono e e2, Reps.mono e e3⟩
end
/-- data all through -/
theorem Reps.of0 : ∀ {ds : List D} {vs : List V}, Reps0 K F ds vs → Reps K F al (ds.map W.d) vs
  | [], _, h => h
  | d :: ds, _, ⟨v, r, e1, e2, e3⟩ => ⟨v, r, e1, e2, Reps.of0 e3⟩
theorem Reps.to0 : ∀ {ds : List D} {vs : List V}, Reps K F al (ds.map W.d) vs → Reps0 K F ds vs
  | [], _, h => h
  | d :: ds, _, ⟨v, r, e1, e2, e3⟩ => ⟨v, r, e1, e2, Reps.to0 e3⟩
/-- the data of a row, where it is all data -/
def datas : List W → Option (List D)
  | [] => some []
  | .d x :: ws => (datas ws).map (x :: ·)
  | _ => none
theorem datas_map : ∀ ds : List D, datas (ds.map W.d) = some ds
  | [] => rfl
  | d :: ds => by
    show (datas (ds.map W.d)).map (d :: ·) = _
    rw [datas_map ds]
    rfl
theorem datas_some : ∀ {ws : List W} {ds : List D}, datas ws = some ds → ws = ds.map W.d
  | [], ds, h => by
    cases h
    rfl
  | .d x :: ws, ds, h => by
    obtain ⟨r, e1, e2⟩ := Option.map_eq_some_iff.mp h
    subst e2
    rw [datas_some e1]
    rfl
  | .cel n :: ws, ds, h => nomatch h
  | .tup n :: ws, ds, h => nomatch h
theorem Reps.length : ∀ {ds : List W} {vs : List V}, Reps K F al ds vs → vs.length = ds.length
  | [], _, h => by
    have h : _ = [] := h
    rw [h]
    rfl
  | d :: ds, _, ⟨v, r, e1, _, e3⟩ => by
    rw [e1, List.length_cons, List.length_cons, Reps.length e3]
theorem Reps.get : ∀ {ds : List W} {vs : List V} {i : Nat} {d : W}, Reps K F al ds vs → ds[i]? = some d → ∃ v, vs[i]? = some v ∧ Rep K F al d v
  | [], _, _, _, _, h => by simp at h
  | d :: ds, _, 0, d', ⟨v, r, e1, e2, _⟩, h => by
    subst e1
    have h : some d = some d' := h
    cases h
    exact ⟨v, rfl, e2⟩
  | d :: ds, _, i + 1, d', ⟨v, r, e1, e2, e3⟩, h => by
    subst e1
    have h : ds[i]? = some d' := h
    exact Reps.get (i := i) e3 h
theorem Reps.getv {ds : List W} {vs : List V} {i : Nat} {v : V} (r : Reps K F al ds vs) (h : vs[i]? = some v) : ∃ d, ds[i]? = some d ∧ Rep K F al d v := by
  have hi : i < ds.length := by
    rw [← r.length]
    exact (List.getElem?_eq_some_iff.mp h).1
  obtain ⟨v', e1, e2⟩ := r.get (List.getElem?_eq_getElem hi)
  rw [h] at e1
  cases e1
  exact ⟨_, List.getElem?_eq_getElem hi, e2⟩
theorem Reps.app : ∀ {ds es : List W} {vs ws : List V}, Reps K F al ds vs → Reps K F al es ws → Reps K F al (ds ++ es) (vs ++ ws)
  | [], _, _, _, h, q => by
    have h : _ = [] := h
    subst h
    exact q
  | d :: ds, _, _, _, ⟨v, r, e1, e2, e3⟩, q => by
    subst e1
    exact ⟨v, _, rfl, e2, Reps.app e3 q⟩
theorem Reps.one {d : W} {v : V} (h : Rep K F al d v) : Reps K F al [d] [v] := ⟨v, [], rfl, h, rfl⟩
theorem Reps.set : ∀ {ds : List W} {vs : List V} {i : Nat} {d : W} {v : V}, Reps K F al ds vs → Rep K F al d v → Reps K F al (ds.set i d) (vs.set i v)
  | [], _, _, _, _, h, _ => by
    have h : _ = [] := h
    subst h
    rfl
  | d :: ds, _, 0, d', v', ⟨v, r, e1, e2, e3⟩, q => by
    subst e1
    exact ⟨v', r, rfl, q, e3⟩
  | d :: ds, _, i + 1, d', v', ⟨v, r, e1, e2, e3⟩, q => by
    subst e1
    exact ⟨v, _, rfl, e2, Reps.set e3 q⟩
theorem Reps.take : ∀ {ds : List W} {vs : List V} (n : Nat), Reps K F al ds vs → Reps K F al (ds.take n) (vs.take n)
  | _, _, 0, _ => rfl
  | [], _, _ + 1, h => by
    have h : _ = [] := h
    subst h
    rfl
  | d :: ds, _, n + 1, ⟨v, r, e1, e2, e3⟩ => by
    subst e1
    exact ⟨v, _, rfl, e2, Reps.take n e3⟩
theorem Reps.drop : ∀ {ds : List W} {vs : List V} (n : Nat), Reps K F al ds vs → Reps K F al (ds.drop n) (vs.drop n)
  | _, _, 0, h => h
  | [], _, _ + 1, h => by
    have h : _ = [] := h
    subst h
    rfl
  | d :: ds, _, n + 1, ⟨v, r, e1, e2, e3⟩ => by
    subst e1
    exact Reps.drop n e3
theorem Reps.eraseIdx : ∀ {ds : List W} {vs : List V} (n : Nat), Reps K F al ds vs → Reps K F al (ds.eraseIdx n) (vs.eraseIdx n)
  | [], _, _, h => by
    have h : _ = [] := h
    subst h
    rfl
  | d :: ds, _, 0, ⟨v, r, e1, e2, e3⟩ => by
    subst e1
    exact e3
  | d :: ds, _, n + 1, ⟨v, r, e1, e2, e3⟩ => by
    subst e1
    exact ⟨v, _, rfl, e2, Reps.eraseIdx n e3⟩
theorem Reps.rev : ∀ {ds : List W} {vs : List V}, Reps K F al ds vs → Reps K F al ds.reverse vs.reverse
  | [], _, h => by
    have h : _ = [] := h
    subst h
    rfl
  | d :: ds, _, ⟨v, r, e1, e2, e3⟩ => by
    subst e1
    rw [List.reverse_cons, List.reverse_cons]
    exact Reps.app (Reps.rev e3) (Reps.one e2)
end

/-! ### the relation -/
def CellOk (K : PySem.W.Frag) (F : Hp) (al : List Addr) (H : Hp) (a : Addr) : Cell → Prop
  | .lst ds => F a = none ∧ ∃ vs, H a = some (.lst vs) ∧ Reps K F al ds vs
  | .dk ks ds => F a = none ∧ ∃ kvs, H a = some (.dK kvs) ∧ kvs.map (·.1) = ks ∧ Reps K F al ds (kvs.map (·.2))
  | .dt ks ds => F a = none ∧ ∃ kvs, H a = some (.dT kvs) ∧ kvs.map (·.1) = ks ∧ Reps K F al ds (kvs.map (·.2))
  | .ins C fs ds => F a = none ∧ ∃ dx fvs, H a = some (.ins C dx fvs) ∧ fvs.map (·.1) = fs ∧ Reps K F al ds (fvs.map (·.2))
  | .gone => True
/-- cells: every live one stands, apart from what is frozen -/
structure Cells (K : PySem.W.Frag) (cl : List Cell) (F : Hp) (al : List Addr) (H : Hp) : Prop where
  fh : Same F H
  len : al.length = cl.length
  ok : ∀ (n : Nat) (a : Addr) (c : Cell), al[n]? = some a → cl[n]? = some c → CellOk K F al H a c
  nd : al.Nodup
  has : ∀ a ∈ al, H a ≠ none
/-- from a situation to a later one -/
structure Ext (F : Hp) (al : List Addr) (H F' : Hp) (al' : List Addr) (H' : Hp) : Prop where
  f : Same F F'
  a : ∃ be, al' = al ++ be ∧ ∀ b ∈ be, H b = none
  h : ∀ b o, H b = some o → b ∉ al → H' b = some o
  n : ∀ b o, F' b = some o → F b = some o ∨ H b = none ∨ b ∈ al
  t : ∀ b, H b ≠ none → H' b ≠ none
theorem Ext.refl (F : Hp) (al : List Addr) (H : Hp) : Ext F al H F al H := ⟨Same.refl F, ⟨[], by simp, by simp⟩, fun _ _ h _ => h, fun _ _ h => .inl h, fun _ h => h⟩
theorem Ext.trans {F : Hp} {al : List Addr} {H F1 : Hp} {al1 : List Addr} {H1 F2 : Hp} {al2 : List Addr} {H2 : Hp} (x : Ext F al H F1 al1 H1) (y : Ext F1 al1 H1 F2 al2 H2) : Ext F al H F2 al2 H2 := by
  obtain ⟨b1, e1, n1⟩ := x.a
  obtain ⟨b2, e2, n2⟩ := y.a
  have hn : ∀ b, H1 b = none → H b = none := fun b q => by
    by_cases z : H b = none
    · exact z
    · exact absurd q (x.t b z)
  refine ⟨x.f.trans y.f, ⟨b1 ++ b2, by rw [e2, e1, List.append_assoc], fun b hb => ?_⟩, fun b o h hb => ?_, fun b o h => ?_, fun b h => y.t b (x.t b h)⟩
  · rcases List.mem_append.mp hb with q | q
    · exact n1 b q
    · exact hn b (n2 b q)
  · refine y.h b o (x.h b o h hb) fun q => ?_
    rw [e1] at q
    rcases List.mem_append.mp q with q | q
    · exact hb q
    · rw [n1 b q] at h
      cases h
  · rcases y.n b o h with q | q | q
    · exact x.n b o q
    · exact .inr (.inl (hn b q))
    · rw [e1] at q
      rcases List.mem_append.mp q with q | q
      · exact .inr (.inr q)
      · exact .inr (.inl (n1 b q))
theorem Ext.rep {K : PySem.W.Frag} {F : Hp} {al : List Addr} {H F1 : Hp} {al1 : List Addr} {H1 : Hp} {d : W} {v : V} (x : Ext F al H F1 al1 H1) (r : Rep K F al d v) : Rep K F1 al1 d v := by
  obtain ⟨b1, e1, _⟩ := x.a
  rw [e1]
  exact Rep.mono x.f r
theorem Ext.reps {K : PySem.W.Frag} {F : Hp} {al : List Addr} {H F1 : Hp} {al1 : List Addr} {H1 : Hp} {d : List W} {v : List V} (x : Ext F al H F1 al1 H1) (r : Reps K F al d v) : Reps K F1 al1 d v := by
  obtain ⟨b1, e1, _⟩ := x.a
  rw [e1]
  exact Reps.mono x.f r
/-- the slots -/
structure Slots (K : PySem.W.Frag) (sl : List (Option W)) (F : Hp) (al : List Addr) (σ : St) : Prop where
  len : σ.length = sl.length
  ok : ∀ (i : Nat) (d : W), sl[i]? = some (some d) → ∃ v, σ[i]? = some (some v) ∧ Rep K F al d v
structure Rel (K : PySem.W.Frag) (r : Rho) (F : Hp) (al : List Addr) (σ : St) (H : Hp) : Prop where
  s : Slots K r.sl F al σ
  c : Cells K r.cl F al H
theorem Slots.ext {K : PySem.W.Frag} {sl : List (Option W)} {F : Hp} {al : List Addr} {σ : St} {H F1 : Hp} {al1 : List Addr} {H1 : Hp} (s : Slots K sl F al σ) (x : Ext F al H F1 al1 H1) : Slots K sl F1 al1 σ :=
  ⟨s.len, fun i d h => by
    obtain ⟨v, e1, e2⟩ := s.ok i d h
    exact ⟨v, e1, x.rep e2⟩⟩
theorem Slots.set {K : PySem.W.Frag} {sl : List (Option W)} {F : Hp} {al : List Addr} {σ : St} (s : Slots K sl F al σ) (i : Nat) {d : W} {v : V} (r : Rep K F al d v) : Slots K (sl.set i (some d)) F al (σ.set i (some v)) := by
  refine ⟨by rw [List.length_set, List.length_set, s.len], fun j d' h => ?_⟩
  by_cases e : i = j
  · subst e
    have hi : i < sl.length := by
      have q := (List.getElem?_eq_some_iff.mp h).1
      rw [List.length_set] at q
      exact q
    rw [List.getElem?_set_self hi] at h
    cases h
    exact ⟨v, List.getElem?_set_self (by rw [s.len]; exact hi), r⟩
  · rw [List.getElem?_set_ne e] at h
    rw [List.getElem?_set_ne e]
    exact s.ok j d' h
theorem Slots.forget {K : PySem.W.Frag} {sl : List (Option W)} {F : Hp} {al : List Addr} {σ : St} (s : Slots K sl F al σ) (i : Nat) {w : Option V} : Slots K (sl.set i none) F al (σ.set i w) := by
  refine ⟨by rw [List.length_set, List.length_set, s.len], fun j d' h => ?_⟩
  by_cases e : i = j
  · subst e
    have hi : i < sl.length := by
      have q := (List.getElem?_eq_some_iff.mp h).1
      rw [List.length_set] at q
      exact q
    rw [List.getElem?_set_self hi] at h
    cases h
  · rw [List.getElem?_set_ne e] at h
    rw [List.getElem?_set_ne e]
    exact s.ok j d' h

theorem Cells.ext0 {K : PySem.W.Frag} {cl : List Cell} {F : Hp} {al : List Addr} {H : Hp} (c : Cells K cl F al H) {F1 H1 : Hp} (x : Ext F al H F1 al H1) (fh : Same F1 H1) (kp : ∀ a ∈ al, H1 a = H a ∧ (F a = none → F1 a = none)) : Cells K cl F1 al H1 := by
  refine ⟨fh, c.len, fun n a q h1 h2 => ?_, c.nd, fun a ha => ?_⟩
  · have o := c.ok n a q h1 h2
    obtain ⟨e1, e2⟩ := kp a (List.mem_of_getElem? h1)
    cases q with
    | lst ds =>
      obtain ⟨n0, vs, q1, q2⟩ := o
      exact ⟨e2 n0, vs, by rw [e1]; exact q1, x.reps q2⟩
    | dk ks ds =>
      obtain ⟨n0, vs, q1, q0, q2⟩ := o
      exact ⟨e2 n0, vs, by rw [e1]; exact q1, q0, x.reps q2⟩
    | dt ks ds =>
      obtain ⟨n0, vs, q1, q0, q2⟩ := o
      exact ⟨e2 n0, vs, by rw [e1]; exact q1, q0, x.reps q2⟩
    | ins C fs ds =>
      obtain ⟨n0, dx, vs, q1, q0, q2⟩ := o
      exact ⟨e2 n0, dx, vs, by rw [e1]; exact q1, q0, x.reps q2⟩
    | gone => exact trivial
  · rw [(kp a ha).1]
    exact c.has a ha

/-! ### a new object -/
section
variable {K : PySem.W.Frag} {F H : Hp} {al : List Addr} {p : Addr} {o : HO}
theorem Cells.free {cl : List Cell} (c : Cells K cl F al H) (hp : H p = none) : F p = none ∧ p ∉ al := by
  refine ⟨?_, fun q => c.has p q hp⟩
  cases e : F p with
  | none => rfl
  | some u =>
    rw [c.fh p u e] at hp
    cases hp
theorem ext_frz (hF : F p = none) (hp : H p = none) : Ext F al H (upd F p o) al (upd H p o) :=
  ⟨fun b u h => by rw [upd_ne (ne_of_none h hF)]; exact h, ⟨[], by simp, by simp⟩, fun b u h _ => by rw [upd_ne (ne_of_none h hp)]; exact h,
   fun b u h => by
    by_cases e : b = p
    · exact .inr (.inl (by rw [e]; exact hp))
    · rw [upd_ne e] at h
      exact .inl h,
   fun b h => by
    by_cases e : b = p
    · rw [e, upd_same]
      exact fun q => nomatch q
    · rw [upd_ne e]
      exact h⟩
theorem same_frz (s : Same F H) : Same (upd F p o) (upd H p o) := fun b u h => by
  by_cases e : b = p
  · rw [e, upd_same] at h
    rw [e, upd_same]
    exact h
  · rw [upd_ne e] at h
    rw [upd_ne e]
    exact s b u h
/-- .. frozen at once -/
theorem Cells.frz {cl : List Cell} (c : Cells K cl F al H) (hp : H p = none) : Cells K cl (upd F p o) al (upd H p o) := by
  obtain ⟨hF, hal⟩ := c.free hp
  refine c.ext0 (ext_frz hF hp) (same_frz c.fh) fun a ha => ?_
  have ne : a ≠ p := fun e => hal (e ▸ ha)
  exact ⟨upd_ne ne, fun z => by rw [upd_ne ne]; exact z⟩
theorem ext_new (hF : F p = none) (hp : H p = none) : Ext F al H F (al ++ [p]) (upd H p o) :=
  ⟨Same.refl F, ⟨[p], rfl, fun b hb => by rw [List.mem_singleton.mp hb]; exact hp⟩, fun b u h _ => by rw [upd_ne (ne_of_none h hp)]; exact h, fun b u h => .inl h,
   fun b h => by
    by_cases e : b = p
    · rw [e, upd_same]
      exact fun q => nomatch q
    · rw [upd_ne e]
      exact h⟩
theorem CellOk.grow {a : Addr} {q : Cell} (h : CellOk K F al H a q) {be : List Addr} {H1 : Hp} (e : H1 a = H a) : CellOk K F (al ++ be) H1 a q := by
  cases q with
  | lst ds =>
    obtain ⟨n0, vs, q1, q2⟩ := h
    exact ⟨n0, vs, by rw [e]; exact q1, Reps.mono (Same.refl F) q2⟩
  | dk ks ds =>
    obtain ⟨n0, vs, q1, q0, q2⟩ := h
    exact ⟨n0, vs, by rw [e]; exact q1, q0, Reps.mono (Same.refl F) q2⟩
  | dt ks ds =>
    obtain ⟨n0, vs, q1, q0, q2⟩ := h
    exact ⟨n0, vs, by rw [e]; exact q1, q0, Reps.mono (Same.refl F) q2⟩
  | ins C fs ds =>
    obtain ⟨n0, dx, vs, q1, q0, q2⟩ := h
    exact ⟨n0, dx, vs, by rw [e]; exact q1, q0, Reps.mono (Same.refl F) q2⟩
  | gone => exact trivial
/-- .. as a cell -/
theorem Cells.new {cl : List Cell} (c : Cells K cl F al H) (hp : H p = none) {q : Cell} (hq : CellOk K F (al ++ [p]) (upd H p o) p q) : Cells K (cl ++ [q]) F (al ++ [p]) (upd H p o) := by
  obtain ⟨hF, hal⟩ := c.free hp
  refine ⟨fun b u h => by rw [upd_ne (ne_of_none (c.fh b u h) hp)]; exact c.fh b u h, by rw [List.length_append, List.length_append, c.len]; rfl, fun n a k h1 h2 => ?_, ?_, fun a ha => ?_⟩
  · by_cases e : n < al.length
    · rw [List.getElem?_append_left e] at h1
      rw [List.getElem?_append_left (by rw [← c.len]; exact e)] at h2
      have ne : a ≠ p := fun z => hal (z ▸ List.mem_of_getElem? h1)
      exact (c.ok n a k h1 h2).grow (upd_ne ne)
    · have q1 := (List.getElem?_eq_some_iff.mp h1).1
      rw [List.length_append, List.length_singleton] at q1
      have e2 : n = al.length := by omega
      subst e2
      rw [List.getElem?_append_right (Nat.le_refl _), Nat.sub_self] at h1
      rw [c.len, List.getElem?_append_right (Nat.le_refl _), Nat.sub_self] at h2
      have h1 : some p = some a := h1
      have h2 : some q = some k := h2
      cases h1
      cases h2
      exact hq
  · rw [List.nodup_append]
    exact ⟨c.nd, by simp, fun a ha b hb e => by
      rw [List.mem_singleton] at hb
      rw [e, hb] at ha
      exact hal ha⟩
  · by_cases e : a = p
    · rw [e, upd_same]
      exact fun q => nomatch q
    · rw [upd_ne e]
      rcases List.mem_append.mp ha with z | z
      · exact c.has a z
      · exact absurd (List.mem_singleton.mp z) e
/-- a live cell is written -/
theorem ext_wr {n : Nat} (h1 : al[n]? = some p) (hF : F p = none) : Ext F al H F al (upd H p o) :=
  ⟨Same.refl F, ⟨[], by simp, by simp⟩, fun b u h hb => by rw [upd_ne (fun e => hb (by rw [e]; exact List.mem_of_getElem? h1))]; exact h, fun b u h => .inl h,
   fun b h => by
    by_cases e : b = p
    · rw [e, upd_same]
      exact fun q => nomatch q
    · rw [upd_ne e]
      exact h⟩
theorem Cells.wr {cl : List Cell} (c : Cells K cl F al H) {n : Nat} (h1 : al[n]? = some p) (hF : F p = none) {q : Cell} (hq : CellOk K F al (upd H p o) p q) : Cells K (cl.set n q) F al (upd H p o) := by
  refine ⟨fun b u h => by rw [upd_ne (ne_of_none h hF)]; exact c.fh b u h, by rw [List.length_set, c.len], fun m a k g1 g2 => ?_, c.nd, fun a ha => ?_⟩
  · by_cases e : n = m
    · subst e
      have q1 := (List.getElem?_eq_some_iff.mp g2).1
      rw [List.length_set] at q1
      rw [List.getElem?_set_self q1] at g2
      rw [h1] at g1
      cases g1
      cases g2
      exact hq
    · rw [List.getElem?_set_ne e] at g2
      have ne : a ≠ p := fun z => by
        rw [z] at g1
        obtain ⟨l1, e1⟩ := List.getElem?_eq_some_iff.mp h1
        obtain ⟨l2, e2⟩ := List.getElem?_eq_some_iff.mp g1
        exact e ((List.getElem_inj c.nd).mp (e1.trans e2.symm))
      have := (c.ok m a k g1 g2).grow (be := []) (H1 := upd H p o) (upd_ne ne)
      rw [List.append_nil] at this
      exact this
  · by_cases e : a = p
    · rw [e, upd_same]
      exact fun q => nomatch q
    · rw [upd_ne e]
      exact c.has a ha
/-- a live cell is frozen -/
theorem ext_gone {n : Nat} (h1 : al[n]? = some p) (hF : F p = none) : Ext F al H (upd F p o) al H :=
  ⟨fun b u h => by rw [upd_ne (ne_of_none h hF)]; exact h, ⟨[], by simp, by simp⟩, fun b u h _ => h, fun b u h => by
    by_cases e : b = p
    · exact .inr (.inr (by rw [e]; exact List.mem_of_getElem? h1))
    · rw [upd_ne e] at h
      exact .inl h, fun b h => h⟩
theorem Cells.toGone {cl : List Cell} (c : Cells K cl F al H) {n : Nat} (h1 : al[n]? = some p) (hF : F p = none) (hH : H p = some o) : Cells K (cl.set n .gone) (upd F p o) al H := by
  have x : Ext F al H (upd F p o) al H := ext_gone h1 hF
  refine ⟨fun b u h => ?_, by rw [List.length_set, c.len], fun m a k g1 g2 => ?_, c.nd, c.has⟩
  · by_cases e : b = p
    · rw [e, upd_same] at h
      rw [e, hH]
      exact h
    · rw [upd_ne e] at h
      exact c.fh b u h
  · by_cases e : n = m
    · subst e
      have q1 := (List.getElem?_eq_some_iff.mp g2).1
      rw [List.length_set] at q1
      rw [List.getElem?_set_self q1] at g2
      cases g2
      exact trivial
    · rw [List.getElem?_set_ne e] at g2
      have ne : a ≠ p := fun z => by
        rw [z] at g1
        obtain ⟨l1, e1⟩ := List.getElem?_eq_some_iff.mp h1
        obtain ⟨l2, e2⟩ := List.getElem?_eq_some_iff.mp g1
        exact e ((List.getElem_inj c.nd).mp (e1.trans e2.symm))
      have o := c.ok m a k g1 g2
      have up : ∀ {z : Prop}, (F a = none → z) → F a = none → z := fun f => f
      cases k with
      | lst ds =>
        obtain ⟨n0, vs, q1, q2⟩ := o
        exact ⟨by rw [upd_ne ne]; exact n0, vs, q1, x.reps q2⟩
      | dk ks ds =>
        obtain ⟨n0, vs, q1, q0, q2⟩ := o
        exact ⟨by rw [upd_ne ne]; exact n0, vs, q1, q0, x.reps q2⟩
      | dt ks ds =>
        obtain ⟨n0, vs, q1, q0, q2⟩ := o
        exact ⟨by rw [upd_ne ne]; exact n0, vs, q1, q0, x.reps q2⟩
      | ins C fs ds =>
        obtain ⟨n0, dx, vs, q1, q0, q2⟩ := o
        exact ⟨by rw [upd_ne ne]; exact n0, dx, vs, q1, q0, x.reps q2⟩
      | gone => exact trivial
end

/-! ### readings by a plain function -/
abbrev M := Rho → Option (W × Rho)
abbrev MB := Rho → Option (Bool × Rho)
abbrev MS := Rho → Option (List W × Rho)
inductive Out where
  | nx (r : Rho) | ret (d : W) (r : Rho) | bk (r : Rho) | ct (r : Rho)
abbrev G := Rho → Option Out
def tF (K : PySem.W.Frag) (m : M) : TE := fun σ H Q => ∃ r F al d r', Rel K r F al σ H ∧ m r = some (d, r') ∧
  ∀ F' al' v H', Ext F al H F' al' H' → Rel K r' F' al' σ H' → Rep K F' al' d v → Q v H'
def tFB (K : PySem.W.Frag) (m : MB) : TT := fun σ H Q => ∃ r F al d r', Rel K r F al σ H ∧ m r = some (d, r') ∧
  ∀ F' al' H', Ext F al H F' al' H' → Rel K r' F' al' σ H' → Q d H'
def tFA (K : PySem.W.Frag) (m : MS) : TA := fun σ H Q => ∃ r F al d r', Rel K r F al σ H ∧ m r = some (d, r') ∧
  ∀ F' al' v H', Ext F al H F' al' H' → Rel K r' F' al' σ H' → Reps K F' al' d v → Q v H'
def EndF (K : PySem.W.Frag) (D : Ends) (F : Hp) (al : List Addr) (H : Hp) : Out → Prop
  | .nx r => ∀ F' al' σ' H', Ext F al H F' al' H' → Rel K r F' al' σ' H' → D.nx σ' H'
  | .ret d r => ∀ F' al' v σ' H', Ext F al H F' al' H' → Rel K r F' al' σ' H' → Rep K F' al' d v → D.rt v H'
  | .bk r => ∀ F' al' σ' H', Ext F al H F' al' H' → Rel K r F' al' σ' H' → D.bk σ' H'
  | .ct r => ∀ F' al' σ' H', Ext F al H F' al' H' → Rel K r F' al' σ' H' → D.ct σ' H'
def tFS (K : PySem.W.Frag) (g : G) : TS := fun D σ H => ∃ r F al o, Rel K r F al σ H ∧ g r = some o ∧ EndF K D F al H o
theorem EndF.ext {K : PySem.W.Frag} {D : Ends} {F : Hp} {al : List Addr} {H F1 : Hp} {al1 : List Addr} {H1 : Hp} {o : Out} (h : EndF K D F al H o) (x : Ext F al H F1 al1 H1) : EndF K D F1 al1 H1 o := by
  cases o with
  | nx r => exact fun F' al' σ' H' y => h F' al' σ' H' (x.trans y)
  | ret d r => exact fun F' al' v σ' H' y => h F' al' v σ' H' (x.trans y)
  | bk r => exact fun F' al' σ' H' y => h F' al' σ' H' (x.trans y)
  | ct r => exact fun F' al' σ' H' y => h F' al' σ' H' (x.trans y)
section
variable {X : Cx} {e : Expr} {es : List Expr} {st : Stmt} {sts : List Stmt}
theorem PE.weak {t t' : TE} (h : PE X e t) (w : ∀ σ H Q, t' σ H Q → t σ H Q) : PE X e t' := ⟨fun pins s σ H Q I q => h.run pins s σ H Q I (w σ H Q q)⟩
theorem PT.weak {t t' : TT} (h : PT X e t) (w : ∀ σ H Q, t' σ H Q → t σ H Q) : PT X e t' := ⟨fun pins s σ H Q I q => h.run pins s σ H Q I (w σ H Q q)⟩
theorem PA.weak {t t' : TA} (h : PA X es t) (w : ∀ σ H Q, t' σ H Q → t σ H Q) : PA X es t' := ⟨fun pos pins s σ H Q I q => h.run pos pins s σ H Q I (w σ H Q q)⟩
theorem PS.weak {t t' : TS} (h : PS X st t) (w : ∀ D σ H, t' D σ H → t D σ H) : PS X st t' := ⟨fun pins s σ H D I q => h.run pins s σ H D I (w D σ H q)⟩
theorem PSs.weak {t t' : TS} (h : PSs X sts t) (w : ∀ D σ H, t' D σ H → t D σ H) : PSs X sts t' := ⟨fun pins s σ H D I q => h.run pins s σ H D I (w D σ H q)⟩
end
end FL

namespace FL
open PySem PySem.Spec L2

/-! ### operations by values -/
abbrev R0 := Option (W × List Cell)
def PostV (K : PySem.W.Frag) (F : Hp) (al : List Addr) (H : Hp) (Q : VK) : R0 → Prop
  | none => False
  | some (d, cl') => ∀ F' al' v H', Ext F al H F' al' H' → Cells K cl' F' al' H' → Rep K F' al' d v → Q v H'
abbrev Op1 := List Cell → W → R0
abbrev Op2 := List Cell → W → W → R0
abbrev OpN := List Cell → List W → R0
def r1F (K : PySem.W.Frag) (g : Op1) : V → Hp → VK → Prop := fun vx H Q => ∃ cl F al x, Cells K cl F al H ∧ Rep K F al x vx ∧ PostV K F al H Q (g cl x)
def r2F (K : PySem.W.Frag) (g : Op2) : R2 := fun vx vy H Q => ∃ cl F al x y, Cells K cl F al H ∧ Rep K F al x vx ∧ Rep K F al y vy ∧ PostV K F al H Q (g cl x y)
def rNF (K : PySem.W.Frag) (g : OpN) : List V → Hp → VK → Prop := fun vs H Q => ∃ cl F al ds, Cells K cl F al H ∧ Reps K F al ds vs ∧ PostV K F al H Q (g cl ds)
def rMF (K : PySem.W.Frag) (g : OpN) : V → List V → Hp → VK → Prop := fun vx vs H Q => ∃ cl F al x ds, Cells K cl F al H ∧ Rep K F al x vx ∧ Reps K F al ds vs ∧ PostV K F al H Q (g cl (x :: ds))
theorem PostV.some {K : PySem.W.Frag} {F : Hp} {al : List Addr} {H : Hp} {Q : VK} {r : R0} (h : PostV K F al H Q r) : ∃ d cl', r = some (d, cl') ∧ ∀ F' al' v H', Ext F al H F' al' H' → Cells K cl' F' al' H' → Rep K F' al' d v → Q v H' := by
  match r, h with
  | .some (d, cl'), h => exact ⟨d, cl', rfl, h⟩
/-- the value stands and nothing has changed -/
theorem PostV.pure {K : PySem.W.Frag} {cl : List Cell} {F : Hp} {al : List Addr} {H : Hp} {Q : VK} {d : W} {v : V} {r : R0} (h : PostV K F al H Q r) (e : r = .some (d, cl)) (c : Cells K cl F al H) (q : Rep K F al d v) : Q v H := by
  rw [e] at h
  exact h F al v H (Ext.refl _ _ _) c q

/-! ### expressions -/
def eVar (i : Nat) : M := fun r => match r.sl[i]? with
  | some (some d) => some (d, r)
  | _ => none
def eC (d : W) : M := fun r => some (d, r)
def lift1 (g : Op1) (x : W) (r : Rho) : Option (W × Rho) := match g r.cl x with
  | some (d, c) => some (d, { r with cl := c })
  | none => none
def lift2 (g : Op2) (x y : W) (r : Rho) : Option (W × Rho) := match g r.cl x y with
  | some (d, c) => some (d, { r with cl := c })
  | none => none
def liftN (g : OpN) (ds : List W) (r : Rho) : Option (W × Rho) := match g r.cl ds with
  | some (d, c) => some (d, { r with cl := c })
  | none => none
def eUn (g : Op1) (a : M) : M := fun r => match a r with
  | some (x, r1) => lift1 g x r1
  | none => none
def eBin (g : Op2) (a b : M) : M := fun r => match a r with
  | some (x, r1) => match b r1 with
    | some (y, r2) => lift2 g x y r2
    | none => none
  | none => none
def aNil : MS := fun r => some ([], r)
def aCons (a : M) (t : MS) : MS := fun r => match a r with
  | some (x, r1) => match t r1 with
    | some (xs, r2) => some (x :: xs, r2)
    | none => none
  | none => none
def eCall (g : OpN) (t : MS) : M := fun r => match t r with
  | some (xs, r1) => liftN g xs r1
  | none => none
def eMeth (g : OpN) (a : M) (t : MS) : M := fun r => match a r with
  | some (x, r1) => match t r1 with
    | some (xs, r2) => liftN g (x :: xs) r2
    | none => none
  | none => none
theorem lift1_some {g : Op1} {x : W} {r : Rho} {d : W} {r' : Rho} (h : lift1 g x r = some (d, r')) : ∃ c, g r.cl x = some (d, c) ∧ r' = { r with cl := c } := by
  unfold lift1 at h
  split at h
  · cases h
    exact ⟨_, by assumption, rfl⟩
  · cases h
theorem lift2_some {g : Op2} {x y : W} {r : Rho} {d : W} {r' : Rho} (h : lift2 g x y r = some (d, r')) : ∃ c, g r.cl x y = some (d, c) ∧ r' = { r with cl := c } := by
  unfold lift2 at h
  split at h
  · cases h
    exact ⟨_, by assumption, rfl⟩
  · cases h
theorem liftN_some {g : OpN} {x : List W} {r : Rho} {d : W} {r' : Rho} (h : liftN g x r = some (d, r')) : ∃ c, g r.cl x = some (d, c) ∧ r' = { r with cl := c } := by
  unfold liftN at h
  split at h
  · cases h
    exact ⟨_, by assumption, rfl⟩
  · cases h
theorem eUn_some {g : Op1} {a : M} {r : Rho} {d : W} {r' : Rho} (h : eUn g a r = some (d, r')) : ∃ x r1, a r = some (x, r1) ∧ lift1 g x r1 = some (d, r') := by
  unfold eUn at h
  split at h
  · exact ⟨_, _, by assumption, h⟩
  · cases h
theorem eBin_some {g : Op2} {a b : M} {r : Rho} {d : W} {r' : Rho} (h : eBin g a b r = some (d, r')) : ∃ x r1 y r2, a r = some (x, r1) ∧ b r1 = some (y, r2) ∧ lift2 g x y r2 = some (d, r') := by
  unfold eBin at h
  split at h
  · split at h
    · exact ⟨_, _, _, _, by assumption, by assumption, h⟩
    · cases h
  · cases h
theorem aCons_some {a : M} {t : MS} {r : Rho} {d : List W} {r' : Rho} (h : aCons a t r = some (d, r')) : ∃ x r1 xs, a r = some (x, r1) ∧ t r1 = some (xs, r') ∧ d = x :: xs := by
  unfold aCons at h
  split at h
  · split at h
    · cases h
      exact ⟨_, _, _, by assumption, by assumption, rfl⟩
    · cases h
  · cases h
theorem eCall_some {g : OpN} {t : MS} {r : Rho} {d : W} {r' : Rho} (h : eCall g t r = some (d, r')) : ∃ xs r1, t r = some (xs, r1) ∧ liftN g xs r1 = some (d, r') := by
  unfold eCall at h
  split at h
  · exact ⟨_, _, by assumption, h⟩
  · cases h
theorem eMeth_some {g : OpN} {a : M} {t : MS} {r : Rho} {d : W} {r' : Rho} (h : eMeth g a t r = some (d, r')) : ∃ x r1 xs r2, a r = some (x, r1) ∧ t r1 = some (xs, r2) ∧ liftN g (x :: xs) r2 = some (d, r') := by
  unfold eMeth at h
  split at h
  · split at h
    · exact ⟨_, _, _, _, by assumption, by assumption, h⟩
    · cases h
  · cases h
/-- from an operation's post to an expression's -/
theorem post_of {K : PySem.W.Frag} {r : Rho} {d : W} {c : List Cell} {F : Hp} {al : List Addr} {σ : St} {H : Hp} {Q : VK} (s : Slots K r.sl F al σ)
    (k : ∀ F' al' v H', Ext F al H F' al' H' → Rel K { r with cl := c } F' al' σ H' → Rep K F' al' d v → Q v H') : PostV K F al H Q (some (d, c)) :=
  fun F' al' v H' x c' q => k F' al' v H' x ⟨s.ext x, c'⟩ q
section
variable {X : Cx} {a b e : Expr} {es : List Expr} {pos : Pos}
theorem pf_var {i : Nat} (h : PE X e (tVar i)) : PE X e (tF X.K (eVar i)) := PE.weak h fun σ H Q ⟨r, F, al, d, r', R, e1, k⟩ => by
  unfold eVar at e1
  split at e1
  · rename_i d' e2
    cases e1
    obtain ⟨v, q1, q2⟩ := R.s.ok i _ e2
    exact ⟨v, q1, k F al v H (Ext.refl _ _ _) R q2⟩
  · cases e1
theorem pf_c {v : V} {d : W} (h : PE X e (tC v)) (q : ∀ F al, Rep X.K F al d v) : PE X e (tF X.K (eC d)) := PE.weak h fun σ H Q ⟨r, F, al, d', r', R, e1, k⟩ => by
  have e1 : some (d, r) = some (d', r') := e1
  cases e1
  exact k F al v H (Ext.refl _ _ _) R (q F al)
theorem pf_int {i : Int} {j} : PE X (.Constant (.int i) j pos) (tF X.K (eC (.d (.int i)))) := pf_c pe_int fun _ _ => rfl
theorem pf_bl {i : Bool} {j} : PE X (.Constant (.bool i) j pos) (tF X.K (eC (.d (.bl i)))) := pf_c pe_bl fun _ _ => rfl
theorem pf_non {j} : PE X (.Constant .none j pos) (tF X.K (eC (.d .non))) := pf_c pe_non fun _ _ => rfl
theorem pf_str {i : Str} {j} : PE X (.Constant (.str i) j pos) (tF X.K (eC (.d (.str i)))) := pf_c pe_str fun _ _ => rfl
theorem w_bin {r : R2} {g : Op2} {ma mb : M} (hr : ∀ x y H Q, r2F X.K g x y H Q → r x y H Q) : ∀ σ H Q, tF X.K (eBin g ma mb) σ H Q → tOp r (tF X.K ma) (tF X.K mb) σ H Q := fun σ H Q ⟨rho, F, al, d, r', R, e1, k⟩ => by
  obtain ⟨x, r1, y, r2, q1, q2, q3⟩ := eBin_some e1
  obtain ⟨c, q4, rfl⟩ := lift2_some q3
  refine ⟨rho, F, al, x, r1, R, q1, fun F1 al1 vx H1 x1 R1 p1 => ?_⟩
  refine ⟨r1, F1, al1, y, r2, R1, q2, fun F2 al2 vy H2 x2 R2 p2 => ?_⟩
  refine hr _ _ _ _ ⟨r2.cl, F2, al2, x, y, R2.c, x2.rep p1, p2, ?_⟩
  rw [q4]
  exact post_of R2.s fun F' al' v H' x3 R3 p3 => k F' al' v H' ((x1.trans x2).trans x3) R3 p3
theorem pf_op {op : Operator} {g : Op2} {ma mb : M} (ho : OpR X (binaryOp op) (r2F X.K g)) (ha : PE X a (tF X.K ma)) (hb : PE X b (tF X.K mb)) : PE X (.BinOp a op b pos) (tF X.K (eBin g ma mb)) :=
  PE.weak (pe_op ho ha hb) (w_bin fun _ _ _ _ h => h)
theorem pf_cmp {op : CmpOp} {g : Op2} {ma mb : M} (ho : OpR X (compareOp op) (r2F X.K g)) (ha : PE X a (tF X.K ma)) (hb : PE X b (tF X.K mb)) (hm : behindInMarks op b = false := by first | exact nomark _ | rfl) : PE X (.Compare a [op] [b] pos) (tF X.K (eBin g ma mb)) :=
  PE.weak (pe_cmpR ho ha hb hm) (w_bin fun _ _ _ _ h => h)
theorem pf_ix {g : Op2} {ma mb : M} (ho : IxR X (r2F X.K g)) (ha : PE X a (tF X.K ma)) (hb : PE X b (tF X.K mb)) (hs : PlainIx b := by exact fun _ _ => rfl) : PE X (.Subscript a b pos) (tF X.K (eBin g ma mb)) :=
  PE.weak (pe_ix ho ha hb hs) (w_bin fun _ _ _ _ h => h)
theorem pf_un {op : UnaryOp} {g : Op1} {ma : M} (ho : UnR X (unaryOp op) (r1F X.K g)) (ha : PE X a (tF X.K ma)) : PE X (.UnaryOp op a pos) (tF X.K (eUn g ma)) :=
  PE.weak (pe_un ho ha) fun σ H Q ⟨rho, F, al, d, r', R, e1, k⟩ => by
    obtain ⟨x, r1, q1, q3⟩ := eUn_some e1
    obtain ⟨c, q4, rfl⟩ := lift1_some q3
    refine ⟨rho, F, al, x, r1, R, q1, fun F1 al1 vx H1 x1 R1 p1 => ?_⟩
    refine ⟨r1.cl, F1, al1, x, R1.c, p1, ?_⟩
    rw [q4]
    exact post_of R1.s fun F' al' v H' x3 R3 p3 => k F' al' v H' (x1.trans x3) R3 p3
/-! ### argument lists, displays -/
theorem fa_nil : PA X [] (tFA X.K aNil) := PA.weak pa_nil fun σ H Q ⟨r, F, al, d, r', R, e1, k⟩ => by
  have e1 : some ([], r) = some (d, r') := e1
  cases e1
  exact k F al [] H (Ext.refl _ _ _) R rfl
theorem fa_cons {m : M} {ms : MS} (ha : PE X e (tF X.K m)) (hr : PA X es (tFA X.K ms)) (hs : starEach (e :: es) X.env = (false, eval e X.env) :: starEach es X.env := by rfl) : PA X (e :: es) (tFA X.K (aCons m ms)) :=
  PA.weak (pa_cons ha hr hs) fun σ H Q ⟨r, F, al, d, r', R, e1, k⟩ => by
    obtain ⟨x, r1, xs, q1, q2, rfl⟩ := aCons_some e1
    refine ⟨r, F, al, x, r1, R, q1, fun F1 al1 vx H1 x1 R1 p1 => ?_⟩
    exact ⟨r1, F1, al1, xs, r', R1, q2, fun F2 al2 vs H2 x2 R2 p2 => k F2 al2 _ H2 (x1.trans x2) R2 ⟨_, _, rfl, x2.rep p1, p2⟩⟩
theorem w_call {t : List V → Hp → VK → Prop} {g : OpN} {ms : MS} (hr : ∀ vs H Q, rNF X.K g vs H Q → t vs H Q) : ∀ σ H Q, tF X.K (eCall g ms) σ H Q → tFA X.K ms σ H fun vs H1 => t vs H1 Q := fun σ H Q ⟨rho, F, al, d, r', R, e1, k⟩ => by
  obtain ⟨xs, r1, q1, q3⟩ := eCall_some e1
  obtain ⟨c, q4, rfl⟩ := liftN_some q3
  refine ⟨rho, F, al, xs, r1, R, q1, fun F1 al1 vs H1 x1 R1 p1 => ?_⟩
  refine hr _ _ _ ⟨r1.cl, F1, al1, xs, R1.c, p1, ?_⟩
  rw [q4]
  exact post_of R1.s fun F' al' v H' x3 R3 p3 => k F' al' v H' (x1.trans x3) R3 p3
theorem w_meth {t : V → List V → Hp → VK → Prop} {g : OpN} {ma : M} {ms : MS} (hr : ∀ v vs H Q, rMF X.K g v vs H Q → t v vs H Q) : ∀ σ H Q, tF X.K (eMeth g ma ms) σ H Q → tF X.K ma σ H fun v H1 => tFA X.K ms σ H1 fun vs H2 => t v vs H2 Q := fun σ H Q ⟨rho, F, al, d, r', R, e1, k⟩ => by
  obtain ⟨x, r1, xs, r2, q1, q2, q3⟩ := eMeth_some e1
  obtain ⟨c, q4, rfl⟩ := liftN_some q3
  refine ⟨rho, F, al, x, r1, R, q1, fun F1 al1 vx H1 x1 R1 p1 => ?_⟩
  refine ⟨r1, F1, al1, xs, r2, R1, q2, fun F2 al2 vs H2 x2 R2 p2 => ?_⟩
  refine hr _ _ _ _ ⟨r2.cl, F2, al2, x, xs, R2.c, x2.rep p1, p2, ?_⟩
  rw [q4]
  exact post_of R2.s fun F' al' v H' x3 R3 p3 => k F' al' v H' ((x1.trans x2).trans x3) R3 p3
end

/-! ### new lists and tuples -/
/-- a new list: frozen at once, or a cell -/
def fresh (c : Bool) (ds : List W) (cl : List Cell) : R0 := if c then some (.cel cl.length, cl ++ [.lst ds]) else (datas ds).map fun xs => (.d (.lst xs), cl)
theorem fresh_ok {K : PySem.W.Frag} {cl : List Cell} {F : Hp} {al : List Addr} {H : Hp} {Q : VK} {c : Bool} {ds : List W} {vs : List V} {p : Addr} (h : PostV K F al H Q (fresh c ds cl)) (C : Cells K cl F al H) (q : Reps K F al ds vs) (hp : H p = none) : Q (.ref p) (upd H p (.lst vs)) := by
  obtain ⟨hF, hal⟩ := C.free hp
  cases c with
  | false =>
    obtain ⟨d, cl', e, k⟩ := h.some
    obtain ⟨xs, e1, e2⟩ := Option.map_eq_some_iff.mp (show (datas ds).map _ = _ from e)
    cases e2
    have q0 : Reps0 K F xs vs := by
      rw [datas_some e1] at q
      exact q.to0
    exact k _ _ _ _ (ext_frz hF hp) (C.frz hp) ⟨p, vs, rfl, upd_same, Reps0.mono (ext_frz (al := al) hF hp).f q0⟩
  | true =>
    have x : Ext F al H F (al ++ [p]) (upd H p (.lst vs)) := ext_new hF hp
    refine h _ _ _ _ x (C.new hp ⟨hF, vs, upd_same, x.reps q⟩) ⟨p, rfl, ?_⟩
    rw [← C.len, List.getElem?_append_right (Nat.le_refl _), Nat.sub_self]
    rfl
/-- a new tuple -/
def tupW (ws : List W) : W := match datas ws with
  | some xs => .d (.tup xs)
  | none => .tup ws
theorem tup_ok {K : PySem.W.Frag} {cl : List Cell} {F : Hp} {al : List Addr} {H : Hp} {Q : VK} {ds : List W} {vs : List V} {p : Addr} (h : PostV K F al H Q (some (tupW ds, cl))) (C : Cells K cl F al H) (q : Reps K F al ds vs) (hp : H p = none) : Q (.ref p) (upd H p (.tup vs)) := by
  obtain ⟨hF, hal⟩ := C.free hp
  refine h _ _ _ _ (ext_frz hF hp) (C.frz hp) ?_
  unfold tupW
  split
  · rename_i xs e
    have q0 : Reps0 K F xs vs := by
      rw [datas_some e] at q
      exact q.to0
    exact ⟨p, vs, rfl, upd_same, Reps0.mono (ext_frz (al := al) hF hp).f q0⟩
  · exact ⟨p, vs, rfl, upd_same, (ext_frz (al := al) hF hp).reps q⟩
def oLst (c : Bool) : OpN := fun cl ds => if ds.length ≤ sizeLine then fresh c ds cl else none
def oTup : OpN := fun cl ds => if ds.length ≤ sizeLine then some (tupW ds, cl) else none
section
variable {X : Cx} {a b e : Expr} {es : List Expr} {pos : Pos}
theorem pf_lst (c : Bool) {ms : MS} (h : PA X es (tFA X.K ms)) : PE X (.List es pos) (tF X.K (eCall (oLst c) ms)) :=
  PE.weak (pe_lst h) (w_call (t := fun xs H1 Q => xs.length ≤ sizeLine ∧ ∀ p, H1 p = none → Q (.ref p) (upd H1 p (.lst xs))) fun vs H Q ⟨cl, F, al, ds, C, r, k⟩ => by
    unfold oLst at k
    split at k
    · exact ⟨by rw [r.length]; assumption, fun p hp => fresh_ok k C r hp⟩
    · exact k.elim)
theorem pf_tup {x1} {ms : MS} (h : PA X es (tFA X.K ms)) : PE X (.Tuple es x1 pos) (tF X.K (eCall oTup ms)) :=
  PE.weak (pe_tup h) (w_call (t := fun xs H1 Q => xs.length ≤ sizeLine ∧ ∀ p, H1 p = none → Q (.ref p) (upd H1 p (.tup xs))) fun vs H Q ⟨cl, F, al, ds, C, r, k⟩ => by
    unfold oTup at k
    split at k
    · exact ⟨by rw [r.length]; assumption, fun p hp => tup_ok k C r hp⟩
    · exact k.elim)
end

/-! ### lists and tuples as they are read -/
def asList (cl : List Cell) : W → Option (List W)
  | .d (.lst ds) => some (ds.map W.d)
  | .d (.rol ds) => some (ds.map W.d)
  | .cel n => match cl[n]? with
    | some (.lst ds) => some ds
    | _ => none
  | _ => none
/-- .. a list of our own -/
def asOwn (cl : List Cell) : W → Option (List W)
  | .d (.lst ds) => some (ds.map W.d)
  | .cel n => match cl[n]? with
    | some (.lst ds) => some ds
    | _ => none
  | _ => none
def asTup : W → Option (List W)
  | .d (.tup ds) => some (ds.map W.d)
  | .d (.rtup ds) => some (ds.map W.d)
  | .tup ws => some ws
  | _ => none
theorem asTup_ok {K : PySem.W.Frag} {F : Hp} {al : List Addr} {x : W} {v : V} (r : Rep K F al x v) {ds : List W} (h : asTup x = some ds) : ∃ a vs, v = .ref a ∧ SqT K F a vs ∧ Reps K F al ds vs := by
  unfold asTup at h
  split at h
  · cases h
    obtain ⟨a, vs, e1, e2, e3⟩ := r
    exact ⟨a, vs, e1, SqT.of e2, Reps.of0 e3⟩
  · cases h
    obtain ⟨a, vs, e1, e2, e3⟩ := r
    exact ⟨a, vs, e1, e2, Reps.of0 e3⟩
  · cases h
    obtain ⟨a, vs, e1, e2, e3⟩ := r
    exact ⟨a, vs, e1, SqT.of e2, e3⟩
  · cases h
/-- a tuple of our own -/
def asTupP : W → Option (List W)
  | .d (.tup ds) => some (ds.map W.d)
  | .tup ws => some ws
  | _ => none
theorem asTupP_up {x : W} {ds : List W} (h : asTupP x = some ds) : asTup x = some ds := by
  unfold asTupP at h
  split at h
  · exact h
  · exact h
  · cases h
theorem asOwn_ok {K : PySem.W.Frag} {cl : List Cell} {F : Hp} {al : List Addr} {H : Hp} (C : Cells K cl F al H) {x : W} {v : V} (r : Rep K F al x v) {ds : List W} (h : asOwn cl x = some ds) : ∃ a vs, v = .ref a ∧ H a = some (.lst vs) ∧ Reps K F al ds vs := by
  unfold asOwn at h
  split at h
  · cases h
    obtain ⟨a, vs, e1, e2, e3⟩ := r
    exact ⟨a, vs, e1, C.fh _ _ e2, Reps.of0 e3⟩
  · obtain ⟨a, e1, e2⟩ := r
    split at h
    · cases h
      rename_i q
      obtain ⟨_, vs, q1, q2⟩ := C.ok _ _ _ e2 q
      exact ⟨a, vs, e1, q1, q2⟩
    · cases h
  · cases h
theorem asList_ok {K : PySem.W.Frag} {cl : List Cell} {F : Hp} {al : List Addr} {H : Hp} (C : Cells K cl F al H) {x : W} {v : V} (r : Rep K F al x v) {ds : List W} (h : asList cl x = some ds) : ∃ a vs, v = .ref a ∧ SqL K H a vs ∧ Reps K F al ds vs := by
  unfold asList at h
  split at h
  · cases h
    obtain ⟨a, vs, e1, e2, e3⟩ := r
    exact ⟨a, vs, e1, SqL.of (C.fh _ _ e2), Reps.of0 e3⟩
  · cases h
    obtain ⟨a, vs, e1, e2, e3⟩ := r
    exact ⟨a, vs, e1, C.fh.seq e2, Reps.of0 e3⟩
  · obtain ⟨a, e1, e2⟩ := r
    split at h
    · cases h
      rename_i q
      obtain ⟨_, vs, q1, q2⟩ := C.ok _ _ _ e2 q
      exact ⟨a, vs, e1, SqL.of q1, q2⟩
    · cases h
  · cases h
theorem OpR.weak {X : Cx} {f : Value → Value → Sem Value} {r r' : R2} (h : OpR X f r) (w : ∀ x y H Q, r' x y H Q → r x y H Q) : OpR X f r' := fun pins s σ H x y v u Q I rx ry q => h pins s σ H x y v u Q I rx ry (w _ _ _ _ q)
theorem IxR.weak {X : Cx} {r r' : R2} (h : IxR X r) (w : ∀ x y H Q, r' x y H Q → r x y H Q) : IxR X r' := fun va sl pins s σ H x y v u Q I rx ry q => h va sl pins s σ H x y v u Q I rx ry (w _ _ _ _ q)
theorem UnR.weak {X : Cx} {f : Value → Sem Value} {r r' : V → Hp → VK → Prop} (h : UnR X f r) (w : ∀ x H Q, r' x H Q → r x H Q) : UnR X f r' := fun pins s σ H x v Q I rx q => h pins s σ H x v Q I rx (w _ _ _ q)
theorem CallR.weak {X : Cx} {f : Value} {r r' : List V → Hp → VK → Prop} (h : CallR X f r) (w : ∀ x H Q, r' x H Q → r x H Q) : CallR X f r' := fun pins s σ H xs us Q I rx q => h pins s σ H xs us Q I rx (w _ _ _ q)
theorem MtR.weak {X : Cx} {id : String} {r r' : V → List V → Hp → VK → Prop} (h : MtR X id r) (w : ∀ x vs H Q, r' x vs H Q → r x vs H Q) : MtR X id r' := fun pins s σ H x xs v us Q I rx rv q => h pins s σ H x xs v us Q I rx rv (w _ _ _ _ q)

theorem atI_map {K : PySem.W.Frag} {F : Hp} {al : List Addr} {ds : List W} {vs : List V} {i : Int} {d : W} (r : Reps K F al ds vs) (h : atI ds i = some d) : ∃ v, atI vs i = some v ∧ Rep K F al d v := by
  unfold atI at h ⊢
  rw [r.length]
  cases e : ixN ds.length i with
  | none =>
    rw [e] at h
    cases h
  | some j =>
    rw [e] at h
    exact r.get h
theorem PostV.none_elim {K : PySem.W.Frag} {F : Hp} {al : List Addr} {H : Hp} {Q : VK} {P : Prop} {r : R0} (h : PostV K F al H Q r) (e : r = none) : P := by
  rw [e] at h
  exact h.elim
/-- x[i] of lists, tuples, texts -/
def dIx : Op2 := fun cl x y => match y with
  | .d (.int i) => match x with
    | .d (.str z) => if z.length ≤ sizeLine then (atI z.cps.toList i).map fun c => (.d (.str ⟨#[c]⟩), cl) else none
    | x => match asTup x with
      | some ds => (atI ds i).map fun d => (d, cl)
      | none => (asList cl x).bind fun ds => (atI ds i).map fun d => (d, cl)
  | _ => none
theorem ix_ok {X : Cx} : IxR X (r2F X.K dIx) := IxR.weak ix_seq fun vx vy H Q ⟨cl, F, al, x, y, C, rx, ry, k⟩ => by
  obtain ⟨d, cl', e, kk⟩ := k.some
  unfold dIx at e
  split at e
  · rename_i i
    have ry : vy = .int i := ry
    subst ry
    split at e
    · rename_i z
      have rx : vx = .str z := rx
      subst rx
      split at e
      · obtain ⟨c, e1, e2⟩ := Option.map_eq_some_iff.mp e
        cases e2
        exact .inr (.inr ⟨z, i, c, rfl, rfl, by assumption, e1, kk F al _ H (Ext.refl _ _ _) C rfl⟩)
      · cases e
    · split at e
      · rename_i ds et
        obtain ⟨a, vs, rfl, h1, h2⟩ := asTup_ok rx et
        obtain ⟨d', e1, e2⟩ := Option.map_eq_some_iff.mp e
        cases e2
        obtain ⟨v, q1, q2⟩ := atI_map h2 e1
        exact .inr (.inl ⟨a, vs, i, v, rfl, rfl, Same.seqT C.fh h1, q1, kk F al v H (Ext.refl _ _ _) C q2⟩)
      · obtain ⟨ds, e1, e2⟩ := Option.bind_eq_some_iff.mp e
        obtain ⟨d', e3, e4⟩ := Option.map_eq_some_iff.mp e2
        cases e4
        obtain ⟨a, vs, rfl, h1, h2⟩ := asList_ok C rx e1
        obtain ⟨v, q1, q2⟩ := atI_map h2 e3
        exact .inl ⟨a, vs, i, v, rfl, rfl, h1, q1, kk F al v H (Ext.refl _ _ _) C q2⟩
  · cases e
end FL

namespace FL
open PySem PySem.Spec L2

/-! ### tests -/
def bVal (m : M) : MB := fun r => match m r with
  | some (.d (.bl b), r1) => some (b, r1)
  | _ => none
def bAnd (a b : MB) : MB := fun r => match a r with
  | some (true, r1) => b r1
  | some (false, r1) => some (false, r1)
  | none => none
def bOr (a b : MB) : MB := fun r => match a r with
  | some (true, r1) => some (true, r1)
  | some (false, r1) => b r1
  | none => none
def bNot (a : MB) : MB := fun r => match a r with
  | some (b, r1) => some (!b, r1)
  | none => none
def eIf (c : MB) (a b : M) : M := fun r => match c r with
  | some (true, r1) => a r1
  | some (false, r1) => b r1
  | none => none
/-- a test as a value -/
def eOfB (a : MB) : M := fun r => match a r with
  | some (b, r1) => some (.d (.bl b), r1)
  | none => none
/-- a value by its truth -/
def truth (cl : List Cell) : W → Option Bool
  | .d .non => some false
  | .d (.bl b) => some b
  | .d (.int i) => some (i != 0)
  | .d (.str z) => if z.length ≤ sizeLine then some (z.length != 0) else none
  | x => match asTup x with
    | some ds => some (!ds.isEmpty)
    | none => (asList cl x).map fun ds => !ds.isEmpty
def bTru (m : M) : MB := fun r => match m r with
  | some (d, r1) => match truth r1.cl d with
    | some b => some (b, r1)
    | none => none
  | none => none
section
variable {X : Cx} {a b c e : Expr} {rest : List Expr} {pos : Pos}
theorem bVal_some {m : M} {r : Rho} {b : Bool} {r' : Rho} (h : bVal m r = some (b, r')) : m r = some (.d (.bl b), r') := by
  unfold bVal at h
  split at h
  · cases h
    assumption
  · cases h
theorem w_tB {t : TE} {m : M} (hm : ∀ σ H Q, tF X.K m σ H Q → t σ H Q) : ∀ σ H Q, tFB X.K (bVal m) σ H Q → t σ H fun x H1 => ∃ k, x = .bl k ∧ Q k H1 := fun σ H Q ⟨rho, F, al, d, r', R, e1, k⟩ => by
  refine hm _ _ _ ⟨rho, F, al, .d (.bl d), r', R, bVal_some e1, fun F1 al1 v H1 x1 R1 p1 => ?_⟩
  have p1 : v = .bl d := p1
  subst p1
  exact ⟨d, rfl, k F1 al1 H1 x1 R1⟩
theorem ft_val {m : M} (h : PE X e (tF X.K m)) (he : ∀ whole, isTrue e X.env whole = (do let v ← whole; standAt e.pos; holding [v] (truthy v)) := by intro _; rfl) : PT X e (tFB X.K (bVal m)) :=
  PT.weak (pt_val h he) (w_tB fun _ _ _ h => h)
theorem ft_cmp {op : CmpOp} {g : Op2} {ma mb : M} (ho : OpR X (compareOp op) (r2F X.K g)) (ha : PE X a (tF X.K ma)) (hb : PE X b (tF X.K mb)) (hm : behindInMarks op b = false := by first | exact nomark _ | rfl) : PT X (.Compare a [op] [b] pos) (tFB X.K (bVal (eBin g ma mb))) :=
  PT.weak (pt_cmpR ho ha hb hm) (w_tB (w_bin fun _ _ _ _ h => h))
theorem Reps.isEmpty {K : PySem.W.Frag} {F : Hp} {al : List Addr} {ds : List W} {vs : List V} (r : Reps K F al ds vs) : vs.isEmpty = ds.isEmpty := by
  have e := r.length
  cases ds with
  | nil =>
    cases vs with
    | nil => rfl
    | cons v vs => cases e
  | cons d ds =>
    cases vs with
    | nil => cases e
    | cons v vs => rfl
theorem truth_ok {K : PySem.W.Frag} {cl : List Cell} {F : Hp} {al : List Addr} {H : Hp} (C : Cells K cl F al H) {d : W} {v : V} (r : Rep K F al d v) {b : Bool} (h : truth cl d = some b) : TruV K v H b := by
  unfold truth at h
  split at h
  · have r : v = .non := r
    subst r
    cases h
    exact rfl
  · rename_i k
    have r : v = .bl k := r
    subst r
    cases h
    exact rfl
  · rename_i i
    have r : v = .int i := r
    subst r
    cases h
    exact rfl
  · rename_i z
    have r : v = .str z := r
    subst r
    split at h
    · cases h
      refine ⟨by assumption, ?_⟩
      by_cases e : z.length = 0
      · rw [e]
        rfl
      · have e1 : (z.length != 0) = true := by simpa using e
        have e2 : ((z.length : Int) != 0) = true := by
          have : ¬ (z.length : Int) = 0 := by omega
          simpa using this
        rw [e1, e2]
    · cases h
  · split at h
    · rename_i ds et
      cases h
      obtain ⟨a, vs, rfl, h1, h2⟩ := asTup_ok r et
      exact .inr (.inl ⟨vs, Same.seqT C.fh h1, by rw [h2.isEmpty]⟩)
    · obtain ⟨ds, e1, e2⟩ := Option.map_eq_some_iff.mp h
      obtain ⟨a, vs, rfl, h1, h2⟩ := asList_ok C r e1
      exact .inl ⟨vs, h1, by rw [h2.isEmpty, e2]⟩
theorem ft_tru {m : M} (h : PE X e (tF X.K m)) (he : ∀ whole, isTrue e X.env whole = (do let v ← whole; standAt e.pos; holding [v] (truthy v)) := by intro _; rfl) : PT X e (tFB X.K (bTru m)) :=
  PT.weak (pt_truth h he) fun σ H Q ⟨rho, F, al, d, r', R, e1, k⟩ => by
    unfold bTru at e1
    split at e1
    · rename_i d0 r1 q
      split at e1
      · rename_i b q2
        cases e1
        exact ⟨rho, F, al, d0, r', R, q, fun F1 al1 v H1 x1 R1 p1 => ⟨d, truth_ok R1.c p1 q2, k F1 al1 H1 x1 R1⟩⟩
      · cases e1
    · cases e1
theorem ft_not {m : MB} (h : PT X e (tFB X.K m)) : PT X (.UnaryOp .Not e pos) (tFB X.K (bNot m)) :=
  PT.weak (pt_not h) fun σ H Q ⟨rho, F, al, d, r', R, e1, k⟩ => by
    unfold bNot at e1
    split at e1
    · cases e1
      exact ⟨rho, F, al, _, r', R, by assumption, fun F1 al1 H1 x1 R1 => k F1 al1 H1 x1 R1⟩
    · cases e1
theorem fw_and1 {m : MB} (h : PT X e (tFB X.K m)) : PW X (.BoolOp .And [e] pos) (tFB X.K m) := pw_and1 h
theorem fw_or1 {m : MB} (h : PT X e (tFB X.K m)) : PW X (.BoolOp .Or [e] pos) (tFB X.K m) := pw_or1 h
theorem PW.weak {t t' : TT} (h : PW X e t) (w : ∀ σ H Q, t' σ H Q → t σ H Q) : PW X e t' := ⟨fun wh pins s σ H Q I q => h.run wh pins s σ H Q I (w σ H Q q)⟩
theorem w_and {ma mb : MB} : ∀ σ H Q, tFB X.K (bAnd ma mb) σ H Q → tAnd (tFB X.K ma) (tFB X.K mb) σ H Q := fun σ H Q ⟨rho, F, al, d, r', R, e1, k⟩ => by
  unfold bAnd at e1
  split at e1
  · rename_i r1 q
    exact ⟨rho, F, al, true, r1, R, q, fun F1 al1 H1 x1 R1 => iteT ⟨r1, F1, al1, d, r', R1, e1, fun F2 al2 H2 x2 R2 => k F2 al2 H2 (x1.trans x2) R2⟩⟩
  · rename_i q
    cases e1
    exact ⟨rho, F, al, false, r', R, q, fun F1 al1 H1 x1 R1 => iteF (k F1 al1 H1 x1 R1)⟩
  · cases e1
theorem w_or {ma mb : MB} : ∀ σ H Q, tFB X.K (bOr ma mb) σ H Q → tOr (tFB X.K ma) (tFB X.K mb) σ H Q := fun σ H Q ⟨rho, F, al, d, r', R, e1, k⟩ => by
  unfold bOr at e1
  split at e1
  · rename_i q
    cases e1
    exact ⟨rho, F, al, true, r', R, q, fun F1 al1 H1 x1 R1 => iteT (k F1 al1 H1 x1 R1)⟩
  · rename_i r1 q
    exact ⟨rho, F, al, false, r1, R, q, fun F1 al1 H1 x1 R1 => iteF ⟨r1, F1, al1, d, r', R1, e1, fun F2 al2 H2 x2 R2 => k F2 al2 H2 (x1.trans x2) R2⟩⟩
  · cases e1
theorem fw_and {ma mb : MB} (ha : PT X a (tFB X.K ma)) (hb : PW X (.BoolOp .And (b :: rest) pos) (tFB X.K mb)) : PW X (.BoolOp .And (a :: b :: rest) pos) (tFB X.K (bAnd ma mb)) := PW.weak (pw_and ha hb) w_and
theorem fw_or {ma mb : MB} (ha : PT X a (tFB X.K ma)) (hb : PW X (.BoolOp .Or (b :: rest) pos) (tFB X.K mb)) : PW X (.BoolOp .Or (a :: b :: rest) pos) (tFB X.K (bOr ma mb)) := PW.weak (pw_or ha hb) w_or
/-! .. as values: all but the last True or False -/
def eAnd (a b : M) : M := fun r => match a r with
  | some (.d (.bl true), r1) => b r1
  | some (.d (.bl false), r1) => some (.d (.bl false), r1)
  | _ => none
def eOr (a b : M) : M := fun r => match a r with
  | some (.d (.bl true), r1) => some (.d (.bl true), r1)
  | some (.d (.bl false), r1) => b r1
  | _ => none
def eNot (a : M) : M := fun r => match a r with
  | some (.d (.bl b), r1) => some (.d (.bl (!b)), r1)
  | _ => none
theorem pf_one {op} {m : M} (h : PE X e (tF X.K m)) : PE X (.BoolOp op [e] pos) (tF X.K m) := pe_one h
theorem pf_and {ma mb : M} (ha : PE X a (tF X.K ma)) (hb : PE X (.BoolOp .And (b :: rest) pos) (tF X.K mb)) : PE X (.BoolOp .And (a :: b :: rest) pos) (tF X.K (eAnd ma mb)) :=
  PE.weak (pe_and ha hb) fun σ H Q ⟨rho, F, al, d, r', R, e1, k⟩ => by
    unfold eAnd at e1
    split at e1
    · rename_i r1 q
      refine ⟨rho, F, al, _, r1, R, q, fun F1 al1 v H1 x1 R1 p1 => ?_⟩
      have p1 : v = .bl true := p1
      exact ⟨true, p1, iteT ⟨r1, F1, al1, d, r', R1, e1, fun F2 al2 v H2 x2 R2 p2 => k F2 al2 v H2 (x1.trans x2) R2 p2⟩⟩
    · rename_i q
      cases e1
      refine ⟨rho, F, al, _, r', R, q, fun F1 al1 v H1 x1 R1 p1 => ?_⟩
      have p1 : v = .bl false := p1
      exact ⟨false, p1, iteF (k F1 al1 _ H1 x1 R1 rfl)⟩
    · cases e1
theorem pf_or {ma mb : M} (ha : PE X a (tF X.K ma)) (hb : PE X (.BoolOp .Or (b :: rest) pos) (tF X.K mb)) : PE X (.BoolOp .Or (a :: b :: rest) pos) (tF X.K (eOr ma mb)) :=
  PE.weak (pe_or ha hb) fun σ H Q ⟨rho, F, al, d, r', R, e1, k⟩ => by
    unfold eOr at e1
    split at e1
    · rename_i q
      cases e1
      refine ⟨rho, F, al, _, r', R, q, fun F1 al1 v H1 x1 R1 p1 => ?_⟩
      have p1 : v = .bl true := p1
      exact ⟨true, p1, iteT (k F1 al1 _ H1 x1 R1 rfl)⟩
    · rename_i r1 q
      refine ⟨rho, F, al, _, r1, R, q, fun F1 al1 v H1 x1 R1 p1 => ?_⟩
      have p1 : v = .bl false := p1
      exact ⟨false, p1, iteF ⟨r1, F1, al1, d, r', R1, e1, fun F2 al2 v H2 x2 R2 p2 => k F2 al2 v H2 (x1.trans x2) R2 p2⟩⟩
    · cases e1
theorem pf_not {ma : M} (ha : PE X a (tF X.K ma)) : PE X (.UnaryOp .Not a pos) (tF X.K (eNot ma)) :=
  PE.weak (pe_not ha) fun σ H Q ⟨rho, F, al, d, r', R, e1, k⟩ => by
    unfold eNot at e1
    split at e1
    · rename_i b r1 q
      cases e1
      refine ⟨rho, F, al, _, _, R, q, fun F1 al1 v H1 x1 R1 p1 => ?_⟩
      have p1 : v = .bl b := p1
      exact ⟨b, p1, k F1 al1 _ H1 x1 R1 rfl⟩
    · cases e1
theorem pf_ifx {mc : MB} {ma mb : M} (hc : PT X c (tFB X.K mc)) (ha : PE X a (tF X.K ma)) (hb : PE X b (tF X.K mb)) : PE X (.IfExp c a b pos) (tF X.K (eIf mc ma mb)) :=
  PE.weak (pe_ifExp hc ha hb) fun σ H Q ⟨rho, F, al, d, r', R, e1, k⟩ => by
    unfold eIf at e1
    split at e1
    · rename_i r1 q
      exact ⟨rho, F, al, true, r1, R, q, fun F1 al1 H1 x1 R1 => iteT ⟨r1, F1, al1, d, r', R1, e1, fun F2 al2 v H2 x2 R2 p2 => k F2 al2 v H2 (x1.trans x2) R2 p2⟩⟩
    · rename_i r1 q
      exact ⟨rho, F, al, false, r1, R, q, fun F1 al1 H1 x1 R1 => iteF ⟨r1, F1, al1, d, r', R1, e1, fun F2 al2 v H2 x2 R2 p2 => k F2 al2 v H2 (x1.trans x2) R2 p2⟩⟩
    · cases e1
end

/-! ### targets -/
/-- what a target makes of a value; ws: the slots that it may touch -/
abbrev MG := W → Rho → Option Rho
def gF (K : PySem.W.Frag) (ws : List Nat) (g : MG) : TG := fun v σ H Q => ∃ r F al d r', Rel K r F al σ H ∧ Rep K F al d v ∧ g d r = some r' ∧
  ∀ F' al' σ' H', Ext F al H F' al' H' → Rel K r' F' al' σ' H' → σ'.length = σ.length → (∀ j, j ∉ ws → σ'[j]? = σ[j]?) → Q σ' H'
abbrev MGs := List W → Rho → Option Rho
def gFs (K : PySem.W.Frag) (ws : List Nat) (g : MGs) : TGs := fun v σ H Q => ∃ r F al d r', Rel K r F al σ H ∧ Reps K F al d v ∧ g d r = some r' ∧
  ∀ F' al' σ' H', Ext F al H F' al' H' → Rel K r' F' al' σ' H' → σ'.length = σ.length → (∀ j, j ∉ ws → σ'[j]? = σ[j]?) → Q σ' H'
def tName (i : Nat) : MG := fun d r => some { r with sl := r.sl.set i (some d) }
def tsNil : MGs := fun ds r => match ds with
  | [] => some r
  | _ => none
def tsCons (g : MG) (gs : MGs) : MGs := fun ds r => match ds with
  | d :: ds => match g d r with
    | some r1 => gs ds r1
    | none => none
  | _ => none
def tTupG (n : Nat) (gs : MGs) : MG := fun d r => match asTup d with
  | some ds => if ds.length = n then gs ds r else none
  | none => none
theorem PG.weak {X : Cx} {tg : Expr} {t t' : TG} (h : PG X tg t) (w : ∀ v σ H Q, t' v σ H Q → t v σ H Q) : PG X tg t' := ⟨fun pins s σ H v u Q I r q => h.run pins s σ H v u Q I r (w _ _ _ _ q)⟩
theorem PGs.weak {X : Cx} {tg : List Expr} {t t' : TGs} (h : PGs X tg t) (w : ∀ v σ H Q, t' v σ H Q → t v σ H Q) : PGs X tg t' := ⟨fun pins s σ H v u Q I r q => h.run pins s σ H v u Q I r (w _ _ _ _ q)⟩
section
variable {X : Cx} {pos : Pos}
theorem set_other {σ : St} {i : Nat} {v : Option V} : ∀ j, j ∉ [i] → (σ.set i v)[j]? = σ[j]? := fun j hj => List.getElem?_set_ne (fun e => hj (by rw [e]; exact List.mem_singleton.mpr rfl))
theorem fg_name {i : Nat} {x : Str} (h : PG X (.Name x pos) (gName i)) : PG X (.Name x pos) (gF X.K [i] (tName i)) := PG.weak h fun v σ H Q ⟨r, F, al, d, r', R, p, e1, k⟩ => by
  have e1 : some { r with sl := r.sl.set i (some d) } = some r' := e1
  cases e1
  exact k F al _ H (Ext.refl _ _ _) ⟨R.s.set i p, R.c⟩ List.length_set set_other
theorem fgs_nil : PGs X [] (gFs X.K [] tsNil) := PGs.weak pgs_nil fun v σ H Q ⟨r, F, al, d, r', R, p, e1, k⟩ => by
  cases d with
  | nil =>
    have e1 : some r = some r' := e1
    cases e1
    exact ⟨p, k F al σ H (Ext.refl _ _ _) R rfl fun _ _ => rfl⟩
  | cons d ds => cases e1
theorem fgs_cons {e : Expr} {es : List Expr} {g : MG} {gs : MGs} {ws ws' : List Nat} (h1 : PG X e (gF X.K ws g)) (h2 : PGs X es (gFs X.K ws' gs))
    (hs : (assignEach (e :: es) X.env).map (·.2) = assign e X.env :: (assignEach es X.env).map (·.2) := by rfl) : PGs X (e :: es) (gFs X.K (ws ++ ws') (tsCons g gs)) :=
  PGs.weak (pgs_cons h1 h2 hs) fun v σ H Q ⟨r, F, al, d, r', R, p, e1, k⟩ => by
    cases d with
    | nil => cases e1
    | cons d ds =>
      simp only [tsCons] at e1
      split at e1
      · rename_i r1 q
        obtain ⟨v, vs, rfl, p1, p2⟩ := p
        refine ⟨v, vs, rfl, r, F, al, d, r1, R, p1, q, fun F1 al1 σ1 H1 x1 R1 l1 o1 => ?_⟩
        refine ⟨r1, F1, al1, ds, r', R1, x1.reps p2, e1, fun F2 al2 σ2 H2 x2 R2 l2 o2 => k F2 al2 σ2 H2 (x1.trans x2) R2 (l2.trans l1) fun j hj => ?_⟩
        rw [List.mem_append, not_or] at hj
        exact (o2 j hj.2).trans (o1 j hj.1)
      · cases e1
theorem fg_tup {es : List Expr} {k : Nat} {gs : MGs} {n : Nat} {ws : List Nat} (hc : X.calm = true) (h : PGs X es (gFs X.K ws gs))
    (hn : (assignEach es X.env).length = n := by rfl) (hst : (assignEach es X.env).findIdx? (·.1) = none := by rfl) : PG X (.Tuple es k pos) (gF X.K ws (tTupG n gs)) :=
  PG.weak (pg_tup hc h hn hst) fun v σ H Q ⟨r, F, al, d, r', R, p, e1, k⟩ => by
    unfold tTupG at e1
    split at e1
    · rename_i ds et
      split at e1
      · obtain ⟨a, vs, rfl, h1, h2⟩ := asTup_ok p et
        exact ⟨a, vs, rfl, Same.seqT R.c.fh h1, by rw [h2.length]; assumption, r, F, al, ds, r', R, h2, e1, k⟩
      · cases e1
    · cases e1
end

/-! ### statements -/
def sNil : G := fun r => some (.nx r)
def sSeq (g h : G) : G := fun r => match g r with
  | some (.nx r1) => h r1
  | x => x
def sExpr (m : M) : G := fun r => match m r with
  | some (_, r1) => some (.nx r1)
  | none => none
def sRet (m : M) : G := fun r => match m r with
  | some (d, r1) => some (.ret d r1)
  | none => none
def sRetN : G := fun r => some (.ret (.d .non) r)
def sIf (c : MB) (g h : G) : G := fun r => match c r with
  | some (true, r1) => g r1
  | some (false, r1) => h r1
  | none => none
def sAsg (m : M) (g : MG) : G := fun r => match m r with
  | some (d, r1) => match g d r1 with
    | some r2 => some (.nx r2)
    | none => none
  | none => none
def sBrk : G := fun r => some (.bk r)
def sCnt : G := fun r => some (.ct r)
section
variable {X : Cx} {st : Stmt} {rest : List Stmt} {e tg : Expr} {pos : Pos}
theorem fss_nil : PSs X [] (tFS X.K sNil) := PSs.weak pss_nil fun D σ H ⟨r, F, al, o, R, e1, k⟩ => by
  have e1 : some (Out.nx r) = some o := e1
  cases e1
  exact k F al σ H (Ext.refl _ _ _) R
theorem w_seq {g h : G} : ∀ D σ H, tFS X.K (sSeq g h) D σ H → tSeq (tFS X.K g) (tFS X.K h) D σ H := fun D σ H ⟨r, F, al, o, R, e1, k⟩ => by
  unfold sSeq at e1
  split at e1
  · rename_i r1 q
    exact ⟨r, F, al, .nx r1, R, q, fun F1 al1 σ1 H1 x1 R1 => ⟨r1, F1, al1, o, R1, e1, k.ext x1⟩⟩
  · rename_i q
    refine ⟨r, F, al, o, R, e1, ?_⟩
    cases o with
    | nx r1 => exact absurd e1 (q r1)
    | ret d r1 => exact k
    | bk r1 => exact k
    | ct r1 => exact k
theorem fss_cons {g h : G} (h1 : PS X st (tFS X.K g)) (h2 : PSs X rest (tFS X.K h)) : PSs X (st :: rest) (tFS X.K (sSeq g h)) := PSs.weak (pss_cons h1 h2) w_seq
theorem fss_one {g : G} (h1 : PS X st (tFS X.K g)) : PSs X [st] (tFS X.K g) := pss_one h1
theorem fs_expr {m : M} (he : PE X e (tF X.K m)) (hs : swapsWith e none pos.line X.env = pure false := by rfl) : PS X (.Expr e pos) (tFS X.K (sExpr m)) :=
  PS.weak (ps_expr he hs) fun D σ H ⟨r, F, al, o, R, e1, k⟩ => by
    unfold sExpr at e1
    split at e1
    · rename_i d r1 q
      cases e1
      exact ⟨r, F, al, d, r1, R, q, fun F1 al1 v H1 x1 R1 p1 => k F1 al1 σ H1 x1 R1⟩
    · cases e1
theorem fs_ret {m : M} (he : PE X e (tF X.K m)) : PS X (.Return (some e) pos) (tFS X.K (sRet m)) :=
  PS.weak (ps_ret he) fun D σ H ⟨r, F, al, o, R, e1, k⟩ => by
    unfold sRet at e1
    split at e1
    · rename_i d r1 q
      cases e1
      exact ⟨r, F, al, d, r1, R, q, fun F1 al1 v H1 x1 R1 p1 => k F1 al1 v σ H1 x1 R1 p1⟩
    · cases e1
theorem fs_retN : PS X (.Return none pos) (tFS X.K sRetN) := PS.weak ps_retN fun D σ H ⟨r, F, al, o, R, e1, k⟩ => by
  have e1 : some (Out.ret (.d .non) r) = some o := e1
  cases e1
  exact k F al .non σ H (Ext.refl _ _ _) R rfl
theorem fs_pass : PS X (.Pass pos) (tFS X.K sNil) := PS.weak ps_pass fun D σ H ⟨r, F, al, o, R, e1, k⟩ => by
  have e1 : some (Out.nx r) = some o := e1
  cases e1
  exact k F al σ H (Ext.refl _ _ _) R
theorem fs_break : PS X (.Break pos) (tFS X.K sBrk) := PS.weak ps_break fun D σ H ⟨r, F, al, o, R, e1, k⟩ => by
  have e1 : some (Out.bk r) = some o := e1
  cases e1
  exact k F al σ H (Ext.refl _ _ _) R
theorem fs_continue : PS X (.Continue pos) (tFS X.K sCnt) := PS.weak ps_continue fun D σ H ⟨r, F, al, o, R, e1, k⟩ => by
  have e1 : some (Out.ct r) = some o := e1
  cases e1
  exact k F al σ H (Ext.refl _ _ _) R
theorem fs_if {c : Expr} {a b : List Stmt} {mc : MB} {g h : G} (hc : PT X c (tFB X.K mc)) (ha : PSs X a (tFS X.K g)) (hb : PSs X b (tFS X.K h)) : PS X (.If c a b pos) (tFS X.K (sIf mc g h)) :=
  PS.weak (ps_if hc ha hb) fun D σ H ⟨r, F, al, o, R, e1, k⟩ => by
    unfold sIf at e1
    split at e1
    · rename_i r1 q
      exact ⟨r, F, al, true, r1, R, q, fun F1 al1 H1 x1 R1 => iteT ⟨r1, F1, al1, o, R1, e1, k.ext x1⟩⟩
    · rename_i r1 q
      exact ⟨r, F, al, false, r1, R, q, fun F1 al1 H1 x1 R1 => iteF ⟨r1, F1, al1, o, R1, e1, k.ext x1⟩⟩
    · cases e1
theorem w_asg {m : M} {g : MG} {ws : List Nat} : ∀ D σ H, tFS X.K (sAsg m g) D σ H → tAsg (tF X.K m) (gF X.K ws g) D σ H := fun D σ H ⟨r, F, al, o, R, e1, k⟩ => by
  unfold sAsg at e1
  split at e1
  · rename_i d r1 q
    split at e1
    · rename_i r2 q2
      cases e1
      exact ⟨r, F, al, d, r1, R, q, fun F1 al1 v H1 x1 R1 p1 => ⟨r1, F1, al1, d, r2, R1, p1, q2, fun F2 al2 σ2 H2 x2 R2 _ _ => k F2 al2 σ2 H2 (x1.trans x2) R2⟩⟩
    · cases e1
  · cases e1
theorem w_set {m : M} {i : Nat} : ∀ D σ H, tFS X.K (sAsg m (tName i)) D σ H → tAsg (tF X.K m) (gName i) D σ H := fun D σ H ⟨r, F, al, o, R, e1, k⟩ => by
  unfold sAsg at e1
  split at e1
  · rename_i d r1 q
    have e1 : some (Out.nx { r1 with sl := r1.sl.set i (some d) }) = some o := e1
    cases e1
    exact ⟨r, F, al, d, r1, R, q, fun F1 al1 v H1 x1 R1 p1 => k F1 al1 _ H1 x1 ⟨R1.s.set i p1, R1.c⟩⟩
  · cases e1
theorem fs_asg {m : M} {g : MG} {ws : List Nat} (he : PE X e (tF X.K m)) (hg : PG X tg (gF X.K ws g)) (hs : swapsWithSole [tg] e pos.line X.env = pure false := by rfl) (hw : swappedStores [tg] e X.env = pure none := by rfl)
    (h1 : (assignEach [tg] X.env).map (·.2) = [assign tg X.env] := by rfl) : PS X (.Assign [tg] e pos) (tFS X.K (sAsg m g)) := PS.weak (ps_asg he hg hs hw h1) w_asg
theorem fs_set {i : Nat} {x : Str} {m : M} {pos' : Pos} (hN : X.N.Nodup) (hi : X.N[i]? = some x) (hx : Loc X.env.scope x) (he : PE X e (tF X.K m)) (hs : swapsWith e (some (.Name x pos')) pos.line X.env = pure false := by rfl)
    (hf : X.fn x = true ∨ X.env.scope.names.lookup x = some .local := by first | exact .inl rfl | exact .inr rfl | assumption) : PS X (.Assign [.Name x pos'] e pos) (tFS X.K (sAsg m (tName i))) :=
  PS.weak (ps_set hN hi hx he hs hf) w_set
end

/-! ### what is walked -/
/-- what is walked: data, or the cell n that stays these items -/
abbrev Ck := Option (List (Nat × List W))
def ckC : Ck → List Cell → Prop
  | none, _ => True
  | some ps, cl => ∀ p ∈ ps, cl[p.1]? = some (.lst p.2)
theorem ckC_one {n : Nat} {ws : List W} {cl : List Cell} (h : cl[n]? = some (.lst ws)) : ckC (some [(n, ws)]) cl := fun p hp => by
  rw [List.mem_singleton] at hp
  rw [hp]
  exact h
/-- J walks the items ds, over all that is at least (F, al) -/
structure Wk (K : PySem.W.Frag) (J : It) (F : Hp) (al : List Addr) (ds : List W) (ck : Ck) : Prop where
  go : ∀ (i : Nat) (d : W) (F1 : Hp) (al1 : List Addr) (cl1 : List Cell) (H1 : Hp), ds[i]? = some d → Same F F1 → (∃ be, al1 = al ++ be) → Cells K cl1 F1 al1 H1 → ckC ck cl1 →
    J.go i H1 ∧ ∀ x H2, J.yld i H1 x H2 → ∃ F2, Ext F1 al1 H1 F2 al1 H2 ∧ Cells K cl1 F2 al1 H2 ∧ Rep K F2 al1 d x
  stop : ∀ (i : Nat) (F1 : Hp) (al1 : List Addr) (cl1 : List Cell) (H1 : Hp), ds.length ≤ i → Same F F1 → (∃ be, al1 = al ++ be) → Cells K cl1 F1 al1 H1 → ckC ck cl1 → J.stop i H1
abbrev MI := Rho → Option ((List W × Ck) × Rho)
def iF (K : PySem.W.Frag) (m : MI) : TI := fun σ H R => ∃ r F al ds ck r', Rel K r F al σ H ∧ m r = some ((ds, ck), r') ∧
  ∀ F' al' J H', Ext F al H F' al' H' → Rel K r' F' al' σ H' → Wk K J F' al' ds ck → R J H'
theorem PI.weak {X : Cx} {tg e : Expr} {t t' : TI} (h : PI X tg e t) (w : ∀ σ H Q, t' σ H Q → t σ H Q) : PI X tg e t' := ⟨fun pins s σ H Q I q => h.run pins s σ H Q I (w σ H Q q)⟩
open Classical in
/-- the loop over what is left -/
noncomputable def forL (g : MG) (b : G) (ck : Ck) : List W → G
  | [] => fun r => if ckC ck r.cl then some (.nx r) else none
  | d :: ds => fun r => if ckC ck r.cl then match g d r with
    | none => none
    | some r1 => match b r1 with
      | some (.nx r2) => forL g b ck ds r2
      | some (.ct r2) => forL g b ck ds r2
      | some (.bk r2) => some (.nx r2)
      | some (.ret x r2) => some (.ret x r2)
      | none => none
    else none
noncomputable def sFor (m : MI) (g : MG) (b : G) : G := fun r => match m r with
  | some ((ds, ck), r1) => forL g b ck ds r1
  | none => none
section
variable {X : Cx} {tg iter : Expr} {body : List Stmt} {pos : Pos}
theorem w_for {m : MI} {g : MG} {b : G} {ws : List Nat} : ∀ D σ H, tFS X.K (sFor m g b) D σ H → tFor (iF X.K m) (gF X.K ws g) (tFS X.K b) D σ H := fun D σ H ⟨r, F, al, o, R, e1, k⟩ => by
  unfold sFor at e1
  split at e1
  · rename_i ds ck r1 q
    refine ⟨r, F, al, ds, ck, r1, R, q, fun F1 al1 J H1 x1 R1 W => ?_⟩
    refine ⟨fun i n σ' H' => n = ds.length - i ∧ ∃ r' F' al', Ext F1 al1 H1 F' al' H' ∧ Rel X.K r' F' al' σ' H' ∧ forL g b ck (ds.drop i) r' = some o, ⟨ds.length, rfl, r1, F1, al1, Ext.refl _ _ _, R1, e1⟩, ?_⟩
    rintro i n σ' H' ⟨rfl, r', F', al', x', R', e'⟩
    by_cases hi : i < ds.length
    · rw [List.drop_eq_getElem_cons hi] at e'
      unfold forL at e'
      split at e'
      rotate_left
      · cases e'
      rename_i hck
      split at e'
      · cases e'
      · rename_i r2 q2
        obtain ⟨g1, y1⟩ := W.go i ds[i] F' al' r'.cl H' (List.getElem?_eq_getElem hi) x'.f (let ⟨be, z, _⟩ := x'.a; ⟨be, z⟩) R'.c hck
        refine .inr ⟨g1, fun σ2 H2 => ∃ r3 F3 al3, Ext F1 al1 H1 F3 al3 H2 ∧ Rel X.K r3 F3 al3 σ2 H2 ∧ forL g b ck (ds.drop (i + 1)) r3 = some o, fun σ2 H2 z => ⟨ds.length - (i + 1), by omega, rfl, z⟩, fun x H2 hy => ?_⟩
        obtain ⟨F2, x2, C2, p2⟩ := y1 x H2 hy
        refine ⟨r', F2, al', ds[i], r2, ⟨R'.s.ext x2, C2⟩, p2, q2, fun F3 al3 σ3 H3 x3 R3 _ _ => ?_⟩
        have xx := x'.trans (x2.trans x3)
        cases hb : b r2 with
        | none =>
          rw [hb] at e'
          cases e'
        | some o2 =>
          rw [hb] at e'
          refine ⟨r2, F3, al3, o2, R3, hb, ?_⟩
          cases o2 with
          | nx r4 => exact fun F4 al4 σ4 H4 x4 R4 => ⟨r4, F4, al4, xx.trans x4, R4, e'⟩
          | ct r4 => exact fun F4 al4 σ4 H4 x4 R4 => ⟨r4, F4, al4, xx.trans x4, R4, e'⟩
          | bk r4 =>
            cases e'
            exact fun F4 al4 σ4 H4 x4 R4 => k F4 al4 σ4 H4 ((x1.trans xx).trans x4) R4
          | ret d r4 =>
            cases e'
            exact fun F4 al4 v σ4 H4 x4 R4 p4 => k F4 al4 v σ4 H4 ((x1.trans xx).trans x4) R4 p4
    · rw [List.drop_of_length_le (by omega)] at e'
      unfold forL at e'
      split at e'
      · rename_i hck
        cases e'
        exact .inl ⟨W.stop i F' al' r'.cl H' (by omega) x'.f (let ⟨be, z, _⟩ := x'.a; ⟨be, z⟩) R'.c hck, k F' al' σ' H' (x1.trans x') R'⟩
      · cases e'
  · cases e1
theorem fs_for {m : MI} {g : MG} {b : G} {ws : List Nat} (hp : PassesOwn (model X.prog X.w) X.A X.env X.xe) (hc : X.calm = true) (hi : PI X tg iter (iF X.K m)) (hg : PG X tg (gF X.K ws g)) (hb : PSs X body (tFS X.K b))
    (hs : ∀ x, foldedSetIterable iter X.env x = pure x := by intro _; rfl) : PS X (.For tg iter body [] pos) (tFS X.K (sFor m g b)) := PS.weak (ps_for hp hc hi hg hb hs) w_for
end
/-! ### while -/
def whN (c : MB) (b : G) : Nat → G
  | 0 => fun _ => none
  | n + 1 => fun r => match c r with
    | none => none
    | some (false, r1) => some (.nx r1)
    | some (true, r1) => match b r1 with
      | some (.nx r2) => whN c b n r2
      | some (.ct r2) => whN c b n r2
      | some (.bk r2) => some (.nx r2)
      | some (.ret x r2) => some (.ret x r2)
      | none => none
open Classical in
noncomputable def sWhile (c : MB) (b : G) : G := fun r => if h : ∃ n o, whN c b n r = some o then some (Classical.choose (Classical.choose_spec h)) else none
theorem whN_up {c : MB} {b : G} : ∀ (n : Nat) (r : Rho) (o : Out), whN c b n r = some o → whN c b (n + 1) r = some o
  | 0, r, o, h => by cases h
  | n + 1, r, o, h => by
    unfold whN at h ⊢
    cases hc : c r with
    | none =>
      rw [hc] at h
      cases h
    | some p =>
      obtain ⟨k, r1⟩ := p
      rw [hc] at h
      cases k with
      | false => exact h
      | true =>
        cases hb : b r1 with
        | none =>
          simp only [hb] at h
          cases h
        | some o2 =>
          simp only [hb] at h ⊢
          cases o2 with
          | nx r2 => exact whN_up n r2 o h
          | ct r2 => exact whN_up n r2 o h
          | bk r2 => exact h
          | ret d r2 => exact h
theorem whN_le {c : MB} {b : G} {n m : Nat} (h : n ≤ m) {r : Rho} {o : Out} (e : whN c b n r = some o) : whN c b m r = some o := by
  induction h with
  | refl => exact e
  | step _ ih => exact whN_up _ _ _ ih
theorem sWhile_of {c : MB} {b : G} {n : Nat} {r : Rho} {o : Out} (h : whN c b n r = some o) : sWhile c b r = some o := by
  unfold sWhile
  have hx : ∃ n o, whN c b n r = some o := ⟨n, o, h⟩
  rw [dif_pos hx]
  have q := Classical.choose_spec (Classical.choose_spec hx)
  have q1 := whN_le (Nat.le_max_left n (Classical.choose hx)) h
  have q2 := whN_le (Nat.le_max_right n (Classical.choose hx)) q
  rw [q1] at q2
  exact q2.symm
theorem sWhile_some {c : MB} {b : G} {r : Rho} {o : Out} (h : sWhile c b r = some o) : ∃ n, whN c b n r = some o := by
  unfold sWhile at h
  split at h
  · rename_i hx
    cases h
    exact ⟨_, Classical.choose_spec (Classical.choose_spec hx)⟩
  · cases h
section
variable {X : Cx} {body : List Stmt} {pos : Pos}
theorem w_while {mc : MB} {b : G} : ∀ D σ H, tFS X.K (sWhile mc b) D σ H → tWhile (tFB X.K mc) (tFS X.K b) D σ H := fun D σ H ⟨r, F, al, o, R, e1, k⟩ => by
  obtain ⟨n, e1⟩ := sWhile_some e1
  refine ⟨fun m σ' H' => ∃ r' F' al', Ext F al H F' al' H' ∧ Rel X.K r' F' al' σ' H' ∧ whN mc b m r' = some o, ⟨n, r, F, al, Ext.refl _ _ _, R, e1⟩, ?_⟩
  rintro m σ' H' ⟨r', F', al', x', R', e'⟩
  cases m with
  | zero => cases e'
  | succ m =>
    unfold whN at e'
    split at e'
    · cases e'
    · rename_i r1 q
      cases e'
      exact ⟨r', F', al', false, r1, R', q, fun F2 al2 H2 x2 R2 => iteF (k F2 al2 σ' H2 (x'.trans x2) R2)⟩
    · rename_i r1 q
      refine ⟨r', F', al', true, r1, R', q, fun F2 al2 H2 x2 R2 => iteT ?_⟩
      refine ⟨fun σ3 H3 => ∃ r3 F3 al3, Ext F al H F3 al3 H3 ∧ Rel X.K r3 F3 al3 σ3 H3 ∧ whN mc b m r3 = some o, fun σ3 H3 z => ⟨m, Nat.lt_succ_self m, z⟩, ?_⟩
      have xx := x'.trans x2
      cases hb : b r1 with
      | none =>
        rw [hb] at e'
        cases e'
      | some o2 =>
        rw [hb] at e'
        refine ⟨r1, F2, al2, o2, R2, hb, ?_⟩
        cases o2 with
        | nx r4 => exact fun F4 al4 σ4 H4 x4 R4 => ⟨r4, F4, al4, xx.trans x4, R4, e'⟩
        | ct r4 => exact fun F4 al4 σ4 H4 x4 R4 => ⟨r4, F4, al4, xx.trans x4, R4, e'⟩
        | bk r4 =>
          cases e'
          exact fun F4 al4 σ4 H4 x4 R4 => k F4 al4 σ4 H4 (xx.trans x4) R4
        | ret d r4 =>
          cases e'
          exact fun F4 al4 v σ4 H4 x4 R4 p4 => k F4 al4 v σ4 H4 (xx.trans x4) R4 p4
theorem fs_while {c : Expr} {mc : MB} {b : G} (hp : PassesOwn (model X.prog X.w) X.A X.env X.xe) (hc : PT X c (tFB X.K mc)) (hb : PSs X body (tFS X.K b)) : PS X (.While c body [] pos) (tFS X.K (sWhile mc b)) := PS.weak (ps_while hp hc hb) w_while
end
end FL

namespace FL
open PySem PySem.Spec L2

/-! ### the cells that a value refers to, and other numbers for them -/
mutual
def W.refs : W → List Nat
  | .d _ => []
  | .cel n => [n]
  | .tup ws => refsA ws
def refsA : List W → List Nat
  | [] => []
  | w :: ws => W.refs w ++ refsA ws
end
mutual
def W.mapc (f : Nat → Nat) : W → W
  | .d x => .d x
  | .cel n => .cel (f n)
  | .tup ws => .tup (mapcA f ws)
def mapcA (f : Nat → Nat) : List W → List W
  | [] => []
  | w :: ws => W.mapc f w :: mapcA f ws
end
def Cell.refs : Cell → List Nat
  | .lst ws => refsA ws
  | .dk _ ws => refsA ws
  | .dt _ ws => refsA ws
  | .ins _ _ ws => refsA ws
  | .gone => []
def Cell.mapc (f : Nat → Nat) : Cell → Cell
  | .lst ws => .lst (mapcA f ws)
  | .dk ks ws => .dk ks (mapcA f ws)
  | .dt ks ws => .dt ks (mapcA f ws)
  | .ins C fs ws => .ins C fs (mapcA f ws)
  | .gone => .gone
theorem refsA_map (ds : List D) : refsA (ds.map W.d) = [] := by
  induction ds with
  | nil => rfl
  | cons d ds ih => exact ih
theorem mapcA_map (f : Nat → Nat) (ds : List D) : mapcA f (ds.map W.d) = ds.map W.d := by
  induction ds with
  | nil => rfl
  | cons d ds ih =>
    show W.d d :: mapcA f (ds.map W.d) = W.d d :: ds.map W.d
    rw [ih]
theorem mapcA_len (f : Nat → Nat) : ∀ ws : List W, (mapcA f ws).length = ws.length
  | [] => rfl
  | w :: ws => by
    show (mapcA f ws).length + 1 = ws.length + 1
    rw [mapcA_len f ws]
section
variable {K : PySem.W.Frag} {F : Hp} {al be : List Addr} {f : Nat → Nat}
mutual
theorem Rep.mapc : ∀ {w : W} {v : V}, Rep K F al w v → (∀ n ∈ w.refs, ∀ a, al[n]? = some a → be[f n]? = some a) → Rep K F be (w.mapc f) v
  | .d x, _, h, _ => h
  | .cel n, _, ⟨a, e1, e2⟩, k => ⟨a, e1, k n (List.mem_singleton.mpr rfl) a e2⟩
  | .tup ws, _, ⟨a, vs, e1, e2, e3⟩, k => ⟨a, vs, e1, e2, Reps.mapc e3 k⟩
theorem Reps.mapc : ∀ {ws : List W} {vs : List V}, Reps K F al ws vs → (∀ n ∈ refsA ws, ∀ a, al[n]? = some a → be[f n]? = some a) → Reps K F be (mapcA f ws) vs
  | [], _, h, _ => h
  | w :: ws, _, ⟨v, r, e1, e2, e3⟩, k => ⟨v, r, e1, Rep.mapc e2 fun n hn => k n (List.mem_append_left _ hn), Reps.mapc e3 fun n hn => k n (List.mem_append_right _ hn)⟩
end
mutual
theorem Rep.lt : ∀ {w : W} {v : V}, Rep K F al w v → ∀ n ∈ w.refs, n < al.length
  | .d x, _, h, n, hn => nomatch hn
  | .cel n, _, ⟨a, e1, e2⟩, m, hm => by
    rw [List.mem_singleton.mp hm]
    exact (List.getElem?_eq_some_iff.mp e2).1
  | .tup ws, _, ⟨a, vs, e1, e2, e3⟩, n, hn => Reps.lt e3 n hn
theorem Reps.lt : ∀ {ws : List W} {vs : List V}, Reps K F al ws vs → ∀ n ∈ refsA ws, n < al.length
  | [], _, h, n, hn => nomatch hn
  | w :: ws, _, ⟨v, r, e1, e2, e3⟩, n, hn => (List.mem_append.mp hn).elim (Rep.lt e2 n) (Reps.lt e3 n)
end
theorem CellOk.mapc {H : Hp} {a : Addr} {c : Cell} (h : CellOk K F al H a c) (k : ∀ n ∈ c.refs, ∀ a, al[n]? = some a → be[f n]? = some a) : CellOk K F be H a (c.mapc f) := by
  cases c with
  | lst ws =>
    obtain ⟨n0, vs, q1, q2⟩ := h
    exact ⟨n0, vs, q1, q2.mapc k⟩
  | dk ks ws =>
    obtain ⟨n0, vs, q1, q0, q2⟩ := h
    exact ⟨n0, vs, q1, q0, q2.mapc k⟩
  | dt ks ws =>
    obtain ⟨n0, vs, q1, q0, q2⟩ := h
    exact ⟨n0, vs, q1, q0, q2.mapc k⟩
  | ins C fs ws =>
    obtain ⟨n0, dx, vs, q1, q0, q2⟩ := h
    exact ⟨n0, dx, vs, q1, q0, q2.mapc k⟩
  | gone => exact trivial
theorem CellOk.lt {H : Hp} {a : Addr} {c : Cell} (h : CellOk K F al H a c) : ∀ n ∈ c.refs, n < al.length := by
  cases c with
  | lst ws => exact h.2.elim fun vs q => q.2.lt
  | dk ks ws => exact h.2.elim fun vs q => q.2.2.lt
  | dt ks ws => exact h.2.elim fun vs q => q.2.2.lt
  | ins C fs ws => exact h.2.elim fun dx q => q.elim fun vs q => q.2.2.lt
  | gone => exact fun n hn => nomatch hn
/-- over other frozen things and another heap -/
theorem CellOk.to {F1 H H1 : Hp} {a : Addr} {c : Cell} (h : CellOk K F al H a c) (e : Same F F1) (eh : H1 a = H a) (ef : F a = none → F1 a = none) : CellOk K F1 al H1 a c := by
  have up : ∀ {ws : List W} {vs : List V}, Reps K F al ws vs → Reps K F1 al ws vs := fun q => by
    have := Reps.mono (be := []) e q
    rw [List.append_nil] at this
    exact this
  cases c with
  | lst ws =>
    obtain ⟨n0, vs, q1, q2⟩ := h
    exact ⟨ef n0, vs, by rw [eh]; exact q1, up q2⟩
  | dk ks ws =>
    obtain ⟨n0, vs, q1, q0, q2⟩ := h
    exact ⟨ef n0, vs, by rw [eh]; exact q1, q0, up q2⟩
  | dt ks ws =>
    obtain ⟨n0, vs, q1, q0, q2⟩ := h
    exact ⟨ef n0, vs, by rw [eh]; exact q1, q0, up q2⟩
  | ins C fs ws =>
    obtain ⟨n0, dx, vs, q1, q0, q2⟩ := h
    exact ⟨ef n0, dx, vs, by rw [eh]; exact q1, q0, up q2⟩
  | gone => exact trivial
end

/-! ### a part of the store -/
def cellAt (cl : List Cell) (i : Nat) : Cell := (cl[i]?).getD .gone
def clos (cl : List Cell) : Nat → List Nat → List Nat
  | 0, ids => ids
  | f + 1, ids =>
    let more := (ids.flatMap fun i => (cellAt cl i).refs).eraseDups.filter fun n => !ids.contains n
    if more.isEmpty then ids else clos cl f (ids ++ more)
/-- the part is closed, and each of it once -/
def isPart (cl : List Cell) (ids : List Nat) : Bool := decide ids.Nodup && ids.all fun i => decide (i < cl.length) && (cellAt cl i).refs.all fun n => ids.contains n
def ix (ids : List Nat) (n : Nat) : Nat := ids.idxOf n
def part (cl : List Cell) (ids : List Nat) : List Cell := ids.map fun i => (cellAt cl i).mapc (ix ids)
def partA (al : List Addr) (ids : List Nat) : List Addr := ids.map fun i => (al[i]?).getD 0
theorem ix_get {ids : List Nat} {n : Nat} (h : n ∈ ids) : ids[ix ids n]? = some n := by
  have q := List.idxOf_lt_length_of_mem h
  unfold ix
  rw [List.getElem?_eq_getElem q, List.getElem_idxOf]
theorem partA_get {al : List Addr} {ids : List Nat} {n : Nat} {a : Addr} (h : n ∈ ids) (e : al[n]? = some a) : (partA al ids)[ix ids n]? = some a := by
  unfold partA
  rw [List.getElem?_map, ix_get h]
  show some ((al[n]?).getD 0) = some a
  rw [e]
  rfl
theorem isPart_iff {cl : List Cell} {ids : List Nat} (h : isPart cl ids = true) : ids.Nodup ∧ ∀ i ∈ ids, i < cl.length ∧ ∀ n ∈ (cellAt cl i).refs, n ∈ ids := by
  unfold isPart at h
  simp only [Bool.and_eq_true, decide_eq_true_eq, List.all_eq_true, List.contains_iff_mem] at h
  exact h
theorem nodup_get {α : Type} {l : List α} (hN : l.Nodup) {i j : Nat} {x : α} (a : l[i]? = some x) (b : l[j]? = some x) : i = j := by
  obtain ⟨h1, e1⟩ := List.getElem?_eq_some_iff.mp a
  obtain ⟨h2, e2⟩ := List.getElem?_eq_some_iff.mp b
  exact (List.getElem_inj hN).mp (e1.trans e2.symm)
section
variable {K : PySem.W.Frag} {F H : Hp} {al : List Addr} {cl : List Cell}
theorem Cells.at (C : Cells K cl F al H) {i : Nat} (h : i < cl.length) : ∃ a, al[i]? = some a ∧ cl[i]? = some (cellAt cl i) ∧ CellOk K F al H a (cellAt cl i) := by
  have h' : i < al.length := by rw [C.len]; exact h
  have e : cl[i]? = some (cellAt cl i) := by
    unfold cellAt
    rw [List.getElem?_eq_getElem h]
    rfl
  exact ⟨al[i], List.getElem?_eq_getElem h', e, C.ok i _ _ (List.getElem?_eq_getElem h') e⟩
theorem partA_of (C : Cells K cl F al H) {ids : List Nat} (p : isPart cl ids = true) {j : Nat} {a : Addr} (h : (partA al ids)[j]? = some a) : ∃ i, ids[j]? = some i ∧ al[i]? = some a := by
  unfold partA at h
  rw [List.getElem?_map] at h
  obtain ⟨i, e1, e2⟩ := Option.map_eq_some_iff.mp h
  obtain ⟨b, q1, _⟩ := C.at ((isPart_iff p).2 i (List.mem_of_getElem? e1)).1
  rw [q1] at e2
  cases e2
  exact ⟨i, e1, q1⟩
theorem Cells.part (C : Cells K cl F al H) {ids : List Nat} (p : isPart cl ids = true) : Cells K (part cl ids) F (partA al ids) H := by
  obtain ⟨nd, cls⟩ := isPart_iff p
  refine ⟨C.fh, by unfold partA FL.part; rw [List.length_map, List.length_map], fun n a c h1 h2 => ?_, ?_, fun a ha => ?_⟩
  · obtain ⟨i, e1, e2⟩ := partA_of C p h1
    unfold FL.part at h2
    rw [List.getElem?_map, e1] at h2
    have h2 : some ((cellAt cl i).mapc (ix ids)) = some c := h2
    cases h2
    obtain ⟨b, q1, q2, q3⟩ := C.at (cls i (List.mem_of_getElem? e1)).1
    rw [e2] at q1
    cases q1
    exact q3.mapc fun m hm a' e => partA_get ((cls i (List.mem_of_getElem? e1)).2 m hm) e
  · refine List.pairwise_iff_getElem.mpr fun i j hi hj hij e => ?_
    obtain ⟨x, e1, e2⟩ := partA_of C p (List.getElem?_eq_getElem hi)
    obtain ⟨y, e3, e4⟩ := partA_of C p (List.getElem?_eq_getElem hj)
    rw [← e] at e4
    have exy := nodup_get C.nd e2 e4
    subst exy
    exact Nat.ne_of_lt hij (nodup_get nd e1 e3)
  · obtain ⟨j, hj⟩ := List.getElem?_of_mem ha
    obtain ⟨i, e1, e2⟩ := partA_of C p hj
    exact C.has a (List.mem_of_getElem? e2)
end

/-! ### back from a part -/
def setAll : List Cell → List Nat → List Cell → List Cell
  | cl, i :: is, c :: cs => setAll (cl.set i c) is cs
  | cl, _, _ => cl
/-- the number behind the call: one of the part, or a new one -/
def back (n : Nat) (ids : List Nat) (j : Nat) : Nat := if j < ids.length then (ids[j]?).getD 0 else n + (j - ids.length)
def merge (cl : List Cell) (ids : List Nat) (st : List Cell) : List Cell := setAll cl ids ((st.take ids.length).map (Cell.mapc (back cl.length ids))) ++ (st.drop ids.length).map (Cell.mapc (back cl.length ids))
theorem setAll_len : ∀ (cl : List Cell) (ids : List Nat) (cs : List Cell), (setAll cl ids cs).length = cl.length
  | cl, [], cs => by
    cases cs <;> rfl
  | cl, i :: is, [] => rfl
  | cl, i :: is, c :: cs => by
    show (setAll (cl.set i c) is cs).length = cl.length
    rw [setAll_len, List.length_set]
theorem setAll_out : ∀ (cl : List Cell) (ids : List Nat) (cs : List Cell) (k : Nat), k ∉ ids → (setAll cl ids cs)[k]? = cl[k]?
  | cl, [], cs, k, h => by
    cases cs <;> rfl
  | cl, i :: is, [], k, h => rfl
  | cl, i :: is, c :: cs, k, h => by
    show (setAll (cl.set i c) is cs)[k]? = cl[k]?
    rw [setAll_out _ is cs k (fun z => h (List.mem_cons_of_mem _ z)), List.getElem?_set_ne (fun e => h (by rw [e]; exact List.mem_cons_self))]
theorem setAll_in : ∀ (cl : List Cell) (ids : List Nat) (cs : List Cell) (j k : Nat) (c : Cell), ids.Nodup → ids[j]? = some k → k < cl.length → cs[j]? = some c → (setAll cl ids cs)[k]? = some c
  | cl, [], cs, j, k, c, nd, h1, h2, h3 => by simp at h1
  | cl, i :: is, [], j, k, c, nd, h1, h2, h3 => by simp at h3
  | cl, i :: is, c0 :: cs, 0, k, c, nd, h1, h2, h3 => by
    have h1 : some i = some k := h1
    have h3 : some c0 = some c := h3
    cases h1
    cases h3
    show (setAll (cl.set i c0) is cs)[i]? = some c0
    rw [setAll_out _ is cs i (List.nodup_cons.mp nd).1, List.getElem?_set_self h2]
  | cl, i :: is, c0 :: cs, j + 1, k, c, nd, h1, h2, h3 => by
    have h1 : is[j]? = some k := h1
    have h3 : cs[j]? = some c := h3
    exact setAll_in (cl.set i c0) is cs j k c (List.nodup_cons.mp nd).2 h1 (by rw [List.length_set]; exact h2) h3
/-- the caller's cells behind a call that had the part -/
theorem Cells.merge {K : PySem.W.Frag} {F H F1 H1 : Hp} {al al1 : List Addr} {cl st : List Cell} {ids : List Nat} (C : Cells K cl F al H) (p : isPart cl ids = true) (x : Ext F (partA al ids) H F1 al1 H1) (C1 : Cells K st F1 al1 H1) :
    Ext F al H F1 (al ++ al1.drop ids.length) H1 ∧ Cells K (merge cl ids st) F1 (al ++ al1.drop ids.length) H1 ∧ ∀ n a, al1[n]? = some a → (al ++ al1.drop ids.length)[back cl.length ids n]? = some a := by
  obtain ⟨nd, cls⟩ := isPart_iff p
  obtain ⟨be, eb, hb⟩ := x.a
  have lp : (partA al ids).length = ids.length := by unfold partA; rw [List.length_map]
  have ed : al1.drop ids.length = be := by rw [eb, List.drop_append, ← lp, List.drop_length, Nat.sub_self]; rfl
  have inal : ∀ b, b ∈ partA al ids → b ∈ al := fun b hb => by
    obtain ⟨j, hj⟩ := List.getElem?_of_mem hb
    obtain ⟨i, e1, e2⟩ := partA_of C p hj
    exact List.mem_of_getElem? e2
  have bk : ∀ n a, al1[n]? = some a → (al ++ al1.drop ids.length)[back cl.length ids n]? = some a := fun n a e => by
    rw [ed]
    unfold back
    by_cases hn : n < ids.length
    · rw [if_pos hn]
      rw [eb, List.getElem?_append_left (by rw [lp]; exact hn)] at e
      obtain ⟨i, e1, e2⟩ := partA_of C p e
      rw [e1]
      show (al ++ be)[i]? = some a
      exact get_pre e2
    · rw [if_neg hn]
      rw [eb, List.getElem?_append_right (by rw [lp]; omega), lp] at e
      rw [List.getElem?_append_right (by rw [C.len]; omega), C.len, Nat.add_sub_cancel_left]
      exact e
  have X1 : Ext F al H F1 (al ++ al1.drop ids.length) H1 := ⟨x.f, ⟨be, by rw [ed], hb⟩, fun b o h hn => x.h b o h fun z => hn (inal b z), fun b o h => (x.n b o h).imp_right fun q => q.imp_right (inal b), x.t⟩
  refine ⟨X1, ⟨C1.fh, ?_, fun n a c h1 h2 => ?_, ?_, fun a ha => ?_⟩, bk⟩
  · unfold FL.merge
    rw [List.length_append, List.length_append, setAll_len, List.length_map, C.len, List.length_drop, List.length_drop, C1.len]
  · by_cases hn : n < cl.length
    · rw [List.getElem?_append_left (by rw [C.len]; exact hn)] at h1
      unfold FL.merge at h2
      rw [List.getElem?_append_left (by rw [setAll_len]; exact hn)] at h2
      by_cases hi : n ∈ ids
      · have e1 := ix_get hi
        have h3 := partA_get hi h1
        have hlt : ix ids n < al1.length := by
          rw [eb, List.length_append]
          have := (List.getElem?_eq_some_iff.mp h3).1
          omega
        have hlt2 : ix ids n < st.length := by rw [← C1.len]; exact hlt
        have hk : ix ids n < ids.length := (List.getElem?_eq_some_iff.mp e1).1
        have h4 : ((st.take ids.length).map (Cell.mapc (back cl.length ids)))[ix ids n]? = some ((st[ix ids n]).mapc (back cl.length ids)) := by
          rw [List.getElem?_map, List.getElem?_take_of_lt hk, List.getElem?_eq_getElem hlt2]
          rfl
        rw [setAll_in cl ids _ (ix ids n) n _ nd e1 hn h4] at h2
        cases h2
        have h5 : al1[ix ids n]? = some a := by
          rw [eb]
          exact get_pre h3
        exact (C1.ok _ _ _ h5 (List.getElem?_eq_getElem hlt2)).mapc fun m _ a' e => bk m a' e
      · rw [setAll_out _ _ _ _ hi] at h2
        have h3 := C.ok n a c h1 h2
        have hna : a ∉ partA al ids := fun z => by
          obtain ⟨j, hj⟩ := List.getElem?_of_mem z
          obtain ⟨i, e1, e2⟩ := partA_of C p hj
          have := nodup_get C.nd h1 e2
          subst this
          exact hi (List.mem_of_getElem? e1)
        have hH : H1 a = H a := by
          cases e : H a with
          | none => exact absurd e (C.has a (List.mem_of_getElem? h1))
          | some o => exact x.h a o e hna
        have hF : F a = none → F1 a = none := fun z => by
          cases e : F1 a with
          | none => rfl
          | some o =>
            rcases x.n a o e with q | q | q
            · rw [z] at q
              cases q
            · exact absurd q (C.has a (List.mem_of_getElem? h1))
            · exact absurd q hna
        have h4 := (h3.to x.f hH hF).mapc (f := fun n => n) (be := al ++ al1.drop ids.length) fun m _ a' e => get_pre e
        have idm : c.mapc (fun n => n) = c := by
          have m1 : ∀ ws : List W, mapcA (fun n => n) ws = ws := by
            have := @W.rec (fun w => w.mapc (fun n => n) = w) (fun ws => mapcA (fun n => n) ws = ws) (fun _ => rfl) (fun _ => rfl) (fun ws ih => by show W.tup (mapcA _ ws) = W.tup ws; rw [ih]) rfl (fun w ws i1 i2 => by show w.mapc _ :: mapcA _ ws = w :: ws; rw [i1, i2])
            intro ws
            induction ws with
            | nil => rfl
            | cons w ws ih =>
              show w.mapc _ :: mapcA _ ws = w :: ws
              rw [ih, this w]
          cases c with
          | lst ws => show Cell.lst (mapcA _ ws) = _; rw [m1]
          | dk ks ws => show Cell.dk ks (mapcA _ ws) = _; rw [m1]
          | dt ks ws => show Cell.dt ks (mapcA _ ws) = _; rw [m1]
          | ins C fs ws => show Cell.ins C fs (mapcA _ ws) = _; rw [m1]
          | gone => rfl
        rw [idm] at h4
        exact h4
    · rw [ed, List.getElem?_append_right (by rw [C.len]; omega), C.len] at h1
      unfold FL.merge at h2
      rw [List.getElem?_append_right (by rw [setAll_len]; omega), setAll_len, List.getElem?_map, List.getElem?_drop] at h2
      obtain ⟨c0, e1, e2⟩ := Option.map_eq_some_iff.mp h2
      subst e2
      have h5 : al1[ids.length + (n - cl.length)]? = some a := by
        rw [eb, List.getElem?_append_right (by rw [lp]; omega), lp, Nat.add_sub_cancel_left]
        exact h1
      exact (C1.ok _ _ _ h5 e1).mapc fun m _ a' e => bk m a' e
  · rw [ed, List.nodup_append]
    have ndb : be.Nodup := by
      have := C1.nd
      rw [eb] at this
      exact (List.nodup_append.mp this).2.1
    refine ⟨C.nd, ndb, fun a ha b hb' e => ?_⟩
    subst e
    exact C.has a ha (hb a hb')
  · rcases List.mem_append.mp ha with z | z
    · exact X1.t a (C.has a z)
    · exact C1.has a (List.mem_of_mem_drop z)
end FL

namespace FL
open PySem PySem.Spec L2 PyProof.Rows

/-! ### calls -/
def spF (K : PySem.W.Frag) (n : Nat) (f : OpN) : Sp := fun vs H Q _ => ∃ cl F al ds, Cells K cl F al H ∧ Reps K F al ds vs ∧ ds.length = n ∧ PostV K F al H Q (f cl ds)
def idsOf (cl : List Cell) (ds : List W) : List Nat := clos cl (cl.length + 1) (refsA ds).eraseDups
/-- a call: the callee sees the cells that its arguments reach -/
def oCall (f : OpN) : OpN := fun cl ds =>
  let ids := idsOf cl ds
  if isPart cl ids && (refsA ds).all fun n => ids.contains n then
    match f (part cl ids) (mapcA (ix ids) ds) with
    | some (w, st) => some (w.mapc (back cl.length ids), merge cl ids st)
    | none => none
  else none
/-- new cells (from m on) as data -/
def purW (st : List Cell) (m : Nat) : Nat → W → Option D
  | _, .d x => some x
  | k + 1, .cel j => if j < m then none else match st[j]? with
    | some (.lst ws) => (ws.mapM (purW st m k)).map .lst
    | some (.dk ks ws) => (ws.mapM (purW st m k)).map (.dk ks)
    | some (.dt ks ws) => (ws.mapM (purW st m k)).map (.dt ks)
    | some (.ins C fs ws) => (ws.mapM (purW st m k)).map (.ins C fs)
    | _ => none
  | k + 1, .tup ws => (ws.mapM (purW st m k)).map .tup
  | 0, _ => none
/-- a call whose result is wanted as data: what is new is frozen -/
def oCallP (f : OpN) : OpN := fun cl ds =>
  let ids := idsOf cl ds
  if isPart cl ids && (refsA ds).all fun n => ids.contains n then
    match f (part cl ids) (mapcA (ix ids) ds) with
    | some (w, st) => match purW st ids.length 8 w with
      | some x => if (st.take ids.length).all fun c => c.refs.all fun n => decide (n < ids.length) then some (.d x, merge cl ids (st.take ids.length)) else none
      | none => none
    | none => none
  else none
section
variable {K : PySem.W.Frag} {F H : Hp} {al : List Addr} {cl : List Cell} {ds : List W} {vs : List V}
theorem Reps.part (C : Cells K cl F al H) (r : Reps K F al ds vs) {ids : List Nat} (h : ∀ n ∈ refsA ds, n ∈ ids) : Reps K F (partA al ids) (mapcA (ix ids) ds) vs := r.mapc fun n hn a e => partA_get (h n hn) e
theorem ids_ok {p : Bool} {ids : List Nat} (h : (p && (refsA ds).all fun n => ids.contains n) = true) : p = true ∧ ∀ n ∈ refsA ds, n ∈ ids := by
  simp only [Bool.and_eq_true, List.all_eq_true, List.contains_iff_mem] at h
  exact h
theorem w_spF {f : OpN} {n : Nat} (hl : vs.length = n) {Q : VK} {E : XK} (h : rNF K (oCall f) vs H Q) : spF K n f vs H Q E := by
  obtain ⟨cl, F, al, ds, C, r, k⟩ := h
  obtain ⟨d, cl', e, kk⟩ := k.some
  unfold oCall at e
  simp only at e
  split at e
  · rename_i hp
    obtain ⟨p, hi⟩ := ids_ok hp
    split at e
    · rename_i w st ef
      cases e
      refine ⟨part cl (idsOf cl ds), F, partA al (idsOf cl ds), mapcA (ix (idsOf cl ds)) ds, C.part p, r.part C hi, by rw [mapcA_len, ← r.length]; exact hl, ?_⟩
      rw [ef]
      intro F1 al1 v H1 x C1 q
      obtain ⟨X, C2, bk⟩ := C.merge p x C1
      exact kk F1 _ v H1 X C2 (q.mapc fun n _ a e => bk n a e)
    · cases e
  · cases e
theorem purW_ok {st : List Cell} {F1 F2 H1 : Hp} {al1 : List Addr} {m : Nat} (C1 : Cells K st F1 al1 H1) (s : Same F1 F2) (hn : ∀ (j : Nat) (a : Addr), m ≤ j → al1[j]? = some a → F2 a = H1 a) :
    ∀ (k : Nat) {w : W} {v : V} {x : D}, Rep K F1 al1 w v → purW st m k w = some x → Rep0 K F2 x v := by
  intro k
  induction k with
  | zero =>
    intro w v x r h
    cases w with
    | d y =>
      cases h
      exact Rep0.mono s r
    | cel n => cases h
    | tup ws => cases h
  | succ k ih =>
    have all : ∀ {ws : List W} {vs : List V} {xs : List D}, Reps K F1 al1 ws vs → ws.mapM (purW st m k) = some xs → Reps0 K F2 xs vs := by
      intro ws
      induction ws with
      | nil =>
        intro vs xs r h
        have h : some [] = some xs := h
        cases h
        exact r
      | cons w ws ihw =>
        intro vs xs r h
        obtain ⟨v, vr, rfl, r1, r2⟩ := r
        rw [List.mapM_cons] at h
        simp only [Option.bind_eq_bind, Option.bind_eq_some_iff, Option.pure_def, Option.some.injEq] at h
        obtain ⟨y, h1, ys, h2, rfl⟩ := h
        exact ⟨v, vr, rfl, ih r1 h1, ihw r2 h2⟩
    intro w v x r h
    cases w with
    | d y =>
      cases h
      exact Rep0.mono s r
    | tup ws =>
      obtain ⟨a, vs, rfl, h1, h2⟩ := r
      have h : (ws.mapM (purW st m k)).map D.tup = some x := h
      obtain ⟨xs, q1, rfl⟩ := Option.map_eq_some_iff.mp h
      exact ⟨a, vs, rfl, s _ _ h1, all h2 q1⟩
    | cel n =>
      obtain ⟨a, rfl, ha⟩ := r
      unfold purW at h
      split at h
      · cases h
      · rename_i hm
        have hF := hn n a (by omega) ha
        split at h
        · rename_i ws e
          obtain ⟨_, vs, q1, q2⟩ := C1.ok n a _ ha e
          obtain ⟨xs, q3, rfl⟩ := Option.map_eq_some_iff.mp h
          exact ⟨a, vs, rfl, hF.trans q1, all q2 q3⟩
        · rename_i ks ws e
          obtain ⟨_, vs, q1, q0, q2⟩ := C1.ok n a _ ha e
          obtain ⟨xs, q3, rfl⟩ := Option.map_eq_some_iff.mp h
          exact ⟨a, vs, rfl, .inl (hF.trans q1), q0, all q2 q3⟩
        · rename_i ks ws e
          obtain ⟨_, vs, q1, q0, q2⟩ := C1.ok n a _ ha e
          obtain ⟨xs, q3, rfl⟩ := Option.map_eq_some_iff.mp h
          exact ⟨a, vs, rfl, .inl (hF.trans q1), q0, all q2 q3⟩
        · rename_i Cc fs ws e
          obtain ⟨_, dx, vs, q1, q0, q2⟩ := C1.ok n a _ ha e
          obtain ⟨xs, q3, rfl⟩ := Option.map_eq_some_iff.mp h
          exact ⟨a, dx, vs, rfl, hF.trans q1, q0, all q2 q3⟩
        · cases h
/-- all that is new is frozen -/
theorem Cells.froze {st : List Cell} {F1 H1 : Hp} {al0 al1 : List Addr} (x : Ext F al0 H F1 al1 H1) (C1 : Cells K st F1 al1 H1) (m : Nat) (hm : al0.length = m) (hr : ∀ c ∈ st.take m, ∀ n ∈ c.refs, n < m) :
    ∃ F2, Same F1 F2 ∧ (∀ (j : Nat) (a : Addr), m ≤ j → al1[j]? = some a → F2 a = H1 a) ∧ Ext F al0 H F2 al0 H1 ∧ Cells K (st.take m) F2 al0 H1 := by
  obtain ⟨be, eb, hb⟩ := x.a
  have new : ∀ b, b ∈ be → b ∉ al0 := fun b h z => by
    have := C1.nd
    rw [eb] at this
    exact (List.nodup_append.mp this).2.2 b z b h rfl
  refine ⟨fun b => if b ∈ be then H1 b else F1 b, fun b o h => ?_, fun j a hj e => ?_, ?_, ?_⟩
  · show (if b ∈ be then H1 b else F1 b) = some o
    split
    · exact C1.fh b o h
    · exact h
  · show (if a ∈ be then H1 a else F1 a) = H1 a
    rw [eb, List.getElem?_append_right (by omega)] at e
    rw [if_pos (List.mem_of_getElem? e)]
  · refine ⟨fun b o h => ?_, ⟨[], by simp, by simp⟩, fun b o h hn => x.h b o h hn, fun b o h => ?_, x.t⟩
    · show (if b ∈ be then H1 b else F1 b) = some o
      split
      · exact C1.fh b o (x.f b o h)
      · exact x.f b o h
    · have h : (if b ∈ be then H1 b else F1 b) = some o := h
      split at h
      · exact .inr (.inl (hb b (by assumption)))
      · exact x.n b o h
  · refine ⟨fun b o h => ?_, ?_, fun n a c h1 h2 => ?_, ?_, fun a ha => C1.has a (by rw [eb]; exact List.mem_append_left _ ha)⟩
    · have h : (if b ∈ be then H1 b else F1 b) = some o := h
      split at h
      · exact h
      · exact C1.fh b o h
    · rw [List.length_take, ← C1.len, eb, List.length_append]
      omega
    · have hn : n < m := by
        rw [← hm]
        exact (List.getElem?_eq_some_iff.mp h1).1
      have h3 := h2
      rw [List.getElem?_take_of_lt hn] at h2
      have q := C1.ok n a c (by rw [eb]; exact get_pre h1) h2
      have q2 := q.to (F1 := fun b => if b ∈ be then H1 b else F1 b) (H1 := H1) (fun b o h => by
        show (if b ∈ be then H1 b else F1 b) = some o
        split
        · exact C1.fh b o h
        · exact h) rfl (fun z => by
        show (if a ∈ be then H1 a else F1 a) = none
        rw [if_neg (fun z => new a z (List.mem_of_getElem? h1))]
        exact z)
      have q3 := q2.mapc (f := fun n => n) (be := al0) fun k hk a' e => by
        have hk' := hr c (List.mem_of_getElem? h3) k hk
        rw [eb, List.getElem?_append_left (by omega)] at e
        exact e
      have idm : c.mapc (fun n => n) = c := by
        have m1 : ∀ ws : List W, mapcA (fun n => n) ws = ws := by
          have := @W.rec (fun w => w.mapc (fun n => n) = w) (fun ws => mapcA (fun n => n) ws = ws) (fun _ => rfl) (fun _ => rfl) (fun ws ih => by show W.tup (mapcA _ ws) = W.tup ws; rw [ih]) rfl (fun w ws i1 i2 => by show w.mapc _ :: mapcA _ ws = w :: ws; rw [i1, i2])
          intro ws
          induction ws with
          | nil => rfl
          | cons w ws ih =>
            show w.mapc _ :: mapcA _ ws = w :: ws
            rw [ih, this w]
        cases c with
        | lst ws => show Cell.lst (mapcA _ ws) = _; rw [m1]
        | dk ks ws => show Cell.dk ks (mapcA _ ws) = _; rw [m1]
        | dt ks ws => show Cell.dt ks (mapcA _ ws) = _; rw [m1]
        | ins C fs ws => show Cell.ins C fs (mapcA _ ws) = _; rw [m1]
        | gone => rfl
      rw [idm] at q3
      exact q3
    · have := C1.nd
      rw [eb] at this
      exact (List.nodup_append.mp this).1
theorem w_spFP {f : OpN} {n : Nat} (hl : vs.length = n) {Q : VK} {E : XK} (h : rNF K (oCallP f) vs H Q) : spF K n f vs H Q E := by
  obtain ⟨cl, F, al, ds, C, r, k⟩ := h
  obtain ⟨d, cl', e, kk⟩ := k.some
  unfold oCallP at e
  simp only at e
  split at e
  · rename_i hp
    obtain ⟨p, hi⟩ := ids_ok hp
    split at e
    · rename_i w st ef
      split at e
      · rename_i y ey
        split at e
        · rename_i hc
          cases e
          refine ⟨part cl (idsOf cl ds), F, partA al (idsOf cl ds), mapcA (ix (idsOf cl ds)) ds, C.part p, r.part C hi, by rw [mapcA_len, ← r.length]; exact hl, ?_⟩
          rw [ef]
          intro F1 al1 v H1 x C1 q
          simp only [List.all_eq_true, decide_eq_true_eq] at hc
          obtain ⟨F2, s2, n2, x2, C2⟩ := C1.froze x (idsOf cl ds).length (by unfold partA; rw [List.length_map]) hc
          obtain ⟨X, C3, bk⟩ := C.merge p x2 C2
          exact kk F2 _ v H1 X C3 (purW_ok C1 s2 n2 8 q ey)
        · cases e
      · cases e
    · cases e
  · cases e
end

/-! ### a def -/
def fin (m : Nat) (w : W) (cl : List Cell) : R0 :=
  let ids := clos cl (cl.length + 1) (List.range m ++ (w.refs.filter fun n => decide (m ≤ n)).eraseDups)
  if isPart cl ids && (w.refs.all fun n => ids.contains n) && decide (ids.take m = List.range m) then some (w.mapc (ix ids), part cl ids) else none
def runG (N : Nat) (g : G) : OpN := fun cl ds => match g ⟨ds.map some ++ List.replicate (N - ds.length) none, cl⟩ with
  | some (.ret w r) => fin cl.length w r.cl
  | some (.nx r) => fin cl.length (.d .non) r.cl
  | _ => none
theorem fin_ok {K : PySem.W.Frag} {F H F1 H1 : Hp} {al al1 : List Addr} {cl st : List Cell} {w : W} {v : V} {Q : VK} (C : Cells K cl F al H) (k : PostV K F al H Q (fin cl.length w st)) (x : Ext F al H F1 al1 H1) (C1 : Cells K st F1 al1 H1) (r : Rep K F1 al1 w v) : Q v H1 := by
  obtain ⟨d, cl', e, kk⟩ := k.some
  unfold fin at e
  simp only at e
  generalize clos st (st.length + 1) (List.range cl.length ++ (w.refs.filter fun n => decide (cl.length ≤ n)).eraseDups) = ids at e
  split at e
  · rename_i hc
    simp only [Bool.and_eq_true, decide_eq_true_eq, List.all_eq_true, List.contains_iff_mem] at hc
    obtain ⟨⟨p, hr⟩, ht⟩ := hc
    cases e
    obtain ⟨nd, cls⟩ := isPart_iff p
    obtain ⟨be, eb, hb⟩ := x.a
    have hle : cl.length ≤ ids.length := by
      have := congrArg List.length ht
      rw [List.length_take, List.length_range] at this
      omega
    have ea : partA al1 ids = al ++ (partA al1 ids).drop cl.length := by
      have e1 : (partA al1 ids).take cl.length = al := by
        unfold partA
        rw [← List.map_take, ht]
        refine List.ext_getElem? fun i => ?_
        rw [List.getElem?_map]
        by_cases hi : i < cl.length
        · rw [List.getElem?_range hi]
          show some ((al1[i]?).getD 0) = al[i]?
          rw [eb, List.getElem?_append_left (by rw [C.len]; exact hi), List.getElem?_eq_getElem (by rw [C.len]; exact hi)]
          rfl
        · rw [List.getElem?_eq_none (by rw [List.length_range]; omega), List.getElem?_eq_none (by rw [C.len]; omega)]
          rfl
      conv => lhs; rw [← List.take_append_drop cl.length (partA al1 ids), e1]
    have nb : ∀ b ∈ (partA al1 ids).drop cl.length, b ∈ be := fun b hb' => by
      obtain ⟨j, hj⟩ := List.getElem?_of_mem hb'
      rw [List.getElem?_drop] at hj
      obtain ⟨i, e1, e2⟩ := partA_of C1 p hj
      have hi : ¬ i < cl.length := fun hi => by
        have e3 : ids[i]? = some i := by
          have := congrArg (fun l => l[i]?) ht
          simp only [List.getElem?_take_of_lt hi, List.getElem?_range hi] at this
          exact this
        have := nodup_get nd e1 e3
        omega
      rw [eb, List.getElem?_append_right (by rw [C.len]; omega)] at e2
      exact List.mem_of_getElem? e2
    have X1 : Ext F al H F1 (partA al1 ids) H1 := ⟨x.f, ⟨_, ea, fun b hb' => hb b (nb b hb')⟩, x.h, x.n, x.t⟩
    exact kk F1 _ v H1 X1 (C1.part p) (r.mapc fun n hn a e => partA_get (hr n hn) e)
  · cases e
theorem slots_start {K : PySem.W.Frag} {F : Hp} {al : List Addr} {ds : List W} {vs : List V} {N : List Str} (r : Reps K F al ds vs) : Slots K (ds.map some ++ List.replicate (N.length - ds.length) none) F al (L2.start N vs) := by
  unfold L2.start
  refine ⟨by rw [List.length_append, List.length_append, List.length_map, List.length_map, List.length_replicate, List.length_replicate, r.length], fun i d h => ?_⟩
  by_cases hi : i < ds.length
  · rw [List.getElem?_append_left (by rw [List.length_map]; exact hi), List.getElem?_map] at h
    obtain ⟨d', e1, e2⟩ := Option.map_eq_some_iff.mp h
    cases e2
    obtain ⟨v, q1, q2⟩ := r.get e1
    refine ⟨v, ?_, q2⟩
    rw [List.getElem?_append_left (by rw [List.length_map, r.length]; exact hi), List.getElem?_map, q1]
    rfl
  · rw [List.getElem?_append_right (by rw [List.length_map]; omega), List.getElem?_replicate] at h
    split at h <;> cases h
section
variable {P : Program} {w : World} {K : PySem.W.Frag} {mg : Str → Option Value} {base : Heap}
theorem fn_okF {x qual : Str} {st : Stmt} {f : Addr} {fd : FuncData} {N ps : List Str} {k : Nat} {g : G} (F : Fun K x qual st f fd) (S : FnScope N ps (defScope st))
    (hb : ∀ (cdv : Value) (A : Around) (outer : List PySem.Env) (s : Shared) (H : Hp) (E : XK), Room k (A.deeper (envOfC qual (defScope st) s.heap.objs.size f cdv)) →
      PSs (cxOf CX0 P w K mg base N qual (defScope st) f cdv A outer s H E).nox (defBody st) (tFS K g)) : FnOk P w K mg base CX0 (k + 1) f fd ps (spF K ps.length (runG N.length g)) := by
  refine F.ok S (fun vs H Q E h => ?_) (fun cdv A outer s H vs Q E hr h => ?_)
  · obtain ⟨cl, Fz, al, ds, C, r, hl, _⟩ := h
    rw [r.length]
    exact hl
  · obtain ⟨cl, Fz, al, ds, C, r, hl, pk⟩ := h
    refine ⟨_, hb cdv A outer s H E hr, ?_⟩
    unfold runG at pk
    split at pk
    · rename_i wv r1 e
      exact ⟨_, Fz, al, _, ⟨slots_start r, C⟩, e, fun F' al' v σ' H' x R q => fin_ok C pk x R.c q⟩
    · rename_i r1 e
      exact ⟨_, Fz, al, _, ⟨slots_start r, C⟩, e, fun F' al' σ' H' x R => fin_ok (w := .d .non) C pk x R.c rfl⟩
    · exact pk.elim
end
section
variable {X : Cx} {k : Nat} {f C : Addr} {fd : FuncData} {ps : List Str} {dvs : List V} {ds : List Value} {x m : Str} {p pos apos : Pos} {e o : Expr} {es : List Expr} {g : OpN} {ms : MS} {dd : List W}
def ALen (ms : MS) (n : Nat) : Prop := ∀ r xs r', ms r = some (xs, r') → xs.length = n
theorem al_nil : ALen aNil 0 := fun r xs r' h => by
  have h : some ([], r) = some (xs, r') := h
  cases h
  rfl
theorem al_cons {m : M} {ms : MS} {n : Nat} (h : ALen ms n) : ALen (aCons m ms) (n + 1) := fun r xs r' e => by
  obtain ⟨x, r1, ys, q1, q2, rfl⟩ := aCons_some e
  rw [List.length_cons, h _ _ _ q2]
/-- with the defaults behind -/
def withD (dd : List W) (g : OpN) : OpN := fun cl ds => g cl (ds ++ dd)
/-- f(..), its result with the cells that it made -/
theorem pf_call {n : Nat} (c : Bool) (F : FnOk X.prog X.w X.K X.mg X.base CX0 k f fd ps (spF X.K n g)) (hr : Room k X.A) (hg : Gl X x) (hm : X.mg x = some (.ref f)) (hk : PySem.W.keepIn X.K (.ref f) = true) (hb : Binds X.K fd ps ds) (hd : Vals dvs ds)
    (hdd : ∀ F al, Reps X.K F al dd dvs) (hml : ALen ms (e :: es).length) (ha : PA X (e :: es) (tFA X.K ms)) (hn : (e :: es).length + dd.length = n := by rfl) (hdb : (x == ("__debug__" : Str)) = false := by decide) (he : starEach (e :: es) X.env = (false, eval e X.env) :: starEach es X.env := by rfl)
    (hpl : (backTo pos (starEach es X.env)).any (·.1) = false := by rfl) :
    PE X (.Call (.Name x p) (e :: es) [] pos) (tF X.K (eCall (withD dd (if c then oCall g else oCallP g)) ms)) := by
  refine PE.weak (pe_call (E := E0) F hr hg hm hk hb hd pass0 ha hdb he hpl) fun σ H Q h => ?_
  obtain ⟨rho, F0, al, d, r', R, e1, kk⟩ := h
  obtain ⟨xs, r1, q1, q3⟩ := eCall_some e1
  obtain ⟨cc, q4, rfl⟩ := liftN_some q3
  refine ⟨rho, F0, al, xs, r1, R, q1, fun F1 al1 vs H1 x1 R1 p1 => ?_⟩
  have hl : (vs ++ dvs).length = n := by
    rw [List.length_append, p1.length, hml _ _ _ q1, (hdd F1 al1).length, hn]
  have pv : PostV X.K F1 al1 H1 Q ((if c then oCall g else oCallP g) r1.cl (xs ++ dd)) := by
    rw [show (if c then oCall g else oCallP g) r1.cl (xs ++ dd) = some (d, cc) from q4]
    exact post_of R1.s fun F' al' v H' x3 R3 p3 => kk F' al' v H' (x1.trans x3) R3 p3
  cases c with
  | true => exact w_spF hl ⟨r1.cl, F1, al1, xs ++ dd, R1.c, p1.app (hdd F1 al1), pv⟩
  | false => exact w_spFP hl ⟨r1.cl, F1, al1, xs ++ dd, R1.c, p1.app (hdd F1 al1), pv⟩
end
end FL

namespace FL
open PySem PySem.Spec L2 PyProof.Rows

/-! ### list comprehensions -/
def wipeW (sl : List (Option W)) : List Nat → List (Option W)
  | [] => sl
  | v :: vs => (wipeW sl vs).set v none
def bYes : MB := fun r => some (true, r)
open Classical in
/-- the loop: the new list is the cell n -/
noncomputable def lcL (ck : Ck) (g : MG) (tt : MB) (te : M) (vs : List Nat) (n : Nat) : List W → Rho → Option Rho
  | [], r => if ckC ck r.cl then some r else none
  | d :: ds, r => if ckC ck r.cl then match g d { r with sl := wipeW r.sl vs } with
    | none => none
    | some r1 => match tt r1 with
      | none => none
      | some (false, r2) => lcL ck g tt te vs n ds { r with cl := r2.cl }
      | some (true, r2) => match te r2 with
        | none => none
        | some (y, r3) => match r3.cl[n]? with
          | some (.lst acc) => if acc.length < sizeLine then lcL ck g tt te vs n ds { r with cl := r3.cl.set n (.lst (acc ++ [y])) } else none
          | _ => none
    else none
/-- a new cell n as it is, or as data (the last one, nothing else refers to it) -/
def unCell (c : Bool) (n : Nat) (r : Rho) : Option (W × Rho) :=
  if c then some (.cel n, r) else match r.cl[n]? with
    | some (.lst ws) => match datas ws with
      | some xs => if r.cl.length = n + 1 ∧ ((r.cl.take n).all fun k => k.refs.all fun j => decide (j < n)) = true then some (.d (.lst xs), { r with cl := r.cl.take n }) else none
      | none => none
    | _ => none
noncomputable def eLc (c : Bool) (mi : MI) (g : MG) (tt : MB) (te : M) (vs : List Nat) : M := fun r => match mi r with
  | none => none
  | some ((ds, ck), r1) => match lcL ck g tt te vs r1.cl.length ds { r1 with cl := r1.cl ++ [.lst []] } with
    | none => none
    | some r2 => unCell c r1.cl.length r2
theorem wipe_slots {K : PySem.W.Frag} {sl : List (Option W)} {F : Hp} {al : List Addr} {σ : L2.St} (s : Slots K sl F al σ) : ∀ vs : List Nat, Slots K (wipeW sl vs) F al (wipe σ vs)
  | [] => s
  | v :: vs => (wipe_slots s vs).forget v
theorem wipe_get {σ : L2.St} {i : Nat} : ∀ {vs : List Nat}, i ∈ vs → (wipe σ vs)[i]? = if i < σ.length then some none else none
  | v :: vs, h => by
    unfold wipe
    by_cases e : v = i
    · subst e
      by_cases hv : v < σ.length
      · rw [List.getElem?_set_self (by rw [wipe_length]; exact hv), if_pos hv]
      · rw [List.getElem?_eq_none (by rw [List.length_set, wipe_length]; omega), if_neg hv]
    · rw [List.getElem?_set_ne e]
      exact wipe_get ((List.mem_cons.mp h).resolve_left fun z => e z.symm)
theorem wipe_eq {σ σ2 : L2.St} {vs : List Nat} (hl : σ2.length = σ.length) (h : ∀ j, j ∉ vs → σ2[j]? = (wipe σ vs)[j]?) : wipe σ2 vs = wipe σ vs := by
  refine List.ext_getElem? fun i => ?_
  by_cases hi : i ∈ vs
  · rw [wipe_get hi, wipe_get hi, hl]
  · rw [wipe_out hi, h i hi]
theorem unCell_ok {K : PySem.W.Frag} {F H F1 H1 : Hp} {al al1 : List Addr} {st : List Cell} {n : Nat} {p : Addr} {c : Bool} {w : W} {r' : Rho} {sl : List (Option W)} {σ : L2.St} (x : Ext F al H F1 al1 H1) (hn : al.length = n) (hp : al1[n]? = some p)
    (s : Slots K sl F al σ) (C : Cells K st F1 al1 H1) (e : unCell c n ⟨sl, st⟩ = some (w, r')) : ∃ F' al', Ext F al H F' al' H1 ∧ Rel K r' F' al' σ H1 ∧ Rep K F' al' w (.ref p) := by
  cases c with
  | true =>
    have e : some (W.cel n, (⟨sl, st⟩ : Rho)) = some (w, r') := e
    cases e
    exact ⟨F1, al1, x, ⟨s.ext x, C⟩, ⟨p, rfl, hp⟩⟩
  | false =>
    unfold unCell at e
    simp only [Bool.false_eq_true, if_false] at e
    split at e
    · rename_i ws e1
      split at e
      · rename_i xs e2
        split at e
        · rename_i hc
          cases e
          obtain ⟨hl, hr⟩ := hc
          simp only [List.all_eq_true, decide_eq_true_eq] at hr
          obtain ⟨F2, s2, n2, x2, C2⟩ := C.froze x n hn hr
          obtain ⟨_, vs, q1, q2⟩ := C.ok n p _ hp e1
          rw [datas_some e2] at q2
          exact ⟨F2, al, x2, ⟨s.ext x2, C2⟩, p, vs, rfl, (n2 n p (Nat.le_refl _) hp).trans q1, Reps0.mono s2 q2.to0⟩
        · cases e
      · cases e
    · cases e
theorem w_lc {X : Cx} {mi : MI} {g : MG} {tt : MB} {te : M} {vs ws : List Nat} {c : Bool} (hw : ∀ j ∈ ws, j ∈ vs) : ∀ σ H Q, tF X.K (eLc c mi g tt te vs) σ H Q → tLc (iF X.K mi) (gF X.K ws g) (tFB X.K tt) (tF X.K te) vs σ H Q := fun σ H Q ⟨r, F, al, d, r', R, e1, k⟩ => by
  unfold eLc at e1
  split at e1
  · cases e1
  · rename_i ds ck r1 q
    split at e1
    · cases e1
    · rename_i r2 q2
      refine ⟨r, F, al, ds, ck, r1, R, q, fun F1 al1 J H1 x1 R1 Wj D hD => ?_⟩
      obtain ⟨hF, hal⟩ := R1.c.free hD
      have x0 : Ext F1 al1 H1 F1 (al1 ++ [D]) (upd H1 D (.lst [])) := ext_new hF hD
      have C0 : Cells X.K (r1.cl ++ [.lst []]) F1 (al1 ++ [D]) (upd H1 D (.lst [])) := R1.c.new hD ⟨hF, [], upd_same, rfl⟩
      have hn : al1.length = r1.cl.length := R1.c.len
      -- what stays: the place of D
      have at_n : ∀ be : List Addr, (al1 ++ [D] ++ be)[r1.cl.length]? = some D := fun be => by
        rw [← hn, List.append_assoc, List.getElem?_append_right (Nat.le_refl _), Nat.sub_self]
        rfl
      refine ⟨fun i m H' => m = ds.length - i ∧ ∃ F' al' cl', Ext F1 (al1 ++ [D]) (upd H1 D (.lst [])) F' al' H' ∧ Cells X.K cl' F' al' H' ∧ lcL ck g tt te vs r1.cl.length (ds.drop i) ⟨r1.sl, cl'⟩ = some r2, ⟨ds.length, rfl, F1, _, _, Ext.refl _ _ _, C0, q2⟩, ?_⟩
      rintro i m H' ⟨rfl, F', al', cl', x', C', e'⟩
      obtain ⟨be, eb, _⟩ := id x'.a
      by_cases hi : i < ds.length
      · rw [List.drop_eq_getElem_cons hi] at e'
        unfold lcL at e'
        split at e'
        rotate_left
        · cases e'
        rename_i hck
        split at e'
        · cases e'
        · rename_i ra qa
          obtain ⟨g1, y1⟩ := Wj.go i ds[i] F' al' cl' H' (List.getElem?_eq_getElem hi) x'.f ⟨[D] ++ be, by rw [eb, List.append_assoc]⟩ C' hck
          refine .inr ⟨g1, fun H2 => ∃ F3 al3 cl3, Ext F1 (al1 ++ [D]) (upd H1 D (.lst [])) F3 al3 H2 ∧ Cells X.K cl3 F3 al3 H2 ∧ lcL ck g tt te vs r1.cl.length (ds.drop (i + 1)) ⟨r1.sl, cl3⟩ = some r2, fun H2 z => ⟨ds.length - (i + 1), by omega, rfl, z⟩, fun x H2 hy => ?_⟩
          obtain ⟨F2, x2, C2, p2⟩ := y1 x H2 hy
          have sw : Slots X.K (wipeW r1.sl vs) F2 al' (wipe σ vs) := ((wipe_slots R1.s vs).ext (x0.trans x')).ext x2
          refine ⟨_, F2, al', ds[i], ra, ⟨sw, C2⟩, p2, qa, fun F3 al3 σ3 H3 x3 R3 l3 o3 => ?_⟩
          refine ⟨wipe_eq (by rw [l3, wipe_length]) fun j hj => o3 j fun z => hj (hw j z), ?_⟩
          have xx := (x'.trans x2).trans x3
          cases ht : tt ra with
          | none =>
            simp only [ht] at e'
            cases e'
          | some pr =>
            obtain ⟨b, rb⟩ := pr
            simp only [ht] at e'
            refine ⟨ra, F3, al3, b, rb, R3, ht, fun F4 al4 H4 x4 R4 => ?_⟩
            cases b with
            | false => exact iteF ⟨F4, al4, rb.cl, xx.trans x4, R4.c, e'⟩
            | true =>
              refine iteT ?_
              cases he : te rb with
              | none =>
                simp only [he] at e'
                cases e'
              | some py =>
                obtain ⟨y, rc⟩ := py
                simp only [he] at e'
                refine ⟨rb, F4, al4, y, rc, R4, he, fun F5 al5 v H5 x5 R5 p5 => ?_⟩
                split at e'
                · rename_i acc hacc
                  split at e'
                  · rename_i hz
                    have x6 := (xx.trans x4).trans x5
                    obtain ⟨be5, eb5, _⟩ := id x6.a
                    have hD5 : al5[r1.cl.length]? = some D := by
                      rw [eb5]
                      exact at_n be5
                    obtain ⟨nF, vsv, q1, q2'⟩ := R5.c.ok _ _ _ hD5 hacc
                    refine ⟨vsv, q1, by rw [q2'.length]; exact hz, F5, al5, rc.cl.set r1.cl.length (.lst (acc ++ [y])), x6.trans (ext_wr hD5 nF), R5.c.wr hD5 nF ⟨nF, _, upd_same, q2'.app (Reps.one p5)⟩, e'⟩
                  · cases e'
                · cases e'
      · rw [List.drop_of_length_le (by omega)] at e'
        unfold lcL at e'
        split at e'
        rotate_left
        · cases e'
        rename_i hck
        cases e'
        refine .inl ⟨Wj.stop i F' al' cl' H' (by omega) x'.f ⟨[D] ++ be, by rw [eb, List.append_assoc]⟩ C' hck, ?_⟩
        have hD' : al'[r1.cl.length]? = some D := by
          rw [eb]
          exact at_n be
        obtain ⟨F9, al9, x9, R9, p9⟩ := unCell_ok (x0.trans x') hn hD' R1.s C' e1
        exact k F9 al9 (.ref D) H' (x1.trans x9) R9 p9
section
variable {X : Cx} {elt tg iter : Expr} {ifs : List Expr} {scope : Scope} {own : List (Str × Nat)} {pos spos : Pos}
theorem fts_nil : PTs X [] (tFB X.K bYes) := ⟨fun pins s σ H Q I ⟨r, F, al, d, r', R, e, k⟩ => pts_nil.run pins s σ H Q I (by
  have e : some (true, r) = some (d, r') := e
  cases e
  exact k F al H (Ext.refl _ _ _) R)⟩
theorem fts_one {c : Expr} {m : MB} (h : PT X c (tFB X.K m)) : PTs X [c] (tFB X.K m) := pts_one h
theorem pf_lc (c : Bool) {mi : MI} {g : MG} {tt : MB} {te : M} {ws : List Nat} (hc : X.calm = true) (hN : X.N.Nodup) (hi : PI X tg iter (iF X.K mi)) (ok : BlkOk X.N X.env.scope scope own) (hw : ∀ j ∈ ws, j ∈ own.map (·.2))
    (hg : ∀ (s : Shared) (H : Hp) (C : Addr) (cl : List (Str × Addr)) (fp : List Addr), PG (X.blk s H scope (compEnvC scope cl C X.env) fp) tg (gF X.K ws g)) (ht : ∀ (s : Shared) (H : Hp) (C : Addr) (cl : List (Str × Addr)) (fp : List Addr), PTs (X.blk s H scope (compEnvC scope cl C X.env) fp) ifs (tFB X.K tt))
    (he : ∀ (s : Shared) (H : Hp) (C : Addr) (cl : List (Str × Addr)) (fp : List Addr), PE (X.blk s H scope (compEnvC scope cl C X.env) fp) elt (tF X.K te)) (hs : ∀ x, foldedSetIterable iter X.env x = pure x := by intro _; rfl) :
    PE X (.ListComp elt [⟨tg, iter, ifs, 0⟩] scope pos) (tF X.K (eLc c mi g tt te (own.map (·.2)))) := PE.weak (pe_lc hc hN hi ok hg ht he hs) (w_lc hw)
theorem fs_setLc (c : Bool) {i : Nat} {y : Str} {py : Pos} {mi : MI} {g : MG} {tt : MB} {te : M} {ws : List Nat} (hc : X.calm = true) (hN : X.N.Nodup) (hy : X.N[i]? = some y) (hyl : X.env.scope.names.lookup y = some .local)
    (hsw : swapsWith (.ListComp elt [⟨tg, iter, ifs, 0⟩] scope pos) (some (.Name y py)) spos.line X.env = pure true) (hi : PI X tg iter (iF X.K mi)) (ok : BlkOk X.N X.env.scope scope own) (hw : ∀ j ∈ ws, j ∈ own.map (·.2))
    (hg : ∀ (s : Shared) (H : Hp) (C : Addr) (cl : List (Str × Addr)) (fp : List Addr), PG (X.blk s H scope (compEnvC scope cl C X.env) fp) tg (gF X.K ws g)) (ht : ∀ (s : Shared) (H : Hp) (C : Addr) (cl : List (Str × Addr)) (fp : List Addr), PTs (X.blk s H scope (compEnvC scope cl C X.env) fp) ifs (tFB X.K tt))
    (he : ∀ (s : Shared) (H : Hp) (C : Addr) (cl : List (Str × Addr)) (fp : List Addr), PE (X.blk s H scope (compEnvC scope cl C X.env) fp) elt (tF X.K te)) (hs : ∀ x, foldedSetIterable iter X.env x = pure x := by intro _; rfl) :
    PS X (.Assign [.Name y py] (.ListComp elt [⟨tg, iter, ifs, 0⟩] scope pos) spos) (tFS X.K (sAsg (eLc c mi g tt te (own.map (·.2))) (tName i))) :=
  PS.weak (ps_setLc hc hN hy hyl hsw hi ok hg ht he hs) fun D σ H h => by
    have h2 := w_set (X := X) D σ H h
    exact w_lc hw σ H _ h2
end

/-! ### what is walked -/
def itemsL (cl : List Cell) : W → Option (List W × Ck)
  | .d (.lst ds) => some (ds.map W.d, none)
  | .d (.rol ds) => some (ds.map W.d, none)
  | .cel n => match cl[n]? with
    | some (.lst ws) => some (ws, some [(n, ws)])
    | _ => none
  | _ => none
def iLst (m : M) : MI := fun r => match m r with
  | some (w, r1) => match itemsL r1.cl w with
    | some p => some (p, r1)
    | none => none
  | none => none
def iTupF (m : M) : MI := fun r => match m r with
  | some (w, r1) => match asTup w with
    | some ds => some ((ds, none), r1)
    | none => none
  | none => none
def intsW (lo : Int) : Nat → List W
  | 0 => []
  | n + 1 => .d (.int lo) :: intsW (lo + 1) n
theorem intsW_get : ∀ (n : Nat) (lo : Int) (i : Nat), i < n → (intsW lo n)[i]? = some (.d (.int (lo + i)))
  | n + 1, lo, 0, _ => by
    show some _ = some _
    simp
  | n + 1, lo, i + 1, h => by
    show (intsW (lo + 1) n)[i]? = _
    rw [intsW_get n (lo + 1) i (by omega)]
    congr 3
    push_cast
    omega
theorem intsW_len : ∀ (n : Nat) (lo : Int), (intsW lo n).length = n
  | 0, _ => rfl
  | n + 1, lo => by
    show (intsW (lo + 1) n).length + 1 = n + 1
    rw [intsW_len n]
def iRng (m : MS) : MI := fun r => match m r with
  | some ([.d (.int j)], r1) => if -(2 ^ 62) ≤ j ∧ j < 2 ^ 62 then some ((intsW 0 j.toNat, none), r1) else none
  | some ([.d (.int i), .d (.int j)], r1) => if -(2 ^ 62) ≤ i ∧ i < 2 ^ 62 ∧ -(2 ^ 62) ≤ j ∧ j < 2 ^ 62 then some ((intsW i (j - i).toNat, none), r1) else none
  | _ => none
theorem wk_same {K : PySem.W.Frag} {F1 : Hp} {al1 : List Addr} {cl1 : List Cell} {H1 H2 : Hp} {d : W} {x : V} (e : H2 = H1) (C : Cells K cl1 F1 al1 H1) (r : Rep K F1 al1 d x) : ∃ F2, Ext F1 al1 H1 F2 al1 H2 ∧ Cells K cl1 F2 al1 H2 ∧ Rep K F2 al1 d x := by
  subst e
  exact ⟨F1, Ext.refl _ _ _, C, r⟩
/-- the list at a is at every later time one of these items -/
def StL (K : PySem.W.Frag) (F : Hp) (al : List Addr) (a : Addr) (ds : List W) (ck : Ck) : Prop := ∀ (F1 : Hp) (al1 : List Addr) (cl1 : List Cell) (H1 : Hp), Same F F1 → (∃ be, al1 = al ++ be) → Cells K cl1 F1 al1 H1 → ckC ck cl1 → ∃ vs, SqL K H1 a vs ∧ Reps K F1 al1 ds vs
theorem stL_frz {K : PySem.W.Frag} {F : Hp} {al : List Addr} {a : Addr} {vs : List V} {ds : List W} {ck : Ck} (h : SqL K F a vs) (r : Reps K F al ds vs) : StL K F al a ds ck := fun F1 al1 cl1 H1 e ha C _ => by
  obtain ⟨be, rfl⟩ := ha
  exact ⟨vs, C.fh.seq (e.seq h), Reps.mono e r⟩
theorem items_ok {K : PySem.W.Frag} {cl : List Cell} {F : Hp} {al : List Addr} {H : Hp} (C : Cells K cl F al H) {w : W} {v : V} (r : Rep K F al w v) {ds : List W} {ck : Ck} (h : itemsL cl w = some (ds, ck)) : ∃ a, v = .ref a ∧ StL K F al a ds ck ∧ ckC ck cl := by
  unfold itemsL at h
  split at h
  · cases h
    obtain ⟨a, vs, rfl, q1, q2⟩ := r
    exact ⟨a, rfl, stL_frz (SqL.of q1) (Reps.of0 q2), trivial⟩
  · cases h
    obtain ⟨a, vs, rfl, q1, q2⟩ := r
    exact ⟨a, rfl, stL_frz q1 (Reps.of0 q2), trivial⟩
  · rename_i n
    split at h
    · rename_i ws q
      cases h
      obtain ⟨a, rfl, ha⟩ := r
      refine ⟨a, rfl, fun F1 al1 cl1 H1 e hal C1 hck => ?_, ckC_one q⟩
      obtain ⟨be, rfl⟩ := hal
      obtain ⟨_, vs, q1, q2⟩ := C1.ok n a _ (get_pre ha) (hck _ (List.mem_singleton.mpr rfl))
      exact ⟨vs, SqL.of q1, q2⟩
    · cases h
  · cases h
theorem wk_list {K : PySem.W.Frag} {F : Hp} {al : List Addr} {a : Addr} {ds : List W} {ck : Ck} (h : StL K F al a ds ck) : Wk K (Itl K a) F al ds ck where
  go := fun i d F1 al1 cl1 H1 hd e ha C hck => by
    obtain ⟨vs, hs, r⟩ := h F1 al1 cl1 H1 e ha C hck
    obtain ⟨v, q1, q2⟩ := r.get hd
    refine ⟨⟨vs, v, hs, q1⟩, fun x H2 ⟨e2, hx⟩ => wk_same e2 C ?_⟩
    have := hx vs hs
    rw [q1] at this
    cases this
    exact q2
  stop := fun i F1 al1 cl1 H1 hi e ha C hck => by
    obtain ⟨vs, hs, r⟩ := h F1 al1 cl1 H1 e ha C hck
    exact ⟨vs, hs, by rw [r.length]; exact hi⟩
theorem wk_tup {K : PySem.W.Frag} {F : Hp} {al : List Addr} {a : Addr} {vs : List V} {ds : List W} (h : SqT K F a vs) (r : Reps K F al ds vs) : Wk K (Itt K a) F al ds none where
  go := fun i d F1 al1 cl1 H1 hd e ha C _ => by
    obtain ⟨be, rfl⟩ := ha
    obtain ⟨v, q1, q2⟩ := r.get hd
    have hs : SqT K H1 a vs := Same.seqT C.fh (Same.seqT e h)
    refine ⟨⟨vs, v, hs, q1⟩, fun x H2 ⟨e2, hx⟩ => wk_same e2 C ?_⟩
    have := hx vs hs
    rw [q1] at this
    cases this
    exact Rep.mono e q2
  stop := fun i F1 al1 cl1 H1 hi e _ C _ => ⟨vs, Same.seqT C.fh (Same.seqT e h), by rw [r.length]; exact hi⟩
theorem wk_rng {K : PySem.W.Frag} {F : Hp} {al : List Addr} (lo : Int) (n : Nat) : Wk K (Itr lo n) F al (intsW lo n) none where
  go := fun i d F1 al1 cl1 H1 hd e ha C _ => by
    have hi : i < n := by
      have := (List.getElem?_eq_some_iff.mp hd).1
      rw [intsW_len] at this
      exact this
    rw [intsW_get n lo i hi] at hd
    cases hd
    exact ⟨hi, fun x H2 ⟨e2, hx⟩ => wk_same e2 C hx⟩
  stop := fun i F1 al1 cl1 H1 hi e _ C _ => by
    rw [intsW_len] at hi
    exact hi
/-- numbered -/
def numW : Nat → List W → List W
  | _, [] => []
  | i, d :: ds => tupW [.d (.int i), d] :: numW (i + 1) ds
theorem numW_get : ∀ (ds : List W) (k i : Nat) (d : W), (numW k ds)[i]? = some d → ∃ d0, ds[i]? = some d0 ∧ d = tupW [.d (.int ((k + i : Nat) : Int)), d0]
  | [], k, i, d, h => by simp [numW] at h
  | d0 :: ds, k, 0, d, h => by
    have h : some (tupW [.d (.int (k : Int)), d0]) = some d := h
    cases h
    exact ⟨d0, rfl, rfl⟩
  | d0 :: ds, k, i + 1, d, h => by
    have h : (numW (k + 1) ds)[i]? = some d := h
    obtain ⟨d1, q1, q2⟩ := numW_get ds (k + 1) i d h
    refine ⟨d1, q1, ?_⟩
    rw [q2, show k + 1 + i = k + (i + 1) by omega]
theorem numW_len : ∀ (ds : List W) (k : Nat), (numW k ds).length = ds.length
  | [], _ => rfl
  | d :: ds, k => by
    show (numW (k + 1) ds).length + 1 = ds.length + 1
    rw [numW_len ds]
def iEnumF (m : M) : MI := fun r => match m r with
  | some (w, r1) => match itemsL r1.cl w with
    | some (ds, ck) => some ((numW 0 ds, ck), r1)
    | none => none
  | none => none
/-- a new tuple is given out -/
theorem wk_new {K : PySem.W.Frag} {F1 : Hp} {al1 : List Addr} {cl1 : List Cell} {H1 : Hp} {ws : List W} {vs : List V} {T : Addr} (C : Cells K cl1 F1 al1 H1) (r : Reps K F1 al1 ws vs) (hT : H1 T = none) : ∃ F2, Ext F1 al1 H1 F2 al1 (upd H1 T (.tup vs)) ∧ Cells K cl1 F2 al1 (upd H1 T (.tup vs)) ∧ Rep K F2 al1 (tupW ws) (.ref T) := by
  obtain ⟨hF, _⟩ := C.free hT
  have x : Ext F1 al1 H1 (upd F1 T (.tup vs)) al1 (upd H1 T (.tup vs)) := ext_frz hF hT
  refine ⟨_, x, C.frz hT, ?_⟩
  have r2 := x.reps r
  unfold tupW
  split
  · rename_i xs e
    rw [datas_some e] at r2
    exact ⟨T, vs, rfl, upd_same, r2.to0⟩
  · exact ⟨T, vs, rfl, upd_same, r2⟩
theorem wk_enum {K : PySem.W.Frag} {F : Hp} {al : List Addr} {a : Addr} {ds : List W} {ck : Ck} (h : StL K F al a ds ck) : Wk K (Ite K a) F al (numW 0 ds) ck where
  go := fun i d F1 al1 cl1 H1 hd e ha C hck => by
    obtain ⟨vs, hs, r⟩ := h F1 al1 cl1 H1 e ha C hck
    obtain ⟨d0, hd0, rfl⟩ := numW_get ds 0 i d hd
    obtain ⟨v, q1, q2⟩ := r.get hd0
    refine ⟨⟨vs, v, hs, q1⟩, fun x H2 ⟨T, y, ex, hT, eH, hx⟩ => ?_⟩
    have := hx vs hs
    rw [q1] at this
    cases this
    subst ex eH
    refine wk_new C ⟨_, _, rfl, ?_, _, _, rfl, q2, rfl⟩ hT
    show V.int (i : Nat) = V.int ((0 + i : Nat) : Int)
    rw [Nat.zero_add]
  stop := fun i F1 al1 cl1 H1 hi e ha C hck => by
    obtain ⟨vs, hs, r⟩ := h F1 al1 cl1 H1 e ha C hck
    rw [numW_len] at hi
    exact ⟨vs, hs, by rw [r.length]; exact hi⟩
section
variable {X : Cx} {tg e a b : Expr} {pos p tpos : Pos} {elts : List Expr} {kk : Nat}
theorem fi_list {m : M} (h : PE X e (tF X.K m)) : PI X tg e (iF X.K (iLst m)) := PI.weak (pi_list h) fun σ H R ⟨r, F, al, ds, ck, r', Rl, e1, k⟩ => by
  unfold iLst at e1
  split at e1
  · rename_i w r1 q
    split at e1
    · rename_i pr hp
      cases e1
      refine ⟨r, F, al, _, r', Rl, q, fun F1 al1 v H1 x1 R1 p1 => ?_⟩
      obtain ⟨a, rfl, st, hck⟩ := items_ok R1.c p1 hp
      obtain ⟨vs, q2, _⟩ := st F1 al1 r'.cl H1 (Same.refl _) ⟨[], by simp⟩ R1.c hck
      exact ⟨a, rfl, ⟨vs, q2⟩, k F1 al1 _ H1 x1 R1 (wk_list st)⟩
    · cases e1
  · cases e1
theorem fi_tup {m : M} (h : PE X e (tF X.K m)) : PI X tg e (iF X.K (iTupF m)) := PI.weak (pi_tup h) fun σ H R ⟨r, F, al, ds, ck, r', Rl, e1, k⟩ => by
  unfold iTupF at e1
  split at e1
  · rename_i w r1 q
    split at e1
    · rename_i xs et
      cases e1
      refine ⟨r, F, al, _, r', Rl, q, fun F1 al1 v H1 x1 R1 p1 => ?_⟩
      obtain ⟨a, vs, rfl, q2, q3⟩ := asTup_ok p1 et
      exact ⟨a, rfl, ⟨vs, Same.seqT R1.c.fh q2⟩, k F1 al1 _ H1 x1 R1 (wk_tup q2 q3)⟩
    · cases e1
  · cases e1
theorem fi_enum {m : M} (hg : Gl X "enumerate") (hm : X.mg "enumerate" = none) (ha : PA X [e] (tFA X.K (aCons m aNil))) (hs : starEach [e] X.env = [(false, eval e X.env)] := by rfl) : PI X (.Tuple elts kk tpos) (.Call (.Name "enumerate" p) [e] [] pos) (iF X.K (iEnumF m)) :=
  PI.weak (pi_enum hg hm ha hs) fun σ H R ⟨r, F, al, ds, ck, r', Rl, e1, k⟩ => by
    unfold iEnumF at e1
    split at e1
    · rename_i w r1 q
      split at e1
      · rename_i xs ck' hp
        cases e1
        refine ⟨r, F, al, [w], r', Rl, by unfold aCons; rw [q]; rfl, fun F1 al1 v H1 x1 R1 p1 => ?_⟩
        obtain ⟨v1, vr, rfl, h1, h2⟩ := p1
        have h2 : vr = [] := h2
        subst h2
        obtain ⟨a, rfl, st, hck⟩ := items_ok R1.c h1 hp
        obtain ⟨vs, q2, _⟩ := st F1 al1 r'.cl H1 (Same.refl _) ⟨[], by simp⟩ R1.c hck
        exact ⟨a, vs, rfl, q2, k F1 al1 _ H1 x1 R1 (wk_enum st)⟩
      · cases e1
    · cases e1
theorem fi_rng1 {m : M} (hg : Gl X "range") (hm : X.mg "range" = none) (ha : PA X [a] (tFA X.K (aCons m aNil))) (hs : starEach [a] X.env = [(false, eval a X.env)] := by rfl) : PI X tg (.Call (.Name "range" p) [a] [] pos) (iF X.K (iRng (aCons m aNil))) :=
  PI.weak (pi_range1 hg hm ha hs) fun σ H R ⟨r, F, al, ds, ck, r', Rl, e1, k⟩ => by
    unfold iRng at e1
    split at e1
    · rename_i j r1 q
      split at e1
      · rename_i hj
        cases e1
        refine ⟨r, F, al, _, r', Rl, q, fun F1 al1 v H1 x1 R1 p1 => ?_⟩
        obtain ⟨v1, vr, rfl, h1, h2⟩ := p1
        have h1 : v1 = .int j := h1
        have h2 : vr = [] := h2
        subst h1 h2
        exact ⟨j, rfl, hj.1, hj.2, k F1 al1 _ H1 x1 R1 (wk_rng 0 j.toNat)⟩
      · cases e1
    · rename_i i j r1 q
      obtain ⟨_, _, xs, _, q2, q3⟩ := aCons_some q
      have q2 : some ([], _) = some (xs, _) := q2
      cases q2
      cases q3
    · cases e1
theorem fi_rng2 {m m2 : M} (hg : Gl X "range") (hm : X.mg "range" = none) (ha : PA X [a, b] (tFA X.K (aCons m (aCons m2 aNil)))) (hs : starEach [a, b] X.env = [(false, eval a X.env), (false, eval b X.env)] := by rfl) (hs2 : starEach [b] X.env = [(false, eval b X.env)] := by rfl) :
    PI X tg (.Call (.Name "range" p) [a, b] [] pos) (iF X.K (iRng (aCons m (aCons m2 aNil)))) :=
  PI.weak (pi_range2 hg hm ha hs hs2) fun σ H R ⟨r, F, al, ds, ck, r', Rl, e1, k⟩ => by
    unfold iRng at e1
    split at e1
    · rename_i j r1 q
      obtain ⟨_, _, xs, _, q2, q3⟩ := aCons_some q
      obtain ⟨_, _, ys, _, _, q5⟩ := aCons_some q2
      subst q5
      cases q3
    · rename_i i j r1 q
      split at e1
      · rename_i hj
        cases e1
        refine ⟨r, F, al, _, r', Rl, q, fun F1 al1 v H1 x1 R1 p1 => ?_⟩
        obtain ⟨v1, vr, rfl, h1, v2, vr2, rfl, h2, h3⟩ := p1
        have h1 : v1 = .int i := h1
        have h2 : v2 = .int j := h2
        have h3 : vr2 = [] := h3
        subst h1 h2 h3
        exact ⟨i, j, rfl, hj, k F1 al1 _ H1 x1 R1 (wk_rng i (j - i).toNat)⟩
      · cases e1
    · cases e1
end
end FL

namespace FL
open PySem PySem.Spec L2

/-! ### data for == -/
mutual
def D.py : D → Option PyData
  | .non => some .none
  | .bl b => some (.bool b)
  | .int i => some (.int i)
  | .str x => some (.str x)
  | .tup ds => (pyA ds).map .tuple
  | .rtup ds => (pyA ds).map .tuple
  | .lst ds => (pyA ds).map .list
  | .rol ds => (pyA ds).map .list
  | _ => none
def pyA : List D → Option (List PyData)
  | [] => some []
  | d :: ds => match D.py d, pyA ds with
    | some p, some ps => some (p :: ps)
    | _, _ => none
end
mutual
theorem py_ok {K : PySem.W.Frag} {F H : Hp} (s : Same F H) : ∀ {d : D} {v : V} {p : PyData}, Rep0 K F d v → d.py = some p → Dp K H v p
  | .non, v, p, r, e => by
    have r : v = .non := r
    cases e
    rw [r]
    exact .non
  | .bl b, v, p, r, e => by
    have r : v = .bl b := r
    cases e
    rw [r]
    exact .bl b
  | .int i, v, p, r, e => by
    have r : v = .int i := r
    cases e
    rw [r]
    exact .int i
  | .str i, v, p, r, e => by
    have r : v = .str i := r
    cases e
    rw [r]
    exact .str i
  | .tup ds, v, p, ⟨a, vs, e1, e2, e3⟩, e => by
    obtain ⟨ps, q1, q2⟩ := Option.map_eq_some_iff.mp (show (pyA ds).map PyData.tuple = some p from e)
    subst q2
    rw [e1]
    exact .tup (SqT.of (s _ _ e2)) (pyA_ok s e3 q1)
  | .rtup ds, v, p, ⟨a, vs, e1, e2, e3⟩, e => by
    obtain ⟨ps, q1, q2⟩ := Option.map_eq_some_iff.mp (show (pyA ds).map PyData.tuple = some p from e)
    subst q2
    rw [e1]
    exact .tup (Same.seqT s e2) (pyA_ok s e3 q1)
  | .lst ds, v, p, ⟨a, vs, e1, e2, e3⟩, e => by
    obtain ⟨ps, q1, q2⟩ := Option.map_eq_some_iff.mp (show (pyA ds).map PyData.list = some p from e)
    subst q2
    rw [e1]
    exact .lst (SqL.of (s _ _ e2)) (pyA_ok s e3 q1)
  | .rol ds, v, p, ⟨a, vs, e1, e2, e3⟩, e => by
    obtain ⟨ps, q1, q2⟩ := Option.map_eq_some_iff.mp (show (pyA ds).map PyData.list = some p from e)
    subst q2
    rw [e1]
    exact .lst (s.seq e2) (pyA_ok s e3 q1)
  | .ins _ _ _, v, p, _, e => nomatch e
  | .dk _ _, v, p, _, e => nomatch e
  | .dt _ _, v, p, _, e => nomatch e
  | .op _, v, p, _, e => nomatch e
theorem pyA_ok {K : PySem.W.Frag} {F H : Hp} (s : Same F H) : ∀ {ds : List D} {vs : List V} {ps : List PyData}, Reps0 K F ds vs → pyA ds = some ps → DpAll K H vs ps
  | [], vs, ps, r, e => by
    have r : vs = [] := r
    cases e
    rw [r]
    exact .nil
  | d :: ds, vs, ps, ⟨v, vr, e1, e2, e3⟩, e => by
    unfold pyA at e
    split at e
    · rename_i p ps' h1 h2
      cases e
      rw [e1]
      exact .cons (py_ok s e2 h1) (pyA_ok s e3 h2)
    · cases e
end
/-- a name's value for == -/
def pyW (cl : List Cell) : W → Option PyData
  | .d x => x.py
  | .cel n => match cl[n]? with
    | some (.lst ws) => match datas ws with
      | some xs => (pyA xs).map .list
      | none => none
    | _ => none
  | .tup ws => match datas ws with
    | some xs => (pyA xs).map .tuple
    | none => none
theorem pyW_ok {K : PySem.W.Frag} {cl : List Cell} {F : Hp} {al : List Addr} {H : Hp} (C : Cells K cl F al H) {w : W} {v : V} (r : Rep K F al w v) {p : PyData} (h : pyW cl w = some p) : Dp K H v p := by
  cases w with
  | d x => exact py_ok C.fh r h
  | cel n =>
    simp only [pyW] at h
    obtain ⟨a, rfl, ha⟩ := r
    split at h
    · rename_i ws e1
      split at h
      · rename_i xs e2
        obtain ⟨ps, q1, q2⟩ := Option.map_eq_some_iff.mp h
        subst q2
        obtain ⟨_, vs, q3, q4⟩ := C.ok n a _ ha e1
        rw [datas_some e2] at q4
        exact .lst (SqL.of q3) (pyA_ok C.fh q4.to0 q1)
      · cases h
    · cases h
  | tup ws =>
    simp only [pyW] at h
    obtain ⟨a, vs, rfl, h1, h2⟩ := r
    split at h
    · rename_i xs e2
      obtain ⟨ps, q1, q2⟩ := Option.map_eq_some_iff.mp h
      subst q2
      rw [datas_some e2] at h2
      exact .tup (SqT.of (C.fh _ _ h1)) (pyA_ok C.fh h2.to0 q1)
    · cases h
def eqvD (neg : Bool) : Op2 := fun cl x y => match pyW cl x, pyW cl y with
  | some p, some q => if SeqAt.shaped p = true ∧ SeqAt.shaped q = true then some (.d (.bl (if neg then !PyData.eqv p q else PyData.eqv p q)), cl) else none
  | _, _ => none
section
variable {X : Cx}
theorem eq_ok (hu : X.A.units + 64 < cLine) : OpR X (compareOp .Eq) (r2F X.K (eqvD false)) := OpR.weak (op_eqD hu) fun vx vy H Q ⟨cl, F, al, x, y, C, rx, ry, k⟩ => by
  obtain ⟨d, cl', e, kk⟩ := k.some
  unfold eqvD at e
  split at e
  · rename_i p q e1 e2
    split at e
    · rename_i h
      cases e
      exact ⟨p, q, pyW_ok C rx e1, pyW_ok C ry e2, h.1, h.2, kk F al _ H (Ext.refl _ _ _) C rfl⟩
    · cases e
  · cases e
theorem ne_ok (hu : X.A.units + 64 < cLine) : OpR X (compareOp .NotEq) (r2F X.K (eqvD true)) := OpR.weak (op_neD hu) fun vx vy H Q ⟨cl, F, al, x, y, C, rx, ry, k⟩ => by
  obtain ⟨d, cl', e, kk⟩ := k.some
  unfold eqvD at e
  split at e
  · rename_i p q e1 e2
    split at e
    · rename_i h
      cases e
      exact ⟨p, q, pyW_ok C rx e1, pyW_ok C ry e2, h.1, h.2, kk F al _ H (Ext.refl _ _ _) C rfl⟩
    · cases e
  · cases e
/-- x in a list of data -/
def inD (neg : Bool) : Op2 := fun cl x y => match pyW cl x, pyW cl y with
  | some p, some (.list qs) => if SeqAt.shaped p = true ∧ SeqAt.shaped (.list qs) = true then some (.d (.bl (if neg then !qs.any fun z => PyData.eqv z p else qs.any fun z => PyData.eqv z p)), cl) else none
  | _, _ => none
theorem in_ok (hu : X.A.units + 65 < cLine) : OpR X (compareOp .In) (r2F X.K (inD false)) := OpR.weak (op_inD hu) fun vx vy H Q ⟨cl, F, al, x, y, C, rx, ry, k⟩ => by
  obtain ⟨d, cl', e, kk⟩ := k.some
  unfold inD at e
  split at e
  · rename_i p q e1 e2
    split at e
    · rename_i h
      cases e
      exact ⟨p, q, pyW_ok C rx e1, pyW_ok C ry e2, h.1, h.2, kk F al _ H (Ext.refl _ _ _) C rfl⟩
    · cases e
  · cases e
theorem notin_ok (hu : X.A.units + 65 < cLine) : OpR X (compareOp .NotIn) (r2F X.K (inD true)) := OpR.weak (op_notInD hu) fun vx vy H Q ⟨cl, F, al, x, y, C, rx, ry, k⟩ => by
  obtain ⟨d, cl', e, kk⟩ := k.some
  unfold inD at e
  split at e
  · rename_i p q e1 e2
    split at e
    · rename_i h
      cases e
      exact ⟨p, q, pyW_ok C rx e1, pyW_ok C ry e2, h.1, h.2, kk F al _ H (Ext.refl _ _ _) C rfl⟩
    · cases e
  · cases e
/-- is None -/
def isN (neg : Bool) : Op2 := fun cl x y => match y with
  | .d .non => match x with
    | .d (.op _) => none
    | .d .non => some (.d (.bl (!neg)), cl)
    | _ => some (.d (.bl neg), cl)
  | _ => none
theorem isN_v {K : PySem.W.Frag} {F : Hp} {al : List Addr} {x : W} {v : V} (r : Rep K F al x v) {neg : Bool} {cl cl' : List Cell} {d : W} (e : isN neg cl x (.d .non) = some (d, cl')) : cl' = cl ∧ d = .d (.bl (if neg then !decide (v = .non) else decide (v = .non))) := by
  have no : v ≠ .non → (if neg then !decide (v = .non) else decide (v = .non)) = neg := fun h => by
    rw [decide_eq_false h]
    cases neg <;> rfl
  cases x with
  | cel n =>
    cases e
    obtain ⟨a, rfl, _⟩ := r
    exact ⟨rfl, by rw [no (by intro z; cases z)]⟩
  | tup ws =>
    cases e
    obtain ⟨a, vs, rfl, _⟩ := r
    exact ⟨rfl, by rw [no (by intro z; cases z)]⟩
  | d x =>
    cases x with
    | non =>
      have r : v = .non := r
      subst r
      cases e
      refine ⟨rfl, ?_⟩
      cases neg <;> rfl
    | op u => cases e
    | bl b =>
      have r : v = .bl b := r
      subst r
      cases e
      exact ⟨rfl, by rw [no (by intro z; cases z)]⟩
    | int b =>
      have r : v = .int b := r
      subst r
      cases e
      exact ⟨rfl, by rw [no (by intro z; cases z)]⟩
    | str b =>
      have r : v = .str b := r
      subst r
      cases e
      exact ⟨rfl, by rw [no (by intro z; cases z)]⟩
    | tup ds =>
      cases e
      obtain ⟨a, vs, rfl, _⟩ := r
      exact ⟨rfl, by rw [no (by intro z; cases z)]⟩
    | rtup ds =>
      cases e
      obtain ⟨a, vs, rfl, _⟩ := r
      exact ⟨rfl, by rw [no (by intro z; cases z)]⟩
    | lst ds =>
      cases e
      obtain ⟨a, vs, rfl, _⟩ := r
      exact ⟨rfl, by rw [no (by intro z; cases z)]⟩
    | rol ds =>
      cases e
      obtain ⟨a, vs, rfl, _⟩ := r
      exact ⟨rfl, by rw [no (by intro z; cases z)]⟩
    | ins C fs ds =>
      cases e
      obtain ⟨a, dx, vs, rfl, _⟩ := r
      exact ⟨rfl, by rw [no (by intro z; cases z)]⟩
    | dk ks ds =>
      cases e
      obtain ⟨a, vs, rfl, _⟩ := r
      exact ⟨rfl, by rw [no (by intro z; cases z)]⟩
    | dt ks ds =>
      cases e
      obtain ⟨a, vs, rfl, _⟩ := r
      exact ⟨rfl, by rw [no (by intro z; cases z)]⟩
theorem isN_y {neg : Bool} {cl : List Cell} {x y : W} {r : W × List Cell} (e : isN neg cl x y = some r) : y = .d .non := by
  unfold isN at e
  split at e
  · rfl
  · cases e
theorem is_ok : OpR X (compareOp .Is) (r2F X.K (isN false)) := OpR.weak op_isN fun vx vy H Q ⟨cl, F, al, x, y, C, rx, ry, k⟩ => by
  obtain ⟨d, cl', e, kk⟩ := k.some
  have ey := isN_y e
  subst ey
  obtain ⟨rfl, rfl⟩ := isN_v rx e
  exact ⟨ry, kk F al _ H (Ext.refl _ _ _) C rfl⟩
theorem isnot_ok : OpR X (compareOp .IsNot) (r2F X.K (isN true)) := OpR.weak op_notN fun vx vy H Q ⟨cl, F, al, x, y, C, rx, ry, k⟩ => by
  obtain ⟨d, cl', e, kk⟩ := k.some
  have ey := isN_y e
  subst ey
  obtain ⟨rfl, rfl⟩ := isN_v rx e
  exact ⟨ry, kk F al _ H (Ext.refl _ _ _) C rfl⟩

/-! ### ints -/
def dInt (g : Int → Int → Option D) : Op2 := fun cl x y => match x, y with
  | .d (.int i), .d (.int j) => (g i j).map fun d => (.d d, cl)
  | _, _ => none
theorem int_ok {f : Value → Value → Sem Value} {C : Int → Int → Prop} {g : Int → Int → V} {gd : Int → Int → Option D} (h : OpR X f (rI C g)) (q : ∀ i j d, gd i j = some d → C i j ∧ ∀ F, Rep0 X.K F d (g i j)) : OpR X f (r2F X.K (dInt gd)) :=
  OpR.weak h fun vx vy H Q ⟨cl, F, al, x, y, C, rx, ry, k⟩ => by
    obtain ⟨d, cl', e, kk⟩ := k.some
    unfold dInt at e
    split at e
    · rename_i i j
      have rx : vx = .int i := rx
      have ry : vy = .int j := ry
      subst rx
      subst ry
      obtain ⟨d', e1, e2⟩ := Option.map_eq_some_iff.mp e
      cases e2
      obtain ⟨q1, q2⟩ := q i j d' e1
      exact ⟨i, j, rfl, rfl, q1, kk F al _ H (Ext.refl _ _ _) C (q2 F)⟩
    · cases e
theorem int0_ok {f : Value → Value → Sem Value} {g : Int → Int → V} {gd : Int → Int → D} (h : OpR X f (rI0 g)) (q : ∀ i j F, Rep0 X.K F (gd i j) (g i j)) : OpR X f (r2F X.K (dInt fun i j => some (gd i j))) :=
  OpR.weak h fun vx vy H Q ⟨cl, F, al, x, y, C, rx, ry, k⟩ => by
    obtain ⟨d, cl', e, kk⟩ := k.some
    unfold dInt at e
    split at e
    · rename_i i j
      have rx : vx = .int i := rx
      have ry : vy = .int j := ry
      subst rx
      subst ry
      cases e
      exact ⟨i, j, rfl, rfl, kk F al _ H (Ext.refl _ _ _) C (q i j F)⟩
    · cases e
def dSub : Op2 := dInt fun i j => some (.int (i - j))
def dMod : Op2 := dInt fun i j => if 0 < j then some (.int (i % j)) else none
def dFdv : Op2 := dInt fun i j => if 0 < j ∧ j.natAbs.log2 < 9000 then some (.int (i / j)) else none
def dPow : Op2 := dInt fun i j => if 0 ≤ j ∧ j ≤ 1000000 ∧ i.natAbs < 2 ^ 64 then some (.int (i ^ j.toNat)) else none
def dLt : Op2 := dInt fun i j => some (.bl (decide (i < j)))
def dLe : Op2 := dInt fun i j => some (.bl (decide (i ≤ j)))
def dGt : Op2 := dInt fun i j => some (.bl (decide (j < i)))
def dGe : Op2 := dInt fun i j => some (.bl (decide (j ≤ i)))
theorem sub_ok : OpR X (binaryOp .Sub) (r2F X.K dSub) := int0_ok op_sub fun _ _ _ => rfl
theorem mod_ok : OpR X (binaryOp .Mod) (r2F X.K dMod) := int_ok op_mod fun i j d e => by
  split at e
  · cases e
    exact ⟨by assumption, fun _ => rfl⟩
  · cases e
theorem fdv_ok : OpR X (binaryOp .FloorDiv) (r2F X.K dFdv) := int_ok op_fdivW fun i j d e => by
  split at e
  · cases e
    exact ⟨by assumption, fun _ => rfl⟩
  · cases e
theorem pow_ok : OpR X (binaryOp .Pow) (r2F X.K dPow) := int_ok op_pow fun i j d e => by
  split at e
  · cases e
    exact ⟨by assumption, fun _ => rfl⟩
  · cases e
theorem lt_ok : OpR X (compareOp .Lt) (r2F X.K dLt) := int0_ok op_lt fun _ _ _ => rfl
theorem le_ok : OpR X (compareOp .LtE) (r2F X.K dLe) := int0_ok op_le fun _ _ _ => rfl
theorem gt_ok : OpR X (compareOp .Gt) (r2F X.K dGt) := int0_ok op_gt fun _ _ _ => rfl
theorem ge_ok : OpR X (compareOp .GtE) (r2F X.K dGe) := int0_ok op_ge fun _ _ _ => rfl
def dNeg : Op1 := fun cl x => match x with
  | .d (.int i) => some (.d (.int (-i)), cl)
  | _ => none
theorem neg_ok : UnR X (unaryOp .USub) (r1F X.K dNeg) := UnR.weak un_neg fun vx H Q ⟨cl, F, al, x, C, rx, k⟩ => by
  obtain ⟨d, cl', e, kk⟩ := k.some
  unfold dNeg at e
  split at e
  · rename_i i
    have rx : vx = .int i := rx
    subst rx
    cases e
    exact ⟨i, rfl, kk F al _ H (Ext.refl _ _ _) C rfl⟩
  · cases e

/-! ### + and * of several kinds -/
theorem tupW_ok {K : PySem.W.Frag} {F : Hp} {al : List Addr} {y : W} {v : V} (r : Rep K F al y v) {ys : List W} (h : asTupP y = some ys) : Rep K F al (tupW ys) v := by
  unfold asTupP at h
  split at h
  · cases h
    unfold tupW
    rw [datas_map]
    exact r
  · cases h
    unfold tupW
    split
    · rename_i xs e
      obtain ⟨a, vs, rfl, h1, h2⟩ := r
      rw [datas_some e] at h2
      exact ⟨a, vs, rfl, h1, h2.to0⟩
    · exact r
  · cases h
def dAdd (c : Bool) : Op2 := fun cl x y => match x, y with
  | .d (.int i), .d (.int j) => some (.d (.int (i + j)), cl)
  | .d (.str a), .d (.str b) => if a.length + b.length ≤ sizeLine then some (.d (.str (a ++ b)), cl) else none
  | x, y => match asTupP x, asTupP y with
    | some xs, some ys => if xs.length + ys.length ≤ sizeLine then some (tupW (xs ++ ys), cl) else none
    | _, _ => match asOwn cl x, asOwn cl y with
      | some xs, some ys => if xs.length + ys.length ≤ sizeLine then fresh c (xs ++ ys) cl else none
      | _, _ => none
theorem nil_of {K : PySem.W.Frag} {F : Hp} {al : List Addr} {ds : List W} {vs : List V} (r : Reps K F al ds vs) : vs = [] ↔ ds = [] := by
  rw [← List.length_eq_zero_iff, ← List.length_eq_zero_iff, r.length]
theorem add_ok (c : Bool) : OpR X (binaryOp .Add) (r2F X.K (dAdd c)) := OpR.weak (op_add.or (op_add_str.or (op_catA.or op_cat))) fun vx vy H Q ⟨cl, F, al, x, y, C, rx, ry, k⟩ => by
  obtain ⟨d, cl', e, kk⟩ := k.some
  unfold dAdd at e k
  split at e
  · rename_i i j
    have rx : vx = .int i := rx
    have ry : vy = .int j := ry
    subst rx
    subst ry
    cases e
    exact .inl ⟨i, j, rfl, rfl, kk F al _ H (Ext.refl _ _ _) C rfl⟩
  · rename_i i j
    have rx : vx = .str i := rx
    have ry : vy = .str j := ry
    subst rx
    subst ry
    split at e
    · cases e
      exact .inr (.inl ⟨i, j, rfl, rfl, by assumption, kk F al _ H (Ext.refl _ _ _) C rfl⟩)
    · cases e
  · split at e
    · rename_i xs ys h1 h2
      split at e
      · rename_i hz
        cases e
        obtain ⟨a, vs, rfl, q1, q2⟩ := asTup_ok rx (asTupP_up h1)
        obtain ⟨b, ws, rfl, q3, q4⟩ := asTup_ok ry (asTupP_up h2)
        refine .inr (.inr (.inl ⟨a, b, vs, ws, rfl, rfl, Same.seqT C.fh q1, Same.seqT C.fh q3, by rw [q2.length, q4.length]; exact hz, fun h => ?_, fun _ h => ?_, fun _ _ p hp => ?_⟩))
        · rw [(nil_of q2).mp h] at kk
          exact kk F al _ H (Ext.refl _ _ _) C (tupW_ok ry h2)
        · rw [(nil_of q4).mp h, List.append_nil] at kk
          exact kk F al _ H (Ext.refl _ _ _) C (tupW_ok rx h1)
        · exact tup_ok (show PostV X.K F al H Q (some (tupW (xs ++ ys), cl)) from kk) C (q2.app q4) hp
      · cases e
    · split at e
      · rename_i xs ys h1 h2
        split at e
        · rename_i hz
          obtain ⟨a, vs, rfl, q1, q2⟩ := asOwn_ok C rx h1
          obtain ⟨b, ws, rfl, q3, q4⟩ := asOwn_ok C ry h2
          refine .inr (.inr (.inr ⟨a, b, vs, ws, rfl, rfl, q1, q3, by rw [q2.length, q4.length]; exact hz, fun p hp => ?_⟩))
          refine fresh_ok (c := c) (ds := xs ++ ys) ?_ C (q2.app q4) hp
          rw [e]
          exact kk
        · cases e
      · cases e
def strRep (a : Str) (n : Nat) : Str := ⟨(List.replicate n a.cps).foldl (· ++ ·) #[]⟩
def dMul : Op2 := fun cl x y => match x, y with
  | .d (.int i), .d (.int j) => if i.natAbs.log2 + j.natAbs.log2 < 1000000 then some (.d (.int (i * j)), cl) else none
  | .d (.str a), .d (.int n) => if 2 ≤ n ∧ n ≤ 1000 ∧ a.length ≤ 1000 ∧ a.length ≠ 0 then some (.d (.str (strRep a n.toNat)), cl) else none
  | _, _ => none
theorem op_rep_str : OpR X (binaryOp .Mult) (fun x y H Q => ∃ a n, x = .str a ∧ y = .int n ∧ (2 ≤ n ∧ n ≤ 1000 ∧ a.length ≤ 1000 ∧ a.length ≠ 0) ∧ Q (.str (strRep a n.toNat)) H) := by
  intro pins s σ H x y v u Q I rx ry h
  obtain ⟨a, n, rfl, rfl, ⟨h1, h2, h3, h4⟩, q⟩ := h
  obtain ⟨t, rfl⟩ := rx
  obtain ⟨t', rfl⟩ := ry
  have n1 : ¬ n < 1 := by omega
  have e1 : (n == 1 || a.length == 0) = false := by
    have q1 : (n == 1) = false := by simpa using (show n ≠ 1 by omega)
    have q2 : (a.length == 0) = false := by simpa using h4
    rw [q1, q2]
    rfl
  refine PySem.P.mul_str ?_ (fun _ _ => ?_) (fun _ _ => ?_) ?_
  · have a1 : ¬ n < -(2 ^ 63 : Int) := by omega
    have a2 : ¬ n ≥ 2 ^ 63 := by omega
    rw [decide_eq_false a1, decide_eq_false a2]
    rfl
  · have : (1000 : Int) ≤ (2 ^ 63 - 1) / n := by
      rw [Int.le_ediv_iff_mul_le (by omega)]
      omega
    omega
  · have e2 : a.length * n.toNat ≤ 1000000 := Nat.le_trans (Nat.mul_le_mul h3 (show n.toNat ≤ 1000 by omega)) (by decide)
    unfold Builtin.Str.tooLong
    rw [decide_eq_false]
    rw [sizeLine_eq]
    omega
  · rw [if_neg n1, if_neg (by rw [e1]; exact Bool.false_ne_true)]
    have len : ∀ (k : Nat) (z : Array Nat), ((List.replicate k a.cps).foldl (· ++ ·) z).size = z.size + k * a.cps.size := by
      intro k
      induction k with
      | zero => intro z; simp
      | succ k ih =>
        intro z
        rw [List.replicate_succ, List.foldl_cons, ih, Array.size_append, Nat.succ_mul]
        omega
    refine ⟨?_, ⟨.str (strRep a n.toNat), H, I.tok _, ⟨_, rfl⟩, q⟩⟩
    show ((List.replicate n.toNat a.cps).foldl (· ++ ·) #[]).size ≤ sizeLine
    rw [len, sizeLine_eq]
    have : n.toNat * a.cps.size ≤ 1000 * 1000 := Nat.mul_le_mul (show n.toNat ≤ 1000 by omega) h3
    simp
    omega
theorem mul_ok : OpR X (binaryOp .Mult) (r2F X.K dMul) := OpR.weak (op_mulW.or op_rep_str) fun vx vy H Q ⟨cl, F, al, x, y, C, rx, ry, k⟩ => by
  obtain ⟨d, cl', e, kk⟩ := k.some
  unfold dMul at e
  split at e
  · rename_i i j
    have rx : vx = .int i := rx
    have ry : vy = .int j := ry
    subst rx
    subst ry
    split at e
    · cases e
      exact .inl ⟨i, j, rfl, rfl, by assumption, kk F al _ H (Ext.refl _ _ _) C rfl⟩
    · cases e
  · rename_i i j
    have rx : vx = .str i := rx
    have ry : vy = .int j := ry
    subst rx
    subst ry
    split at e
    · cases e
      exact .inr ⟨i, j, rfl, rfl, by assumption, kk F al _ H (Ext.refl _ _ _) C rfl⟩
    · cases e
  · cases e
end
end FL

namespace FL
open PySem PySem.Spec L2

/-! ### built-in functions by name -/
section
variable {X : Cx} {x : Str} {p pos apos cpos : Pos} {e o : Expr} {es : List Expr} {id T : String} {g : OpN} {ms : MS} {name : Str}
theorem pf_callB (hc : CallR X (.builtin id) (rNF X.K g)) (hg : Gl X x) (hm : X.mg x = none) (hv : bootBuiltins x = some (.builtin id)) (ha : PA X (e :: es) (tFA X.K ms)) (hn : x ≠ "__name__" := by decide) (hdb : (x == ("__debug__" : Str)) = false := by decide)
    (he : starEach (e :: es) X.env = (false, eval e X.env) :: starEach es X.env := by rfl) (hpl : (backTo pos (starEach es X.env)).any (·.1) = false := by rfl) : PE X (.Call (.Name x p) (e :: es) [] pos) (tF X.K (eCall g ms)) :=
  PE.weak (pe_callB hc hg hm hv ha hn hdb he hpl) (w_call fun _ _ _ h => h)
theorem pf_callTy (hc : CallR X (.type T) (rNF X.K g)) (hg : Gl X x) (hm : X.mg x = none) (hv : bootBuiltins x = some (.type T)) (ha : PA X (e :: es) (tFA X.K ms)) (hn : x ≠ "__name__" := by decide) (hdb : (x == ("__debug__" : Str)) = false := by decide)
    (he : starEach (e :: es) X.env = (false, eval e X.env) :: starEach es X.env := by rfl) (hpl : (backTo pos (starEach es X.env)).any (·.1) = false := by rfl) : PE X (.Call (.Name x p) (e :: es) [] pos) (tF X.K (eCall g ms)) :=
  PE.weak (pe_callTy hc hg hm hv ha hn hdb he hpl) (w_call fun _ _ _ h => h)
/-- o.m(..) of a built-in's method: the receiver is looked at ahead of the arguments -/
def eMethT (chk : List Cell → W → Bool) (g : OpN) (a : M) (t : MS) : M := fun r => match a r with
  | some (x, r1) => if chk r1.cl x = true then match t r1 with
      | some (xs, r2) => liftN g (x :: xs) r2
      | none => none
    else none
  | none => none
def TyOk (X : Cx) (T : String) (chk : List Cell → W → Bool) : Prop := ∀ (cl : List Cell) (F : Hp) (al : List Addr) (H : Hp) (x : W) (v : V), Cells X.K cl F al H → Rep X.K F al x v → chk cl x = true → tyV X.K T v H
theorem pf_bm {chk : List Cell → W → Bool} {m : M} (pa : PlainAttrs T) (slot : Slot T name id) (hty : typeOf (.builtin id) = pure (.type "method_descriptor")) (hm : MtR X id (rMF X.K g)) (ty : TyOk X T chk) (ho : PE X o (tF X.K m)) (ha : PA X (e :: es) (tFA X.K ms))
    (hbase : attributeBase o name X.env (eval o X.env) = eval o X.env := by rfl)
    (hfew : ((backTo cpos (starEach (e :: es) X.env)).all (fun x => !x.1) && (backToKw cpos (keywordEach [] X.env)).all (fun x => x.1.isSome)
      && decide ((e :: es).length + ([] : List Keyword).length + (if ([] : List Keyword).isEmpty then 0 else 1) < 30)) = true := by rfl)
    (hline : (apos.endLine == cpos.line) = true := by rfl) (hs : starEach (e :: es) X.env = (false, eval e X.env) :: starEach es X.env := by rfl) (hplain : (backTo cpos (starEach es X.env)).any (·.1) = false := by rfl) :
    PE X (.Call (.Attribute o name apos) (e :: es) [] cpos) (tF X.K (eMethT chk g m ms)) :=
  PE.weak (pe_bm pa slot hty hm ho ha hbase hfew hline hs hplain) fun σ H Q ⟨rho, F, al, d, r', R, e1, k⟩ => by
    unfold eMethT at e1
    split at e1
    · rename_i x0 r1 q1
      split at e1
      · rename_i hc
        split at e1
        · rename_i xs r2 q2
          obtain ⟨c, q4, rfl⟩ := liftN_some e1
          refine ⟨rho, F, al, x0, r1, R, q1, fun F1 al1 vx H1 x1 R1 p1 => ⟨ty _ _ _ _ _ _ R1.c p1 hc, ?_⟩⟩
          refine ⟨r1, F1, al1, xs, r2, R1, q2, fun F2 al2 vs H2 x2 R2 p2 => ?_⟩
          refine ⟨r2.cl, F2, al2, x0, xs, R2.c, x2.rep p1, p2, ?_⟩
          rw [q4]
          exact post_of R2.s fun F' al' v H' x3 R3 p3 => k F' al' v H' ((x1.trans x2).trans x3) R3 p3
        · cases e1
      · cases e1
    · cases e1
theorem pf_bm0 {chk : List Cell → W → Bool} {m : M} (pa : PlainAttrs T) (slot : Slot T name id) (hty : typeOf (.builtin id) = pure (.type "method_descriptor")) (hm : MtR X id (rMF X.K g)) (ty : TyOk X T chk) (ho : PE X o (tF X.K m))
    (hbase : attributeBase o name X.env (eval o X.env) = eval o X.env := by rfl) (hline : (apos.endLine == cpos.line) = true := by rfl) : PE X (.Call (.Attribute o name apos) [] [] cpos) (tF X.K (eMethT chk g m aNil)) :=
  PE.weak (pe_bm0 pa slot hty hm ho hbase hline) fun σ H Q ⟨rho, F, al, d, r', R, e1, k⟩ => by
    unfold eMethT at e1
    split at e1
    · rename_i x0 r1 q1
      split at e1
      · rename_i hc
        obtain ⟨c, q4, rfl⟩ := liftN_some (show liftN g [x0] r1 = some (d, r') from e1)
        refine ⟨rho, F, al, x0, r1, R, q1, fun F1 al1 vx H1 x1 R1 p1 => ⟨ty _ _ _ _ _ _ R1.c p1 hc, ?_⟩⟩
        refine ⟨r1.cl, F1, al1, x0, [], R1.c, p1, rfl, ?_⟩
        rw [q4]
        exact post_of R1.s fun F' al' v H' x3 R3 p3 => k F' al' v H' (x1.trans x3) R3 p3
      · cases e1
    · cases e1
end

def isLst (cl : List Cell) (x : W) : Bool := (asList cl x).isSome
def isStr (_ : List Cell) : W → Bool
  | .d (.str _) => true
  | _ => false
section
variable {X : Cx}
theorem ty_lst : TyOk X "list" isLst := fun cl F al H x v C r h => by
  unfold isLst at h
  obtain ⟨ds, e⟩ := Option.isSome_iff_exists.mp h
  obtain ⟨a, vs, rfl, q, _⟩ := asList_ok C r e
  exact .inl ⟨rfl, vs, q⟩
theorem ty_str : TyOk X "str" isStr := fun cl F al H x v C r h => by
  unfold isStr at h
  split at h
  · have r : v = .str _ := r
    subst r
    exact rfl
  · cases h

/-! ### methods that change a list of ours -/
def cellL (cl : List Cell) : W → Option (Nat × List W)
  | .cel n => match cl[n]? with
    | some (.lst ws) => some (n, ws)
    | _ => none
  | _ => none
theorem cellL_ok {K : PySem.W.Frag} {cl : List Cell} {F : Hp} {al : List Addr} {H : Hp} (C : Cells K cl F al H) {x : W} {v : V} (r : Rep K F al x v) {n : Nat} {ws : List W} (h : cellL cl x = some (n, ws)) : ∃ a vs, v = .ref a ∧ al[n]? = some a ∧ F a = none ∧ H a = some (.lst vs) ∧ Reps K F al ws vs := by
  unfold cellL at h
  split at h
  · obtain ⟨a, e1, e2⟩ := r
    split at h
    · cases h
      rename_i q
      obtain ⟨q0, vs, q1, q2⟩ := C.ok _ _ _ e2 q
      exact ⟨a, vs, e1, e2, q0, q1, q2⟩
    · cases h
  · cases h
theorem wr_ok {K : PySem.W.Frag} {cl : List Cell} {F : Hp} {al : List Addr} {H : Hp} {Q : VK} {n : Nat} {a : Addr} {ws : List W} {vs : List V} {d : W} {v : V} {r : R0} (k : PostV K F al H Q r) (e : r = some (d, cl.set n (.lst ws))) (C : Cells K cl F al H) (ha : al[n]? = some a) (hF : F a = none) (q : Reps K F al ws vs) (p : Rep K F al d v) :
    Q v (upd H a (.lst vs)) := by
  subst e
  exact k F al v _ (ext_wr ha hF) (C.wr ha hF ⟨hF, vs, upd_same, q⟩) p
def mAppend : OpN := fun cl ds => match ds with
  | [x, y] => match cellL cl x with
    | some (n, ws) => if ws.length < sizeLine then some (.d .non, cl.set n (.lst (ws ++ [y]))) else none
    | none => none
  | _ => none
def mClear : OpN := fun cl ds => match ds with
  | [x] => match cellL cl x with
    | some (n, ws) => some (.d .non, cl.set n (.lst []))
    | none => none
  | _ => none
def mPop : OpN := fun cl ds => match ds with
  | [x] => match cellL cl x with
    | some (n, ws) => match ws[ws.length - 1]? with
      | some y => some (y, cl.set n (.lst ws.dropLast))
      | none => none
    | none => none
  | _ => none
def mPopAt : OpN := fun cl ds => match ds with
  | [x, .d (.int i)] => match cellL cl x with
    | some (n, ws) => if -(2 ^ 63) ≤ i ∧ i < 2 ^ 63 then match seqIndex? i ws.length with
        | some k => match ws[k]? with
          | some y => some (y, cl.set n (.lst (ws.eraseIdx k)))
          | none => none
        | none => none
      else none
    | none => none
  | _ => none
def mInsert : OpN := fun cl ds => match ds with
  | [x, .d (.int i), y] => match cellL cl x with
    | some (n, ws) => if ws.length < sizeLine ∧ 0 ≤ i ∧ i < 2 ^ 63 then some (.d .non, cl.set n (.lst (ws.take i.toNat ++ [y] ++ ws.drop i.toNat))) else none
    | none => none
  | _ => none
theorem MtM.toR {id : String} {r : V → List V → Hp → VK → Prop} (h : MtM X id r) : MtR X id r := h
theorem append_ok : MtR X "list.append" (rMF X.K mAppend) := MtR.weak mt_append fun vx vs H Q ⟨cl, F, al, x, ds, C, rx, rs, k⟩ => by
  obtain ⟨d, cl', e, _⟩ := k.some
  cases ds with
  | nil => exact k.none_elim rfl
  | cons y ds =>
    cases ds with
    | cons z ds => exact k.none_elim rfl
    | nil =>
      obtain ⟨vy, vr, rfl, ry, r0⟩ := rs
      have r0 : vr = [] := r0
      subst r0
      simp only [mAppend] at e
      split at e
      · rename_i n ws hc
        split at e
        · rename_i hz
          obtain ⟨a, vs, rfl, h1, h2, h3, h4⟩ := cellL_ok C rx hc
          refine ⟨a, vs, vy, rfl, rfl, h3, by rw [h4.length]; exact hz, ?_⟩
          exact wr_ok k (by simp only [mAppend, hc, if_pos hz]) C h1 h2 (h4.app (Reps.one ry)) (show Rep X.K F al (.d .non) .non from rfl)
        · cases e
      · cases e
theorem clear_ok : MtR X "list.clear" (rMF X.K mClear) := MtR.weak mt_clear fun vx vs H Q ⟨cl, F, al, x, ds, C, rx, rs, k⟩ => by
  obtain ⟨d, cl', e, _⟩ := k.some
  cases ds with
  | cons y ds => exact k.none_elim rfl
  | nil =>
    have r0 : vs = [] := rs
    subst r0
    simp only [mClear] at e
    split at e
    · rename_i n ws hc
      obtain ⟨a, vs, rfl, h1, h2, h3, h4⟩ := cellL_ok C rx hc
      refine ⟨a, vs, rfl, rfl, h3, ?_⟩
      exact wr_ok (ws := []) (vs := []) k (by simp only [mClear, hc]) C h1 h2 rfl (show Rep X.K F al (.d .non) .non from rfl)
    · cases e
theorem Reps.dropLast {K : PySem.W.Frag} {F : Hp} {al : List Addr} {ds : List W} {vs : List V} (r : Reps K F al ds vs) : Reps K F al ds.dropLast vs.dropLast := by
  rw [List.dropLast_eq_take, List.dropLast_eq_take, r.length]
  exact r.take _
theorem pop_ok : MtR X "list.pop" (rMF X.K mPop) := MtR.weak mt_pop fun vx vs H Q ⟨cl, F, al, x, ds, C, rx, rs, k⟩ => by
  obtain ⟨d, cl', e, _⟩ := k.some
  cases ds with
  | cons y ds => exact k.none_elim rfl
  | nil =>
    have r0 : vs = [] := rs
    subst r0
    simp only [mPop] at e
    split at e
    · rename_i n ws hc
      split at e
      · rename_i y hy
        obtain ⟨a, vs, rfl, h1, h2, h3, h4⟩ := cellL_ok C rx hc
        obtain ⟨vy, q1, q2⟩ := h4.get hy
        refine ⟨a, vs, vy, rfl, rfl, h3, by rw [h4.length]; exact q1, ?_⟩
        exact wr_ok k (by simp only [mPop, hc, hy]) C h1 h2 h4.dropLast q2
      · cases e
    · cases e
theorem popAt_ok : MtR X "list.pop" (rMF X.K mPopAt) := MtR.weak mt_popAt fun vx vs H Q ⟨cl, F, al, x, ds, C, rx, rs, k⟩ => by
  obtain ⟨d, cl', e, _⟩ := k.some
  unfold mPopAt at e
  split at e
  · rename_i x0 i he
    cases he
    obtain ⟨vy, vr, rfl, ry, r0⟩ := rs
    have r0 : vr = [] := r0
    have ry : vy = .int i := ry
    subst r0 ry
    split at e
    · rename_i n ws hc
      split at e
      · rename_i hb
        split at e
        · rename_i j hj
          split at e
          · rename_i y hy
            obtain ⟨a, vs, rfl, h1, h2, h3, h4⟩ := cellL_ok C rx hc
            obtain ⟨vy, q1, q2⟩ := h4.get hy
            refine ⟨a, vs, i, j, vy, rfl, rfl, h3, hb.1, hb.2, by rw [h4.length]; exact hj, q1, ?_⟩
            exact wr_ok k (by simp only [mPopAt, hc, if_pos hb, hj, hy]) C h1 h2 (h4.eraseIdx j) q2
          · cases e
        · cases e
      · cases e
    · cases e
  · cases e
theorem insert_ok : MtR X "list.insert" (rMF X.K mInsert) := MtR.weak mt_insert fun vx vs H Q ⟨cl, F, al, x, ds, C, rx, rs, k⟩ => by
  obtain ⟨d, cl', e, _⟩ := k.some
  unfold mInsert at e
  split at e
  · rename_i x0 i y he
    cases he
    obtain ⟨vi, vr, rfl, ri, vy, vr2, rfl, ry, r0⟩ := rs
    have r0 : vr2 = [] := r0
    have ri : vi = .int i := ri
    subst r0 ri
    split at e
    · rename_i n ws hc
      split at e
      · rename_i hb
        obtain ⟨a, vs, rfl, h1, h2, h3, h4⟩ := cellL_ok C rx hc
        refine ⟨a, vs, i, vy, rfl, rfl, h3, by rw [h4.length]; exact hb.1, hb.2.1, hb.2.2, ?_⟩
        exact wr_ok k (by simp only [mInsert, hc, if_pos hb]) C h1 h2 (((h4.take i.toNat).app (Reps.one ry)).app (h4.drop i.toNat)) (show Rep X.K F al (.d .non) .non from rfl)
      · cases e
    · cases e
  · cases e
end
end FL

namespace FL
open PySem PySem.Spec L2

/-! ### len, max, min, list, int, isinstance -/
section
variable {X : Cx}
def lenW (cl : List Cell) : W → Option Nat
  | .d (.str z) => if z.length ≤ sizeLine then some z.length else none
  | x => match asTup x with
    | some ds => some ds.length
    | none => (asList cl x).map List.length
def oLen : OpN := fun cl ds => match ds with
  | [x] => match lenW cl x with
    | some n => some (.d (.int n), cl)
    | none => none
  | _ => none
theorem lenW_ok {K : PySem.W.Frag} {cl : List Cell} {F : Hp} {al : List Addr} {H : Hp} (C : Cells K cl F al H) {x : W} {v : V} (r : Rep K F al x v) {n : Nat} (h : lenW cl x = some n) : LenV K v H n := by
  unfold lenW at h
  split at h
  · rename_i z
    have r : v = .str z := r
    subst r
    split at h
    · cases h
      exact ⟨by assumption, rfl⟩
    · cases h
  · split at h
    · rename_i ds et
      cases h
      obtain ⟨a, vs, rfl, h1, h2⟩ := asTup_ok r et
      exact .inr ⟨vs, Same.seqT C.fh h1, h2.length.symm⟩
    · obtain ⟨ds, e1, e2⟩ := Option.map_eq_some_iff.mp h
      obtain ⟨a, vs, rfl, h1, h2⟩ := asList_ok C r e1
      exact .inl ⟨vs, h1, by rw [h2.length]; exact e2.symm⟩
theorem len_ok : CallR X (.builtin "len") (rNF X.K oLen) := CallR.weak call_len fun vs H Q ⟨cl, F, al, ds, C, rs, k⟩ => by
  obtain ⟨d, cl', e, kk⟩ := k.some
  unfold oLen at e
  split at e
  · rename_i x
    obtain ⟨v, vr, rfl, rx, r0⟩ := rs
    have r0 : vr = [] := r0
    subst r0
    split at e
    · rename_i n hn
      cases e
      exact ⟨v, n, rfl, lenW_ok C rx hn, kk F al _ H (Ext.refl _ _ _) C rfl⟩
    · cases e
  · cases e
def oInt2 (g : Int → Int → Int) : OpN := fun cl ds => match ds with
  | [.d (.int i), .d (.int j)] => some (.d (.int (g i j)), cl)
  | _ => none
def oMax : OpN := oInt2 fun i j => if j > i then j else i
def oMin : OpN := oInt2 fun i j => if j < i then j else i
theorem int2_ok {f : Value} {g : Int → Int → Int} (h : CallR X f (fun xs H Q => ∃ i j, xs = [.int i, .int j] ∧ Q (.int (g i j)) H)) : CallR X f (rNF X.K (oInt2 g)) := CallR.weak h fun vs H Q ⟨cl, F, al, ds, C, rs, k⟩ => by
  obtain ⟨d, cl', e, kk⟩ := k.some
  unfold oInt2 at e
  split at e
  · rename_i i j
    obtain ⟨v, vr, rfl, r1, v2, vr2, rfl, r2, r0⟩ := rs
    have r0 : vr2 = [] := r0
    have r1 : v = .int i := r1
    have r2 : v2 = .int j := r2
    subst r0 r1 r2
    cases e
    exact ⟨i, j, rfl, kk F al _ H (Ext.refl _ _ _) C rfl⟩
  · cases e
theorem max_ok (hc : X.calm = true) : CallR X (.builtin "max") (rNF X.K oMax) := int2_ok (call_max2 hc)
theorem min_ok (hc : X.calm = true) : CallR X (.builtin "min") (rNF X.K oMin) := int2_ok (call_min2 hc)
def oInt : OpN := fun cl ds => match ds with
  | [.d (.int i)] => some (.d (.int i), cl)
  | [.d (.bl k)] => some (.d (.int (if k then 1 else 0)), cl)
  | _ => none
theorem int1_ok : CallR X (.type "int") (rNF X.K oInt) := CallR.weak call_int1 fun vs H Q ⟨cl, F, al, ds, C, rs, k⟩ => by
  obtain ⟨d, cl', e, kk⟩ := k.some
  unfold oInt at e
  split at e
  · rename_i i
    obtain ⟨v, vr, rfl, r1, r0⟩ := rs
    have r0 : vr = [] := r0
    have r1 : v = .int i := r1
    subst r0 r1
    cases e
    exact .inl ⟨i, rfl, kk F al _ H (Ext.refl _ _ _) C rfl⟩
  · rename_i i
    obtain ⟨v, vr, rfl, r1, r0⟩ := rs
    have r0 : vr = [] := r0
    have r1 : v = .bl i := r1
    subst r0 r1
    cases e
    exact .inr ⟨i, rfl, kk F al _ H (Ext.refl _ _ _) C rfl⟩
  · cases e
def seqW (cl : List Cell) (x : W) : Option (List W) := match asTup x with
  | some ds => some ds
  | none => asList cl x
def oList (c : Bool) : OpN := fun cl ds => match ds with
  | [x] => match seqW cl x with
    | some ws => fresh c ws cl
    | none => none
  | _ => none
theorem seqW_ok {K : PySem.W.Frag} {cl : List Cell} {F : Hp} {al : List Addr} {H : Hp} (C : Cells K cl F al H) {x : W} {v : V} (r : Rep K F al x v) {ds : List W} (h : seqW cl x = some ds) : ∃ a vs, v = .ref a ∧ (SqL K H a vs ∨ SqT K H a vs) ∧ Reps K F al ds vs := by
  unfold seqW at h
  split at h
  · rename_i ws et
    cases h
    obtain ⟨a, vs, rfl, h1, h2⟩ := asTup_ok r et
    exact ⟨a, vs, rfl, .inr (Same.seqT C.fh h1), h2⟩
  · obtain ⟨a, vs, rfl, h1, h2⟩ := asList_ok C r h
    exact ⟨a, vs, rfl, .inl h1, h2⟩
theorem list_ok (c : Bool) : CallR X (.type "list") (rNF X.K (oList c)) := CallR.weak call_list_of fun vs H Q ⟨cl, F, al, ds, C, rs, k⟩ => by
  obtain ⟨d, cl', e, kk⟩ := k.some
  unfold oList at e k
  split at e
  · rename_i x
    obtain ⟨v, vr, rfl, rx, r0⟩ := rs
    have r0 : vr = [] := r0
    subst r0
    simp only at k
    split at e
    · rename_i ws hw
      rw [hw] at k
      obtain ⟨a, vs, rfl, h1, h2⟩ := seqW_ok C rx hw
      exact ⟨a, vs, rfl, h1, fun l hl => fresh_ok k C h2 hl⟩
    · cases e
  · cases e
/-- isinstance(x, T), T a built-in class -/
def tyW (cl : List Cell) : W → Option String
  | .d .non => some "NoneType"
  | .d (.bl _) => some "bool"
  | .d (.int _) => some "int"
  | .d (.str _) => some "str"
  | .d (.lst _) => some "list"
  | .cel n => match cl[n]? with
    | some (.lst _) => some "list"
    | some (.dk _ _) => some "dict"
    | some (.dt _ _) => some "dict"
    | _ => none
  | _ => none
def oIsi : OpN := fun cl ds => match ds with
  | [x, .d (.op (.ty T))] => match tyW cl x with
    | some t => match kitB t T with
      | some b => some (.d (.bl b), cl)
      | none => none
    | none => none
  | _ => none
theorem tyW_ok {K : PySem.W.Frag} {cl : List Cell} {F : Hp} {al : List Addr} {H : Hp} (C : Cells K cl F al H) {x : W} {v : V} (r : Rep K F al x v) {t : String} (h : tyW cl x = some t) : TyX K H v (.type t) := by
  unfold tyW at h
  split at h
  · have r : v = .non := r
    subst r
    cases h
    exact .base .non
  · have r : v = .bl _ := r
    subst r
    cases h
    exact .base (.bl _)
  · have r : v = .int _ := r
    subst r
    cases h
    exact .base (.int _)
  · have r : v = .str _ := r
    subst r
    cases h
    exact .base (.str _)
  · cases h
    obtain ⟨a, vs, rfl, q1, q2⟩ := r
    exact .base (.lst (C.fh _ _ q1))
  · obtain ⟨a, rfl, ha⟩ := r
    split at h
    · rename_i q
      cases h
      obtain ⟨_, vs, q1, _⟩ := C.ok _ _ _ ha q
      exact .base (.lst q1)
    · rename_i q
      cases h
      obtain ⟨_, vs, q1, _⟩ := C.ok _ _ _ ha q
      exact .base (.dK q1)
    · rename_i q
      cases h
      obtain ⟨_, vs, q1, _⟩ := C.ok _ _ _ ha q
      exact .base (.dT q1)
    · cases h
  · cases h
theorem isi_ok : CallR X (.builtin "isinstance") (rNF X.K oIsi) := CallR.weak call_isi fun vs H Q ⟨cl, F, al, ds, C, rs, k⟩ => by
  obtain ⟨d, cl', e, kk⟩ := k.some
  unfold oIsi at e
  split at e
  · rename_i x T
    obtain ⟨v, vr, rfl, r1, v2, vr2, rfl, r2, r0⟩ := rs
    have r0 : vr2 = [] := r0
    have r2 : v2 = .ty T := r2
    subst r0 r2
    split at e
    · rename_i t ht
      split at e
      · rename_i b hb
        cases e
        exact ⟨v, .ty T, .type t, .type T, b, rfl, .ty T, tyW_ok C r1 ht, kit_ty hb, kk F al _ H (Ext.refl _ _ _) C rfl⟩
      · cases e
    · cases e
  · cases e
end

/-! ### slices of lists and tuples -/
def cutW (xs : List W) (lo hi : Option Int) : List W := (xs.drop (HT.sIx xs.length 0 lo)).take (HT.sIx xs.length xs.length hi - HT.sIx xs.length 0 lo)
theorem Reps.cut {K : PySem.W.Frag} {F : Hp} {al : List Addr} {ds : List W} {vs : List V} (r : Reps K F al ds vs) (lo hi : Option Int) : Reps K F al (cutW ds lo hi) (cutV vs lo hi) := by
  unfold cutW cutV
  rw [r.length]
  exact (r.drop _).take _
abbrev OpS := List Cell → W → Option Int → Option Int → R0
def rSF (K : PySem.W.Frag) (g : OpS) : V → Option Int → Option Int → Hp → VK → Prop := fun vx lo hi H Q => ∃ cl F al x, Cells K cl F al H ∧ Rep K F al x vx ∧ PostV K F al H Q (g cl x lo hi)
abbrev MO := Rho → Option (Option Int × Rho)
def oNo : MO := fun r => some (none, r)
def oSome (m : M) : MO := fun r => match m r with
  | some (.d (.int i), r1) => some (some i, r1)
  | _ => none
def eSlice (g : OpS) (a : M) (lo hi : MO) : M := fun r => match a r with
  | some (x, r1) => match lo r1 with
    | some (l, r2) => match hi r2 with
      | some (u, r3) => match g r3.cl x l u with
        | some (d, c) => some (d, { r3 with cl := c })
        | none => none
      | none => none
    | none => none
  | none => none
def tFO (K : PySem.W.Frag) (m : MO) : TO := fun σ H Q => ∃ r F al d r', Rel K r F al σ H ∧ m r = some (d, r') ∧ ∀ F' al' H', Ext F al H F' al' H' → Rel K r' F' al' σ H' → Q d H'
section
variable {X : Cx} {e : Expr} {lo hi : Option Expr} {p2 pos : Pos}
theorem PO.weak {t t' : TO} (h : PO X lo t) (w : ∀ σ H Q, t' σ H Q → t σ H Q) : PO X lo t' := ⟨fun pins s σ H Q I q => h.run pins s σ H Q I (w σ H Q q)⟩
theorem fo_none : PO X none (tFO X.K oNo) := PO.weak po_none fun σ H Q ⟨r, F, al, d, r', R, e1, k⟩ => by
  have e1 : some (none, r) = some (d, r') := e1
  cases e1
  exact k F al H (Ext.refl _ _ _) R
theorem fo_some {m : M} (h : PE X e (tF X.K m)) : PO X (some e) (tFO X.K (oSome m)) := PO.weak (po_some h) fun σ H Q ⟨r, F, al, d, r', R, e1, k⟩ => by
  unfold oSome at e1
  split at e1
  · rename_i i r1 q
    cases e1
    refine ⟨r, F, al, _, r', R, q, fun F1 al1 v H1 x1 R1 p1 => ?_⟩
    have p1 : v = .int i := p1
    exact ⟨i, p1, k F1 al1 H1 x1 R1⟩
  · cases e1
theorem pf_slice {g : OpS} {m : M} {ml mh : MO} (hr : SlR X (rSF X.K g)) (he : PE X e (tF X.K m)) (hl : PO X lo (tFO X.K ml)) (hu : PO X hi (tFO X.K mh)) : PE X (.Subscript e (.Slice lo hi none p2) pos) (tF X.K (eSlice g m ml mh)) :=
  PE.weak (pe_slice hr he hl hu) fun σ H Q ⟨r, F, al, d, r', R, e1, k⟩ => by
    unfold eSlice at e1
    split at e1
    · rename_i x0 r1 q1
      split at e1
      · rename_i l r2 q2
        split at e1
        · rename_i u r3 q3
          split at e1
          · rename_i d0 c q4
            cases e1
            refine ⟨r, F, al, x0, r1, R, q1, fun F1 al1 v H1 x1 R1 p1 => ⟨r1, F1, al1, l, r2, R1, q2, fun F2 al2 H2 x2 R2 => ⟨r2, F2, al2, u, r3, R2, q3, fun F3 al3 H3 x3 R3 => ?_⟩⟩⟩
            refine ⟨r3.cl, F3, al3, x0, R3.c, (x2.trans x3).rep p1, ?_⟩
            rw [q4]
            exact post_of R3.s fun F' al' v H' x4 R4 p4 => k F' al' v H' (((x1.trans x2).trans x3).trans x4) R4 p4
          · cases e1
        · cases e1
      · cases e1
    · cases e1
theorem SlR.weak {r r' : V → Option Int → Option Int → Hp → VK → Prop} (h : SlR X r) (w : ∀ x lo hi H Q, r' x lo hi H Q → r x lo hi H Q) : SlR X r' := fun pins s σ H x v vl vu lo hi sl Q I rx hs pl pu q => h pins s σ H x v vl vu lo hi sl Q I rx hs pl pu (w _ _ _ _ _ q)
def dSl (c : Bool) : OpS := fun cl x lo hi => match asTupP x with
  | some ws => some (tupW (cutW ws lo hi), cl)
  | none => match asList cl x with
    | some ws => fresh c (cutW ws lo hi) cl
    | none => none
theorem cut_whole (ws : List W) (lo hi : Option Int) (h : HT.sIx ws.length 0 lo = 0 ∧ HT.sIx ws.length ws.length hi = ws.length) : cutW ws lo hi = ws := by
  unfold cutW
  rw [h.1, h.2, List.drop_zero, Nat.sub_zero, List.take_length]
theorem sl_ok (c : Bool) : SlR X (rSF X.K (dSl c)) := SlR.weak (sl_tupA.or sl_list) fun vx lo hi H Q ⟨cl, F, al, x, C, rx, k⟩ => by
  unfold dSl at k
  split at k
  · rename_i ws et
    obtain ⟨a, vs, rfl, h1, h2⟩ := asTup_ok rx (asTupP_up et)
    refine .inl ⟨a, vs, rfl, Same.seqT C.fh h1, fun hw => ?_, fun hw p hp => tup_ok k C (h2.cut lo hi) hp⟩
    rw [h2.length] at hw
    rw [cut_whole ws lo hi hw] at k
    exact k F al _ H (Ext.refl _ _ _) C (tupW_ok rx et)
  · split at k
    · rename_i ws et
      obtain ⟨a, vs, rfl, h1, h2⟩ := asList_ok C rx et
      exact .inr ⟨a, vs, rfl, h1, fun p hp => fresh_ok k C (h2.cut lo hi) hp⟩
    · exact k.elim
end

/-! ### o[i] = v -/
abbrev OpSet := List Cell → W → W → W → Option (List Cell)
def rSetF (K : PySem.W.Frag) (g : OpSet) : TSet := fun vo vi vv H Q => ∃ cl F al o i x, Cells K cl F al H ∧ Rep K F al o vo ∧ Rep K F al i vi ∧ Rep K F al x vv ∧ ∃ cl', g cl o i x = some cl' ∧ ∀ F' al' H', Ext F al H F' al' H' → Cells K cl' F' al' H' → Q H'
def tSub (o i : M) (g : OpSet) : MG := fun d r => match o r with
  | some (ov, r1) => match i r1 with
    | some (iv, r2) => match g r2.cl ov iv d with
      | some c => some { r2 with cl := c }
      | none => none
    | none => none
  | none => none
theorem PSet.weak {X : Cx} {t t' : TSet} (h : PSet X t) (w : ∀ o i v H Q, t' o i v H Q → t o i v H Q) : PSet X t' := fun pins s σ H o i v ov iv u Q I ro ri rv q => h pins s σ H o i v ov iv u Q I ro ri rv (w _ _ _ _ _ q)
def setL : OpSet := fun cl o i x => match i with
  | .d (.int k) => match cellL cl o with
    | some (n, ws) => match ixN ws.length k with
      | some j => some (cl.set n (.lst (ws.set j x)))
      | none => none
    | none => none
  | _ => none
section
variable {X : Cx} {o i : Expr} {pos : Pos}
theorem setL_ok : PSet X (rSetF X.K setL) := PSet.weak set_list fun vo vi vv H Q ⟨cl, F, al, o, i, x, C, ro, ri, rv, cl', e, k⟩ => by
  unfold setL at e
  split at e
  · rename_i kk
    have ri : vi = .int kk := ri
    subst ri
    split at e
    · rename_i n ws hc
      split at e
      · rename_i j hj
        cases e
        obtain ⟨a, vs, rfl, h1, h2, h3, h4⟩ := cellL_ok C ro hc
        exact ⟨a, vs, kk, j, rfl, rfl, h3, by rw [h4.length]; exact hj, k F al _ (ext_wr h1 h2) (C.wr h1 h2 ⟨h2, _, upd_same, h4.set rv⟩)⟩
      · cases e
    · cases e
  · cases e
theorem fg_sub {mo mi : M} {g : OpSet} (ho : PE X o (tF X.K mo)) (hi : PE X i (tF X.K mi)) (hs : PSet X (rSetF X.K g))
    (ha : ∀ v, assign (.Subscript o i pos) X.env v = (do
      let ov ← holding [v] (eval o X.env)
      let iv ← holding [v, ov] (eval i X.env)
      standAt pos
      holding [v, ov, iv] (setItem ov iv v)
      release [v, ov, iv] []) := by intro _; rfl) : PG X (.Subscript o i pos) (gF X.K [] (tSub mo mi g)) :=
  PG.weak (pg_sub ho hi hs ha) fun v σ H Q ⟨r, F, al, d, r', R, p, e1, k⟩ => by
    unfold tSub at e1
    split at e1
    · rename_i ov r1 q1
      split at e1
      · rename_i iv r2 q2
        split at e1
        · rename_i c q3
          cases e1
          refine ⟨r, F, al, ov, r1, R, q1, fun F1 al1 vo H1 x1 R1 p1 => ⟨r1, F1, al1, iv, r2, R1, q2, fun F2 al2 vi H2 x2 R2 p2 => ?_⟩⟩
          exact ⟨r2.cl, F2, al2, ov, iv, d, R2.c, x2.rep p1, p2, (x1.trans x2).rep p, c, q3, fun F' al' H' x3 C3 => k F' al' σ H' ((x1.trans x2).trans x3) ⟨R2.s.ext x3, C3⟩ rfl fun _ _ => rfl⟩
        · cases e1
      · cases e1
    · cases e1
end
end FL

namespace FL
open PySem PySem.Spec L2

/-! ### instances -/
def look (f : Str) : List Str → List W → Option W
  | g :: gs, x :: xs => if f = g then some x else look f gs xs
  | _, _ => none
theorem look_ok {K : PySem.W.Frag} {F : Hp} {al : List Addr} {f : Str} : ∀ {fvs : List (Str × V)} {ws : List W} {w : W}, Reps K F al ws (fvs.map (·.2)) → look f (fvs.map (·.1)) ws = some w → ∃ v, fvs.lookup f = some v ∧ Rep K F al w v
  | [], ws, w, r, h => by
    cases ws with
    | nil => cases h
    | cons x xs => cases h
  | (g, v) :: fvs, [], w, r, h => by cases h
  | (g, v) :: fvs, x :: xs, w, ⟨v', vr, e1, r1, r2⟩, h => by
    have e1 : v :: fvs.map (·.2) = v' :: vr := e1
    cases e1
    have h : (if f = g then some x else look f (fvs.map (·.1)) xs) = some w := h
    rw [List.lookup_cons]
    by_cases e : f = g
    · rw [if_pos e] at h
      cases h
      rw [show (f == g) = true from beq_iff_eq.mpr e]
      exact ⟨v, rfl, r1⟩
    · rw [if_neg e] at h
      rw [show (f == g) = false from beq_eq_false_iff_ne.mpr e]
      exact look_ok r2 h
def putN (f : Str) : List Str → List Str
  | [] => [f]
  | g :: gs => if g = f then g :: gs else g :: putN f gs
def putW (f : Str) (w : W) : List Str → List W → List W
  | g :: gs, x :: xs => if g = f then w :: xs else x :: putW f w gs xs
  | _, _ => [w]
theorem put_ok {K : PySem.W.Frag} {F : Hp} {al : List Addr} {f : Str} {w : W} {v : V} (q : Rep K F al w v) : ∀ {fvs : List (Str × V)} {ws : List W}, Reps K F al ws (fvs.map (·.2)) → (putF f v fvs).map (·.1) = putN f (fvs.map (·.1)) ∧ Reps K F al (putW f w (fvs.map (·.1)) ws) ((putF f v fvs).map (·.2))
  | [], ws, r => by
    cases ws with
    | nil => exact ⟨rfl, Reps.one q⟩
    | cons x xs =>
      obtain ⟨_, _, e, _⟩ := r
      cases e
  | (g, x) :: fvs, [], r => by cases (show (((g, x) :: fvs).map (·.2) : List V) = [] from r)
  | (g, x) :: fvs, y :: ys, ⟨v', vr, e1, r1, r2⟩ => by
    have e1 : x :: fvs.map (·.2) = v' :: vr := e1
    cases e1
    show ((if g = f then (g, v) :: fvs else (g, x) :: putF f v fvs).map (·.1) = (if g = f then g :: fvs.map (·.1) else g :: putN f (fvs.map (·.1)))) ∧ Reps K F al (if g = f then w :: ys else y :: putW f w (fvs.map (·.1)) ys) ((if g = f then (g, v) :: fvs else (g, x) :: putF f v fvs).map (·.2))
    by_cases e : g = f
    · rw [if_pos e, if_pos e, if_pos e]
      exact ⟨rfl, _, _, rfl, q, r2⟩
    · rw [if_neg e, if_neg e, if_neg e]
      obtain ⟨i1, i2⟩ := put_ok q r2
      exact ⟨by show g :: (putF f v fvs).map (·.1) = _; rw [i1], _, _, rfl, r1, i2⟩
/-- an instance of the class at C -/
def insW (C : Addr) (cl : List Cell) : W → Option (List Str × List W)
  | .d (.ins C' fs ds) => if C' = C then some (fs, ds.map W.d) else none
  | .cel n => match cl[n]? with
    | some (.ins C' fs ws) => if C' = C then some (fs, ws) else none
    | _ => none
  | _ => none
theorem insW_ok {K : PySem.W.Frag} {C : Addr} {cl : List Cell} {F : Hp} {al : List Addr} {H : Hp} (Cs : Cells K cl F al H) {x : W} {v : V} (r : Rep K F al x v) {fs : List Str} {ws : List W} (h : insW C cl x = some (fs, ws)) : ∃ a dx fvs, v = .ref a ∧ H a = some (.ins C dx fvs) ∧ fvs.map (·.1) = fs ∧ Reps K F al ws (fvs.map (·.2)) := by
  unfold insW at h
  split at h
  · split at h
    · rename_i e
      cases h
      subst e
      obtain ⟨a, dx, fvs, q1, q2, q3, q4⟩ := r
      exact ⟨a, dx, fvs, q1, Cs.fh _ _ q2, q3, Reps.of0 q4⟩
    · cases h
  · obtain ⟨a, q1, ha⟩ := r
    split at h
    · rename_i q
      split at h
      · rename_i e
        cases h
        subst e
        obtain ⟨_, dx, fvs, q2, q3, q4⟩ := Cs.ok _ _ _ ha q
        exact ⟨a, dx, fvs, q1, q2, q3, q4⟩
      · cases h
    · cases h
  · cases h
def dFld (C : Addr) (f : Str) : Op1 := fun cl x => match insW C cl x with
  | some (fs, ws) => match look f fs ws with
    | some w => some (w, cl)
    | none => none
  | none => none
section
variable {X : Cx} {e o value : Expr} {f m : Str} {pos pos' apos : Pos} {C : Addr}
theorem pf_fld {me : M} (c : Cls X.K C) (n : NoAttr X.K C f) (he : PE X e (tF X.K me)) (hb : attributeBase e f X.env (eval e X.env) = eval e X.env := by rfl) : PE X (.Attribute e f pos) (tF X.K (eUn (dFld C f) me)) :=
  PE.weak (pe_fld he hb) fun σ H Q ⟨r, F, al, d, r', R, e1, k⟩ => by
    obtain ⟨x, r1, q1, q3⟩ := eUn_some e1
    obtain ⟨cc, q4, rfl⟩ := lift1_some q3
    refine ⟨r, F, al, x, r1, R, q1, fun F1 al1 vx H1 x1 R1 p1 => ?_⟩
    unfold dFld at q4
    split at q4
    · rename_i fs ws hi
      split at q4
      · rename_i w hl
        cases q4
        obtain ⟨a, dx, fvs, rfl, h1, h2, h3⟩ := insW_ok R1.c p1 hi
        subst h2
        obtain ⟨v, h4, h5⟩ := look_ok h3 hl
        exact ⟨a, C, dx, fvs, v, rfl, h1, c, n, h4, k F1 al1 v H1 x1 R1 h5⟩
      · cases q4
    · cases q4
/-- o.f = e -/
def sSetF (C : Addr) (f : Str) (mv mo : M) : G := fun r => match mv r with
  | some (y, r1) => match mo r1 with
    | some (.cel n, r2) => match r2.cl[n]? with
      | some (.ins C' fs ws) => if C' = C ∧ fs.length < 1000 then some (.nx { r2 with cl := r2.cl.set n (.ins C (putN f fs) (putW f y fs ws)) }) else none
      | _ => none
    | _ => none
  | none => none
theorem fs_fld {mo mv : M} (c : Cls X.K C) (nA : NoAttr X.K C f) (ho : PE X o (tF X.K mo)) (hv : PE X value (tF X.K mv)) (hs : swapsWith value (some (.Attribute o f pos')) pos.line X.env = pure false := by rfl) : PS X (.Assign [.Attribute o f pos'] value pos) (tFS X.K (sSetF C f mv mo)) :=
  PS.weak (ps_fld ho hv hs) fun D σ H ⟨r, F, al, oo, R, e1, k⟩ => by
    unfold sSetF at e1
    split at e1
    · rename_i y r1 q1
      split at e1
      · rename_i n r2 q2
        split at e1
        · rename_i C' fs ws q3
          split at e1
          · rename_i hc
            obtain ⟨rfl, hl⟩ := hc
            cases e1
            refine ⟨r, F, al, y, r1, R, q1, fun F1 al1 vy H1 x1 R1 p1 => ⟨r1, F1, al1, .cel n, r2, R1, q2, fun F2 al2 vo H2 x2 R2 p2 => ?_⟩⟩
            obtain ⟨a, rfl, ha⟩ := p2
            obtain ⟨nF, dx, fvs, h1, h2, h3⟩ := R2.c.ok n a _ ha q3
            subst h2
            obtain ⟨i1, i2⟩ := put_ok (f := f) (x2.rep p1) h3
            refine ⟨a, C', dx, fvs, rfl, h1, c, nA, by rw [List.length_map] at hl; exact hl, ?_⟩
            have xe : Ext F2 al2 H2 F2 al2 (upd H2 a (.ins C' dx (putF f vy fvs))) := ext_wr ha nF
            exact k F2 al2 σ _ ((x1.trans x2).trans xe) ⟨R2.s.ext xe, R2.c.wr ha nF ⟨nF, dx, _, upd_same, i1, i2⟩⟩
          · cases e1
        · cases e1
      · cases e1
    · cases e1
/-- C(..): the new instance, then __init__ -/
def oMake (C : Addr) (g : OpN) : OpN := fun cl ds => match oCall g (cl ++ [.ins C [] []]) (.cel cl.length :: ds) with
  | some (.d .non, c) => some (.cel cl.length, c)
  | _ => none
theorem Cells.add {K : PySem.W.Frag} {cl : List Cell} {F : Hp} {al : List Addr} {H : Hp} (Cs : Cells K cl F al H) {p : Addr} {u : HO} (hp : H p = none) : Ext F al H F al (upd H p u) ∧ Cells K cl F al (upd H p u) := by
  obtain ⟨hF, hal⟩ := Cs.free hp
  have x : Ext F al H F al (upd H p u) := ⟨Same.refl F, ⟨[], by simp, by simp⟩, fun b o h _ => by rw [upd_ne (ne_of_none h hp)]; exact h, fun b o h => .inl h, fun b h => by
    by_cases e : b = p
    · rw [e, upd_same]
      exact fun q => nomatch q
    · rw [upd_ne e]
      exact h⟩
  exact ⟨x, Cs.ext0 x (fun b o h => by rw [upd_ne (ne_of_none (Cs.fh b o h) hp)]; exact Cs.fh b o h) fun a ha => ⟨upd_ne fun e => hal (e ▸ ha), fun z => z⟩⟩
theorem make_sp {K : PySem.W.Frag} {g : OpN} {n : Nat} {vs : List V} {H : Hp} {Q : VK} {E : XK} (hl : vs.length + 1 = n) (h : rNF K (oMake C g) vs H Q) : ∀ x dx, H x = none → H dx = none → dx ≠ x →
    spF K n g (.ref x :: vs) (upd (upd H dx (.own x)) x (.ins C dx [])) (fun v H2 => v = .non ∧ Q (.ref x) H2) E := fun x dx hx hd hne => by
  obtain ⟨cl, F, al, ds, Cs, r, k⟩ := h
  obtain ⟨d, cl', e, kk⟩ := k.some
  obtain ⟨x1, C1⟩ := Cs.add (u := .own x) hd
  have hx1 : upd H dx (.own x) x = none := by
    rw [upd_ne (Ne.symm hne)]
    exact hx
  obtain ⟨hF, hal⟩ := C1.free hx1
  have x2 : Ext F al (upd H dx (.own x)) F (al ++ [x]) (upd (upd H dx (.own x)) x (.ins C dx [])) := ext_new hF hx1
  have C2 : Cells K (cl ++ [.ins C [] []]) F (al ++ [x]) (upd (upd H dx (.own x)) x (.ins C dx [])) := C1.new hx1 ⟨hF, dx, [], upd_same, rfl, rfl⟩
  have hxi : (al ++ [x])[cl.length]? = some x := by
    rw [← Cs.len, List.getElem?_append_right (Nat.le_refl _), Nat.sub_self]
    rfl
  refine w_spF (by rw [List.length_cons]; exact hl) ⟨_, F, al ++ [x], .cel cl.length :: ds, C2, ⟨.ref x, vs, rfl, ⟨x, rfl, hxi⟩, (x1.trans x2).reps r⟩, ?_⟩
  unfold oMake at e
  split at e
  · rename_i c0 hc
    cases e
    rw [hc]
    intro F' al' v H' x3 C3 p3
    obtain ⟨be, eb, _⟩ := id x3.a
    exact ⟨p3, kk F' al' _ H' ((x1.trans x2).trans x3) C3 ⟨x, rfl, by rw [eb]; exact get_pre hxi⟩⟩
  · cases e
variable {k : Nat} {fa : Addr} {fd : FuncData} {ps : List Str} {dvs : List V} {dds : List Value} {x : Str} {p : Pos} {es : List Expr} {g : OpN} {ms : MS} {dd : List W}
def purW' (cl : List Cell) (n : Nat) : R0 → R0 := fun r => r
theorem pf_make {n : Nat} (Mk1 : Mk X.K C fa) (F : FnOk X.prog X.w X.K X.mg X.base CX0 k fa fd ps (spF X.K n g)) (hr : Room (k + 1) X.A) (hg : Gl X x) (hm : X.mg x = some (.ref C)) (hb : Binds X.K fd ps dds) (hd : Vals dvs dds)
    (hdd : ∀ F al, Reps X.K F al dd dvs) (hml : ALen ms (e :: es).length) (ha : PA X (e :: es) (tFA X.K ms)) (hn : (e :: es).length + dd.length + 1 = n := by rfl) (hdb : (x == ("__debug__" : Str)) = false := by decide) (he : starEach (e :: es) X.env = (false, eval e X.env) :: starEach es X.env := by rfl)
    (hpl : (backTo pos (starEach es X.env)).any (·.1) = false := by rfl) : PE X (.Call (.Name x p) (e :: es) [] pos) (tF X.K (eCall (withD dd (oMake C g)) ms)) := by
  refine PE.weak (pe_make (E := E0) Mk1 F hr hg hm hb hd pass0 ha hdb he hpl) fun σ H Q h => ?_
  obtain ⟨rho, F0, al, d, r', R, e1, kk⟩ := h
  obtain ⟨xs, r1, q1, q3⟩ := eCall_some e1
  obtain ⟨cc, q4, rfl⟩ := liftN_some q3
  refine ⟨rho, F0, al, xs, r1, R, q1, fun F1 al1 vs H1 x1 R1 p1 => ?_⟩
  refine make_sp (by rw [List.length_append, p1.length, hml _ _ _ q1, (hdd F1 al1).length]; exact hn) ⟨r1.cl, F1, al1, xs ++ dd, R1.c, p1.app (hdd F1 al1), ?_⟩
  rw [show oMake C g r1.cl (xs ++ dd) = some (d, cc) from q4]
  exact post_of R1.s fun F' al' v H' x3 R3 p3 => kk F' al' v H' (x1.trans x3) R3 p3
theorem pf_make0 {n : Nat} (Mk1 : Mk X.K C fa) (F : FnOk X.prog X.w X.K X.mg X.base CX0 k fa fd ps (spF X.K n g)) (hr : Room (k + 1) X.A) (hg : Gl X x) (hm : X.mg x = some (.ref C)) (hb : Binds X.K fd ps dds) (hd : Vals dvs dds)
    (hdd : ∀ F al, Reps X.K F al dd dvs) (hn : dd.length + 1 = n := by rfl) (hdb : (x == ("__debug__" : Str)) = false := by decide) : PE X (.Call (.Name x p) [] [] pos) (tF X.K (eCall (withD dd (oMake C g)) aNil)) := by
  refine PE.weak (pe_make0 (E := E0) Mk1 F hr hg hm hb hd pass0 hdb) fun σ H Q h => ?_
  obtain ⟨rho, F0, al, d, r', R, e1, kk⟩ := h
  obtain ⟨xs, r1, q1, q3⟩ := eCall_some e1
  have q1 : some ([], rho) = some (xs, r1) := q1
  cases q1
  obtain ⟨cc, q4, rfl⟩ := liftN_some q3
  refine make_sp (by rw [List.nil_append, (hdd F0 al).length]; exact hn) ⟨rho.cl, F0, al, dd, R.c, hdd F0 al, ?_⟩
  rw [show oMake C g rho.cl dd = some (d, cc) from q4]
  exact post_of R.s fun F' al' v H' x3 R3 p3 => kk F' al' v H' x3 R3 p3
/-- o.m(..), m a method of the class at C -/
def hasM (C : Addr) (m : Str) (cl : List Cell) (x : W) : Bool := match insW C cl x with
  | some (fs, _) => fs.all fun f => decide (m ≠ f)
  | none => false
theorem look_no {m : Str} : ∀ {fvs : List (Str × V)}, (fvs.map (·.1)).all (fun f => decide (m ≠ f)) = true → fvs.lookup m = none
  | [], _ => rfl
  | (g, v) :: fvs, h => by
    have h : (decide (m ≠ g) && (fvs.map (·.1)).all fun f => decide (m ≠ f)) = true := h
    rw [Bool.and_eq_true, decide_eq_true_eq] at h
    rw [List.lookup_cons, show (m == g) = false from beq_eq_false_iff_ne.mpr h.1]
    exact look_no h.2
theorem hasM_ok {K : PySem.W.Frag} {cl : List Cell} {F : Hp} {al : List Addr} {H : Hp} (Cs : Cells K cl F al H) {x : W} {v : V} (r : Rep K F al x v) (h : hasM C m cl x = true) : ∃ a dx fs, v = .ref a ∧ H a = some (.ins C dx fs) ∧ fs.lookup m = none := by
  unfold hasM at h
  split at h
  · rename_i fs ws hi
    obtain ⟨a, dx, fvs, rfl, h1, h2, h3⟩ := insW_ok Cs r hi
    subst h2
    exact ⟨a, dx, fvs, rfl, h1, look_no h⟩
  · cases h
def callC (c : Bool) (g : OpN) : OpN := if c then oCall g else oCallP g
theorem w_spC {K : PySem.W.Frag} {g : OpN} {n : Nat} (c : Bool) {vs : List V} {H : Hp} (hl : vs.length = n) {Q : VK} {E : XK} (h : rNF K (callC c g) vs H Q) : spF K n g vs H Q E := by
  cases c with
  | true => exact w_spF hl h
  | false => exact w_spFP hl h
theorem pf_meth {n : Nat} (c : Bool) {pl : Sem Bool} {mo : M} (hc : Cls X.K C) (hm : Meth X.K C m fa) (F : FnOk X.prog X.w X.K X.mg X.base CX0 k fa fd ps (spF X.K n g)) (hr : Room k X.A) (hb : Binds X.K fd ps dds) (hd : Vals dvs dds)
    (hdd : ∀ F al, Reps X.K F al dd dvs) (hml : ALen ms (e :: es).length) (ho : PE X o (tF X.K mo)) (ha : PA X (e :: es) (tFA X.K ms)) (hn : (e :: es).length + dd.length + 1 = n := by rfl)
    (hst : starEach (e :: es) X.env = (false, eval e X.env) :: starEach es X.env := by rfl) (hpl : (backTo pos (starEach es X.env)).any (·.1) = false := by rfl)
    (ht : eval (.Call (.Attribute o m apos) (e :: es) [] pos) X.env = (do
      let ov ← eval o X.env
      standAt apos.atName
      let (f, first) ← holding [ov] (getMethod ov m pl)
      callWith pos f first (backTo pos (starEach (e :: es) X.env)) (backToKw pos (keywordEach [] X.env))) := by rfl) :
    PE X (.Call (.Attribute o m apos) (e :: es) [] pos) (tF X.K (eMethT (hasM C m) (withD dd (callC c g)) mo ms)) := by
  refine PE.weak (pe_meth (E := E0) ho hc hm F hr hb hd pass0 ha hst hpl ht) fun σ H Q h => ?_
  obtain ⟨rho, F0, al, d, r', R, e1, kk⟩ := h
  unfold eMethT at e1
  split at e1
  · rename_i x0 r1 q1
    split at e1
    · rename_i hh
      split at e1
      · rename_i xs r2 q2
        obtain ⟨cc, q4, rfl⟩ := liftN_some e1
        refine ⟨rho, F0, al, x0, r1, R, q1, fun F1 al1 vx H1 x1 R1 p1 => ?_⟩
        obtain ⟨a, dx, fs, rfl, h1, h2⟩ := hasM_ok R1.c p1 hh
        refine ⟨a, dx, fs, rfl, h1, h2, r1, F1, al1, xs, r2, R1, q2, fun F2 al2 vs H2 x2 R2 p2 => ?_⟩
        refine w_spC (E := E0) c (by rw [List.length_cons, List.length_append, p2.length, hml _ _ _ q2, (hdd F2 al2).length]; exact hn) ⟨r2.cl, F2, al2, x0 :: (xs ++ dd), R2.c, ⟨_, _, rfl, x2.rep p1, p2.app (hdd F2 al2)⟩, ?_⟩
        rw [show callC c g r2.cl (x0 :: (xs ++ dd)) = some (d, cc) from q4]
        exact post_of R2.s fun F' al' v H' x3 R3 p3 => kk F' al' v H' ((x1.trans x2).trans x3) R3 p3
      · cases e1
    · cases e1
  · cases e1
theorem pf_meth0 {n : Nat} (c : Bool) {pl : Sem Bool} {mo : M} (hc : Cls X.K C) (hm : Meth X.K C m fa) (F : FnOk X.prog X.w X.K X.mg X.base CX0 k fa fd ps (spF X.K n g)) (hr : Room k X.A) (hb : Binds X.K fd ps dds) (hd : Vals dvs dds)
    (hdd : ∀ F al, Reps X.K F al dd dvs) (ho : PE X o (tF X.K mo)) (hn : dd.length + 1 = n := by rfl)
    (ht : eval (.Call (.Attribute o m apos) [] [] pos) X.env = (do
      let ov ← eval o X.env
      standAt apos.atName
      let (f, first) ← holding [ov] (getMethod ov m pl)
      callWith pos f first (backTo pos (starEach [] X.env)) (backToKw pos (keywordEach [] X.env))) := by rfl) :
    PE X (.Call (.Attribute o m apos) [] [] pos) (tF X.K (eMethT (hasM C m) (withD dd (callC c g)) mo aNil)) := by
  refine PE.weak (pe_meth0 (E := E0) ho hc hm F hr hb hd pass0 ht) fun σ H Q h => ?_
  obtain ⟨rho, F0, al, d, r', R, e1, kk⟩ := h
  unfold eMethT at e1
  split at e1
  · rename_i x0 r1 q1
    split at e1
    · rename_i hh
      obtain ⟨cc, q4, rfl⟩ := liftN_some (show liftN _ [x0] r1 = some (d, r') from e1)
      refine ⟨rho, F0, al, x0, r1, R, q1, fun F1 al1 vx H1 x1 R1 p1 => ?_⟩
      obtain ⟨a, dx, fs, rfl, h1, h2⟩ := hasM_ok R1.c p1 hh
      refine ⟨a, dx, fs, rfl, h1, h2, ?_⟩
      refine w_spC (E := E0) c (by rw [List.length_cons, List.nil_append, (hdd F1 al1).length]; exact hn) ⟨r1.cl, F1, al1, x0 :: dd, R1.c, ⟨_, _, rfl, p1, hdd F1 al1⟩, ?_⟩
      rw [show callC c g r1.cl (x0 :: dd) = some (d, cc) from q4]
      exact post_of R1.s fun F' al' v H' x3 R3 p3 => kk F' al' v H' (x1.trans x3) R3 p3
    · cases e1
  · cases e1
/-- a def without arguments -/
theorem pf_call0 {n : Nat} (c : Bool) (F : FnOk X.prog X.w X.K X.mg X.base CX0 k fa fd ps (spF X.K n g)) (hr : Room k X.A) (hg : Gl X x) (hm : X.mg x = some (.ref fa)) (hk : PySem.W.keepIn X.K (.ref fa) = true) (hb : Binds X.K fd ps dds) (hd : Vals dvs dds)
    (hdd : ∀ F al, Reps X.K F al dd dvs) (hn : dd.length = n := by rfl) (hdb : (x == ("__debug__" : Str)) = false := by decide) : PE X (.Call (.Name x p) [] [] pos) (tF X.K (eCall (withD dd (callC c g)) aNil)) := by
  refine PE.weak (pe_call0 (E := E0) F hr hg hm hk hb hd pass0 hdb) fun σ H Q h => ?_
  obtain ⟨rho, F0, al, d, r', R, e1, kk⟩ := h
  obtain ⟨xs, r1, q1, q3⟩ := eCall_some e1
  have q1 : some ([], rho) = some (xs, r1) := q1
  cases q1
  obtain ⟨cc, q4, rfl⟩ := liftN_some q3
  refine w_spC (E := E0) c (by rw [List.nil_append, (hdd F0 al).length]; exact hn) ⟨rho.cl, F0, al, dd, R.c, hdd F0 al, ?_⟩
  rw [show callC c g rho.cl dd = some (d, cc) from q4]
  exact post_of R.s fun F' al' v H' x3 R3 p3 => kk F' al' v H' x3 R3 p3
/-- len(o), o with a __len__ of its own -/
def oLenI (C : Addr) (c : Bool) (g : OpN) : OpN := fun cl ds => match ds with
  | [x] => match insW C cl x with
    | some _ => match callC c g cl [x] with
      | some (.d (.int n), cl') => if 0 ≤ n ∧ n < 2 ^ 63 then some (.d (.int n), cl') else none
      | _ => none
    | none => none
  | _ => none
theorem lenI_ok (c : Bool) (hs : PySem.W.findIn X.K (.ref C) "__len__" = some (some (.ref fa))) (hf : PySem.W.isFn X.K (.ref fa) = true) (F : FnOk X.prog X.w X.K X.mg X.base CX0 k fa fd ps (spF X.K 1 g)) (hr : Room (k + 1) X.A) (hb : Binds X.K fd ps []) :
    CallR X (.builtin "len") (rNF X.K (oLenI C c g)) := by
  intro pins s σ H vs us Q I rv h
  obtain ⟨cl, Fz, al, ds, Cs, rs, kk⟩ := h
  obtain ⟨d, cl', e, k2⟩ := kk.some
  unfold oLenI at e
  split at e
  · rename_i x0
    obtain ⟨v, vr, rfl, rx, r0⟩ := rs
    have r0 : vr = [] := r0
    subst r0
    split at e
    · rename_i pr hi
      obtain ⟨a, dx, fvs, rfl, h1, h2, h3⟩ := insW_ok (fs := pr.1) (ws := pr.2) Cs rx hi
      obtain ⟨u, rfl, ru⟩ := vals1 rv
      cases ru
      split at e
      · rename_i n c0 hcall
        split at e
        · rename_i hb2
          cases e
          obtain ⟨mA, J, _⟩ := ins_get I.hok h1
          obtain ⟨od, J, _⟩ := J.look
          obtain ⟨mf, hF⟩ := I.fr
          refine PySem.W.len_K hF I.ok.mod.kin J hs hf ?_
          have hsp : spF X.K 1 g [.ref a] H (fun v H' => v = .int n ∧ Q (.int n) H') E0 := w_spC c rfl ⟨cl, Fz, al, [x0], Cs, ⟨_, _, rfl, rx, rfl⟩, by
            rw [hcall]
            intro F' al' v H' x3 C3 p3
            have p3 : v = .int n := p3
            subst p3
            exact ⟨rfl, k2 F' al' _ H' x3 C3 rfl⟩⟩
          have hl := F.len _ _ _ _ hsp
          refine wpAny_call (codeAny_mono (F.run X.A.in1 X.stack s H ⟨[.ref a], []⟩ [.ref a] [.ref a] _ E0 hr.in1 I.env0.in1 (by
            have := hb s [.ref a] I.kIn (by simpa using hl)
            simpa using this) (.cons rfl .nil) hsp) fun r s' hq => ?_)
          cases r with
          | error e => exact (show False from hq).elim
          | ok fl =>
            cases fl with
            | ret w =>
              obtain ⟨z, H', I', rz, ez, q⟩ := I.after hq
              subst ez
              obtain ⟨t, rfl⟩ := rz
              exact ⟨hb2, .int n, H', I'.tok _, ⟨_, rfl⟩, q⟩
            | next => exact False.elim hq
            | brk => exact False.elim hq
            | cont => exact False.elim hq
        · cases e
      · cases e
    · cases e
  · cases e
/-- a == b by an own __eq__, both instances of the class at C -/
def dEqI (C : Addr) (c : Bool) (g : OpN) : Op2 := fun cl x y => match insW C cl x, insW C cl y with
  | some _, some _ => match callC c g cl [x, y] with
    | some (.d (.bl b), cl') => some (.d (.bl b), cl')
    | _ => none
  | _, _ => none
theorem eqI_ok (c : Bool) (hs : PySem.W.findIn X.K (.ref C) "__eq__" = some (some (.ref fa))) (hf : PySem.W.isFn X.K (.ref fa) = true) (F : FnOk X.prog X.w X.K X.mg X.base CX0 k fa fd ps (spF X.K 2 g)) (hr : Room k X.A) (hb : Binds X.K fd ps []) :
    OpR X (compareOp .Eq) (r2F X.K (dEqI C c g)) := by
  intro pins s σ H vx vy v u Q I rvx rvy h
  obtain ⟨cl, Fz, al, x0, y0, Cs, rx, ry, kk⟩ := h
  obtain ⟨d, cl', e, k2⟩ := kk.some
  unfold dEqI at e
  split at e
  · rename_i px py hi hj
    obtain ⟨a, dx, fvs, rfl, h1, h2, h3⟩ := insW_ok (fs := px.1) (ws := px.2) Cs rx hi
    obtain ⟨b, dy, gvs, rfl, h4, h5, h6⟩ := insW_ok (fs := py.1) (ws := py.2) Cs ry hj
    cases rvx
    cases rvy
    split at e
    · rename_i bb c0 hcall
      cases e
      obtain ⟨mA, J, _⟩ := ins_get I.hok h1
      obtain ⟨mB, J', _⟩ := ins_get I.hok h4
      obtain ⟨od, J, _⟩ := J.look
      obtain ⟨od', J', _⟩ := J'.look
      obtain ⟨mf, hF⟩ := I.fr
      show wpAny (model X.prog X.w) X.A (richCompare .Eq (.ref a) (.ref b)) (EP X pins σ Q) X.xe s
      refine PySem.W.cmp_K (op := .Eq) (tb := .ref C) hr.units0 hF I.ok.mod.kin J J'.type (by simp [PySem.W.notFirst]) hs hf ?_
      have hsp : spF X.K 2 g [.ref a, .ref b] H (fun v H' => v = .bl bb ∧ Q (.bl bb) H') E0 := w_spC c rfl ⟨cl, Fz, al, [x0, y0], Cs, ⟨_, _, rfl, rx, _, _, rfl, ry, rfl⟩, by
        rw [hcall]
        intro F' al' v H' x3 C3 p3
        have p3 : v = .bl bb := p3
        subst p3
        exact ⟨rfl, k2 F' al' _ H' x3 C3 rfl⟩⟩
      have hl := F.len _ _ _ _ hsp
      refine wpAny_call (codeAny_mono (F.run X.A X.stack s H ⟨[.ref a, .ref b], []⟩ [.ref a, .ref b] [.ref a, .ref b] _ E0 hr I.env0 (by
        have := hb s [.ref a, .ref b] I.kIn (by simpa using hl)
        simpa using this) (.cons rfl (.cons rfl .nil)) hsp) fun r s' hq => ?_)
      cases r with
      | error e => exact (show False from hq).elim
      | ok fl =>
        cases fl with
        | ret w =>
          obtain ⟨z, H', I', rz, ez, q⟩ := I.after hq
          subst ez
          cases rz
          exact ⟨.bl bb, H', I', rfl, q⟩
        | next => exact False.elim hq
        | brk => exact False.elim hq
        | cont => exact False.elim hq
    · cases e
  · cases e
end
end FL

namespace FL
open PySem PySem.Spec L2

/-! ### dicts -/
section
variable {κ : Type} [DecidableEq κ] {K : PySem.W.Frag} {F : Hp} {al : List Addr}
def valK : List κ → List W → κ → Option W
  | k' :: ks, w :: ws, k => if k' = k then some w else valK ks ws k
  | _, _, _ => none
def updK : List κ → List W → κ → W → List W
  | k' :: ks, v :: ws, k, w => (if k' = k then w else v) :: updK ks ws k w
  | _, _, _, _ => []
def hasK (ks : List κ) (k : κ) : Bool := ks.any fun k' => decide (k' = k)
theorem valK_ok : ∀ {kvs : List (κ × V)} {ws : List W} (k : κ), Reps K F al ws (kvs.map (·.2)) →
    (∀ w, valK (kvs.map (·.1)) ws k = some w → ∃ v, valV kvs k = some v ∧ Rep K F al w v) ∧ (valK (kvs.map (·.1)) ws k = none → valV kvs k = none)
  | [], ws, k, r => by
    cases ws with
    | nil => exact ⟨fun w h => (nomatch h), fun _ => rfl⟩
    | cons x xs =>
      obtain ⟨_, _, e, _⟩ := r
      cases e
  | (g, v) :: kvs, [], k, r => by cases (show (((g, v) :: kvs).map (·.2) : List V) = [] from r)
  | (g, v) :: kvs, x :: xs, k, ⟨v', vr, e1, r1, r2⟩ => by
    have e1 : v :: kvs.map (·.2) = v' :: vr := e1
    cases e1
    obtain ⟨i1, i2⟩ := valK_ok k r2
    have h1 : valK (((g, v) :: kvs).map (·.1)) (x :: xs) k = if g = k then some x else valK (kvs.map (·.1)) xs k := rfl
    rw [h1]
    by_cases e : g = k
    · rw [if_pos e, valV_pos (p := (g, v)) e]
      exact ⟨fun w h => by
        cases h
        exact ⟨v, rfl, r1⟩, fun h => nomatch h⟩
    · rw [if_neg e]
      have h2 : valV ((g, v) :: kvs) k = valV kvs k := by simp [valV, List.find?_cons, e]
      rw [h2]
      exact ⟨i1, i2⟩
theorem updK_ok {k : κ} {w : W} {v : V} (q : Rep K F al w v) : ∀ {kvs : List (κ × V)} {ws : List W}, Reps K F al ws (kvs.map (·.2)) →
    Reps K F al (updK (kvs.map (·.1)) ws k w) ((kvs.map fun kv => if kv.1 = k then (kv.1, v) else kv).map (·.2))
  | [], ws, r => by
    cases ws with
    | nil => exact r
    | cons x xs =>
      obtain ⟨_, _, e, _⟩ := r
      cases e
  | (g, x) :: kvs, [], r => by cases (show (((g, x) :: kvs).map (·.2) : List V) = [] from r)
  | (g, x) :: kvs, y :: ys, ⟨v', vr, e1, r1, r2⟩ => by
    have e1 : x :: kvs.map (·.2) = v' :: vr := e1
    cases e1
    have i := updK_ok (k := k) q r2
    show Reps K F al ((if g = k then w else y) :: updK (kvs.map (·.1)) ys k w) (((if g = k then (g, v) else (g, x)) :: (kvs.map fun kv => if kv.1 = k then (kv.1, v) else kv)).map (·.2))
    by_cases e : g = k
    · rw [if_pos e, if_pos e]
      exact ⟨_, _, rfl, q, i⟩
    · rw [if_neg e, if_neg e]
      exact ⟨_, _, rfl, r1, i⟩
theorem map_keys {k : κ} {v : V} (kvs : List (κ × V)) : (kvs.map fun kv => if kv.1 = k then (kv.1, v) else kv).map (·.1) = kvs.map (·.1) := by
  rw [List.map_map]
  refine List.map_congr_left fun a _ => ?_
  show (if a.1 = k then (a.1, v) else a).1 = a.1
  split <;> rfl
theorem hasK_ok {k : κ} (kvs : List (κ × V)) : (kvs.any fun kv => decide (kv.1 = k)) = hasK (kvs.map (·.1)) k := by
  unfold hasK
  rw [List.any_map]
  rfl
end
def keyD : D → Option Key
  | .int i => some (.inl i)
  | .str z => some (.inr z)
  | _ => none
def keysD : List D → Option (List Key)
  | [] => some []
  | d :: ds => match keyD d, keysD ds with
    | some k, some ks => some (k :: ks)
    | _, _ => none
def keyW : W → Option Key
  | .d x => keyD x
  | _ => none
def tkeyW : W → Option (List Key)
  | .d (.tup ds) => keysD ds
  | _ => none
theorem keyD_ok {K : PySem.W.Frag} {F : Hp} {d : D} {v : V} (r : Rep0 K F d v) {k : Key} (h : keyD d = some k) : v = kV k := by
  unfold keyD at h
  split at h
  · cases h
    exact r
  · cases h
    exact r
  · cases h
theorem keysD_ok {K : PySem.W.Frag} {F : Hp} : ∀ {ds : List D} {vs : List V} {ks : List Key}, Reps0 K F ds vs → keysD ds = some ks → vs = ks.map kV
  | [], vs, ks, r, h => by
    cases h
    exact r
  | d :: ds, vs, ks, ⟨v, vr, e1, r1, r2⟩, h => by
    unfold keysD at h
    split at h
    · rename_i k ks' h1 h2
      cases h
      rw [e1, keyD_ok r1 h1, keysD_ok r2 h2]
      rfl
    · cases h
/-- a dict: with plain keys, with tuples as keys -/
def asDk (cl : List Cell) : W → Option (List Key × List W)
  | .d (.dk ks ds) => some (ks, ds.map W.d)
  | .cel n => match cl[n]? with
    | some (.dk ks ws) => some (ks, ws)
    | _ => none
  | _ => none
def asDt (cl : List Cell) : W → Option (List (List Key) × List W)
  | .d (.dt ks ds) => some (ks, ds.map W.d)
  | .cel n => match cl[n]? with
    | some (.dt ks ws) => some (ks, ws)
    | _ => none
  | _ => none
section
variable {K : PySem.W.Frag} {cl : List Cell} {F : Hp} {al : List Addr} {H : Hp}
theorem asDk_ok (C : Cells K cl F al H) {x : W} {v : V} (r : Rep K F al x v) {ks : List Key} {ws : List W} (h : asDk cl x = some (ks, ws)) : ∃ a kvs, v = .ref a ∧ Rd H a (.dK kvs) ∧ kvs.map (·.1) = ks ∧ Reps K F al ws (kvs.map (·.2)) := by
  unfold asDk at h
  split at h
  · cases h
    obtain ⟨a, kvs, rfl, q1, q2, q3⟩ := r
    exact ⟨a, kvs, rfl, Same.rd C.fh q1, q2, Reps.of0 q3⟩
  · obtain ⟨a, rfl, ha⟩ := r
    split at h
    · rename_i q
      cases h
      obtain ⟨_, kvs, q1, q2, q3⟩ := C.ok _ _ _ ha q
      exact ⟨a, kvs, rfl, .inl q1, q2, q3⟩
    · cases h
  · cases h
theorem asDt_ok (C : Cells K cl F al H) {x : W} {v : V} (r : Rep K F al x v) {ks : List (List Key)} {ws : List W} (h : asDt cl x = some (ks, ws)) : ∃ a kvs, v = .ref a ∧ Rd H a (.dT kvs) ∧ kvs.map (·.1) = ks ∧ Reps K F al ws (kvs.map (·.2)) := by
  unfold asDt at h
  split at h
  · cases h
    obtain ⟨a, kvs, rfl, q1, q2, q3⟩ := r
    exact ⟨a, kvs, rfl, Same.rd C.fh q1, q2, Reps.of0 q3⟩
  · obtain ⟨a, rfl, ha⟩ := r
    split at h
    · rename_i q
      cases h
      obtain ⟨_, kvs, q1, q2, q3⟩ := C.ok _ _ _ ha q
      exact ⟨a, kvs, rfl, .inl q1, q2, q3⟩
    · cases h
  · cases h
/-- d[y], as it is there or not -/
def dGetW (cl : List Cell) (x y : W) : Option (Option W) := match asDk cl x with
  | some (ks, ws) => (keyW y).map fun k => valK ks ws k
  | none => match asDt cl x with
    | some (ks, ws) => (tkeyW y).map fun k => valK ks ws k
    | none => none
theorem dGetW_ok (C : Cells K cl F al H) {x y : W} {vx vy : V} (rx : Rep K F al x vx) (ry : Rep K F al y vy) {o : Option W} (h : dGetW cl x y = some o) :
    ∃ a ov, vx = .ref a ∧ DGet H a vy ov ∧ (∀ w, o = some w → ∃ v, ov = some v ∧ Rep K F al w v) ∧ (o = none → ov = none) := by
  unfold dGetW at h
  split at h
  · rename_i ks ws hd
    obtain ⟨a, kvs, rfl, q1, q2, q3⟩ := asDk_ok C rx hd
    obtain ⟨k, hk, ho⟩ := Option.map_eq_some_iff.mp h
    subst q2
    obtain ⟨i1, i2⟩ := valK_ok k q3
    have ey : vy = kV k := by
      cases y with
      | d z => exact keyD_ok ry hk
      | cel n => cases hk
      | tup ws => cases hk
    exact ⟨a, _, rfl, .inl ⟨kvs, k, q1, ey, rfl⟩, fun w hw => i1 w (ho.trans hw), fun hn => i2 (ho.trans hn)⟩
  · split at h
    · rename_i ks ws hd
      obtain ⟨a, kvs, rfl, q1, q2, q3⟩ := asDt_ok C rx hd
      obtain ⟨k, hk, ho⟩ := Option.map_eq_some_iff.mp h
      subst q2
      obtain ⟨i1, i2⟩ := valK_ok k q3
      unfold tkeyW at hk
      split at hk
      · rename_i ds
        obtain ⟨b, vs, rfl, p1, p2⟩ := ry
        rw [keysD_ok p2 hk] at p1
        exact ⟨a, _, rfl, .inr ⟨kvs, k, b, q1, rfl, C.fh _ _ p1, rfl⟩, fun w hw => i1 w (ho.trans hw), fun hn => i2 (ho.trans hn)⟩
      · cases hk
    · cases h
def dDix : Op2 := fun cl x y => match dGetW cl x y with
  | some (some w) => some (w, cl)
  | _ => none
def dDin (neg : Bool) : Op2 := fun cl y x => match dGetW cl x y with
  | some o => some (.d (.bl (if neg then !o.isSome else o.isSome)), cl)
  | none => none
end
section
variable {X : Cx} {o i e f value : Expr} {pos pos' apos cpos : Pos}
theorem pf_dix {mo mi : M} (hu : X.A.units + 1 < cLine) (ho : PE X o (tF X.K mo)) (hi : PE X i (tF X.K mi)) (hs : NoSl i := by exact fun _ _ => rfl) : PE X (.Subscript o i pos) (tF X.K (eBin dDix mo mi)) :=
  PE.weak (pe_dget hu ho hi hs) fun σ H Q ⟨rho, F, al, d, r', R, e1, k⟩ => by
    obtain ⟨x, r1, y, r2, q1, q2, q3⟩ := eBin_some e1
    obtain ⟨c, q4, rfl⟩ := lift2_some q3
    refine ⟨rho, F, al, x, r1, R, q1, fun F1 al1 vx H1 x1 R1 p1 => ⟨r1, F1, al1, y, r2, R1, q2, fun F2 al2 vy H2 x2 R2 p2 => ?_⟩⟩
    unfold dDix at q4
    split at q4
    · rename_i w hw
      cases q4
      obtain ⟨a, ov, rfl, g, i1, _⟩ := dGetW_ok R2.c (x2.rep p1) p2 hw
      obtain ⟨v, rfl, rv⟩ := i1 _ rfl
      exact ⟨a, v, rfl, g, k F2 al2 v H2 (x1.trans x2) R2 rv⟩
    · cases q4
theorem w_din {neg : Bool} {mi mo : M} : ∀ σ H Q, tF X.K (eBin (dDin neg) mi mo) σ H Q → tF X.K mi σ H fun y H1 => tF X.K mo σ H1 fun x H2 => ∃ a ov, x = .ref a ∧ DGet H2 a y ov ∧ Q (.bl (if neg then !ov.isSome else ov.isSome)) H2 := fun σ H Q ⟨rho, F, al, d, r', R, e1, k⟩ => by
  obtain ⟨y, r1, x, r2, q1, q2, q3⟩ := eBin_some e1
  obtain ⟨c, q4, rfl⟩ := lift2_some q3
  refine ⟨rho, F, al, y, r1, R, q1, fun F1 al1 vy H1 x1 R1 p1 => ⟨r1, F1, al1, x, r2, R1, q2, fun F2 al2 vx H2 x2 R2 p2 => ?_⟩⟩
  unfold dDin at q4
  split at q4
  · rename_i ow hw
    cases q4
    obtain ⟨a, ov, rfl, g, i1, i2⟩ := dGetW_ok R2.c p2 (x2.rep p1) hw
    refine ⟨a, ov, rfl, g, k F2 al2 _ H2 (x1.trans x2) R2 ?_⟩
    cases ow with
    | none =>
      rw [i2 rfl]
      rfl
    | some w =>
      obtain ⟨v, e, _⟩ := i1 w rfl
      rw [e]
      rfl
  · cases q4
theorem pf_din {mo mi : M} (hu : X.A.units + 1 < cLine) (hi : PE X i (tF X.K mi)) (ho : PE X o (tF X.K mo)) (h1 : behindInMarks .In o = false := by rfl) : PE X (.Compare i [.In] [o] pos) (tF X.K (eBin (dDin false) mi mo)) :=
  PE.weak (pe_cmp (pc_din hu hi ho) h1) fun σ H Q h => w_din σ H Q h
theorem pf_dnotin {mo mi : M} (hu : X.A.units + 1 < cLine) (hi : PE X i (tF X.K mi)) (ho : PE X o (tF X.K mo)) (h1 : behindInMarks .NotIn o = false := by rfl) : PE X (.Compare i [.NotIn] [o] pos) (tF X.K (eBin (dDin true) mi mo)) :=
  PE.weak (pe_cmp (pc_dnotin hu hi ho) h1) fun σ H Q h => w_din σ H Q h
theorem ft_din {mo mi : M} (hu : X.A.units + 1 < cLine) (hi : PE X i (tF X.K mi)) (ho : PE X o (tF X.K mo)) (h1 : behindInMarks .In o = false := by rfl) : PT X (.Compare i [.In] [o] pos) (tFB X.K (bVal (eBin (dDin false) mi mo))) :=
  PT.weak (pt_cmp (pc_din hu hi ho) h1) (w_tB fun σ H Q h => w_din σ H Q h)
theorem ft_dnotin {mo mi : M} (hu : X.A.units + 1 < cLine) (hi : PE X i (tF X.K mi)) (ho : PE X o (tF X.K mo)) (h1 : behindInMarks .NotIn o = false := by rfl) : PT X (.Compare i [.NotIn] [o] pos) (tFB X.K (bVal (eBin (dDin true) mi mo))) :=
  PT.weak (pt_cmp (pc_dnotin hu hi ho) h1) (w_tB fun σ H Q h => w_din σ H Q h)
/-- d[y] = w -/
def dPutC (cl : List Cell) (x y w : W) : Option (List Cell) := match x with
  | .cel n => match cl[n]? with
    | some (.dk ks ws) => match keyW y with
      | some k => if ks.length < sizeLine then some (cl.set n (if hasK ks k then .dk ks (updK ks ws k w) else .dk (ks ++ [k]) (ws ++ [w]))) else none
      | none => none
    | some (.dt ks ws) => match tkeyW y with
      | some k => if ks.length < sizeLine then some (cl.set n (if hasK ks k then .dt ks (updK ks ws k w) else .dt (ks ++ [k]) (ws ++ [w]))) else none
      | none => none
    | _ => none
  | _ => none
theorem dPutC_ok {K : PySem.W.Frag} {cl cl' : List Cell} {F : Hp} {al : List Addr} {H : Hp} (C : Cells K cl F al H) {x y w : W} {vx vy vw : V} (rx : Rep K F al x vx) (ry : Rep K F al y vy) (rw' : Rep K F al w vw) (h : dPutC cl x y w = some cl') :
    ∃ a H', vx = .ref a ∧ DPut H a vy vw H' ∧ Ext F al H F al H' ∧ Cells K cl' F al H' := by
  unfold dPutC at h
  split at h
  · rename_i n
    obtain ⟨a, rfl, ha⟩ := rx
    split at h
    · rename_i ks ws hc
      split at h
      · rename_i k hk
        split at h
        · rename_i hz
          cases h
          obtain ⟨nF, kvs, q1, q2, q3⟩ := C.ok _ _ _ ha hc
          subst q2
          have ey : vy = kV k := by
            cases y with
            | d z => exact keyD_ok ry hk
            | cel n => cases hk
            | tup ws => cases hk
          subst ey
          refine ⟨a, _, rfl, DPut.k q1 (by rw [List.length_map] at hz; exact hz), ext_wr ha nF, C.wr ha nF ?_⟩
          have eh := hasK_ok (k := k) kvs
          cases hh : hasK (kvs.map (·.1)) k with
          | true =>
            rw [hh] at eh
            refine ⟨nF, _, upd_same, ?_, ?_⟩
            · unfold putK
              rw [if_pos eh]
              exact map_keys kvs
            · unfold putK
              rw [if_pos eh]
              exact updK_ok rw' q3
          | false =>
            rw [hh] at eh
            refine ⟨nF, _, upd_same, ?_, ?_⟩
            · unfold putK
              rw [if_neg (by rw [eh]; exact Bool.false_ne_true), List.map_append]
              rfl
            · unfold putK
              rw [if_neg (by rw [eh]; exact Bool.false_ne_true), List.map_append]
              exact q3.app (Reps.one rw')
        · cases h
      · cases h
    · rename_i ks ws hc
      split at h
      · rename_i k hk
        split at h
        · rename_i hz
          cases h
          obtain ⟨nF, kvs, q1, q2, q3⟩ := C.ok _ _ _ ha hc
          subst q2
          unfold tkeyW at hk
          split at hk
          · rename_i ds
            obtain ⟨b, vs, rfl, p1, p2⟩ := ry
            rw [keysD_ok p2 hk] at p1
            refine ⟨a, _, rfl, DPut.t q1 (C.fh _ _ p1) (by rw [List.length_map] at hz; exact hz), ext_wr ha nF, C.wr ha nF ?_⟩
            have eh := hasK_ok (k := k) kvs
            cases hh : hasK (kvs.map (·.1)) k with
            | true =>
              rw [hh] at eh
              refine ⟨nF, _, upd_same, ?_, ?_⟩
              · unfold putK
                rw [if_pos eh]
                exact map_keys kvs
              · unfold putK
                rw [if_pos eh]
                exact updK_ok rw' q3
            | false =>
              rw [hh] at eh
              refine ⟨nF, _, upd_same, ?_, ?_⟩
              · unfold putK
                rw [if_neg (by rw [eh]; exact Bool.false_ne_true), List.map_append]
                rfl
              · unfold putK
                rw [if_neg (by rw [eh]; exact Bool.false_ne_true), List.map_append]
                exact q3.app (Reps.one rw')
          · cases hk
        · cases h
      · cases h
    · cases h
  · cases h
def sPutD (mv mo mi : M) : G := fun r => match mv r with
  | some (w, r1) => match mo r1 with
    | some (x, r2) => match mi r2 with
      | some (y, r3) => match dPutC r3.cl x y w with
        | some c => some (.nx { r3 with cl := c })
        | none => none
      | none => none
    | none => none
  | none => none
theorem fs_dput {mo mi mv : M} (hu : X.A.units + 1 < cLine) (ho : PE X o (tF X.K mo)) (hi : PE X i (tF X.K mi)) (hv : PE X value (tF X.K mv)) (hs : swapsWith value (some (.Subscript o i pos')) pos.line X.env = pure false := by rfl) :
    PS X (.Assign [.Subscript o i pos'] value pos) (tFS X.K (sPutD mv mo mi)) := PS.weak (ps_dput hu ho hi hv hs) fun D σ H ⟨r, F, al, oo, R, e1, k⟩ => by
  unfold sPutD at e1
  split at e1
  · rename_i w r1 q1
    split at e1
    · rename_i x r2 q2
      split at e1
      · rename_i y r3 q3
        split at e1
        · rename_i c q4
          cases e1
          refine ⟨r, F, al, w, r1, R, q1, fun F1 al1 vw H1 x1 R1 p1 => ⟨r1, F1, al1, x, r2, R1, q2, fun F2 al2 vx H2 x2 R2 p2 => ⟨r2, F2, al2, y, r3, R2, q3, fun F3 al3 vy H3 x3 R3 p3 => ?_⟩⟩⟩
          obtain ⟨a, H4, rfl, g, x4, C4⟩ := dPutC_ok R3.c (x3.rep p2) p3 ((x2.trans x3).rep p1) q4
          exact ⟨a, H4, rfl, g, k F3 al3 σ H4 (((x1.trans x2).trans x3).trans x4) ⟨R3.s.ext x4, C4⟩⟩
        · cases e1
      · cases e1
    · cases e1
  · cases e1
/-! displays -/
def aPairs : List (M × M) → Rho → Option (List (W × W) × Rho)
  | [], r => some ([], r)
  | (mk, mv) :: ms, r => match mk r with
    | some (x, r1) => match mv r1 with
      | some (y, r2) => match aPairs ms r2 with
        | some (ps, r3) => some ((x, y) :: ps, r3)
        | none => none
      | none => none
    | none => none
def mergeW : List (W × W) → List Key → List W → Option (List Key × List W)
  | [], ks, ws => some (ks, ws)
  | (x, y) :: ps, ks, ws => match keyW x with
    | some k => if hasK ks k then mergeW ps ks (updK ks ws k y) else mergeW ps (ks ++ [k]) (ws ++ [y])
    | none => none
/-- a new dict: frozen at once, or a cell -/
def freshK (c : Bool) (ks : List Key) (ws : List W) (cl : List Cell) : R0 := if c then some (.cel cl.length, cl ++ [.dk ks ws]) else (datas ws).map fun xs => (.d (.dk ks xs), cl)
def eDisp (c : Bool) (ms : List (M × M)) : M := fun r => match aPairs ms r with
  | some (ps, r1) => if ps.length ≤ 15 then match mergeW ps [] [] with
      | some (ks, ws) => match freshK c ks ws r1.cl with
        | some (w, c1) => some (w, { r1 with cl := c1 })
        | none => none
      | none => none
    else none
  | none => none
def trsF (K : PySem.W.Frag) (ms : List (M × M)) : List (TE × TE) := ms.map fun p => (tF K p.1, tF K p.2)
/-- pairs of values -/
def RepP (K : PySem.W.Frag) (F : Hp) (al : List Addr) : List (W × W) → List (V × V) → Prop
  | [], ps => ps = []
  | (x, y) :: r, ps => ∃ v u ps', ps = (v, u) :: ps' ∧ Rep K F al x v ∧ Rep K F al y u ∧ RepP K F al r ps'
theorem aPairs_ok {K : PySem.W.Frag} : ∀ {ms : List (M × M)} {σ : L2.St} {H : Hp} {Q : List (V × V) → Hp → Prop} {r r' : Rho} {F : Hp} {al : List Addr} {ps : List (W × W)}, Rel K r F al σ H → aPairs ms r = some (ps, r') →
    (∀ F' al' vs H', Ext F al H F' al' H' → Rel K r' F' al' σ H' → RepP K F' al' ps vs → Q vs H') → tPairs (trsF K ms) σ H Q
  | [], σ, H, Q, r, r', F, al, ps, R, e, k => by
    have e : some ([], r) = some (ps, r') := e
    cases e
    exact k F al [] H (Ext.refl _ _ _) R rfl
  | (mk, mv) :: ms, σ, H, Q, r, r', F, al, ps, R, e, k => by
    unfold aPairs at e
    split at e
    · rename_i x r1 q1
      split at e
      · rename_i y r2 q2
        split at e
        · rename_i ps' r3 q3
          cases e
          refine ⟨r, F, al, x, r1, R, q1, fun F1 al1 vx H1 x1 R1 p1 => ⟨r1, F1, al1, y, r2, R1, q2, fun F2 al2 vy H2 x2 R2 p2 => ?_⟩⟩
          refine aPairs_ok R2 q3 fun F3 al3 vs H3 x3 R3 p3 => ?_
          exact k F3 al3 _ H3 ((x1.trans x2).trans x3) R3 ⟨_, _, _, rfl, (x2.trans x3).rep p1, x3.rep p2, p3⟩
        · cases e
      · cases e
    · cases e
theorem mergeW_ok {K : PySem.W.Frag} {F : Hp} {al : List Addr} : ∀ {ps : List (W × W)} {vs : List (V × V)} {kvs : List (Key × V)} {ws : List W} {ks' : List Key} {ws' : List W}, RepP K F al ps vs → Reps K F al ws (kvs.map (·.2)) → mergeW ps (kvs.map (·.1)) ws = some (ks', ws') →
    ∃ more : List (Key × V), vs = more.map (fun kv => (kV kv.1, kv.2)) ∧ more.length = ps.length ∧ (mergeK kvs more).map (·.1) = ks' ∧ Reps K F al ws' ((mergeK kvs more).map (·.2))
  | [], vs, kvs, ws, ks', ws', r, q, e => by
    have e : some (kvs.map (·.1), ws) = some (ks', ws') := e
    cases e
    exact ⟨[], r, rfl, rfl, q⟩
  | (x, y) :: ps, vs, kvs, ws, ks', ws', ⟨v, u, ps', ev, rx, ry, r⟩, q, e => by
    unfold mergeW at e
    split at e
    · rename_i k hk
      have ex : v = kV k := by
        cases x with
        | d z => exact keyD_ok rx hk
        | cel n => cases hk
        | tup ws => cases hk
      have eh := hasK_ok (k := k) kvs
      split at e
      · rename_i hh
        rw [hh] at eh
        have k1 : (putK kvs k u).map (·.1) = kvs.map (·.1) := by
          unfold putK
          rw [if_pos eh]
          exact map_keys kvs
        obtain ⟨more, m1, m2, m3, m4⟩ := mergeW_ok (kvs := putK kvs k u) (ws := updK (kvs.map (·.1)) ws k y) r (by
          unfold putK
          rw [if_pos eh]
          exact updK_ok ry q) (by rw [k1]; exact e)
        exact ⟨(k, u) :: more, by rw [ev, m1, ex]; rfl, by rw [List.length_cons, List.length_cons, m2], m3, m4⟩
      · rename_i hh
        rw [Bool.not_eq_true] at hh
        rw [hh] at eh
        have nn : ¬ (kvs.any fun kv => decide (kv.1 = k)) = true := by rw [eh]; exact Bool.false_ne_true
        have k1 : (putK kvs k u).map (·.1) = kvs.map (·.1) ++ [k] := by
          unfold putK
          rw [if_neg nn, List.map_append]
          rfl
        rw [← k1] at e
        obtain ⟨more, m1, m2, m3, m4⟩ := mergeW_ok (kvs := putK kvs k u) r (by
          unfold putK
          rw [if_neg nn, List.map_append]
          exact q.app (Reps.one ry)) e
        exact ⟨(k, u) :: more, by rw [ev, m1, ex]; rfl, by rw [List.length_cons, List.length_cons, m2], m3, m4⟩
    · cases e
/-- a new object that has been written since: as a cell, or frozen -/
theorem freshK_ok {K : PySem.W.Frag} {F H H2 F2 : Hp} {al al2 : List Addr} {cl2 cl3 : List Cell} {p : Addr} {u : HO} {c : Bool} {ks : List Key} {ws : List W} {kvs : List (Key × V)} {w : W} (hp : H p = none) (Cs : Cells K cl2 F2 al2 H2) (x : Ext F al H F2 al2 H2) (hu : H2 p = some u) (hF2 : F2 p = none) (hal2 : p ∉ al2)
    (hk : kvs.map (·.1) = ks) (q : Reps K F2 al2 ws (kvs.map (·.2))) (e : freshK c ks ws cl2 = some (w, cl3)) : ∃ F3 al3, Ext F al H F3 al3 (upd H2 p (.dK kvs)) ∧ Cells K cl3 F3 al3 (upd H2 p (.dK kvs)) ∧ Rep K F3 al3 w (.ref p) ∧ Same F2 F3 ∧ ∃ be, al3 = al2 ++ be := by
  have ne : ∀ a ∈ al2, a ≠ p := fun a ha z => hal2 (z ▸ ha)
  cases c with
  | false =>
    obtain ⟨xs, e1, e2⟩ := Option.map_eq_some_iff.mp (show (datas ws).map _ = _ from e)
    cases e2
    rw [datas_some e1] at q
    have s3 : Same F2 (upd F2 p (.dK kvs)) := fun b o h => by rw [upd_ne (ne_of_none h hF2)]; exact h
    have x3 : Ext F al H (upd F2 p (.dK kvs)) al2 (upd H2 p (.dK kvs)) := by
      refine ⟨x.f.trans s3, x.a, fun b o h hb => ?_, fun b o h => ?_, fun b h => ?_⟩
      · rw [upd_ne (ne_of_none h hp)]
        exact x.h b o h hb
      · by_cases z : b = p
        · exact .inr (.inl (z ▸ hp))
        · rw [upd_ne z] at h
          exact x.n b o h
      · by_cases z : b = p
        · rw [z, upd_same]
          exact fun q => nomatch q
        · rw [upd_ne z]
          exact x.t b h
    refine ⟨_, al2, x3, ⟨fun b o h => ?_, Cs.len, fun n a k h1 h2 => ?_, Cs.nd, fun a ha => ?_⟩, ⟨p, kvs, rfl, .inl upd_same, hk, Reps0.mono s3 q.to0⟩, s3, [], by simp⟩
    · by_cases z : b = p
      · rw [z, upd_same] at h
        rw [z, upd_same]
        exact h
      · rw [upd_ne z] at h
        rw [upd_ne z]
        exact Cs.fh b o h
    · have na := ne a (List.mem_of_getElem? h1)
      exact (Cs.ok n a k h1 h2).to s3 (upd_ne na) (fun z => by rw [upd_ne na]; exact z)
    · rw [upd_ne (ne a ha)]
      exact Cs.has a ha
  | true =>
    have e : some (W.cel cl2.length, cl2 ++ [Cell.dk ks ws]) = some (w, cl3) := e
    cases e
    obtain ⟨be, eb, hb⟩ := x.a
    have x3 : Ext F al H F2 (al2 ++ [p]) (upd H2 p (.dK kvs)) := by
      refine ⟨x.f, ⟨be ++ [p], by rw [eb, List.append_assoc], fun b hb' => ?_⟩, fun b o h hb => ?_, fun b o h => x.n b o h, fun b h => ?_⟩
      · rcases List.mem_append.mp hb' with z | z
        · exact hb b z
        · rw [List.mem_singleton.mp z]
          exact hp
      · rw [upd_ne (ne_of_none h hp)]
        exact x.h b o h hb
      · by_cases z : b = p
        · rw [z, upd_same]
          exact fun q => nomatch q
        · rw [upd_ne z]
          exact x.t b h
    refine ⟨F2, al2 ++ [p], x3, ⟨fun b o h => by rw [upd_ne (ne_of_none h hF2)]; exact Cs.fh b o h, by rw [List.length_append, List.length_append, Cs.len]; rfl, fun n a k h1 h2 => ?_, ?_, fun a ha => ?_⟩, ⟨p, rfl, ?_⟩, Same.refl _, [p], rfl⟩
    · by_cases z : n < al2.length
      · rw [List.getElem?_append_left z] at h1
        rw [List.getElem?_append_left (by rw [← Cs.len]; exact z)] at h2
        exact (Cs.ok n a k h1 h2).grow (upd_ne (ne a (List.mem_of_getElem? h1)))
      · have q1 := (List.getElem?_eq_some_iff.mp h1).1
        rw [List.length_append, List.length_singleton] at q1
        have e2 : n = al2.length := by omega
        subst e2
        rw [List.getElem?_append_right (Nat.le_refl _), Nat.sub_self] at h1
        rw [Cs.len, List.getElem?_append_right (Nat.le_refl _), Nat.sub_self] at h2
        have h1 : some p = some a := h1
        have h2 : some (Cell.dk ks ws) = some k := h2
        cases h1
        cases h2
        exact ⟨hF2, kvs, upd_same, hk, Reps.mono (Same.refl _) q⟩
    · rw [List.nodup_append]
      exact ⟨Cs.nd, by simp, fun a ha b hb e => by
        rw [List.mem_singleton] at hb
        rw [e, hb] at ha
        exact hal2 ha⟩
    · by_cases z : a = p
      · rw [z, upd_same]
        exact fun q => nomatch q
      · rw [upd_ne z]
        rcases List.mem_append.mp ha with y | y
        · exact Cs.has a y
        · exact absurd (List.mem_singleton.mp y) z
    · rw [← Cs.len, List.getElem?_append_right (Nat.le_refl _), Nat.sub_self]
      rfl
theorem pf_disp (c : Bool) {keys : List (Option Expr)} {values : List Expr} {ms : List (M × M)} (h : PPs X pos keys values (trsF X.K ms)) (hall : keys.all (·.isSome) = true := by rfl) (hl : keys.length = values.length := by rfl) (h0 : keys ≠ [] := by exact fun z => nomatch z)
    (h15 : keys.length ≤ 15 := by decide) : PE X (.Dict keys values pos) (tF X.K (eDisp c ms)) := PE.weak (pe_disp h hall hl h0 h15) fun σ H Q ⟨r, F, al, d, r', R, e1, k⟩ => by
  intro p hp
  obtain ⟨hF, hal⟩ := R.c.free hp
  obtain ⟨x0, C0⟩ := R.c.add (u := .dK []) hp
  unfold eDisp at e1
  split at e1
  · rename_i ps r1 q1
    split at e1
    · rename_i h15'
      split at e1
      · rename_i ks ws q2
        split at e1
        · rename_i w c1 q3
          cases e1
          refine aPairs_ok (r := r) (r' := r1) ⟨R.s.ext x0, C0⟩ q1 fun F2 al2 vs H2 x2 R2 p2 => ?_
          have hH2 : H2 p = some (.dK []) := x2.h p _ upd_same hal
          obtain ⟨be, eb, hb⟩ := x2.a
          have hal2 : p ∉ al2 := fun z => by
            rw [eb] at z
            rcases List.mem_append.mp z with y | y
            · exact hal y
            · have := hb p y
              rw [upd_same] at this
              cases this
          have hF2 : F2 p = none := by
            cases e : F2 p with
            | none => rfl
            | some o =>
              rcases x2.n p o e with y | y | y
              · rw [hF] at y
                cases y
              · rw [upd_same] at y
                cases y
              · exact absurd y hal
          obtain ⟨more, m1, m2, m3, m4⟩ := mergeW_ok (kvs := []) (ws := []) p2 rfl q2
          refine ⟨hH2, more, m1, by rw [m2]; exact h15', ?_⟩
          obtain ⟨F3, al3, x3, C3, p3, s3, be3, rfl⟩ := freshK_ok hp R2.c (x0.trans x2) hH2 hF2 hal2 m3 m4 q3
          refine k F3 _ (.ref p) _ x3 ⟨⟨R2.s.len, fun i d h => ?_⟩, C3⟩ p3
          obtain ⟨v, e1, e2⟩ := R2.s.ok i d h
          exact ⟨v, e1, Rep.mono s3 e2⟩
        · cases e1
      · cases e1
    · cases e1
  · cases e1
end
end FL

namespace FL
open PySem PySem.Spec L2

section
variable {X : Cx}
/-! ### in -/
def flD : D → Option V
  | .non => some .non
  | .bl b => some (.bl b)
  | .int i => some (.int i)
  | .str z => some (.str z)
  | _ => none
def flW : W → Option V
  | .d x => flD x
  | _ => none
def flA : List W → Option (List V)
  | [] => some []
  | w :: ws => match flW w, flA ws with
    | some v, some vs => some (v :: vs)
    | _, _ => none
theorem flD_ok {K : PySem.W.Frag} {F : Hp} {d : D} {v u : V} (r : Rep0 K F d v) (h : flD d = some u) : v = u ∧ flatV u = true := by
  unfold flD at h
  split at h <;> first
    | (cases h; exact ⟨r, rfl⟩)
    | cases h
theorem flW_ok {K : PySem.W.Frag} {F : Hp} {al : List Addr} {w : W} {v u : V} (r : Rep K F al w v) (h : flW w = some u) : v = u ∧ flatV u = true := by
  unfold flW at h
  split at h
  · exact flD_ok r h
  · cases h
theorem flA_ok {K : PySem.W.Frag} {F : Hp} {al : List Addr} : ∀ {ws : List W} {vs us : List V}, Reps K F al ws vs → flA ws = some us → vs = us ∧ us.all flatV = true
  | [], vs, us, r, h => by
    cases h
    exact ⟨r, rfl⟩
  | w :: ws, vs, us, ⟨v, vr, e1, r1, r2⟩, h => by
    unfold flA at h
    split at h
    · rename_i u us' h1 h2
      cases h
      obtain ⟨i1, i2⟩ := flW_ok r1 h1
      obtain ⟨i3, i4⟩ := flA_ok r2 h2
      refine ⟨by rw [e1, i1, i3], ?_⟩
      rw [List.all_cons, i2, i4]
      rfl
    · cases h
theorem op_in_dict (hu : X.A.units + 1 < cLine) : OpR X (compareOp .In) (fun y x H Q => ∃ a o, x = .ref a ∧ DGet H a y o ∧ Q (.bl o.isSome) H) := by
  intro pins s σ H y x v u Q I ry rx h
  obtain ⟨a, o, rfl, g, q⟩ := h
  cases rx
  exact d_in hu I g ry fun s' I' => ⟨.bl _, H, I', rfl, q⟩
theorem op_notIn_dict (hu : X.A.units + 1 < cLine) : OpR X (compareOp .NotIn) (fun y x H Q => ∃ a o, x = .ref a ∧ DGet H a y o ∧ Q (.bl (!o.isSome)) H) := by
  intro pins s σ H y x v u Q I ry rx h
  obtain ⟨a, o, rfl, g, q⟩ := h
  cases rx
  exact d_notIn hu I g ry fun s' I' => ⟨.bl _, H, I', rfl, q⟩
def sg (neg b : Bool) : Bool := if neg then !b else b
def dIn (neg : Bool) : Op2 := fun cl x y => match dGetW cl y x with
  | some o => some (.d (.bl (sg neg o.isSome)), cl)
  | none => match y with
    | .d (.str z) => match x with
      | .d (.str ⟨⟨[c]⟩⟩) => some (.d (.bl (sg neg (decide (c ∈ z.cps.toList)))), cl)
      | _ => none
    | y => match flW x, (seqW cl y).bind flA with
      | some v, some vs => some (.d (.bl (sg neg (inV v vs))), cl)
      | _, _ => inD neg cl x y
theorem dIn_v {K : PySem.W.Frag} {neg : Bool} {cl : List Cell} {F : Hp} {al : List Addr} {H : Hp} (C : Cells K cl F al H) {x y : W} {vx vy : V} (rx : Rep K F al x vx) (ry : Rep K F al y vy) {d : W} {cl' : List Cell} (e : dIn neg cl x y = some (d, cl')) : cl' = cl ∧ ∃ b, d = .d (.bl b) ∧
    ((∃ a o, vy = .ref a ∧ DGet H a vx o ∧ b = sg neg o.isSome) ∨ (∃ (c : Nat) (z : Str), vx = .str ⟨#[c]⟩ ∧ vy = .str z ∧ b = sg neg (decide (c ∈ z.cps.toList))) ∨
     (∃ p xs, vy = .ref p ∧ (SqL K H p xs ∨ SqT K H p xs) ∧ flatV vx = true ∧ xs.all flatV = true ∧ b = sg neg (inV vx xs)) ∨
     (∃ p ps, Dp K H vx p ∧ Dp K H vy (.list ps) ∧ SeqAt.shaped p = true ∧ SeqAt.shaped (.list ps) = true ∧ b = sg neg (ps.any fun z => PyData.eqv z p))) := by
  unfold dIn at e
  split at e
  · rename_i o ho
    cases e
    obtain ⟨a, ov, rfl, g, i1, i2⟩ := dGetW_ok C ry rx ho
    refine ⟨rfl, _, rfl, .inl ⟨a, ov, rfl, g, ?_⟩⟩
    cases o with
    | none =>
      rw [i2 rfl]
      rfl
    | some w =>
      obtain ⟨v, e, _⟩ := i1 w rfl
      rw [e]
      rfl
  · split at e
    · rename_i z _
      have ry : vy = .str z := ry
      split at e
      · rename_i c _
        cases e
        exact ⟨rfl, _, rfl, .inr (.inl ⟨c, z, rx, ry, rfl⟩)⟩
      · cases e
    · split at e
      · rename_i v vs h1 h2
        cases e
        obtain ⟨ws, h3, h4⟩ := Option.bind_eq_some_iff.mp h2
        obtain ⟨a, us, rfl, q1, q2⟩ := seqW_ok C ry h3
        obtain ⟨rfl, i2⟩ := flW_ok rx h1
        obtain ⟨rfl, i4⟩ := flA_ok q2 h4
        exact ⟨rfl, _, rfl, .inr (.inr (.inl ⟨a, _, rfl, q1, i2, i4, rfl⟩))⟩
      · unfold inD at e
        split at e
        · rename_i p ps h1 h2
          split at e
          · rename_i hs
            cases e
            exact ⟨rfl, _, rfl, .inr (.inr (.inr ⟨p, ps, pyW_ok C rx h1, pyW_ok C ry h2, hs.1, hs.2, rfl⟩))⟩
          · cases e
        · cases e
theorem inn_ok (hu : X.A.units + 65 < cLine) : OpR X (compareOp .In) (r2F X.K (dIn false)) := OpR.weak ((op_in_dict (by omega)).or (op_in_sign.or (op_in_seq.or (op_inD hu)))) fun vx vy H Q ⟨cl, F, al, x, y, C, rx, ry, k⟩ => by
  obtain ⟨d, cl', e, kk⟩ := k.some
  obtain ⟨rfl, b, rfl, h⟩ := dIn_v C rx ry e
  have q := kk F al (.bl b) H (Ext.refl _ _ _) C rfl
  rcases h with ⟨a, o, e1, g, rfl⟩ | ⟨c, z, e1, e2, rfl⟩ | ⟨p, xs, e1, e2, e3, e4, rfl⟩ | ⟨p, ps, e1, e2, e3, e4, rfl⟩
  · exact .inl ⟨a, o, e1, g, q⟩
  · exact .inr (.inl ⟨c, z, e1, e2, q⟩)
  · exact .inr (.inr (.inl ⟨p, xs, e1, e2, e3, e4, q⟩))
  · exact .inr (.inr (.inr ⟨p, ps, e1, e2, e3, e4, q⟩))
theorem notinn_ok (hu : X.A.units + 65 < cLine) : OpR X (compareOp .NotIn) (r2F X.K (dIn true)) := OpR.weak ((op_notIn_dict (by omega)).or (op_notIn_sign.or (op_notIn_seq.or (op_notInD hu)))) fun vx vy H Q ⟨cl, F, al, x, y, C, rx, ry, k⟩ => by
  obtain ⟨d, cl', e, kk⟩ := k.some
  obtain ⟨rfl, b, rfl, h⟩ := dIn_v C rx ry e
  have q := kk F al (.bl b) H (Ext.refl _ _ _) C rfl
  rcases h with ⟨a, o, e1, g, rfl⟩ | ⟨c, z, e1, e2, rfl⟩ | ⟨p, xs, e1, e2, e3, e4, rfl⟩ | ⟨p, ps, e1, e2, e3, e4, rfl⟩
  · exact .inl ⟨a, o, e1, g, q⟩
  · exact .inr (.inl ⟨c, z, e1, e2, q⟩)
  · exact .inr (.inr (.inl ⟨p, xs, e1, e2, e3, e4, q⟩))
  · exact .inr (.inr (.inr ⟨p, ps, e1, e2, e3, e4, q⟩))

/-! ### isinstance of an own class: an instance of it -/
def oIsiC (C : Addr) : OpN := fun cl ds => match ds with
  | [x, .d (.op (.ref C'))] => if C' = C then match insW C cl x with
      | some _ => some (.d (.bl true), cl)
      | none => none
    else none
  | _ => none
/-- what isinstance asks of a class -/
structure IsC (K : PySem.W.Frag) (C : Addr) : Prop where
  cl : Cls K C
  a : PySem.W.findIn K (.ref C) "__class__" = some (some (.builtin "object.__class__"))
  n : PySem.W.specialIn K (.builtin "object.__class__") "__get__" = some (some (.builtin "getset_descriptor.__get__"))
  t : PySem.W.takesIn K (.builtin "object.__class__") = some true
  m : PySem.W.mroIn K C (.type "object") = some true
theorem isiC_ok {C : Addr} (c : IsC X.K C) : CallR X (.builtin "isinstance") (rNF X.K (oIsiC C)) := CallR.weak call_isi fun vs H Q ⟨cl, F, al, ds, Cs, rs, k⟩ => by
  obtain ⟨d, cl', e, kk⟩ := k.some
  unfold oIsiC at e
  split at e
  · rename_i x C'
    obtain ⟨v, vr, rfl, r1, v2, vr2, rfl, r2, r0⟩ := rs
    have r0 : vr2 = [] := r0
    have r2 : v2 = .ref C' := r2
    subst r0 r2
    split at e
    · rename_i hC
      subst hC
      split at e
      · rename_i pr hi
        cases e
        obtain ⟨a, dx, fvs, rfl, h1, _, _⟩ := insW_ok (fs := pr.1) (ws := pr.2) Cs r1 hi
        refine ⟨.ref a, .ref C', .ref C', .ref C', true, rfl, .own C', .base (.ins h1 c.cl c.a c.n c.t c.m), ?_, kk F al _ H (Ext.refl _ _ _) Cs rfl⟩
        unfold PySem.W.kitOne
        rw [if_pos (by simp)]
      · cases e
    · cases e
  · cases e

/-! ### globals, what is never reached -/
theorem pf_glob {e : Expr} {v : V} {d : D} (h : PE X e (tC v)) (q : ∀ F, Rep0 X.K F d v) : PE X e (tF X.K (eC (.d d))) := pf_c h fun F _ => q F
def sNever : G := fun _ => none
theorem fs_never {st : Stmt} : PS X st (tFS X.K sNever) := PS.weak ps_never fun D σ H ⟨r, F, al, o, R, e, k⟩ => nomatch e

/-! ### all, any, sum, str -/
def bools : List W → Option (List Bool)
  | [] => some []
  | .d (.bl b) :: ws => (bools ws).map (b :: ·)
  | _ => none
def intsOf : List W → Option (List Int)
  | [] => some []
  | .d (.int i) :: ws => (intsOf ws).map (i :: ·)
  | _ => none
theorem bools_ok {K : PySem.W.Frag} {F : Hp} {al : List Addr} : ∀ {ws : List W} {vs : List V} {bs : List Bool}, Reps K F al ws vs → bools ws = some bs → vs = bs.map V.bl
  | [], vs, bs, r, h => by
    cases h
    exact r
  | w :: ws, vs, bs, ⟨v, vr, e1, r1, r2⟩, h => by
    unfold bools at h
    split at h
    · rename_i q
      cases q
    · rename_i b ws' q
      cases q
      obtain ⟨bs', h1, h2⟩ := Option.map_eq_some_iff.mp h
      subst h2
      have r1 : v = .bl b := r1
      rw [e1, r1, bools_ok r2 h1]
      rfl
    · cases h
theorem intsOf_ok {K : PySem.W.Frag} {F : Hp} {al : List Addr} : ∀ {ws : List W} {vs : List V} {bs : List Int}, Reps K F al ws vs → intsOf ws = some bs → vs = bs.map V.int
  | [], vs, bs, r, h => by
    cases h
    exact r
  | w :: ws, vs, bs, ⟨v, vr, e1, r1, r2⟩, h => by
    unfold intsOf at h
    split at h
    · rename_i q
      cases q
    · rename_i b ws' q
      cases q
      obtain ⟨bs', h1, h2⟩ := Option.map_eq_some_iff.mp h
      subst h2
      have r1 : v = .int b := r1
      rw [e1, r1, intsOf_ok r2 h1]
      rfl
    · cases h
def oBools (f : List Bool → Bool) : OpN := fun cl ds => match ds with
  | [x] => match (asList cl x).bind bools with
    | some bs => some (.d (.bl (f bs)), cl)
    | none => none
  | _ => none
def oAll : OpN := oBools fun bs => bs.all id
def oAny : OpN := oBools fun bs => bs.any id
theorem bools1_ok {f : Value} {g : List Bool → Bool} (h : CallR X f (fun vs H Q => ∃ (a : Addr) (bs : List Bool), vs = [V.ref a] ∧ SqL X.K H a (bs.map V.bl) ∧ Q (.bl (g bs)) H)) : CallR X f (rNF X.K (oBools g)) := CallR.weak h fun vs H Q ⟨cl, F, al, ds, C, rs, k⟩ => by
  obtain ⟨d, cl', e, kk⟩ := k.some
  unfold oBools at e
  split at e
  · rename_i x
    obtain ⟨v, vr, rfl, r1, r0⟩ := rs
    have r0 : vr = [] := r0
    subst r0
    split at e
    · rename_i bs hb
      cases e
      obtain ⟨ws, h1, h2⟩ := Option.bind_eq_some_iff.mp hb
      obtain ⟨a, us, rfl, q1, q2⟩ := asList_ok C r1 h1
      rw [bools_ok q2 h2] at q1
      exact ⟨a, bs, rfl, q1, kk F al _ H (Ext.refl _ _ _) C rfl⟩
    · cases e
  · cases e
theorem all_ok (hc : X.calm = true) : CallR X (.builtin "all") (rNF X.K oAll) := bools1_ok (cr_all hc)
theorem any_ok (hc : X.calm = true) : CallR X (.builtin "any") (rNF X.K oAny) := bools1_ok (cr_any hc)
def oSum : OpN := fun cl ds => match ds with
  | [x] => match (asList cl x).bind intsOf with
    | some bs => some (.d (.int bs.sum), cl)
    | none => none
  | _ => none
theorem sum_ok (hc : X.calm = true) : CallR X (.builtin "sum") (rNF X.K oSum) := CallR.weak (cr_sum hc) fun vs H Q ⟨cl, F, al, ds, C, rs, k⟩ => by
  obtain ⟨d, cl', e, kk⟩ := k.some
  unfold oSum at e
  split at e
  · rename_i x
    obtain ⟨v, vr, rfl, r1, r0⟩ := rs
    have r0 : vr = [] := r0
    subst r0
    split at e
    · rename_i bs hb
      cases e
      obtain ⟨ws, h1, h2⟩ := Option.bind_eq_some_iff.mp hb
      obtain ⟨a, us, rfl, q1, q2⟩ := asList_ok C r1 h1
      rw [intsOf_ok q2 h2] at q1
      exact ⟨a, bs, rfl, q1, kk F al _ H (Ext.refl _ _ _) C rfl⟩
    · cases e
  · cases e
def oStrI : OpN := fun cl ds => match ds with
  | [.d (.int i)] => if i.natAbs.log2 < 1920 then some (.d (.str (toString i)), cl) else none
  | _ => none
theorem strI_ok : CallR X (.type "str") (rNF X.K oStrI) := CallR.weak call_str_int fun vs H Q ⟨cl, F, al, ds, C, rs, k⟩ => by
  obtain ⟨d, cl', e, kk⟩ := k.some
  unfold oStrI at e
  split at e
  · rename_i i
    obtain ⟨v, vr, rfl, r1, r0⟩ := rs
    have r0 : vr = [] := r0
    have r1 : v = .int i := r1
    subst r0 r1
    split at e
    · cases e
      exact ⟨i, rfl, by assumption, kk F al _ H (Ext.refl _ _ _) C rfl⟩
    · cases e
  · cases e
end
end FL

namespace FL
open PySem PySem.Spec L2 PyProof.Rows

/-! ### for over a list or a tuple, whichever it is -/
def iSq (K : PySem.W.Frag) (tl : TE) : TI := fun σ H R => tl σ H fun x H1 => (∃ a, x = .ref a ∧ (∃ xs, SqL K H1 a xs) ∧ R (Itl K a) H1) ∨ ∃ a, x = .ref a ∧ (∃ xs, SqT K H1 a xs) ∧ R (Itt K a) H1
theorem pi_sq {X : Cx} {tg l : Expr} {tl : TE} (hl : PE X l tl) : PI X tg l (iSq X.K tl) := by
  refine ⟨fun pins s σ H R I h => thn (hl.run pins s σ H _ I h) fun v s1 hv => ?_⟩
  obtain ⟨x, H1, I1, r1, q1⟩ := hv
  have nw : FpOk X pins H1 s1.heap.objs.size := I1.fpOk (Nat.le_refl _) (I1.hok.fresh (Nat.le_refl _))
  have all1 : ∀ b ∈ [s1.heap.objs.size], FpOk X pins H1 b := fun b hb => by
    rw [List.mem_singleton.mp hb]
    exact nw
  rcases q1 with ⟨a, e, ⟨xs, hq⟩, q⟩ | ⟨a, e, ⟨xs, hq⟩, q⟩
  · subst e
    cases r1
    obtain ⟨its, rv, p, _⟩ := I1.list hq
    refine wpAny_pyIter_list p.isList ⟨_, _, _, _, H1, rfl, I1.kept (t' := s1.toks) fun b o e => Heap.get?_push_of_some _ e, turn_list a s1.heap.objs.size, ?_, all1, q⟩
    exact ⟨_, Heap.get?_push_size _ rfl, rfl, rfl⟩
  · subst e
    cases r1
    obtain ⟨its, rv, p, _⟩ := I1.tuple hq
    have p' : s1.heap.IsTuple a its.toArray := p
    refine wpAny_pyIter_tuple p' ⟨_, _, _, _, H1, rfl, I1.kept (t' := s1.toks) fun b o e => Heap.get?_push_of_some _ e, turn_tuple a s1.heap.objs.size, ?_, all1, q⟩
    exact ⟨_, Heap.get?_push_size _ rfl, rfl, rfl⟩
def iSeq (m : M) : MI := fun r => match m r with
  | some (w, r1) => match asTup w with
    | some ds => some ((ds, none), r1)
    | none => match itemsL r1.cl w with
      | some p => some (p, r1)
      | none => none
  | none => none
theorem fi_seq {X : Cx} {tg e : Expr} {m : M} (h : PE X e (tF X.K m)) : PI X tg e (iF X.K (iSeq m)) := PI.weak (pi_sq h) fun σ H R ⟨r, F, al, ds, ck, r', Rl, e1, k⟩ => by
  unfold iSeq at e1
  split at e1
  · rename_i w r1 q
    split at e1
    · rename_i xs et
      cases e1
      refine ⟨r, F, al, _, r', Rl, q, fun F1 al1 v H1 x1 R1 p1 => .inr ?_⟩
      obtain ⟨a, vs, rfl, q2, q3⟩ := asTup_ok p1 et
      exact ⟨a, rfl, ⟨vs, Same.seqT R1.c.fh q2⟩, k F1 al1 _ H1 x1 R1 (wk_tup q2 q3)⟩
    · split at e1
      · rename_i pr hp
        cases e1
        refine ⟨r, F, al, _, r', Rl, q, fun F1 al1 v H1 x1 R1 p1 => .inl ?_⟩
        obtain ⟨a, rfl, st, hck⟩ := items_ok R1.c p1 hp
        obtain ⟨vs, q2, _⟩ := st F1 al1 r'.cl H1 (Same.refl _) ⟨[], by simp⟩ R1.c hck
        exact ⟨a, rfl, ⟨vs, q2⟩, k F1 al1 _ H1 x1 R1 (wk_list st)⟩
      · cases e1
  · cases e1
theorem hu65 {k : Nat} {A : Around} (hr : Room k A) : A.units + 65 < cLine := by have := hr.un; omega
theorem hu1 {k : Nat} {A : Around} (hr : Room k A) : A.units + 1 < cLine := by have := hr.un; omega
end FL
/-! repr, and a law that is called by the outermost caller alone -/
namespace FL
open PySem PySem.Spec L2 PyProof.Rows
def oRepr : OpN := fun cl ds => match ds with
  | [x] => match pyW cl x with
    | some p => if isDisplay p = true ∧ PyData.showable p = true ∧ PyData.hasDict p = false ∧ p.depth ≤ 60 ∧ (PyData.shown p).length ≤ sizeLine then some (.d (.str (PyData.shown p)), cl) else none
    | none => none
  | _ => none
theorem repr_ok {X : Cx} (hg : X.A.guards = some []) (hu : X.A.units + 64 < cLine) : CallR X (.builtin "repr") (rNF X.K oRepr) := by
  intro pins s σ H xs us Q I r h
  obtain ⟨cl, F, al, ds, C, rs, k⟩ := h
  obtain ⟨d, cl', e, kk⟩ := k.some
  unfold oRepr at e
  split at e
  · rename_i x
    split at e
    · rename_i p hp
      split at e
      · rename_i hc
        cases e
        obtain ⟨h1, h2, h3, h4, h5⟩ := hc
        obtain ⟨v, vr, rfl, rv, r0⟩ := rs
        have r0 : vr = [] := r0
        subst r0
        have dp := pyW_ok C rv hp
        obtain ⟨u, rfl, rx⟩ := vals1 r
        obtain ⟨as, rd⟩ := Dp.reads I p v u dp rx
        obtain ⟨a, rfl⟩ := isRef_of_reads rd h1
        exact repr_of_reads' rd h2 (PyData.noDict_hsm h3) hg (by omega) (fun _ _ e => e) (fun h' t tk hk => ⟨.str _, H, I.kept hk, ⟨_, rfl⟩, kk F al _ H (Ext.refl _ _ _) C rfl⟩) h5
      · cases e
    · cases e
  · cases e
/-- a def that the outermost caller calls -/
structure FnG (P : Program) (w : World) (K : PySem.W.Frag) (mg : Str → Option Value) (base : Heap) (f : Addr) (fd : FuncData) (ps : List Str) (sp : Sp) : Prop where
  len : ∀ vs H Q E, sp vs H Q E → vs.length = ps.length
  run : ∀ (s : Shared) (H : Hp) (args : Args) (us : List Value) (vs : List V) (Q : VK) (E : XK), Env0 P w K mg base callerA [] s H → BindsTo s fd args (ps.zip us) → Vals vs us → sp vs H Q E →
    codeAny (model P w) callerA (.call (.ref f) args) (CR CX0 [] P w H s Q E) s
section
variable {P : Program} {w : World} {K : PySem.W.Frag} {mg : Str → Option Value} {base : Heap}
theorem fnG_of {x qual : Str} {st : Stmt} {f : Addr} {fd : FuncData} {N ps : List Str} {k : Nat} {g : G} (F : Fun K x qual st f fd) (S : FnScope N ps (defScope st)) (hk : Room (k + 1) callerA)
    (hb : ∀ (cdv : Value) (s : Shared) (H : Hp) (E : XK), Room k (callerA.deeper (envOfC qual (defScope st) s.heap.objs.size f cdv)) →
      PSs (cxOf CX0 P w K mg base N qual (defScope st) f cdv callerA [] s H E).nox (defBody st) (tFS K g)) : FnG P w K mg base f fd ps (spF K ps.length (runG N.length g)) := by
  obtain ⟨oc, od, kV, doc, pm, an, cdv, ct, osl, rfl, fl, ch⟩ := F.ex
  have hlen : ∀ (vs : List V) (H : Hp) (Q : VK) (E : XK), spF K ps.length (runG N.length g) vs H Q E → vs.length = ps.length := fun vs H Q E h => by
    obtain ⟨cl, Fz, al, ds, C, r, hl, _⟩ := h
    rw [r.length, hl]
  constructor
  · exact hlen
  intro s H args us vs Q E en bi rv hs
  have ln := hlen _ _ _ _ hs
  have up : ∀ b o, base.get? b = some o → s.heap.get? b = some o := fun b o e => (en.bs b o e).1
  have inS : K.In s.heap := en.mod.kin.keeps up
  refine codeAny_call_function hk.depth (inS _ _ fl) rfl S.co S.gen rfl (PySem.W.codeRec_of inS ch) (bi _ _ _ _ ?_)
  refine wpAny_newFunctionEnv_cells S.kind (fun y hy => (S.par y.1 (List.of_mem_zip (a := y.1) (b := y.2) hy).1).imp id fun q => ⟨q, PySem.W.cellsFrom_some _ _ _ (.inl q)⟩) fun env he s1 made => ?_
  subst he
  refine ⟨(en.mod.nolimit.keeps up).keeps made.toInCall.keep, codeAny_func ?_⟩
  obtain ⟨cl, Fz, al, ds, C, r, hl, pk⟩ := hs
  have body := (hb cdv s H E (hk.deeper _)).nox
  have begun := inv_start (CX := CX0) (E := E) S hk.hd en ln rv made
  have read : (tFS K g) { nx := fun _ H' => Q .non H', rt := Q } (start N vs) H := by
    unfold runG at pk
    split at pk
    · rename_i wv r1 e
      exact ⟨_, Fz, al, _, ⟨slots_start r, C⟩, e, fun F' al' v σ' H' x R q => fin_ok C pk x R.c q⟩
    · rename_i r1 e
      exact ⟨_, Fz, al, _, ⟨slots_start r, C⟩, e, fun F' al' σ' H' x R => fin_ok (w := .d .non) C pk x R.c rfl⟩
    · exact pk.elim
  refine wpAny_mono (body.run [] s1 (start N vs) H _ begun read) (fun out s2 z => ?_) fun _ _ z => z
  cases out with
  | next =>
    obtain ⟨σ2, H2, J, q⟩ := z
    exact ⟨.non, H2, J.os, J.bare, J.base, J.hok, rfl, q⟩
  | ret u =>
    obtain ⟨v, σ2, H2, J, ru, q⟩ := z
    exact ⟨v, H2, J.os, J.bare, J.base, J.hok, ru, q⟩
  | brk => exact z.elim fun _ z => z.elim fun _ z => z.2.elim
  | cont => exact z.elim fun _ z => z.elim fun _ z => z.2.elim
end
section
variable {P : Program} {w : World} {K : PySem.W.Frag} {mg mb : Str → Option Value} {fa a : Addr} {fd : FuncData} {x : Str} {sp : Sp} {s₁ : Shared}
/-- the call over what is known of the script -/
theorem callG_over {H : Hp} {us : List Value} (KX : K.In s₁.heap) (gN : s₁.heap.Ns mainGlobals mg) (bN : s₁.heap.Ns builtinsNs mb) (bV : ∀ x : Str, x ≠ "__name__" → mb x = bootBuiltins x) (nl : s₁.heap.NoLimit) (ng : s₁.gens = #[])
    (at1 : s₁.heap.get? a = some { cls := .type "list", data := .seq us.toArray }) (F : ∀ base : Heap, K.In base → base.Ns mainGlobals mg → FnG P w K mg base fa fd [x] sp) (bind1 : ∀ (s : Shared) (u : Value), BindsTo s fd ⟨[u], []⟩ [(x, u)])
    (only : Only H) (ok : HOk P w H s₁.heap) (just : ∀ b, H b ≠ none → b = a) (apart : H a ≠ none → K.lookup a = none) (yes : sp [.ref a] H (fun v _ => v = .bl true) fun _ _ _ => False) :
    codeAny (model P w) callerA (.call (.ref fa) ⟨[.ref a], []⟩) (fun r s' => r = .ok (.ret (.bool true)) ∧ OldK s₁.heap s'.heap ∧ s'.os = s₁.os ∧ AllBare s'.gens) s₁ := by
  have dictFree : ∀ (b : Addr) (o : Obj) (es : Array DictEntry) (n : Nat), s₁.heap.get? b = some o → o.data = .dict es n → H b = none := by
    intro b o es n hb hd
    by_cases hn : H b = none
    · exact hn
    · have := just b hn
      subst this
      rw [at1] at hb
      cases hb
      exact Data.noConfusion hd
  have lift : ∀ (b : Addr) (m : Str → Option Value), s₁.heap.Ns b m → (hidT s₁.heap H).Ns b m := by
    rintro b m ⟨o, es, n, h1, h2, h3⟩
    exact ⟨o, es, n, hidT_get h1 (dictFree b o es n h1 h2), h2, h3⟩
  have inB : K.In (hidT s₁.heap H) := by
    intro b o hl
    refine hidT_get (KX b o hl) ?_
    by_cases hn : H b = none
    · exact hn
    · have := just b hn
      subst this
      rw [apart hn] at hl
      cases hl
  obtain ⟨mc, l1, l2⟩ := nl
  have en : Env0 P w K mg (hidT s₁.heap H) callerA [] s₁ H := { frames := rfl, mod := ⟨inB, lift _ _ gN, ⟨mb, lift _ _ bN, bV⟩, mc, lift _ _ l1, l2⟩, bs := fun b o e => of_hidT e, bsz := Nat.le_of_eq (hidT_size _ _), funs := trivial, frf := fun b hb => absurd (show b ∈ ([] : List Addr) from hb) List.not_mem_nil, hok := ok, bare := .of_eq ng }
  have out := (F _ inB (lift _ _ gN)).run s₁ H ⟨[.ref a], []⟩ [.ref a] [.ref a] _ _ en (bind1 s₁ (.ref a)) (.cons rfl .nil) yes
  refine codeAny_mono out fun r s2 z => ?_
  match r, z with
  | .error e, z => exact z.elim
  | .ok .next, z => exact z.elim
  | .ok .brk, z => exact z.elim
  | .ok .cont, z => exact z.elim
  | .ok (.ret u), ⟨v, H2, hos, hbare, un, ok2, rv, hv⟩ =>
    have hv : v = .bl true := hv
    subst hv
    have ru : u = Value.bool true := rv
    subst ru
    refine ⟨rfl, OldK.of_keep fun b o e => ?_, hos, hbare⟩
    rcases only b with hn | ⟨ob, ys, hf⟩
    · exact un.keep b o e hn (fun z => absurd (show b ∈ ([] : List Addr) from z) List.not_mem_nil) (by simp)
    · have f2 := un.frzs b ob _ hf
      have g1 := (ok b _ hf).1
      have g2 := (ok2 b _ f2).1
      rw [e] at g1
      cases g1
      exact g2
/-- .. the script is one of the module's own lists, or is frozen -/
theorem callG {us : List Value} {ns : List Int} (KX : K.In s₁.heap) (gN : s₁.heap.Ns mainGlobals mg) (bN : s₁.heap.Ns builtinsNs mb) (bV : ∀ x : Str, x ≠ "__name__" → mb x = bootBuiltins x) (nl : s₁.heap.NoLimit) (ng : s₁.gens = #[])
    (at1 : s₁.heap.get? a = some { cls := .type "list", data := .seq us.toArray }) (are : IntsAre us ns) (fits : ns.length ≤ sizeLine) (F : ∀ base : Heap, K.In base → base.Ns mainGlobals mg → FnG P w K mg base fa fd [x] sp) (bind1 : ∀ (s : Shared) (u : Value), BindsTo s fd ⟨[u], []⟩ [(x, u)])
    (yes : ∀ H : Hp, Only H → SqL K H a (ns.map V.int) → sp [.ref a] H (fun v _ => v = .bl true) fun _ _ _ => False) :
    codeAny (model P w) callerA (.call (.ref fa) ⟨[.ref a], []⟩) (fun r s' => r = .ok (.ret (.bool true)) ∧ OldK s₁.heap s'.heap ∧ s'.os = s₁.os ∧ AllBare s'.gens) s₁ := by
  have vs := vals_ints are
  cases hk : K.lookup a with
  | some o =>
    have same := (KX a o hk).symm.trans at1
    cases same
    have e0 : Only fun _ => none := fun _ => .inl rfl
    refine callG_over (H := fun _ => none) KX gN bN bV nl ng at1 F bind1 e0 (fun b u z => nomatch z) (fun b z => absurd rfl z) (fun z => absurd rfl z) (yes _ e0 (.inr ⟨_, us.toArray, _, hk, rfl, rfl, rfl, ?_, by simpa using vs⟩))
    rw [List.size_toArray, are.length]
    exact fits
  | none =>
    let o1 : Obj := { cls := .type "list", data := .seq us.toArray }
    let H1 : Hp := fun b => if b = a then some (.frz o1 (.lst (ns.map V.int))) else none
    have at_a : H1 a = some (.frz o1 (.lst (ns.map V.int))) := if_pos rfl
    have off_a : ∀ b, b ≠ a → H1 b = none := fun b h => if_neg h
    have e1 : Only H1 := fun b => (Classical.em (b = a)).elim (fun h => .inr ⟨o1, ns.map V.int, h ▸ at_a⟩) fun h => .inl (off_a b h)
    refine callG_over (H := H1) KX gN bN bV nl ng at1 F bind1 e1 (fun b u z => ?_) (fun b z => Classical.byContradiction fun h => z (off_a b h)) (fun _ => hk) (yes _ e1 (.inl (.inr ⟨o1, at_a⟩)))
    rcases Classical.em (b = a) with h | h
    · subst h
      rw [at_a] at z
      cases z
      exact ⟨at1, by rw [List.length_map]; exact fits, us, _, vs, at1⟩
    · rw [off_a b h] at z
      cases z
end
theorem walk_ofG {l : PySem.W.OpenLaw} {n : Nat} {q : Program} {loose : List Str} {XP : (Str → Option Value) → Heap → Prop} {YP : World → Heap → Prop} {d : DefRec} {K : Params → PySem.W.Frag} {sp : World → Sp} {x : Str}
    (most1 : l.most = some n) (small : n ≤ sizeLine) (noD : d.params.defaults = []) (inK : ∀ (w : World) (h : Heap), YP w h → (K w.params).In h)
    (F : ∀ (w : World) (mg : Str → Option Value) (fa : Addr) (h : Heap), (K w.params).In h → h.Ns mainGlobals mg → mg d.name = some (.ref fa) → ∃ fd : FuncData, (∀ (s : Shared) (u : Value), BindsTo s fd ⟨[u], []⟩ [(x, u)]) ∧
      ∀ base : Heap, (K w.params).In base → base.Ns mainGlobals mg → FnG l.prog w (K w.params) mg base fa fd [x] (sp w))
    (yes : ∀ (w : World) (H : Hp) (a : Addr) (ns : List Int), ns.length ≤ n → (∀ z ∈ ns, Builtin.Int.intBits z ≤ 1048576) → Only H → SqL (K w.params) H a (ns.map V.int) → sp w [.ref a] H (fun v _ => v = .bl true) fun _ _ _ => False) :
    PySem.W.WalkO q loose XP YP l.row.toRowW d [] (fun f vs => PySem.call f vs) := by
  refine Att.attach_callB most1 noD fun w s₀ s₁ mg mb fa o pm cd doc a us ns G Y ho hd hcd found lst1 ints1 short bits bare => ?_
  obtain ⟨fd, bd, hF⟩ := F w mg fa _ (inK w _ Y) G.T.g found
  exact callG (inK w _ Y) G.T.g G.T.b G.T.builtins G.T.nolimit bare lst1 ints1 (Nat.le_trans short small) hF bd fun H o1 s1 => yes w H a ns short bits o1 s1
/-! a, b = x, y -/
def sPar (i j : Nat) (ms : MS) : G := fun r => match ms r with
  | some ([d, e], r1) => some (.nx { r1 with sl := (r1.sl.set i (some d)).set j (some e) })
  | _ => none
@[simp] theorem ev_sPar {i j : Nat} {ms : MS} {r : Rho} : sPar i j ms r = (ms r).bind fun p => match p.1 with | [d, e] => some (.nx { p.2 with sl := (p.2.sl.set i (some d)).set j (some e) }) | _ => none := by
  unfold sPar
  cases ms r with
  | none => rfl
  | some p =>
    obtain ⟨p1, p2⟩ := p
    simp only [Option.bind_some]
    split <;> simp_all
theorem fs_par {X : Cx} {i j : Nat} {x y : Str} {a b : Expr} {ms : MS} {px py pt pos : Pos} {kt k2 pt2} (hc : X.calm = true) (hN : X.N.Nodup) (hi : X.N[i]? = some x) (hj : X.N[j]? = some y) (hij : i ≠ j)
    (hx : X.env.scope.names.lookup x = some .local) (hy : X.env.scope.names.lookup y = some .local) (ha : PA X [a, b] (tFA X.K ms)) (hw : swappedStores [.Tuple [.Name x px, .Name y py] kt pt] (.Tuple [a, b] k2 pt2) X.env = pure (some [x, y]))
    (hs : swapsWithSole [.Tuple [.Name x px, .Name y py] kt pt] (.Tuple [a, b] k2 pt2) pos.line X.env = pure false := by rfl) :
    PS X (.Assign [.Tuple [.Name x px, .Name y py] kt pt] (.Tuple [a, b] k2 pt2) pos) (tFS X.K (sPar i j ms)) := PS.weak (ps_par hc hN hi hj hij hx hy ha hw hs) fun D σ H ⟨r, F, al, o, R, e1, k⟩ => by
  unfold sPar at e1
  split at e1
  · rename_i d e r1 q
    cases e1
    refine ⟨r, F, al, [d, e], r1, R, q, fun F1 al1 vs H1 x1 R1 p1 => ?_⟩
    obtain ⟨v, vr, rfl, p2, u, ur, rfl, p3, p4⟩ := p1
    have p4 : ur = [] := p4
    subst p4
    exact ⟨v, u, rfl, k F1 al1 _ H1 x1 ⟨(R1.s.set i p2).set j p3, R1.c⟩⟩
  · cases e1
/-! == of two texts -/
def eqS (neg : Bool) : Op2 := fun cl x y => match x, y with
  | .d (.str s), .d (.str t) => some (.d (.bl (sg neg (decide (s = t)))), cl)
  | _, _ => none
theorem eqS_w {K : PySem.W.Frag} {neg : Bool} {vx vy : V} {H : Hp} {Q : VK} (h : r2F K (eqS neg) vx vy H Q) : ∃ s t : Str, vx = .str s ∧ vy = .str t ∧ Q (.bl (sg neg (decide (s = t)))) H := by
  obtain ⟨cl, F, al, x, y, C, rx, ry, k⟩ := h
  obtain ⟨d, cl', e, kk⟩ := k.some
  unfold eqS at e
  split at e
  · rename_i s t
    cases e
    have rx : vx = .str s := rx
    have ry : vy = .str t := ry
    exact ⟨s, t, rx, ry, kk F al _ H (Ext.refl _ _ _) C rfl⟩
  · cases e
theorem dec_strs {s t : Str} : decide (V.str s = V.str t) = decide (s = t) := by
  by_cases h : s = t <;> simp [h]
theorem eqS_ok {X : Cx} : OpR X (compareOp .Eq) (r2F X.K (eqS false)) := OpR.weak op_eq fun vx vy H Q h => by
  obtain ⟨s, t, rfl, rfl, q⟩ := eqS_w h
  refine ⟨rfl, ?_⟩
  rw [dec_strs]
  exact q
theorem neS_ok {X : Cx} : OpR X (compareOp .NotEq) (r2F X.K (eqS true)) := OpR.weak op_ne fun vx vy H Q h => by
  obtain ⟨s, t, rfl, rfl, q⟩ := eqS_w h
  refine ⟨rfl, ?_⟩
  rw [dec_strs]
  exact q
end FL
/-! xs[::-1], f'..', x in a text -/
namespace FL
open PySem PySem.Spec L2
def dRev (c : Bool) : Op1 := fun cl x => match asList cl x with
  | some ws => fresh c ws.reverse cl
  | none => none
/-- a part of f'..' -/
def eFmt (m : M) : M := fun r => match m r with
  | some (.d (.str y), r1) => if y.length ≤ sizeLine then some (.d (.str y), r1) else none
  | some (.d (.int i), r1) => if i.natAbs.log2 < 1920 then some (.d (.str (toString i : String)), r1) else none
  | _ => none
theorem pf_fmt {X : Cx} {e : Expr} {m : M} {pos : Pos} (h : PE X e (tF X.K m)) : PE X (.FormattedValue e (-1) none pos) (tF X.K (eFmt m)) := PE.weak (pe_fmt h) fun σ H Q ⟨r, F, al, d, r', R, e1, k⟩ => by
  unfold eFmt at e1
  split at e1
  · rename_i y r1 q
    split at e1
    · rename_i hz
      cases e1
      exact ⟨r, F, al, _, _, R, q, fun F1 al1 v H1 x1 R1 p1 => by
        have p1 : v = .str y := p1
        exact .inl ⟨y, p1, hz, k F1 al1 _ H1 x1 R1 rfl⟩⟩
    · cases e1
  · rename_i i r1 q
    split at e1
    · rename_i hz
      cases e1
      exact ⟨r, F, al, _, _, R, q, fun F1 al1 v H1 x1 R1 p1 => by
        have p1 : v = .int i := p1
        exact .inr ⟨i, p1, hz, k F1 al1 _ H1 x1 R1 rfl⟩⟩
    · cases e1
  · cases e1
theorem pf_rev (c : Bool) {X : Cx} {e : Expr} {m : M} {kk : Nat} {p1 p2 p3 pos : Pos} (h : PE X e (tF X.K m)) : PE X (.Subscript e (.Slice none none (some (.UnaryOp .USub (.Constant (.int 1) kk p1) p2)) p3) pos) (tF X.K (eUn (dRev c) m)) :=
  PE.weak (pe_revL h) fun σ H Q ⟨rho, F, al, d, r', R, e1, k⟩ => by
    obtain ⟨x, r1, q1, q3⟩ := eUn_some e1
    obtain ⟨c1, q4, rfl⟩ := lift1_some q3
    refine ⟨rho, F, al, x, r1, R, q1, fun F1 al1 vx H1 x1 R1 pp => ?_⟩
    have post : PostV X.K F1 al1 H1 Q (some (d, c1)) := post_of R1.s fun F' al' v H' x3 R3 p3 => k F' al' v H' (x1.trans x3) R3 p3
    rw [← q4] at post
    unfold dRev at post q4
    split at q4
    · rename_i ws ew
      rw [ew] at post
      obtain ⟨a, vs, rfl, h1, h2⟩ := asList_ok R1.c pp ew
      refine ⟨a, vs, rfl, h1, fun p hp => ?_⟩
      exact fresh_ok post R1.c h2.rev hp
    · cases q4
/-- a text in a text -/
def inT (neg : Bool) : Op2 := fun cl x y => match x, y with
  | .d (.str s), .d (.str t) => some (.d (.bl (sg neg (!(Builtin.Str.occurrences t s 0 t.length 1).isEmpty))), cl)
  | _, _ => none
theorem inT_ok {X : Cx} : OpR X (compareOp .In) (r2F X.K (inT false)) := OpR.weak op_in_str fun vx vy H Q h => by
  obtain ⟨cl, F, al, x, y, C, rx, ry, k⟩ := h
  obtain ⟨d, cl', e, kk⟩ := k.some
  unfold inT at e
  split at e
  · rename_i s t
    cases e
    have rx : vx = .str s := rx
    have ry : vy = .str t := ry
    exact ⟨s, t, rx, ry, kk F al _ H (Ext.refl _ _ _) C rfl⟩
  · cases e
/-! f'..' -/
def eJoinA : List M → Str → Rho → Option (Str × Rho)
  | [], acc, r => some (acc, r)
  | m :: ms, acc, r => match m r with
    | some (.d (.str y), r1) => if (acc ++ y).length ≤ sizeLine then eJoinA ms (acc ++ y) r1 else none
    | _ => none
def eJoin (ms : List M) : M := fun r => (eJoinA ms Str.empty r).map fun p => (.d (.str p.1), p.2)
theorem w_join {K : PySem.W.Frag} : ∀ (ms : List M) (acc : Str) (σ : L2.St) (H : Hp) (Q : Str → Hp → Prop), (∃ r F al out r', Rel K r F al σ H ∧ eJoinA ms acc r = some (out, r') ∧ ∀ F1 al1 H1, Ext F al H F1 al1 H1 → Rel K r' F1 al1 σ H1 → Q out H1) → tJs (ms.map (tF K)) acc σ H Q
  | [], acc, σ, H, Q, ⟨r, F, al, out, r', R, e, k⟩ => by
    cases e
    exact k F al H (Ext.refl _ _ _) R
  | m :: ms, acc, σ, H, Q, ⟨r, F, al, out, r', R, e, k⟩ => by
    unfold eJoinA at e
    split at e
    · rename_i y r1 q
      split at e
      · rename_i hz
        exact ⟨r, F, al, _, _, R, q, fun F1 al1 v H1 x1 R1 p1 => by
          have p1 : v = .str y := p1
          exact ⟨y, p1, hz, w_join ms (acc ++ y) σ H1 Q ⟨r1, F1, al1, out, r', R1, e, fun F2 al2 H2 x2 R2 => k F2 al2 H2 (x1.trans x2) R2⟩⟩⟩
      · cases e
    · cases e
theorem pj_nil {X : Cx} : PJ X [] (([] : List M).map (tF X.K)) := .nil
theorem pj_cons {X : Cx} {e : Expr} {m : M} {es : List Expr} {ms : List M} (h : PE X e (tF X.K m)) (r : PJ X es (ms.map (tF X.K))) : PJ X (e :: es) ((m :: ms).map (tF X.K)) := .cons h r
theorem pf_join {X : Cx} {v1 v2 : Expr} {rest : List Expr} {ms : List M} {pos : Pos} (h : PJ X (v1 :: v2 :: rest) (ms.map (tF X.K))) : PE X (.JoinedStr (v1 :: v2 :: rest) pos) (tF X.K (eJoin ms)) := PE.weak (pe_joined h) fun σ H Q ⟨r, F, al, d, r', R, e, k⟩ => by
  unfold eJoin at e
  obtain ⟨p, e1, e2⟩ := Option.map_eq_some_iff.mp e
  cases e2
  exact w_join ms Str.empty σ H _ ⟨r, F, al, p.1, p.2, R, e1, fun F1 al1 H1 x1 R1 => k F1 al1 _ H1 x1 R1 rfl⟩
end FL
/-! own != by own == -/
namespace FL
open PySem PySem.Spec L2 PySem.W
section
variable {prog : Program} {w : World} {A : Around} {E : Value → Shared → Prop} {s : Shared} {K : PySem.W.Frag} {x C f : Addr} {ox : Obj} {od : Option Obj} {b tb : Value}
theorem objNe_K (X : K.In s.heap) (I : InstAt s.heap x ox C od) (hs : findIn K (.ref C) "__eq__" = some (some (.ref f))) (hf : isFn K (.ref f) = true) (hu : A.units < cLine) {Q : Fin → Shared → Prop}
    (own : wpAny (model prog w) A (call (.ref f) [.ref x, b]) (fun v s' => ∃ k, v = .bool k ∧ Q (.done (.ret (.bool (!k)))) s') E s) : wpAny (model prog w) A (Builtin.«object.__ne__» ⟨[.ref x, b], []⟩) Q E s := by
  unfold Builtin.«object.__ne__»
  have one : wpAny (model prog w) A (callSpecialIfBound? (.ref x) (Str.ofString "__eq__") [b]) (fun r s' => ∃ k, r = some (.bool k) ∧ Q (.done (.ret (.bool (!k)))) s') E s := ifBound_K X I hs hf (wpAny_mono own (fun v s' z => by
    obtain ⟨k, rfl, q⟩ := z
    exact ⟨k, rfl, q⟩) fun _ _ e => e)
  repeat (first
    | with_reducible refine wpAny_cRoomFor hu ?_
    | (refine wpAny_bind (m := callSpecialIfBound? (.ref x) (Str.ofString "__eq__") [b]) (wpAny_mono one (fun r s' z => ?_) fun _ _ e => e); obtain ⟨k, rfl, q⟩ := z)
    | exact q
    | exact wpAny_pure q
    | exact wpAny_truthy_bool q
    | (refine wpAny_bind (m := truthy (.bool _)) (wpAny_truthy_bool ?_))
    | wp_step)
theorem neSlot : Slot "object" "__ne__" "object.__ne__" := PySem.F.cmp_object.ne
/-- object.__ne__ is called on an instance -/
theorem callNe_K (X : K.In s.heap) (I : InstAt s.heap x ox C od) (hp : plainOver K C = true) (hs : findIn K (.ref C) "__eq__" = some (some (.ref f))) (hf : isFn K (.ref f) = true) (hu : A.units + 1 < cLine) {Q : Value → Shared → Prop}
    (own : wpAny (model prog w) A.in1 (call (.ref f) [.ref x, b]) (fun v s' => ∃ k, v = .bool k ∧ Q (.bool (!k)) s') E s) : wpAny (model prog w) A (call (.builtin "object.__ne__") [.ref x, b]) Q E s := by
  obtain ⟨cd, hc, ho⟩ := any_some hp
  have ne : cd.mro.isEmpty = false := by cases q : cd.mro with | nil => rw [q] at ho; cases ho | cons _ _ => rfl
  have sub : Looks (model prog w) s.heap (isInstance (.ref x) (.type "object")) true := I.type.andThen (looks_mroIn X (by unfold mroIn; rw [hc, Option.bind_some, if_neg (by rw [ne]; decide), only_has ho]))
  refine wpAny_call (codeAny_call_builtin neSlot.plain PySem.F.cmpEntry_ne (check_slot PySem.F.cmpKind_ne PySem.F.cmpSplit_ne sub (PySem.F.cmpArgs_ne _ _) ?_))
  refine objNe_K X I hs hf (by show A.units + 1 < cLine; exact hu) (wpAny_mono own (fun v s' z => ?_) fun _ _ e => e)
  obtain ⟨k, rfl, q⟩ := z
  exact ⟨k, rfl, q⟩
theorem bindNe (self : Value) : bindSpecial (.builtin "object.__ne__") self = pure (.builtin "object.__ne__", [self]) := neSlot.bind self
theorem ifBoundNe_K {M : Model} {args : List Value} {Q : Option Value → Shared → Prop} (X : K.In s.heap) (I : InstAt s.heap x ox C od) (hs : findIn K (.ref C) "__ne__" = some (some (.builtin "object.__ne__")))
    (h : wpAny M A (call (.builtin "object.__ne__") (.ref x :: args)) (fun v => Q (some v)) E s) : wpAny M A (callSpecialIfBound? (.ref x) "__ne__" args) Q E s := by
  simp only [callSpecialIfBound?, bindSpecialIfBound?]
  refine wpAny_holding (wpAny_bind (wpAny_bind (wpAny_bind (I.type.here ((looks_findIn X hs).here ?_)))))
  refine wpAny_bind (wpAny_askSetting (wpAny_ite ?_))
  have last : wpAny M A (call (.builtin "object.__ne__") ([.ref x] ++ args) >>= fun v => pure (some v)) Q E s := wpAny_bind (wpAny_mono h (fun v s' z => wpAny_pure z) fun _ _ e => e)
  split
  · rw [bindNe]
    exact wpAny_bind (wpAny_pure (wpAny_pure last))
  · rw [bindNe]
    exact wpAny_tryCatch (wpAny_bind (wpAny_pure (wpAny_pure last)))
theorem cmpNe_K (hu : A.units + 1 < cLine) (X : K.In s.heap) (I : InstAt s.heap x ox C od) (hp : plainOver K C = true) (hb : Looks (model prog w) s.heap (typeOf b) tb) (hn : notFirst K C tb = true) (hne : findIn K (.ref C) "__ne__" = some (some (.builtin "object.__ne__")))
    (hs : findIn K (.ref C) "__eq__" = some (some (.ref f))) (hf : isFn K (.ref f) = true) {Q : Value → Shared → Prop} (own : wpAny (model prog w) A.in1 (call (.ref f) [.ref x, b]) (fun v s' => ∃ k, v = .bool k ∧ Q (.bool (!k)) s') E s) :
    wpAny (model prog w) A (richCompare .NotEq (.ref x) b) Q E s := by
  have tried : wpAny (model prog w) A (tryCompare (.ref x) "__ne__" b) (fun r s' => ∃ k, r = some (.bool k) ∧ Q (.bool k) s') E s := by
    unfold tryCompare
    refine wpAny_bind (ifBoundNe_K X I hne (callNe_K X I hp hs hf hu (wpAny_mono own (fun v s' z => ?_) fun _ _ e => e)))
    obtain ⟨k, rfl, q⟩ := z
    exact ⟨k, rfl, wpAny_pure ⟨_, rfl, q⟩⟩
  unfold richCompare
  simp only [oneThing_ref]
  refine wpAny_holding (wpAny_bind (wpAny_cRoomFor (by omega) ?_))
  rw [cmpInfo_NotEq]
  dsimp only
  refine wpAny_bind (I.type.here (wpAny_bind (hb.here ?_)))
  have past : ∀ M' : Option Value → Sem Value, (∀ k s', Q (.bool k) s' → wpAny (model prog w) A (M' (some (.bool k))) Q E s') → wpAny (model prog w) A (tryCompare (.ref x) "__ne__" b >>= M') Q E s := fun M' h => wpAny_bind (wpAny_mono tried (fun r s' z => by
    obtain ⟨k, rfl, q⟩ := z
    exact h k s' q) fun _ _ e => e)
  split
  · rename_i diff
    have apart : subIn K tb (.ref C) = some false := by
      rcases Bool.or_eq_true_iff.mp hn with e | e
      · rw [beq_iff_eq.mp e] at diff
        simp at diff
      · exact beq_iff_eq.mp e
    refine wpAny_bind ((looks_subIn X apart).here ?_)
    simp only [Bool.false_eq_true, if_false]
    exact past _ fun k s' q => wpAny_pure q
  · refine wpAny_bind (wpAny_pure ?_)
    simp only [Bool.false_eq_true, if_false]
    exact past _ fun k s' q => wpAny_pure q
end
section
variable {X : Cx} {C fa : Addr} {fd : FuncData} {ps : List Str} {k : Nat} {g : OpN}
/-- x != y, both of the own class -/
def dNeI (C : Addr) (c : Bool) (g : OpN) : Op2 := fun cl x y => match insW C cl x, insW C cl y with
  | some _, some _ => match callC c g cl [x, y] with
    | some (.d (.bl b), cl') => some (.d (.bl (!b)), cl')
    | _ => none
  | _, _ => none
theorem neI_ok (c : Bool) (hp : PySem.W.plainOver X.K C = true) (hne : PySem.W.findIn X.K (.ref C) "__ne__" = some (some (.builtin "object.__ne__"))) (hs : PySem.W.findIn X.K (.ref C) "__eq__" = some (some (.ref fa))) (hf : PySem.W.isFn X.K (.ref fa) = true) (F : FnOk X.prog X.w X.K X.mg X.base CX0 k fa fd ps (spF X.K 2 g)) (hr : Room (k + 1) X.A) (hb : Binds X.K fd ps []) :
    OpR X (compareOp .NotEq) (r2F X.K (dNeI C c g)) := by
  intro pins s σ H vx vy v u Q I rvx rvy h
  obtain ⟨cl, Fz, al, x0, y0, Cs, rx, ry, kk⟩ := h
  obtain ⟨d, cl', e, k2⟩ := kk.some
  unfold dNeI at e
  split at e
  · rename_i px py hi hj
    obtain ⟨a, dx, fvs, rfl, h1, h2, h3⟩ := insW_ok (fs := px.1) (ws := px.2) Cs rx hi
    obtain ⟨b, dy, gvs, rfl, h4, h5, h6⟩ := insW_ok (fs := py.1) (ws := py.2) Cs ry hj
    cases rvx
    cases rvy
    split at e
    · rename_i bb c0 hcall
      cases e
      obtain ⟨mA, J, _⟩ := ins_get I.hok h1
      obtain ⟨mB, J', _⟩ := ins_get I.hok h4
      obtain ⟨od, J, _⟩ := J.look
      obtain ⟨od', J', _⟩ := J'.look
      have hr' := hr.in1
      show wpAny (model X.prog X.w) X.A (richCompare .NotEq (.ref a) (.ref b)) (EP X pins σ Q) X.xe s
      refine cmpNe_K (tb := .ref C) (by have := hr.un; omega) I.kIn J hp J'.type (by simp [PySem.W.notFirst]) hne hs hf ?_
      have hsp : spF X.K 2 g [.ref a, .ref b] H (fun v H' => v = .bl bb ∧ Q (.bl (!bb)) H') E0 := w_spC c rfl ⟨cl, Fz, al, [x0, y0], Cs, ⟨_, _, rfl, rx, _, _, rfl, ry, rfl⟩, by
        rw [hcall]
        intro F' al' v H' x3 C3 p3
        have p3 : v = .bl bb := p3
        subst p3
        exact ⟨rfl, k2 F' al' _ H' x3 C3 rfl⟩⟩
      have hl := F.len _ _ _ _ hsp
      refine wpAny_call (codeAny_mono (F.run X.A.in1 X.stack s H ⟨[.ref a, .ref b], []⟩ [.ref a, .ref b] [.ref a, .ref b] _ E0 hr' I.env0.in1 (by
        have := hb s [.ref a, .ref b] I.kIn (by simpa using hl)
        simpa using this) (.cons rfl (.cons rfl .nil)) hsp) fun r s' hq => ?_)
      cases r with
      | error e => exact (show False from hq).elim
      | ok fl =>
        cases fl with
        | ret w =>
          obtain ⟨z, H', I', rz, ez, q⟩ := I.after hq
          subst ez
          cases rz
          exact ⟨bb, rfl, .bl (!bb), H', I', rfl, q⟩
        | next => exact False.elim hq
        | brk => exact False.elim hq
        | cont => exact False.elim hq
    · cases e
  · cases e
end
end FL
/-! isinstance and == where the other one is no instance -/
namespace FL
open PySem PySem.Spec L2
def tyX (cl : List Cell) (x : W) : Option String := match tyW cl x with
  | some t => some t
  | none => match asTupP x with
    | some _ => some "tuple"
    | none => none
theorem tyX_ok {K : PySem.W.Frag} {cl : List Cell} {F : Hp} {al : List Addr} {H : Hp} (C : Cells K cl F al H) {x : W} {v : V} (r : Rep K F al x v) {t : String} (h : tyX cl x = some t) : TyX K H v (.type t) := by
  unfold tyX at h
  split at h
  · rename_i t' e
    cases h
    exact tyW_ok C r e
  · split at h
    · rename_i ws e
      cases h
      unfold asTupP at e
      split at e
      · cases e
        obtain ⟨a, vs, rfl, h1, _⟩ := r
        exact .base (.tup (C.fh _ _ h1))
      · cases e
        obtain ⟨a, vs, rfl, h1, _⟩ := r
        exact .base (.tup (C.fh _ _ h1))
      · cases e
    · cases h
def kinds : List String := ["NoneType", "bool", "int", "str", "list", "dict", "tuple"]
theorem tyX_in {cl : List Cell} {x : W} {t : String} (h : tyX cl x = some t) : t ∈ kinds := by
  unfold tyX at h
  split at h
  · rename_i t' e
    cases h
    unfold tyW at e
    split at e <;> first | (cases e; decide) | (split at e <;> first | (cases e; decide) | cases e) | cases e
  · split at h
    · cases h
      decide
    · cases h
/-- no value of these kinds is an instance of C, nor goes ahead of it in a comparison -/
structure NotC (K : PySem.W.Frag) (C : Addr) : Prop where
  kit : ∀ t ∈ kinds, PySem.W.kitOne K (.type t) (.ref C) = some false
  nf : ∀ t ∈ kinds, PySem.W.notFirst K C (.type t) = true
def oIsiO (C : Addr) : OpN := fun cl ds => match ds with
  | [x, .d (.op (.ref C'))] => if C' = C then match tyX cl x with
      | some _ => some (.d (.bl false), cl)
      | none => oIsiC C cl ds
    else none
  | _ => none
theorem isiO_ok {X : Cx} {C : Addr} (c : IsC X.K C) (n : NotC X.K C) : CallR X (.builtin "isinstance") (rNF X.K (oIsiO C)) := by
  intro pins s σ H xs us Q I r h
  have h0 := h
  obtain ⟨cl, F, al, ds, Cs, rs, k⟩ := h
  obtain ⟨d, cl', e, kk⟩ := k.some
  unfold oIsiO at e
  split at e
  · rename_i x C'
    split at e
    · rename_i hC
      subst hC
      split at e
      · rename_i t ht
        cases e
        refine call_isi pins s σ H xs us Q I r ?_
        obtain ⟨v, vr, rfl, r1, v2, vr2, rfl, r2, r0⟩ := rs
        have r0 : vr2 = [] := r0
        have r2 : v2 = .ref C' := r2
        subst r0 r2
        exact ⟨v, .ref C', .type t, .ref C', false, rfl, .own C', tyX_ok Cs r1 ht, n.kit t (tyX_in ht), kk F al _ H (Ext.refl _ _ _) Cs rfl⟩
      · exact isiC_ok c pins s σ H xs us Q I r ⟨cl, F, al, _, Cs, rs, by rw [e]; exact kk⟩
    · cases e
  · cases e
section
variable {X : Cx} {C fa : Addr} {fd : FuncData} {ps : List Str} {k : Nat} {g : OpN}
/-- the right one: an instance too, or of the kinds above -/
def sideW (C : Addr) (cl : List Cell) (y : W) : Bool := (insW C cl y).isSome || (tyX cl y).isSome
def dEqO (neg : Bool) (C : Addr) (c : Bool) (g : OpN) : Op2 := fun cl x y => match insW C cl x with
  | some _ => if sideW C cl y then match callC c g cl [x, y] with
      | some (.d (.bl b), cl') => some (.d (.bl (if neg then !b else b)), cl')
      | _ => none
    else none
  | none => none
theorem side_ok {pins : List (Addr × Obj)} {s : Shared} {σ : L2.St} {H : Hp} (n : NotC X.K C) (I : Inv X pins σ H s) {cl : List Cell} {F : Hp} {al : List Addr} (Cs : Cells X.K cl F al H) {y : W} {vy : V} {u : Value} (ry : Rep X.K F al y vy) (rv : RelV vy u) (h : sideW C cl y = true) :
    ∃ tb, PySem.W.Looks (model X.prog X.w) s.heap (typeOf u) tb ∧ PySem.W.notFirst X.K C tb = true := by
  unfold sideW at h
  cases hy : insW C cl y with
  | some p =>
    obtain ⟨b, dy, gvs, rfl, h4, _, _⟩ := insW_ok (fs := p.1) (ws := p.2) Cs ry hy
    cases rv
    obtain ⟨_, J', _⟩ := ins_get I.hok h4
    obtain ⟨_, J', _⟩ := J'.look
    exact ⟨.ref C, J'.type, by simp [PySem.W.notFirst]⟩
  | none =>
    rw [hy] at h
    obtain ⟨t, ht⟩ := Option.isSome_iff_exists.mp (by simpa using h)
    obtain ⟨P, Z, p, _⟩ := kit_of I rv (tyX_ok Cs ry ht)
    exact ⟨.type t, Z.ty _ _ I.kIn p, n.nf t (tyX_in ht)⟩
theorem eqO_ok (c : Bool) (n : NotC X.K C) (hs : PySem.W.findIn X.K (.ref C) "__eq__" = some (some (.ref fa))) (hf : PySem.W.isFn X.K (.ref fa) = true) (F : FnOk X.prog X.w X.K X.mg X.base CX0 k fa fd ps (spF X.K 2 g)) (hr : Room k X.A) (hb : Binds X.K fd ps []) :
    OpR X (compareOp .Eq) (r2F X.K (dEqO false C c g)) := by
  intro pins s σ H vx vy v u Q I rvx rvy h
  obtain ⟨cl, Fz, al, x0, y0, Cs, rx, ry, kk⟩ := h
  obtain ⟨d, cl', e, k2⟩ := kk.some
  unfold dEqO at e
  split at e
  · rename_i px hi
    split at e
    · rename_i sd
      split at e
      · rename_i bb c0 hcall
        cases e
        obtain ⟨a, dx, fvs, rfl, h1, h2, h3⟩ := insW_ok (fs := px.1) (ws := px.2) Cs rx hi
        obtain ⟨tb, lt, nf⟩ := side_ok n I Cs ry rvy sd
        cases rvx
        obtain ⟨mA, J, _⟩ := ins_get I.hok h1
        obtain ⟨od, J, _⟩ := J.look
        obtain ⟨mf, hF⟩ := I.fr
        show wpAny (model X.prog X.w) X.A (richCompare .Eq (.ref a) u) (EP X pins σ Q) X.xe s
        refine PySem.W.cmp_K (op := .Eq) (tb := tb) hr.units0 hF I.ok.mod.kin J lt nf hs hf ?_
        have hsp : spF X.K 2 g [.ref a, vy] H (fun v H' => v = .bl bb ∧ Q (.bl bb) H') E0 := w_spC c rfl ⟨cl, Fz, al, [x0, y0], Cs, ⟨_, _, rfl, rx, _, _, rfl, ry, rfl⟩, by
          rw [hcall]
          intro F' al' v H' x3 C3 p3
          have p3 : v = .bl bb := p3
          subst p3
          exact ⟨rfl, k2 F' al' _ H' x3 C3 rfl⟩⟩
        have hl := F.len _ _ _ _ hsp
        refine wpAny_call (codeAny_mono (F.run X.A X.stack s H ⟨[.ref a, u], []⟩ [.ref a, u] [.ref a, vy] _ E0 hr I.env0 (by
          have := hb s [.ref a, u] I.kIn (by simpa using hl)
          simpa using this) (.cons rfl (.cons rvy .nil)) hsp) fun r s' hq => ?_)
        cases r with
        | error e => exact (show False from hq).elim
        | ok fl =>
          cases fl with
          | ret w =>
            obtain ⟨z, H', I', rz, ez, q⟩ := I.after hq
            subst ez
            cases rz
            exact ⟨.bl bb, H', I', rfl, q⟩
          | next => exact False.elim hq
          | brk => exact False.elim hq
          | cont => exact False.elim hq
      · cases e
    · cases e
  · cases e
theorem neO_ok (c : Bool) (n : NotC X.K C) (hp : PySem.W.plainOver X.K C = true) (hne : PySem.W.findIn X.K (.ref C) "__ne__" = some (some (.builtin "object.__ne__"))) (hs : PySem.W.findIn X.K (.ref C) "__eq__" = some (some (.ref fa))) (hf : PySem.W.isFn X.K (.ref fa) = true) (F : FnOk X.prog X.w X.K X.mg X.base CX0 k fa fd ps (spF X.K 2 g)) (hr : Room (k + 1) X.A) (hb : Binds X.K fd ps []) :
    OpR X (compareOp .NotEq) (r2F X.K (dEqO true C c g)) := by
  intro pins s σ H vx vy v u Q I rvx rvy h
  obtain ⟨cl, Fz, al, x0, y0, Cs, rx, ry, kk⟩ := h
  obtain ⟨d, cl', e, k2⟩ := kk.some
  unfold dEqO at e
  split at e
  · rename_i px hi
    split at e
    · rename_i sd
      split at e
      · rename_i bb c0 hcall
        cases e
        obtain ⟨a, dx, fvs, rfl, h1, h2, h3⟩ := insW_ok (fs := px.1) (ws := px.2) Cs rx hi
        obtain ⟨tb, lt, nf⟩ := side_ok n I Cs ry rvy sd
        cases rvx
        obtain ⟨mA, J, _⟩ := ins_get I.hok h1
        obtain ⟨od, J, _⟩ := J.look
        have hr' := hr.in1
        show wpAny (model X.prog X.w) X.A (richCompare .NotEq (.ref a) u) (EP X pins σ Q) X.xe s
        refine cmpNe_K (tb := tb) (by have := hr.un; omega) I.kIn J hp lt nf hne hs hf ?_
        have hsp : spF X.K 2 g [.ref a, vy] H (fun v H' => v = .bl bb ∧ Q (.bl (!bb)) H') E0 := w_spC c rfl ⟨cl, Fz, al, [x0, y0], Cs, ⟨_, _, rfl, rx, _, _, rfl, ry, rfl⟩, by
          rw [hcall]
          intro F' al' v H' x3 C3 p3
          have p3 : v = .bl bb := p3
          subst p3
          exact ⟨rfl, k2 F' al' _ H' x3 C3 rfl⟩⟩
        have hl := F.len _ _ _ _ hsp
        refine wpAny_call (codeAny_mono (F.run X.A.in1 X.stack s H ⟨[.ref a, u], []⟩ [.ref a, u] [.ref a, vy] _ E0 hr' I.env0.in1 (by
          have := hb s [.ref a, u] I.kIn (by simpa using hl)
          simpa using this) (.cons rfl (.cons rvy .nil)) hsp) fun r s' hq => ?_)
        cases r with
        | error e => exact (show False from hq).elim
        | ok fl =>
          cases fl with
          | ret w =>
            obtain ⟨z, H', I', rz, ez, q⟩ := I.after hq
            subst ez
            cases rz
            exact ⟨bb, rfl, .bl (!bb), H', I', rfl, q⟩
          | next => exact False.elim hq
          | brk => exact False.elim hq
          | cont => exact False.elim hq
      · cases e
    · cases e
  · cases e
end
end FL
/-! C(k = v, ..) -/
namespace FL
open PySem PySem.Spec L2
def perm {α : Type} (js : List Nat) (xs : List α) : List α := js.filterMap fun j => xs[j]?
theorem Reps.at_n {K : PySem.W.Frag} {F : Hp} {al : List Addr} : ∀ {xs : List W} {vs : List V}, Reps K F al xs vs → ∀ j : Nat, (xs[j]? = none ∧ vs[j]? = none) ∨ ∃ x v, xs[j]? = some x ∧ vs[j]? = some v ∧ Rep K F al x v
  | [], vs, h, j => by
    have h : vs = [] := h
    subst h
    exact .inl ⟨rfl, rfl⟩
  | x :: xs, vs, h, 0 => by
    obtain ⟨v, r, rfl, h1, h2⟩ := h
    exact .inr ⟨x, v, rfl, rfl, h1⟩
  | x :: xs, vs, h, j + 1 => by
    obtain ⟨v, r, rfl, h1, h2⟩ := h
    exact Reps.at_n h2 j
theorem Reps.perm {K : PySem.W.Frag} {F : Hp} {al : List Addr} {xs : List W} {vs : List V} (h : Reps K F al xs vs) : ∀ js : List Nat, Reps K F al (FL.perm js xs) (FL.perm js vs)
  | [] => rfl
  | j :: js => by
    have ih := Reps.perm h js
    rcases h.at_n j with ⟨e1, e2⟩ | ⟨x, v, e1, e2, r⟩
    · simp only [FL.perm, List.filterMap_cons, e1, e2] at ih ⊢
      exact ih
    · simp only [FL.perm, List.filterMap_cons, e1, e2] at ih ⊢
      exact ⟨v, _, rfl, r, ih⟩
theorem vals_at : ∀ {vs : List V} {us : List Value}, Vals vs us → ∀ j : Nat, (vs[j]? = none ∧ us[j]? = none) ∨ ∃ v u, vs[j]? = some v ∧ us[j]? = some u ∧ RelV v u
  | _, _, .nil, j => .inl ⟨rfl, rfl⟩
  | _, _, .cons r t, 0 => .inr ⟨_, _, rfl, rfl, r⟩
  | _, _, .cons r t, j + 1 => vals_at t j
theorem vals_perm {vs : List V} {us : List Value} (h : Vals vs us) : ∀ js : List Nat, Vals (perm js vs) (perm js us)
  | [] => .nil
  | j :: js => by
    have ih := vals_perm h js
    rcases vals_at h j with ⟨e1, e2⟩ | ⟨v, u, e1, e2, r⟩
    · simp only [perm, List.filterMap_cons, e1, e2] at ih ⊢
      exact ih
    · simp only [perm, List.filterMap_cons, e1, e2] at ih ⊢
      exact .cons r ih
/-- how keywords bind: the first n by place, the others in the order js -/
theorem kb_of {K : PySem.W.Frag} {x qual : Str} {st : Stmt} {f : Addr} {fd : FuncData} {ps ks : List Str} {n : Nat} (F : Fun K x qual st f fd) (js : List Nat)
    (h : ∀ (kV doc pm : Value) (an : Option Addr) (cdv ct : Value) (us ws : List Value), us.length = n → ws.length = ks.length → bindArgs (PySem.W.fnOf x qual (defArgs st) (defBody st) (defScope st) .none kV doc pm an cdv ct) ⟨us, ks.zip ws⟩ = pure (ps.zip (us ++ perm js ws))) :
    KBn K fd ps n ks (fun us ws => us ++ perm js ws) (fun vs zs => vs ++ perm js zs) := by
  obtain ⟨oc, od, kV, doc, pm, an, cdv, ct, osl, rfl, lk, hcd⟩ := F.ex
  exact ⟨fun s us ws _ l1 l2 => .of_eq (h kV doc pm an cdv ct us ws l1 l2), fun r1 r2 => r1.append (vals_perm r2 js)⟩
section
variable {X : Cx} {k n : Nat} {fa C : Addr} {fd : FuncData} {ps ks : List Str} {x : Str} {p pos : Pos} {kws : List Keyword} {g : OpN} {ms : MS}
theorem PK.weak {t t' : TA} (h : PK X kws t) (w : ∀ σ H Q, t' σ H Q → t σ H Q) : PK X kws t' := ⟨fun pos pins s σ H Q I q => h.run pos pins s σ H Q I (w σ H Q q)⟩
theorem fk_nil : PK X [] (tFA X.K aNil) := PK.weak pk_nil fun σ H Q ⟨r, F, al, d, r', R, e1, k⟩ => by
  have e1 : some ([], r) = some (d, r') := e1
  cases e1
  exact k F al [] H (Ext.refl _ _ _) R rfl
theorem fk_cons {nm : Option Str} {e : Expr} {kpos : Pos} {m : M} (ha : PE X e (tF X.K m)) (hr : PK X kws (tFA X.K ms)) : PK X (⟨nm, e, kpos⟩ :: kws) (tFA X.K (aCons m ms)) := PK.weak (pk_cons ha hr) fun σ H Q ⟨r, F, al, d, r', R, e1, k⟩ => by
  obtain ⟨y, r1, ys, q1, q2, rfl⟩ := aCons_some e1
  exact ⟨r, F, al, y, r1, R, q1, fun F1 al1 vx H1 x1 R1 p1 => ⟨r1, F1, al1, ys, r', R1, q2, fun F2 al2 vs H2 x2 R2 p2 => k F2 al2 _ H2 (x1.trans x2) R2 ⟨_, _, rfl, x2.rep p1, p2⟩⟩⟩
def permO (js : List Nat) (g : OpN) : OpN := fun cl ds => g cl (perm js ds)
theorem pf_makeK (js : List Nat) (Mk1 : Mk X.K C fa) (F : FnOk X.prog X.w X.K X.mg X.base CX0 k fa fd ps (spF X.K n g)) (hr : Room (k + 1) X.A) (hg : Gl X x) (hm : X.mg x = some (.ref C)) (hb : KBn X.K fd ps 1 ks (fun us ws => us ++ perm js ws) (fun vs zs => vs ++ perm js zs))
    (hkw : PK X kws (tFA X.K ms)) (al1 : ALen ms ks.length) (hn : ∀ zs : List V, zs.length = ks.length → (perm js zs).length + 1 = n)
    (hall : (backToKw pos (keywordEach kws X.env)).all (·.1.isSome) = true := by rfl) (hks : (backToKw pos (keywordEach kws X.env)).filterMap (·.1) = ks := by rfl) (hdb : (x == ("__debug__" : Str)) = false := by decide)
    (hpl : ((backTo pos (starEach [] X.env)).any (·.1) || (backToKw pos (keywordEach kws X.env)).any (·.1.isNone)) = false := by rfl) :
    PE X (.Call (.Name x p) [] kws pos) (tF X.K (eCall (permO js (oMake C g)) ms)) := by
  refine PE.weak (pe_makeK0 (E := E0) Mk1 F hr hg hm hb pass0 hkw hall hks hdb hpl) fun σ H Q ⟨rho, F0, al0, d, r', R, e1, kk⟩ => ?_
  obtain ⟨xs, r1, q1, q3⟩ := eCall_some e1
  obtain ⟨cc, q4, rfl⟩ := liftN_some q3
  have hl := al1 _ _ _ q1
  refine ⟨rho, F0, al0, xs, r1, R, q1, fun F1 al1 zs H1 x1 R1 p1 => ⟨rfl, by rw [p1.length]; exact hl, ?_⟩⟩
  have q4 : oMake C g r1.cl (perm js xs) = some (d, cc) := q4
  refine make_sp (hn zs (by rw [p1.length]; exact hl)) ⟨r1.cl, F1, al1, perm js xs, R1.c, p1.perm js, ?_⟩
  rw [q4]
  exact post_of R1.s fun F' al' v H' x3 R3 p3 => kk F' al' v H' (x1.trans x3) R3 p3
end
/-! repr of an own instance -/
def oReprI (C : Addr) (c : Bool) (g : OpN) : OpN := fun cl ds => match ds with
  | [x] => match insW C cl x with
    | some _ => match callC c g cl [x] with
      | some (.d (.str z), cl') => some (.d (.str z), cl')
      | _ => none
    | none => none
  | _ => none
section
variable {X : Cx} {C fa : Addr} {fd : FuncData} {ps : List Str} {k : Nat} {g : OpN}
theorem reprI_ok (c : Bool) (hs : PySem.W.findIn X.K (.ref C) "__repr__" = some (some (.ref fa))) (hf : PySem.W.isFn X.K (.ref fa) = true) (F : FnOk X.prog X.w X.K X.mg X.base CX0 k fa fd ps (spF X.K 1 g)) (hr : Room (k + 1) X.A) (hb : Binds X.K fd ps []) :
    CallR X (.builtin "repr") (rNF X.K (oReprI C c g)) := by
  intro pins s σ H vs us Q I rv h
  obtain ⟨cl, Fz, al, ds, Cs, rs, kk⟩ := h
  obtain ⟨d, cl', e, k2⟩ := kk.some
  unfold oReprI at e
  split at e
  · rename_i x0
    obtain ⟨v, vr, rfl, rx, r0⟩ := rs
    have r0 : vr = [] := r0
    subst r0
    split at e
    · rename_i pr hi
      obtain ⟨a, dx, fvs, rfl, h1, h2, h3⟩ := insW_ok (fs := pr.1) (ws := pr.2) Cs rx hi
      obtain ⟨u, rfl, ru⟩ := vals1 rv
      cases ru
      split at e
      · rename_i z0 c0 hcall
        cases e
        obtain ⟨mA, J, _⟩ := ins_get I.hok h1
        obtain ⟨od, J, _⟩ := J.look
        obtain ⟨mf, hF⟩ := I.fr
        refine PySem.W.repr_K (by have := hr.in1.un; omega) hF I.ok.mod.kin J hs hf ?_
        have hsp : spF X.K 1 g [.ref a] H (fun v H' => v = .str z0 ∧ Q (.str z0) H') E0 := w_spC c rfl ⟨cl, Fz, al, [x0], Cs, ⟨_, _, rfl, rx, rfl⟩, by
          rw [hcall]
          intro F' al' v H' x3 C3 p3
          have p3 : v = .str z0 := p3
          subst p3
          exact ⟨rfl, k2 F' al' _ H' x3 C3 rfl⟩⟩
        have hl := F.len _ _ _ _ hsp
        refine wpAny_call (codeAny_mono (F.run X.A.in1 X.stack s H ⟨[.ref a], []⟩ [.ref a] [.ref a] _ E0 hr.in1 I.env0.in1 (by
          have := hb s [.ref a] I.kIn (by simpa using hl)
          simpa using this) (.cons rfl .nil) hsp) fun r s' hq => ?_)
        cases r with
        | error e => exact (show False from hq).elim
        | ok fl =>
          cases fl with
          | ret w =>
            obtain ⟨z, H', I', rz, ez, q⟩ := I.after hq
            subst ez
            obtain ⟨tk, rfl⟩ := rz
            exact ⟨.str z0, H', I', ⟨tk, rfl⟩, q⟩
          | next => exact False.elim hq
          | brk => exact False.elim hq
          | cont => exact False.elim hq
      · cases e
    · cases e
  · cases e
end
theorem notinT_ok {X : Cx} : OpR X (compareOp .NotIn) (r2F X.K (inT true)) := OpR.weak op_notIn_str fun vx vy H Q h => by
  obtain ⟨cl, F, al, x, y, C, rx, ry, k⟩ := h
  obtain ⟨d, cl', e, kk⟩ := k.some
  unfold inT at e
  split at e
  · rename_i s t
    cases e
    have rx : vx = .str s := rx
    have ry : vy = .str t := ry
    exact ⟨s, t, rx, ry, kk F al _ H (Ext.refl _ _ _) C rfl⟩
  · cases e
end FL
/-! zip, d.get(k, x), sorted(d), dict(enumerate(xs)), a def that calls itself -/
namespace FL
open PySem PySem.Spec L2 RZ
section
variable {K : PySem.W.Frag} {F : Hp} {al : List Addr} {H : Hp}
/-! ### zip -/
def zipW : List W → List W → List W
  | x :: xs, y :: ys => tupW [x, y] :: zipW xs ys
  | _, _ => []
theorem zipW_get : ∀ (xs ys : List W) (i : Nat) (d : W), (zipW xs ys)[i]? = some d → ∃ x y, xs[i]? = some x ∧ ys[i]? = some y ∧ d = tupW [x, y]
  | x :: xs, y :: ys, 0, d, h => ⟨x, y, rfl, rfl, (Option.some.inj h).symm⟩
  | x :: xs, y :: ys, i + 1, d, h => zipW_get xs ys i d h
  | [], _, i, d, h => by
    cases i <;> exact (nomatch h)
  | _ :: _, [], i, d, h => by
    cases i <;> exact (nomatch h)
theorem zipW_len : ∀ (xs ys : List W), (zipW xs ys).length = min xs.length ys.length
  | x :: xs, y :: ys => by
    show (zipW xs ys).length + 1 = _
    rw [zipW_len xs ys]
    simp
  | [], ys => by simp [zipW]
  | _ :: _, [] => by simp [zipW]
def ckAnd : Ck → Ck → Ck
  | none, c => c
  | c, none => c
  | some p, some q => some (p ++ q)
theorem ckAnd_l {c d : Ck} {cl : List Cell} (h : ckC (ckAnd c d) cl) : ckC c cl := by
  cases c with
  | none => exact trivial
  | some p => cases d with
    | none => exact h
    | some q => exact fun x hx => h x (List.mem_append_left _ hx)
theorem ckAnd_r {c d : Ck} {cl : List Cell} (h : ckC (ckAnd c d) cl) : ckC d cl := by
  cases d with
  | none => exact trivial
  | some q => cases c with
    | none => exact h
    | some p => exact fun x hx => h x (List.mem_append_right _ hx)
theorem wk_zipL {a b : Addr} {xs ys : List W} {c d : Ck} (h1 : StL K F al a xs c) (h2 : StL K F al b ys d) : Wk K (Itz K a b) F al (zipW xs ys) (ckAnd c d) where
  go := fun i dd F1 al1 cl1 H1 hd e ha C hck => by
    obtain ⟨vs, hs, r⟩ := h1 F1 al1 cl1 H1 e ha C (ckAnd_l hck)
    obtain ⟨us, hu, q⟩ := h2 F1 al1 cl1 H1 e ha C (ckAnd_r hck)
    obtain ⟨x, y, e1, e2, rfl⟩ := zipW_get xs ys i dd hd
    obtain ⟨v, v1, v2⟩ := r.get e1
    obtain ⟨u, u1, u2⟩ := q.get e2
    refine ⟨⟨vs, us, v, u, hs, hu, v1, u1⟩, fun z H2 ⟨T, x', y', ez, hT, eH, hx, hy⟩ => ?_⟩
    have hx := hx vs hs
    have hy := hy us hu
    rw [v1] at hx
    rw [u1] at hy
    cases hx
    cases hy
    subst ez eH
    exact wk_new C ⟨_, _, rfl, v2, _, _, rfl, u2, rfl⟩ hT
  stop := fun i F1 al1 cl1 H1 hi e ha C hck => by
    obtain ⟨vs, hs, r⟩ := h1 F1 al1 cl1 H1 e ha C (ckAnd_l hck)
    obtain ⟨us, hu, q⟩ := h2 F1 al1 cl1 H1 e ha C (ckAnd_r hck)
    rw [zipW_len] at hi
    exact ⟨vs, us, hs, hu, by rw [r.length, q.length]; omega⟩
theorem wk_zipT {a b : Addr} {vs us : List V} {xs ys : List W} (h1 : SqT K F a vs) (r1 : Reps K F al xs vs) (h2 : SqT K F b us) (r2 : Reps K F al ys us) : Wk K (ItzT K a b) F al (zipW xs ys) none where
  go := fun i dd F1 al1 cl1 H1 hd e ha C _ => by
    obtain ⟨be, rfl⟩ := ha
    obtain ⟨x, y, e1, e2, rfl⟩ := zipW_get xs ys i dd hd
    obtain ⟨v, v1, v2⟩ := (Reps.mono (be := be) e r1).get e1
    obtain ⟨u, u1, u2⟩ := (Reps.mono (be := be) e r2).get e2
    have hs : SqT K H1 a vs := Same.seqT C.fh (Same.seqT e h1)
    have hu : SqT K H1 b us := Same.seqT C.fh (Same.seqT e h2)
    refine ⟨⟨vs, us, v, u, hs, hu, v1, u1⟩, fun z H2 ⟨T, x', y', ez, hT, eH, hx, hy⟩ => ?_⟩
    have hx := hx vs hs
    have hy := hy us hu
    rw [v1] at hx
    rw [u1] at hy
    cases hx
    cases hy
    subst ez eH
    exact wk_new C ⟨_, _, rfl, v2, _, _, rfl, u2, rfl⟩ hT
  stop := fun i F1 al1 cl1 H1 hi e ha C _ => by
    have hs : SqT K H1 a vs := Same.seqT C.fh (Same.seqT e h1)
    have hu : SqT K H1 b us := Same.seqT C.fh (Same.seqT e h2)
    rw [zipW_len] at hi
    exact ⟨vs, us, hs, hu, by rw [r1.length, r2.length]; omega⟩
end
def iZip (ma mb : M) : MI := fun r => match ma r with
  | some (x, r1) => match mb r1 with
    | some (y, r2) => match itemsL r2.cl x, itemsL r2.cl y with
      | some (xs, c), some (ys, d) => some ((zipW xs ys, ckAnd c d), r2)
      | none, none => match asTup x, asTup y with
        | some xs, some ys => some ((zipW xs ys, none), r2)
        | _, _ => none
      | _, _ => none
    | none => none
  | none => none
section
variable {X : Cx} {e e2 o f k : Expr} {pos p p2 q tpos apos cpos : Pos} {elts : List Expr} {kk : Nat}
theorem fi_zip {ma mb : M} (hg : Gl X "zip") (hm : X.mg "zip" = none) (ha : PA X [e, e2] (tFA X.K (aCons ma (aCons mb aNil)))) (hs : starEach [e, e2] X.env = (false, eval e X.env) :: starEach [e2] X.env := by rfl) (hpl : (backTo pos (starEach [e2] X.env)).any (·.1) = false := by rfl) :
    PI X (.Tuple elts kk tpos) (.Call (.Name "zip" p) [e, e2] [] pos) (iF X.K (iZip ma mb)) :=
  PI.weak (pi_zipA hg hm ha hs hpl) fun σ H R ⟨r, F, al, ds, ck, r', Rl, e1, kR⟩ => by
    unfold iZip at e1
    split at e1
    · rename_i x r1 q1
      split at e1
      · rename_i y r2 q2
        have qa : aCons ma (aCons mb aNil) r = some ([x, y], r2) := by simp only [aCons, q1, q2, aNil]
        split at e1
        · rename_i xs c ys d h1 h2
          cases e1
          refine ⟨r, F, al, [x, y], _, Rl, qa, fun F1 al1 v H1 x1 R1 p1 => ?_⟩
          obtain ⟨v1, vr, rfl, g1, v2, vr2, rfl, g2, g3⟩ := p1
          have g3 : vr2 = [] := g3
          subst g3
          obtain ⟨a, rfl, st, hck⟩ := items_ok R1.c g1 h1
          obtain ⟨b, rfl, st2, hck2⟩ := items_ok R1.c g2 h2
          obtain ⟨vs, w2, _⟩ := st F1 al1 _ H1 (Same.refl _) ⟨[], by simp⟩ R1.c hck
          obtain ⟨us, w3, _⟩ := st2 F1 al1 _ H1 (Same.refl _) ⟨[], by simp⟩ R1.c hck2
          exact ⟨a, b, vs, us, rfl, .inl ⟨w2, w3, kR F1 al1 _ H1 x1 R1 (wk_zipL st st2)⟩⟩
        · split at e1
          · rename_i xs ys h1 h2
            cases e1
            refine ⟨r, F, al, [x, y], _, Rl, qa, fun F1 al1 v H1 x1 R1 p1 => ?_⟩
            obtain ⟨v1, vr, rfl, g1, v2, vr2, rfl, g2, g3⟩ := p1
            have g3 : vr2 = [] := g3
            subst g3
            obtain ⟨a, vs, rfl, s1, s2⟩ := asTup_ok g1 h1
            obtain ⟨b, us, rfl, t1, t2⟩ := asTup_ok g2 h2
            exact ⟨a, b, vs, us, rfl, .inr ⟨Same.seqT R1.c.fh s1, Same.seqT R1.c.fh t1, kR F1 al1 _ H1 x1 R1 (wk_zipT s1 s2 t1 t2)⟩⟩
          · cases e1
        · cases e1
      · cases e1
    · cases e1
/-! ### d.get(k, x) -/
def isDic (cl : List Cell) (x : W) : Bool := (asDk cl x).isSome || (asDt cl x).isSome
def mGet : OpN := fun cl ds => match ds with
  | [x, y, z] => match dGetW cl x y with
    | some (some w) => some (w, cl)
    | some none => some (z, cl)
    | none => none
  | _ => none
theorem mGet_some {cl c : List Cell} {x y z d : W} (h : mGet cl [x, y, z] = some (d, c)) : c = cl ∧ ((∃ w, dGetW cl x y = some (some w) ∧ d = w) ∨ (dGetW cl x y = some none ∧ d = z)) := by
  simp only [mGet] at h
  cases g : dGetW cl x y with
  | none =>
    rw [g] at h
    cases h
  | some o =>
    rw [g] at h
    cases o with
    | none =>
      cases h
      exact ⟨rfl, .inr ⟨rfl, rfl⟩⟩
    | some w =>
      cases h
      exact ⟨rfl, .inl ⟨_, rfl, rfl⟩⟩
theorem pf_dget2 {mo mk mx : M} (hu : X.A.units + 1 < cLine) (ho : PE X o (tF X.K mo)) (hk : PE X k (tF X.K mk)) (hf : PE X f (tF X.K mx))
    (hbase : attributeBase o "get" X.env (eval o X.env) = eval o X.env := by rfl)
    (hfew : ((backTo cpos (starEach [k, f] X.env)).all (fun x => !x.1) && (backToKw cpos (keywordEach [] X.env)).all (fun x => x.1.isSome) && decide (([k, f] : List Expr).length + ([] : List Keyword).length + (if ([] : List Keyword).isEmpty then 0 else 1) < 30)) = true := by rfl)
    (hline : (apos.endLine == cpos.line) = true := by rfl) (htr : backTo cpos (starEach [k, f] X.env) = [(false, eval k X.env), (false, eval f X.env)] := by rfl) :
    PE X (.Call (.Attribute o "get" apos) [k, f] [] cpos) (tF X.K (eMethT isDic mGet mo (aCons mk (aCons mx aNil)))) :=
  PE.weak (pe_dget2 hu ho hk hf ⟨hbase, hfew, hline, htr⟩) fun σ H Q ⟨rho, F, al, d, r', R, e1, kQ⟩ => by
    unfold eMethT at e1
    split at e1
    · rename_i x0 r1 q1
      split at e1
      · rename_i hc
        split at e1
        · rename_i xs r2 q2
          obtain ⟨c, q4, rfl⟩ := liftN_some e1
          obtain ⟨y, ry, ys, w1, w2, rfl⟩ := aCons_some q2
          obtain ⟨z, rz, zs, w3, w4, rfl⟩ := aCons_some w2
          have w4 : some ([], rz) = some (zs, r2) := w4
          have w5 := Option.some.inj w4
          have ez : [] = zs := congrArg Prod.fst w5
          have er : rz = r2 := congrArg Prod.snd w5
          subst ez er
          refine ⟨rho, F, al, x0, r1, R, q1, fun F1 al1 vx H1 x1 R1 p1 => ?_⟩
          have hD : ∃ a, vx = .ref a ∧ IsD H1 a := by
            unfold isDic at hc
            cases e1 : asDk r1.cl x0 with
            | some p =>
              obtain ⟨a, kvs, rfl, g, _⟩ := asDk_ok R1.c p1 (ks := p.1) (ws := p.2) e1
              exact ⟨a, rfl, .inl ⟨kvs, g⟩⟩
            | none =>
              rw [e1] at hc
              simp at hc
              obtain ⟨p, e2⟩ := Option.isSome_iff_exists.mp hc
              obtain ⟨a, kvs, rfl, g, _⟩ := asDt_ok R1.c p1 (ks := p.1) (ws := p.2) e2
              exact ⟨a, rfl, .inr ⟨kvs, g⟩⟩
          obtain ⟨a, rfl, hD⟩ := hD
          refine ⟨a, rfl, hD, r1, F1, al1, y, ry, R1, w1, fun F2 al2 vy H2 x2 R2 p2 => ⟨ry, F2, al2, z, rz, R2, w3, fun F3 al3 vz H3 x3 R3 p3 => ?_⟩⟩
          have rx := (x2.trans x3).rep p1
          obtain ⟨rfl, hh⟩ := mGet_some q4
          rcases hh with ⟨w, hw, rfl⟩ | ⟨hw, rfl⟩
          · obtain ⟨b, ov, eb, g, i1, _⟩ := dGetW_ok R3.c rx (x3.rep p2) hw
            cases eb
            obtain ⟨v, rfl, rv⟩ := i1 _ rfl
            exact ⟨some v, g, kQ F3 al3 v H3 ((x1.trans x2).trans x3) R3 rv⟩
          · obtain ⟨b, ov, eb, g, _, i2⟩ := dGetW_ok R3.c rx (x3.rep p2) hw
            cases eb
            rw [i2 rfl] at g
            exact ⟨_, g, kQ F3 al3 vz H3 ((x1.trans x2).trans x3) R3 p3⟩
        · cases e1
      · cases e1
    · cases e1
end
end FL
/-! sorted(d), dict(enumerate(xs)) -/
namespace L2
open PySem PySem.Spec PyProof.Rows
def numK {α : Type} : Nat → List α → List (Key × α)
  | _, [] => []
  | n, x :: xs => (.inl (n : Int), x) :: numK (n + 1) xs
theorem numK_len {α : Type} : ∀ (n : Nat) (xs : List α), (numK n xs).length = xs.length
  | _, [] => rfl
  | n, x :: xs => by
    show (numK (n + 1) xs).length + 1 = xs.length + 1
    rw [numK_len (n + 1) xs]
theorem numK_get {α : Type} : ∀ (n : Nat) (xs : List α) (i : Nat) (x : α), xs[i]? = some x → (numK n xs)[i]? = some (.inl ((n + i : Nat) : Int), x)
  | n, y :: xs, 0, x, h => by
    cases h
    rfl
  | n, y :: xs, i + 1, x, h => by
    have := numK_get (n + 1) xs i x h
    show (numK (n + 1) xs)[i]? = _
    rw [this, show n + 1 + i = n + (i + 1) by omega]
  | n, [], i, x, h => (nomatch h)
theorem numK_key {α : Type} : ∀ (n : Nat) (xs : List α), (numK n xs).map (·.1) = (List.range xs.length).map fun i => (.inl ((n + i : Nat) : Int) : Key)
  | _, [] => rfl
  | n, x :: xs => by
    have := numK_key (n + 1) xs
    show (.inl (n : Int)) :: (numK (n + 1) xs).map (·.1) = _
    rw [this, List.length_cons, List.range_succ_eq_map, List.map_cons, List.map_map]
    refine congrArg _ (List.map_congr_left fun i _ => ?_)
    show (Sum.inl (((n + 1 + i : Nat)) : Int) : Key) = Sum.inl (((n + (i + 1) : Nat)) : Int)
    rw [show n + 1 + i = n + (i + 1) by omega]
theorem numK_val {α : Type} : ∀ (n : Nat) (xs : List α), (numK n xs).map (·.2) = xs
  | _, [] => rfl
  | n, x :: xs => by
    show x :: (numK (n + 1) xs).map (·.2) = _
    rw [numK_val (n + 1) xs]
theorem mergeK_num : ∀ (n : Nat) (xs : List V) (acc : List (Key × V)), (∀ kv ∈ acc, ∃ i : Int, kv.1 = .inl i ∧ i < n) → mergeK acc (numK n xs) = acc ++ numK n xs
  | n, [], acc, _ => by simp [numK, mergeK]
  | n, x :: xs, acc, h => by
    have hp : putK acc (.inl (n : Int)) x = acc ++ [(.inl (n : Int), x)] := by
      unfold putK
      rw [if_neg]
      intro q
      obtain ⟨kv, hk, e⟩ := List.any_eq_true.mp q
      obtain ⟨i, e1, e2⟩ := h kv hk
      have e := of_decide_eq_true e
      rw [e1] at e
      cases e
      omega
    have ih := mergeK_num (n + 1) xs (acc ++ [(.inl (n : Int), x)]) (fun kv hk => by
      rcases List.mem_append.mp hk with hk | hk
      · obtain ⟨i, e1, e2⟩ := h kv hk
        exact ⟨i, e1, by omega⟩
      · rw [List.mem_singleton] at hk
        subst hk
        exact ⟨n, rfl, by omega⟩)
    show mergeK (putK acc (.inl (n : Int)) x) (numK (n + 1) xs) = _
    rw [hp, ih, List.append_assoc]
    rfl
theorem kv_num : ∀ (n : Nat) {xs : List V} {us : List Value}, Vals xs us → KV (numK n xs) (numK n us)
  | _, _, _, .nil => .nil
  | n, _, _, .cons r t => .cons ⟨rfl, r⟩ (kv_num (n + 1) t)
def tDictEn (K : PySem.W.Frag) (ta : TA) : TE := fun σ H Q => ta σ H fun vs H1 => ∃ (l : Addr) (xs : List V), vs = [.ref l] ∧ SqL K H1 l xs ∧ ∀ p, H1 p = none → Q (.ref p) (upd H1 p (.dK (numK 0 xs)))
theorem pe_dictEn {X : Cx} {e : Expr} {ta : TA} {p p2 q pos : Pos} (hg : Gl X "dict") (hm : X.mg "dict" = none) (hg2 : Gl X "enumerate") (hm2 : X.mg "enumerate" = none) (ha : PA X [e] ta) (hc : X.calm = true := by rfl)
    (hs : starEach [e] X.env = [(false, eval e X.env)] := by rfl) (na : starEach [.Call (.Name "enumerate" p2) [e] [] q] X.env = (false, eval (.Call (.Name "enumerate" p2) [e] [] q) X.env) :: starEach [] X.env := by rfl) :
    PE X (.Call (.Name "dict" p) [.Call (.Name "enumerate" p2) [e] [] q] [] pos) (tDictEn X.K ta) := by
  refine ⟨fun pins s σ H Q I h => ?_⟩
  refine Call_ (ld_blt I hg hm boot_dict ?_)
  refine PyProof.Rows.callWith_type1 (PyProof.Rows.args_cons ?_ na) na rfl
  refine Call_ (ld_blt I hg2 hm2 boot_enumerate (PyProof.Rows.callWith_type1 (thn (ha.run q pins s σ H _ I h) fun us s1 ⟨vs, H1, I1, r1, q1⟩ => ?_) hs rfl))
  obtain ⟨a, xs, ex, hq, q1⟩ := q1
  subst ex
  cases r1 with
  | cons r rr =>
    cases rr
    cases r
    obtain ⟨its, rv, p', hz⟩ := I1.list hq
    have hl : its.length = xs.length := rv.length.symm
    refine call_enumerate_list p'.isList fun h' he hit hsz hk => ?_
    have I2 : Inv X pins σ H1 { s1 with heap := h' } := I1.kept (t' := s1.toks) hk
    have ha1 : a < s1.heap.objs.size := p'.lt
    refine PyProof.Rows.args_nil ?_
    have P := PySem.PairArg.enumerate (prog := X.prog) (w := X.w) (s1.heap.objs.size + 1) s1.heap.objs.size a (Nat.succ_ne_self _) (Nat.ne_of_lt (Nat.lt_succ_of_lt ha1)) (Nat.ne_of_lt ha1) its.toArray
    refine PySem.call_dict_pairs (knd := mixKind X.prog X.w) (kvs := numK 0 its) P (I2.ok.hd hc) ⟨⟨_, he⟩, hit, p'.isList.at fun o z => hk _ o z⟩ ⟨by rw [numK_len]; simp, fun i k v ⟨⟨t, ek⟩, hv⟩ => ?_⟩ (by simpa [hl] using hz) fun h2 tk hd hk2 => ?_
    · subst ek
      refine ⟨.inl (i : Int), ?_, ?_⟩
      · have := numK_get 0 its i v (by simpa using hv)
        rw [Nat.zero_add] at this
        exact this
      · show Value.isInt (i : Int) (.int i t) = true
        simp [Value.isInt]
    · have hlt : ∀ b u, s1.heap.get? b = some u → h2.get? b = some u := fun b u z => hk2 b u (by
        intro hb
        have lt := Heap.lt_size z
        have e' : b = s1.heap.objs.size + 1 ∨ b = s1.heap.objs.size := by simpa using hb
        rcases e' with w | w
        · rw [w] at lt
          exact Nat.lt_irrefl _ (Nat.lt_of_succ_lt lt)
        · rw [w] at lt
          exact Nat.lt_irrefl _ lt) (hk b u z)
      have hm : (h'.objs.size == sysModules) = false := beq_eq_false_iff_ne.mpr (Nat.ne_of_gt I2.big)
      have kv : KV (numK 0 xs) (merged [] (numK 0 its)) := by
        have := KV.merge (kv_num 0 rv) (.nil : KV [] [])
        rw [mergeK_num 0 xs [] (fun _ h => nomatch h), List.nil_append] at this
        exact this
      have hle : s1.heap.objs.size ≤ h'.objs.size := by omega
      exact ⟨.ref h'.objs.size, upd H1 h'.objs.size (.dK (numK 0 xs)), I1.laid (t' := tk) hlt hle (show ObjOk X.prog X.w _ _ _ (.dK (numK 0 xs)) from ⟨by rw [numK_len]; exact hz, hm, _, kv, hd⟩), rfl, q1 _ (I1.hok.fresh hle)⟩
end L2
namespace FL
open PySem PySem.Spec L2
theorem freshD_ok {K : PySem.W.Frag} {cl : List Cell} {F : Hp} {al : List Addr} {H : Hp} {Q : VK} {c : Bool} {ks : List Key} {ws : List W} {kvs : List (Key × V)} {p : Addr} (h : PostV K F al H Q (freshK c ks ws cl)) (C : Cells K cl F al H) (hk : kvs.map (·.1) = ks) (q : Reps K F al ws (kvs.map (·.2))) (hp : H p = none) : Q (.ref p) (upd H p (.dK kvs)) := by
  obtain ⟨hF, hal⟩ := C.free hp
  cases c with
  | false =>
    obtain ⟨d, cl', e, k⟩ := h.some
    obtain ⟨xs, e1, e2⟩ := Option.map_eq_some_iff.mp (show (datas ws).map _ = _ from e)
    cases e2
    have q0 : Reps0 K F xs (kvs.map (·.2)) := by
      rw [datas_some e1] at q
      exact q.to0
    exact k _ _ _ _ (ext_frz hF hp) (C.frz hp) ⟨p, kvs, rfl, .inl upd_same, hk, Reps0.mono (ext_frz (al := al) hF hp).f q0⟩
  | true =>
    have x : Ext F al H F (al ++ [p]) (upd H p (.dK kvs)) := ext_new hF hp
    refine h _ _ _ _ x (C.new hp ⟨hF, kvs, upd_same, hk, x.reps q⟩) ⟨p, rfl, ?_⟩
    rw [← C.len, List.getElem?_append_right (Nat.le_refl _), Nat.sub_self]
    rfl
def keysN (n : Nat) : List Key := (List.range n).map fun i => (.inl ((i : Nat) : Int) : Key)
def oDictEn (c : Bool) : OpN := fun cl ds => match ds with
  | [x] => match asList cl x with
    | some ws => freshK c (keysN ws.length) ws cl
    | none => none
  | _ => none
section
variable {X : Cx} {e : Expr} {p p2 q pos : Pos}
theorem pf_dictEn (c : Bool) {ms : MS} (hg : Gl X "dict") (hm : X.mg "dict" = none) (hg2 : Gl X "enumerate") (hm2 : X.mg "enumerate" = none) (ha : PA X [e] (tFA X.K ms)) (hc : X.calm = true := by rfl)
    (hs : starEach [e] X.env = [(false, eval e X.env)] := by rfl) (na : starEach [.Call (.Name "enumerate" p2) [e] [] q] X.env = (false, eval (.Call (.Name "enumerate" p2) [e] [] q) X.env) :: starEach [] X.env := by rfl) :
    PE X (.Call (.Name "dict" p) [.Call (.Name "enumerate" p2) [e] [] q] [] pos) (tF X.K (eCall (oDictEn c) ms)) :=
  PE.weak (pe_dictEn hg hm hg2 hm2 ha hc hs na) (w_call (t := fun xs H1 Q => ∃ (l : Addr) (vs : List V), xs = [.ref l] ∧ SqL X.K H1 l vs ∧ ∀ p, H1 p = none → Q (.ref p) (upd H1 p (.dK (numK 0 vs)))) fun vs H Q ⟨cl, F, al, ds, C, r, k⟩ => by
    obtain ⟨d, cl', e, kk⟩ := k.some
    unfold oDictEn at e k
    split at e
    · rename_i x
      obtain ⟨v, vr, rfl, rx, r0⟩ := r
      have r0 : vr = [] := r0
      subst r0
      simp only at k
      split at e
      · rename_i ws hw
        rw [hw] at k
        obtain ⟨a, us, rfl, h1, h2⟩ := asList_ok C rx hw
        refine ⟨a, us, rfl, h1, fun p hp => freshD_ok k C ?_ ?_ hp⟩
        · rw [numK_key, ← h2.length]
          simp [keysN]
        · rw [numK_val]
          exact h2
      · cases e
    · cases e)
end
/-! ### sorted(d), the keys ints -/
def intsK : List Key → Option (List Int)
  | [] => some []
  | .inl i :: ks => (intsK ks).map (i :: ·)
  | .inr _ :: _ => none
theorem intsK_ok : ∀ {ks : List Key} {zs : List Int}, intsK ks = some zs → ks = zs.map Sum.inl
  | [], zs, h => by
    cases h
    rfl
  | .inl i :: ks, zs, h => by
    obtain ⟨ys, e1, e2⟩ := Option.map_eq_some_iff.mp (show (intsK ks).map _ = _ from h)
    subst e2
    rw [intsK_ok e1]
    rfl
  | .inr _ :: _, zs, h => (nomatch h)
def sortI (zs : List Int) : List Int := zs.mergeSort fun a b => decide (a ≤ b)
theorem sortI_eq {zs ys : List Int} (h1 : ys.Perm zs) (h2 : ys.Pairwise (· ≤ ·)) : ys = sortI zs := by
  have q1 : (sortI zs).Perm zs := List.mergeSort_perm zs _
  have q2 : (sortI zs).Pairwise (· ≤ ·) := by
    have := List.pairwise_mergeSort (le := fun a b : Int => decide (a ≤ b)) (fun a b c h1 h2 => by simp at *; omega) (fun a b => by simp; omega) zs
    exact this.imp fun h => by simpa using h
  exact List.Perm.eq_of_pairwise (le := fun a b : Int => a ≤ b) (fun a b _ _ h k => by omega) h2 q2 (h1.trans q1.symm)
def oSortDI (c : Bool) : OpN := fun cl ds => match ds with
  | [x] => match asDk cl x with
    | some (ks, _) => match intsK ks with
      | some zs => if zs.length < 64 then fresh c ((sortI zs).map fun i => W.d (.int i)) cl else none
      | none => none
    | none => none
  | _ => none
theorem reps_intsW {K : PySem.W.Frag} {F : Hp} {al : List Addr} : ∀ zs : List Int, Reps K F al (zs.map fun i => W.d (.int i)) (zs.map V.int)
  | [] => rfl
  | i :: zs => ⟨.int i, zs.map V.int, rfl, rfl, reps_intsW zs⟩
theorem sortDI_ok (c : Bool) {X : Cx} (hc : X.calm = true) : CallR X (.builtin "sorted") (rNF X.K (oSortDI c)) := CallR.weak (call_sortedDI hc) fun vs H Q ⟨cl, F, al, ds, C, rs, k⟩ => by
  obtain ⟨d, cl', e, kk⟩ := k.some
  unfold oSortDI at e k
  split at e
  · rename_i x
    obtain ⟨v, vr, rfl, rx, r0⟩ := rs
    have r0 : vr = [] := r0
    subst r0
    simp only at k
    split at e
    · rename_i ks ws hw
      rw [hw] at k
      simp only at k
      split at e
      · rename_i zs hz
        rw [hz] at k
        simp only at k
        split at e
        · rename_i h64
          rw [if_pos h64] at k
          obtain ⟨a, kvs, rfl, g, q2, _⟩ := asDk_ok C rx hw
          refine ⟨a, kvs, zs, rfl, g, by rw [q2, intsK_ok hz], h64, fun ys p hp1 hp2 hp => ?_⟩
          rw [sortI_eq hp1 hp2]
          exact fresh_ok k C (reps_intsW _) hp
        · cases e
      · cases e
    · cases e
  · cases e
/-! ### isinstance, tuples too -/
def oIsiX : OpN := fun cl ds => match ds with
  | [x, .d (.op (.ty T))] => match tyX cl x with
    | some t => match kitB t T with
      | some b => some (.d (.bl b), cl)
      | none => none
    | none => none
  | _ => none
theorem isiX_ok {X : Cx} : CallR X (.builtin "isinstance") (rNF X.K oIsiX) := CallR.weak call_isi fun vs H Q ⟨cl, F, al, ds, C, rs, k⟩ => by
  obtain ⟨d, cl', e, kk⟩ := k.some
  unfold oIsiX at e
  split at e
  · rename_i x T
    obtain ⟨v, vr, rfl, r1, v2, vr2, rfl, r2, r0⟩ := rs
    have r0 : vr2 = [] := r0
    have r2 : v2 = .ty T := r2
    subst r0 r2
    split at e
    · rename_i t ht
      split at e
      · rename_i b hb
        cases e
        exact ⟨v, .ty T, .type t, .type T, b, rfl, .ty T, tyX_ok C r1 ht, kit_ty hb, kk F al _ H (Ext.refl _ _ _) C rfl⟩
      · cases e
    · cases e
  · cases e
/-! ### nothing is promised -/
theorem fn_none {P : Program} {w : World} {K : PySem.W.Frag} {mg : Str → Option Value} {base : Heap} {k : Nat} {f : Addr} {fd : FuncData} {ps : List Str} {n : Nat} : FnOk P w K mg base CX0 k f fd ps (spF K n fun _ _ => none) :=
  ⟨fun vs H Q E ⟨cl, F, al, ds, C, r, hl, k⟩ => (show False from k).elim, fun A outer s H args us vs Q E hr he hb hv ⟨cl, F, al, ds, C, r, hl, k⟩ => (show False from k).elim⟩
end FL
namespace Lw
open PySem PySem.Spec L2 FL
def topS (i : Nat) : Stmt := PySem.Challenge.pw_weldmill_k75_cells_changed.main.body.getD i (.Pass ⟨0, 0, 0, 0⟩)
abbrev st_law_wpen : Stmt := (topS 8)
abbrev st_law_fill : Stmt := (topS 6)
abbrev st_law_next : Stmt := (topS 7)
abbrev st_law_wcells : Stmt := (topS 10)
abbrev st_Image___init__ : Stmt := (inClass (topS 1) 0)
abbrev st_cell_at : Stmt := (topS 3)
abbrev st_Image___len__ : Stmt := (inClass (topS 1) 2)
abbrev st_changed : Stmt := (topS 4)
abbrev st_law_wsame : Stmt := (topS 9)
abbrev st_law_wdone : Stmt := (topS 11)
abbrev st_law : Stmt := (topS 12)
structure Ad where
  a_law_wpen : Addr
  d_law_wpen : FuncData
  a_law_fill : Addr
  d_law_fill : FuncData
  a_law_next : Addr
  d_law_next : FuncData
  a_law_wcells : Addr
  d_law_wcells : FuncData
  a_Image___init__ : Addr
  d_Image___init__ : FuncData
  a_cell_at : Addr
  d_cell_at : FuncData
  a_Image___len__ : Addr
  d_Image___len__ : FuncData
  a_changed : Addr
  d_changed : FuncData
  a_law_wsame : Addr
  d_law_wsame : FuncData
  a_law_wdone : Addr
  d_law_wdone : FuncData
  a_law : Addr
  d_law : FuncData
  C_Image : Addr
structure TX (K : PySem.W.Frag) (mg : Str → Option Value) (a : Ad) : Prop where
  F_law_wpen : Fun K "_law_wpen" "_law_wpen" st_law_wpen a.a_law_wpen a.d_law_wpen
  b_law_wpen : Binds K a.d_law_wpen ["script"] []
  g_law_wpen : mg "_law_wpen" = some (.ref a.a_law_wpen)
  F_law_fill : Fun K "_law_fill" "_law_fill" st_law_fill a.a_law_fill a.d_law_fill
  b_law_fill : Binds K a.d_law_fill ["_law_cell", "_law_at"] []
  g_law_fill : mg "_law_fill" = some (.ref a.a_law_fill)
  F_law_next : Fun K "_law_next" "_law_next" st_law_next a.a_law_next a.d_law_next
  b_law_next : Binds K a.d_law_next ["_law_pen", "_law_many"] []
  g_law_next : mg "_law_next" = some (.ref a.a_law_next)
  F_law_wcells : Fun K "_law_wcells" "_law_wcells" st_law_wcells a.a_law_wcells a.d_law_wcells
  b_law_wcells : Binds K a.d_law_wcells ["pen", "cells"] []
  g_law_wcells : mg "_law_wcells" = some (.ref a.a_law_wcells)
  F_Image___init__ : Fun K "__init__" "Image.__init__" st_Image___init__ a.a_Image___init__ a.d_Image___init__
  b_Image___init__ : Binds K a.d_Image___init__ ["self", "cells", "start", "rows"] []
  F_cell_at : Fun K "cell_at" "cell_at" st_cell_at a.a_cell_at a.d_cell_at
  b_cell_at : Binds K a.d_cell_at ["cells", "address"] []
  g_cell_at : mg "cell_at" = some (.ref a.a_cell_at)
  F_Image___len__ : Fun K "__len__" "Image.__len__" st_Image___len__ a.a_Image___len__ a.d_Image___len__
  b_Image___len__ : Binds K a.d_Image___len__ ["self"] []
  F_changed : Fun K "changed" "changed" st_changed a.a_changed a.d_changed
  b_changed : Binds K a.d_changed ["image", "other"] []
  g_changed : mg "changed" = some (.ref a.a_changed)
  F_law_wsame : Fun K "_law_wsame" "_law_wsame" st_law_wsame a.a_law_wsame a.d_law_wsame
  b_law_wsame : Binds K a.d_law_wsame ["found", "due"] []
  g_law_wsame : mg "_law_wsame" = some (.ref a.a_law_wsame)
  F_law_wdone : Fun K "_law_wdone" "_law_wdone" st_law_wdone a.a_law_wdone a.d_law_wdone
  b_law_wdone : Binds K a.d_law_wdone ["cells", "told"] []
  g_law_wdone : mg "_law_wdone" = some (.ref a.a_law_wdone)
  F_law : Fun K "law" "law" st_law a.a_law a.d_law
  b_law : Binds K a.d_law ["script"] []
  g_law : mg "law" = some (.ref a.a_law)
  z_all : mg "all" = none
  z_bool : mg "bool" = none
  z_dict : mg "dict" = none
  z_enumerate : mg "enumerate" = none
  z_int : mg "int" = none
  z_isinstance : mg "isinstance" = none
  z_len : mg "len" = none
  z_list : mg "list" = none
  z_max : mg "max" = none
  z_range : mg "range" = none
  z_sorted : mg "sorted" = none
  z_str : mg "str" = none
  z_tuple : mg "tuple" = none
  z_zip : mg "zip" = none
  g_Image : mg "Image" = some (.ref a.C_Image)
  cl_Image : Cls K a.C_Image
  mk_Image : Mk K a.C_Image a.a_Image___init__
  n_Image_cells : NoAttr K a.C_Image "cells"
  n_Image_rows : NoAttr K a.C_Image "rows"
  n_Image_start : NoAttr K a.C_Image "start"
  ln_Image : PySem.W.findIn K (.ref a.C_Image) "__len__" = some (some (.ref a.a_Image___len__))
  lnf_Image : PySem.W.isFn K (.ref a.a_Image___len__) = true
section
variable {P : Program} {w : World} {K : PySem.W.Frag} {mg : Str → Option Value} {base : Heap} {a : Ad}
/-! _law_wpen -/
theorem sc_law_wpen : FnScope ["script"] ["script"] (defScope st_law_wpen) := ⟨rfl, rfl, rfl, by decide +kernel, rfl, by decide +kernel, by decide +kernel⟩
noncomputable def m_law_wpen (a : Ad) : G := (sRet (eCall (oLst true) (aCons (eCall (oList false) (aCons (eSlice (dSl false) (eVar 0) oNo (oSome (eC (.d (.int 63))))) aNil)) (aCons (eC (.d (.int 0))) (aCons (eC (.d (.int 0))) aNil)))))
noncomputable def f_law_wpen (a : Ad) : OpN := runG 1 (m_law_wpen a)
theorem ok_law_wpen (T : TX K mg a) : FnOk P w K mg base CX0 1 a.a_law_wpen a.d_law_wpen ["script"] (spF K 1 (f_law_wpen a)) := by
  refine fn_okF (N := ["script"]) T.F_law_wpen sc_law_wpen fun cdv A outer s H E hr => ?_
  have nd := sc_law_wpen.nd
  exact (fss_one (fs_ret (pf_lst true (fa_cons (pf_callTy (list_ok false) (by rfl) T.z_list (by decide +kernel) (fa_cons (pf_slice (sl_ok false) (pf_var (pv 0)) fo_none (fo_some pf_int)) fa_nil)) (fa_cons pf_int (fa_cons pf_int fa_nil))))))
/-! _law_fill -/
theorem sc_law_fill : FnScope ["_law_cell", "_law_at", "_law_x"] ["_law_cell", "_law_at"] (defScope st_law_fill) := ⟨rfl, rfl, rfl, by decide +kernel, rfl, by decide +kernel, by decide +kernel⟩
noncomputable def m_law_fill (a : Ad) : G := (sSeq (sIf (bVal (eBin dGe (eVar 0) (eBin dPow (eC (.d (.int 10))) (eC (.d (.int 18)))))) (sRet (eVar 0)) sNil)
  (sSeq (sAsg (eBin dMod (eBin (dAdd false) (eBin (dAdd false) (eBin dMul (eBin dMod (eVar 0) (eC (.d (.int 2147483647)))) (eC (.d (.int 48271)))) (eBin dMul (eVar 1) (eC (.d (.int 69621))))) (eC (.d (.int 11)))) (eC (.d (.int 2147483629)))) (tName 2))
  (sSeq (sAsg (eBin dMod (eBin (dAdd false) (eBin (dAdd false) (eBin dMul (eVar 2) (eVar 2)) (eBin dMul (eC (.d (.int 48271))) (eVar 2))) (eVar 1)) (eC (.d (.int 2147483587)))) (tName 2))
  (sRet (eBin (dAdd true) (eBin dMul (eVar 2) (eC (.d (.int 2147483579)))) (eBin dMod (eBin (dAdd false) (eBin dMul (eVar 2) (eVar 2)) (eBin dMul (eC (.d (.int 69621))) (eVar 1))) (eC (.d (.int 2147483579)))))))))
noncomputable def f_law_fill (a : Ad) : OpN := runG 3 (m_law_fill a)
theorem ok_law_fill (T : TX K mg a) : FnOk P w K mg base CX0 1 a.a_law_fill a.d_law_fill ["_law_cell", "_law_at"] (spF K 2 (f_law_fill a)) := by
  refine fn_okF (N := ["_law_cell", "_law_at", "_law_x"]) T.F_law_fill sc_law_fill fun cdv A outer s H E hr => ?_
  have nd := sc_law_fill.nd
  exact (fss_cons (fs_if (ft_cmp ge_ok (pf_var (pv 0)) (pf_op pow_ok pf_int pf_int)) (fss_one (fs_ret (pf_var (pv 0)))) fss_nil)
      (fss_cons (fs_set (i := 2) nd rfl (by first | exact Or.inl rfl | exact Or.inr rfl) (pf_op mod_ok (pf_op (add_ok false) (pf_op (add_ok false) (pf_op mul_ok (pf_op mod_ok (pf_var (pv 0)) pf_int) pf_int) (pf_op mul_ok (pf_var (pv 1)) pf_int)) pf_int) pf_int))
      (fss_cons (fs_set (i := 2) nd rfl (by first | exact Or.inl rfl | exact Or.inr rfl) (pf_op mod_ok (pf_op (add_ok false) (pf_op (add_ok false) (pf_op mul_ok (pf_var (pv 2)) (pf_var (pv 2))) (pf_op mul_ok pf_int (pf_var (pv 2)))) (pf_var (pv 1))) pf_int))
      (fss_one (fs_ret (pf_op (add_ok true) (pf_op mul_ok (pf_var (pv 2)) pf_int) (pf_op mod_ok (pf_op (add_ok false) (pf_op mul_ok (pf_var (pv 2)) (pf_var (pv 2))) (pf_op mul_ok pf_int (pf_var (pv 1)))) pf_int)))))))
/-! _law_next -/
theorem sc_law_next : FnScope ["_law_pen", "_law_many", "_law_found", "_law_at", "_law_cell"] ["_law_pen", "_law_many"] (defScope st_law_next) := ⟨rfl, rfl, rfl, by decide +kernel, rfl, by decide +kernel, by decide +kernel⟩
noncomputable def m_law_next (a : Ad) : G := (sSeq (sIf (bVal (eBin dLt (eBin dIx (eVar 0) (eC (.d (.int 2)))) (eVar 1))) (sSeq (sAsg (eBin dIx (eVar 0) (eC (.d (.int 1)))) (tName 3))
  (sSeq (sAsg (eC (.d (.int 0))) (tName 4))
  (sSeq (sIf (bVal (eBin dLt (eVar 3) (eCall oLen (aCons (eBin dIx (eVar 0) (eC (.d (.int 0)))) aNil)))) (sAsg (eBin dIx (eBin dIx (eVar 0) (eC (.d (.int 0)))) (eVar 3)) (tName 4)) (sIf (bVal (eBin dGt (eCall oLen (aCons (eBin dIx (eVar 0) (eC (.d (.int 0)))) aNil)) (eC (.d (.int 0))))) (sAsg (eBin (dAdd false) (eBin dMod (eBin dIx (eBin dIx (eVar 0) (eC (.d (.int 0)))) (eBin dMod (eBin dMul (eVar 3) (eC (.d (.int 7)))) (eCall oLen (aCons (eBin dIx (eVar 0) (eC (.d (.int 0)))) aNil)))) (eC (.d (.int 1000003)))) (eBin dMul (eVar 3) (eC (.d (.int 1000003))))) (tName 4)) sNil))
  (sSeq (sAsg (eBin (dAdd false) (eVar 3) (eC (.d (.int 1)))) (tSub (eVar 0) (eC (.d (.int 1))) setL))
  (sAsg (eCall (withD [] (callC false (f_law_fill a))) (aCons (eVar 4) (aCons (eVar 3) aNil))) (tSub (eVar 0) (eC (.d (.int 2))) setL)))))) sNil)
  (sSeq (sAsg (eBin dMod (eBin dIx (eVar 0) (eC (.d (.int 2)))) (eVar 1)) (tName 2))
  (sSeq (sAsg (eBin dFdv (eBin dIx (eVar 0) (eC (.d (.int 2)))) (eVar 1)) (tSub (eVar 0) (eC (.d (.int 2))) setL))
  (sRet (eVar 2)))))
noncomputable def f_law_next (a : Ad) : OpN := runG 5 (m_law_next a)
theorem ok_law_next (T : TX K mg a) : FnOk P w K mg base CX0 2 a.a_law_next a.d_law_next ["_law_pen", "_law_many"] (spF K 2 (f_law_next a)) := by
  refine fn_okF (N := ["_law_pen", "_law_many", "_law_found", "_law_at", "_law_cell"]) T.F_law_next sc_law_next fun cdv A outer s H E hr => ?_
  have nd := sc_law_next.nd
  exact (fss_cons (fs_if (ft_cmp lt_ok (pf_ix ix_ok (pf_var (pv 0)) pf_int) (pf_var (pv 1))) (fss_cons (fs_set (i := 3) nd rfl (by first | exact Or.inl rfl | exact Or.inr rfl) (pf_ix ix_ok (pf_var (pv 0)) pf_int))
      (fss_cons (fs_set (i := 4) nd rfl (by first | exact Or.inl rfl | exact Or.inr rfl) pf_int)
      (fss_cons (fs_if (ft_cmp lt_ok (pf_var (pv 3)) (pf_callB len_ok (by rfl) T.z_len (by decide +kernel) (fa_cons (pf_ix ix_ok (pf_var (pv 0)) pf_int) fa_nil))) (fss_one (fs_set (i := 4) nd rfl (by first | exact Or.inl rfl | exact Or.inr rfl) (pf_ix ix_ok (pf_ix ix_ok (pf_var (pv 0)) pf_int) (pf_var (pv 3))))) (fss_one (fs_if (ft_cmp gt_ok (pf_callB len_ok (by rfl) T.z_len (by decide +kernel) (fa_cons (pf_ix ix_ok (pf_var (pv 0)) pf_int) fa_nil)) pf_int) (fss_one (fs_set (i := 4) nd rfl (by first | exact Or.inl rfl | exact Or.inr rfl) (pf_op (add_ok false) (pf_op mod_ok (pf_ix ix_ok (pf_ix ix_ok (pf_var (pv 0)) pf_int) (pf_op mod_ok (pf_op mul_ok (pf_var (pv 3)) pf_int) (pf_callB len_ok (by rfl) T.z_len (by decide +kernel) (fa_cons (pf_ix ix_ok (pf_var (pv 0)) pf_int) fa_nil)))) pf_int) (pf_op mul_ok (pf_var (pv 3)) pf_int)))) fss_nil)))
      (fss_cons (fs_asg (pf_op (add_ok false) (pf_var (pv 3)) pf_int) (fg_sub (pf_var (pv 0)) pf_int setL_ok))
      (fss_one (fs_asg (pf_call false (ok_law_fill T) (hr.mono (by decide)) (by rfl) T.g_law_fill T.F_law_fill.kp T.b_law_fill .nil (fun _ _ => rfl) (al_cons (al_cons al_nil)) (fa_cons (pf_var (pv 4)) (fa_cons (pf_var (pv 3)) fa_nil))) (fg_sub (pf_var (pv 0)) pf_int setL_ok))))))) fss_nil)
      (fss_cons (fs_set (i := 2) nd rfl (by first | exact Or.inl rfl | exact Or.inr rfl) (pf_op mod_ok (pf_ix ix_ok (pf_var (pv 0)) pf_int) (pf_var (pv 1))))
      (fss_cons (fs_asg (pf_op fdv_ok (pf_ix ix_ok (pf_var (pv 0)) pf_int) (pf_var (pv 1))) (fg_sub (pf_var (pv 0)) pf_int setL_ok))
      (fss_one (fs_ret (pf_var (pv 2)))))))
/-! _law_wcells -/
theorem sc_law_wcells : FnScope ["pen", "cells", "found", "k", "way"] ["pen", "cells"] (defScope st_law_wcells) := ⟨rfl, rfl, rfl, by decide +kernel, rfl, by decide +kernel, by decide +kernel⟩
noncomputable def m_law_wcells (a : Ad) : G := (sSeq (sIf (bOr (bVal (eBin (isN false) (eVar 1) (eC (.d .non)))) (bVal (eBin (eqvD false) (eCall (withD [] (callC false (f_law_next a))) (aCons (eVar 0) (aCons (eC (.d (.int 4))) aNil))) (eC (.d (.int 0)))))) (sRet (eLc true (iRng (aCons (eCall (withD [] (callC false (f_law_next a))) (aCons (eVar 0) (aCons (eC (.d (.int 31))) aNil))) aNil)) (tName 3) bYes (eBin dIx (eCall (oLst false) (aCons (eC (.d (.int 0))) (aCons (eC (.d (.int 1))) (aCons (eUn dNeg (eC (.d (.int 1)))) (aCons (eCall (withD [] (callC false (f_law_next a))) (aCons (eVar 0) (aCons (eBin dPow (eC (.d (.int 10))) (eC (.d (.int 12)))) aNil))) aNil))))) (eCall (withD [] (callC false (f_law_next a))) (aCons (eVar 0) (aCons (eC (.d (.int 4))) aNil)))) [3])) sNil)
  (sSeq (sAsg (eCall (oList true) (aCons (eVar 1) aNil)) (tName 2))
  (sSeq (sFor (iRng (aCons (eCall (withD [] (callC false (f_law_next a))) (aCons (eVar 0) (aCons (eC (.d (.int 4))) aNil))) aNil)) (tName 3) (sIf (bVal (eBin dGt (eCall oLen (aCons (eVar 2) aNil)) (eC (.d (.int 0))))) (sAsg (eCall (withD [] (callC false (f_law_next a))) (aCons (eVar 0) (aCons (eC (.d (.int 3))) aNil))) (tSub (eVar 2) (eCall (withD [] (callC false (f_law_next a))) (aCons (eVar 0) (aCons (eCall oLen (aCons (eVar 2) aNil)) aNil))) setL)) sNil))
  (sSeq (sAsg (eCall (withD [] (callC false (f_law_next a))) (aCons (eVar 0) (aCons (eC (.d (.int 3))) aNil))) (tName 4))
  (sSeq (sIf (bVal (eBin (eqvD false) (eVar 4) (eC (.d (.int 0))))) (sRet (eSlice (dSl true) (eVar 2) oNo (oSome (eCall (withD [] (callC false (f_law_next a))) (aCons (eVar 0) (aCons (eBin (dAdd false) (eCall oLen (aCons (eVar 2) aNil)) (eC (.d (.int 1)))) aNil)))))) sNil)
  (sRet (eBin (dAdd true) (eVar 2) (eLc false (iRng (aCons (eBin dMul (eCall (withD [] (callC false (f_law_next a))) (aCons (eVar 0) (aCons (eC (.d (.int 4))) aNil))) (eCall oInt (aCons (eBin (eqvD false) (eVar 4) (eC (.d (.int 1)))) aNil))) aNil)) (tName 3) bYes (eCall (withD [] (callC false (f_law_next a))) (aCons (eVar 0) (aCons (eC (.d (.int 2))) aNil))) [3]))))))))
noncomputable def f_law_wcells (a : Ad) : OpN := runG 5 (m_law_wcells a)
theorem ok_law_wcells (T : TX K mg a) : FnOk P w K mg base CX0 3 a.a_law_wcells a.d_law_wcells ["pen", "cells"] (spF K 2 (f_law_wcells a)) := by
  refine fn_okF (N := ["pen", "cells", "found", "k", "way"]) T.F_law_wcells sc_law_wcells fun cdv A outer s H E hr => ?_
  have nd := sc_law_wcells.nd
  exact (fss_cons (fs_if (PW.pt (fw_or (ft_cmp is_ok (pf_var (pv 1)) pf_non) (fw_or1 (ft_cmp (eq_ok hr.units) (pf_call false (ok_law_next T) (hr.mono (by decide)) (by rfl) T.g_law_next T.F_law_next.kp T.b_law_next .nil (fun _ _ => rfl) (al_cons (al_cons al_nil)) (fa_cons (pf_var (pv 0)) (fa_cons pf_int fa_nil))) pf_int)))) (fss_one (fs_ret (pf_lc (own := [("k", 3)]) true rfl nd (fi_rng1 (by rfl) T.z_range (fa_cons (pf_call false (ok_law_next T) (hr.mono (by decide)) (by rfl) T.g_law_next T.F_law_next.kp T.b_law_next .nil (fun _ _ => rfl) (al_cons (al_cons al_nil)) (fa_cons (pf_var (pv 0)) (fa_cons pf_int fa_nil))) fa_nil)) (blkOk_by (N := ["pen", "cells", "found", "k", "way"]) (sc := (defScope st_law_wcells)) (own := [("k", 3)]) (by decide +kernel)) (by decide) (fun _ _ _ _ _ => (fg_name (pg_name (i := 3) nd rfl (by first | exact Or.inl rfl | exact Or.inr rfl)))) (fun _ _ _ _ _ => fts_nil) (fun _ _ _ _ _ => (pf_ix ix_ok (pf_lst false (fa_cons pf_int (fa_cons pf_int (fa_cons (pf_un neg_ok pf_int) (fa_cons (pf_call false (ok_law_next T) (hr.mono (by decide)) (by rfl) T.g_law_next T.F_law_next.kp T.b_law_next .nil (fun _ _ => rfl) (al_cons (al_cons al_nil)) (fa_cons (pf_var (pv 0)) (fa_cons (pf_op pow_ok pf_int pf_int) fa_nil))) fa_nil))))) (pf_call false (ok_law_next T) (hr.mono (by decide)) (by rfl) T.g_law_next T.F_law_next.kp T.b_law_next .nil (fun _ _ => rfl) (al_cons (al_cons al_nil)) (fa_cons (pf_var (pv 0)) (fa_cons pf_int fa_nil)))))))) fss_nil)
      (fss_cons (fs_set (i := 2) nd rfl (by first | exact Or.inl rfl | exact Or.inr rfl) (pf_callTy (list_ok true) (by rfl) T.z_list (by decide +kernel) (fa_cons (pf_var (pv 1)) fa_nil)))
      (fss_cons (fs_for PassesOwn.never rfl (fi_rng1 (by rfl) T.z_range (fa_cons (pf_call false (ok_law_next T) (hr.mono (by decide)) (by rfl) T.g_law_next T.F_law_next.kp T.b_law_next .nil (fun _ _ => rfl) (al_cons (al_cons al_nil)) (fa_cons (pf_var (pv 0)) (fa_cons pf_int fa_nil))) fa_nil)) (fg_name (pg_name (i := 3) nd rfl (by first | exact Or.inl rfl | exact Or.inr rfl))) (fss_one (fs_if (ft_cmp gt_ok (pf_callB len_ok (by rfl) T.z_len (by decide +kernel) (fa_cons (pf_var (pv 2)) fa_nil)) pf_int) (fss_one (fs_asg (pf_call false (ok_law_next T) (hr.mono (by decide)) (by rfl) T.g_law_next T.F_law_next.kp T.b_law_next .nil (fun _ _ => rfl) (al_cons (al_cons al_nil)) (fa_cons (pf_var (pv 0)) (fa_cons pf_int fa_nil))) (fg_sub (pf_var (pv 2)) (pf_call false (ok_law_next T) (hr.mono (by decide)) (by rfl) T.g_law_next T.F_law_next.kp T.b_law_next .nil (fun _ _ => rfl) (al_cons (al_cons al_nil)) (fa_cons (pf_var (pv 0)) (fa_cons (pf_callB len_ok (by rfl) T.z_len (by decide +kernel) (fa_cons (pf_var (pv 2)) fa_nil)) fa_nil))) setL_ok))) fss_nil)))
      (fss_cons (fs_set (i := 4) nd rfl (by first | exact Or.inl rfl | exact Or.inr rfl) (pf_call false (ok_law_next T) (hr.mono (by decide)) (by rfl) T.g_law_next T.F_law_next.kp T.b_law_next .nil (fun _ _ => rfl) (al_cons (al_cons al_nil)) (fa_cons (pf_var (pv 0)) (fa_cons pf_int fa_nil))))
      (fss_cons (fs_if (ft_cmp (eq_ok hr.units) (pf_var (pv 4)) pf_int) (fss_one (fs_ret (pf_slice (sl_ok true) (pf_var (pv 2)) fo_none (fo_some (pf_call false (ok_law_next T) (hr.mono (by decide)) (by rfl) T.g_law_next T.F_law_next.kp T.b_law_next .nil (fun _ _ => rfl) (al_cons (al_cons al_nil)) (fa_cons (pf_var (pv 0)) (fa_cons (pf_op (add_ok false) (pf_callB len_ok (by rfl) T.z_len (by decide +kernel) (fa_cons (pf_var (pv 2)) fa_nil)) pf_int) fa_nil))))))) fss_nil)
      (fss_one (fs_ret (pf_op (add_ok true) (pf_var (pv 2)) (pf_lc (own := [("k", 3)]) false rfl nd (fi_rng1 (by rfl) T.z_range (fa_cons (pf_op mul_ok (pf_call false (ok_law_next T) (hr.mono (by decide)) (by rfl) T.g_law_next T.F_law_next.kp T.b_law_next .nil (fun _ _ => rfl) (al_cons (al_cons al_nil)) (fa_cons (pf_var (pv 0)) (fa_cons pf_int fa_nil))) (pf_callTy int1_ok (by rfl) T.z_int (by decide +kernel) (fa_cons (pf_cmp (eq_ok hr.units) (pf_var (pv 4)) pf_int) fa_nil))) fa_nil)) (blkOk_by (N := ["pen", "cells", "found", "k", "way"]) (sc := (defScope st_law_wcells)) (own := [("k", 3)]) (by decide +kernel)) (by decide) (fun _ _ _ _ _ => (fg_name (pg_name (i := 3) nd rfl (by first | exact Or.inl rfl | exact Or.inr rfl)))) (fun _ _ _ _ _ => fts_nil) (fun _ _ _ _ _ => (pf_call false (ok_law_next T) (hr.mono (by decide)) (by rfl) T.g_law_next T.F_law_next.kp T.b_law_next .nil (fun _ _ => rfl) (al_cons (al_cons al_nil)) (fa_cons (pf_var (pv 0)) (fa_cons pf_int fa_nil)))))))))))))
/-! Image.__init__ -/
theorem sc_Image___init__ : FnScope ["self", "cells", "start", "rows"] ["self", "cells", "start", "rows"] (defScope st_Image___init__) := ⟨rfl, rfl, rfl, by decide +kernel, rfl, by decide +kernel, by decide +kernel⟩
noncomputable def m_Image___init__ (a : Ad) : G := (sSeq (sSetF a.C_Image "cells" (eCall (oList false) (aCons (eVar 1) aNil)) (eVar 0))
  (sSeq (sSetF a.C_Image "start" (eVar 2) (eVar 0))
  (sSetF a.C_Image "rows" (eCall (oList false) (aCons (eVar 3) aNil)) (eVar 0))))
noncomputable def f_Image___init__ (a : Ad) : OpN := runG 4 (m_Image___init__ a)
theorem ok_Image___init__ (T : TX K mg a) : FnOk P w K mg base CX0 1 a.a_Image___init__ a.d_Image___init__ ["self", "cells", "start", "rows"] (spF K 4 (f_Image___init__ a)) := by
  refine fn_okF (N := ["self", "cells", "start", "rows"]) T.F_Image___init__ sc_Image___init__ fun cdv A outer s H E hr => ?_
  have nd := sc_Image___init__.nd
  exact (fss_cons (fs_fld T.cl_Image T.n_Image_cells (pf_var (pv 0)) (pf_callTy (list_ok false) (by rfl) T.z_list (by decide +kernel) (fa_cons (pf_var (pv 1)) fa_nil)))
      (fss_cons (fs_fld T.cl_Image T.n_Image_start (pf_var (pv 0)) (pf_var (pv 2)))
      (fss_one (fs_fld T.cl_Image T.n_Image_rows (pf_var (pv 0)) (pf_callTy (list_ok false) (by rfl) T.z_list (by decide +kernel) (fa_cons (pf_var (pv 3)) fa_nil))))))
/-! cell_at -/
theorem sc_cell_at : FnScope ["cells", "address"] ["cells", "address"] (defScope st_cell_at) := ⟨rfl, rfl, rfl, by decide +kernel, rfl, by decide +kernel, by decide +kernel⟩
noncomputable def m_cell_at (a : Ad) : G := (sRet (eIf (bVal (eBin dLt (eVar 1) (eCall oLen (aCons (eVar 0) aNil)))) (eBin dIx (eVar 0) (eVar 1)) (eC (.d .non))))
noncomputable def f_cell_at (a : Ad) : OpN := runG 2 (m_cell_at a)
theorem ok_cell_at (T : TX K mg a) : FnOk P w K mg base CX0 1 a.a_cell_at a.d_cell_at ["cells", "address"] (spF K 2 (f_cell_at a)) := by
  refine fn_okF (N := ["cells", "address"]) T.F_cell_at sc_cell_at fun cdv A outer s H E hr => ?_
  have nd := sc_cell_at.nd
  exact (fss_one (fs_ret (pf_ifx (ft_cmp lt_ok (pf_var (pv 1)) (pf_callB len_ok (by rfl) T.z_len (by decide +kernel) (fa_cons (pf_var (pv 0)) fa_nil))) (pf_ix ix_ok (pf_var (pv 0)) (pf_var (pv 1))) pf_non)))
/-! Image.__len__ -/
theorem sc_Image___len__ : FnScope ["self"] ["self"] (defScope st_Image___len__) := ⟨rfl, rfl, rfl, by decide +kernel, rfl, by decide +kernel, by decide +kernel⟩
noncomputable def m_Image___len__ (a : Ad) : G := (sRet (eCall oLen (aCons (eUn (dFld a.C_Image "cells") (eVar 0)) aNil)))
noncomputable def f_Image___len__ (a : Ad) : OpN := runG 1 (m_Image___len__ a)
theorem ok_Image___len__ (T : TX K mg a) : FnOk P w K mg base CX0 1 a.a_Image___len__ a.d_Image___len__ ["self"] (spF K 1 (f_Image___len__ a)) := by
  refine fn_okF (N := ["self"]) T.F_Image___len__ sc_Image___len__ fun cdv A outer s H E hr => ?_
  have nd := sc_Image___len__.nd
  exact (fss_one (fs_ret (pf_callB len_ok (by rfl) T.z_len (by decide +kernel) (fa_cons (pf_fld T.cl_Image T.n_Image_cells (pf_var (pv 0))) fa_nil))))
/-! changed -/
theorem sc_changed : FnScope ["image", "other", "pairs", "k", "old", "new"] ["image", "other"] (defScope st_changed) := ⟨rfl, rfl, rfl, by decide +kernel, rfl, by decide +kernel, by decide +kernel⟩
noncomputable def m_changed (a : Ad) : G := (sSeq (sAsg (eLc false (iRng (aCons (eCall oMax (aCons (eCall (oLenI a.C_Image false (f_Image___len__ a)) (aCons (eVar 0) aNil)) (aCons (eCall (oLenI a.C_Image false (f_Image___len__ a)) (aCons (eVar 1) aNil)) aNil))) aNil)) (tName 3) bYes (eCall oTup (aCons (eVar 3) (aCons (eCall (withD [] (callC false (f_cell_at a))) (aCons (eUn (dFld a.C_Image "cells") (eVar 0)) (aCons (eVar 3) aNil))) (aCons (eCall (withD [] (callC false (f_cell_at a))) (aCons (eUn (dFld a.C_Image "cells") (eVar 1)) (aCons (eVar 3) aNil))) aNil)))) [3]) (tName 2))
  (sRet (eLc true (iSeq (eVar 2)) (tTupG 3 (tsCons (tName 3) (tsCons (tName 4) (tsCons (tName 5) tsNil)))) (bVal (eBin (eqvD true) (eVar 4) (eVar 5))) (eCall oTup (aCons (eVar 3) (aCons (eVar 4) (aCons (eVar 5) aNil)))) [3, 4, 5])))
noncomputable def f_changed (a : Ad) : OpN := runG 6 (m_changed a)
theorem ok_changed (T : TX K mg a) : FnOk P w K mg base CX0 3 a.a_changed a.d_changed ["image", "other"] (spF K 2 (f_changed a)) := by
  refine fn_okF (N := ["image", "other", "pairs", "k", "old", "new"]) T.F_changed sc_changed fun cdv A outer s H E hr => ?_
  have nd := sc_changed.nd
  exact (fss_cons (fs_setLc (own := [("k", 3)]) false (i := 2) rfl nd rfl rfl (sw_true rfl rfl rfl (by decide +kernel)) (fi_rng1 (by rfl) T.z_range (fa_cons (pf_callB (max_ok rfl) (by rfl) T.z_max (by decide +kernel) (fa_cons (pf_callB (lenI_ok false T.ln_Image T.lnf_Image (ok_Image___len__ T) (hr.mono (by decide)) T.b_Image___len__) (by rfl) T.z_len (by decide +kernel) (fa_cons (pf_var (pv 0)) fa_nil)) (fa_cons (pf_callB (lenI_ok false T.ln_Image T.lnf_Image (ok_Image___len__ T) (hr.mono (by decide)) T.b_Image___len__) (by rfl) T.z_len (by decide +kernel) (fa_cons (pf_var (pv 1)) fa_nil)) fa_nil))) fa_nil)) (blkOk_by (N := ["image", "other", "pairs", "k", "old", "new"]) (sc := (defScope st_changed)) (own := [("k", 3)]) (by decide +kernel)) (by decide) (fun _ _ _ _ _ => (fg_name (pg_name (i := 3) nd rfl (by first | exact Or.inl rfl | exact Or.inr rfl)))) (fun _ _ _ _ _ => fts_nil) (fun _ _ _ _ _ => (pf_tup (fa_cons (pf_var (pv 3)) (fa_cons (pf_call false (ok_cell_at T) (hr.mono (by decide)) (by rfl) T.g_cell_at T.F_cell_at.kp T.b_cell_at .nil (fun _ _ => rfl) (al_cons (al_cons al_nil)) (fa_cons (pf_fld T.cl_Image T.n_Image_cells (pf_var (pv 0))) (fa_cons (pf_var (pv 3)) fa_nil))) (fa_cons (pf_call false (ok_cell_at T) (hr.mono (by decide)) (by rfl) T.g_cell_at T.F_cell_at.kp T.b_cell_at .nil (fun _ _ => rfl) (al_cons (al_cons al_nil)) (fa_cons (pf_fld T.cl_Image T.n_Image_cells (pf_var (pv 1))) (fa_cons (pf_var (pv 3)) fa_nil))) fa_nil))))))
      (fss_one (fs_ret (pf_lc (own := [("k", 3), ("old", 4), ("new", 5)]) true rfl nd (fi_seq (pf_var (pv 2))) (blkOk_by (N := ["image", "other", "pairs", "k", "old", "new"]) (sc := (defScope st_changed)) (own := [("k", 3), ("old", 4), ("new", 5)]) (by decide +kernel)) (by decide) (fun _ _ _ _ _ => (fg_tup rfl (fgs_cons (fg_name (pg_name (i := 3) nd rfl (by first | exact Or.inl rfl | exact Or.inr rfl))) (fgs_cons (fg_name (pg_name (i := 4) nd rfl (by first | exact Or.inl rfl | exact Or.inr rfl))) (fgs_cons (fg_name (pg_name (i := 5) nd rfl (by first | exact Or.inl rfl | exact Or.inr rfl))) fgs_nil))))) (fun _ _ _ _ _ => (fts_one (ft_cmp (ne_ok hr.units) (pf_var (pv 4)) (pf_var (pv 5))))) (fun _ _ _ _ _ => (pf_tup (fa_cons (pf_var (pv 3)) (fa_cons (pf_var (pv 4)) (fa_cons (pf_var (pv 5)) fa_nil)))))))))
/-! _law_wsame -/
theorem sc_law_wsame : FnScope ["found", "due", "a", "b"] ["found", "due"] (defScope st_law_wsame) := ⟨rfl, rfl, rfl, by decide +kernel, rfl, by decide +kernel, by decide +kernel⟩
noncomputable def m_law_wsame (a : Ad) (self : OpN) : G := (sSeq (sIf (bVal (eBin (isN false) (eVar 1) (eC (.d .non)))) (sRet (eBin (isN false) (eVar 0) (eC (.d .non)))) sNil)
  (sSeq (sIf (bOr (bVal (eCall oIsiX (aCons (eVar 1) (aCons (eC (.d (.op (.ty "bool")))) aNil)))) (bVal (eCall oIsiX (aCons (eVar 0) (aCons (eC (.d (.op (.ty "bool")))) aNil))))) (sRet (eAnd (eCall oIsiX (aCons (eVar 1) (aCons (eC (.d (.op (.ty "bool")))) aNil))) (eAnd (eCall oIsiX (aCons (eVar 0) (aCons (eC (.d (.op (.ty "bool")))) aNil))) (eBin (eqvD false) (eVar 0) (eVar 1))))) sNil)
  (sSeq (sIf (bVal (eCall oIsiX (aCons (eVar 1) (aCons (eC (.d (.op (.ty "int")))) aNil)))) (sRet (eAnd (eCall oIsiX (aCons (eVar 0) (aCons (eC (.d (.op (.ty "int")))) aNil))) (eBin (eqvD false) (eVar 0) (eVar 1)))) sNil)
  (sSeq (sIf (bVal (eCall oIsiX (aCons (eVar 1) (aCons (eC (.d (.op (.ty "str")))) aNil)))) (sRet (eAnd (eCall oIsiX (aCons (eVar 0) (aCons (eC (.d (.op (.ty "str")))) aNil))) (eBin (eqvD false) (eVar 0) (eVar 1)))) sNil)
  (sSeq (sIf (bVal (eBin (eqvD true) (eCall oIsiX (aCons (eVar 1) (aCons (eC (.d (.op (.ty "tuple")))) aNil))) (eCall oIsiX (aCons (eVar 0) (aCons (eC (.d (.op (.ty "tuple")))) aNil))))) (sRet (eC (.d (.bl false)))) sNil)
  (sSeq (sIf (bOr (bVal (eBin (eqvD true) (eCall oIsiX (aCons (eVar 1) (aCons (eC (.d (.op (.ty "list")))) aNil))) (eCall oIsiX (aCons (eVar 0) (aCons (eC (.d (.op (.ty "list")))) aNil))))) (bVal (eBin (eqvD true) (eCall oLen (aCons (eVar 0) aNil)) (eCall oLen (aCons (eVar 1) aNil))))) (sRet (eC (.d (.bl false)))) sNil)
  (sRet (eCall oAll (aCons (eLc false (iZip (eVar 0) (eVar 1)) (tTupG 2 (tsCons (tName 2) (tsCons (tName 3) tsNil))) bYes (eCall (withD [] (callC false self)) (aCons (eVar 2) (aCons (eVar 3) aNil))) [2, 3]) aNil)))))))))
noncomputable def g_law_wsame (a : Ad) : Nat → OpN
  | 0 => fun _ _ => none
  | d + 1 => runG 4 (m_law_wsame a (g_law_wsame a d))
noncomputable def f_law_wsame (a : Ad) : OpN := g_law_wsame a 4
theorem okd_law_wsame (T : TX K mg a) : ∀ d, FnOk P w K mg base CX0 (1 + d) a.a_law_wsame a.d_law_wsame ["found", "due"] (spF K 2 (g_law_wsame a d))
  | 0 => fn_none
  | d + 1 => by
    have ih := okd_law_wsame T d
    refine fn_okF (N := ["found", "due", "a", "b"]) (k := 1 + d) T.F_law_wsame sc_law_wsame fun cdv A outer s H E hr => ?_
    have nd := sc_law_wsame.nd
    exact (fss_cons (fs_if (ft_cmp is_ok (pf_var (pv 1)) pf_non) (fss_one (fs_ret (pf_cmp is_ok (pf_var (pv 0)) pf_non))) fss_nil)
      (fss_cons (fs_if (PW.pt (fw_or (ft_val (pf_callB isiX_ok (by rfl) T.z_isinstance (by decide +kernel) (fa_cons (pf_var (pv 1)) (fa_cons (pf_glob (pe_bltn (v := .ty "bool") (by rfl) T.z_bool (by decide +kernel) rfl) (fun _ => rfl)) fa_nil)))) (fw_or1 (ft_val (pf_callB isiX_ok (by rfl) T.z_isinstance (by decide +kernel) (fa_cons (pf_var (pv 0)) (fa_cons (pf_glob (pe_bltn (v := .ty "bool") (by rfl) T.z_bool (by decide +kernel) rfl) (fun _ => rfl)) fa_nil))))))) (fss_one (fs_ret (pf_and (pf_callB isiX_ok (by rfl) T.z_isinstance (by decide +kernel) (fa_cons (pf_var (pv 1)) (fa_cons (pf_glob (pe_bltn (v := .ty "bool") (by rfl) T.z_bool (by decide +kernel) rfl) (fun _ => rfl)) fa_nil))) (pf_and (pf_callB isiX_ok (by rfl) T.z_isinstance (by decide +kernel) (fa_cons (pf_var (pv 0)) (fa_cons (pf_glob (pe_bltn (v := .ty "bool") (by rfl) T.z_bool (by decide +kernel) rfl) (fun _ => rfl)) fa_nil))) (pf_one (pf_cmp (eq_ok hr.units) (pf_var (pv 0)) (pf_var (pv 1)))))))) fss_nil)
      (fss_cons (fs_if (ft_val (pf_callB isiX_ok (by rfl) T.z_isinstance (by decide +kernel) (fa_cons (pf_var (pv 1)) (fa_cons (pf_glob (pe_bltn (v := .ty "int") (by rfl) T.z_int (by decide +kernel) rfl) (fun _ => rfl)) fa_nil)))) (fss_one (fs_ret (pf_and (pf_callB isiX_ok (by rfl) T.z_isinstance (by decide +kernel) (fa_cons (pf_var (pv 0)) (fa_cons (pf_glob (pe_bltn (v := .ty "int") (by rfl) T.z_int (by decide +kernel) rfl) (fun _ => rfl)) fa_nil))) (pf_one (pf_cmp (eq_ok hr.units) (pf_var (pv 0)) (pf_var (pv 1))))))) fss_nil)
      (fss_cons (fs_if (ft_val (pf_callB isiX_ok (by rfl) T.z_isinstance (by decide +kernel) (fa_cons (pf_var (pv 1)) (fa_cons (pf_glob (pe_bltn (v := .ty "str") (by rfl) T.z_str (by decide +kernel) rfl) (fun _ => rfl)) fa_nil)))) (fss_one (fs_ret (pf_and (pf_callB isiX_ok (by rfl) T.z_isinstance (by decide +kernel) (fa_cons (pf_var (pv 0)) (fa_cons (pf_glob (pe_bltn (v := .ty "str") (by rfl) T.z_str (by decide +kernel) rfl) (fun _ => rfl)) fa_nil))) (pf_one (pf_cmp (eq_ok hr.units) (pf_var (pv 0)) (pf_var (pv 1))))))) fss_nil)
      (fss_cons (fs_if (ft_cmp (ne_ok hr.units) (pf_callB isiX_ok (by rfl) T.z_isinstance (by decide +kernel) (fa_cons (pf_var (pv 1)) (fa_cons (pf_glob (pe_bltn (v := .ty "tuple") (by rfl) T.z_tuple (by decide +kernel) rfl) (fun _ => rfl)) fa_nil))) (pf_callB isiX_ok (by rfl) T.z_isinstance (by decide +kernel) (fa_cons (pf_var (pv 0)) (fa_cons (pf_glob (pe_bltn (v := .ty "tuple") (by rfl) T.z_tuple (by decide +kernel) rfl) (fun _ => rfl)) fa_nil)))) (fss_one (fs_ret pf_bl)) fss_nil)
      (fss_cons (fs_if (PW.pt (fw_or (ft_cmp (ne_ok hr.units) (pf_callB isiX_ok (by rfl) T.z_isinstance (by decide +kernel) (fa_cons (pf_var (pv 1)) (fa_cons (pf_glob (pe_bltn (v := .ty "list") (by rfl) T.z_list (by decide +kernel) rfl) (fun _ => rfl)) fa_nil))) (pf_callB isiX_ok (by rfl) T.z_isinstance (by decide +kernel) (fa_cons (pf_var (pv 0)) (fa_cons (pf_glob (pe_bltn (v := .ty "list") (by rfl) T.z_list (by decide +kernel) rfl) (fun _ => rfl)) fa_nil)))) (fw_or1 (ft_cmp (ne_ok hr.units) (pf_callB len_ok (by rfl) T.z_len (by decide +kernel) (fa_cons (pf_var (pv 0)) fa_nil)) (pf_callB len_ok (by rfl) T.z_len (by decide +kernel) (fa_cons (pf_var (pv 1)) fa_nil)))))) (fss_one (fs_ret pf_bl)) fss_nil)
      (fss_one (fs_ret (pf_callB (all_ok rfl) (by rfl) T.z_all (by decide +kernel) (fa_cons (pf_lc (own := [("a", 2), ("b", 3)]) false rfl nd (fi_zip (by rfl) T.z_zip (fa_cons (pf_var (pv 0)) (fa_cons (pf_var (pv 1)) fa_nil))) (blkOk_by (N := ["found", "due", "a", "b"]) (sc := (defScope st_law_wsame)) (own := [("a", 2), ("b", 3)]) (by decide +kernel)) (by decide) (fun _ _ _ _ _ => (fg_tup rfl (fgs_cons (fg_name (pg_name (i := 2) nd rfl (by first | exact Or.inl rfl | exact Or.inr rfl))) (fgs_cons (fg_name (pg_name (i := 3) nd rfl (by first | exact Or.inl rfl | exact Or.inr rfl))) fgs_nil)))) (fun _ _ _ _ _ => fts_nil) (fun _ _ _ _ _ => (pf_call false ih (hr.mono (by omega)) (by rfl) T.g_law_wsame T.F_law_wsame.kp T.b_law_wsame .nil (fun _ _ => rfl) (al_cons (al_cons al_nil)) (fa_cons (pf_var (pv 2)) (fa_cons (pf_var (pv 3)) fa_nil))))) fa_nil))))))))))
theorem ok_law_wsame (T : TX K mg a) : FnOk P w K mg base CX0 5 a.a_law_wsame a.d_law_wsame ["found", "due"] (spF K 2 (f_law_wsame a)) := okd_law_wsame T 4
/-! _law_wdone -/
theorem sc_law_wdone : FnScope ["cells", "told", "found", "address", "old", "new", "k"] ["cells", "told"] (defScope st_law_wdone) := ⟨rfl, rfl, rfl, by decide +kernel, rfl, by decide +kernel, by decide +kernel⟩
noncomputable def m_law_wdone (a : Ad) : G := (sSeq (sAsg (eCall (oDictEn true) (aCons (eVar 0) aNil)) (tName 2))
  (sSeq (sFor (iSeq (eVar 1)) (tTupG 3 (tsCons (tName 3) (tsCons (tName 4) (tsCons (tName 5) tsNil)))) (sSeq (sIf (bVal (eBin (eqvD true) (eMethT isDic mGet (eVar 2) (aCons (eVar 3) (aCons (eC (.d .non)) aNil))) (eVar 4))) (sRet (eC (.d .non))) sNil)
  (sPutD (eVar 5) (eVar 2) (eVar 3))))
  (sRet (eLc true (iSeq (eCall (oSortDI false) (aCons (eVar 2) aNil))) (tName 6) (bVal (eBin (isN true) (eBin dDix (eVar 2) (eVar 6)) (eC (.d .non)))) (eBin dDix (eVar 2) (eVar 6)) [6]))))
noncomputable def f_law_wdone (a : Ad) : OpN := runG 7 (m_law_wdone a)
theorem ok_law_wdone (T : TX K mg a) : FnOk P w K mg base CX0 1 a.a_law_wdone a.d_law_wdone ["cells", "told"] (spF K 2 (f_law_wdone a)) := by
  refine fn_okF (N := ["cells", "told", "found", "address", "old", "new", "k"]) T.F_law_wdone sc_law_wdone fun cdv A outer s H E hr => ?_
  have nd := sc_law_wdone.nd
  exact (fss_cons (fs_set (i := 2) nd rfl (by first | exact Or.inl rfl | exact Or.inr rfl) (pf_dictEn true (by rfl) T.z_dict (by rfl) T.z_enumerate (fa_cons (pf_var (pv 0)) fa_nil)))
      (fss_cons (fs_for PassesOwn.never rfl (fi_seq (pf_var (pv 1))) (fg_tup rfl (fgs_cons (fg_name (pg_name (i := 3) nd rfl (by first | exact Or.inl rfl | exact Or.inr rfl))) (fgs_cons (fg_name (pg_name (i := 4) nd rfl (by first | exact Or.inl rfl | exact Or.inr rfl))) (fgs_cons (fg_name (pg_name (i := 5) nd rfl (by first | exact Or.inl rfl | exact Or.inr rfl))) fgs_nil)))) (fss_cons (fs_if (ft_cmp (ne_ok hr.units) (pf_dget2 (hu1 hr) (pf_var (pv 2)) (pf_var (pv 3)) pf_non) (pf_var (pv 4))) (fss_one (fs_ret pf_non)) fss_nil)
      (fss_one (fs_dput (hu1 hr) (pf_var (pv 2)) (pf_var (pv 3)) (pf_var (pv 5))))))
      (fss_one (fs_ret (pf_lc (own := [("k", 6)]) true rfl nd (fi_seq (pf_callB (sortDI_ok false rfl) (by rfl) T.z_sorted (by decide +kernel) (fa_cons (pf_var (pv 2)) fa_nil))) (blkOk_by (N := ["cells", "told", "found", "address", "old", "new", "k"]) (sc := (defScope st_law_wdone)) (own := [("k", 6)]) (by decide +kernel)) (by decide) (fun _ _ _ _ _ => (fg_name (pg_name (i := 6) nd rfl (by first | exact Or.inl rfl | exact Or.inr rfl)))) (fun _ _ _ _ _ => (fts_one (ft_cmp isnot_ok (pf_dix (hu1 hr) (pf_var (pv 2)) (pf_var (pv 6))) pf_non))) (fun _ _ _ _ _ => (pf_dix (hu1 hr) (pf_var (pv 2)) (pf_var (pv 6)))))))))
/-! law -/
theorem sc_law : FnScope ["script", "pen", "turn", "one", "other", "images", "due", "k", "again", "old", "new", "told"] ["script"] (defScope st_law) := ⟨rfl, rfl, rfl, by decide +kernel, rfl, by decide +kernel, by decide +kernel⟩
noncomputable def m_law (a : Ad) : G := (sSeq (sAsg (eCall (withD [] (callC true (f_law_wpen a))) (aCons (eVar 0) aNil)) (tName 1))
  (sSeq (sFor (iRng (aCons (eC (.d (.int 4))) aNil)) (tName 2) (sSeq (sAsg (eCall (withD [] (callC false (f_law_wcells a))) (aCons (eVar 1) (aCons (eC (.d .non)) aNil))) (tName 3))
  (sSeq (sAsg (eCall (withD [] (callC false (f_law_wcells a))) (aCons (eVar 1) (aCons (eVar 3) aNil))) (tName 4))
  (sSeq (sAsg (eCall (oLst true) (aCons (eCall (withD [] (oMake a.C_Image (f_Image___init__ a))) (aCons (eVar 3) (aCons (eC (.d (.int 1))) (aCons (eCall (oLst false) aNil) aNil)))) (aCons (eCall (withD [] (oMake a.C_Image (f_Image___init__ a))) (aCons (eVar 4) (aCons (eBin (dAdd false) (eC (.d (.int 1))) (eVar 2)) (aCons (eCall (oLst false) (aCons (eCall oTup (aCons (eCall oTup (aCons (eC (.d (.int 0))) (aCons (eC (.d (.int 0))) aNil))) (aCons (eC (.d (.int 1))) aNil))) aNil)) aNil)))) aNil))) (tName 5))
  (sSeq (sAsg (eCall (oLst true) aNil) (tName 6))
  (sSeq (sFor (iRng (aCons (eCall oMax (aCons (eCall oLen (aCons (eVar 3) aNil)) (aCons (eCall oLen (aCons (eVar 4) aNil)) aNil))) aNil)) (tName 7) (sSeq (sAsg (eIf (bVal (eBin dLt (eVar 7) (eCall oLen (aCons (eVar 3) aNil)))) (eBin dIx (eVar 3) (eVar 7)) (eC (.d .non))) (tName 9))
  (sSeq (sAsg (eIf (bVal (eBin dLt (eVar 7) (eCall oLen (aCons (eVar 4) aNil)))) (eBin dIx (eVar 4) (eVar 7)) (eC (.d .non))) (tName 10))
  (sIf (bVal (eBin (eqvD true) (eVar 9) (eVar 10))) (sExpr (eMethT isLst mAppend (eVar 6) (aCons (eCall oTup (aCons (eVar 7) (aCons (eVar 9) (aCons (eVar 10) aNil)))) aNil))) sNil))))
  (sSeq (sFor (iRng (aCons (eC (.d (.int 2))) aNil)) (tName 8) (sSeq (sAsg (eCall (withD [] (callC true (f_changed a))) (aCons (eBin dIx (eVar 5) (eC (.d (.int 0)))) (aCons (eBin dIx (eVar 5) (eC (.d (.int 1)))) aNil))) (tName 11))
  (sSeq (sIf (bOr (bNot (bVal (eCall (withD [] (callC false (f_law_wsame a))) (aCons (eVar 11) (aCons (eVar 6) aNil))))) (bVal (eBin (eqvD true) (eCall (withD [] (callC false (f_law_wdone a))) (aCons (eVar 3) (aCons (eVar 11) aNil))) (eVar 4)))) (sRet (eC (.d (.bl false)))) sNil)
  (sExpr (eMethT isLst mAppend (eVar 11) (aCons (eCall oTup aNil) aNil))))))
  (sSeq (sIf (bVal (eBin (eqvD true) (eCall (withD [] (callC false (f_changed a))) (aCons (eBin dIx (eVar 5) (eC (.d (.int 1)))) (aCons (eBin dIx (eVar 5) (eC (.d (.int 0)))) aNil))) (eLc false (iSeq (eVar 6)) (tTupG 3 (tsCons (tName 7) (tsCons (tName 9) (tsCons (tName 10) tsNil)))) bYes (eCall oTup (aCons (eVar 7) (aCons (eVar 10) (aCons (eVar 9) aNil)))) [7, 9, 10]))) (sRet (eC (.d (.bl false)))) sNil)
  (sIf (bOr (bVal (eBin (eqvD true) (eCall (withD [] (callC false (f_changed a))) (aCons (eBin dIx (eVar 5) (eC (.d (.int 0)))) (aCons (eBin dIx (eVar 5) (eC (.d (.int 0)))) aNil))) (eCall (oLst false) aNil))) (bOr (bVal (eBin (eqvD true) (eUn (dFld a.C_Image "cells") (eBin dIx (eVar 5) (eC (.d (.int 0))))) (eVar 3))) (bVal (eBin (eqvD true) (eUn (dFld a.C_Image "cells") (eBin dIx (eVar 5) (eC (.d (.int 1))))) (eVar 4))))) (sRet (eC (.d (.bl false)))) sNil)))))))))
  (sRet (eC (.d (.bl true))))))
noncomputable def f_law (a : Ad) : OpN := runG 12 (m_law a)
theorem ok_law (T : TX K mg a) : FnG P w K mg base a.a_law a.d_law ["script"] (spF K 1 (f_law a)) := by
  refine fnG_of (N := ["script", "pen", "turn", "one", "other", "images", "due", "k", "again", "old", "new", "told"]) (k := 5) T.F_law sc_law ⟨rfl, by decide, by decide⟩ fun cdv s H E hr => ?_
  have nd := sc_law.nd
  exact (fss_cons (fs_set (i := 1) nd rfl (by first | exact Or.inl rfl | exact Or.inr rfl) (pf_call true (ok_law_wpen T) (hr.mono (by decide)) (by rfl) T.g_law_wpen T.F_law_wpen.kp T.b_law_wpen .nil (fun _ _ => rfl) (al_cons al_nil) (fa_cons (pf_var (pv 0)) fa_nil)))
      (fss_cons (fs_for PassesOwn.never rfl (fi_rng1 (by rfl) T.z_range (fa_cons pf_int fa_nil)) (fg_name (pg_name (i := 2) nd rfl (by first | exact Or.inl rfl | exact Or.inr rfl))) (fss_cons (fs_set (i := 3) nd rfl (by first | exact Or.inl rfl | exact Or.inr rfl) (pf_call false (ok_law_wcells T) (hr.mono (by decide)) (by rfl) T.g_law_wcells T.F_law_wcells.kp T.b_law_wcells .nil (fun _ _ => rfl) (al_cons (al_cons al_nil)) (fa_cons (pf_var (pv 1)) (fa_cons pf_non fa_nil))))
      (fss_cons (fs_set (i := 4) nd rfl (by first | exact Or.inl rfl | exact Or.inr rfl) (pf_call false (ok_law_wcells T) (hr.mono (by decide)) (by rfl) T.g_law_wcells T.F_law_wcells.kp T.b_law_wcells .nil (fun _ _ => rfl) (al_cons (al_cons al_nil)) (fa_cons (pf_var (pv 1)) (fa_cons (pf_var (pv 3)) fa_nil))))
      (fss_cons (fs_set (i := 5) nd rfl (by first | exact Or.inl rfl | exact Or.inr rfl) (pf_lst true (fa_cons (pf_make T.mk_Image (ok_Image___init__ T) (hr.mono (by decide)) (by rfl) T.g_Image T.b_Image___init__ .nil (fun _ _ => rfl) (al_cons (al_cons (al_cons al_nil))) (fa_cons (pf_var (pv 3)) (fa_cons pf_int (fa_cons (pf_lst false fa_nil) fa_nil)))) (fa_cons (pf_make T.mk_Image (ok_Image___init__ T) (hr.mono (by decide)) (by rfl) T.g_Image T.b_Image___init__ .nil (fun _ _ => rfl) (al_cons (al_cons (al_cons al_nil))) (fa_cons (pf_var (pv 4)) (fa_cons (pf_op (add_ok false) pf_int (pf_var (pv 2))) (fa_cons (pf_lst false (fa_cons (pf_tup (fa_cons (pf_tup (fa_cons pf_int (fa_cons pf_int fa_nil))) (fa_cons pf_int fa_nil))) fa_nil)) fa_nil)))) fa_nil))))
      (fss_cons (fs_set (i := 6) nd rfl (by first | exact Or.inl rfl | exact Or.inr rfl) (pf_lst true fa_nil))
      (fss_cons (fs_for PassesOwn.never rfl (fi_rng1 (by rfl) T.z_range (fa_cons (pf_callB (max_ok rfl) (by rfl) T.z_max (by decide +kernel) (fa_cons (pf_callB len_ok (by rfl) T.z_len (by decide +kernel) (fa_cons (pf_var (pv 3)) fa_nil)) (fa_cons (pf_callB len_ok (by rfl) T.z_len (by decide +kernel) (fa_cons (pf_var (pv 4)) fa_nil)) fa_nil))) fa_nil)) (fg_name (pg_name (i := 7) nd rfl (by first | exact Or.inl rfl | exact Or.inr rfl))) (fss_cons (fs_set (i := 9) nd rfl (by first | exact Or.inl rfl | exact Or.inr rfl) (pf_ifx (ft_cmp lt_ok (pf_var (pv 7)) (pf_callB len_ok (by rfl) T.z_len (by decide +kernel) (fa_cons (pf_var (pv 3)) fa_nil))) (pf_ix ix_ok (pf_var (pv 3)) (pf_var (pv 7))) pf_non))
      (fss_cons (fs_set (i := 10) nd rfl (by first | exact Or.inl rfl | exact Or.inr rfl) (pf_ifx (ft_cmp lt_ok (pf_var (pv 7)) (pf_callB len_ok (by rfl) T.z_len (by decide +kernel) (fa_cons (pf_var (pv 4)) fa_nil))) (pf_ix ix_ok (pf_var (pv 4)) (pf_var (pv 7))) pf_non))
      (fss_one (fs_if (ft_cmp (ne_ok hr.units) (pf_var (pv 9)) (pf_var (pv 10))) (fss_one (fs_expr (pf_bm PySem.F.plainAttrs_list PySem.F.slot_list_append PySem.F.type_list_append append_ok ty_lst (pf_var (pv 6)) (fa_cons (pf_tup (fa_cons (pf_var (pv 7)) (fa_cons (pf_var (pv 9)) (fa_cons (pf_var (pv 10)) fa_nil)))) fa_nil)))) fss_nil)))))
      (fss_cons (fs_for PassesOwn.never rfl (fi_rng1 (by rfl) T.z_range (fa_cons pf_int fa_nil)) (fg_name (pg_name (i := 8) nd rfl (by first | exact Or.inl rfl | exact Or.inr rfl))) (fss_cons (fs_set (i := 11) nd rfl (by first | exact Or.inl rfl | exact Or.inr rfl) (pf_call true (ok_changed T) (hr.mono (by decide)) (by rfl) T.g_changed T.F_changed.kp T.b_changed .nil (fun _ _ => rfl) (al_cons (al_cons al_nil)) (fa_cons (pf_ix ix_ok (pf_var (pv 5)) pf_int) (fa_cons (pf_ix ix_ok (pf_var (pv 5)) pf_int) fa_nil))))
      (fss_cons (fs_if (PW.pt (fw_or (ft_not (ft_val (pf_call false (ok_law_wsame T) (hr.mono (by decide)) (by rfl) T.g_law_wsame T.F_law_wsame.kp T.b_law_wsame .nil (fun _ _ => rfl) (al_cons (al_cons al_nil)) (fa_cons (pf_var (pv 11)) (fa_cons (pf_var (pv 6)) fa_nil))))) (fw_or1 (ft_cmp (ne_ok hr.units) (pf_call false (ok_law_wdone T) (hr.mono (by decide)) (by rfl) T.g_law_wdone T.F_law_wdone.kp T.b_law_wdone .nil (fun _ _ => rfl) (al_cons (al_cons al_nil)) (fa_cons (pf_var (pv 3)) (fa_cons (pf_var (pv 11)) fa_nil))) (pf_var (pv 4)))))) (fss_one (fs_ret pf_bl)) fss_nil)
      (fss_one (fs_expr (pf_bm PySem.F.plainAttrs_list PySem.F.slot_list_append PySem.F.type_list_append append_ok ty_lst (pf_var (pv 11)) (fa_cons (pf_tup fa_nil) fa_nil)))))))
      (fss_cons (fs_if (ft_cmp (ne_ok hr.units) (pf_call false (ok_changed T) (hr.mono (by decide)) (by rfl) T.g_changed T.F_changed.kp T.b_changed .nil (fun _ _ => rfl) (al_cons (al_cons al_nil)) (fa_cons (pf_ix ix_ok (pf_var (pv 5)) pf_int) (fa_cons (pf_ix ix_ok (pf_var (pv 5)) pf_int) fa_nil))) (pf_lc (own := [("k", 7), ("old", 9), ("new", 10)]) false rfl nd (fi_seq (pf_var (pv 6))) (blkOk_by (N := ["script", "pen", "turn", "one", "other", "images", "due", "k", "again", "old", "new", "told"]) (sc := (defScope st_law)) (own := [("k", 7), ("old", 9), ("new", 10)]) (by decide +kernel)) (by decide) (fun _ _ _ _ _ => (fg_tup rfl (fgs_cons (fg_name (pg_name (i := 7) nd rfl (by first | exact Or.inl rfl | exact Or.inr rfl))) (fgs_cons (fg_name (pg_name (i := 9) nd rfl (by first | exact Or.inl rfl | exact Or.inr rfl))) (fgs_cons (fg_name (pg_name (i := 10) nd rfl (by first | exact Or.inl rfl | exact Or.inr rfl))) fgs_nil))))) (fun _ _ _ _ _ => fts_nil) (fun _ _ _ _ _ => (pf_tup (fa_cons (pf_var (pv 7)) (fa_cons (pf_var (pv 10)) (fa_cons (pf_var (pv 9)) fa_nil))))))) (fss_one (fs_ret pf_bl)) fss_nil)
      (fss_one (fs_if (PW.pt (fw_or (ft_cmp (ne_ok hr.units) (pf_call false (ok_changed T) (hr.mono (by decide)) (by rfl) T.g_changed T.F_changed.kp T.b_changed .nil (fun _ _ => rfl) (al_cons (al_cons al_nil)) (fa_cons (pf_ix ix_ok (pf_var (pv 5)) pf_int) (fa_cons (pf_ix ix_ok (pf_var (pv 5)) pf_int) fa_nil))) (pf_lst false fa_nil)) (fw_or (ft_cmp (ne_ok hr.units) (pf_fld T.cl_Image T.n_Image_cells (pf_ix ix_ok (pf_var (pv 5)) pf_int)) (pf_var (pv 3))) (fw_or1 (ft_cmp (ne_ok hr.units) (pf_fld T.cl_Image T.n_Image_cells (pf_ix ix_ok (pf_var (pv 5)) pf_int)) (pf_var (pv 4))))))) (fss_one (fs_ret pf_bl)) fss_nil))))))))))
      (fss_one (fs_ret pf_bl))))
end
end Lw
/-! the mirrors, evaluated -/
namespace FL
open PySem PySem.Spec L2
section
variable {r : Rho} {a b c : M} {t : MS} {p q : MB}
@[simp] theorem ev_var {i : Nat} : eVar i r = (r.sl[i]?).bind fun o => o.map fun d => (d, r) := by
  unfold eVar
  cases r.sl[i]? with
  | none => rfl
  | some o => cases o <;> rfl
@[simp] theorem ev_c {w : W} : eC w r = some (w, r) := rfl
@[simp] theorem ev_un {g : Op1} : eUn g a r = (a r).bind fun x => (g x.2.cl x.1).map fun z => (z.1, { x.2 with cl := z.2 }) := by
  unfold eUn lift1
  cases a r with
  | none => rfl
  | some x =>
    show (match g x.2.cl x.1 with | some (d, c) => some (d, { x.2 with cl := c }) | none => none) = (g x.2.cl x.1).map _
    cases g x.2.cl x.1 <;> rfl
@[simp] theorem ev_bin {g : Op2} : eBin g a b r = (a r).bind fun x => (b x.2).bind fun y => (g y.2.cl x.1 y.1).map fun z => (z.1, { y.2 with cl := z.2 }) := by
  unfold eBin lift2
  cases a r with
  | none => rfl
  | some x =>
    show (match b x.2 with | some (y, r2) => _ | none => none) = (b x.2).bind _
    cases b x.2 with
    | none => rfl
    | some y =>
      show (match g y.2.cl x.1 y.1 with | some (d, c) => some (d, { y.2 with cl := c }) | none => none) = (g y.2.cl x.1 y.1).map _
      cases g y.2.cl x.1 y.1 <;> rfl
@[simp] theorem ev_nil : aNil r = some ([], r) := rfl
@[simp] theorem ev_cons : aCons a t r = (a r).bind fun x => (t x.2).map fun y => (x.1 :: y.1, y.2) := by
  unfold aCons
  cases a r with
  | none => rfl
  | some x =>
    show (match t x.2 with | some (xs, r2) => _ | none => none) = (t x.2).map _
    cases t x.2 <;> rfl
@[simp] theorem ev_call {g : OpN} : eCall g t r = (t r).bind fun x => (g x.2.cl x.1).map fun z => (z.1, { x.2 with cl := z.2 }) := by
  unfold eCall liftN
  cases t r with
  | none => rfl
  | some x =>
    show (match g x.2.cl x.1 with | some (d, c) => some (d, { x.2 with cl := c }) | none => none) = (g x.2.cl x.1).map _
    cases g x.2.cl x.1 <;> rfl
@[simp] theorem ev_methT {chk : List Cell → W → Bool} {g : OpN} : eMethT chk g a t r = (a r).bind fun x => if chk x.2.cl x.1 then (t x.2).bind fun y => (g y.2.cl (x.1 :: y.1)).map fun z => (z.1, { y.2 with cl := z.2 }) else none := by
  unfold eMethT
  cases a r with
  | none => rfl
  | some x =>
    obtain ⟨x1, x2⟩ := x
    simp only [Option.bind_some]
    split
    · cases t x2 with
      | none => rfl
      | some y =>
        simp only [Option.bind_some, liftN]
        cases g y.2.cl (x1 :: y.1) <;> rfl
    · rfl
@[simp] theorem ev_bVal : bVal a r = (a r).bind fun x => match x.1 with | .d (.bl b) => some (b, x.2) | _ => none := by
  unfold bVal
  cases a r with
  | none => rfl
  | some x =>
    obtain ⟨x1, x2⟩ := x
    simp only [Option.bind_some]
    split <;> simp_all
@[simp] theorem ev_bAnd : bAnd p q r = (p r).bind fun x => if x.1 then q x.2 else some (false, x.2) := by
  unfold bAnd
  rcases p r with _ | ⟨_ | _, _⟩ <;> rfl
@[simp] theorem ev_bOr : bOr p q r = (p r).bind fun x => if x.1 then some (true, x.2) else q x.2 := by
  unfold bOr
  rcases p r with _ | ⟨_ | _, _⟩ <;> rfl
@[simp] theorem ev_bNot : bNot p r = (p r).map fun x => (!x.1, x.2) := by
  unfold bNot
  rcases p r with _ | ⟨_, _⟩ <;> rfl
@[simp] theorem ev_bYes : bYes r = some (true, r) := rfl
@[simp] theorem ev_eIf : eIf p a b r = (p r).bind fun x => if x.1 then a x.2 else b x.2 := by
  unfold eIf
  rcases p r with _ | ⟨_ | _, _⟩ <;> rfl
@[simp] theorem ev_bTru : bTru a r = (a r).bind fun x => (truth x.2.cl x.1).map fun b => (b, x.2) := by
  unfold bTru
  cases a r with
  | none => rfl
  | some x =>
    show (match truth x.2.cl x.1 with | some b => some (b, x.2) | none => none) = (truth x.2.cl x.1).map _
    cases truth x.2.cl x.1 <;> rfl
@[simp] theorem ev_eAnd : eAnd a b r = (a r).bind fun x => match x.1 with | .d (.bl k) => if k then b x.2 else some x | _ => none := by
  unfold eAnd
  cases a r with
  | none => rfl
  | some x =>
    obtain ⟨x1, x2⟩ := x
    simp only [Option.bind_some]
    split <;> simp_all
@[simp] theorem ev_eOr : eOr a b r = (a r).bind fun x => match x.1 with | .d (.bl k) => if k then some x else b x.2 | _ => none := by
  unfold eOr
  cases a r with
  | none => rfl
  | some x =>
    obtain ⟨x1, x2⟩ := x
    simp only [Option.bind_some]
    split <;> simp_all
@[simp] theorem ev_oNo : oNo r = some (none, r) := rfl
@[simp] theorem ev_oSome : oSome a r = (a r).bind fun x => match x.1 with | .d (.int i) => some (some i, x.2) | _ => none := by
  unfold oSome
  cases a r with
  | none => rfl
  | some x =>
    obtain ⟨x1, x2⟩ := x
    simp only [Option.bind_some]
    split <;> simp_all
@[simp] theorem ev_eSlice {g : OpS} {lo hi : MO} : eSlice g a lo hi r = (a r).bind fun x => (lo x.2).bind fun y => (hi y.2).bind fun z => (g z.2.cl x.1 y.1 z.1).map fun u => (u.1, { z.2 with cl := u.2 }) := by
  unfold eSlice
  cases a r with
  | none => rfl
  | some x =>
    obtain ⟨x1, x2⟩ := x
    simp only [Option.bind_some]
    cases lo x2 with
    | none => rfl
    | some y =>
      simp only [Option.bind_some]
      cases hi y.2 with
      | none => rfl
      | some z =>
        simp only [Option.bind_some]
        cases g z.2.cl x1 y.1 z.1 <;> rfl
/-! targets -/
variable {g : MG} {gs : MGs} {d : W} {ds : List W}
@[simp] theorem ev_tName {i : Nat} : tName i d r = some { r with sl := r.sl.set i (some d) } := rfl
@[simp] theorem ev_tsNil : tsNil [] r = some r := rfl
@[simp] theorem ev_tsCons : tsCons g gs (d :: ds) r = (g d r).bind fun r1 => gs ds r1 := by
  show (match g d r with | some r1 => gs ds r1 | none => none) = _
  cases g d r <;> rfl
@[simp] theorem ev_tTup {n : Nat} : tTupG n gs d r = (asTup d).bind fun ds => if ds.length = n then gs ds r else none := by
  unfold tTupG
  cases asTup d <;> rfl
@[simp] theorem ev_tSub {o i : M} {s : OpSet} : tSub o i s d r = (o r).bind fun x => (i x.2).bind fun y => (s y.2.cl x.1 y.1 d).map fun c => { y.2 with cl := c } := by
  unfold tSub
  cases o r with
  | none => rfl
  | some x =>
    obtain ⟨x1, x2⟩ := x
    simp only [Option.bind_some]
    cases i x2 with
    | none => rfl
    | some y =>
      simp only [Option.bind_some]
      cases s y.2.cl x1 y.1 d <;> rfl
/-! statements -/
variable {h k : G}
def nxt (h : G) : Out → Option Out
  | .nx r => h r
  | o => some o
@[simp] theorem nxt_nx : nxt h (.nx r) = h r := rfl
@[simp] theorem nxt_ret {w : W} : nxt h (.ret w r) = some (.ret w r) := rfl
@[simp] theorem nxt_bk : nxt h (.bk r) = some (.bk r) := rfl
@[simp] theorem nxt_ct : nxt h (.ct r) = some (.ct r) := rfl
@[simp] theorem nxt_ite {c : Prop} [Decidable c] {x y : Option Out} : (if c then x else y).bind (nxt h) = if c then x.bind (nxt h) else y.bind (nxt h) := by
  split <;> rfl
@[simp] theorem ev_sNil : sNil r = some (.nx r) := rfl
@[simp] theorem ev_sSeq : sSeq k h r = (k r).bind (nxt h) := by
  unfold sSeq
  rcases k r with _ | (_ | _ | _ | _) <;> rfl
@[simp] theorem ev_sExpr : sExpr a r = (a r).map fun x => .nx x.2 := by
  unfold sExpr
  cases a r <;> rfl
@[simp] theorem ev_sRet : sRet a r = (a r).map fun x => .ret x.1 x.2 := by
  unfold sRet
  cases a r <;> rfl
@[simp] theorem ev_sRetN : sRetN r = some (.ret (.d .non) r) := rfl
@[simp] theorem ev_sIf : sIf p k h r = (p r).bind fun x => if x.1 then k x.2 else h x.2 := by
  unfold sIf
  rcases p r with _ | ⟨_ | _, _⟩ <;> rfl
@[simp] theorem ev_sAsg : sAsg a g r = (a r).bind fun x => (g x.1 x.2).map .nx := by
  unfold sAsg
  cases a r with
  | none => rfl
  | some x =>
    simp only [Option.bind_some]
    cases g x.1 x.2 <;> rfl
@[simp] theorem ev_sBrk : sBrk r = some (.bk r) := rfl
@[simp] theorem ev_sCnt : sCnt r = some (.ct r) := rfl
@[simp] theorem ev_sNever : sNever r = none := rfl
end
@[simp] theorem ev_withD (g : OpN) : withD [] g = g := by
  funext cl ds
  simp [withD]
def outF (m : Nat) : Option Out → R0
  | some (.ret w r) => fin m w r.cl
  | some (.nx r) => fin m (.d .non) r.cl
  | _ => none
@[simp] theorem outF_ret {m : Nat} {w : W} {r : Rho} : outF m (some (.ret w r)) = fin m w r.cl := rfl
@[simp] theorem outF_nx {m : Nat} {r : Rho} : outF m (some (.nx r)) = fin m (.d .non) r.cl := rfl
theorem run_eq {N : Nat} {g : G} {cl : List Cell} {ds : List W} : runG N g cl ds = outF cl.length (g ⟨ds.map some ++ List.replicate (N - ds.length) none, cl⟩) := by
  unfold runG
  generalize g _ = o
  rcases o with _ | (_ | _ | _ | _) <;> rfl
/-! the operations at plain values -/
def mulOk (i j : Int) : Bool := decide (i.natAbs.log2 + j.natAbs.log2 < 1000000)
def fdvOk (j : Int) : Bool := decide (0 < j ∧ j.natAbs.log2 < 9000)
section
variable {cl : List Cell} {i j : Int} {s t : Str}
@[simp] theorem op_dSub : dSub cl (.d (.int i)) (.d (.int j)) = some (.d (.int (i - j)), cl) := rfl
@[simp] theorem op_dMod : dMod cl (.d (.int i)) (.d (.int j)) = if 0 < j then some (.d (.int (i % j)), cl) else none := by
  simp only [dMod, dInt]
  split <;> rfl
@[simp] theorem op_dFdv : dFdv cl (.d (.int i)) (.d (.int j)) = if fdvOk j then some (.d (.int (i / j)), cl) else none := by
  simp only [dFdv, dInt, fdvOk]
  split <;> rename_i h <;> simp [h]
@[simp] theorem op_dLt : dLt cl (.d (.int i)) (.d (.int j)) = some (.d (.bl (decide (i < j))), cl) := rfl
@[simp] theorem op_dLe : dLe cl (.d (.int i)) (.d (.int j)) = some (.d (.bl (decide (i ≤ j))), cl) := rfl
@[simp] theorem op_dGt : dGt cl (.d (.int i)) (.d (.int j)) = some (.d (.bl (decide (j < i))), cl) := rfl
@[simp] theorem op_dGe : dGe cl (.d (.int i)) (.d (.int j)) = some (.d (.bl (decide (j ≤ i))), cl) := rfl
@[simp] theorem op_dMul : dMul cl (.d (.int i)) (.d (.int j)) = if mulOk i j then some (.d (.int (i * j)), cl) else none := by
  simp only [dMul, mulOk]
  split <;> rename_i h <;> simp [h]
@[simp] theorem op_dMulS : dMul cl (.d (.str s)) (.d (.int j)) = if 2 ≤ j ∧ j ≤ 1000 ∧ s.length ≤ 1000 ∧ s.length ≠ 0 then some (.d (.str (strRep s j.toNat)), cl) else none := rfl
@[simp] theorem op_dAdd {c : Bool} : dAdd c cl (.d (.int i)) (.d (.int j)) = some (.d (.int (i + j)), cl) := rfl
@[simp] theorem op_dAddS {c : Bool} : dAdd c cl (.d (.str s)) (.d (.str t)) = if s.length + t.length ≤ sizeLine then some (.d (.str (s ++ t)), cl) else none := rfl
theorem op_dPow18 : dPow cl (.d (.int 10)) (.d (.int 18)) = some (.d (.int 1000000000000000000), cl) := by
  simp only [dPow, dInt]
  rw [if_pos (by decide)]
  rfl
end
theorem log2_lt {n k : Nat} (h : n < 2 ^ (k + 1)) : n.log2 ≤ k := by
  by_cases h0 : n = 0
  · subst h0
    simp
  · exact Nat.lt_succ_iff.mp ((Nat.log2_lt h0).mpr h)
theorem log2_31 {i : Int} (h0 : 0 ≤ i) (h : i < 2147483648) : i.natAbs.log2 ≤ 30 := log2_lt (k := 30) (by omega)
theorem log2_64 {i : Int} (h0 : 0 ≤ i) (h : i < 2 ^ 64) : i.natAbs.log2 ≤ 63 := log2_lt (k := 63) (by omega)
theorem mulOk_of {i j : Int} (h0 : 0 ≤ i) (h : i < 2 ^ 64) (k0 : 0 ≤ j) (k : j < 2 ^ 64) : mulOk i j = true := by
  have := log2_64 h0 h
  have := log2_64 k0 k
  simp only [mulOk, decide_eq_true_eq]
  omega
theorem fdvOk_of {j : Int} (k0 : 0 < j) (k : j < 2 ^ 64) : fdvOk j = true := by
  have := log2_64 (by omega) k
  simp only [fdvOk, decide_eq_true_eq]
  omega
theorem mod_at {i m : Int} (h : 0 < m) (k : m ≤ 2147483648) : 0 ≤ i % m ∧ i % m < 2147483648 := ⟨Int.emod_nonneg _ (by omega), Int.lt_of_lt_of_le (Int.emod_lt_of_pos _ h) k⟩
end FL
/-! calls and comparisons at plain stores -/
namespace FL
open PySem PySem.Spec L2 PySem.PyData
/-! ### calls -/
@[simp] theorem refsA_nil : refsA [] = [] := rfl
@[simp] theorem refsA_d {x : D} {ws : List W} : refsA (.d x :: ws) = refsA ws := rfl
@[simp] theorem refsA_c {n : Nat} {ws : List W} : refsA (.cel n :: ws) = n :: refsA ws := rfl
@[simp] theorem refsA_m {ds : List D} : refsA (ds.map W.d) = [] := refsA_map ds
@[simp] theorem mapcA_nil {f : Nat → Nat} : mapcA f [] = [] := rfl
@[simp] theorem mapcA_d {f : Nat → Nat} {x : D} {ws : List W} : mapcA f (.d x :: ws) = .d x :: mapcA f ws := rfl
@[simp] theorem mapcA_c {f : Nat → Nat} {n : Nat} {ws : List W} : mapcA f (.cel n :: ws) = .cel (f n) :: mapcA f ws := rfl
@[simp] theorem mapcA_m {f : Nat → Nat} {ds : List D} : mapcA f (ds.map W.d) = ds.map W.d := mapcA_map f ds
@[simp] theorem datas_m {ds : List D} : datas (ds.map W.d) = some ds := datas_map ds
@[simp] theorem refs_lst {ws : List W} : (Cell.lst ws).refs = refsA ws := rfl
@[simp] theorem refs_dk {ks : List Key} {ws : List W} : (Cell.dk ks ws).refs = refsA ws := rfl
@[simp] theorem refs_dt {ks : List (List Key)} {ws : List W} : (Cell.dt ks ws).refs = refsA ws := rfl
@[simp] theorem refs_ins {C : Addr} {fs : List Str} {ws : List W} : (Cell.ins C fs ws).refs = refsA ws := rfl
@[simp] theorem mapc_lst {f : Nat → Nat} {ws : List W} : (Cell.lst ws).mapc f = .lst (mapcA f ws) := rfl
@[simp] theorem mapc_dk {f : Nat → Nat} {ks : List Key} {ws : List W} : (Cell.dk ks ws).mapc f = .dk ks (mapcA f ws) := rfl
@[simp] theorem mapc_dt {f : Nat → Nat} {ks : List (List Key)} {ws : List W} : (Cell.dt ks ws).mapc f = .dt ks (mapcA f ws) := rfl
@[simp] theorem mapc_ins {f : Nat → Nat} {C : Addr} {fs : List Str} {ws : List W} : (Cell.ins C fs ws).mapc f = .ins C fs (mapcA f ws) := rfl
@[simp] theorem wrefs_d {x : D} : (W.d x).refs = [] := rfl
@[simp] theorem wrefs_c {n : Nat} : (W.cel n).refs = [n] := rfl
@[simp] theorem wmapc_d {f : Nat → Nat} {x : D} : (W.d x).mapc f = .d x := rfl
@[simp] theorem wmapc_c {f : Nat → Nat} {n : Nat} : (W.cel n).mapc f = .cel (f n) := rfl
theorem callT (g : OpN) : callC true g = oCall g := rfl
theorem callF (g : OpN) : callC false g = oCallP g := rfl
/-- a call in which no cell takes part -/
theorem call_flat {c : Bool} {f : OpN} {cl : List Cell} {ws : List W} {x : D} (h1 : refsA ws = []) (h2 : ∀ g, mapcA g ws = ws) (h : f [] ws = some (.d x, [])) : callC c f cl ws = some (.d x, cl) := by
  have e : idsOf cl ws = [] := by
    unfold idsOf
    rw [h1]
    simp [clos]
  cases c with
  | false => simp [callC, oCallP, e, isPart, h1, part, h2, h, purW, merge, setAll]
  | true => simp [callC, oCall, e, isPart, h1, part, h2, h, merge, setAll]
/-- a call with the cells ids -/
theorem callP_of {f : OpN} {cl st st0 cl' : List Cell} {ws ws0 : List W} {ids : List Nat} {x : D} (h1 : idsOf cl ws = ids) (h2 : isPart cl ids = true) (h3 : ((refsA ws).all fun n => ids.contains n) = true) (h4 : part cl ids = st0) (h5 : mapcA (ix ids) ws = ws0)
    (h6 : f st0 ws0 = some (.d x, st)) (h7 : st.length = ids.length) (h8 : (st.all fun c => c.refs.all fun n => decide (n < ids.length)) = true) (h9 : merge cl ids st = cl') : callC false f cl ws = some (.d x, cl') := by
  show oCallP f cl ws = _
  have e7 : st.take ids.length = st := by rw [← h7, List.take_length]
  simp only [oCallP, h1]
  rw [if_pos (by rw [h2, h3]; rfl), h4, h5, h6]
  simp only [purW, e7]
  rw [if_pos h8, h9]
theorem callT_of {f : OpN} {cl st st0 cl' : List Cell} {ws ws0 : List W} {ids : List Nat} {x y : W} (h1 : idsOf cl ws = ids) (h2 : isPart cl ids = true) (h3 : ((refsA ws).all fun n => ids.contains n) = true) (h4 : part cl ids = st0) (h5 : mapcA (ix ids) ws = ws0)
    (h6 : f st0 ws0 = some (x, st)) (h8 : x.mapc (back cl.length ids) = y) (h9 : merge cl ids st = cl') : callC true f cl ws = some (y, cl') := by
  show oCall f cl ws = _
  simp only [oCall, h1]
  rw [if_pos (by rw [h2, h3]; rfl), h4, h5, h6]
  simp only [h8, h9]
/-- .. with one cell, that refers to none -/
theorem call_leaf {c : Bool} {f : OpN} {cl : List Cell} {k : Nat} {ce ce' : Cell} {ws ws0 : List W} {x : D} (hk : cl[k]? = some ce) (hr : ce.refs = []) (hm : ce.mapc (ix [k]) = ce) (h1 : (refsA ws).eraseDups = [k]) (h3 : ((refsA ws).all fun n => [k].contains n) = true) (h5 : mapcA (ix [k]) ws = ws0)
    (h6 : f [ce] ws0 = some (.d x, [ce'])) (hr' : ce'.refs = []) (hm' : ce'.mapc (back cl.length [k]) = ce') : callC c f cl ws = some (.d x, cl.set k ce') := by
  have hlt : k < cl.length := by
    by_cases h : k < cl.length
    · exact h
    · rw [List.getElem?_eq_none (by omega)] at hk
      cases hk
  have e : idsOf cl ws = [k] := by
    unfold idsOf
    rw [h1]
    simp [clos, cellAt, hk, hr]
  have e2 : isPart cl [k] = true := by
    have e : cellAt cl k = ce := by simp [cellAt, hk]
    simp [isPart, e, hr, hlt]
  have e4 : part cl [k] = [ce] := by simp [part, cellAt, hk, hm]
  have e9 : merge cl [k] [ce'] = cl.set k ce' := by simp [merge, hm', setAll]
  cases c with
  | false => exact callP_of e e2 h3 e4 h5 h6 rfl (by simp [hr']) e9
  | true => exact callT_of e e2 h3 e4 h5 h6 rfl e9
theorem call_leaf_t {f : OpN} {cl : List Cell} {k : Nat} {ce ce' : Cell} {ws ws0 : List W} (hk : cl[k]? = some ce) (hr : ce.refs = []) (hm : ce.mapc (ix [k]) = ce) (h1 : (refsA ws).eraseDups = [k]) (h3 : ((refsA ws).all fun n => [k].contains n) = true) (h5 : mapcA (ix [k]) ws = ws0) {xs : List D}
    (h6 : f [ce] ws0 = some (.cel 1, [ce', .lst (xs.map W.d)])) (hr' : ce'.refs = []) (hm' : ce'.mapc (back cl.length [k]) = ce') : callC false f cl ws = some (.d (.lst xs), cl.set k ce') := by
  have hlt : k < cl.length := by
    by_cases h : k < cl.length
    · exact h
    · rw [List.getElem?_eq_none (by omega)] at hk
      cases hk
  have e : idsOf cl ws = [k] := by
    unfold idsOf
    rw [h1]
    simp [clos, cellAt, hk, hr]
  have e2 : isPart cl [k] = true := by
    have e : cellAt cl k = ce := by simp [cellAt, hk]
    simp [isPart, e, hr, hlt]
  have e4 : part cl [k] = [ce] := by simp [part, cellAt, hk, hm]
  have e9 : merge cl [k] [ce'] = cl.set k ce' := by simp [merge, hm', setAll]
  have em : ∀ ys : List D, (ys.map W.d).mapM (purW [ce', .lst (xs.map W.d)] 1 7) = some ys := by
    intro ys
    induction ys with
    | nil => rfl
    | cons y ys ih => simp [List.mapM_cons, ih, purW]
  have ep : purW [ce', .lst (xs.map W.d)] 1 8 (.cel 1) = some (.lst xs) := by
    simp only [purW]
    simp only [show ¬ (1 < 1) by decide, if_false, List.getElem?_cons_succ, List.getElem?_cons_zero]
    rw [em xs]
    rfl
  show oCallP f cl ws = _
  simp only [oCallP, e]
  rw [if_pos (by rw [e2, h3]; rfl), e4, h5, h6]
  simp only [List.length_singleton, ep]
  rw [if_pos (by simp [hr'])]
  simp [e9]
/-! ### comparisons of data -/
mutual
def okD : Nat → D → Bool
  | _, .non => true
  | _, .bl _ => true
  | _, .int _ => true
  | _, .str x => strOk x
  | k + 1, .tup ds => okA k ds
  | k + 1, .rtup ds => okA k ds
  | k + 1, .lst ds => okA k ds
  | k + 1, .rol ds => okA k ds
  | _, _ => false
def okA : Nat → List D → Bool
  | _, [] => true
  | k, d :: ds => okD k d && okA k ds
end
theorem scal_ok {p : PyData} (h : PyData.canLay0 p = true) (k : p.depth = 0) (n : Nat) : PyData.canLay0 p = true ∧ p.depth ≤ n := ⟨h, by omega⟩
mutual
theorem okD_py : ∀ (k : Nat) (d : D), okD k d = true → ∃ p, d.py = some p ∧ p.canLay0 = true ∧ p.depth ≤ k + 1
  | k, .non, _ => ⟨.none, rfl, rfl, by simp [PyData.depth]⟩
  | k, .bl b, _ => ⟨.bool b, rfl, rfl, by simp [PyData.depth]⟩
  | k, .int i, _ => ⟨.int i, rfl, rfl, by simp [PyData.depth]⟩
  | k, .str x, h => ⟨.str x, rfl, by cases k <;> exact h, by simp [PyData.depth]⟩
  | k + 1, .tup ds, h => by
    obtain ⟨ps, e, e1, e2⟩ := okA_py k ds h
    exact ⟨.tuple ps, by simp [D.py, e], e1, by simp [PyData.depth]; omega⟩
  | k + 1, .rtup ds, h => by
    obtain ⟨ps, e, e1, e2⟩ := okA_py k ds h
    exact ⟨.tuple ps, by simp [D.py, e], e1, by simp [PyData.depth]; omega⟩
  | k + 1, .lst ds, h => by
    obtain ⟨ps, e, e1, e2⟩ := okA_py k ds h
    exact ⟨.list ps, by simp [D.py, e], e1, by simp [PyData.depth]; omega⟩
  | k + 1, .rol ds, h => by
    obtain ⟨ps, e, e1, e2⟩ := okA_py k ds h
    exact ⟨.list ps, by simp [D.py, e], e1, by simp [PyData.depth]; omega⟩
  | 0, .tup ds, h => nomatch h
  | 0, .rtup ds, h => nomatch h
  | 0, .lst ds, h => nomatch h
  | 0, .rol ds, h => nomatch h
  | 0, .ins _ _ _, h => nomatch h
  | 0, .dk _ _, h => nomatch h
  | 0, .dt _ _, h => nomatch h
  | 0, .op _, h => nomatch h
  | k + 1, .ins _ _ _, h => nomatch h
  | k + 1, .dk _ _, h => nomatch h
  | k + 1, .dt _ _, h => nomatch h
  | k + 1, .op _, h => nomatch h
theorem okA_py : ∀ (k : Nat) (ds : List D), okA k ds = true → ∃ ps, pyA ds = some ps ∧ PyData.canLayAll0 ps = true ∧ PyData.depthAll ps ≤ k + 1
  | k, [], _ => ⟨[], rfl, rfl, by simp [PyData.depthAll]⟩
  | k, d :: ds, h => by
    have h : (okD k d && okA k ds) = true := by cases k <;> exact h
    rw [Bool.and_eq_true] at h
    obtain ⟨p, e, e1, e2⟩ := okD_py k d h.1
    obtain ⟨ps, f, f1, f2⟩ := okA_py k ds h.2
    exact ⟨p :: ps, by simp [pyA, e, f], by simp [PyData.canLayAll0, e1, f1], by simp [PyData.depthAll]; omega⟩
end
theorem okD_shaped {d : D} (h : okD 60 d = true) : ∃ p, d.py = some p ∧ SeqAt.shaped p = true ∧ PyData.eqv p p = true := by
  obtain ⟨p, e, e1, e2⟩ := okD_py 60 d h
  exact ⟨p, e, by simp [SeqAt.shaped, e1]; omega, SeqAt.eqv_refl p e1⟩
section
variable {neg : Bool} {cl : List Cell} {d : D} {ds : List D} {n m : Nat} {s t : Str} {i j : Int}
theorem py_lst : (D.lst ds).py = (pyA ds).map .list := by simp [D.py]
theorem pyW_c (h : cl[n]? = some (.lst (ds.map W.d))) : pyW cl (.cel n) = (D.lst ds).py := by simp [pyW, h, py_lst]
theorem eqv_W {w1 w2 : W} (h1 : pyW cl w1 = d.py) (h2 : pyW cl w2 = d.py) (h : okD 60 d = true) : eqvD neg cl w1 w2 = some (.d (.bl (!neg)), cl) := by
  obtain ⟨p, e, e1, e2⟩ := okD_shaped h
  simp only [eqvD, h1, h2, e, e1, e2]
  cases neg <;> simp
theorem eqv_dd (h : okD 60 d = true) : eqvD neg cl (.d d) (.d d) = some (.d (.bl (!neg)), cl) := eqv_W rfl rfl h
theorem eqv_cd (hc : cl[n]? = some (.lst (ds.map W.d))) (h : okD 60 (.lst ds) = true) : eqvD neg cl (.cel n) (.d (.lst ds)) = some (.d (.bl (!neg)), cl) := eqv_W (pyW_c hc) rfl h
theorem eqv_cc (hc : cl[n]? = some (.lst (ds.map W.d))) (hd : cl[m]? = some (.lst (ds.map W.d))) (h : okD 60 (.lst ds) = true) : eqvD neg cl (.cel n) (.cel m) = some (.d (.bl (!neg)), cl) := eqv_W (pyW_c hc) (pyW_c hd) h
theorem eqv_nilW {w : W} (h1 : pyW cl w = (D.lst ds).py) (h : okD 60 (.lst ds) = true) : eqvD neg cl w (.d (.lst [])) = some (.d (.bl (sg neg ds.isEmpty)), cl) := by
  obtain ⟨p, e, e1, e2⟩ := okD_shaped h
  have e3 : pyW cl (.d (.lst [])) = some (.list []) := rfl
  have e4 : SeqAt.shaped (.list []) = true := by decide
  have e5 : PyData.eqv p (.list []) = ds.isEmpty := by
    rw [py_lst] at e
    obtain ⟨ps, q1, q2⟩ := Option.map_eq_some_iff.mp e
    subst q2
    cases ds with
    | nil =>
      cases q1
      rfl
    | cons x xs =>
      unfold pyA at q1
      split at q1
      · cases q1
        simp [PyData.eqv, PyData.eqvAll]
      · cases q1
  simp only [eqvD, h1, e, e3, e1, e4, e5, sg]
  simp
theorem eqv_c_nil (hc : cl[n]? = some (.lst (ds.map W.d))) (h : okD 60 (.lst ds) = true) : eqvD neg cl (.cel n) (.d (.lst [])) = some (.d (.bl (sg neg ds.isEmpty)), cl) := eqv_nilW (pyW_c hc) h
theorem eqv_d_nil (h : okD 60 (.lst ds) = true) : eqvD neg cl (.d (.lst ds)) (.d (.lst [])) = some (.d (.bl (sg neg ds.isEmpty)), cl) := eqv_nilW rfl h
theorem eqv_str (hs : strOk s = true) (ht : strOk t = true) : eqvD neg cl (.d (.str s)) (.d (.str t)) = some (.d (.bl (sg neg (decide (s = t)))), cl) := by
  have e1 : SeqAt.shaped (.str s) = true := by simp [SeqAt.shaped, PyData.canLay0, hs, PyData.depth]
  have e2 : SeqAt.shaped (.str t) = true := by simp [SeqAt.shaped, PyData.canLay0, ht, PyData.depth]
  have e3 : (D.str s).py = some (.str s) := rfl
  have e4 : (D.str t).py = some (.str t) := rfl
  have e5 : (s == t) = decide (s = t) := by by_cases h : s = t <;> simp [h]
  simp only [eqvD, pyW, e3, e4, e1, e2]
  simp [PyData.eqv, sg, e5]
theorem eqv_int : eqvD neg cl (.d (.int i)) (.d (.int j)) = some (.d (.bl (sg neg (decide (i = j)))), cl) := by
  have e1 : SeqAt.shaped (.int i) = true := rfl
  have e2 : SeqAt.shaped (.int j) = true := rfl
  have e3 : (D.int i).py = some (.int i) := rfl
  have e4 : (D.int j).py = some (.int j) := rfl
  have e5 : (i == j) = decide (i = j) := by by_cases h : i = j <;> simp [h]
  simp only [eqvD, pyW, e3, e4, e1, e2]
  simp [PyData.eqv, sg, e5]
end
theorem atI_nat {α : Type} {xs : List α} {i : Int} (h0 : 0 ≤ i) (h : i < xs.length) : atI xs i = xs[i.toNat]? := by
  simp [atI, ixN, h0, h]
end FL
/-! loops -/
namespace FL
open PySem PySem.Spec L2 PySem.PyData
theorem intsW_map (n : Nat) : ∀ lo : Int, intsW lo n = (List.range n).map fun i : Nat => W.d (.int (lo + i)) := by
  induction n with
  | zero => intro lo; rfl
  | succ n ih =>
    intro lo
    rw [List.range_succ_eq_map, List.map_cons, List.map_map]
    show W.d (.int lo) :: intsW (lo + 1) n = _
    rw [ih (lo + 1)]
    simp
    intro i _
    omega
theorem intsW_d (n : Nat) (lo : Int) : intsW lo n = ((List.range n).map fun i : Nat => D.int (lo + i)).map W.d := by rw [intsW_map, List.map_map]; rfl
/-- a for loop that runs to its end, or returns on the way -/
theorem forL_run {g : MG} {b : G} {ck : Ck} {I : Nat → Rho → Prop} {R : W → Rho → Prop} : ∀ (ds : List W) (k : Nat) (r : Rho), (∀ i d r, ds[i]? = some d → I (k + i) r → ckC ck r.cl ∧ ∃ r1, g d r = some r1 ∧ ((∃ r2, (b r1 = some (.nx r2) ∨ b r1 = some (.ct r2)) ∧ I (k + i + 1) r2) ∨ ∃ x r2, b r1 = some (.ret x r2) ∧ R x r2)) → (∀ r, I (k + ds.length) r → ckC ck r.cl) → I k r →
    (∃ r', forL g b ck ds r = some (.nx r') ∧ I (k + ds.length) r') ∨ ∃ x r', forL g b ck ds r = some (.ret x r') ∧ R x r'
  | [], k, r, _, he, h => .inl ⟨r, by simp only [forL]; rw [if_pos (he r h)], h⟩
  | d :: ds, k, r, hs, he, h => by
    obtain ⟨c, r1, e1, hb⟩ := hs 0 d r rfl h
    rcases hb with ⟨r2, e2, h2⟩ | ⟨x, r2, e2, h2⟩
    · have ih := forL_run (g := g) (b := b) (ck := ck) (I := I) (R := R) ds (k + 1) r2 (fun i d r q hi => by
          have := hs (i + 1) d r q (by rw [show k + (i + 1) = k + 1 + i by omega]; exact hi)
          rw [show k + (i + 1) = k + 1 + i by omega] at this
          exact this) (fun r hr => he r (by rw [List.length_cons, show k + (ds.length + 1) = k + 1 + ds.length by omega]; exact hr)) h2
      have e : forL g b ck (d :: ds) r = forL g b ck ds r2 := by
        rcases e2 with e2 | e2 <;> simp only [forL, e1, e2] <;> rw [if_pos c]
      rw [e, List.length_cons, show k + (ds.length + 1) = k + 1 + ds.length by omega]
      exact ih
    · exact .inr ⟨x, r2, by simp only [forL, e1, e2]; rw [if_pos c], h2⟩
/-- .. that runs to its end -/
theorem forL_all {g : MG} {b : G} {ck : Ck} {I : Nat → Rho → Prop} (ds : List W) (r : Rho) (hs : ∀ i d r, ds[i]? = some d → I i r → ckC ck r.cl ∧ ∃ r1, g d r = some r1 ∧ ∃ r2, (b r1 = some (.nx r2) ∨ b r1 = some (.ct r2)) ∧ I (i + 1) r2) (he : ∀ r, I ds.length r → ckC ck r.cl) (h : I 0 r) :
    ∃ r', forL g b ck ds r = some (.nx r') ∧ I ds.length r' := by
  have := forL_run (g := g) (b := b) (ck := ck) (I := I) (R := fun _ _ => False) ds 0 r (fun i d r q hi => by
    rw [Nat.zero_add] at hi ⊢
    obtain ⟨c, r1, e1, h2⟩ := hs i d r q hi
    exact ⟨c, r1, e1, .inl h2⟩) (fun r hr => he r (by rw [Nat.zero_add] at hr; exact hr)) h
  rw [Nat.zero_add] at this
  rcases this with h | ⟨_, _, _, h⟩
  · exact h
  · exact h.elim
/-- a while loop, by what is still to go -/
theorem while_run {c : MB} {b : G} {I : Nat → Rho → Prop} : ∀ (n : Nat) (r : Rho), I n r → (∀ n r, I (n + 1) r → ∃ r1 r2, c r = some (true, r1) ∧ b r1 = some (.nx r2) ∧ I n r2) → (∀ r, I 0 r → ∃ r1, c r = some (false, r1) ∧ I 0 r1) →
    ∃ r', whN c b (n + 1) r = some (.nx r') ∧ I 0 r'
  | 0, r, h, _, he => by
    obtain ⟨r1, e1, h1⟩ := he r h
    exact ⟨r1, by simp only [whN, e1], h1⟩
  | n + 1, r, h, hs, he => by
    obtain ⟨r1, r2, e1, e2, h2⟩ := hs n r h
    obtain ⟨r', e, h'⟩ := while_run n r2 h2 hs he
    refine ⟨r', ?_, h'⟩
    rw [whN]
    simp only [e1, e2]
    exact e
theorem sWhile_run {c : MB} {b : G} {I : Nat → Rho → Prop} (n : Nat) (r : Rho) (h : I n r) (hs : ∀ n r, I (n + 1) r → ∃ r1 r2, c r = some (true, r1) ∧ b r1 = some (.nx r2) ∧ I n r2) (he : ∀ r, I 0 r → ∃ r1, c r = some (false, r1) ∧ I 0 r1) : ∃ r', sWhile c b r = some (.nx r') ∧ I 0 r' := by
  obtain ⟨r', e, h'⟩ := while_run n r h hs he
  exact ⟨r', sWhile_of e, h'⟩
/-- a list comprehension whose parts change nothing -/
theorem lcL_pure {ck : Ck} {g : MG} {tt : MB} {te : M} {vs : List Nat} {cl : List Cell} {sl : List (Option W)} {keep : W → Bool} {val : W → D} (hck : ∀ c : Cell, ckC ck (cl ++ [c])) : ∀ (ds : List W) (acc : List D), acc.length + ds.length ≤ sizeLine →
    (∀ d ∈ ds, ∀ acc : List W, ∃ r1, g d ⟨wipeW sl vs, cl ++ [.lst acc]⟩ = some r1 ∧ ∃ r2, tt r1 = some (keep d, r2) ∧ r2.cl = cl ++ [.lst acc] ∧ (keep d = true → ∃ r3, te r2 = some (.d (val d), r3) ∧ r3.cl = cl ++ [.lst acc])) →
    lcL ck g tt te vs cl.length ds ⟨sl, cl ++ [.lst (acc.map W.d)]⟩ = some ⟨sl, cl ++ [.lst ((acc ++ (ds.filter keep).map val).map W.d)]⟩
  | [], acc, _, _ => by
    simp only [lcL]
    rw [if_pos (hck _)]
    simp
  | d :: ds, acc, hl, h => by
    obtain ⟨r1, e1, r2, e2, e3, h3⟩ := h d (List.mem_cons_self) (acc.map W.d)
    simp only [lcL]
    rw [if_pos (hck _), e1]
    simp only [e2]
    have h' := fun d' (hd : d' ∈ ds) => h d' (List.mem_cons_of_mem _ hd)
    rw [List.length_cons] at hl
    cases hk : keep d with
    | false =>
      simp only [e3]
      rw [lcL_pure hck ds acc (by omega) h', List.filter_cons, hk]
      rfl
    | true =>
      obtain ⟨r3, e4, e5⟩ := h3 hk
      simp only [e4, e5]
      have e6 : (cl ++ [Cell.lst (acc.map W.d)])[cl.length]? = some (.lst (acc.map W.d)) := by simp
      rw [e6]
      simp only
      rw [if_pos (by rw [List.length_map]; omega)]
      have e7 : (cl ++ [Cell.lst (acc.map W.d)]).set cl.length (.lst (acc.map W.d ++ [.d (val d)])) = cl ++ [.lst ((acc ++ [val d]).map W.d)] := by simp
      rw [e7, lcL_pure hck ds (acc ++ [val d]) (by rw [List.length_append, List.length_singleton]; omega) h', List.filter_cons, hk]
      simp
theorem lc_pure {c : Bool} {mi : MI} {g : MG} {tt : MB} {te : M} {vs : List Nat} {r : Rho} {ds : List W} {ck : Ck} {cl : List Cell} {sl : List (Option W)} (hi : mi r = some ((ds, ck), ⟨sl, cl⟩)) (keep : W → Bool) (val : W → D) (hck : ∀ c : Cell, ckC ck (cl ++ [c])) (hl : ds.length ≤ sizeLine) (hcl : (cl.all fun k => k.refs.all fun j => decide (j < cl.length)) = true)
    (h : ∀ d ∈ ds, ∀ acc : List W, ∃ r1, g d ⟨wipeW sl vs, cl ++ [.lst acc]⟩ = some r1 ∧ ∃ r2, tt r1 = some (keep d, r2) ∧ r2.cl = cl ++ [.lst acc] ∧ (keep d = true → ∃ r3, te r2 = some (.d (val d), r3) ∧ r3.cl = cl ++ [.lst acc])) :
    eLc c mi g tt te vs r = some (if c then (.cel cl.length, ⟨sl, cl ++ [.lst (((ds.filter keep).map val).map W.d)]⟩) else (.d (.lst ((ds.filter keep).map val)), ⟨sl, cl⟩)) := by
  unfold eLc
  rw [hi]
  simp only
  have e := lcL_pure (ck := ck) (g := g) (tt := tt) (te := te) (vs := vs) (sl := sl) (keep := keep) (val := val) hck ds [] (by simpa using hl) h
  simp only [List.map_nil] at e
  rw [e]
  simp only [List.nil_append, unCell]
  cases c with
  | true => rfl
  | false =>
    have e2 : ∀ c : Cell, (cl ++ [c])[cl.length]? = some c := by simp
    have e3 : ∀ c : Cell, (cl ++ [c]).take cl.length = cl := by simp
    simp only [e2, e3, datas_m]
    rw [if_neg (by decide), if_pos ⟨by simp, hcl⟩]
    rfl
end FL
/-! list cells of data -/
namespace FL
open PySem PySem.Spec L2 PySem.PyData
def lstD (P : List D) : Cell := .lst (P.map W.d)
@[simp] theorem lstD_refs {P : List D} : (lstD P).refs = [] := refsA_map P
@[simp] theorem lstD_mapc {P : List D} {f : Nat → Nat} : (lstD P).mapc f = lstD P := congrArg Cell.lst (mapcA_map f P)
theorem set_same {cl : List Cell} {l : Nat} {c : Cell} (h : cl[l]? = some c) : cl.set l c = cl := by
  apply List.ext_getElem?
  intro i
  by_cases e : l = i
  · subst e
    rw [List.getElem?_set_self (by rw [List.getElem?_eq_some_iff] at h; exact h.1), h]
  · rw [List.getElem?_set_ne e]
theorem erase_map {α β : Type} (f : α → β) : ∀ (P : List α) (i : Nat), (P.map f).eraseIdx i = (P.eraseIdx i).map f
  | [], _ => rfl
  | _ :: _, 0 => rfl
  | x :: P, i + 1 => by
    show f x :: (P.map f).eraseIdx i = f x :: (P.eraseIdx i).map f
    rw [erase_map f P i]
theorem seq_at {i n : Nat} (h : i < n) : seqIndex? (i : Int) n = some i := by
  simp [seqIndex?]
  omega
section
variable {cl : List Cell} {n i : Nat} {P : List D} {x : D}
@[simp] theorem lstD_g {cl : List Cell} (h : cl[n]? = some (lstD P)) : cellL cl (.cel n) = some (n, P.map W.d) := by simp [cellL, h, lstD]
theorem isLst_c (h : cl[n]? = some (lstD P)) : isLst cl (.cel n) = true := by simp [isLst, asList, h, lstD]
theorem len_c (h : cl[n]? = some (lstD P)) : oLen cl [.cel n] = some (.d (.int P.length), cl) := by simp [oLen, lenW, asTup, asList, h, lstD]
theorem len_d : oLen cl [.d (.lst P)] = some (.d (.int P.length), cl) := by simp [oLen, lenW, asTup, asList]
theorem pop_c (h : cl[n]? = some (lstD (P ++ [x]))) : mPop cl [.cel n] = some (.d x, cl.set n (lstD P)) := by
  have e : lstD P = .lst (P.map W.d) := rfl
  simp [mPop, lstD_g h, e]
theorem popAt_c (h : cl[n]? = some (lstD P)) (hi : i < P.length) (hl : P.length < 2 ^ 60) : mPopAt cl [.cel n, .d (.int i)] = some (.d P[i], cl.set n (lstD (P.eraseIdx i))) := by
  have e : lstD (P.eraseIdx i) = .lst ((P.eraseIdx i).map W.d) := rfl
  simp only [mPopAt, lstD_g h]
  rw [if_pos (by constructor <;> omega), seq_at (by rw [List.length_map]; exact hi), e]
  simp [hi, erase_map]
theorem ins_c (h : cl[n]? = some (lstD P)) (hl : P.length < 2 ^ 20) (hi : i < 2 ^ 60) : mInsert cl [.cel n, .d (.int i), .d x] = some (.d .non, cl.set n (lstD (P.take i ++ [x] ++ P.drop i))) := by
  have e : lstD (P.take i ++ [x] ++ P.drop i) = .lst ((P.take i ++ [x] ++ P.drop i).map W.d) := rfl
  have sz : sizeLine = 2 ^ 24 := rfl
  simp only [mInsert, lstD_g h]
  rw [if_pos (by rw [List.length_map, sz]; refine ⟨?_, ?_, ?_⟩ <;> omega), e]
  simp [List.map_take, List.map_drop]
theorem set_c (h : cl[n]? = some (lstD P)) (hi : i < P.length) : setL cl (.cel n) (.d (.int i)) (.d x) = some (cl.set n (lstD (P.set i x))) := by
  have e : lstD (P.set i x) = .lst ((P.set i x).map W.d) := rfl
  have e2 : ixN P.length i = some i := by simp [ixN, hi]
  simp only [setL, lstD_g h, List.length_map, e2]
  rw [e, List.map_set]
theorem app_c (h : cl[n]? = some (lstD P)) (hl : P.length < 2 ^ 20) : mAppend cl [.cel n, .d x] = some (.d .non, cl.set n (lstD (P ++ [x]))) := by
  have e : lstD (P ++ [x]) = .lst ((P ++ [x]).map W.d) := rfl
  have sz : sizeLine = 2 ^ 24 := rfl
  simp only [mAppend, lstD_g h]
  rw [if_pos (by rw [List.length_map, sz]; omega), e]
  simp
theorem at_c (h : cl[n]? = some (lstD P)) (hi : i < P.length) : dIx cl (.cel n) (.d (.int i)) = some (.d P[i], cl) := by
  simp only [dIx, asTup, asList, h, lstD, Option.bind_some]
  rw [atI_nat (by omega) (by simpa using hi)]
  simp [hi]
theorem at_d (hi : i < P.length) : dIx cl (.d (.lst P)) (.d (.int i)) = some (.d P[i], cl) := by
  simp only [dIx, asTup, asList, Option.bind_some]
  rw [atI_nat (by omega) (by simpa using hi)]
  simp [hi]
theorem at_t (hi : i < P.length) : dIx cl (.d (.tup P)) (.d (.int i)) = some (.d P[i], cl) := by
  simp only [dIx, asTup]
  rw [atI_nat (by omega) (by simpa using hi)]
  simp [hi]
theorem at_t0 {ds : List D} : dIx cl (.d (.tup (x :: ds))) (.d (.int 0)) = some (.d x, cl) := at_t (P := x :: ds) (i := 0) (by simp)
theorem at_t1 {y : D} {ds : List D} : dIx cl (.d (.tup (y :: x :: ds))) (.d (.int 1)) = some (.d x, cl) := at_t (P := y :: x :: ds) (i := 1) (by simp)
theorem at_t2 {y z : D} {ds : List D} : dIx cl (.d (.tup (y :: z :: x :: ds))) (.d (.int 2)) = some (.d x, cl) := at_t (P := y :: z :: x :: ds) (i := 2) (by simp)
end
theorem okA_append {k : Nat} {P : List D} {x : D} (h : okA k P = true) (hx : okD k x = true) : okA k (P ++ [x]) = true := by
  induction P with
  | nil =>
    have : okA k [x] = (okD k x && okA k []) := by cases k <;> rfl
    show okA k [x] = true
    rw [this, hx]
    cases k <;> rfl
  | cons y P ih =>
    have h : (okD k y && okA k P) = true := by cases k <;> exact h
    rw [Bool.and_eq_true] at h
    have : okA k (y :: (P ++ [x])) = (okD k y && okA k (P ++ [x])) := by cases k <;> rfl
    show okA k (y :: (P ++ [x])) = true
    rw [this, h.1, ih h.2]
    rfl
theorem okA_cons {k : Nat} {y : D} {P : List D} : okA k (y :: P) = (okD k y && okA k P) := by cases k <;> rfl
theorem okA_iff {k : Nat} {P : List D} : okA k P = true ↔ ∀ x ∈ P, okD k x = true := by
  induction P with
  | nil =>
    have : okA k [] = true := by cases k <;> rfl
    simp [this]
  | cons y P ih => rw [okA_cons, Bool.and_eq_true, ih]; simp
theorem eqv_sne {cl : List Cell} {s t : Str} (neg : Bool) (hs : strOk s = true) (ht : strOk t = true) (h : ¬ s = t) : eqvD neg cl (.d (.str s)) (.d (.str t)) = some (.d (.bl neg), cl) := by
  rw [eqv_str hs ht, sg, decide_eq_false h]
  cases neg <;> rfl
theorem eqv_seq {cl : List Cell} {s : Str} (neg : Bool) (hs : strOk s = true) : eqvD neg cl (.d (.str s)) (.d (.str s)) = some (.d (.bl (!neg)), cl) := eqv_dd hs
@[simp] theorem ev_sFor {m : MI} {g : MG} {b : G} {r : Rho} : sFor m g b r = (m r).bind fun p => forL g b p.1.2 p.1.1 p.2 := by
  unfold sFor
  rcases m r with _ | ⟨⟨_, _⟩, _⟩ <;> rfl
end FL
/-! a list comprehension whose parts change cells -/
namespace FL
open PySem PySem.Spec L2
theorem lcL_run {g : MG} {tt : MB} {te : M} {vs : List Nat} {sl : List (Option W)} {n : Nat} {I : Nat → List Cell → List D → Prop} : ∀ (ds : List W) (k : Nat) (cl : List Cell) (acc : List D), cl.length = n → acc.length + ds.length ≤ sizeLine →
    (∀ i d cl acc, ds[i]? = some d → cl.length = n → I (k + i) cl acc → ∃ r1, g d ⟨wipeW sl vs, cl ++ [.lst (acc.map W.d)]⟩ = some r1 ∧ ∃ b r2, tt r1 = some (b, r2) ∧ ((b = false ∧ ∃ cl', r2.cl = cl' ++ [.lst (acc.map W.d)] ∧ cl'.length = n ∧ I (k + i + 1) cl' acc) ∨
      (b = true ∧ ∃ y r3 cl', te r2 = some (.d y, r3) ∧ r3.cl = cl' ++ [.lst (acc.map W.d)] ∧ cl'.length = n ∧ I (k + i + 1) cl' (acc ++ [y])))) → I k cl acc →
    ∃ cl' acc', lcL none g tt te vs n ds ⟨sl, cl ++ [.lst (acc.map W.d)]⟩ = some ⟨sl, cl' ++ [.lst (acc'.map W.d)]⟩ ∧ cl'.length = n ∧ I (k + ds.length) cl' acc'
  | [], k, cl, acc, hn, _, _, h => ⟨cl, acc, by simp only [lcL]; rw [if_pos (show ckC none _ from trivial)], hn, h⟩
  | d :: ds, k, cl, acc, hn, hl, hs, h => by
    rw [List.length_cons] at hl
    obtain ⟨r1, e1, b, r2, e2, hb⟩ := hs 0 d cl acc rfl hn h
    have next : ∀ i d cl acc, ds[i]? = some d → cl.length = n → I (k + 1 + i) cl acc → _ := fun i d cl acc q hn hi => by
      have := hs (i + 1) d cl acc q hn (by rw [show k + (i + 1) = k + 1 + i by omega]; exact hi)
      rw [show k + (i + 1) = k + 1 + i by omega] at this
      exact this
    rw [List.length_cons, show k + (ds.length + 1) = k + 1 + ds.length by omega]
    rcases hb with ⟨rfl, cl', q1, q2, q3⟩ | ⟨rfl, y, r3, cl', q0, q1, q2, q3⟩
    · obtain ⟨c2, a2, e, l2, i2⟩ := lcL_run ds (k + 1) cl' acc q2 (by omega) next q3
      refine ⟨c2, a2, ?_, l2, i2⟩
      simp only [lcL]
      rw [if_pos (show ckC none _ from trivial)]
      simp only [e1, e2, q1]
      exact e
    · obtain ⟨c2, a2, e, l2, i2⟩ := lcL_run ds (k + 1) cl' (acc ++ [y]) q2 (by rw [List.length_append, List.length_singleton]; omega) next q3
      refine ⟨c2, a2, ?_, l2, i2⟩
      have q6 : (cl' ++ [Cell.lst (acc.map W.d)])[n]? = some (.lst (acc.map W.d)) := by rw [← q2]; simp
      have q7 : (cl' ++ [Cell.lst (acc.map W.d)]).set n (.lst (acc.map W.d ++ [.d y])) = cl' ++ [.lst ((acc ++ [y]).map W.d)] := by rw [← q2]; simp
      simp only [lcL]
      rw [if_pos (show ckC none _ from trivial)]
      simp only [e1, e2, q0, q1, q6]
      rw [if_pos (by rw [List.length_map]; omega), q7]
      exact e
end FL
/-! plain data compared; the end of a def, any store; statements one by one -/
namespace FL
open PySem PySem.Spec L2 PySem.PyData
/-! ### data without truths, all tuples plain -/
mutual
def okE : Nat → D → Bool
  | _, .non => true
  | _, .int _ => true
  | _, .str x => strOk x
  | k + 1, .tup ds => okEA k ds
  | k + 1, .lst ds => okEA k ds
  | _, _ => false
def okEA : Nat → List D → Bool
  | _, [] => true
  | k, d :: ds => okE k d && okEA k ds
end
theorem okEA_cons {k : Nat} {d : D} {ds : List D} : okEA k (d :: ds) = (okE k d && okEA k ds) := by cases k <;> rfl
theorem okEA_nil {k : Nat} : okEA k [] = true := by cases k <;> rfl
theorem okEA_iff {k : Nat} {P : List D} : okEA k P = true ↔ ∀ x ∈ P, okE k x = true := by
  induction P with
  | nil => simp [okEA_nil]
  | cons y P ih => rw [okEA_cons, Bool.and_eq_true, ih]; simp
mutual
theorem okE_okD : ∀ (k : Nat) (d : D), okE k d = true → okD k d = true
  | 0, .non, _ => rfl
  | _ + 1, .non, _ => rfl
  | 0, .int _, _ => rfl
  | _ + 1, .int _, _ => rfl
  | 0, .str _, h => h
  | _ + 1, .str _, h => h
  | k + 1, .tup ds, h => okEA_okA k ds h
  | k + 1, .lst ds, h => okEA_okA k ds h
  | 0, .bl _, h => (nomatch h)
  | 0, .tup _, h => (nomatch h)
  | 0, .rtup _, h => (nomatch h)
  | 0, .lst _, h => (nomatch h)
  | 0, .rol _, h => (nomatch h)
  | 0, .ins _ _ _, h => (nomatch h)
  | 0, .dk _ _, h => (nomatch h)
  | 0, .dt _ _, h => (nomatch h)
  | 0, .op _, h => (nomatch h)
  | _ + 1, .bl _, h => (nomatch h)
  | _ + 1, .rtup _, h => (nomatch h)
  | _ + 1, .rol _, h => (nomatch h)
  | _ + 1, .ins _ _ _, h => (nomatch h)
  | _ + 1, .dk _ _, h => (nomatch h)
  | _ + 1, .dt _ _, h => (nomatch h)
  | _ + 1, .op _, h => (nomatch h)
theorem okEA_okA : ∀ (k : Nat) (ds : List D), okEA k ds = true → okA k ds = true
  | 0, [], _ => rfl
  | _ + 1, [], _ => rfl
  | k, d :: ds, h => by
    rw [okEA_cons, Bool.and_eq_true] at h
    rw [okA_cons, okE_okD k d h.1, okEA_okA k ds h.2]
    rfl
end

theorem py_tup {ds : List D} {p : PyData} (h : (D.tup ds).py = some p) : ∃ ps, pyA ds = some ps ∧ p = .tuple ps := by
  simp only [D.py] at h
  obtain ⟨ps, q1, q2⟩ := Option.map_eq_some_iff.mp h
  exact ⟨ps, q1, q2.symm⟩
theorem py_lst' {ds : List D} {p : PyData} (h : (D.lst ds).py = some p) : ∃ ps, pyA ds = some ps ∧ p = .list ps := by
  simp only [D.py] at h
  obtain ⟨ps, q1, q2⟩ := Option.map_eq_some_iff.mp h
  exact ⟨ps, q1, q2.symm⟩
theorem pyA_cons {d : D} {ds : List D} {ps : List PyData} (h : pyA (d :: ds) = some ps) : ∃ p ps', d.py = some p ∧ pyA ds = some ps' ∧ ps = p :: ps' := by
  unfold pyA at h
  split at h
  · rename_i p ps' h1 h2
    cases h
    exact ⟨_, _, h1, h2, rfl⟩
  · cases h
theorem pyA_nil {ps : List PyData} (h : pyA [] = some ps) : ps = [] := by
  cases h
  rfl
/-- what a plain data looks like -/
theorem okE_kind {k : Nat} {d : D} (h : okE k d = true) : d = .non ∨ (∃ i, d = .int i) ∨ (∃ s, d = .str s) ∨ (∃ ds k', d = .tup ds ∧ okEA k' ds = true ∧ k = k' + 1) ∨ ∃ ds k', d = .lst ds ∧ okEA k' ds = true ∧ k = k' + 1 := by
  cases d with
  | non => exact .inl rfl
  | int i => exact .inr (.inl ⟨i, rfl⟩)
  | str s => exact .inr (.inr (.inl ⟨s, rfl⟩))
  | tup ds => cases k with
    | zero => exact (nomatch h)
    | succ k => exact .inr (.inr (.inr (.inl ⟨ds, k, rfl, h, rfl⟩)))
  | lst ds => cases k with
    | zero => exact (nomatch h)
    | succ k => exact .inr (.inr (.inr (.inr ⟨ds, k, rfl, h, rfl⟩)))
  | _ => cases k <;> exact (nomatch h)
def SameD (k : Nat) : Prop := ∀ (l : Nat) (d e : D) (p q : PyData), okE k d = true → okE l e = true → d.py = some p → e.py = some q → PyData.eqv p q = true → d = e
theorem sameA {k : Nat} (h : SameD k) : ∀ (l : Nat) (ds es : List D) (ps qs : List PyData), okEA k ds = true → okEA l es = true → pyA ds = some ps → pyA es = some qs → PyData.eqvAll ps qs = true → ds = es
  | l, [], [], _, _, _, _, _, _, _ => rfl
  | l, [], e :: es, ps, qs, _, _, h1, h2, h3 => by
    cases pyA_nil h1
    obtain ⟨q, qs', _, _, rfl⟩ := pyA_cons h2
    exact (nomatch h3)
  | l, d :: ds, [], ps, qs, _, _, h1, h2, h3 => by
    cases pyA_nil h2
    obtain ⟨q, qs', _, _, rfl⟩ := pyA_cons h1
    exact (nomatch h3)
  | l, d :: ds, e :: es, ps, qs, a1, a2, h1, h2, h3 => by
    obtain ⟨p, ps', e1, e2, rfl⟩ := pyA_cons h1
    obtain ⟨q, qs', f1, f2, rfl⟩ := pyA_cons h2
    rw [okEA_cons, Bool.and_eq_true] at a1 a2
    have h3 : (PyData.eqv p q && PyData.eqvAll ps' qs') = true := by rw [← h3]; simp [PyData.eqvAll]
    rw [Bool.and_eq_true] at h3
    rw [h l d e p q a1.1 a2.1 e1 f1 h3.1, sameA h l ds es ps' qs' a1.2 a2.2 e2 f2 h3.2]
theorem sameD : ∀ k, SameD k := by
  intro k
  induction k with
  | zero => 
    intro l d e p q a1 a2 h1 h2 h3
    rcases okE_kind a1 with rfl | ⟨i, rfl⟩ | ⟨s, rfl⟩ | ⟨ds, k', rfl, b1, b2⟩ | ⟨ds, k', rfl, b1, b2⟩
    all_goals rcases okE_kind a2 with rfl | ⟨j, rfl⟩ | ⟨t, rfl⟩ | ⟨es, l', rfl, c1, c2⟩ | ⟨es, l', rfl, c1, c2⟩
    all_goals first | omega | skip
    all_goals first | (cases h1; cases h2; simp [PyData.eqv] at h3; first | rfl | (rw [h3]; done) | done) | skip
    all_goals first | (obtain ⟨qs, f1, rfl⟩ := py_tup h2; cases h1; simp [PyData.eqv] at h3; done) | skip
    all_goals (obtain ⟨qs, f1, rfl⟩ := py_lst' h2; cases h1; simp [PyData.eqv] at h3)
  | succ k ih =>
    intro l d e p q a1 a2 h1 h2 h3
    rcases okE_kind a1 with rfl | ⟨i, rfl⟩ | ⟨s, rfl⟩ | ⟨ds, k', rfl, b1, b2⟩ | ⟨ds, k', rfl, b1, b2⟩
    all_goals rcases okE_kind a2 with rfl | ⟨j, rfl⟩ | ⟨t, rfl⟩ | ⟨es, l', rfl, c1, c2⟩ | ⟨es, l', rfl, c1, c2⟩
    all_goals first | (cases h1; cases h2; simp [PyData.eqv] at h3; first | rfl | (rw [h3]; done) | done) | skip
    all_goals try obtain ⟨ps, e1, rfl⟩ := py_tup h1
    all_goals try obtain ⟨ps, e1, rfl⟩ := py_lst' h1
    all_goals try obtain ⟨qs, f1, rfl⟩ := py_tup h2
    all_goals try obtain ⟨qs, f1, rfl⟩ := py_lst' h2
    all_goals try cases h1
    all_goals try cases h2
    all_goals first | (simp [PyData.eqv] at h3; done) | skip
    all_goals (
      obtain rfl : k = k' := by omega
      have h3 : PyData.eqvAll ps qs = true := by rw [← h3]; simp [PyData.eqv]
      rw [sameA ih l' ds es ps qs b1 c1 e1 f1 h3])
section
open Classical
variable {cl : List Cell} {x y : D} {w1 w2 : W} {neg : Bool} {n m : Nat} {P Q : List D}
theorem eqvE_W (h1 : pyW cl w1 = x.py) (h2 : pyW cl w2 = y.py) (kx : okE 60 x = true) (ky : okE 60 y = true) : eqvD neg cl w1 w2 = some (.d (.bl (sg neg (decide (x = y)))), cl) := by
  obtain ⟨p, e, e1, e2⟩ := okD_shaped (okE_okD _ _ kx)
  obtain ⟨q, f, f1, f2⟩ := okD_shaped (okE_okD _ _ ky)
  have : PyData.eqv p q = decide (x = y) := by
    by_cases h : x = y
    · subst h
      rw [e] at f
      cases f
      rw [e2]
      simp
    · rw [decide_eq_false h]
      cases g : PyData.eqv p q with
      | false => rfl
      | true => exact absurd (sameD 60 60 x y p q kx ky e f g) h
  simp only [eqvD, h1, h2, e, f, e1, f1, this, sg]
  simp
theorem eqE_dd (kx : okE 60 x = true) (ky : okE 60 y = true) : eqvD neg cl (.d x) (.d y) = some (.d (.bl (sg neg (decide (x = y)))), cl) := eqvE_W rfl rfl kx ky
theorem eqE_cd (hc : cl[n]? = some (lstD P)) (kx : okE 60 (.lst P) = true) (ky : okE 60 (.lst Q) = true) : eqvD neg cl (.cel n) (.d (.lst Q)) = some (.d (.bl (sg neg (decide (P = Q)))), cl) := by
  rw [eqvE_W (pyW_c hc) rfl kx ky]
  simp
theorem eqE_dc (hc : cl[n]? = some (lstD P)) (kx : okE 60 (.lst P) = true) (ky : okE 60 (.lst Q) = true) : eqvD neg cl (.d (.lst Q)) (.cel n) = some (.d (.bl (sg neg (decide (Q = P)))), cl) := by
  rw [eqvE_W rfl (pyW_c hc) ky kx]
  simp
theorem eqE_cc (hc : cl[n]? = some (lstD P)) (hd : cl[m]? = some (lstD Q)) (kx : okE 60 (.lst P) = true) (ky : okE 60 (.lst Q) = true) : eqvD neg cl (.cel n) (.cel m) = some (.d (.bl (sg neg (decide (P = Q)))), cl) := by
  rw [eqvE_W (pyW_c hc) (pyW_c hd) kx ky]
  simp
end
end FL
/-! the end of a def over any store -/
namespace FL
open PySem PySem.Spec L2 PySem.PyData
theorem nodup_len : ∀ (n : Nat) (l : List Nat), l.Nodup → (∀ i ∈ l, i < n) → l.length ≤ n
  | 0, l, _, h => by
    cases l with
    | nil => simp
    | cons a l => exact absurd (h a (List.mem_cons_self)) (by omega)
  | n + 1, l, nd, h => by
    have h1 : (l.erase n).Nodup := nd.erase n
    have h2 : ∀ i ∈ l.erase n, i < n := fun i hi => by
      have q := (nd.mem_erase_iff).mp hi
      have := h i q.2
      omega
    have h3 := nodup_len n (l.erase n) h1 h2
    have h4 : l.length ≤ (l.erase n).length + 1 := by
      rw [List.length_erase]
      split <;> omega
    omega
theorem nodup_ed : ∀ (n : Nat) (l : List Nat), l.length ≤ n → l.eraseDups.Nodup ∧ ∀ x, x ∈ l.eraseDups ↔ x ∈ l
  | 0, l, h => by
    cases l with
    | nil => simp
    | cons a l => simp at h
  | n + 1, [], _ => by simp
  | n + 1, a :: l, h => by
    rw [List.eraseDups_cons]
    obtain ⟨h1, h2⟩ := nodup_ed n (l.filter fun b => !b == a) (by
      have := List.length_filter_le (fun b => !b == a) l
      simp only [List.length_cons] at h
      omega)
    refine ⟨List.nodup_cons.mpr ⟨fun q => ?_, h1⟩, fun x => ?_⟩
    · have := (h2 a).mp q
      simp at this
    · simp only [List.mem_cons, h2, List.mem_filter, Bool.not_eq_true', beq_eq_false_iff_ne]
      by_cases e : x = a <;> simp [e]
/-- every reference is to a cell of the store -/
def Wf (cl : List Cell) : Prop := ∀ i n, i < cl.length → n ∈ (cellAt cl i).refs → n < cl.length
theorem clos_ok {cl : List Cell} (wf : Wf cl) : ∀ (f : Nat) (ids : List Nat), ids.Nodup → (∀ i ∈ ids, i < cl.length) → cl.length < f + ids.length →
    (clos cl f ids).Nodup ∧ (∀ i ∈ clos cl f ids, i < cl.length) ∧ (∀ i ∈ clos cl f ids, ∀ n ∈ (cellAt cl i).refs, n ∈ clos cl f ids) ∧ ∃ t, clos cl f ids = ids ++ t
  | 0, ids, nd, hb, hf => absurd (nodup_len _ _ nd hb) (by omega)
  | f + 1, ids, nd, hb, hf => by
    obtain ⟨m1, m2⟩ := nodup_ed _ (ids.flatMap fun i => (cellAt cl i).refs) (Nat.le_refl _)
    unfold clos
    generalize hm : ((ids.flatMap fun i => (cellAt cl i).refs).eraseDups.filter fun n => !ids.contains n) = more
    have n1 : more.Nodup := by rw [← hm]; exact m1.filter _
    have n2 : ∀ x, x ∈ more ↔ (∃ i ∈ ids, x ∈ (cellAt cl i).refs) ∧ x ∉ ids := fun x => by
      rw [← hm, List.mem_filter, m2]
      simp
    simp only
    split
    · rename_i h0
      rw [List.isEmpty_iff] at h0
      subst h0
      refine ⟨nd, hb, fun i hi n hn => ?_, [], by simp⟩
      by_cases q : n ∈ ids
      · exact q
      · exact absurd ((n2 n).mpr ⟨⟨i, hi, hn⟩, q⟩) (by simp)
    · rename_i h0
      have hl : 0 < more.length := by
        cases more with
        | nil => simp at h0
        | cons _ _ => simp
      have nd2 : (ids ++ more).Nodup := List.nodup_append.mpr ⟨nd, n1, fun x hx y hy e => by
        subst e
        exact ((n2 x).mp hy).2 hx⟩
      have hb2 : ∀ i ∈ ids ++ more, i < cl.length := fun i hi => by
        rcases List.mem_append.mp hi with h | h
        · exact hb i h
        · obtain ⟨⟨j, hj, hn⟩, _⟩ := (n2 i).mp h
          exact wf j i (hb j hj) hn
      obtain ⟨q1, q2, q3, t, q4⟩ := clos_ok wf f (ids ++ more) nd2 hb2 (by rw [List.length_append]; omega)
      exact ⟨q1, q2, q3, more ++ t, by rw [q4, List.append_assoc]⟩
structure FinP (m : Nat) (w : W) (cl : List Cell) (ids : List Nat) : Prop where
  nd : ids.Nodup
  inb : ∀ i ∈ ids, i < cl.length
  cls : ∀ i ∈ ids, ∀ n ∈ (cellAt cl i).refs, n ∈ ids
  tk : ids.take m = List.range m
  rf : ∀ n ∈ w.refs, n ∈ ids
  ml : m ≤ ids.length
theorem fin_any {m : Nat} {w : W} {cl : List Cell} (wf : Wf cl) (hm : m ≤ cl.length) (hw : ∀ n ∈ w.refs, n < cl.length) : ∃ ids, fin m w cl = some (w.mapc (ix ids), FL.part cl ids) ∧ FinP m w cl ids := by
  obtain ⟨e1, e2⟩ := nodup_ed _ (w.refs.filter fun n => decide (m ≤ n)) (Nat.le_refl _)
  generalize hr : (w.refs.filter fun n => decide (m ≤ n)).eraseDups = rs at e1 e2
  have n0 : (List.range m ++ rs).Nodup := List.nodup_append.mpr ⟨List.nodup_range, e1, fun x hx y hy e => by
    subst e
    have := (e2 x).mp hy
    simp at this hx
    omega⟩
  have b0 : ∀ i ∈ List.range m ++ rs, i < cl.length := fun i hi => by
    rcases List.mem_append.mp hi with h | h
    · have := List.mem_range.mp h
      omega
    · have := (e2 i).mp h
      exact hw i (List.mem_filter.mp this).1
  obtain ⟨q1, q2, q3, t, q4⟩ := clos_ok wf (cl.length + 1) _ n0 b0 (by omega)
  have tk : (clos cl (cl.length + 1) (List.range m ++ rs)).take m = List.range m := by
    rw [q4, List.append_assoc, List.take_append_of_le_length (by simp), List.take_of_length_le (by simp)]
  have rf : ∀ n ∈ w.refs, n ∈ clos cl (cl.length + 1) (List.range m ++ rs) := fun n hn => by
    rw [q4]
    refine List.mem_append_left _ ?_
    by_cases h : n < m
    · exact List.mem_append_left _ (List.mem_range.mpr h)
    · exact List.mem_append_right _ ((e2 n).mpr (List.mem_filter.mpr ⟨hn, by simpa using h⟩))
  refine ⟨_, ?_, ⟨q1, q2, q3, tk, rf, by rw [q4]; simp⟩⟩
  have ip : isPart cl (clos cl (cl.length + 1) (List.range m ++ rs)) = true := by
    simp only [isPart, Bool.and_eq_true, decide_eq_true_eq, List.all_eq_true, List.contains_iff_mem]
    exact ⟨q1, fun i hi => ⟨q2 i hi, fun n hn => q3 i hi n hn⟩⟩
  unfold fin
  simp only [hr, ip, tk]
  rw [if_pos (by simp only [Bool.and_eq_true, decide_true, Bool.true_and, and_true, List.all_eq_true, List.contains_iff_mem]; first | done | exact rf)]
theorem ix_lt {ids : List Nat} {m j : Nat} (nd : ids.Nodup) (tk : ids.take m = List.range m) (hm : m ≤ ids.length) (hj : j ∈ ids) : ix ids j < m ↔ j < m := by
  have g := ix_get hj
  have at1 : ∀ i, i < m → ids[i]? = some i := fun i hi => by
    have : (ids.take m)[i]? = some i := by rw [tk]; simp [hi]
    rwa [List.getElem?_take_of_lt hi] at this
  constructor
  · intro h
    rw [at1 _ h] at g
    have e := Option.some.inj g
    omega
  · intro h
    have h1 := at1 j h
    have h2 := (List.getElem?_eq_some_iff.mp g)
    have h3 := (List.getElem?_eq_some_iff.mp h1)
    obtain ⟨l2, e2⟩ := h2
    obtain ⟨l3, e3⟩ := h3
    have : ix ids j = j := (List.getElem_inj nd).mp (e2.trans e3.symm)
    omega
theorem purW_part {m : Nat} {cl : List Cell} {ids : List Nat} {w0 : W} (p : FinP m w0 cl ids) : ∀ (k : Nat) (w : W), (∀ n ∈ w.refs, n ∈ ids) → purW (FL.part cl ids) m k (w.mapc (ix ids)) = purW cl m k w := by
  intro k
  induction k with
  | zero =>
    intro w _
    cases w <;> rfl
  | succ k ih =>
    have ihA : ∀ ws : List W, (∀ n ∈ refsA ws, n ∈ ids) → (mapcA (ix ids) ws).mapM (purW (FL.part cl ids) m k) = ws.mapM (purW cl m k) := by
      intro ws
      induction ws with
      | nil => intro _; rfl
      | cons x ws ihw =>
        intro h
        have h1 := ih x (fun n hn => h n (List.mem_append_left _ hn))
        have h2 := ihw (fun n hn => h n (List.mem_append_right _ hn))
        show ((x.mapc (ix ids)) :: mapcA (ix ids) ws).mapM _ = _
        rw [List.mapM_cons, List.mapM_cons, h1, h2]
    intro w hw
    cases w with
    | d x => rfl
    | tup ws =>
      show ((mapcA (ix ids) ws).mapM (purW (FL.part cl ids) m k)).map D.tup = (ws.mapM (purW cl m k)).map D.tup
      rw [ihA ws hw]
    | cel j =>
      have hj : j ∈ ids := hw j (by simp)
      have g : (FL.part cl ids)[ix ids j]? = some ((cellAt cl j).mapc (ix ids)) := by
        unfold FL.part
        rw [List.getElem?_map, ix_get hj]
        rfl
      have g2 : cl[j]? = some (cellAt cl j) := by
        have := p.inb j hj
        simp [cellAt, this]
      have lt := ix_lt p.nd p.tk p.ml hj
      have rf := p.cls j hj
      show (if ix ids j < m then Option.none else _) = if j < m then Option.none else _
      by_cases h : j < m
      · rw [if_pos h, if_pos (lt.mpr h)]
      · rw [if_neg h, if_neg (fun q => h (lt.mp q)), g, g2]
        generalize cellAt cl j = c at rf
        cases c with
        | lst ws => exact congrArg (Option.map D.lst) (ihA ws rf)
        | dk ks ws => exact congrArg (Option.map (D.dk ks)) (ihA ws rf)
        | dt ks ws => exact congrArg (Option.map (D.dt ks)) (ihA ws rf)
        | ins C fs ws => exact congrArg (Option.map (D.ins C fs)) (ihA ws rf)
        | gone => rfl
/-- a leaf: refers to no cell -/
def Leaf (c : Cell) : Prop := c.refs = [] ∧ ∀ f, c.mapc f = c
theorem leaf_lst {P : List D} : Leaf (lstD P) := ⟨lstD_refs, fun _ => lstD_mapc⟩
theorem callP_fin {f : OpN} {cl st st0 : List Cell} {ws ws0 : List W} {ids : List Nat} {x : D} {w : W} (h1 : idsOf cl ws = ids) (h2 : isPart cl ids = true) (h3 : ((refsA ws).all fun n => ids.contains n) = true) (h4 : FL.part cl ids = st0) (h5 : mapcA (ix ids) ws = ws0)
    (h6 : f st0 ws0 = fin ids.length w st) (wf : Wf st) (hl : ids.length ≤ st.length) (hw : ∀ n ∈ w.refs, n < st.length) (hx : purW st ids.length 8 w = some x) (hf : ∀ i, i < ids.length → Leaf (cellAt st i)) : callC false f cl ws = some (.d x, setAll cl ids (st.take ids.length)) := by
  obtain ⟨js, e, p⟩ := fin_any wf hl hw
  show oCallP f cl ws = _
  have e7 : (FL.part st js).take ids.length = st.take ids.length := by
    apply List.ext_getElem?
    intro i
    by_cases hi : i < ids.length
    · have g : js[i]? = some i := by
        have : (js.take ids.length)[i]? = some i := by rw [p.tk]; simp [hi]
        rwa [List.getElem?_take_of_lt hi] at this
      rw [List.getElem?_take_of_lt hi, List.getElem?_take_of_lt hi]
      unfold FL.part
      rw [List.getElem?_map, g]
      have l2 : i < st.length := by omega
      show some ((cellAt st i).mapc _) = _
      rw [(hf i hi).2]
      simp [cellAt, l2]
    · rw [List.getElem?_eq_none (by simp; omega), List.getElem?_eq_none (by simp; omega)]
  have e8 : purW (FL.part st js) ids.length 8 (w.mapc (ix js)) = some x := by rw [purW_part p 8 w p.rf, hx]
  have e9 : ((st.take ids.length).all fun c => c.refs.all fun n => decide (n < ids.length)) = true := by
    rw [List.all_eq_true]
    intro c hc
    obtain ⟨i, hi⟩ := List.getElem?_of_mem hc
    have l1 : i < ids.length := by
      have := (List.getElem?_eq_some_iff.mp hi).1
      simp at this
      omega
    have l2 : i < st.length := by omega
    rw [List.getElem?_take_of_lt l1] at hi
    have : c = cellAt st i := by simp [cellAt, hi]
    rw [this, (hf i l1).1]
    rfl
  have e10 : merge cl ids (st.take ids.length) = setAll cl ids (st.take ids.length) := by
    unfold merge
    rw [List.take_take, Nat.min_self, List.drop_take]
    simp
    congr 1
    apply List.ext_getElem?
    intro i
    by_cases hi : i < ids.length
    · have l2 : i < st.length := by omega
      have q := (hf i hi).2 (back cl.length ids)
      rw [List.getElem?_take_of_lt hi, List.getElem?_take_of_lt hi, List.getElem?_map]
      have : st[i]? = some (cellAt st i) := by simp [cellAt, l2]
      rw [this]
      show some _ = _
      rw [q]
    · rw [List.getElem?_eq_none (by simp; omega), List.getElem?_eq_none (by simp; omega)]
  simp only [oCallP, h1]
  rw [if_pos (by rw [h2, h3]; rfl), h4, h5, h6, e]
  simp only [e8, e7, e9, e10]
  rfl
/-! ### statements, one by one -/
def Ht (I : Rho → Prop) (s : G) (J : Rho → Prop) : Prop := ∀ r, I r → ∃ r', s r = some (.nx r') ∧ J r'
theorem Ht.seq {I J L : Rho → Prop} {s t : G} (h : Ht I s J) (k : Ht J t L) : Ht I (sSeq s t) L := fun r hr => by
  obtain ⟨r1, e1, h1⟩ := h r hr
  obtain ⟨r2, e2, h2⟩ := k r1 h1
  exact ⟨r2, by rw [ev_sSeq, e1]; exact e2, h2⟩
theorem Ht.skip {I : Rho → Prop} : Ht I sNil I := fun r hr => ⟨r, rfl, hr⟩
theorem Ht.ite {I J : Rho → Prop} {p : MB} {s t : G} (h : ∀ r, I r → ∃ b r1, p r = some (b, r1) ∧ ∃ r', (if b then s r1 else t r1) = some (.nx r') ∧ J r') : Ht I (sIf p s t) J := fun r hr => by
  obtain ⟨b, r1, e1, r', e2, h2⟩ := h r hr
  exact ⟨r', by rw [ev_sIf, e1]; exact e2, h2⟩
theorem Ht.weak {I I' J J' : Rho → Prop} {s : G} (h : Ht I s J) (h1 : ∀ r, I' r → I r) (h2 : ∀ r, J r → J' r) : Ht I' s J' := fun r hr => by
  obtain ⟨r1, e1, q⟩ := h r (h1 r hr)
  exact ⟨r1, e1, h2 _ q⟩
end FL
/-! slices and sums of lists -/
namespace FL
open PySem PySem.Spec L2 PySem.PyData
section
variable {cl : List Cell} {n i : Nat} {P Q : List D} {x y : D}
theorem cut_to {ws : List W} : cutW ws Option.none (some (i : Int)) = ws.take i := by
  unfold cutW
  rw [HT.sIx_none, HT.sIx_nat, List.drop_zero, Nat.sub_zero]
  by_cases h : i ≤ ws.length
  · rw [Nat.min_eq_left h]
  · rw [Nat.min_eq_right (by omega), List.take_length, List.take_of_length_le (by omega)]
theorem cut_from {ws : List W} : cutW ws (some (i : Int)) Option.none = ws.drop i := by
  unfold cutW
  rw [HT.sIx_none, HT.sIx_nat]
  by_cases h : i ≤ ws.length
  · rw [Nat.min_eq_left h, ← List.length_drop, List.take_length]
  · rw [Nat.min_eq_right (by omega), List.drop_length, List.drop_of_length_le (by omega)]
    simp
theorem slTo_c (h : cl[n]? = some (lstD P)) : dSl false cl (.cel n) Option.none (some (i : Int)) = some (.d (.lst (P.take i)), cl) := by
  simp [dSl, asTupP, asList, h, lstD, cut_to, FL.fresh, ← List.map_take]
theorem slFrom_c (h : cl[n]? = some (lstD P)) : dSl false cl (.cel n) (some (i : Int)) Option.none = some (.d (.lst (P.drop i)), cl) := by
  simp [dSl, asTupP, asList, h, lstD, cut_from, FL.fresh, ← List.map_drop]
theorem slTo_d : dSl false cl (.d (.lst P)) Option.none (some (i : Int)) = some (.d (.lst (P.take i)), cl) := by
  simp [dSl, asTupP, asList, cut_to, FL.fresh, ← List.map_take]
theorem slFrom_d : dSl false cl (.d (.lst P)) (some (i : Int)) Option.none = some (.d (.lst (P.drop i)), cl) := by
  simp [dSl, asTupP, asList, cut_from, FL.fresh, ← List.map_drop]
theorem rev_c (h : cl[n]? = some (lstD P)) : dRev false cl (.cel n) = some (.d (.lst P.reverse), cl) := by
  simp [dRev, asList, h, lstD, FL.fresh, ← List.map_reverse]
theorem rev_d : dRev false cl (.d (.lst P)) = some (.d (.lst P.reverse), cl) := by
  simp [dRev, asList, FL.fresh, ← List.map_reverse]
theorem add_cd (h : cl[n]? = some (lstD P)) (hl : P.length + Q.length ≤ sizeLine) : dAdd false cl (.cel n) (.d (.lst Q)) = some (.d (.lst (P ++ Q)), cl) := by
  have e : P.map W.d ++ Q.map W.d = (P ++ Q).map W.d := by simp
  simp only [dAdd, asTupP, asOwn, h, lstD]
  rw [if_pos (by simpa using hl), e]
  simp only [FL.fresh, datas_m]
  rfl
theorem add_dd (hl : P.length + Q.length ≤ sizeLine) : dAdd false cl (.d (.lst P)) (.d (.lst Q)) = some (.d (.lst (P ++ Q)), cl) := by
  have e : P.map W.d ++ Q.map W.d = (P ++ Q).map W.d := by simp
  simp only [dAdd, asTupP, asOwn]
  rw [if_pos (by simpa using hl), e]
  simp only [FL.fresh, datas_m]
  rfl
theorem lst1 : oLst false cl [.d x] = some (.d (.lst [x]), cl) := by
  simp [oLst, FL.fresh, datas, show sizeLine = 16777216 from rfl]
theorem lst2 : oLst false cl [.d x, .d y] = some (.d (.lst [x, y]), cl) := by
  simp [oLst, FL.fresh, datas, show sizeLine = 16777216 from rfl]
theorem lst0 : oLst false cl [] = some (.d (.lst []), cl) := by
  simp [oLst, FL.fresh, datas]
theorem tup2 : oTup cl [.d x, .d y] = some (.d (.tup [x, y]), cl) := by
  simp [oTup, tupW, datas, show sizeLine = 16777216 from rfl]
end
end FL
/-! calls that change nothing, over any store -/
namespace FL
open PySem PySem.Spec L2 PySem.PyData
mutual
theorem mapc_id {f : Nat → Nat} : ∀ w : W, (∀ n ∈ w.refs, f n = n) → w.mapc f = w
  | .d _, _ => rfl
  | .cel n, h => by
    show W.cel (f n) = _
    rw [h n (by simp)]
  | .tup ws, h => by
    show W.tup (mapcA f ws) = _
    rw [mapcA_id ws h]
theorem mapcA_id {f : Nat → Nat} : ∀ ws : List W, (∀ n ∈ refsA ws, f n = n) → mapcA f ws = ws
  | [], _ => rfl
  | w :: ws, h => by
    show w.mapc f :: mapcA f ws = _
    rw [mapc_id w (fun n hn => h n (List.mem_append_left _ hn)), mapcA_id ws (fun n hn => h n (List.mem_append_right _ hn))]
end
theorem cmapc_id {f : Nat → Nat} {c : Cell} (h : ∀ n ∈ c.refs, f n = n) : c.mapc f = c := by
  cases c with
  | gone => rfl
  | lst ws => exact congrArg Cell.lst (mapcA_id ws h)
  | dk ks ws => exact congrArg (Cell.dk ks) (mapcA_id ws h)
  | dt ks ws => exact congrArg (Cell.dt ks) (mapcA_id ws h)
  | ins C fs ws => exact congrArg (Cell.ins C fs) (mapcA_id ws h)
mutual
theorem mapc_mapc {f g : Nat → Nat} : ∀ w : W, (w.mapc f).mapc g = w.mapc fun n => g (f n)
  | .d _ => rfl
  | .cel n => rfl
  | .tup ws => by
    show W.tup (mapcA g (mapcA f ws)) = W.tup _
    rw [mapcA_mapcA ws]
theorem mapcA_mapcA {f g : Nat → Nat} : ∀ ws : List W, mapcA g (mapcA f ws) = mapcA (fun n => g (f n)) ws
  | [] => rfl
  | w :: ws => by
    show (w.mapc f).mapc g :: mapcA g (mapcA f ws) = w.mapc _ :: mapcA _ ws
    rw [mapc_mapc w, mapcA_mapcA ws]
end
theorem cmapc_cmapc {f g : Nat → Nat} {c : Cell} : (c.mapc f).mapc g = c.mapc fun n => g (f n) := by
  cases c with
  | gone => rfl
  | lst ws => exact congrArg Cell.lst (mapcA_mapcA ws)
  | dk ks ws => exact congrArg (Cell.dk ks) (mapcA_mapcA ws)
  | dt ks ws => exact congrArg (Cell.dt ks) (mapcA_mapcA ws)
  | ins C fs ws => exact congrArg (Cell.ins C fs) (mapcA_mapcA ws)
mutual
theorem refs_mapc {f : Nat → Nat} : ∀ w : W, (w.mapc f).refs = w.refs.map f
  | .d _ => rfl
  | .cel n => rfl
  | .tup ws => refsA_mapcA ws
theorem refsA_mapcA {f : Nat → Nat} : ∀ ws : List W, refsA (mapcA f ws) = (refsA ws).map f
  | [] => rfl
  | w :: ws => by
    show (w.mapc f).refs ++ refsA (mapcA f ws) = (w.refs ++ refsA ws).map f
    rw [refs_mapc w, refsA_mapcA ws, List.map_append]
end
theorem crefs_mapc {f : Nat → Nat} {c : Cell} : (c.mapc f).refs = c.refs.map f := by
  cases c with
  | gone => rfl
  | lst ws => exact refsA_mapcA ws
  | dk ks ws => exact refsA_mapcA ws
  | dt ks ws => exact refsA_mapcA ws
  | ins C fs ws => exact refsA_mapcA ws
theorem fin_same {cl : List Cell} {x : D} (wf : Wf cl) : fin cl.length (.d x) cl = some (.d x, cl) := by
  obtain ⟨ids, e, p⟩ := fin_any (m := cl.length) (w := .d x) wf (Nat.le_refl _) (by simp)
  have hl : ids.length ≤ cl.length := nodup_len _ _ p.nd p.inb
  have hr : ids = List.range cl.length := by rw [← p.tk, List.take_of_length_le hl]
  rw [e]
  have : FL.part cl ids = cl := by
    apply List.ext_getElem?
    intro i
    unfold FL.part
    rw [List.getElem?_map]
    by_cases hi : i < cl.length
    · have g : ids[i]? = some i := by rw [hr]; simp [hi]
      rw [g]
      show some ((cellAt cl i).mapc (ix ids)) = _
      rw [cmapc_id fun n hn => ?_]
      · simp [cellAt, hi]
      · have hn2 : n ∈ ids := p.cls i (by rw [hr]; simpa using hi) n hn
        have q := ix_get hn2
        have lt : ix ids n < cl.length := by
          have := (List.getElem?_eq_some_iff.mp q).1
          omega
        rw [hr] at q
        rw [hr]
        rw [hr] at lt
        rw [List.getElem?_range lt] at q
        exact Option.some.inj q
    · rw [List.getElem?_eq_none (by omega), List.getElem?_eq_none (by omega)]
      rfl
  rw [this]
  rfl
theorem ids_part {cl : List Cell} {ws : List W} (wf : Wf cl) (hw : ∀ n ∈ refsA ws, n < cl.length) : (idsOf cl ws).Nodup ∧ (∀ i ∈ idsOf cl ws, i < cl.length) ∧ (∀ i ∈ idsOf cl ws, ∀ n ∈ (cellAt cl i).refs, n ∈ idsOf cl ws) ∧ ∀ n ∈ refsA ws, n ∈ idsOf cl ws := by
  obtain ⟨e1, e2⟩ := nodup_ed _ (refsA ws) (Nat.le_refl _)
  obtain ⟨q1, q2, q3, t, q4⟩ := clos_ok wf (cl.length + 1) _ e1 (fun i hi => hw i ((e2 i).mp hi)) (by omega)
  exact ⟨q1, q2, q3, fun n hn => by unfold idsOf; rw [q4]; exact List.mem_append_left _ ((e2 n).mpr hn)⟩
theorem isPart_of3 {cl : List Cell} {ids : List Nat} (nd : ids.Nodup) (inb : ∀ i ∈ ids, i < cl.length) (cls : ∀ i ∈ ids, ∀ n ∈ (cellAt cl i).refs, n ∈ ids) : isPart cl ids = true := by
  simp only [isPart, Bool.and_eq_true, decide_eq_true_eq, List.all_eq_true, List.contains_iff_mem]
  exact ⟨nd, fun i hi => ⟨inb i hi, fun n hn => cls i hi n hn⟩⟩
theorem part_at {cl : List Cell} {ids : List Nat} {n : Nat} (h : n ∈ ids) : (FL.part cl ids)[ix ids n]? = some ((cellAt cl n).mapc (ix ids)) := by
  unfold FL.part
  rw [List.getElem?_map, ix_get h]
  rfl
theorem part_wf {cl : List Cell} {ids : List Nat} (cls : ∀ i ∈ ids, ∀ n ∈ (cellAt cl i).refs, n ∈ ids) : Wf (FL.part cl ids) := fun i n hi hn => by
  have hl : (FL.part cl ids).length = ids.length := by simp [FL.part]
  rw [hl] at hi ⊢
  have : cellAt (FL.part cl ids) i = (cellAt cl ids[i]).mapc (ix ids) := by
    unfold cellAt FL.part
    rw [List.getElem?_map, List.getElem?_eq_getElem hi]
    rfl
  rw [this, crefs_mapc] at hn
  obtain ⟨m, hm, rfl⟩ := List.mem_map.mp hn
  have := cls _ (List.getElem_mem hi) m hm
  exact List.idxOf_lt_length_of_mem this
theorem setAll_same : ∀ (ids : List Nat) (cl : List Cell), (∀ i ∈ ids, i < cl.length) → setAll cl ids (ids.map (cellAt cl)) = cl
  | [], cl, _ => by simp [setAll]
  | i :: ids, cl, h => by
    have hi := h i List.mem_cons_self
    have e : cl.set i (cellAt cl i) = cl := set_same (by simp [cellAt, hi])
    show setAll (cl.set i (cellAt cl i)) ids (ids.map (cellAt cl)) = cl
    rw [e]
    exact setAll_same ids cl fun j hj => h j (List.mem_cons_of_mem _ hj)
theorem merge_part {cl : List Cell} {ids : List Nat} (inb : ∀ i ∈ ids, i < cl.length) (cls : ∀ i ∈ ids, ∀ n ∈ (cellAt cl i).refs, n ∈ ids) : merge cl ids (FL.part cl ids) = cl := by
  have hl : (FL.part cl ids).length = ids.length := by simp [FL.part]
  unfold merge
  rw [← hl, List.take_length, List.drop_length]
  have : (FL.part cl ids).map (Cell.mapc (back cl.length ids)) = ids.map (cellAt cl) := by
    unfold FL.part
    rw [List.map_map]
    apply List.map_congr_left
    intro i hi
    show ((cellAt cl i).mapc (ix ids)).mapc _ = _
    rw [cmapc_cmapc, cmapc_id]
    intro n hn
    have q := ix_get (cls i hi n hn)
    have lt := (List.getElem?_eq_some_iff.mp q).1
    unfold back
    rw [if_pos lt, q]
    rfl
  rw [this, setAll_same ids cl inb]
  simp
/-- a call that changes no cell -/
theorem call_pure {f : OpN} {cl : List Cell} {ws : List W} {x : D} (wf : Wf cl) (hw : ∀ n ∈ refsA ws, n < cl.length)
    (h : ∀ (st : List Cell) (ids : List Nat), Wf st → (∀ n ∈ refsA ws, n ∈ ids) → (∀ n ∈ ids, ∀ m ∈ (cellAt cl n).refs, m ∈ ids) → (∀ n ∈ ids, st[ix ids n]? = some ((cellAt cl n).mapc (ix ids))) → f st (mapcA (ix ids) ws) = some (.d x, st)) : callC false f cl ws = some (.d x, cl) := by
  obtain ⟨nd, inb, cls, rf⟩ := ids_part wf hw
  generalize hi : idsOf cl ws = ids at nd inb cls rf
  have hl : (FL.part cl ids).length = ids.length := by simp [FL.part]
  refine callP_of hi (isPart_of3 nd inb cls) (by rw [List.all_eq_true]; intro n hn; exact List.contains_iff_mem.mpr (rf n hn)) rfl rfl (h _ ids (part_wf cls) rf cls fun n hn => part_at hn) hl ?_ (merge_part inb cls)
  rw [List.all_eq_true]
  intro c hc
  rw [List.all_eq_true]
  intro n hn
  obtain ⟨i, hi⟩ := List.getElem?_of_mem hc
  have lt := (List.getElem?_eq_some_iff.mp hi).1
  have := part_wf cls i n lt (by simpa [cellAt, hi] using hn)
  simpa [hl] using this
end FL
/-! stores; calls that make one new list -/
namespace FL
open PySem PySem.Spec L2 PySem.PyData
theorem wf_set {cl : List Cell} (h : Wf cl) (i : Nat) (c : Cell) (hc : ∀ n ∈ c.refs, n < cl.length) : Wf (cl.set i c) := fun j n hj hn => by
  rw [List.length_set] at hj ⊢
  by_cases e : i = j
  · subst e
    have : cellAt (cl.set i c) i = c := by simp [cellAt, List.getElem?_set_self, hj]
    rw [this] at hn
    exact hc n hn
  · have : cellAt (cl.set i c) j = cellAt cl j := by simp [cellAt, List.getElem?_set_ne e]
    rw [this] at hn
    exact h j n hj hn
theorem wf_app {cl : List Cell} (h : Wf cl) (ds : List Cell) (hd : ∀ c ∈ ds, ∀ n ∈ c.refs, n < cl.length + ds.length) : Wf (cl ++ ds) := fun j n hj hn => by
  rw [List.length_append] at hj ⊢
  by_cases e : j < cl.length
  · have : cellAt (cl ++ ds) j = cellAt cl j := by simp [cellAt, List.getElem?_append_left e]
    rw [this] at hn
    have := h j n e hn
    omega
  · have : cellAt (cl ++ ds) j = cellAt ds (j - cl.length) := by simp [cellAt, List.getElem?_append_right (Nat.le_of_not_lt e)]
    rw [this] at hn
    have l : j - cl.length < ds.length := by omega
    refine hd _ ?_ n hn
    simp [cellAt, l]
theorem wf_lst {cl : List Cell} (h : Wf cl) (Q : List D) : Wf (cl ++ [lstD Q]) := wf_app h _ fun c hc k hk => by
  rw [List.mem_singleton] at hc
  subst hc
  simp at hk
theorem fin0 {cl : List Cell} {x : D} : fin 0 (.d x) cl = some (.d x, []) := by
  have e : clos cl (cl.length + 1) (List.range 0 ++ []) = [] := rfl
  unfold fin
  simp only [wrefs_d, List.filter_nil, List.eraseDups_nil, e]
  rfl

theorem fin_range {cl st : List Cell} {m : Nat} {w : W} (wf : Wf st) (hm : m ≤ st.length) (hw : ∀ n ∈ w.refs, n < st.length) (hall : ∀ ids, ids.Nodup → (∀ i ∈ ids, i < st.length) → ids.take m = List.range m → m ≤ ids.length → (∀ n ∈ w.refs, n ∈ ids) → ids = List.range st.length) : fin m w st = some (w, st) := by
  obtain ⟨ids, e, p⟩ := fin_any wf hm hw
  have hr := hall ids p.nd p.inb p.tk p.ml p.rf
  have hix : ∀ n, n < st.length → ix ids n = n := fun n hn => by
    have q := ix_get (ids := ids) (n := n) (by rw [hr]; simpa using hn)
    have lt := (List.getElem?_eq_some_iff.mp q).1
    rw [hr] at lt q ⊢
    rw [List.getElem?_range (by simpa using lt)] at q
    exact Option.some.inj q
  rw [e, mapc_id w fun n hn => hix n (hw n hn)]
  have : FL.part st ids = st := by
    apply List.ext_getElem?
    intro i
    unfold FL.part
    rw [List.getElem?_map]
    by_cases hi : i < st.length
    · have g : ids[i]? = some i := by rw [hr]; simp [hi]
      rw [g]
      show some ((cellAt st i).mapc (ix ids)) = _
      rw [cmapc_id fun n hn => hix n (wf i n hi hn)]
      simp [cellAt, hi]
    · have : ids.length = st.length := by rw [hr]; simp
      rw [List.getElem?_eq_none (by omega), List.getElem?_eq_none (by omega)]
      rfl
  rw [this]
theorem fin_new {st : List Cell} {Q : List D} (wf : Wf st) : fin st.length (.cel st.length) (st ++ [lstD Q]) = some (.cel st.length, st ++ [lstD Q]) := by
  refine fin_range (cl := st) (wf_lst wf Q) (by simp) (by intro n hn; simp at hn; simp; omega) fun ids nd inb tk ml rf => ?_
  have hm : st.length ∈ ids := rf _ (by simp)
  have le : ids.length ≤ st.length + 1 := by
    have := nodup_len _ ids nd inb
    simpa using this
  have e1 : ids = List.range st.length ++ ids.drop st.length := by rw [← tk, List.take_append_drop]
  have ne : st.length ∈ ids.drop st.length := by
    rw [e1] at hm
    rcases List.mem_append.mp hm with h | h
    · simp at h
    · exact h
  have l1 : (ids.drop st.length).length ≤ 1 := by simp; omega
  match hd : ids.drop st.length, ne, l1 with
  | [x], ne, _ =>
    rw [List.mem_singleton] at ne
    rw [e1, hd, ← ne, List.length_append, List.length_singleton, List.range_succ]
  | x :: y :: _, _, l1 => simp at l1
section
variable {f : OpN} {cl : List Cell} {ws : List W} {Q : List D}
/-- a call that makes one new list, and changes no cell -/
theorem call_newT (wf : Wf cl) (hw : ∀ n ∈ refsA ws, n < cl.length)
    (h : ∀ (st : List Cell) (ids : List Nat), Wf st → (∀ n ∈ refsA ws, n ∈ ids) → (∀ n ∈ ids, ∀ m ∈ (cellAt cl n).refs, m ∈ ids) → (∀ n ∈ ids, st[ix ids n]? = some ((cellAt cl n).mapc (ix ids))) → f st (mapcA (ix ids) ws) = some (.cel st.length, st ++ [lstD Q])) : callC true f cl ws = some (.cel cl.length, cl ++ [lstD Q]) := by
  obtain ⟨nd, inb, cls, rf⟩ := ids_part wf hw
  generalize hi : idsOf cl ws = ids at nd inb cls rf
  have hl : (FL.part cl ids).length = ids.length := by simp [FL.part]
  have e := h _ ids (part_wf cls) rf cls fun n hn => part_at hn
  refine callT_of hi (isPart_of3 nd inb cls) (by rw [List.all_eq_true]; intro n hn; exact List.contains_iff_mem.mpr (rf n hn)) rfl rfl e (by simp [hl, back]) ?_
  have mp := merge_part inb cls
  unfold merge at mp ⊢
  rw [← hl, List.take_length, List.drop_length] at mp
  rw [← hl, List.take_left' rfl, List.drop_left' rfl]
  simp only [List.map_nil, List.append_nil] at mp
  rw [mp]
  simp
theorem call_newF (wf : Wf cl) (hw : ∀ n ∈ refsA ws, n < cl.length)
    (h : ∀ (st : List Cell) (ids : List Nat), Wf st → (∀ n ∈ refsA ws, n ∈ ids) → (∀ n ∈ ids, ∀ m ∈ (cellAt cl n).refs, m ∈ ids) → (∀ n ∈ ids, st[ix ids n]? = some ((cellAt cl n).mapc (ix ids))) → f st (mapcA (ix ids) ws) = some (.cel st.length, st ++ [lstD Q])) : callC false f cl ws = some (.d (.lst Q), cl) := by
  obtain ⟨nd, inb, cls, rf⟩ := ids_part wf hw
  generalize hi : idsOf cl ws = ids at nd inb cls rf
  have hl : (FL.part cl ids).length = ids.length := by simp [FL.part]
  have e := h _ ids (part_wf cls) rf cls fun n hn => part_at hn
  have em : ∀ ys : List D, (ys.map W.d).mapM (purW (FL.part cl ids ++ [lstD Q]) ids.length 7) = some ys := by
    intro ys
    induction ys with
    | nil => rfl
    | cons y ys ih => simp [List.mapM_cons, ih, purW]
  have g : (FL.part cl ids ++ [lstD Q])[ids.length]? = some (lstD Q) := by rw [← hl]; simp
  have ep : purW (FL.part cl ids ++ [lstD Q]) ids.length 8 (.cel ids.length) = some (.lst Q) := by
    show (if ids.length < ids.length then Option.none else _) = _
    rw [if_neg (Nat.lt_irrefl _), g]
    show Option.map D.lst (List.mapM (purW (FL.part cl ids ++ [lstD Q]) ids.length 7) (Q.map W.d)) = _
    rw [em]
    rfl
  have tk : (FL.part cl ids ++ [lstD Q]).take ids.length = FL.part cl ids := by rw [← hl, List.take_left' rfl]
  show oCallP f cl ws = _
  simp only [oCallP, hi]
  rw [if_pos (by rw [isPart_of3 nd inb cls, Bool.true_and, List.all_eq_true]; intro n hn; exact List.contains_iff_mem.mpr (rf n hn)), e]
  simp only [hl, ep, tk]
  rw [if_pos ?_, merge_part inb cls]
  rw [List.all_eq_true]
  intro c hc
  rw [List.all_eq_true]
  intro n hn
  obtain ⟨i, hi⟩ := List.getElem?_of_mem hc
  have lt := (List.getElem?_eq_some_iff.mp hi).1
  have := part_wf cls i n lt (by simpa [cellAt, hi] using hn)
  simpa [hl] using this
end
end FL
namespace Lw
open PySem PySem.Spec L2 PySem.PyData FL
variable {a : Ad}
theorem fill_ok (c p : Int) (h0 : 0 ≤ p) (h1 : p < 2 ^ 64) : ∃ z : Int, f_law_fill a [] [.d (.int c), .d (.int p)] = some (.d (.int z), []) := by
  rw [f_law_fill, run_eq, m_law_fill]
  obtain ⟨c0, c1⟩ := mod_at (i := c) (m := 2147483647) (by decide) (by decide)
  generalize hcm : c % 2147483647 = cm at *
  have g1 : mulOk cm 48271 = true := mulOk_of c0 (by omega) (by decide) (by decide)
  have g2 : mulOk p 69621 = true := mulOk_of h0 h1 (by decide) (by decide)
  have g2' : mulOk 69621 p = true := mulOk_of (by decide) (by decide) h0 h1
  obtain ⟨x0, x1⟩ := mod_at (i := cm * 48271 + p * 69621 + 11) (m := 2147483629) (by decide) (by decide)
  by_cases hc : (1000000000000000000 : Int) ≤ c
  · exact ⟨c, by simp -implicitDefEqProofs [op_dPow18, hc]; rfl⟩
  · generalize hx : (cm * 48271 + p * 69621 + 11) % 2147483629 = x at *
    have g3 : mulOk x x = true := mulOk_of x0 (by omega) x0 (by omega)
    have g4 : mulOk 48271 x = true := mulOk_of (by decide) (by decide) x0 (by omega)
    obtain ⟨y0, y1⟩ := mod_at (i := x * x + 48271 * x + p) (m := 2147483587) (by decide) (by decide)
    generalize hy : (x * x + 48271 * x + p) % 2147483587 = y at *
    have g5 : mulOk y y = true := mulOk_of y0 (by omega) y0 (by omega)
    have g6 : mulOk y 2147483579 = true := mulOk_of y0 (by omega) (by decide) (by decide)
    refine ⟨y * 2147483579 + (y * y + 69621 * p) % 2147483579, ?_⟩
    simp -implicitDefEqProofs [op_dPow18, hc, hcm, hx, hy, g1, g2, g2', g3, g4, g5, g6]
    rfl
def penC (xs : List Int) (p v : Int) : Cell := .lst [.d (.lst (xs.map D.int)), .d (.int p), .d (.int v)]
theorem rol_at {xs : List Int} {i : Int} {cl : List Cell} (h0 : 0 ≤ i) (h : i < xs.length) : ∃ z : Int, dIx cl (.d (.lst (xs.map D.int))) (.d (.int i)) = some (.d (.int z), cl) := by
  have hl : i.toNat < xs.length := by omega
  refine ⟨xs[i.toNat], ?_⟩
  simp only [dIx, asTup, asList, Option.bind_some]
  rw [atI_nat h0 (by simpa using h)]
  simp -implicitDefEqProofs [hl]
theorem rol_len {xs : List Int} {cl : List Cell} : oLen cl [.d (.lst (xs.map D.int))] = some (.d (.int xs.length), cl) := by simp -implicitDefEqProofs [oLen, lenW, asTup, asList]
theorem pen_0 {xs : List Int} {p v : Int} {cl : List Cell} {n : Nat} (h : cl[n]? = some (penC xs p v)) : dIx cl (.cel n) (.d (.int 0)) = some (.d (.lst (xs.map D.int)), cl) := by simp -implicitDefEqProofs [dIx, asTup, asList, h, penC, atI, ixN]
theorem pen_1 {xs : List Int} {p v : Int} {cl : List Cell} {n : Nat} (h : cl[n]? = some (penC xs p v)) : dIx cl (.cel n) (.d (.int 1)) = some (.d (.int p), cl) := by simp -implicitDefEqProofs [dIx, asTup, asList, h, penC, atI, ixN]
theorem pen_2 {xs : List Int} {p v : Int} {cl : List Cell} {n : Nat} (h : cl[n]? = some (penC xs p v)) : dIx cl (.cel n) (.d (.int 2)) = some (.d (.int v), cl) := by simp -implicitDefEqProofs [dIx, asTup, asList, h, penC, atI, ixN]
theorem pen_s1 {xs : List Int} {p v q : Int} {cl : List Cell} {n : Nat} (h : cl[n]? = some (penC xs p v)) : setL cl (.cel n) (.d (.int 1)) (.d (.int q)) = some (cl.set n (penC xs q v)) := by simp -implicitDefEqProofs [setL, cellL, h, penC, ixN]
theorem pen_s2 {xs : List Int} {p v q : Int} {cl : List Cell} {n : Nat} (h : cl[n]? = some (penC xs p v)) : setL cl (.cel n) (.d (.int 2)) (.d (.int q)) = some (cl.set n (penC xs p q)) := by simp -implicitDefEqProofs [setL, cellL, h, penC, ixN]
theorem fill_call (c p : Int) (h0 : 0 ≤ p) (h1 : p < 2 ^ 64) (cl : List Cell) : ∃ z : Int, callC false (f_law_fill a) cl [.d (.int c), .d (.int p)] = some (.d (.int z), cl) := by
  obtain ⟨z, e⟩ := fill_ok (a := a) c p h0 h1
  exact ⟨z, call_flat rfl (fun _ => rfl) e⟩
theorem fin_leaf {c : Cell} {x : D} (h : c.refs = []) (hm : ∀ f, c.mapc f = c) : fin 1 (.d x) [c] = some (.d x, [c]) := by
  have e : clos [c] 2 (List.range 1 ++ []) = [0] := by simp -implicitDefEqProofs [clos, cellAt, h, List.range, List.range.loop]
  have e2 : isPart [c] [0] = true := by simp -implicitDefEqProofs [isPart, cellAt, h]
  have e4 : FL.part [c] [0] = [c] := by simp -implicitDefEqProofs [FL.part, cellAt, hm]
  unfold fin
  simp only [List.length_singleton, wrefs_d, List.filter_nil, List.eraseDups_nil, e, e2, e4]
  simp -implicitDefEqProofs [List.range, List.range.loop]
theorem next_ok (xs : List Int) (p v m : Int) (h0 : 0 ≤ p) (h1 : p < 2 ^ 62) (m0 : 0 < m) (m1 : m < 2 ^ 62) : ∃ p' v' u : Int, f_law_next a [penC xs p v] [.cel 0, .d (.int m)] = some (.d (.int u), [penC xs p' v']) ∧ 0 ≤ u ∧ u < m ∧ p ≤ p' ∧ p' ≤ p + 1 := by
  have u0 : ∀ v : Int, 0 ≤ v % m ∧ v % m < m := fun v => ⟨Int.emod_nonneg _ (by omega), Int.emod_lt_of_pos _ m0⟩
  have gd : fdvOk m = true := fdvOk_of m0 (by omega)
  have fl : ∀ p v (x : D), fin 1 (.d x) [penC xs p v] = some (.d x, [penC xs p v]) := fun p v x => fin_leaf rfl fun _ => rfl
  have p0 : ∀ p v : Int, ([penC xs p v] : List Cell)[0]? = some (penC xs p v) := fun _ _ => rfl
  rw [f_law_next, run_eq, m_law_next]
  by_cases hv : v < m
  · by_cases hp : p < xs.length
    · obtain ⟨z, ez⟩ := rol_at (xs := xs) (cl := [penC xs p v]) h0 hp
      obtain ⟨z', ez'⟩ := fill_call (a := a) z p h0 (by omega) [penC xs (p + 1) v]
      exact ⟨p + 1, z' / m, z' % m, by simp -implicitDefEqProofs [pen_0 (p0 _ _), pen_1 (p0 _ _), pen_2 (p0 _ _), pen_s1 (p0 _ _), pen_s2 (p0 _ _), rol_len, hv, hp, ez, ez', m0, gd, fl], (u0 _).1, (u0 _).2, by omega, by omega⟩
    · by_cases hn : (0 : Int) < xs.length
      · have hn2 : 0 < xs.length := by omega
        obtain ⟨z, ez⟩ := rol_at (xs := xs) (cl := [penC xs p v]) (i := p * 7 % xs.length) (Int.emod_nonneg _ (by omega)) (Int.emod_lt_of_pos _ hn)
        obtain ⟨z', ez'⟩ := fill_call (a := a) (z % 1000003 + p * 1000003) p h0 (by omega) [penC xs (p + 1) v]
        have g1 : mulOk p 7 = true := mulOk_of h0 (by omega) (by decide) (by decide)
        have g2 : mulOk p 1000003 = true := mulOk_of h0 (by omega) (by decide) (by decide)
        exact ⟨p + 1, z' / m, z' % m, by simp -implicitDefEqProofs [pen_0 (p0 _ _), pen_1 (p0 _ _), pen_2 (p0 _ _), pen_s1 (p0 _ _), pen_s2 (p0 _ _), rol_len, hv, hp, hn, hn2, ez, ez', m0, gd, fl, g1, g2], (u0 _).1, (u0 _).2, by omega, by omega⟩
      · have hn2 : ¬ 0 < xs.length := by omega
        obtain ⟨z', ez'⟩ := fill_call (a := a) 0 p h0 (by omega) [penC xs (p + 1) v]
        exact ⟨p + 1, z' / m, z' % m, by simp -implicitDefEqProofs [pen_0 (p0 _ _), pen_1 (p0 _ _), pen_2 (p0 _ _), pen_s1 (p0 _ _), pen_s2 (p0 _ _), rol_len, hv, hp, hn, hn2, ez', m0, gd, fl], (u0 _).1, (u0 _).2, by omega, by omega⟩
  · exact ⟨p, v / m, v % m, by simp -implicitDefEqProofs [pen_0 (p0 _ _), pen_1 (p0 _ _), pen_2 (p0 _ _), pen_s1 (p0 _ _), pen_s2 (p0 _ _), hv, m0, gd, fl], (u0 _).1, (u0 _).2, by omega, by omega⟩
end Lw
namespace Lw
open PySem PySem.Spec L2 FL
/-! the statements of law_wcells -/
noncomputable def b_law_wcells_1 (a : Ad) : G := sIf (bOr (bVal (eBin (isN false) (eVar 1) (eC (.d .non)))) (bVal (eBin (eqvD false) (eCall (withD [] (callC false (f_law_next a))) (aCons (eVar 0) (aCons (eC (.d (.int 4))) aNil))) (eC (.d (.int 0)))))) (sRet (eLc true (iRng (aCons (eCall (withD [] (callC false (f_law_next a))) (aCons (eVar 0) (aCons (eC (.d (.int 31))) aNil))) aNil)) (tName 3) bYes (eBin dIx (eCall (oLst false) (aCons (eC (.d (.int 0))) (aCons (eC (.d (.int 1))) (aCons (eUn dNeg (eC (.d (.int 1)))) (aCons (eCall (withD [] (callC false (f_law_next a))) (aCons (eVar 0) (aCons (eBin dPow (eC (.d (.int 10))) (eC (.d (.int 12)))) aNil))) aNil))))) (eCall (withD [] (callC false (f_law_next a))) (aCons (eVar 0) (aCons (eC (.d (.int 4))) aNil)))) [3])) sNil
noncomputable def b_law_wcells_2 (a : Ad) : G := sAsg (eCall (oList true) (aCons (eVar 1) aNil)) (tName 2)
noncomputable def b_law_wcells_3_f (a : Ad) : G := sIf (bVal (eBin dGt (eCall oLen (aCons (eVar 2) aNil)) (eC (.d (.int 0))))) (sAsg (eCall (withD [] (callC false (f_law_next a))) (aCons (eVar 0) (aCons (eC (.d (.int 3))) aNil))) (tSub (eVar 2) (eCall (withD [] (callC false (f_law_next a))) (aCons (eVar 0) (aCons (eCall oLen (aCons (eVar 2) aNil)) aNil))) setL)) sNil
noncomputable def b_law_wcells_3 (a : Ad) : G := sFor (iRng (aCons (eCall (withD [] (callC false (f_law_next a))) (aCons (eVar 0) (aCons (eC (.d (.int 4))) aNil))) aNil)) (tName 3) (b_law_wcells_3_f a)
noncomputable def b_law_wcells_4 (a : Ad) : G := sAsg (eCall (withD [] (callC false (f_law_next a))) (aCons (eVar 0) (aCons (eC (.d (.int 3))) aNil))) (tName 4)
noncomputable def b_law_wcells_5 (a : Ad) : G := sIf (bVal (eBin (eqvD false) (eVar 4) (eC (.d (.int 0))))) (sRet (eSlice (dSl true) (eVar 2) oNo (oSome (eCall (withD [] (callC false (f_law_next a))) (aCons (eVar 0) (aCons (eBin (dAdd false) (eCall oLen (aCons (eVar 2) aNil)) (eC (.d (.int 1)))) aNil)))))) sNil
noncomputable def b_law_wcells_6 (a : Ad) : G := sRet (eBin (dAdd true) (eVar 2) (eLc false (iRng (aCons (eBin dMul (eCall (withD [] (callC false (f_law_next a))) (aCons (eVar 0) (aCons (eC (.d (.int 4))) aNil))) (eCall oInt (aCons (eBin (eqvD false) (eVar 4) (eC (.d (.int 1)))) aNil))) aNil)) (tName 3) bYes (eCall (withD [] (callC false (f_law_next a))) (aCons (eVar 0) (aCons (eC (.d (.int 2))) aNil))) [3]))
theorem split_law_wcells (a : Ad) : m_law_wcells a = sSeq (b_law_wcells_1 a) (sSeq (b_law_wcells_2 a) (sSeq (b_law_wcells_3 a) (sSeq (b_law_wcells_4 a) (sSeq (b_law_wcells_5 a) (b_law_wcells_6 a))))) := rfl
/-! the statements of law_wdone -/
noncomputable def b_law_wdone_1 (a : Ad) : G := sAsg (eCall (oDictEn true) (aCons (eVar 0) aNil)) (tName 2)
noncomputable def b_law_wdone_2_f_1 (a : Ad) : G := sIf (bVal (eBin (eqvD true) (eMethT isDic mGet (eVar 2) (aCons (eVar 3) (aCons (eC (.d .non)) aNil))) (eVar 4))) (sRet (eC (.d .non))) sNil
noncomputable def b_law_wdone_2_f_2 (a : Ad) : G := sPutD (eVar 5) (eVar 2) (eVar 3)
noncomputable def b_law_wdone_2_f (a : Ad) : G := sSeq (b_law_wdone_2_f_1 a) (b_law_wdone_2_f_2 a)
noncomputable def b_law_wdone_2 (a : Ad) : G := sFor (iSeq (eVar 1)) (tTupG 3 (tsCons (tName 3) (tsCons (tName 4) (tsCons (tName 5) tsNil)))) (b_law_wdone_2_f a)
noncomputable def b_law_wdone_3 (a : Ad) : G := sRet (eLc true (iSeq (eCall (oSortDI false) (aCons (eVar 2) aNil))) (tName 6) (bVal (eBin (isN true) (eBin dDix (eVar 2) (eVar 6)) (eC (.d .non)))) (eBin dDix (eVar 2) (eVar 6)) [6])
theorem split_law_wdone (a : Ad) : m_law_wdone a = sSeq (b_law_wdone_1 a) (sSeq (b_law_wdone_2 a) (b_law_wdone_3 a)) := rfl
/-! the statements of changed -/
noncomputable def b_changed_1 (a : Ad) : G := sAsg (eLc false (iRng (aCons (eCall oMax (aCons (eCall (oLenI a.C_Image false (f_Image___len__ a)) (aCons (eVar 0) aNil)) (aCons (eCall (oLenI a.C_Image false (f_Image___len__ a)) (aCons (eVar 1) aNil)) aNil))) aNil)) (tName 3) bYes (eCall oTup (aCons (eVar 3) (aCons (eCall (withD [] (callC false (f_cell_at a))) (aCons (eUn (dFld a.C_Image "cells") (eVar 0)) (aCons (eVar 3) aNil))) (aCons (eCall (withD [] (callC false (f_cell_at a))) (aCons (eUn (dFld a.C_Image "cells") (eVar 1)) (aCons (eVar 3) aNil))) aNil)))) [3]) (tName 2)
noncomputable def b_changed_2 (a : Ad) : G := sRet (eLc true (iSeq (eVar 2)) (tTupG 3 (tsCons (tName 3) (tsCons (tName 4) (tsCons (tName 5) tsNil)))) (bVal (eBin (eqvD true) (eVar 4) (eVar 5))) (eCall oTup (aCons (eVar 3) (aCons (eVar 4) (aCons (eVar 5) aNil)))) [3, 4, 5])
theorem split_changed (a : Ad) : m_changed a = sSeq (b_changed_1 a) (b_changed_2 a) := rfl
/-! the statements of law -/
noncomputable def b_law_1 (a : Ad) : G := sAsg (eCall (withD [] (callC true (f_law_wpen a))) (aCons (eVar 0) aNil)) (tName 1)
noncomputable def b_law_2_f_1 (a : Ad) : G := sAsg (eCall (withD [] (callC false (f_law_wcells a))) (aCons (eVar 1) (aCons (eC (.d .non)) aNil))) (tName 3)
noncomputable def b_law_2_f_2 (a : Ad) : G := sAsg (eCall (withD [] (callC false (f_law_wcells a))) (aCons (eVar 1) (aCons (eVar 3) aNil))) (tName 4)
noncomputable def b_law_2_f_3 (a : Ad) : G := sAsg (eCall (oLst true) (aCons (eCall (withD [] (oMake a.C_Image (f_Image___init__ a))) (aCons (eVar 3) (aCons (eC (.d (.int 1))) (aCons (eCall (oLst false) aNil) aNil)))) (aCons (eCall (withD [] (oMake a.C_Image (f_Image___init__ a))) (aCons (eVar 4) (aCons (eBin (dAdd false) (eC (.d (.int 1))) (eVar 2)) (aCons (eCall (oLst false) (aCons (eCall oTup (aCons (eCall oTup (aCons (eC (.d (.int 0))) (aCons (eC (.d (.int 0))) aNil))) (aCons (eC (.d (.int 1))) aNil))) aNil)) aNil)))) aNil))) (tName 5)
noncomputable def b_law_2_f_4 (a : Ad) : G := sAsg (eCall (oLst true) aNil) (tName 6)
noncomputable def b_law_2_f_5_f_1 (a : Ad) : G := sAsg (eIf (bVal (eBin dLt (eVar 7) (eCall oLen (aCons (eVar 3) aNil)))) (eBin dIx (eVar 3) (eVar 7)) (eC (.d .non))) (tName 9)
noncomputable def b_law_2_f_5_f_2 (a : Ad) : G := sAsg (eIf (bVal (eBin dLt (eVar 7) (eCall oLen (aCons (eVar 4) aNil)))) (eBin dIx (eVar 4) (eVar 7)) (eC (.d .non))) (tName 10)
noncomputable def b_law_2_f_5_f_3 (a : Ad) : G := sIf (bVal (eBin (eqvD true) (eVar 9) (eVar 10))) (sExpr (eMethT isLst mAppend (eVar 6) (aCons (eCall oTup (aCons (eVar 7) (aCons (eVar 9) (aCons (eVar 10) aNil)))) aNil))) sNil
noncomputable def b_law_2_f_5_f (a : Ad) : G := sSeq (b_law_2_f_5_f_1 a) (sSeq (b_law_2_f_5_f_2 a) (b_law_2_f_5_f_3 a))
noncomputable def b_law_2_f_5 (a : Ad) : G := sFor (iRng (aCons (eCall oMax (aCons (eCall oLen (aCons (eVar 3) aNil)) (aCons (eCall oLen (aCons (eVar 4) aNil)) aNil))) aNil)) (tName 7) (b_law_2_f_5_f a)
noncomputable def b_law_2_f_6_f_1 (a : Ad) : G := sAsg (eCall (withD [] (callC true (f_changed a))) (aCons (eBin dIx (eVar 5) (eC (.d (.int 0)))) (aCons (eBin dIx (eVar 5) (eC (.d (.int 1)))) aNil))) (tName 11)
noncomputable def b_law_2_f_6_f_2 (a : Ad) : G := sIf (bOr (bNot (bVal (eCall (withD [] (callC false (f_law_wsame a))) (aCons (eVar 11) (aCons (eVar 6) aNil))))) (bVal (eBin (eqvD true) (eCall (withD [] (callC false (f_law_wdone a))) (aCons (eVar 3) (aCons (eVar 11) aNil))) (eVar 4)))) (sRet (eC (.d (.bl false)))) sNil
noncomputable def b_law_2_f_6_f_3 (a : Ad) : G := sExpr (eMethT isLst mAppend (eVar 11) (aCons (eCall oTup aNil) aNil))
noncomputable def b_law_2_f_6_f (a : Ad) : G := sSeq (b_law_2_f_6_f_1 a) (sSeq (b_law_2_f_6_f_2 a) (b_law_2_f_6_f_3 a))
noncomputable def b_law_2_f_6 (a : Ad) : G := sFor (iRng (aCons (eC (.d (.int 2))) aNil)) (tName 8) (b_law_2_f_6_f a)
noncomputable def b_law_2_f_7 (a : Ad) : G := sIf (bVal (eBin (eqvD true) (eCall (withD [] (callC false (f_changed a))) (aCons (eBin dIx (eVar 5) (eC (.d (.int 1)))) (aCons (eBin dIx (eVar 5) (eC (.d (.int 0)))) aNil))) (eLc false (iSeq (eVar 6)) (tTupG 3 (tsCons (tName 7) (tsCons (tName 9) (tsCons (tName 10) tsNil)))) bYes (eCall oTup (aCons (eVar 7) (aCons (eVar 10) (aCons (eVar 9) aNil)))) [7, 9, 10]))) (sRet (eC (.d (.bl false)))) sNil
noncomputable def b_law_2_f_8 (a : Ad) : G := sIf (bOr (bVal (eBin (eqvD true) (eCall (withD [] (callC false (f_changed a))) (aCons (eBin dIx (eVar 5) (eC (.d (.int 0)))) (aCons (eBin dIx (eVar 5) (eC (.d (.int 0)))) aNil))) (eCall (oLst false) aNil))) (bOr (bVal (eBin (eqvD true) (eUn (dFld a.C_Image "cells") (eBin dIx (eVar 5) (eC (.d (.int 0))))) (eVar 3))) (bVal (eBin (eqvD true) (eUn (dFld a.C_Image "cells") (eBin dIx (eVar 5) (eC (.d (.int 1))))) (eVar 4))))) (sRet (eC (.d (.bl false)))) sNil
noncomputable def b_law_2_f (a : Ad) : G := sSeq (b_law_2_f_1 a) (sSeq (b_law_2_f_2 a) (sSeq (b_law_2_f_3 a) (sSeq (b_law_2_f_4 a) (sSeq (b_law_2_f_5 a) (sSeq (b_law_2_f_6 a) (sSeq (b_law_2_f_7 a) (b_law_2_f_8 a)))))))
noncomputable def b_law_2 (a : Ad) : G := sFor (iRng (aCons (eC (.d (.int 4))) aNil)) (tName 2) (b_law_2_f a)
noncomputable def b_law_3 (a : Ad) : G := sRet (eC (.d (.bl true)))
theorem split_law (a : Ad) : m_law a = sSeq (b_law_1 a) (sSeq (b_law_2 a) (b_law_3 a)) := rfl
end Lw
namespace Lw
open PySem PySem.Spec L2 FL
open PySem.PyData (strOk)
variable {a : Ad} {xs : List Int} {n : Nat}
/-! the pen -/
def PenB (xs : List Int) (n : Nat) (c : Cell) : Prop := ∃ p v : Int, c = penC xs p v ∧ 0 ≤ p ∧ p ≤ n
theorem PenB.mono {xs : List Int} {n m : Nat} {c : Cell} (h : PenB xs n c) (k : n ≤ m) : PenB xs m c := by
  obtain ⟨p, v, e, h0, h1⟩ := h
  exact ⟨p, v, e, h0, by omega⟩
theorem PenB.leaf {xs : List Int} {n : Nat} {c : Cell} (h : PenB xs n c) : Leaf c := by
  obtain ⟨p, v, rfl, h0, h1⟩ := h
  exact ⟨rfl, fun _ => rfl⟩
theorem next_call {xs : List Int} {n : Nat} {c : Cell} {cl : List Cell} {k : Nat} (b : Bool) (hp : PenB xs n c) (hn : n < 1000000) (hk : cl[k]? = some c) {m : Int} (m0 : 0 < m) (m1 : m < 2 ^ 62) :
    ∃ (c' : Cell) (u : Int), callC b (f_law_next a) cl [.cel k, .d (.int m)] = some (.d (.int u), cl.set k c') ∧ PenB xs (n + 1) c' ∧ 0 ≤ u ∧ u < m := by
  have hp' := hp
  obtain ⟨p, v, e, h0, h1⟩ := hp
  obtain ⟨p', v', u, e1, u0, u1, q0, q1⟩ := next_ok (a := a) xs p v m h0 (by omega) m0 m1
  exact ⟨penC xs p' v', u, call_leaf hk hp'.leaf.1 (ws0 := [.cel 0, .d (.int m)]) (hp'.leaf.2 _) rfl (by simp -implicitDefEqProofs) (by simp -implicitDefEqProofs [ix]) (by rw [e]; exact e1) rfl rfl, ⟨p', v', rfl, by omega, by omega⟩, u0, u1⟩
/-- a store with the pen in front -/
structure PS (xs : List Int) (n : Nat) (cl : List Cell) : Prop where
  pen : ∃ c, PenB xs n c ∧ cl[0]? = some c
  wf : Wf cl
theorem PS.mono {cl : List Cell} {m : Nat} (h : PS xs n cl) (k : n ≤ m) : PS xs m cl := by
  obtain ⟨⟨c, hc, e⟩, w⟩ := h
  exact ⟨⟨c, hc.mono k, e⟩, w⟩
theorem PS.lt {cl : List Cell} (h : PS xs n cl) : 0 < cl.length := by
  obtain ⟨⟨c, hc, e⟩, w⟩ := h
  exact (List.getElem?_eq_some_iff.mp e).1
/-- the pen moves on; the cells behind stay as they are -/
theorem PS.next {cl tl : List Cell} (h : PS xs n cl) (hn : n < 1000000) {m : Int} (m0 : 0 < m) (m1 : m < 2 ^ 62) : ∃ (u : Int) (cl' : List Cell), callC false (f_law_next a) (cl ++ tl) [.cel 0, .d (.int m)] = some (.d (.int u), cl' ++ tl) ∧ PS xs (n + 1) cl' ∧ cl'.length = cl.length ∧ 0 ≤ u ∧ u < m := by
  have lt := h.lt
  obtain ⟨⟨c, hc, e⟩, w⟩ := h
  have e0 : (cl ++ tl)[0]? = some c := by rw [List.getElem?_append_left lt]; exact e
  obtain ⟨c', u, e1, hc', u0, u1⟩ := next_call (a := a) false hc hn e0 m0 m1
  refine ⟨u, cl.set 0 c', ?_, ⟨⟨c', hc', List.getElem?_set_self lt⟩, wf_set w _ _ (by rw [hc'.leaf.1]; simp)⟩, by simp, u0, u1⟩
  rw [e1, List.set_append_left _ _ lt]
theorem PS.next0 {cl : List Cell} (h : PS xs n cl) (hn : n < 1000000) {m : Int} (m0 : 0 < m) (m1 : m < 2 ^ 62) : ∃ (u : Int) (cl' : List Cell), callC false (f_law_next a) cl [.cel 0, .d (.int m)] = some (.d (.int u), cl') ∧ PS xs (n + 1) cl' ∧ cl'.length = cl.length ∧ 0 ≤ u ∧ u < m := by
  have := h.next (a := a) (tl := []) hn m0 m1
  simpa using this

/-! cells and what is changed -/
def atD (cs : List Int) (k : Nat) : D := match cs[k]? with
  | some z => .int z
  | none => .non
theorem atD_lt {cs : List Int} {k : Nat} (h : k < cs.length) : atD cs k = .int cs[k] := by simp [atD, h]
theorem atD_ge {cs : List Int} {k : Nat} (h : ¬ k < cs.length) : atD cs k = .non := by
  have : cs[k]? = none := List.getElem?_eq_none (by omega)
  simp [atD, this]
theorem atD_okE (cs : List Int) (k : Nat) (j : Nat) : okE j (atD cs k) = true := by
  by_cases h : k < cs.length
  · rw [atD_lt h]; cases j <;> rfl
  · rw [atD_ge h]; cases j <;> rfl
def intsD (cs : List Int) : D := .lst (cs.map D.int)
def rowT (c1 c2 : List Int) (k : Nat) : D := .tup [.int k, atD c1 k, atD c2 k]
def dif (c1 c2 : List Int) (k : Nat) : Bool := !decide (c1[k]? = c2[k]?)
theorem atD_eq {c1 c2 : List Int} {k : Nat} : atD c1 k = atD c2 k ↔ c1[k]? = c2[k]? := by
  unfold atD
  cases c1[k]? <;> cases c2[k]? <;> simp
def dueD (c1 c2 : List Int) : List D := ((List.range (max c1.length c2.length)).filter (dif c1 c2)).map (rowT c1 c2)
theorem cell_at_ok {cs : List Int} {k : Nat} : f_cell_at a [] [.d (intsD cs), .d (.int k)] = some (.d (atD cs k), []) := by
  have f1 : oLen [] [.d (intsD cs)] = some (.d (.int cs.length), []) := by simp -implicitDefEqProofs [oLen, lenW, asTup, asList, intsD]
  rw [f_cell_at, run_eq, m_cell_at]
  by_cases h : k < cs.length
  · have f2 : dIx [] (.d (intsD cs)) (.d (.int k)) = some (.d (.int cs[k]), []) := by
      have := at_d (cl := []) (P := cs.map D.int) (i := k) (by simpa using h)
      simpa [intsD] using this
    rw [atD_lt h]
    generalize intsD cs = X at *
    simp -implicitDefEqProofs [f1, f2, h]
    exact fin0
  · rw [atD_ge h]
    generalize intsD cs = X at *
    simp -implicitDefEqProofs [f1, h]
    exact fin0
theorem cell_at_c {cs : List Int} {k : Nat} {cl : List Cell} : callC false (f_cell_at a) cl [.d (intsD cs), .d (.int k)] = some (.d (atD cs k), cl) := call_flat rfl (fun _ => rfl) cell_at_ok
/-- an Image: a cell that refers to none -/
def imX (C : Addr) (cs : List Int) (st : Int) (rows : List D) : Cell := .ins C ["cells", "start", "rows"] [.d (intsD cs), .d (.int st), .d (.lst rows)]
theorem imX_leaf {C : Addr} {cs : List Int} {st : Int} {rows : List D} : Leaf (imX C cs st rows) := ⟨rfl, fun _ => rfl⟩
section
variable {C : Addr} {cl : List Cell} {m : Nat} {cs c1 c2 : List Int} {st s1 s2 : Int} {rows r1 r2 : List D}
theorem imX_cells (h : cl[m]? = some (imX C cs st rows)) : dFld C "cells" cl (.cel m) = some (.d (intsD cs), cl) := by simp [dFld, insW, h, look, imX]
theorem imX_ins (h : cl[m]? = some (imX C cs st rows)) : (insW C cl (.cel m)).isSome = true := by simp [insW, h, imX]
theorem len_ok (wf : Wf cl) (h : cl[m]? = some (imX a.C_Image cs st rows)) : f_Image___len__ a cl [.cel m] = some (.d (.int cs.length), cl) := by
  have f2 := imX_cells h
  have f1 : oLen cl [.d (intsD cs)] = some (.d (.int cs.length), cl) := by simp -implicitDefEqProofs [oLen, lenW, asTup, asList, intsD]
  have f5 : ∀ x, fin cl.length (.d x) cl = some (.d x, cl) := fun x => fin_same wf
  rw [f_Image___len__, run_eq, m_Image___len__]
  generalize intsD cs = X at *
  simp -implicitDefEqProofs [f1, f2, f5]
theorem part_leaf {ids : List Nat} {st' : List Cell} {c : Cell} (hc : Leaf c) (h : cl[m]? = some c) (hm : m ∈ ids) (pt : ∀ n ∈ ids, st'[ix ids n]? = some ((cellAt cl n).mapc (ix ids))) : st'[ix ids m]? = some c := by
  have : cellAt cl m = c := by simp [cellAt, h]
  rw [pt m hm, this, hc.2]
theorem len_c' (wf : Wf cl) (h : cl[m]? = some (imX a.C_Image cs st rows)) (hl : cs.length < 1000000) : oLenI a.C_Image false (f_Image___len__ a) cl [.cel m] = some (.d (.int cs.length), cl) := by
  obtain ⟨p, e⟩ := Option.isSome_iff_exists.mp (imX_ins h)
  have hm : m < cl.length := (List.getElem?_eq_some_iff.mp h).1
  have q : callC false (f_Image___len__ a) cl [.cel m] = some (.d (.int cs.length), cl) := call_pure wf (by simp; exact hm) fun st ids wf' rf cls pt => len_ok wf' (part_leaf imX_leaf h (rf m (by simp)) pt)
  simp only [oLenI, e, q]
  rw [if_pos (by omega)]
theorem clos_of {cl : List Cell} (wf : Wf cl) : (cl.all fun k => k.refs.all fun j => decide (j < cl.length)) = true := by
  rw [List.all_eq_true]
  intro c hc
  rw [List.all_eq_true]
  intro n hn
  obtain ⟨i, hi⟩ := List.getElem?_of_mem hc
  have := wf i n (List.getElem?_eq_some_iff.mp hi).1 (by simpa [cellAt, hi] using hn)
  simpa using this
def natW : W → Nat
  | .d (.int i) => i.toNat
  | _ => 0
theorem changed_ok (wf : Wf cl) (h1 : cl[n]? = some (imX a.C_Image c1 s1 r1)) (h2 : cl[m]? = some (imX a.C_Image c2 s2 r2)) (l1 : c1.length < 1000) (l2 : c2.length < 1000) : f_changed a cl [.cel n, .cel m] = some (.cel cl.length, cl ++ [lstD (dueD c1 c2)]) := by
  have hn : n < cl.length := (List.getElem?_eq_some_iff.mp h1).1
  have hm : m < cl.length := (List.getElem?_eq_some_iff.mp h2).1
  have sz : sizeLine = 16777216 := rfl
  have e1 := len_c' (a := a) wf h1 (by omega)
  have e2 := len_c' (a := a) wf h2 (by omega)
  generalize hN : max c1.length c2.length = N
  have em : oMax cl [.d (.int c1.length), .d (.int c2.length)] = some (.d (.int N), cl) := by
    simp [oMax, oInt2]
    omega
  have t3 : ∀ cl x y z, oTup cl [.d x, .d y, .d z] = some (.d (.tup [x, y, z]), cl) := fun cl x y z => by simp [oTup, tupW, datas, show sizeLine = 16777216 from rfl]
  have b1 : b_changed_1 a ⟨[some (.cel n), some (.cel m), none, none, none, none], cl⟩ = some (.nx ⟨[some (.cel n), some (.cel m), some (.d (.lst ((List.range N).map (rowT c1 c2)))), none, none, none], cl⟩) := by
    have er : iRng (aCons (eCall oMax (aCons (eCall (oLenI a.C_Image false (f_Image___len__ a)) (aCons (eVar 0) aNil)) (aCons (eCall (oLenI a.C_Image false (f_Image___len__ a)) (aCons (eVar 1) aNil)) aNil))) aNil) ⟨[some (.cel n), some (.cel m), none, none, none, none], cl⟩ = some ((intsW 0 N, none), ⟨[some (.cel n), some (.cel m), none, none, none, none], cl⟩) := by
      unfold iRng
      simp -implicitDefEqProofs [e1, e2, em]
      omega
    have := lc_pure (c := false) (g := tName 3) (tt := bYes) (te := eCall oTup (aCons (eVar 3) (aCons (eCall (withD [] (callC false (f_cell_at a))) (aCons (eUn (dFld a.C_Image "cells") (eVar 0)) (aCons (eVar 3) aNil))) (aCons (eCall (withD [] (callC false (f_cell_at a))) (aCons (eUn (dFld a.C_Image "cells") (eVar 1)) (aCons (eVar 3) aNil))) aNil)))) (vs := [3]) er (fun _ => true) (fun d => rowT c1 c2 (natW d)) (fun _ => trivial) (by rw [intsW_len, sz]; omega) (clos_of wf) (by
      intro d hd acc
      rw [intsW_map] at hd
      obtain ⟨i, hi, rfl⟩ := List.mem_map.mp hd
      have hz : (0 : Int) + (i : Nat) = (i : Nat) := by omega
      rw [hz]
      have g1 : (cl ++ [Cell.lst acc])[n]? = some (imX a.C_Image c1 s1 r1) := by rw [List.getElem?_append_left hn]; exact h1
      have g2 : (cl ++ [Cell.lst acc])[m]? = some (imX a.C_Image c2 s2 r2) := by rw [List.getElem?_append_left hm]; exact h2
      have k1 := imX_cells g1
      have k2 := imX_cells g2
      have q1 := cell_at_c (a := a) (cs := c1) (k := i) (cl := cl ++ [Cell.lst acc])
      have q2 := cell_at_c (a := a) (cs := c2) (k := i) (cl := cl ++ [Cell.lst acc])
      refine ⟨⟨[some (.cel n), some (.cel m), none, some (.d (.int i)), none, none], cl ++ [.lst acc]⟩, rfl, _, rfl, rfl, fun _ => ⟨⟨[some (.cel n), some (.cel m), none, some (.d (.int i)), none, none], cl ++ [.lst acc]⟩, ?_, rfl⟩⟩
      show _ = some (W.d (rowT c1 c2 i), _)
      unfold rowT
      generalize atD c1 i = X1 at *
      generalize atD c2 i = X2 at *
      generalize intsD c1 = Y1 at *
      generalize intsD c2 = Y2 at *
      generalize cl ++ [Cell.lst acc] = c0 at *
      simp -implicitDefEqProofs [k1, k2, q1, q2, t3])
    unfold b_changed_1
    rw [ev_sAsg, this]
    have : ((intsW 0 N).filter fun _ => true).map (fun d => rowT c1 c2 (natW d)) = (List.range N).map (rowT c1 c2) := by
      rw [intsW_map, List.filter_eq_self.mpr (fun _ _ => rfl), List.map_map]
      apply List.map_congr_left
      intro i _
      show rowT c1 c2 (natW (.d (.int (0 + i)))) = _
      rw [show (0 : Int) + (i : Nat) = (i : Nat) by omega]
      rfl
    rw [this]
    rfl
  have b2 : b_changed_2 a ⟨[some (.cel n), some (.cel m), some (.d (.lst ((List.range N).map (rowT c1 c2)))), none, none, none], cl⟩ = some (.ret (.cel cl.length) ⟨[some (.cel n), some (.cel m), some (.d (.lst ((List.range N).map (rowT c1 c2)))), none, none, none], cl ++ [lstD (dueD c1 c2)]⟩) := by
    have er : iSeq (eVar 2) ⟨[some (.cel n), some (.cel m), some (.d (.lst ((List.range N).map (rowT c1 c2)))), none, none, none], cl⟩ = some ((((List.range N).map (rowT c1 c2)).map W.d, none), ⟨[some (.cel n), some (.cel m), some (.d (.lst ((List.range N).map (rowT c1 c2)))), none, none, none], cl⟩) := by
      unfold iSeq
      simp -implicitDefEqProofs [asTup, itemsL]
    have := lc_pure (c := true) (g := tTupG 3 (tsCons (tName 3) (tsCons (tName 4) (tsCons (tName 5) tsNil)))) (tt := bVal (eBin (eqvD true) (eVar 4) (eVar 5))) (te := eCall oTup (aCons (eVar 3) (aCons (eVar 4) (aCons (eVar 5) aNil)))) (vs := [3, 4, 5]) er (fun d => match d with | .d (.tup [.int k, _, _]) => dif c1 c2 k.toNat | _ => false) (fun d => match d with | .d x => x | _ => .non) (fun _ => trivial) (by rw [List.length_map, List.length_map, List.length_range, sz]; omega) (clos_of wf) (by
      intro d hd acc
      obtain ⟨y, hy, rfl⟩ := List.mem_map.mp hd
      obtain ⟨i, hi, rfl⟩ := List.mem_map.mp hy
      have eq1 : eqvD true (cl ++ [Cell.lst acc]) (.d (atD c1 i)) (.d (atD c2 i)) = some (.d (.bl (dif c1 c2 i)), cl ++ [Cell.lst acc]) := by
        rw [eqE_dd (atD_okE _ _ _) (atD_okE _ _ _)]
        unfold sg dif
        by_cases h : c1[i]? = c2[i]?
        · simp [h, atD_eq.mpr h]
        · have := mt atD_eq.mp h
          simp [h, this]
      refine ⟨⟨[some (.cel n), some (.cel m), some (.d (.lst ((List.range N).map (rowT c1 c2)))), some (.d (.int i)), some (.d (atD c1 i)), some (.d (atD c2 i))], cl ++ [.lst acc]⟩, rfl, ⟨[some (.cel n), some (.cel m), some (.d (.lst ((List.range N).map (rowT c1 c2)))), some (.d (.int i)), some (.d (atD c1 i)), some (.d (atD c2 i))], cl ++ [.lst acc]⟩, ?_, rfl, fun _ => ⟨⟨[some (.cel n), some (.cel m), some (.d (.lst ((List.range N).map (rowT c1 c2)))), some (.d (.int i)), some (.d (atD c1 i)), some (.d (atD c2 i))], cl ++ [.lst acc]⟩, ?_, rfl⟩⟩
      · show _ = some (dif c1 c2 i, _)
        generalize atD c1 i = X1 at *
        generalize atD c2 i = X2 at *
        generalize cl ++ [Cell.lst acc] = c0 at *
        generalize (List.range N).map (rowT c1 c2) = Z at *
        simp -implicitDefEqProofs [eq1]
      · show _ = some (W.d (rowT c1 c2 i), _)
        unfold rowT
        generalize atD c1 i = X1 at *
        generalize atD c2 i = X2 at *
        generalize cl ++ [Cell.lst acc] = c0 at *
        simp -implicitDefEqProofs [t3])
    unfold b_changed_2
    rw [ev_sRet, this]
    have : (((((List.range N).map (rowT c1 c2)).map W.d).filter (fun d => match d with | .d (.tup [.int k, _, _]) => dif c1 c2 k.toNat | _ => false)).map (fun d => match d with | .d x => x | _ => D.non)) = dueD c1 c2 := by
      rw [List.map_map, List.filter_map, List.map_map]
      unfold dueD
      rw [hN]
      rfl
    rw [this]
    rfl
  rw [f_changed, run_eq, split_changed]
  have start : ([.cel n, .cel m] : List W).map some ++ List.replicate (6 - ([.cel n, .cel m] : List W).length) none = [some (.cel n), some (.cel m), none, none, none, none] := rfl
  rw [start, ev_sSeq, b1]
  simp only [Option.bind_some, nxt_nx]
  rw [b2]
  exact fin_new wf
end
end Lw
namespace Lw
open PySem PySem.Spec L2 FL
open PySem.PyData (strOk)
variable {a : Ad} {d : Nat}
theorem isi_of {cl : List Cell} {w : W} {t T : String} {b : Bool} (h : tyX cl w = some t) (k : kitB t T = some b) : oIsiX cl [w, .d (.op (.ty T))] = some (.d (.bl b), cl) := by
  simp only [oIsiX, h, k]
theorem kb1 : kitB "int" "bool" = some false := by decide +kernel
theorem kb2 : kitB "int" "int" = some true := by decide +kernel
theorem kb3 : kitB "tuple" "bool" = some false := by decide +kernel
theorem kb4 : kitB "tuple" "int" = some false := by decide +kernel
theorem kb5 : kitB "tuple" "str" = some false := by decide +kernel
theorem kb6 : kitB "tuple" "tuple" = some true := by decide +kernel
theorem kb7 : kitB "tuple" "list" = some false := by decide +kernel
theorem kb8 : kitB "list" "bool" = some false := by decide +kernel
theorem kb9 : kitB "list" "int" = some false := by decide +kernel
theorem kb10 : kitB "list" "str" = some false := by decide +kernel
theorem kb11 : kitB "list" "tuple" = some false := by decide +kernel
theorem kb12 : kitB "list" "list" = some true := by decide +kernel
def Same1 (a : Ad) (d : Nat) (x : D) : Prop := g_law_wsame a d [] [.d x, .d x] = some (.d (.bl true), [])
theorem same_non : Same1 a (d + 1) .non := by
  unfold Same1
  show runG 4 (m_law_wsame a (g_law_wsame a d)) [] _ = _
  rw [run_eq, m_law_wsame]
  simp -implicitDefEqProofs [isN]
  exact fin0
theorem same_int {i : Int} : Same1 a (d + 1) (.int i) := by
  have e1 := isi_of (cl := []) (w := .d (.int i)) (t := "int") rfl kb1
  have e2 := isi_of (cl := []) (w := .d (.int i)) (t := "int") rfl kb2
  have e3 : eqvD false [] (.d (.int i)) (.d (.int i)) = some (.d (.bl true), []) := by rw [eqv_int, sg]; simp
  unfold Same1
  show runG 4 (m_law_wsame a (g_law_wsame a d)) [] _ = _
  rw [run_eq, m_law_wsame]
  generalize oIsiX = oI at *
  simp -implicitDefEqProofs [isN, e1, e2, e3]
  exact fin0
theorem eq_bl {cl : List Cell} {b : Bool} : eqvD true cl (.d (.bl b)) (.d (.bl b)) = some (.d (.bl false), cl) := eqv_dd (by cases b <;> rfl)
theorem same_seq {st : List Cell} {w0 w1 : W} {t : String} {P : List D} {ck : Ck} (wf : Wf st) (n0 : isN false st w1 (.d .non) = some (.d (.bl false), st)) (h0 : tyX st w0 = some t) (h1 : tyX st w1 = some t) (ht : t = "tuple" ∨ t = "list") (l0 : oLen st [w0] = some (.d (.int P.length), st)) (l1 : oLen st [w1] = some (.d (.int P.length), st)) (lP : P.length < 1000)
    (hz : ∀ r : Rho, r.sl = [some w0, some w1, none, none] → r.cl = st → iZip (eVar 0) (eVar 1) r = some ((P.map fun x => W.d (.tup [x, x]), ck), r)) (hck : ∀ c : Cell, ckC ck (st ++ [c])) (hP : ∀ x ∈ P, Same1 a (d + 1) x) :
    g_law_wsame a (d + 2) st [w0, w1] = some (.d (.bl true), st) := by
  have sz : sizeLine = 16777216 := rfl
  obtain ⟨b1, b2, b3, b4, b5, k1, k2, k3, k4, k5, e45⟩ : ∃ b1 b2 b3 b4 b5, kitB t "bool" = some b1 ∧ kitB t "int" = some b2 ∧ kitB t "str" = some b3 ∧ kitB t "tuple" = some b4 ∧ kitB t "list" = some b5 ∧ b1 = false ∧ b2 = false ∧ b3 = false := by
    rcases ht with rfl | rfl
    · exact ⟨_, _, _, _, _, kb3, kb4, kb5, kb6, kb7, rfl, rfl, rfl⟩
    · exact ⟨_, _, _, _, _, kb8, kb9, kb10, kb11, kb12, rfl, rfl, rfl⟩
  obtain ⟨rfl, rfl, rfl⟩ := e45
  have q1 := isi_of h1 k1
  have q1' := isi_of h0 k1
  have q2 := isi_of h1 k2
  have q3 := isi_of h1 k3
  have q4 := isi_of h1 k4
  have q4' := isi_of h0 k4
  have q5 := isi_of h1 k5
  have q5' := isi_of h0 k5
  have e4 := eq_bl (cl := st) (b := b4)
  have e5 := eq_bl (cl := st) (b := b5)
  have e6 : eqvD true st (.d (.int P.length)) (.d (.int P.length)) = some (.d (.bl false), st) := by rw [eqv_int, sg]; simp
  have lc := lc_pure (c := false) (mi := iZip (eVar 0) (eVar 1)) (g := tTupG 2 (tsCons (tName 2) (tsCons (tName 3) tsNil))) (tt := bYes) (te := eCall (withD [] (callC false (g_law_wsame a (d + 1)))) (aCons (eVar 2) (aCons (eVar 3) aNil))) (vs := [2, 3]) (hz ⟨[some w0, some w1, none, none], st⟩ rfl rfl) (fun _ => true) (fun _ => .bl true) hck (by rw [List.length_map, sz]; omega) (clos_of wf) (by
    intro w hw acc
    obtain ⟨x, hx, rfl⟩ := List.mem_map.mp hw
    have c1 : callC false (g_law_wsame a (d + 1)) (st ++ [.lst acc]) [.d x, .d x] = some (.d (.bl true), st ++ [.lst acc]) := call_flat rfl (fun _ => rfl) (hP x hx)
    refine ⟨⟨[some w0, some w1, some (.d x), some (.d x)], st ++ [.lst acc]⟩, rfl, _, rfl, rfl, fun _ => ⟨⟨[some w0, some w1, some (.d x), some (.d x)], st ++ [.lst acc]⟩, ?_, rfl⟩⟩
    generalize st ++ [Cell.lst acc] = c0 at *
    generalize g_law_wsame a (d + 1) = gg at *
    simp -implicitDefEqProofs [c1])
  have ef : ((P.map fun x => W.d (.tup [x, x])).filter fun _ => true).map (fun _ => D.bl true) = P.map fun _ => D.bl true := by
    rw [List.filter_eq_self.mpr (fun _ _ => rfl), List.map_map]
    rfl
  rw [ef] at lc
  have al : oAll st [.d (.lst (P.map fun _ => D.bl true))] = some (.d (.bl true), st) := by
    have : ∀ P : List D, (P.map fun _ => D.bl true).map W.d = (P.map fun _ => true).map fun b => W.d (.bl b) := fun P => by simp
    have bs : ∀ bs : List Bool, bools (bs.map fun b => W.d (.bl b)) = some bs := by
      intro bs
      induction bs with
      | nil => rfl
      | cons b bs ih =>
        show (bools (bs.map fun b => W.d (.bl b))).map (b :: ·) = _
        rw [ih]
        rfl
    have e : bools ((P.map fun _ => D.bl true).map W.d) = some (P.map fun _ => true) := by rw [this, bs]
    simp only [oAll, oBools, asList, Option.bind_some, e]
    have : (P.map fun _ => true).all id = true := by simp
    rw [this]
  have f5 : ∀ x, fin st.length (.d x) st = some (.d x, st) := fun x => fin_same wf
  show runG 4 (m_law_wsame a (g_law_wsame a (d + 1))) st _ = _
  rw [run_eq, m_law_wsame]
  have start : ([w0, w1] : List W).map some ++ List.replicate (4 - ([w0, w1] : List W).length) none = [some w0, some w1, none, none] := rfl
  rw [start]
  generalize eLc false (iZip (eVar 0) (eVar 1)) (tTupG 2 (tsCons (tName 2) (tsCons (tName 3) tsNil))) bYes (eCall (withD [] (callC false (g_law_wsame a (d + 1)))) (aCons (eVar 2) (aCons (eVar 3) aNil))) [2, 3] = LC at *
  generalize oIsiX = oI at *
  generalize (P.length : Int) = LP at *
  generalize P.map (fun _ => D.bl true) = PB at *
  simp -implicitDefEqProofs [n0, q1, q1', q2, q3, q4, q4', q5, q5', e4, e5, e6, l0, l1, lc, al, f5]
theorem zipW_same : ∀ P : List D, zipW (P.map W.d) (P.map W.d) = P.map fun x => W.d (.tup [x, x])
  | [] => rfl
  | x :: P => by
    show tupW [.d x, .d x] :: zipW (P.map W.d) (P.map W.d) = _
    rw [zipW_same P]
    rfl
theorem same_tup {P : List D} (lP : P.length < 1000) (hP : ∀ x ∈ P, Same1 a (d + 1) x) : Same1 a (d + 2) (.tup P) := by
  refine same_seq (P := P) (ck := none) (t := "tuple") (fun i n hi => absurd hi (by simp)) rfl rfl rfl (.inl rfl) (by simp [oLen, lenW, asTup]) (by simp [oLen, lenW, asTup]) lP ?_ (fun _ => trivial) hP
  rintro ⟨sl, cl⟩ hs hc
  simp only at hs hc
  subst hs hc
  simp only [FL.iZip]
  have e0 : eVar 0 ⟨[some (W.d (.tup P)), some (W.d (.tup P)), none, none], []⟩ = some (.d (.tup P), ⟨[some (W.d (.tup P)), some (W.d (.tup P)), none, none], []⟩) := rfl
  have e1 : eVar 1 ⟨[some (W.d (.tup P)), some (W.d (.tup P)), none, none], []⟩ = some (.d (.tup P), ⟨[some (W.d (.tup P)), some (W.d (.tup P)), none, none], []⟩) := rfl
  simp only [e0, e1, itemsL, asTup, zipW_same]
theorem same_lst {st : List Cell} {n m : Nat} {P : List D} (wf : Wf st) (h1 : st[n]? = some (lstD P)) (h2 : st[m]? = some (lstD P)) (lP : P.length < 1000) (hP : ∀ x ∈ P, Same1 a (d + 1) x) : g_law_wsame a (d + 2) st [.cel n, .cel m] = some (.d (.bl true), st) := by
  have hn : n < st.length := (List.getElem?_eq_some_iff.mp h1).1
  have hm : m < st.length := (List.getElem?_eq_some_iff.mp h2).1
  refine same_seq (P := P) (ck := some ([(n, P.map W.d)] ++ [(m, P.map W.d)])) (t := "list") wf rfl (by simp [tyX, tyW, h1, lstD]) (by simp [tyX, tyW, h2, lstD]) (.inr rfl) (len_c h1) (len_c h2) lP ?_ ?_ hP
  · rintro ⟨sl, cl⟩ hs hc
    simp only at hs hc
    subst hs hc
    have i1 : itemsL cl (.cel n) = some (P.map W.d, some [(n, P.map W.d)]) := by simp [itemsL, h1, lstD]
    have i2 : itemsL cl (.cel m) = some (P.map W.d, some [(m, P.map W.d)]) := by simp [itemsL, h2, lstD]
    have e0 : eVar 0 ⟨[some (W.cel n), some (W.cel m), none, none], cl⟩ = some (.cel n, ⟨[some (W.cel n), some (W.cel m), none, none], cl⟩) := rfl
    have e1 : eVar 1 ⟨[some (W.cel n), some (W.cel m), none, none], cl⟩ = some (.cel m, ⟨[some (W.cel n), some (W.cel m), none, none], cl⟩) := rfl
    simp only [FL.iZip, e0, e1, i1, i2, zipW_same, ckAnd]
  · intro c p hp
    simp only [List.cons_append, List.nil_append, List.mem_cons, List.not_mem_nil, or_false] at hp
    rcases hp with rfl | rfl
    · rw [List.getElem?_append_left hn]; exact h1
    · rw [List.getElem?_append_left hm]; exact h2
theorem dueD_len (c1 c2 : List Int) : (dueD c1 c2).length ≤ max c1.length c2.length := by
  unfold dueD
  rw [List.length_map]
  have := List.length_filter_le (dif c1 c2) (List.range (max c1.length c2.length))
  simpa using this
theorem same_at {cs : List Int} {k : Nat} : Same1 a (d + 1) (atD cs k) := by
  by_cases h : k < cs.length
  · rw [atD_lt h]; exact same_int
  · rw [atD_ge h]; exact same_non
theorem same_due {c1 c2 : List Int} : ∀ x ∈ dueD c1 c2, Same1 a 3 x := by
  intro x hx
  obtain ⟨k, _, rfl⟩ := List.mem_map.mp hx
  refine same_tup (d := 1) (by simp) fun y hy => ?_
  simp only [List.mem_cons, List.not_mem_nil, or_false] at hy
  rcases hy with rfl | rfl | rfl
  · exact same_int
  · exact same_at
  · exact same_at
theorem wsame_call {cl : List Cell} {n m : Nat} {c1 c2 : List Int} (wf : Wf cl) (h1 : cl[n]? = some (lstD (dueD c1 c2))) (h2 : cl[m]? = some (lstD (dueD c1 c2))) (l1 : c1.length < 500) (l2 : c2.length < 500) : callC false (f_law_wsame a) cl [.cel n, .cel m] = some (.d (.bl true), cl) := by
  have hn : n < cl.length := (List.getElem?_eq_some_iff.mp h1).1
  have hm : m < cl.length := (List.getElem?_eq_some_iff.mp h2).1
  have := dueD_len c1 c2
  exact call_pure wf (by simp; exact ⟨hn, hm⟩) fun st ids wf' rf cls pt => same_lst (d := 2) wf' (part_leaf leaf_lst h1 (rf n (by simp)) pt) (part_leaf leaf_lst h2 (rf m (by simp)) pt) (by omega) same_due
end Lw
namespace Lw
open PySem PySem.Spec L2 FL
open PySem.PyData (strOk)
variable {a : Ad}
/-! dicts whose keys are 0, 1, .. -/
theorem hasK_n {N k : Nat} : hasK (keysN N) (.inl (k : Int)) = decide (k < N) := by
  unfold hasK keysN
  by_cases h : k < N
  · rw [decide_eq_true h, List.any_eq_true]
    exact ⟨.inl (k : Int), List.mem_map.mpr ⟨k, List.mem_range.mpr h, rfl⟩, by simp⟩
  · rw [decide_eq_false h, Bool.eq_false_iff]
    intro q
    obtain ⟨x, hx, e⟩ := List.any_eq_true.mp q
    obtain ⟨i, hi, rfl⟩ := List.mem_map.mp hx
    have e := of_decide_eq_true e
    have hi := List.mem_range.mp hi
    cases e
    exact h hi
theorem valK_from : ∀ (ws : List W) (s k : Nat), s ≤ k → valK ((List.range' s ws.length).map fun i => (.inl ((i : Nat) : Int) : Key)) ws (.inl (k : Int)) = ws[k - s]?
  | [], s, k, _ => by simp [valK]
  | w :: ws, s, k, h => by
    rw [List.length_cons, List.range'_succ, List.map_cons]
    unfold valK
    by_cases e : s = k
    · subst e
      simp
    · have ne : ¬ ((.inl ((s : Nat) : Int) : Key) = .inl (k : Int)) := by
        intro q
        cases q
        exact e rfl
      rw [if_neg ne, valK_from ws (s + 1) k (by omega)]
      rw [show k - s = k - (s + 1) + 1 by omega]
      rfl
theorem updK_from : ∀ (ws : List W) (s k : Nat) (y : W), s ≤ k → updK ((List.range' s ws.length).map fun i => (.inl ((i : Nat) : Int) : Key)) ws (.inl (k : Int)) y = ws.set (k - s) y
  | [], s, k, y, _ => by simp [updK]
  | w :: ws, s, k, y, h => by
    rw [List.length_cons, List.range'_succ, List.map_cons]
    unfold updK
    by_cases e : s = k
    · subst e
      have : ∀ ws : List W, ∀ t, s < t → updK ((List.range' t ws.length).map fun i => (.inl ((i : Nat) : Int) : Key)) ws (.inl (s : Int)) y = ws := by
        intro ws
        induction ws with
        | nil => intro t _; simp [updK]
        | cons v ws ih =>
          intro t ht
          rw [List.length_cons, List.range'_succ, List.map_cons]
          unfold updK
          have ne : ¬ ((.inl ((t : Nat) : Int) : Key) = .inl (s : Int)) := by
            intro q
            cases q
            exact Nat.lt_irrefl _ ht
          rw [if_neg ne, ih (t + 1) (by omega)]
      rw [if_pos rfl, this ws (s + 1) (by omega)]
      simp
    · have ne : ¬ ((.inl ((s : Nat) : Int) : Key) = .inl (k : Int)) := by
        intro q
        cases q
        exact e rfl
      rw [if_neg ne, updK_from ws (s + 1) k y (by omega)]
      rw [show k - s = k - (s + 1) + 1 by omega]
      rfl
theorem keysN_eq (N : Nat) : keysN N = (List.range' 0 N).map fun i => (.inl ((i : Nat) : Int) : Key) := by
  unfold keysN
  rw [List.range_eq_range']
theorem valK_n {ws : List W} {k : Nat} : valK (keysN ws.length) ws (.inl (k : Int)) = ws[k]? := by
  rw [keysN_eq, valK_from ws 0 k (by omega)]
  rfl
theorem updK_n {ws : List W} {k : Nat} {y : W} : updK (keysN ws.length) ws (.inl (k : Int)) y = ws.set k y := by
  rw [keysN_eq, updK_from ws 0 k y (by omega)]
  rfl
theorem keysN_succ (N : Nat) : keysN N ++ [.inl (N : Int)] = keysN (N + 1) := by
  unfold keysN
  rw [List.range_succ, List.map_append]
  rfl
/-! the state of the dict when the first K addresses have been gone through -/
def nK (c1 c2 : List Int) (K : Nat) : Nat := max c1.length (min K c2.length)
def vK (c1 c2 : List Int) (K : Nat) : List W := (List.range (nK c1 c2 K)).map fun k => W.d (if k < K then atD c2 k else atD c1 k)
def dK (c1 c2 : List Int) (K : Nat) : Cell := .dk (keysN (nK c1 c2 K)) (vK c1 c2 K)
theorem vK_len {c1 c2 : List Int} {K : Nat} : (vK c1 c2 K).length = nK c1 c2 K := by simp [vK]
theorem dK_leaf {c1 c2 : List Int} {K : Nat} : Leaf (dK c1 c2 K) := by
  have e : vK c1 c2 K = ((List.range (nK c1 c2 K)).map fun k => (if k < K then atD c2 k else atD c1 k)).map W.d := by
    unfold vK
    rw [List.map_map]
    rfl
  unfold dK
  rw [e]
  exact ⟨refsA_map _, fun f => congrArg (Cell.dk _) (mapcA_map f _)⟩
theorem vK_get {c1 c2 : List Int} {K k : Nat} (h : k < nK c1 c2 K) : (vK c1 c2 K)[k]? = some (.d (if k < K then atD c2 k else atD c1 k)) := by
  unfold vK
  rw [List.getElem?_map, List.getElem?_range h]
  rfl
theorem nK_skip {c1 c2 : List Int} {K : Nat} (h : dif c1 c2 K = false) : nK c1 c2 (K + 1) = nK c1 c2 K := by
  have e : c1[K]? = c2[K]? := by simpa [dif] using h
  unfold nK
  by_cases h1 : K < c1.length
  · omega
  · have : c1[K]? = none := List.getElem?_eq_none (by omega)
    rw [this] at e
    have : ¬ K < c2.length := fun q => by
      rw [List.getElem?_eq_getElem q] at e
      cases e
    omega
theorem dK_skip {c1 c2 : List Int} {K : Nat} (h : dif c1 c2 K = false) : dK c1 c2 (K + 1) = dK c1 c2 K := by
  have e : c1[K]? = c2[K]? := by simpa [dif] using h
  have e2 := atD_eq.mpr e
  unfold dK vK
  rw [nK_skip h]
  congr 1
  apply List.map_congr_left
  intro k _
  by_cases q : k = K
  · subst q
    simp [e2]
  · by_cases q2 : k < K
    · rw [if_pos q2, if_pos (by omega)]
    · rw [if_neg q2, if_neg (by omega)]
theorem dK_put {c1 c2 : List Int} {K : Nat} (h : dif c1 c2 K = true) (hK : K < max c1.length c2.length) : (if hasK (keysN (nK c1 c2 K)) (.inl (K : Int)) then Cell.dk (keysN (nK c1 c2 K)) (updK (keysN (nK c1 c2 K)) (vK c1 c2 K) (.inl (K : Int)) (.d (atD c2 K))) else .dk (keysN (nK c1 c2 K) ++ [.inl (K : Int)]) (vK c1 c2 K ++ [.d (atD c2 K)])) = dK c1 c2 (K + 1) := by
  rw [hasK_n]
  by_cases q : K < nK c1 c2 K
  · rw [decide_eq_true q, if_pos rfl]
    have e1 : nK c1 c2 (K + 1) = nK c1 c2 K := by unfold nK at q ⊢; omega
    unfold dK
    rw [e1]
    congr 1
    have := updK_n (ws := vK c1 c2 K) (k := K) (y := .d (atD c2 K))
    rw [vK_len] at this
    rw [this]
    apply List.ext_getElem?
    intro k
    by_cases hk : k < nK c1 c2 K
    · rw [vK_get (by rw [e1]; exact hk)]
      by_cases e : k = K
      · subst e
        rw [List.getElem?_set_self (by rw [vK_len]; exact hk), if_pos (by omega)]
      · rw [List.getElem?_set_ne (Ne.symm e), vK_get hk]
        by_cases q2 : k < K
        · rw [if_pos q2, if_pos (by omega)]
        · rw [if_neg q2, if_neg (by omega)]
    · rw [List.getElem?_eq_none (by simp [vK_len]; omega), List.getElem?_eq_none (by rw [vK_len, e1]; omega)]
  · rw [decide_eq_false q, if_neg (by simp)]
    have e1 : nK c1 c2 K = K := by unfold nK at q ⊢; omega
    have e2 : nK c1 c2 (K + 1) = K + 1 := by unfold nK at q e1 ⊢; omega
    unfold dK
    rw [e1, e2, keysN_succ]
    congr 1
    unfold vK
    rw [e1, e2, List.range_succ, List.map_append]
    congr 1
    · apply List.map_congr_left
      intro k hk
      have := List.mem_range.mp hk
      rw [if_pos this, if_pos (by omega)]
    · simp
theorem dK_zero {c1 c2 : List Int} : dK c1 c2 0 = .dk (keysN c1.length) (c1.map fun z => W.d (.int z)) := by
  have e1 : nK c1 c2 0 = c1.length := by unfold nK; omega
  unfold dK vK
  rw [e1]
  congr 1
  apply List.ext_getElem?
  intro k
  by_cases h : k < c1.length
  · rw [List.getElem?_map, List.getElem?_range h, List.getElem?_map, List.getElem?_eq_getElem h]
    simp [atD_lt h]
  · rw [List.getElem?_eq_none (by simp; omega), List.getElem?_eq_none (by simp; omega)]
theorem sortI_range (N : Nat) : sortI ((List.range N).map fun i : Nat => (i : Int)) = (List.range N).map fun i : Nat => (i : Int) := by
  refine (sortI_eq (List.Perm.refl _) ?_).symm
  rw [List.pairwise_map]
  have := List.pairwise_lt_range (n := N)
  exact this.imp fun h => by omega
theorem intsK_n (N : Nat) : intsK (keysN N) = some ((List.range N).map fun i : Nat => (i : Int)) := by
  unfold keysN
  generalize List.range N = l
  induction l with
  | nil => rfl
  | cons i l ih =>
    show (intsK (l.map _)).map _ = _
    rw [ih]
    rfl
end Lw
namespace Lw
open PySem PySem.Spec L2 FL
open PySem.PyData (strOk)
variable {a : Ad} {c1 c2 : List Int} {st : List Cell} {n K : Nat}
abbrev dSl' (c1 : List Int) (n L : Nat) (s3 s4 s5 : Option W) : List (Option W) := [some (.d (intsD c1)), some (.cel n), some (.cel L), s3, s4, s5, none]
theorem done_step (hK : K < max c1.length c2.length) (hd : dif c1 c2 K = true) (l1 : c1.length < 1000) (l2 : c2.length < 1000) : b_law_wdone_2_f a ⟨dSl' c1 n st.length (some (.d (.int K))) (some (.d (atD c1 K))) (some (.d (atD c2 K))), st ++ [dK c1 c2 K]⟩ = some (.nx ⟨dSl' c1 n st.length (some (.d (.int K))) (some (.d (atD c1 K))) (some (.d (atD c2 K))), st ++ [dK c1 c2 (K + 1)]⟩) := by
  have sz : sizeLine = 16777216 := rfl
  have g : (st ++ [dK c1 c2 K])[st.length]? = some (.dk (keysN (nK c1 c2 K)) (vK c1 c2 K)) := by simp [dK]
  have ad : asDk (st ++ [dK c1 c2 K]) (.cel st.length) = some (keysN (nK c1 c2 K), vK c1 c2 K) := by simp only [asDk, g]
  have hv : valK (keysN (nK c1 c2 K)) (vK c1 c2 K) (.inl (K : Int)) = (vK c1 c2 K)[K]? := by
    have := valK_n (ws := vK c1 c2 K) (k := K)
    rwa [vK_len] at this
  have hg : dGetW (st ++ [dK c1 c2 K]) (.cel st.length) (.d (.int K)) = some ((vK c1 c2 K)[K]?) := by
    have e : ∀ y, dGetW (st ++ [dK c1 c2 K]) (.cel st.length) y = (keyW y).map fun k => valK (keysN (nK c1 c2 K)) (vK c1 c2 K) k := fun y => by simp [dGetW, ad]
    rw [e]
    show some (valK (keysN (nK c1 c2 K)) (vK c1 c2 K) (Sum.inl (K : Int))) = _
    rw [hv]
  have mg : mGet (st ++ [dK c1 c2 K]) [.cel st.length, .d (.int K), .d .non] = some (.d (atD c1 K), st ++ [dK c1 c2 K]) := by
    simp only [mGet, hg]
    by_cases q : K < nK c1 c2 K
    · rw [vK_get q, if_neg (Nat.lt_irrefl _)]
    · have : (vK c1 c2 K)[K]? = none := List.getElem?_eq_none (by rw [vK_len]; omega)
      rw [this, atD_ge (by unfold nK at q; omega)]
  have isd : isDic (st ++ [dK c1 c2 K]) (.cel st.length) = true := by simp [isDic, ad]
  have e1 : eqvD true (st ++ [dK c1 c2 K]) (.d (atD c1 K)) (.d (atD c1 K)) = some (.d (.bl false), st ++ [dK c1 c2 K]) := eqv_dd (okE_okD _ _ (atD_okE c1 K 60))
  have pc : dPutC (st ++ [dK c1 c2 K]) (.cel st.length) (.d (.int K)) (.d (atD c2 K)) = some (st ++ [dK c1 c2 (K + 1)]) := by
    have kl : (keysN (nK c1 c2 K)).length < sizeLine := by
      rw [sz]
      simp [keysN, nK]
      omega
    simp only [dPutC, g, show keyW (.d (.int K)) = some (.inl (K : Int)) from rfl]
    rw [if_pos kl, dK_put hd hK]
    simp
  have f1 : b_law_wdone_2_f_1 a ⟨dSl' c1 n st.length (some (.d (.int K))) (some (.d (atD c1 K))) (some (.d (atD c2 K))), st ++ [dK c1 c2 K]⟩ = some (.nx ⟨dSl' c1 n st.length (some (.d (.int K))) (some (.d (atD c1 K))) (some (.d (atD c2 K))), st ++ [dK c1 c2 K]⟩) := by
    unfold b_law_wdone_2_f_1
    generalize atD c1 K = X1 at *
    generalize atD c2 K = X2 at *
    generalize st ++ [dK c1 c2 K] = S at *
    generalize isDic = isd' at *
    generalize mGet = mg' at *
    simp -implicitDefEqProofs [isd, mg, e1]
  have f2 : b_law_wdone_2_f_2 a ⟨dSl' c1 n st.length (some (.d (.int K))) (some (.d (atD c1 K))) (some (.d (atD c2 K))), st ++ [dK c1 c2 K]⟩ = some (.nx ⟨dSl' c1 n st.length (some (.d (.int K))) (some (.d (atD c1 K))) (some (.d (atD c2 K))), st ++ [dK c1 c2 (K + 1)]⟩) := by
    unfold b_law_wdone_2_f_2 sPutD
    generalize atD c1 K = X1 at *
    generalize atD c2 K = X2 at *
    generalize st ++ [dK c1 c2 K] = S at *
    simp -implicitDefEqProofs [pc]
  unfold b_law_wdone_2_f
  rw [ev_sSeq, f1]
  exact f2
theorem done_loop {ck : Ck} (hck : ∀ c : Cell, ckC ck (st ++ [c])) (l1 : c1.length < 1000) (l2 : c2.length < 1000) : ∀ (m K : Nat) (s3 s4 s5 : Option W), K + m = max c1.length c2.length → ∃ s3' s4' s5', forL (tTupG 3 (tsCons (tName 3) (tsCons (tName 4) (tsCons (tName 5) tsNil)))) (b_law_wdone_2_f a) ck ((((List.range' K m).filter (dif c1 c2)).map (rowT c1 c2)).map W.d) ⟨dSl' c1 n st.length s3 s4 s5, st ++ [dK c1 c2 K]⟩ = some (.nx ⟨dSl' c1 n st.length s3' s4' s5', st ++ [dK c1 c2 (K + m)]⟩)
  | 0, K, s3, s4, s5, h => ⟨s3, s4, s5, by
    simp only [List.range'_zero, List.filter_nil, List.map_nil, forL]
    rw [if_pos (hck _)]
    rfl⟩
  | m + 1, K, s3, s4, s5, h => by
    rw [List.range'_succ, List.filter_cons]
    cases q : dif c1 c2 K with
    | false =>
      obtain ⟨s3', s4', s5', e⟩ := done_loop hck l1 l2 m (K + 1) s3 s4 s5 (by omega)
      refine ⟨s3', s4', s5', ?_⟩
      rw [if_neg (by simp), show K + (m + 1) = K + 1 + m by omega, ← e, dK_skip q]
    | true =>
      obtain ⟨s3', s4', s5', e⟩ := done_loop hck l1 l2 m (K + 1) (some (.d (.int K))) (some (.d (atD c1 K))) (some (.d (atD c2 K))) (by omega)
      refine ⟨s3', s4', s5', ?_⟩
      have stp := done_step (a := a) (n := n) (st := st) (by omega) q l1 l2
      have tg : (tTupG 3 (tsCons (tName 3) (tsCons (tName 4) (tsCons (tName 5) tsNil)))) (.d (rowT c1 c2 K)) ⟨dSl' c1 n st.length s3 s4 s5, st ++ [dK c1 c2 K]⟩ = some ⟨dSl' c1 n st.length (some (.d (.int K))) (some (.d (atD c1 K))) (some (.d (atD c2 K))), st ++ [dK c1 c2 K]⟩ := rfl
      rw [if_pos rfl, List.map_cons, List.map_cons]
      simp only [forL]
      rw [if_pos (hck _), tg]
      simp only [stp]
      rw [show K + (m + 1) = K + 1 + m by omega]
      exact e
theorem filter_lt {m M : Nat} (h : m ≤ M) : (List.range M).filter (fun i => decide (i < m)) = List.range m := by
  obtain ⟨j, rfl⟩ : ∃ j, M = m + j := ⟨M - m, by omega⟩
  rw [List.range_add, List.filter_append, List.filter_eq_self.mpr (by intro x hx; simpa using hx), List.filter_eq_nil_iff.mpr (by intro x hx; simp at hx ⊢; omega), List.append_nil]
theorem wdone_ok (wf : Wf st) (h : st[n]? = some (lstD (dueD c1 c2))) (l1 : c1.length < 63) (l2 : c2.length < 63) : f_law_wdone a st [.d (intsD c1), .cel n] = fin st.length (.cel (st.length + 1)) (st ++ [dK c1 c2 (max c1.length c2.length), lstD (c2.map D.int)]) := by
  have sz : sizeLine = 16777216 := rfl
  have hn : n < st.length := (List.getElem?_eq_some_iff.mp h).1
  generalize hM : max c1.length c2.length = M
  have f1 : b_law_wdone_1 a ⟨[some (.d (intsD c1)), some (.cel n), none, none, none, none, none], st⟩ = some (.nx ⟨dSl' c1 n st.length none none none, st ++ [dK c1 c2 0]⟩) := by
    have e : oDictEn true st [.d (intsD c1)] = some (.cel st.length, st ++ [dK c1 c2 0]) := by
      rw [dK_zero]
      simp [oDictEn, asList, intsD, freshK, Function.comp_def]
    unfold b_law_wdone_1
    generalize oDictEn true = oe at *
    simp -implicitDefEqProofs [e]
  have hck : ∀ c : Cell, ckC (some [(n, (dueD c1 c2).map W.d)]) (st ++ [c]) := fun c => ckC_one (by rw [List.getElem?_append_left hn]; exact h)
  obtain ⟨s3, s4, s5, el⟩ := done_loop (a := a) (c1 := c1) (c2 := c2) (n := n) hck (by omega) (by omega) M 0 none none none (by omega)
  rw [Nat.zero_add, ← List.range_eq_range'] at el
  have f2 : b_law_wdone_2 a ⟨dSl' c1 n st.length none none none, st ++ [dK c1 c2 0]⟩ = some (.nx ⟨dSl' c1 n st.length s3 s4 s5, st ++ [dK c1 c2 M]⟩) := by
    have g : (st ++ [dK c1 c2 0])[n]? = some (lstD (dueD c1 c2)) := by rw [List.getElem?_append_left hn]; exact h
    have ei : iSeq (eVar 1) ⟨dSl' c1 n st.length none none none, st ++ [dK c1 c2 0]⟩ = some (((dueD c1 c2).map W.d, some [(n, (dueD c1 c2).map W.d)]), ⟨dSl' c1 n st.length none none none, st ++ [dK c1 c2 0]⟩) := by
      unfold iSeq
      generalize st ++ [dK c1 c2 0] = S at *
      simp -implicitDefEqProofs [asTup, itemsL, g, lstD]
    unfold b_law_wdone_2
    rw [ev_sFor, ei]
    have hdue : ((List.range M).filter (dif c1 c2)).map (rowT c1 c2) = dueD c1 c2 := by
      unfold dueD
      rw [hM]
    rw [hdue] at el
    exact el
  have hNK : nK c1 c2 M = M := by unfold nK; omega
  have wf2 : Wf (st ++ [dK c1 c2 M]) := wf_app wf _ fun c hc k hk => by
    rw [List.mem_singleton] at hc
    subst hc
    rw [dK_leaf.1] at hk
    simp at hk
  have f3 : b_law_wdone_3 a ⟨dSl' c1 n st.length s3 s4 s5, st ++ [dK c1 c2 M]⟩ = some (.ret (.cel (st.length + 1)) ⟨dSl' c1 n st.length s3 s4 s5, st ++ [dK c1 c2 M, lstD (c2.map D.int)]⟩) := by
    have g : (st ++ [dK c1 c2 M])[st.length]? = some (.dk (keysN M) (vK c1 c2 M)) := by simp [dK, hNK]
    have so : oSortDI false (st ++ [dK c1 c2 M]) [.cel st.length] = some (.d (.lst ((List.range M).map fun i : Nat => D.int i)), st ++ [dK c1 c2 M]) := by
      have ad : asDk (st ++ [dK c1 c2 M]) (.cel st.length) = some (keysN M, vK c1 c2 M) := by simp only [asDk, g]
      simp only [oSortDI, ad, intsK_n]
      rw [if_pos (by simp; omega), sortI_range, List.map_map]
      have : (List.range M).map ((fun i : Int => W.d (.int i)) ∘ fun i : Nat => (i : Int)) = ((List.range M).map fun i : Nat => D.int i).map W.d := by
        rw [List.map_map]
        rfl
      rw [this]
      simp only [FL.fresh, datas_m]
      rfl
    have er : iSeq (eCall (oSortDI false) (aCons (eVar 2) aNil)) ⟨dSl' c1 n st.length s3 s4 s5, st ++ [dK c1 c2 M]⟩ = some ((((List.range M).map fun i : Nat => D.int i).map W.d, none), ⟨dSl' c1 n st.length s3 s4 s5, st ++ [dK c1 c2 M]⟩) := by
      unfold iSeq
      generalize st ++ [dK c1 c2 M] = S at *
      generalize (List.range M).map (fun i : Nat => D.int i) = Z at *
      generalize oSortDI false = os at *
      simp -implicitDefEqProofs [so, asTup, itemsL]
    have lc := lc_pure (c := true) (g := tName 6) (tt := bVal (eBin (isN true) (eBin dDix (eVar 2) (eVar 6)) (eC (.d .non)))) (te := eBin dDix (eVar 2) (eVar 6)) (vs := [6]) er (fun d => decide (natW d < c2.length)) (fun d => atD c2 (natW d)) (fun _ => trivial) (by simp [sz]; omega) (clos_of wf2) (by
      intro d hd acc
      obtain ⟨y, hy, rfl⟩ := List.mem_map.mp hd
      obtain ⟨i, hi, rfl⟩ := List.mem_map.mp hy
      have hi := List.mem_range.mp hi
      have g2 : (st ++ [dK c1 c2 M] ++ [Cell.lst acc])[st.length]? = some (.dk (keysN M) (vK c1 c2 M)) := by rw [List.getElem?_append_left (by simp)]; exact g
      have dx : dDix (st ++ [dK c1 c2 M] ++ [Cell.lst acc]) (.cel st.length) (.d (.int i)) = some (.d (atD c2 i), st ++ [dK c1 c2 M] ++ [Cell.lst acc]) := by
        have ad : asDk (st ++ [dK c1 c2 M] ++ [Cell.lst acc]) (.cel st.length) = some (keysN M, vK c1 c2 M) := by simp only [asDk, g2]
        have hv : valK (keysN M) (vK c1 c2 M) (.inl (i : Int)) = (vK c1 c2 M)[i]? := by
          have := valK_n (ws := vK c1 c2 M) (k := i)
          rwa [vK_len, hNK] at this
        have hg : dGetW (st ++ [dK c1 c2 M] ++ [Cell.lst acc]) (.cel st.length) (.d (.int i)) = some (some (.d (atD c2 i))) := by
          have e : ∀ y, dGetW (st ++ [dK c1 c2 M] ++ [Cell.lst acc]) (.cel st.length) y = (keyW y).map fun k => valK (keysN M) (vK c1 c2 M) k := fun y => by simp only [dGetW, ad]
          rw [e]
          show some (valK (keysN M) (vK c1 c2 M) (Sum.inl (i : Int))) = _
          rw [hv, vK_get (by rw [hNK]; exact hi), if_pos hi]
        simp only [dDix, hg]
      have hb : isN true (st ++ [dK c1 c2 M] ++ [Cell.lst acc]) (.d (atD c2 i)) (.d .non) = some (.d (.bl (decide (i < c2.length))), st ++ [dK c1 c2 M] ++ [Cell.lst acc]) := by
        by_cases q : i < c2.length
        · rw [atD_lt q, decide_eq_true q]; rfl
        · rw [atD_ge q, decide_eq_false q]; rfl
      refine ⟨⟨[some (.d (intsD c1)), some (.cel n), some (.cel st.length), s3, s4, s5, some (.d (.int i))], st ++ [dK c1 c2 M] ++ [.lst acc]⟩, rfl, ⟨[some (.d (intsD c1)), some (.cel n), some (.cel st.length), s3, s4, s5, some (.d (.int i))], st ++ [dK c1 c2 M] ++ [.lst acc]⟩, ?_, rfl, fun _ => ⟨⟨[some (.d (intsD c1)), some (.cel n), some (.cel st.length), s3, s4, s5, some (.d (.int i))], st ++ [dK c1 c2 M] ++ [.lst acc]⟩, ?_, rfl⟩⟩
      · show _ = some (decide (i < c2.length), _)
        generalize decide (i < c2.length) = bb at *
        generalize atD c2 i = X at *
        generalize st ++ [dK c1 c2 M] ++ [Cell.lst acc] = S at *
        simp -implicitDefEqProofs [dx, hb]
      · show _ = some (W.d (atD c2 i), _)
        generalize atD c2 i = X at *
        generalize st ++ [dK c1 c2 M] ++ [Cell.lst acc] = S at *
        simp -implicitDefEqProofs [dx])
    have ev : (((((List.range M).map fun i : Nat => D.int i).map W.d).filter fun d => decide (natW d < c2.length)).map fun d => atD c2 (natW d)) = c2.map D.int := by
      have e1 : ((List.range M).map fun i : Nat => D.int i).map W.d = (List.range M).map fun i : Nat => W.d (.int i) := by rw [List.map_map]; rfl
      rw [e1, List.filter_map, List.map_map]
      have e2 : (List.range M).filter ((fun d => decide (natW d < c2.length)) ∘ fun i : Nat => W.d (.int i)) = List.range c2.length := by
        have : ((fun d => decide (natW d < c2.length)) ∘ fun i : Nat => W.d (.int i)) = fun i => decide (i < c2.length) := by
          funext i
          have e : natW (W.d (D.int ((i : Nat) : Int))) = i := Int.toNat_natCast i
          show decide (natW (W.d (D.int ((i : Nat) : Int))) < c2.length) = _
          rw [e]
        rw [this]
        exact filter_lt (by omega)
      rw [e2]
      apply List.ext_getElem?
      intro k
      by_cases hk : k < c2.length
      · rw [List.getElem?_map, List.getElem?_range hk, List.getElem?_map, List.getElem?_eq_getElem hk]
        show some (atD c2 (natW (.d (.int k)))) = some (.int c2[k])
        have : natW (.d (.int k)) = k := by simp [natW]
        rw [this, atD_lt hk]
      · rw [List.getElem?_eq_none (by simp; omega), List.getElem?_eq_none (by simp; omega)]
    rw [ev] at lc
    unfold b_law_wdone_3
    rw [ev_sRet, lc]
    simp [lstD]
  rw [f_law_wdone, run_eq, split_law_wdone]
  have start : ([.d (intsD c1), .cel n] : List W).map some ++ List.replicate (7 - ([.d (intsD c1), .cel n] : List W).length) none = [some (.d (intsD c1)), some (.cel n), none, none, none, none, none] := rfl
  rw [start, ev_sSeq, f1]
  simp only [Option.bind_some, nxt_nx, ev_sSeq, f2, f3]
  rfl
theorem wdone_call {cl : List Cell} (h : cl[n]? = some (lstD (dueD c1 c2))) (l1 : c1.length < 63) (l2 : c2.length < 63) : callC false (f_law_wdone a) cl [.d (intsD c1), .cel n] = some (.d (intsD c2), cl) := by
  have hn : n < cl.length := (List.getElem?_eq_some_iff.mp h).1
  have c0 : cellAt cl n = lstD (dueD c1 c2) := by simp [cellAt, h]
  have wf0 : Wf [lstD (dueD c1 c2)] := fun i k hi hk => by
    match i, hi with
    | 0, _ => simp [cellAt] at hk
    | i + 1, q => exact absurd q (by simp)
  have run := wdone_ok (a := a) (c1 := c1) (c2 := c2) (n := 0) wf0 rfl l1 l2
  have q1 : idsOf cl [.d (intsD c1), .cel n] = [n] := by
    unfold idsOf
    show clos _ _ ([n].eraseDups) = _
    have : [n].eraseDups = [n] := rfl
    rw [this]
    simp [clos, c0]
  have px : purW ([lstD (dueD c1 c2)] ++ [dK c1 c2 (max c1.length c2.length), lstD (c2.map D.int)]) 1 8 (.cel 2) = some (intsD c2) := by
    have em : ∀ ys : List D, (ys.map W.d).mapM (purW ([lstD (dueD c1 c2)] ++ [dK c1 c2 (max c1.length c2.length), lstD (c2.map D.int)]) 1 7) = some ys := by
      intro ys
      induction ys with
      | nil => rfl
      | cons y ys ih => simp [List.mapM_cons, purW] at ih ⊢; simp [ih]
    show Option.map D.lst (List.mapM (purW ([lstD (dueD c1 c2)] ++ [dK c1 c2 (max c1.length c2.length), lstD (c2.map D.int)]) 1 7) ((c2.map D.int).map W.d)) = _
    rw [em]
    rfl
  have res := callP_fin (f := f_law_wdone a) (cl := cl) (ws := [.d (intsD c1), .cel n]) (ids := [n]) (st0 := [lstD (dueD c1 c2)]) (ws0 := [.d (intsD c1), .cel 0]) q1 (by simp [isPart, c0, hn]) (by simp) (by simp [FL.part, c0]) (by simp [ix]) run (wf_app wf0 _ fun c hc k hk => by
    simp only [List.mem_cons, List.not_mem_nil, or_false] at hc
    rcases hc with rfl | rfl
    · rw [dK_leaf.1] at hk
      simp at hk
    · simp at hk) (by simp) (by intro m hm; simp at hm; simp; omega) px (fun m hm => by
    match m, hm with
    | 0, _ => exact leaf_lst
    | m + 1, q => exact absurd q (by simp))
  rw [res]
  show some (_, setAll cl [n] [lstD (dueD c1 c2)]) = _
  simp only [setAll, set_same h]
end Lw
namespace Lw
open PySem PySem.Spec L2 FL
open PySem.PyData (strOk)
variable {a : Ad} {xs : List Int} {n : Nat}
/-- a comprehension whose element draws -/
theorem lc_pen {te : M} {sl : List (Option W)} {v q u : Nat} {cl : List Cell} (h : PS xs n cl) (hu : u ≤ 100) (hte : ∀ (i m : Nat) (cl2 : List Cell) (acc : List D), PS xs m cl2 → m ≤ n + q * u → cl2.length = cl.length → ∃ (z : Int) (r3 : Rho) (cl3 : List Cell), te ⟨(wipeW sl [v]).set v (some (.d (.int i))), cl2 ++ [lstD acc]⟩ = some (.d (.int z), r3) ∧ r3.cl = cl3 ++ [lstD acc] ∧ PS xs (m + q) cl3 ∧ cl3.length = cl2.length) :
    ∃ (cl' : List Cell) (cs : List Int), lcL none (tName v) bYes te [v] cl.length (intsW 0 u) ⟨sl, cl ++ [.lst []]⟩ = some ⟨sl, cl' ++ [lstD (cs.map D.int)]⟩ ∧ PS xs (n + q * u) cl' ∧ cl'.length = cl.length ∧ cs.length = u := by
  have sz : sizeLine = 16777216 := rfl
  obtain ⟨cl2, acc, e2, l2, h2, cs, rfl, hc⟩ := lcL_run (g := tName v) (tt := bYes) (te := te) (vs := [v]) (sl := sl) (n := cl.length)
    (I := fun k cl acc => PS xs (n + q * k) cl ∧ ∃ cs : List Int, acc = cs.map D.int ∧ cs.length = k) (intsW 0 u) 0 cl [] rfl (by rw [intsW_len, sz]; simp; omega) (by
    rintro i d cl2 acc hd hl ⟨h2, cs, rfl, hc⟩
    have hi : i < u := by
      have := (List.getElem?_eq_some_iff.mp hd).1
      rwa [intsW_len] at this
    have hd' : d = .d (.int i) := by
      rw [intsW_map, List.getElem?_map, List.getElem?_range hi] at hd
      simpa using hd.symm
    subst hd'
    rw [Nat.zero_add] at h2 hc
    have hm : n + q * i ≤ n + q * u := Nat.add_le_add_left (Nat.mul_le_mul_left _ (by omega)) _
    obtain ⟨z, r3, cl3, e3, e4, h3, l3⟩ := hte i _ cl2 (cs.map D.int) h2 hm hl
    refine ⟨_, rfl, true, _, rfl, .inr ⟨rfl, .int z, r3, cl3, e3, e4, by omega, ?_, cs ++ [z], by simp, by simp; omega⟩⟩
    rw [show n + q * (0 + i + 1) = n + q * i + q by rw [Nat.zero_add, Nat.mul_succ, Nat.add_assoc]]
    exact h3) ⟨by simpa using h, [], rfl, rfl⟩
  rw [intsW_len, Nat.zero_add] at h2 hc
  exact ⟨cl2, cs, e2, h2, l2, hc⟩
theorem pow12 {cl : List Cell} : dPow cl (.d (.int 10)) (.d (.int 12)) = some (.d (.int 1000000000000), cl) := by
  simp only [dPow, dInt]
  rw [if_pos (by decide)]
  rfl
theorem lst4 {cl : List Cell} {x y z w : D} : oLst false cl [.d x, .d y, .d z, .d w] = some (.d (.lst [x, y, z, w]), cl) := by
  simp [oLst, FL.fresh, datas, show sizeLine = 16777216 from rfl]
theorem neg1 {cl : List Cell} : dNeg cl (.d (.int 1)) = some (.d (.int (-1)), cl) := rfl
/-- all new -/
theorem wc_new {x : D} {s2 s4 : Option W} {cl : List Cell} (h : PS xs n cl) (hn : n < 800000) :
    ∃ (cl' : List Cell) (cs : List Int), (eLc true (iRng (aCons (eCall (withD [] (callC false (f_law_next a))) (aCons (eVar 0) (aCons (eC (.d (.int 31))) aNil))) aNil)) (tName 3) bYes (eBin dIx (eCall (oLst false) (aCons (eC (.d (.int 0))) (aCons (eC (.d (.int 1))) (aCons (eUn dNeg (eC (.d (.int 1)))) (aCons (eCall (withD [] (callC false (f_law_next a))) (aCons (eVar 0) (aCons (eBin dPow (eC (.d (.int 10))) (eC (.d (.int 12)))) aNil))) aNil))))) (eCall (withD [] (callC false (f_law_next a))) (aCons (eVar 0) (aCons (eC (.d (.int 4))) aNil)))) [3]) ⟨[some (.cel 0), some (.d x), s2, none, s4], cl⟩ = some (.cel cl.length, ⟨[some (.cel 0), some (.d x), s2, none, s4], cl' ++ [lstD (cs.map D.int)]⟩) ∧ PS xs (n + 70) cl' ∧ cl'.length = cl.length ∧ cs.length < 31 := by
  obtain ⟨u, cl1, e1, h1, l1, u0, u1⟩ := h.next0 (a := a) (by omega) (m := 31) (by decide) (by decide)
  have er : iRng (aCons (eCall (withD [] (callC false (f_law_next a))) (aCons (eVar 0) (aCons (eC (.d (.int 31))) aNil))) aNil) ⟨[some (.cel 0), some (.d x), s2, none, s4], cl⟩ = some ((intsW 0 u.toNat, none), ⟨[some (.cel 0), some (.d x), s2, none, s4], cl1⟩) := by
    unfold iRng
    simp -implicitDefEqProofs [e1]
    omega
  obtain ⟨cl2, cs, e2, h2, l2, hc⟩ := lc_pen (te := eBin dIx (eCall (oLst false) (aCons (eC (.d (.int 0))) (aCons (eC (.d (.int 1))) (aCons (eUn dNeg (eC (.d (.int 1)))) (aCons (eCall (withD [] (callC false (f_law_next a))) (aCons (eVar 0) (aCons (eBin dPow (eC (.d (.int 10))) (eC (.d (.int 12)))) aNil))) aNil))))) (eCall (withD [] (callC false (f_law_next a))) (aCons (eVar 0) (aCons (eC (.d (.int 4))) aNil)))) (sl := [some (.cel 0), some (.d x), s2, none, s4]) (v := 3) (q := 2) (u := u.toNat) h1 (by omega) (by
    intro i m c2 acc p2 hm hl
    obtain ⟨y, c3, f3, p3, q3, y0, y1⟩ := p2.next (a := a) (tl := [lstD acc]) (by omega) (m := 1000000000000) (by decide) (by decide)
    obtain ⟨t, c4, f4, p4, q4, t0, t1⟩ := p3.next (a := a) (tl := [lstD acc]) (by omega) (m := 4) (by decide) (by decide)
    obtain ⟨j, rfl⟩ : ∃ j : Nat, t = j := ⟨t.toNat, by omega⟩
    have hj : j < ([(0 : Int), 1, -1, y].map D.int).length := by simp; omega
    have ix : dIx (c4 ++ [lstD acc]) (.d (.lst [.int 0, .int 1, .int (-1), .int y])) (.d (.int j)) = some (.d (.int ([(0 : Int), 1, -1, y][j]'(by simpa using hj))), c4 ++ [lstD acc]) := by
      have := at_d (cl := c4 ++ [lstD acc]) (P := [(0 : Int), 1, -1, y].map D.int) (i := j) hj
      rw [List.getElem_map] at this
      exact this
    refine ⟨[(0 : Int), 1, -1, y][j]'(by simpa using hj), ⟨[some (.cel 0), some (.d x), s2, some (.d (.int i)), s4], c4 ++ [lstD acc]⟩, c4, ?_, rfl, p4, by omega⟩
    have l4 : ∀ cl, oLst false cl [.d (.int 0), .d (.int 1), .d (.int (-1)), .d (.int y)] = some (.d (.lst [.int 0, .int 1, .int (-1), .int y]), cl) := fun _ => lst4
    generalize [(0 : Int), 1, -1, y][j]'(by simpa using hj) = z at *
    generalize c2 ++ [lstD acc] = S2 at *
    generalize c3 ++ [lstD acc] = S3 at *
    generalize c4 ++ [lstD acc] = S4 at *
    generalize oLst false = ol at *
    simp -implicitDefEqProofs [wipeW, neg1, pow12, f3, f4, l4, ix])
  refine ⟨cl2, cs, ?_, h2.mono (by omega), by omega, by omega⟩
  rw [l1] at e2
  simp only [eLc, er, unCell, if_true, l1, e2]
/-- the loop over some cells -/
theorem wc_loop {x : D} {s3 s4 : Option W} {cl : List Cell} {cs : List Int} (h : PS xs n cl) (hn : n < 800000) (hcs : cs.length ≤ 40) :
    ∃ (cl' : List Cell) (cs' : List Int) (s3' : Option W), b_law_wcells_3 a ⟨[some (.cel 0), some (.d x), some (.cel cl.length), s3, s4], cl ++ [lstD (cs.map D.int)]⟩ = some (.nx ⟨[some (.cel 0), some (.d x), some (.cel cl.length), s3', s4], cl' ++ [lstD (cs'.map D.int)]⟩) ∧ PS xs (n + 10) cl' ∧ cl'.length = cl.length ∧ cs'.length = cs.length := by
  obtain ⟨u, cl1, e1, h1, l1, u0, u1⟩ := h.next (a := a) (tl := [lstD (cs.map D.int)]) (by omega) (m := 4) (by decide) (by decide)
  have er : iRng (aCons (eCall (withD [] (callC false (f_law_next a))) (aCons (eVar 0) (aCons (eC (.d (.int 4))) aNil))) aNil) ⟨[some (.cel 0), some (.d x), some (.cel cl.length), s3, s4], cl ++ [lstD (cs.map D.int)]⟩ = some ((intsW 0 u.toNat, none), ⟨[some (.cel 0), some (.d x), some (.cel cl.length), s3, s4], cl1 ++ [lstD (cs.map D.int)]⟩) := by
    unfold iRng
    generalize cl ++ [lstD (cs.map D.int)] = c0 at *
    generalize cl1 ++ [lstD (cs.map D.int)] = c1 at *
    simp -implicitDefEqProofs [e1]
    omega
  obtain ⟨r', e2, cl2, cs2, s3', rfl, h2, l2, hl2⟩ := forL_all (g := tName 3) (b := b_law_wcells_3_f a) (ck := none)
    (I := fun k r => ∃ (cl2 : List Cell) (cs2 : List Int) (s3' : Option W), r = ⟨[some (.cel 0), some (.d x), some (.cel cl.length), s3', s4], cl2 ++ [lstD (cs2.map D.int)]⟩ ∧ PS xs (n + 1 + 2 * k) cl2 ∧ cl2.length = cl.length ∧ cs2.length = cs.length) (intsW 0 u.toNat) ⟨[some (.cel 0), some (.d x), some (.cel cl.length), s3, s4], cl1 ++ [lstD (cs.map D.int)]⟩ (by
    rintro i d r hd ⟨cl2, cs2, s3', rfl, h2, l2, hl2⟩
    have hi : i < u.toNat := by
      have := (List.getElem?_eq_some_iff.mp hd).1
      rwa [intsW_len] at this
    refine ⟨trivial, _, rfl, ?_⟩
    have g : ∀ c3 : List Cell, c3.length = cl.length → (c3 ++ [lstD (cs2.map D.int)])[cl.length]? = some (lstD (cs2.map D.int)) := fun c3 hc => by rw [← hc]; simp
    have ln : oLen (cl2 ++ [lstD (cs2.map D.int)]) [.cel cl.length] = some (.d (.int cs2.length), cl2 ++ [lstD (cs2.map D.int)]) := by
      have := len_c (g cl2 l2)
      simpa using this
    by_cases q : cs2.length = 0
    · have hq : ¬ ((0 : Int) < (cs2.length : Int)) := by omega
      refine ⟨⟨[some (.cel 0), some (.d x), some (.cel cl.length), some d, s4], cl2 ++ [lstD (cs2.map D.int)]⟩, .inl ?_, cl2, cs2, _, rfl, h2.mono (by omega), l2, hl2⟩
      unfold b_law_wcells_3_f
      generalize cl2 ++ [lstD (cs2.map D.int)] = S at *
      generalize (cs2.length : Int) = LL at *
      simp -implicitDefEqProofs [ln, hq]
    · have hq : ((0 : Int) < (cs2.length : Int)) := by omega
      obtain ⟨z, cl3, e3, h3, l3, z0, z1⟩ := h2.next (a := a) (tl := [lstD (cs2.map D.int)]) (by omega) (m := 3) (by decide) (by decide)
      obtain ⟨y, cl4, e4, h4, l4, y0, y1⟩ := h3.next (a := a) (tl := [lstD (cs2.map D.int)]) (by omega) (m := cs2.length) (by omega) (by omega)
      obtain ⟨j, rfl⟩ : ∃ j : Nat, y = j := ⟨y.toNat, by omega⟩
      have ln3 : oLen (cl3 ++ [lstD (cs2.map D.int)]) [.cel cl.length] = some (.d (.int cs2.length), cl3 ++ [lstD (cs2.map D.int)]) := by
        have := len_c (g cl3 (by omega))
        simpa using this
      have st := set_c (x := .int z) (i := j) (g cl4 (by omega)) (by simp; omega)
      have se : (cl4 ++ [lstD (cs2.map D.int)]).set cl.length (lstD ((cs2.map D.int).set j (.int z))) = cl4 ++ [lstD ((cs2.set j z).map D.int)] := by
        rw [List.set_append_right _ _ (by omega), show cl.length - cl4.length = 0 by omega, List.map_set]
        rfl
      rw [se] at st
      refine ⟨⟨[some (.cel 0), some (.d x), some (.cel cl.length), some d, s4], cl4 ++ [lstD ((cs2.set j z).map D.int)]⟩, .inl ?_, cl4, cs2.set j z, _, rfl, h4.mono (by omega), by omega, by simp [hl2]⟩
      unfold b_law_wcells_3_f
      generalize cl2 ++ [lstD (cs2.map D.int)] = S2 at *
      generalize cl3 ++ [lstD (cs2.map D.int)] = S3 at *
      generalize cl4 ++ [lstD (cs2.map D.int)] = S4 at *
      generalize cl4 ++ [lstD ((cs2.set j z).map D.int)] = S5 at *
      generalize (cs2.length : Int) = LL at *
      simp -implicitDefEqProofs [ln, hq, e3, e4, ln3, st]) (fun _ _ => trivial) ⟨cl1, cs, s3, rfl, h1.mono (by omega), by omega, rfl⟩
  rw [intsW_len] at h2
  refine ⟨cl2, cs2, s3', ?_, h2.mono (by omega), by omega, hl2⟩
  unfold b_law_wcells_3
  rw [ev_sFor, er]
  exact e2
end Lw
namespace Lw
open PySem PySem.Spec L2 FL
open PySem.PyData (strOk)
variable {a : Ad} {xs : List Int} {n : Nat}
theorem slTo_ct {cl : List Cell} {k i : Nat} {P : List D} (h : cl[k]? = some (lstD P)) : dSl true cl (.cel k) none (some (i : Int)) = some (.cel cl.length, cl ++ [lstD (P.take i)]) := by
  simp [dSl, asTupP, asList, h, lstD, cut_to, FL.fresh, ← List.map_take]
theorem add_ct {cl : List Cell} {k : Nat} {P Q : List D} (h : cl[k]? = some (lstD P)) (hl : P.length + Q.length ≤ sizeLine) : dAdd true cl (.cel k) (.d (.lst Q)) = some (.cel cl.length, cl ++ [lstD (P ++ Q)]) := by
  have e : P.map W.d ++ Q.map W.d = (P ++ Q).map W.d := by simp
  simp only [dAdd, asTupP, asOwn, h, lstD]
  rw [if_pos (by simpa using hl), e]
  rfl
/-- what the def tells: a new list -/
def WcR (xs : List Int) (n b : Nat) (o : Option Out) : Prop := ∃ (c : Cell) (st : List Cell) (j : Nat) (cs : List Int) (sl : List (Option W)), o = some (.ret (.cel j) ⟨sl, st⟩) ∧ PS xs n st ∧ st[0]? = some c ∧ PenB xs n c ∧ 0 < j ∧ st[j]? = some (lstD (cs.map D.int)) ∧ cs.length ≤ b
theorem wcR_of {st : List Cell} {j b m : Nat} {cs : List Int} {sl : List (Option W)} {o : Option Out} (e : o = some (.ret (.cel j) ⟨sl, st⟩)) (h : PS xs n st) (hm : n ≤ m) (hj : 0 < j) (g : st[j]? = some (lstD (cs.map D.int))) (hb : cs.length ≤ b) : WcR xs m b o := by
  obtain ⟨c, hc, c0⟩ := h.pen
  exact ⟨c, st, j, cs, sl, e, h.mono hm, c0, hc.mono hm, hj, g, hb⟩
theorem PS.app {cl : List Cell} {Q : List D} (h : PS xs n cl) : PS xs n (cl ++ [lstD Q]) := by
  have lt := h.lt
  obtain ⟨⟨c, hc, e⟩, w⟩ := h
  exact ⟨⟨c, hc, by rw [List.getElem?_append_left lt]; exact e⟩, wf_lst w Q⟩
/-- a comprehension whose element draws, over a store with cells behind -/
theorem lc_penT {te : M} {sl : List (Option W)} {v q u : Nat} {cl tl : List Cell} (h : PS xs n cl) (hu : u ≤ 100) (hte : ∀ (i m : Nat) (cl2 : List Cell) (acc : List D), PS xs m cl2 → m ≤ n + q * u → cl2.length = cl.length → ∃ (z : Int) (r3 : Rho) (cl3 : List Cell), te ⟨(wipeW sl [v]).set v (some (.d (.int i))), (cl2 ++ tl) ++ [lstD acc]⟩ = some (.d (.int z), r3) ∧ r3.cl = (cl3 ++ tl) ++ [lstD acc] ∧ PS xs (m + q) cl3 ∧ cl3.length = cl2.length) :
    ∃ (cl' : List Cell) (cs : List Int), lcL none (tName v) bYes te [v] (cl ++ tl).length (intsW 0 u) ⟨sl, (cl ++ tl) ++ [.lst []]⟩ = some ⟨sl, (cl' ++ tl) ++ [lstD (cs.map D.int)]⟩ ∧ PS xs (n + q * u) cl' ∧ cl'.length = cl.length ∧ cs.length = u := by
  have sz : sizeLine = 16777216 := rfl
  obtain ⟨c2, acc, e2, l2, ⟨cl2, rfl, h2, lc⟩, cs, rfl, hc⟩ := lcL_run (g := tName v) (tt := bYes) (te := te) (vs := [v]) (sl := sl) (n := (cl ++ tl).length)
    (I := fun k c acc => (∃ cl2, c = cl2 ++ tl ∧ PS xs (n + q * k) cl2 ∧ cl2.length = cl.length) ∧ ∃ cs : List Int, acc = cs.map D.int ∧ cs.length = k) (intsW 0 u) 0 (cl ++ tl) [] rfl (by rw [intsW_len, sz]; simp; omega) (by
    rintro i d c2 acc hd hl ⟨⟨cl2, rfl, h2, lc⟩, cs, rfl, hc⟩
    have hi : i < u := by
      have := (List.getElem?_eq_some_iff.mp hd).1
      rwa [intsW_len] at this
    have hd' : d = .d (.int i) := by
      rw [intsW_map, List.getElem?_map, List.getElem?_range hi] at hd
      simpa using hd.symm
    subst hd'
    rw [Nat.zero_add] at h2 hc
    have hm : n + q * i ≤ n + q * u := Nat.add_le_add_left (Nat.mul_le_mul_left _ (by omega)) _
    obtain ⟨z, r3, cl3, e3, e4, h3, l3⟩ := hte i _ cl2 (cs.map D.int) h2 hm lc
    refine ⟨_, rfl, true, _, rfl, .inr ⟨rfl, .int z, r3, cl3 ++ tl, e3, e4, by simp; omega, ⟨cl3, rfl, ?_, by omega⟩, cs ++ [z], by simp, by simp; omega⟩⟩
    rw [show n + q * (0 + i + 1) = n + q * i + q by rw [Nat.zero_add, Nat.mul_succ, Nat.add_assoc]]
    exact h3) ⟨⟨cl, rfl, by simpa using h, rfl⟩, [], rfl, rfl⟩
  rw [intsW_len, Nat.zero_add] at h2 hc
  exact ⟨cl2, cs, e2, h2, lc, hc⟩
/-- the list anew, some changed -/
theorem wc_b {cs : List Int} {s2 s3 s4 : Option W} {cl : List Cell} (h : PS xs n cl) (hn : n < 700000) (hcs : cs.length ≤ 40) :
    WcR xs (n + 40) (cs.length + 3) (sSeq (b_law_wcells_2 a) (sSeq (b_law_wcells_3 a) (sSeq (b_law_wcells_4 a) (sSeq (b_law_wcells_5 a) (b_law_wcells_6 a)))) ⟨[some (.cel 0), some (.d (intsD cs)), s2, s3, s4], cl⟩) := by
  have sz : sizeLine = 16777216 := rfl
  have L0 := h.lt
  have f2 : b_law_wcells_2 a ⟨[some (.cel 0), some (.d (intsD cs)), s2, s3, s4], cl⟩ = some (.nx ⟨[some (.cel 0), some (.d (intsD cs)), some (.cel cl.length), s3, s4], cl ++ [lstD (cs.map D.int)]⟩) := by
    have e : oList true cl [.d (intsD cs)] = some (.cel cl.length, cl ++ [lstD (cs.map D.int)]) := rfl
    unfold b_law_wcells_2
    generalize oList true = ol at *
    simp -implicitDefEqProofs [e]
  obtain ⟨cl3, F, s3', f3, h3, l3, lF⟩ := wc_loop (a := a) (x := intsD cs) (s3 := s3) (s4 := s4) h (by omega) hcs
  obtain ⟨w, cl4, e4, h4, l4, w0, w1⟩ := h3.next (a := a) (tl := [lstD (F.map D.int)]) (by omega) (m := 3) (by decide) (by decide)
  have f4 : b_law_wcells_4 a ⟨[some (.cel 0), some (.d (intsD cs)), some (.cel cl.length), s3', s4], cl3 ++ [lstD (F.map D.int)]⟩ = some (.nx ⟨[some (.cel 0), some (.d (intsD cs)), some (.cel cl.length), s3', some (.d (.int w))], cl4 ++ [lstD (F.map D.int)]⟩) := by
    unfold b_law_wcells_4
    generalize cl3 ++ [lstD (F.map D.int)] = S3 at *
    generalize cl4 ++ [lstD (F.map D.int)] = S4 at *
    simp -implicitDefEqProofs [e4]
  simp only [ev_sSeq, f2, f3, f4, Option.bind_some, nxt_nx]
  have g : ∀ c : List Cell, c.length = cl.length → (c ++ [lstD (F.map D.int)])[cl.length]? = some (lstD (F.map D.int)) := fun c hc => by rw [← hc]; simp
  have e0 : ∀ (S : List Cell) (v : Int), eqvD false S (.d (.int w)) (.d (.int v)) = some (.d (.bl (decide (w = v))), S) := fun S v => by rw [eqv_int, sg]; simp
  by_cases q : w = 0
  · obtain ⟨u, cl5, e5, h5, l5, u0, u1⟩ := h4.next (a := a) (tl := [lstD (F.map D.int)]) (by omega) (m := F.length + 1) (by omega) (by omega)
    obtain ⟨i, rfl⟩ : ∃ i : Nat, u = i := ⟨u.toNat, by omega⟩
    have ln : oLen (cl4 ++ [lstD (F.map D.int)]) [.cel cl.length] = some (.d (.int F.length), cl4 ++ [lstD (F.map D.int)]) := by
      have := len_c (g cl4 (by omega))
      simpa using this
    have sl := slTo_ct (i := i) (g cl5 (by omega))
    have len5 : (cl5 ++ [lstD (F.map D.int)]).length = cl.length + 1 := by simp; omega
    rw [len5, ← List.map_take] at sl
    have f5 : b_law_wcells_5 a ⟨[some (.cel 0), some (.d (intsD cs)), some (.cel cl.length), s3', some (.d (.int w))], cl4 ++ [lstD (F.map D.int)]⟩ = some (.ret (.cel (cl.length + 1)) ⟨[some (.cel 0), some (.d (intsD cs)), some (.cel cl.length), s3', some (.d (.int w))], cl5 ++ [lstD (F.map D.int)] ++ [lstD ((F.take i).map D.int)]⟩) := by
      have e0 := e0 (cl4 ++ [lstD (F.map D.int)]) 0
      have hq : decide (w = 0) = true := decide_eq_true q
      rw [hq] at e0
      unfold b_law_wcells_5
      generalize cl5 ++ [lstD (F.map D.int)] ++ [lstD ((F.take i).map D.int)] = S6 at *
      generalize cl4 ++ [lstD (F.map D.int)] = S4 at *
      generalize cl5 ++ [lstD (F.map D.int)] = S5 at *
      generalize (F.length : Int) = LF at *
      simp -implicitDefEqProofs [e0, ln, e5, sl]
    rw [f5]
    simp only [Option.bind_some, nxt_ret]
    refine wcR_of (cs := F.take i) rfl (PS.app (PS.app h5)) (by omega) (by omega) ?_ (by simp; omega)
    rw [List.getElem?_append_right (by rw [len5]; exact Nat.le_refl _), len5, Nat.sub_self]
    rfl
  · have f5 : b_law_wcells_5 a ⟨[some (.cel 0), some (.d (intsD cs)), some (.cel cl.length), s3', some (.d (.int w))], cl4 ++ [lstD (F.map D.int)]⟩ = some (.nx ⟨[some (.cel 0), some (.d (intsD cs)), some (.cel cl.length), s3', some (.d (.int w))], cl4 ++ [lstD (F.map D.int)]⟩) := by
      have e0 := e0 (cl4 ++ [lstD (F.map D.int)]) 0
      have hq : decide (w = 0) = false := decide_eq_false q
      rw [hq] at e0
      unfold b_law_wcells_5
      generalize cl4 ++ [lstD (F.map D.int)] = S4 at *
      simp -implicitDefEqProofs [e0]
    rw [f5]
    simp only [Option.bind_some, nxt_nx]
    obtain ⟨u, cl5, e5, h5, l5, u0, u1⟩ := h4.next (a := a) (tl := [lstD (F.map D.int)]) (by omega) (m := 4) (by decide) (by decide)
    obtain ⟨b, hb, hb2⟩ : ∃ b : Int, (oInt (cl5 ++ [lstD (F.map D.int)]) [.d (.bl (decide (w = 1)))] = some (.d (.int b), cl5 ++ [lstD (F.map D.int)])) ∧ (b = 0 ∨ b = 1) := by
      refine ⟨if decide (w = 1) then 1 else 0, rfl, ?_⟩
      by_cases q : w = 1 <;> simp [q]
    obtain ⟨j, hj, hj3⟩ : ∃ j : Nat, u * b = j ∧ j ≤ 3 := by
      rcases hb2 with rfl | rfl
      · exact ⟨0, by omega, by omega⟩
      · exact ⟨u.toNat, by omega, by omega⟩
    have mo : mulOk u b = true := mulOk_of u0 (by omega) (by rcases hb2 with rfl | rfl <;> decide) (by rcases hb2 with rfl | rfl <;> decide)
    have e1 := e0 (cl5 ++ [lstD (F.map D.int)]) 1
    have er : iRng (aCons (eBin dMul (eCall (withD [] (callC false (f_law_next a))) (aCons (eVar 0) (aCons (eC (.d (.int 4))) aNil))) (eCall oInt (aCons (eBin (eqvD false) (eVar 4) (eC (.d (.int 1)))) aNil))) aNil) ⟨[some (.cel 0), some (.d (intsD cs)), some (.cel cl.length), s3', some (.d (.int w))], cl4 ++ [lstD (F.map D.int)]⟩ = some ((intsW 0 j, none), ⟨[some (.cel 0), some (.d (intsD cs)), some (.cel cl.length), s3', some (.d (.int w))], cl5 ++ [lstD (F.map D.int)]⟩) := by
      unfold iRng
      generalize cl4 ++ [lstD (F.map D.int)] = S4 at *
      generalize cl5 ++ [lstD (F.map D.int)] = S5 at *
      generalize decide (w = 1) = dw at *
      simp -implicitDefEqProofs [e5, e1, hb, mo, hj]
      omega
    obtain ⟨cl6, cs6, e6, h6, l6, hc6⟩ := lc_penT (te := eCall (withD [] (callC false (f_law_next a))) (aCons (eVar 0) (aCons (eC (.d (.int 2))) aNil))) (sl := [some (.cel 0), some (.d (intsD cs)), some (.cel cl.length), s3', some (.d (.int w))]) (v := 3) (q := 1) (u := j) (tl := [lstD (F.map D.int)]) h5 (by omega) (by
      intro i m c2 acc p2 hm hl
      obtain ⟨y, c3, f3, p3, q3, y0, y1⟩ := p2.next (a := a) (tl := [lstD (F.map D.int)] ++ [lstD acc]) (by omega) (m := 2) (by decide) (by decide)
      rw [← List.append_assoc, ← List.append_assoc] at f3
      refine ⟨y, ⟨[some (.cel 0), some (.d (intsD cs)), some (.cel cl.length), some (.d (.int i)), some (.d (.int w))], (c3 ++ [lstD (F.map D.int)]) ++ [lstD acc]⟩, c3, ?_, rfl, p3, by omega⟩
      generalize (c2 ++ [lstD (F.map D.int)]) ++ [lstD acc] = S2 at *
      generalize (c3 ++ [lstD (F.map D.int)]) ++ [lstD acc] = S3 at *
      simp -implicitDefEqProofs [wipeW, f3])
    have len6 : (cl6 ++ [lstD (F.map D.int)]).length = cl.length + 1 := by simp; omega
    have len5 : (cl5 ++ [lstD (F.map D.int)]).length = cl.length + 1 := by simp; omega
    have P6 : PS xs (n + 10 + 1 + 1 + 1 * j) (cl6 ++ [lstD (F.map D.int)]) := PS.app h6
    have elc : eLc false (iRng (aCons (eBin dMul (eCall (withD [] (callC false (f_law_next a))) (aCons (eVar 0) (aCons (eC (.d (.int 4))) aNil))) (eCall oInt (aCons (eBin (eqvD false) (eVar 4) (eC (.d (.int 1)))) aNil))) aNil)) (tName 3) bYes (eCall (withD [] (callC false (f_law_next a))) (aCons (eVar 0) (aCons (eC (.d (.int 2))) aNil))) [3] ⟨[some (.cel 0), some (.d (intsD cs)), some (.cel cl.length), s3', some (.d (.int w))], cl4 ++ [lstD (F.map D.int)]⟩ = some (.d (.lst (cs6.map D.int)), ⟨[some (.cel 0), some (.d (intsD cs)), some (.cel cl.length), s3', some (.d (.int w))], cl6 ++ [lstD (F.map D.int)]⟩) := by
      have g6 : ((cl6 ++ [lstD (F.map D.int)]) ++ [lstD (cs6.map D.int)])[cl.length + 1]? = some (.lst ((cs6.map D.int).map W.d)) := by rw [← len6]; simp [lstD]
      have t6 : ((cl6 ++ [lstD (F.map D.int)]) ++ [lstD (cs6.map D.int)]).take (cl.length + 1) = cl6 ++ [lstD (F.map D.int)] := by rw [← len6, List.take_left' rfl]
      have l6' : ((cl6 ++ [lstD (F.map D.int)]) ++ [lstD (cs6.map D.int)]).length = cl.length + 1 + 1 := by rw [List.length_append, len6]; rfl
      have cw := clos_of P6.wf
      rw [len6] at cw
      rw [len5] at e6
      simp only [eLc, er, unCell, len5, e6, g6, datas_m, t6]
      rw [if_neg (by decide), if_pos ⟨l6', cw⟩]
    have ad := add_ct (Q := cs6.map D.int) (g cl6 (by omega)) (by rw [sz]; simp; omega)
    rw [len6, ← List.map_append] at ad
    have f6 : b_law_wcells_6 a ⟨[some (.cel 0), some (.d (intsD cs)), some (.cel cl.length), s3', some (.d (.int w))], cl4 ++ [lstD (F.map D.int)]⟩ = some (.ret (.cel (cl.length + 1)) ⟨[some (.cel 0), some (.d (intsD cs)), some (.cel cl.length), s3', some (.d (.int w))], cl6 ++ [lstD (F.map D.int)] ++ [lstD ((F ++ cs6).map D.int)]⟩) := by
      unfold b_law_wcells_6
      generalize eLc false (iRng (aCons (eBin dMul (eCall (withD [] (callC false (f_law_next a))) (aCons (eVar 0) (aCons (eC (.d (.int 4))) aNil))) (eCall oInt (aCons (eBin (eqvD false) (eVar 4) (eC (.d (.int 1)))) aNil))) aNil)) (tName 3) bYes (eCall (withD [] (callC false (f_law_next a))) (aCons (eVar 0) (aCons (eC (.d (.int 2))) aNil))) [3] = LC at *
      generalize cl6 ++ [lstD (F.map D.int)] ++ [lstD ((F ++ cs6).map D.int)] = S7 at *
      generalize cl6 ++ [lstD (F.map D.int)] = S6 at *
      generalize cl4 ++ [lstD (F.map D.int)] = S4 at *
      simp -implicitDefEqProofs [elc, ad]
    rw [f6]
    refine wcR_of (cs := F ++ cs6) rfl (PS.app P6) (by omega) (by omega) ?_ (by simp; omega)
    rw [List.getElem?_append_right (by rw [len6]; exact Nat.le_refl _), len6, Nat.sub_self]
    rfl
/-- the whole def -/
theorem wc_all {c : Cell} (hc : PenB xs n c) (hn : n < 600000) {x : D} {b : Nat} (hx : (x = .non ∧ b = 0) ∨ ∃ cs : List Int, x = intsD cs ∧ cs.length ≤ b ∧ b ≤ 40) :
    ∃ (c' : Cell) (st : List Cell) (j : Nat) (cs : List Int), f_law_wcells a [c] [.cel 0, .d x] = fin 1 (.cel j) st ∧ Wf st ∧ st[0]? = some c' ∧ PenB xs (n + 100) c' ∧ 0 < j ∧ st[j]? = some (lstD (cs.map D.int)) ∧ cs.length ≤ b + 31 := by
  have P0 : PS xs n [c] := ⟨⟨c, hc, rfl⟩, fun i k hi hk => by
    match i, hi with
    | 0, _ =>
      have hk : k ∈ c.refs := hk
      rw [hc.leaf.1] at hk
      simp at hk
    | i + 1, q => exact absurd q (by simp)⟩
  have main : WcR xs (n + 100) (b + 31) (m_law_wcells a ⟨[some (.cel 0), some (.d x), none, none, none], [c]⟩) := by
    rw [split_law_wcells]
    rcases hx with ⟨rfl, rfl⟩ | ⟨cs, rfl, hb, hb4⟩
    · obtain ⟨cl', cs', e, h', l', hl⟩ := wc_new (a := a) (x := .non) (s2 := none) (s4 := none) P0 (by omega)
      have f1 : b_law_wcells_1 a ⟨[some (.cel 0), some (.d .non), none, none, none], [c]⟩ = some (.ret (.cel 1) ⟨[some (.cel 0), some (.d .non), none, none, none], cl' ++ [lstD (cs'.map D.int)]⟩) := by
        have : ∀ q : MB, (bOr (bVal (eBin (isN false) (eVar 1) (eC (.d .non)))) q) ⟨[some (.cel 0), some (.d .non), none, none, none], [c]⟩ = some (true, ⟨[some (.cel 0), some (.d .non), none, none, none], [c]⟩) := fun q => by simp -implicitDefEqProofs [isN]
        unfold b_law_wcells_1
        rw [ev_sIf, this]
        simp only [Option.bind_some, if_true]
        rw [ev_sRet, e]
        rfl
      rw [ev_sSeq, f1]
      refine wcR_of (cs := cs') rfl (PS.app h') (by omega) (by omega) ?_ (by omega)
      have : cl'.length = 1 := l'
      rw [← this]
      simp
    · have e0 : isN false [c] (.d (intsD cs)) (.d .non) = some (.d (.bl false), [c]) := rfl
      obtain ⟨u, cl1, e1, h1, l1, u0, u1⟩ := P0.next0 (a := a) (by omega) (m := 4) (by decide) (by decide)
      have e2 : eqvD false cl1 (.d (.int u)) (.d (.int 0)) = some (.d (.bl (decide (u = 0))), cl1) := by rw [eqv_int, sg]; simp
      have cnd : (bOr (bVal (eBin (isN false) (eVar 1) (eC (.d .non)))) (bVal (eBin (eqvD false) (eCall (withD [] (callC false (f_law_next a))) (aCons (eVar 0) (aCons (eC (.d (.int 4))) aNil))) (eC (.d (.int 0)))))) ⟨[some (.cel 0), some (.d (intsD cs)), none, none, none], [c]⟩ = some (decide (u = 0), ⟨[some (.cel 0), some (.d (intsD cs)), none, none, none], cl1⟩) := by
        generalize decide (u = 0) = du at *
        generalize ([c] : List Cell) = S0 at *
        simp -implicitDefEqProofs [e0, e1, e2]
      by_cases q : u = 0
      · obtain ⟨cl', cs', e, h', l', hl⟩ := wc_new (a := a) (x := intsD cs) (s2 := none) (s4 := none) h1 (by omega)
        have f1 : b_law_wcells_1 a ⟨[some (.cel 0), some (.d (intsD cs)), none, none, none], [c]⟩ = some (.ret (.cel 1) ⟨[some (.cel 0), some (.d (intsD cs)), none, none, none], cl' ++ [lstD (cs'.map D.int)]⟩) := by
          unfold b_law_wcells_1
          rw [ev_sIf, cnd, decide_eq_true q]
          simp only [Option.bind_some, if_true]
          rw [ev_sRet, e, l1]
          rfl
        rw [ev_sSeq, f1]
        refine wcR_of (cs := cs') rfl (PS.app h') (by omega) (by omega) ?_ (by omega)
        have : cl'.length = 1 := l'.trans l1
        rw [← this]
        simp
      · have f1 : b_law_wcells_1 a ⟨[some (.cel 0), some (.d (intsD cs)), none, none, none], [c]⟩ = some (.nx ⟨[some (.cel 0), some (.d (intsD cs)), none, none, none], cl1⟩) := by
          unfold b_law_wcells_1
          rw [ev_sIf, cnd, decide_eq_false q]
          rfl
        rw [ev_sSeq, f1]
        simp only [Option.bind_some, nxt_nx]
        obtain ⟨c', st, j, cs', sl, e, p, c0, pb, hj, g, hl⟩ := wc_b (a := a) (cs := cs) (s2 := none) (s3 := none) (s4 := none) h1 (by omega) (by omega)
        exact ⟨c', st, j, cs', sl, e, p.mono (by omega), c0, pb.mono (by omega), hj, g, by omega⟩
  obtain ⟨c', st, j, cs', sl, e, p, c0, pb, hj, g, hl⟩ := main
  refine ⟨c', st, j, cs', ?_, p.wf, c0, pb, hj, g, hl⟩
  rw [f_law_wcells, run_eq]
  have start : ([.cel 0, .d x] : List W).map some ++ List.replicate (5 - ([.cel 0, .d x] : List W).length) none = [some (.cel 0), some (.d x), none, none, none] := rfl
  rw [start, e]
  rfl
theorem wc_call {cl : List Cell} {p : Nat} {c : Cell} (hp : cl[p]? = some c) (hc : PenB xs n c) (hn : n < 600000) {x : D} {b : Nat} (hx : (x = .non ∧ b = 0) ∨ ∃ cs : List Int, x = intsD cs ∧ cs.length ≤ b ∧ b ≤ 40) :
    ∃ (c' : Cell) (cs : List Int), callC false (f_law_wcells a) cl [.cel p, .d x] = some (.d (intsD cs), cl.set p c') ∧ PenB xs (n + 100) c' ∧ cs.length ≤ b + 31 := by
  obtain ⟨c', st, j, cs, run, wf, c0, pb, hj, g, hl⟩ := wc_all (a := a) hc hn hx
  have hlt : p < cl.length := (List.getElem?_eq_some_iff.mp hp).1
  have k0 : cellAt cl p = c := by simp [cellAt, hp]
  have k1 : cellAt st 0 = c' := by simp [cellAt, c0]
  have L0 : 0 < st.length := (List.getElem?_eq_some_iff.mp c0).1
  have Lj : j < st.length := (List.getElem?_eq_some_iff.mp g).1
  have q1 : idsOf cl [.cel p, .d x] = [p] := by
    unfold idsOf
    show clos _ _ ([p].eraseDups) = _
    have : [p].eraseDups = [p] := rfl
    rw [this]
    simp [clos, k0, hc.leaf.1]
  have px : purW st 1 8 (.cel j) = some (intsD cs) := by
    have em : ∀ ys : List D, (ys.map W.d).mapM (purW st 1 7) = some ys := by
      intro ys
      induction ys with
      | nil => rfl
      | cons y ys ih => simp [List.mapM_cons, ih, purW]
    show (if j < 1 then Option.none else _) = _
    rw [if_neg (by omega), g]
    show Option.map D.lst (List.mapM (purW st 1 7) ((cs.map D.int).map W.d)) = _
    rw [em]
    rfl
  have res := callP_fin (f := f_law_wcells a) (cl := cl) (ws := [.cel p, .d x]) (ids := [p]) (st0 := [c]) (ws0 := [.cel 0, .d x]) q1 (by simp [isPart, k0, hlt, hc.leaf.1]) (by simp) (by simp [FL.part, k0, hc.leaf.2]) (by simp [ix]) run wf (by simp; omega) (by intro m hm; simp at hm; omega) px (fun m hm => by
    match m, hm with
    | 0, _ => rw [k1]; exact pb.leaf
    | m + 1, q => exact absurd q (by simp))
  have tk : st.take 1 = [c'] := by
    match st, c0 with
    | y :: _, c0 =>
      simp at c0
      simp [c0]
  refine ⟨c', cs, ?_, pb, hl⟩
  rw [res]
  show some (_, setAll cl [p] (st.take 1)) = _
  rw [tk]
  rfl
end Lw
namespace Lw
open PySem PySem.Spec L2 FL
open PySem.PyData (strOk)
variable {a : Ad} {xs : List Int} {n L : Nat} {S : List Cell} {c1 c2 : List Int} {s1 s2 : Int} {r1 r2 : List D}
/-! an Image made of data -/
theorem oList_d {cl : List Cell} {P : List D} : oList false cl [.d (.lst P)] = some (.d (.lst P), cl) := by
  simp only [oList, seqW, asTup, asList, FL.fresh, datas_m]
  rfl
theorem init_d {cs : List Int} {st : Int} {rows : List D} (h1 : cs.length ≤ 1000) (h2 : rows.length ≤ 1000) : f_Image___init__ a [.ins a.C_Image [] []] [.cel 0, .d (intsD cs), .d (.int st), .d (.lst rows)] = some (.d .non, [imX a.C_Image cs st rows]) := by
  have g1 : ∀ cl, oList false cl [.d (intsD cs)] = some (.d (intsD cs), cl) := fun cl => oList_d
  have g2 : ∀ cl, oList false cl [.d (.lst rows)] = some (.d (.lst rows), cl) := fun cl => by
    simp [oList, seqW, asTup, asList, FL.fresh]
  have hf : fin 1 (.d .non) [imX a.C_Image cs st rows] = some (.d .non, [imX a.C_Image cs st rows]) := fin_leaf rfl (fun _ => rfl)
  have n1 : ¬ (Str.ofString "cells" = Str.ofString "start") := by decide +kernel
  have n2 : ¬ (Str.ofString "cells" = Str.ofString "rows") := by decide +kernel
  have n3 : ¬ (Str.ofString "start" = Str.ofString "rows") := by decide +kernel
  unfold imX at hf ⊢
  rw [f_Image___init__, run_eq, m_Image___init__]
  generalize intsD cs = Y at *
  generalize oList false = ol at *
  simp -implicitDefEqProofs [sSetF, g1, g2, putN, putW, n1, n2, n3]
  exact hf
theorem make_d {cs : List Int} {st : Int} {rows : List D} {cl : List Cell} (h1 : cs.length ≤ 1000) (h2 : rows.length ≤ 1000) : oMake a.C_Image (f_Image___init__ a) cl [.d (intsD cs), .d (.int st), .d (.lst rows)] = some (.cel cl.length, cl ++ [imX a.C_Image cs st rows]) := by
  have g : (cl ++ [Cell.ins a.C_Image [] []])[cl.length]? = some (.ins a.C_Image [] []) := by simp
  have h : callC true (f_Image___init__ a) (cl ++ [Cell.ins a.C_Image [] []]) [.cel cl.length, .d (intsD cs), .d (.int st), .d (.lst rows)] = some (.d .non, (cl ++ [Cell.ins a.C_Image [] []]).set cl.length (imX a.C_Image cs st rows)) := by
    exact call_leaf (c := true) (f := f_Image___init__ a) (ws := [.cel cl.length, .d (intsD cs), .d (.int st), .d (.lst rows)]) (x := .non) (ce' := imX a.C_Image cs st rows) g rfl rfl rfl (by simp) (ws0 := [.cel 0, .d (intsD cs), .d (.int st), .d (.lst rows)]) (by simp [ix]) (init_d h1 h2) rfl rfl
  have h : oCall (f_Image___init__ a) (cl ++ [.ins a.C_Image [] []]) [.cel cl.length, .d (intsD cs), .d (.int st), .d (.lst rows)] = some (.d .non, (cl ++ [Cell.ins a.C_Image [] []]).set cl.length (imX a.C_Image cs st rows)) := h
  simp only [oMake, h]
  simp
/-! the store of a turn -/
structure T5 (C : Addr) (xs : List Int) (n L : Nat) (c1 c2 : List Int) (s1 s2 : Int) (r1 r2 Q : List D) (S : List Cell) : Prop where
  ps : PS xs n S
  l0 : 0 < L
  i1 : S[L]? = some (imX C c1 s1 r1)
  i2 : S[L + 1]? = some (imX C c2 s2 r2)
  im : S[L + 2]? = some (.lst [.cel L, .cel (L + 1)])
  du : S[L + 3]? = some (lstD Q)
theorem T5.lt {C : Addr} {Q : List D} (h : T5 C xs n L c1 c2 s1 s2 r1 r2 Q S) : L + 3 < S.length := (List.getElem?_eq_some_iff.mp h.du).1
theorem T5.app {C : Addr} {Q P : List D} (h : T5 C xs n L c1 c2 s1 s2 r1 r2 Q S) : T5 C xs n L c1 c2 s1 s2 r1 r2 Q (S ++ [lstD P]) := by
  have l := h.lt
  obtain ⟨ps, l0, i1, i2, im, du⟩ := h
  refine ⟨PS.app ps, l0, ?_, ?_, ?_, ?_⟩ <;> rw [List.getElem?_append_left (by omega)] <;> assumption
theorem T5.set {C : Addr} {Q P : List D} (h : T5 C xs n L c1 c2 s1 s2 r1 r2 Q S) {j : Nat} (hj : L + 3 < j) : T5 C xs n L c1 c2 s1 s2 r1 r2 Q (S.set j (lstD P)) := by
  obtain ⟨⟨⟨c, hc, e⟩, w⟩, l0, i1, i2, im, du⟩ := h
  refine ⟨⟨⟨c, hc, by rw [List.getElem?_set_ne (by omega)]; exact e⟩, wf_set w _ _ (by simp)⟩, l0, ?_, ?_, ?_, ?_⟩ <;> rw [List.getElem?_set_ne (by omega)] <;> assumption
theorem T5.due {C : Addr} {Q P : List D} (h : T5 C xs n L c1 c2 s1 s2 r1 r2 Q S) : T5 C xs n L c1 c2 s1 s2 r1 r2 P (S.set (L + 3) (lstD P)) := by
  have l := h.lt
  obtain ⟨⟨⟨c, hc, e⟩, w⟩, l0, i1, i2, im, du⟩ := h
  refine ⟨⟨⟨c, hc, by rw [List.getElem?_set_ne (by omega)]; exact e⟩, wf_set w _ _ (by simp)⟩, l0, ?_, ?_, ?_, List.getElem?_set_self (by omega)⟩ <;> rw [List.getElem?_set_ne (by omega)] <;> assumption
theorem T5.im0 {C : Addr} {Q : List D} (h : T5 C xs n L c1 c2 s1 s2 r1 r2 Q S) : dIx S (.cel (L + 2)) (.d (.int 0)) = some (.cel L, S) := by
  simp [dIx, asTup, asList, h.im, atI, ixN]
theorem T5.im1 {C : Addr} {Q : List D} (h : T5 C xs n L c1 c2 s1 s2 r1 r2 Q S) : dIx S (.cel (L + 2)) (.d (.int 1)) = some (.cel (L + 1), S) := by
  simp [dIx, asTup, asList, h.im, atI, ixN]
abbrev lS (s0 s2 s3 s4 s5 s6 s7 s8 s9 s10 s11 : Option W) : List (Option W) := [s0, some (.cel 0), s2, s3, s4, s5, s6, s7, s8, s9, s10, s11]
section
variable {s0 s2' s7 s8 s9 s10 s11 : Option W}
abbrev tS (L : Nat) (c1 c2 : List Int) (s0 s2' s7 s8 s9 s10 s11 : Option W) : List (Option W) := lS s0 s2' (some (.d (intsD c1))) (some (.d (intsD c2))) (some (.cel (L + 2))) (some (.cel (L + 3))) s7 s8 s9 s10 s11
/-- what is due -/
def dueK (c1 c2 : List Int) (K : Nat) : List D := ((List.range K).filter (dif c1 c2)).map (rowT c1 c2)
theorem dueK_len (c1 c2 : List Int) (K : Nat) : (dueK c1 c2 K).length ≤ K := by
  unfold dueK
  rw [List.length_map]
  have := List.length_filter_le (dif c1 c2) (List.range K)
  simpa using this
theorem x5 (h : T5 a.C_Image xs n L c1 c2 s1 s2 r1 r2 [] S) (l1 : c1.length < 63) (l2 : c2.length < 63) : ∃ s7' s9' s10' S', b_law_2_f_5 a ⟨tS L c1 c2 s0 s2' s7 s8 s9 s10 s11, S⟩ = some (.nx ⟨tS L c1 c2 s0 s2' s7' s8 s9' s10' s11, S'⟩) ∧ T5 a.C_Image xs n L c1 c2 s1 s2 r1 r2 (dueD c1 c2) S' := by
  generalize hM : max c1.length c2.length = M
  have ln : ∀ (cs : List Int) S, oLen S [.d (intsD cs)] = some (.d (.int cs.length), S) := fun cs S => by simp -implicitDefEqProofs [oLen, lenW, asTup, asList, intsD]
  have em : oMax S [.d (.int c1.length), .d (.int c2.length)] = some (.d (.int M), S) := by
    simp [oMax, oInt2]
    omega
  have er : iRng (aCons (eCall oMax (aCons (eCall oLen (aCons (eVar 3) aNil)) (aCons (eCall oLen (aCons (eVar 4) aNil)) aNil))) aNil) ⟨tS L c1 c2 s0 s2' s7 s8 s9 s10 s11, S⟩ = some ((intsW 0 M, none), ⟨tS L c1 c2 s0 s2' s7 s8 s9 s10 s11, S⟩) := by
    unfold iRng
    simp -implicitDefEqProofs [ln, em]
    omega
  have t3 : ∀ cl x y z, oTup cl [.d x, .d y, .d z] = some (.d (.tup [x, y, z]), cl) := fun cl x y z => by simp [oTup, tupW, datas, show sizeLine = 16777216 from rfl]
  obtain ⟨r', e, s7', s9', s10', S', rfl, h'⟩ := forL_all (g := tName 7) (b := b_law_2_f_5_f a) (ck := none)
    (I := fun k r => ∃ s7' s9' s10' S', r = ⟨tS L c1 c2 s0 s2' s7' s8 s9' s10' s11, S'⟩ ∧ T5 a.C_Image xs n L c1 c2 s1 s2 r1 r2 (dueK c1 c2 k) S') (intsW 0 M) ⟨tS L c1 c2 s0 s2' s7 s8 s9 s10 s11, S⟩ (by
    rintro i d r hd ⟨s7', s9', s10', S', rfl, h'⟩
    have hi : i < M := by
      have := (List.getElem?_eq_some_iff.mp hd).1
      rwa [intsW_len] at this
    have hd' : d = .d (.int i) := by
      rw [intsW_map, List.getElem?_map, List.getElem?_range hi] at hd
      simpa using hd.symm
    subst hd'
    refine ⟨trivial, _, rfl, ?_⟩
    have at1 : ∀ (cs : List Int) (v : Nat) (sl : List (Option W)), sl[v]? = some (some (.d (intsD cs))) → sl[7]? = some (some (.d (.int i))) → (eIf (bVal (eBin dLt (eVar 7) (eCall oLen (aCons (eVar v) aNil)))) (eBin dIx (eVar v) (eVar 7)) (eC (.d .non))) ⟨sl, S'⟩ = some (.d (atD cs i), ⟨sl, S'⟩) := fun cs v sl g1 g2 => by
      by_cases q : i < cs.length
      · have f2 : dIx S' (.d (intsD cs)) (.d (.int i)) = some (.d (.int cs[i]), S') := by
          have := at_d (cl := S') (P := cs.map D.int) (i := i) (by simpa using q)
          simpa [intsD] using this
        rw [atD_lt q]
        have ln := ln cs S'
        generalize intsD cs = X at *
        simp -implicitDefEqProofs [g1, g2, ln, f2, q]
      · rw [atD_ge q]
        have ln := ln cs S'
        generalize intsD cs = X at *
        simp -implicitDefEqProofs [g1, g2, ln, q]
    have f1 : b_law_2_f_5_f_1 a ⟨tS L c1 c2 s0 s2' (some (.d (.int i))) s8 s9' s10' s11, S'⟩ = some (.nx ⟨tS L c1 c2 s0 s2' (some (.d (.int i))) s8 (some (.d (atD c1 i))) s10' s11, S'⟩) := by
      unfold b_law_2_f_5_f_1
      rw [ev_sAsg, at1 c1 3 _ rfl rfl]
      rfl
    have f2 : b_law_2_f_5_f_2 a ⟨tS L c1 c2 s0 s2' (some (.d (.int i))) s8 (some (.d (atD c1 i))) s10' s11, S'⟩ = some (.nx ⟨tS L c1 c2 s0 s2' (some (.d (.int i))) s8 (some (.d (atD c1 i))) (some (.d (atD c2 i))) s11, S'⟩) := by
      unfold b_law_2_f_5_f_2
      rw [ev_sAsg, at1 c2 4 _ rfl rfl]
      rfl
    have eq1 : eqvD true S' (.d (atD c1 i)) (.d (atD c2 i)) = some (.d (.bl (dif c1 c2 i)), S') := by
      rw [eqE_dd (atD_okE _ _ _) (atD_okE _ _ _)]
      unfold sg dif
      by_cases h : c1[i]? = c2[i]?
      · simp [h, atD_eq.mpr h]
      · have := mt atD_eq.mp h
        simp [h, this]
    have cnd : (bVal (eBin (eqvD true) (eVar 9) (eVar 10))) ⟨tS L c1 c2 s0 s2' (some (.d (.int i))) s8 (some (.d (atD c1 i))) (some (.d (atD c2 i))) s11, S'⟩ = some (dif c1 c2 i, ⟨tS L c1 c2 s0 s2' (some (.d (.int i))) s8 (some (.d (atD c1 i))) (some (.d (atD c2 i))) s11, S'⟩) := by
      generalize atD c1 i = X1 at *
      generalize atD c2 i = X2 at *
      simp -implicitDefEqProofs [eq1]
    have ks : dueK c1 c2 (i + 1) = if dif c1 c2 i then dueK c1 c2 i ++ [rowT c1 c2 i] else dueK c1 c2 i := by
      unfold dueK
      rw [List.range_succ, List.filter_append, List.map_append]
      cases q : dif c1 c2 i <;> simp [q]
    cases q : dif c1 c2 i with
    | false =>
      refine ⟨⟨tS L c1 c2 s0 s2' (some (.d (.int i))) s8 (some (.d (atD c1 i))) (some (.d (atD c2 i))) s11, S'⟩, .inl ?_, _, _, _, S', rfl, ?_⟩
      · unfold b_law_2_f_5_f
        show sSeq _ _ ⟨tS L c1 c2 s0 s2' (some (.d (.int i))) s8 s9' s10' s11, S'⟩ = _
        simp only [ev_sSeq, f1, f2, Option.bind_some, nxt_nx]
        unfold b_law_2_f_5_f_3
        rw [ev_sIf, cnd, q]
        rfl
      · rw [ks, q]
        exact h'
    | true =>
      have hl := dueK_len c1 c2 i
      have ap := app_c (x := rowT c1 c2 i) h'.du (by omega)
      have il := isLst_c h'.du
      refine ⟨⟨tS L c1 c2 s0 s2' (some (.d (.int i))) s8 (some (.d (atD c1 i))) (some (.d (atD c2 i))) s11, S'.set (L + 3) (lstD (dueK c1 c2 i ++ [rowT c1 c2 i]))⟩, .inl ?_, _, _, _, _, rfl, ?_⟩
      · unfold b_law_2_f_5_f
        show sSeq _ _ ⟨tS L c1 c2 s0 s2' (some (.d (.int i))) s8 s9' s10' s11, S'⟩ = _
        simp only [ev_sSeq, f1, f2, Option.bind_some, nxt_nx]
        unfold b_law_2_f_5_f_3
        rw [ev_sIf, cnd, q]
        simp only [Option.bind_some, if_true]
        unfold rowT at ap ⊢
        generalize S'.set (L + 3) (lstD (dueK c1 c2 i ++ [D.tup [.int i, atD c1 i, atD c2 i]])) = S6 at *
        generalize atD c1 i = X1 at *
        generalize atD c2 i = X2 at *
        generalize isLst = il' at *
        simp -implicitDefEqProofs [t3, il, ap]
      · rw [ks, q]
        exact h'.due) (fun _ _ => trivial) ⟨_, _, _, S, rfl, h⟩
  rw [intsW_len] at h'
  refine ⟨s7', s9', s10', S', ?_, ?_⟩
  · unfold b_law_2_f_5
    rw [ev_sFor, er]
    exact e
  · have : dueD c1 c2 = dueK c1 c2 M := by unfold dueD dueK; rw [hM]
    rw [this]
    exact h'
end
end Lw
namespace Lw
open PySem PySem.Spec L2 FL
open PySem.PyData (strOk)
variable {a : Ad} {xs : List Int} {n L : Nat} {S : List Cell} {c1 c2 : List Int} {s1 s2 : Int} {r1 r2 : List D}
theorem ok_ints (cs : List Int) : okD 60 (intsD cs) = true := by
  have : okE 60 (intsD cs) = true := okEA_iff.mpr fun x hx => by
    obtain ⟨z, _, rfl⟩ := List.mem_map.mp hx
    rfl
  exact okE_okD _ _ this
theorem ok_due (c1 c2 : List Int) : okD 60 (.lst (dueD c1 c2)) = true := by
  have : okE 60 (.lst (dueD c1 c2)) = true := okEA_iff.mpr fun x hx => by
    obtain ⟨k, _, rfl⟩ := List.mem_map.mp hx
    show okEA 58 [_, _, _] = true
    rw [okEA_cons, okEA_cons, okEA_cons, atD_okE, atD_okE]
    rfl
  exact okE_okD _ _ this
theorem changedT {n m : Nat} (wf : Wf S) (h1 : S[n]? = some (imX a.C_Image c1 s1 r1)) (h2 : S[m]? = some (imX a.C_Image c2 s2 r2)) (l1 : c1.length < 1000) (l2 : c2.length < 1000) : callC true (f_changed a) S [.cel n, .cel m] = some (.cel S.length, S ++ [lstD (dueD c1 c2)]) := by
  have hn : n < S.length := (List.getElem?_eq_some_iff.mp h1).1
  have hm : m < S.length := (List.getElem?_eq_some_iff.mp h2).1
  exact call_newT wf (by simp; exact ⟨hn, hm⟩) fun st ids wf' rf cls pt => changed_ok wf' (part_leaf imX_leaf h1 (rf n (by simp)) pt) (part_leaf imX_leaf h2 (rf m (by simp)) pt) l1 l2
theorem changedF {n m : Nat} (wf : Wf S) (h1 : S[n]? = some (imX a.C_Image c1 s1 r1)) (h2 : S[m]? = some (imX a.C_Image c2 s2 r2)) (l1 : c1.length < 1000) (l2 : c2.length < 1000) : callC false (f_changed a) S [.cel n, .cel m] = some (.d (.lst (dueD c1 c2)), S) := by
  have hn : n < S.length := (List.getElem?_eq_some_iff.mp h1).1
  have hm : m < S.length := (List.getElem?_eq_some_iff.mp h2).1
  exact call_newF wf (by simp; exact ⟨hn, hm⟩) fun st ids wf' rf cls pt => changed_ok wf' (part_leaf imX_leaf h1 (rf n (by simp)) pt) (part_leaf imX_leaf h2 (rf m (by simp)) pt) l1 l2
section
variable {s0 s2' s7 s8 s9 s10 s11 : Option W}
theorem x6 (h : T5 a.C_Image xs n L c1 c2 s1 s2 r1 r2 (dueD c1 c2) S) (l1 : c1.length < 63) (l2 : c2.length < 63) : ∃ s8' s11' S', b_law_2_f_6 a ⟨tS L c1 c2 s0 s2' s7 s8 s9 s10 s11, S⟩ = some (.nx ⟨tS L c1 c2 s0 s2' s7 s8' s9 s10 s11', S'⟩) ∧ T5 a.C_Image xs n L c1 c2 s1 s2 r1 r2 (dueD c1 c2) S' := by
  have er : iRng (aCons (eC (.d (.int 2))) aNil) ⟨tS L c1 c2 s0 s2' s7 s8 s9 s10 s11, S⟩ = some ((intsW 0 2, none), ⟨tS L c1 c2 s0 s2' s7 s8 s9 s10 s11, S⟩) := by
    unfold iRng
    simp -implicitDefEqProofs
  obtain ⟨r', e, s8', s11', S', rfl, h'⟩ := forL_all (g := tName 8) (b := b_law_2_f_6_f a) (ck := none)
    (I := fun k r => ∃ s8' s11' S', r = ⟨tS L c1 c2 s0 s2' s7 s8' s9 s10 s11', S'⟩ ∧ T5 a.C_Image xs n L c1 c2 s1 s2 r1 r2 (dueD c1 c2) S') (intsW 0 2) ⟨tS L c1 c2 s0 s2' s7 s8 s9 s10 s11, S⟩ (by
    rintro i d r hd ⟨s8', s11', S', rfl, h'⟩
    refine ⟨trivial, _, rfl, ?_⟩
    have ct := changedT (a := a) h'.ps.wf h'.i1 h'.i2 (by omega) (by omega)
    have m0 := h'.im0
    have m1 := h'.im1
    have f1 : b_law_2_f_6_f_1 a ⟨tS L c1 c2 s0 s2' s7 (some d) s9 s10 s11', S'⟩ = some (.nx ⟨tS L c1 c2 s0 s2' s7 (some d) s9 s10 (some (.cel S'.length)), S' ++ [lstD (dueD c1 c2)]⟩) := by
      unfold b_law_2_f_6_f_1
      generalize S' ++ [lstD (dueD c1 c2)] = S6 at *
      generalize callC true (f_changed a) = cc at *
      simp -implicitDefEqProofs [m0, m1, ct]
    have h6 := h'.app (P := dueD c1 c2)
    have l6 := h'.lt
    have g6 : (S' ++ [lstD (dueD c1 c2)])[S'.length]? = some (lstD (dueD c1 c2)) := by simp
    have ws := wsame_call (a := a) (c1 := c1) (c2 := c2) h6.ps.wf g6 h6.du (by omega) (by omega)
    have wd := wdone_call (a := a) (c1 := c1) (c2 := c2) g6 l1 l2
    have eq : eqvD true (S' ++ [lstD (dueD c1 c2)]) (.d (intsD c2)) (.d (intsD c2)) = some (.d (.bl false), S' ++ [lstD (dueD c1 c2)]) := eqv_dd (ok_ints c2)
    have f2 : b_law_2_f_6_f_2 a ⟨tS L c1 c2 s0 s2' s7 (some d) s9 s10 (some (.cel S'.length)), S' ++ [lstD (dueD c1 c2)]⟩ = some (.nx ⟨tS L c1 c2 s0 s2' s7 (some d) s9 s10 (some (.cel S'.length)), S' ++ [lstD (dueD c1 c2)]⟩) := by
      unfold b_law_2_f_6_f_2
      generalize S' ++ [lstD (dueD c1 c2)] = S6 at *
      generalize callC false (f_law_wsame a) = cs at *
      generalize callC false (f_law_wdone a) = cd at *
      simp -implicitDefEqProofs [ws, wd, eq]
    have hl := dueD_len c1 c2
    have ap := app_c (x := .tup []) g6 (by omega)
    have il := isLst_c g6
    have t0 : ∀ cl, oTup cl [] = some (.d (.tup []), cl) := fun _ => rfl
    have f3 : b_law_2_f_6_f_3 a ⟨tS L c1 c2 s0 s2' s7 (some d) s9 s10 (some (.cel S'.length)), S' ++ [lstD (dueD c1 c2)]⟩ = some (.nx ⟨tS L c1 c2 s0 s2' s7 (some d) s9 s10 (some (.cel S'.length)), (S' ++ [lstD (dueD c1 c2)]).set S'.length (lstD (dueD c1 c2 ++ [.tup []]))⟩) := by
      unfold b_law_2_f_6_f_3
      generalize (S' ++ [lstD (dueD c1 c2)]).set S'.length (lstD (dueD c1 c2 ++ [.tup []])) = S7 at *
      generalize S' ++ [lstD (dueD c1 c2)] = S6 at *
      generalize isLst = il' at *
      simp -implicitDefEqProofs [t0, il, ap]
    refine ⟨⟨tS L c1 c2 s0 s2' s7 (some d) s9 s10 (some (.cel S'.length)), (S' ++ [lstD (dueD c1 c2)]).set S'.length (lstD (dueD c1 c2 ++ [.tup []]))⟩, .inl ?_, _, _, _, rfl, h6.set (by omega)⟩
    unfold b_law_2_f_6_f
    show sSeq _ _ ⟨tS L c1 c2 s0 s2' s7 (some d) s9 s10 s11', S'⟩ = _
    simp only [ev_sSeq, f1, f2, f3, Option.bind_some, nxt_nx]) (fun _ _ => trivial) ⟨_, _, S, rfl, h⟩
  refine ⟨s8', s11', S', ?_, h'⟩
  unfold b_law_2_f_6
  rw [ev_sFor, er]
  exact e
theorem dif_symm (c1 c2 : List Int) : dif c1 c2 = dif c2 c1 := by
  funext k
  unfold dif
  by_cases h : c1[k]? = c2[k]?
  · simp [h]
  · have := Ne.symm h
    simp [h, this]
def swpW : W → D
  | .d (.tup [x, y, z]) => .tup [x, z, y]
  | _ => .non
theorem swp_due (c1 c2 : List Int) : ((dueD c1 c2).map W.d).map swpW = dueD c2 c1 := by
  unfold dueD
  rw [List.map_map, List.map_map, dif_symm c1 c2, Nat.max_comm]
  rfl
theorem x7 (h : T5 a.C_Image xs n L c1 c2 s1 s2 r1 r2 (dueD c1 c2) S) (l1 : c1.length < 63) (l2 : c2.length < 63) : b_law_2_f_7 a ⟨tS L c1 c2 s0 s2' s7 s8 s9 s10 s11, S⟩ = some (.nx ⟨tS L c1 c2 s0 s2' s7 s8 s9 s10 s11, S⟩) := by
  have sz : sizeLine = 16777216 := rfl
  have cf := changedF (a := a) h.ps.wf h.i2 h.i1 (by omega) (by omega)
  have m0 := h.im0
  have m1 := h.im1
  have hl := dueD_len c1 c2
  have du := h.du
  have t3 : ∀ cl x y z, oTup cl [.d x, .d y, .d z] = some (.d (.tup [x, y, z]), cl) := fun cl x y z => by simp [oTup, tupW, datas, show sizeLine = 16777216 from rfl]
  have ei : iSeq (eVar 6) ⟨tS L c1 c2 s0 s2' s7 s8 s9 s10 s11, S⟩ = some (((dueD c1 c2).map W.d, some [(L + 3, (dueD c1 c2).map W.d)]), ⟨tS L c1 c2 s0 s2' s7 s8 s9 s10 s11, S⟩) := by
    unfold iSeq
    simp -implicitDefEqProofs [asTup, itemsL, du, lstD]
  have hlt := h.lt
  have lc := lc_pure (c := false) (g := tTupG 3 (tsCons (tName 7) (tsCons (tName 9) (tsCons (tName 10) tsNil)))) (tt := bYes) (te := eCall oTup (aCons (eVar 7) (aCons (eVar 10) (aCons (eVar 9) aNil)))) (vs := [7, 9, 10]) ei (fun _ => true) swpW (fun c => ckC_one (by rw [List.getElem?_append_left (by omega)]; exact du)) (by rw [List.length_map, sz]; omega) (clos_of h.ps.wf) (by
    intro w hw acc
    obtain ⟨x, hx, rfl⟩ := List.mem_map.mp hw
    obtain ⟨k, _, rfl⟩ := List.mem_map.mp hx
    refine ⟨⟨tS L c1 c2 s0 s2' (some (.d (.int k))) s8 (some (.d (atD c1 k))) (some (.d (atD c2 k))) s11, S ++ [.lst acc]⟩, rfl, _, rfl, rfl, fun _ => ⟨⟨tS L c1 c2 s0 s2' (some (.d (.int k))) s8 (some (.d (atD c1 k))) (some (.d (atD c2 k))) s11, S ++ [.lst acc]⟩, ?_, rfl⟩⟩
    show _ = some (W.d (.tup [.int k, atD c2 k, atD c1 k]), _)
    generalize atD c1 k = X1 at *
    generalize atD c2 k = X2 at *
    generalize S ++ [Cell.lst acc] = S6 at *
    simp -implicitDefEqProofs [t3])
  rw [List.filter_eq_self.mpr (fun _ _ => rfl), swp_due] at lc
  have eq : eqvD true S (.d (.lst (dueD c2 c1))) (.d (.lst (dueD c2 c1))) = some (.d (.bl false), S) := eqv_dd (ok_due c2 c1)
  unfold b_law_2_f_7
  generalize eLc false (iSeq (eVar 6)) (tTupG 3 (tsCons (tName 7) (tsCons (tName 9) (tsCons (tName 10) tsNil)))) bYes (eCall oTup (aCons (eVar 7) (aCons (eVar 10) (aCons (eVar 9) aNil)))) [7, 9, 10] = LC at *
  generalize callC false (f_changed a) = cc at *
  simp -implicitDefEqProofs [m0, m1, cf, lc, eq]
theorem due_same (c1 : List Int) : dueD c1 c1 = [] := by
  unfold dueD
  rw [List.filter_eq_nil_iff.mpr (by intro k _; simp [dif])]
  rfl
theorem x8 (h : T5 a.C_Image xs n L c1 c2 s1 s2 r1 r2 (dueD c1 c2) S) (l1 : c1.length < 63) (l2 : c2.length < 63) : b_law_2_f_8 a ⟨tS L c1 c2 s0 s2' s7 s8 s9 s10 s11, S⟩ = some (.nx ⟨tS L c1 c2 s0 s2' s7 s8 s9 s10 s11, S⟩) := by
  have cf := changedF (a := a) h.ps.wf h.i1 h.i1 (by omega) (by omega)
  rw [due_same] at cf
  have m0 := h.im0
  have m1 := h.im1
  have k1 := imX_cells h.i1
  have k2 := imX_cells h.i2
  have l0 : ∀ cl, oLst false cl [] = some (.d (.lst []), cl) := fun _ => lst0
  have e0 : eqvD true S (.d (.lst [])) (.d (.lst [])) = some (.d (.bl false), S) := eqv_dd rfl
  have e1 : eqvD true S (.d (intsD c1)) (.d (intsD c1)) = some (.d (.bl false), S) := eqv_dd (ok_ints c1)
  have e2 : eqvD true S (.d (intsD c2)) (.d (intsD c2)) = some (.d (.bl false), S) := eqv_dd (ok_ints c2)
  unfold b_law_2_f_8
  generalize callC false (f_changed a) = cc at *
  generalize oLst false = ol at *
  simp -implicitDefEqProofs [m0, m1, cf, l0, e0, e1, e2, k1, k2]
end
/-! the turn -/
def LR5 (xs : List Int) (n : Nat) (r : Rho) : Prop := ∃ s0 s2 s3 s4 s5 s6 s7 s8 s9 s10 s11 cl, r = ⟨lS s0 s2 s3 s4 s5 s6 s7 s8 s9 s10 s11, cl⟩ ∧ PS xs n cl
theorem turn5 (hn : n < 300000) {t : Nat} (ht : t < 10) {s0 s3 s4 s5 s6 s7 s8 s9 s10 s11 : Option W} {cl : List Cell} (h : PS xs n cl) : ∃ r', b_law_2_f a ⟨lS s0 (some (.d (.int t))) s3 s4 s5 s6 s7 s8 s9 s10 s11, cl⟩ = some (.nx r') ∧ LR5 xs (n + 200) r' := by
  have L0 := h.lt
  obtain ⟨⟨c, hc, c0⟩, wf⟩ := h
  obtain ⟨c', c1, e1, hc', l1⟩ := wc_call (a := a) c0 hc (by omega) (x := .non) (b := 0) (.inl ⟨rfl, rfl⟩)
  have g1 : (cl.set 0 c')[0]? = some c' := List.getElem?_set_self L0
  obtain ⟨c'', c2, e2, hc'', l2⟩ := wc_call (a := a) g1 hc' (by omega) (x := intsD c1) (b := c1.length) (.inr ⟨c1, rfl, Nat.le_refl _, by omega⟩)
  have e22 : (cl.set 0 c').set 0 c'' = cl.set 0 c'' := by simp
  rw [e22] at e2
  have f1 : b_law_2_f_1 a ⟨lS s0 (some (.d (.int t))) s3 s4 s5 s6 s7 s8 s9 s10 s11, cl⟩ = some (.nx ⟨lS s0 (some (.d (.int t))) (some (.d (intsD c1))) s4 s5 s6 s7 s8 s9 s10 s11, cl.set 0 c'⟩) := by
    unfold b_law_2_f_1
    generalize cl.set 0 c' = S1 at *
    generalize callC false (f_law_wcells a) = cc at *
    simp -implicitDefEqProofs [e1]
  have f2 : b_law_2_f_2 a ⟨lS s0 (some (.d (.int t))) (some (.d (intsD c1))) s4 s5 s6 s7 s8 s9 s10 s11, cl.set 0 c'⟩ = some (.nx ⟨lS s0 (some (.d (.int t))) (some (.d (intsD c1))) (some (.d (intsD c2))) s5 s6 s7 s8 s9 s10 s11, cl.set 0 c''⟩) := by
    unfold b_law_2_f_2
    generalize cl.set 0 c' = S1 at *
    generalize cl.set 0 c'' = S2 at *
    generalize callC false (f_law_wcells a) = cc at *
    simp -implicitDefEqProofs [e2]
  have P2 : PS xs (n + 200) (cl.set 0 c'') := ⟨⟨c'', hc'', List.getElem?_set_self L0⟩, wf_set wf _ _ (by rw [hc''.leaf.1]; simp)⟩
  have L2 : (cl.set 0 c'').length = cl.length := by simp
  generalize cl.set 0 c'' = S2 at *
  generalize cl.length = L at *
  subst L2
  have mk1 := make_d (a := a) (cs := c1) (st := 1) (rows := []) (cl := S2) (by omega) (by simp)
  have mk2 := make_d (a := a) (cs := c2) (st := 1 + t) (rows := [.tup [.tup [.int 0, .int 0], .int 1]]) (cl := S2 ++ [imX a.C_Image c1 1 []]) (by omega) (by simp)
  rw [show (S2 ++ [imX a.C_Image c1 1 []]).length = S2.length + 1 by simp, List.append_assoc] at mk2
  have ol : oLst true (S2 ++ ([imX a.C_Image c1 1 []] ++ [imX a.C_Image c2 (1 + t) [.tup [.tup [.int 0, .int 0], .int 1]]])) [.cel S2.length, .cel (S2.length + 1)] = some (.cel (S2.length + 2), S2 ++ [imX a.C_Image c1 1 [], imX a.C_Image c2 (1 + t) [.tup [.tup [.int 0, .int 0], .int 1]], .lst [.cel S2.length, .cel (S2.length + 1)]]) := by
    simp [oLst, FL.fresh, show sizeLine = 16777216 from rfl]
  have l0 : ∀ cl, oLst false cl [] = some (.d (.lst []), cl) := fun _ => lst0
  have l1' : ∀ (x : D) cl, oLst false cl [.d x] = some (.d (.lst [x]), cl) := fun _ _ => lst1
  have t2 : ∀ x y cl, oTup cl [.d x, .d y] = some (.d (.tup [x, y]), cl) := fun _ _ _ => tup2
  have f3 : b_law_2_f_3 a ⟨lS s0 (some (.d (.int t))) (some (.d (intsD c1))) (some (.d (intsD c2))) s5 s6 s7 s8 s9 s10 s11, S2⟩ = some (.nx ⟨lS s0 (some (.d (.int t))) (some (.d (intsD c1))) (some (.d (intsD c2))) (some (.cel (S2.length + 2))) s6 s7 s8 s9 s10 s11, S2 ++ [imX a.C_Image c1 1 [], imX a.C_Image c2 (1 + t) [.tup [.tup [.int 0, .int 0], .int 1]], .lst [.cel S2.length, .cel (S2.length + 1)]]⟩) := by
    unfold b_law_2_f_3
    generalize S2 ++ [imX a.C_Image c1 1 [], imX a.C_Image c2 (1 + t) [.tup [.tup [.int 0, .int 0], .int 1]], .lst [.cel S2.length, .cel (S2.length + 1)]] = S5 at *
    generalize S2 ++ ([imX a.C_Image c1 1 []] ++ [imX a.C_Image c2 (1 + t) [.tup [.tup [.int 0, .int 0], .int 1]]]) = S4 at *
    generalize S2 ++ [imX a.C_Image c1 1 []] = S3 at *
    generalize oMake a.C_Image (f_Image___init__ a) = mk at *
    generalize oLst true = olt at *
    generalize oLst false = olf at *
    simp -implicitDefEqProofs [l0, l1', t2, mk1, mk2, ol]
  have f4 : b_law_2_f_4 a ⟨lS s0 (some (.d (.int t))) (some (.d (intsD c1))) (some (.d (intsD c2))) (some (.cel (S2.length + 2))) s6 s7 s8 s9 s10 s11, S2 ++ [imX a.C_Image c1 1 [], imX a.C_Image c2 (1 + t) [.tup [.tup [.int 0, .int 0], .int 1]], .lst [.cel S2.length, .cel (S2.length + 1)]]⟩ = some (.nx ⟨tS S2.length c1 c2 s0 (some (.d (.int t))) s7 s8 s9 s10 s11, S2 ++ [imX a.C_Image c1 1 [], imX a.C_Image c2 (1 + t) [.tup [.tup [.int 0, .int 0], .int 1]], .lst [.cel S2.length, .cel (S2.length + 1)], lstD []]⟩) := by
    have q : oLst true (S2 ++ [imX a.C_Image c1 1 [], imX a.C_Image c2 (1 + t) [.tup [.tup [.int 0, .int 0], .int 1]], .lst [.cel S2.length, .cel (S2.length + 1)]]) [] = some (.cel (S2.length + 3), S2 ++ [imX a.C_Image c1 1 [], imX a.C_Image c2 (1 + t) [.tup [.tup [.int 0, .int 0], .int 1]], .lst [.cel S2.length, .cel (S2.length + 1)], lstD []]) := by
      simp [oLst, FL.fresh, lstD]
    unfold b_law_2_f_4
    generalize S2 ++ [imX a.C_Image c1 1 [], imX a.C_Image c2 (1 + t) [.tup [.tup [.int 0, .int 0], .int 1]], .lst [.cel S2.length, .cel (S2.length + 1)], lstD []] = S6 at *
    generalize S2 ++ [imX a.C_Image c1 1 [], imX a.C_Image c2 (1 + t) [.tup [.tup [.int 0, .int 0], .int 1]], .lst [.cel S2.length, .cel (S2.length + 1)]] = S5 at *
    generalize oLst true = olt at *
    simp -implicitDefEqProofs [q]
  have at4 : ∀ i, (S2 ++ [imX a.C_Image c1 1 [], imX a.C_Image c2 (1 + t) [.tup [.tup [.int 0, .int 0], .int 1]], .lst [.cel S2.length, .cel (S2.length + 1)], lstD []])[S2.length + i]? = [imX a.C_Image c1 1 [], imX a.C_Image c2 (1 + t) [.tup [.tup [.int 0, .int 0], .int 1]], .lst [.cel S2.length, .cel (S2.length + 1)], lstD []][i]? := fun i => by
    rw [List.getElem?_append_right (by omega), show S2.length + i - S2.length = i by omega]
  have T0 : T5 a.C_Image xs (n + 200) S2.length c1 c2 1 (1 + t) [] [.tup [.tup [.int 0, .int 0], .int 1]] [] (S2 ++ [imX a.C_Image c1 1 [], imX a.C_Image c2 (1 + t) [.tup [.tup [.int 0, .int 0], .int 1]], .lst [.cel S2.length, .cel (S2.length + 1)], lstD []]) := by
    have lt2 := P2.lt
    obtain ⟨⟨p, hp, p0⟩, w2⟩ := P2
    refine ⟨⟨⟨p, hp, by rw [List.getElem?_append_left lt2]; exact p0⟩, wf_app w2 _ ?_⟩, lt2, at4 0, at4 1, at4 2, at4 3⟩
    intro d hd k hk
    simp only [List.mem_cons, List.not_mem_nil, or_false] at hd
    rcases hd with rfl | rfl | rfl | rfl
    · rw [imX_leaf.1] at hk; simp at hk
    · rw [imX_leaf.1] at hk; simp at hk
    · simp at hk ⊢; omega
    · simp at hk
  obtain ⟨s7', s9', s10', S6, f5, T1⟩ := x5 (s0 := s0) (s2' := some (.d (.int t))) (s7 := s7) (s8 := s8) (s9 := s9) (s10 := s10) (s11 := s11) T0 (by omega) (by omega)
  obtain ⟨s8', s11', S7, f6, T2⟩ := x6 (s0 := s0) (s2' := some (.d (.int t))) (s7 := s7') (s8 := s8) (s9 := s9') (s10 := s10') (s11 := s11) T1 (by omega) (by omega)
  have f7 := x7 (s0 := s0) (s2' := some (.d (.int t))) (s7 := s7') (s8 := s8') (s9 := s9') (s10 := s10') (s11 := s11') T2 (by omega) (by omega)
  have f8 := x8 (s0 := s0) (s2' := some (.d (.int t))) (s7 := s7') (s8 := s8') (s9 := s9') (s10 := s10') (s11 := s11') T2 (by omega) (by omega)
  refine ⟨⟨tS S2.length c1 c2 s0 (some (.d (.int t))) s7' s8' s9' s10' s11', S7⟩, ?_, s0, _, _, _, _, _, s7', s8', s9', s10', s11', S7, rfl, T2.ps⟩
  unfold b_law_2_f
  simp only [ev_sSeq, f1, f2, f3, f4, f5, f6, f7, f8, Option.bind_some, nxt_nx]
end Lw
namespace Lw
open PySem PySem.Spec L2 FL
variable {a : Ad}
theorem pen_lst (xs : List Int) : penC xs 0 0 = lstD [.lst (xs.map D.int), .int 0, .int 0] := rfl
theorem wpen_ok (xs : List Int) {st : List Cell} (wf : Wf st) : f_law_wpen a st [.d (.rol (xs.map D.int))] = some (.cel st.length, st ++ [penC (xs.take 63) 0 0]) := by
  have s1 : dSl false st (.d (.rol (xs.map D.int))) none (some (63 : Int)) = some (.d (.lst ((xs.take 63).map D.int)), st) := by
    have := cut_to (ws := (xs.map D.int).map W.d) (i := 63)
    simp only [dSl, asTupP, asList]
    rw [show (63 : Int) = ((63 : Nat) : Int) from rfl, this, ← List.map_take, ← List.map_take]
    simp only [FL.fresh, datas_m]
    rfl
  rw [pen_lst]
  have hf := fin_new (Q := [.lst ((xs.take 63).map D.int), .int 0, .int 0]) wf
  generalize (xs.take 63).map D.int = X at *
  have s2 : oList false st [.d (.lst X)] = some (.d (.lst X), st) := oList_d
  have s3 : oLst true st [.d (.lst X), .d (.int 0), .d (.int 0)] = some (.cel st.length, st ++ [lstD [.lst X, .int 0, .int 0]]) := rfl
  rw [f_law_wpen, run_eq, m_law_wpen]
  generalize xs.map D.int = Y at *
  generalize st ++ [lstD [.lst X, .int 0, .int 0]] = S1 at *
  generalize oLst true = olt at *
  generalize oList false = olf at *
  simp -implicitDefEqProofs [s1, s2, s3]
  exact hf
theorem law_true (xs : List Int) : f_law a [] [.d (.rol (xs.map D.int))] = some (.d (.bl true), []) := by
  rw [f_law, run_eq, split_law]
  have start : ([.d (.rol (xs.map D.int))] : List W).map some ++ List.replicate (12 - ([.d (.rol (xs.map D.int))] : List W).length) none = [some (.d (.rol (xs.map D.int))), none, none, none, none, none, none, none, none, none, none, none] := rfl
  rw [start]
  have cp : callC true (f_law_wpen a) [] [.d (.rol (xs.map D.int))] = some (.cel 0, [penC (xs.take 63) 0 0]) := by
    have := call_newT (f := f_law_wpen a) (cl := []) (ws := [.d (.rol (xs.map D.int))]) (Q := [.lst ((xs.take 63).map D.int), .int 0, .int 0]) (fun i n hi => absurd hi (by simp)) (by simp) fun st ids wf rf cls pt => by
      rw [← pen_lst]
      exact wpen_ok xs wf
    rw [← pen_lst] at this
    exact this
  generalize xs.take 63 = ys at *
  generalize hr : (D.rol (xs.map D.int)) = R at *
  have e1 : b_law_1 a ⟨[some (.d R), none, none, none, none, none, none, none, none, none, none, none], []⟩ = some (.nx ⟨lS (some (.d R)) none none none none none none none none none none, [penC ys 0 0]⟩) := by
    unfold b_law_1
    generalize penC ys 0 0 = pc at *
    generalize callC true (f_law_wpen a) = cc at *
    simp -implicitDefEqProofs [cp]
  have P0 : PS ys 0 [penC ys 0 0] := ⟨⟨_, ⟨0, 0, rfl, by omega, by omega⟩, rfl⟩, fun i n hi hn => by
    match i, hi with
    | 0, _ => exact absurd hn (by simp [cellAt, penC, Cell.refs, refsA])
    | i + 1, h => exact absurd h (by simp)⟩
  have er : iRng (aCons (eC (.d (.int 4))) aNil) ⟨lS (some (.d R)) none none none none none none none none none none, [penC ys 0 0]⟩ = some ((intsW 0 4, none), ⟨lS (some (.d R)) none none none none none none none none none none, [penC ys 0 0]⟩) := by
    unfold iRng
    simp -implicitDefEqProofs
  obtain ⟨r', e2, h2⟩ := forL_all (g := tName 2) (b := b_law_2_f a) (ck := none) (I := fun k r => LR5 ys (200 * k) r) (intsW 0 4) ⟨lS (some (.d R)) none none none none none none none none none none, [penC ys 0 0]⟩ (by
    rintro i d r hd ⟨s0, s2, s3, s4, s5, s6, s7, s8, s9, s10, s11, cl, rfl, h⟩
    have hi : i < 4 := by
      have := (List.getElem?_eq_some_iff.mp hd).1
      rwa [intsW_len] at this
    have hd' : d = .d (.int i) := by
      rw [intsW_map, List.getElem?_map, List.getElem?_range hi] at hd
      simpa using hd.symm
    subst hd'
    refine ⟨trivial, _, rfl, ?_⟩
    obtain ⟨r2, e2, h2⟩ := turn5 (a := a) (n := 200 * i) (t := i) (by omega) (by omega) (s0 := s0) (s3 := s3) (s4 := s4) (s5 := s5) (s6 := s6) (s7 := s7) (s8 := s8) (s9 := s9) (s10 := s10) (s11 := s11) h
    exact ⟨r2, .inl e2, h2⟩) (fun _ _ => trivial) ⟨_, _, _, _, _, _, _, _, _, _, _, _, rfl, P0⟩
  have e2' : b_law_2 a ⟨lS (some (.d R)) none none none none none none none none none none, [penC ys 0 0]⟩ = some (.nx r') := by
    unfold b_law_2
    rw [ev_sFor, er]
    exact e2
  simp only [ev_sSeq, e1, e2', Option.bind_some, nxt_nx]
  exact fin0
end Lw
namespace Lw
open PySem PySem.Spec L2 FL
def spL (K : PySem.W.Frag) : Sp := fun vs H Q _ => ∃ (p : Addr) (ns : List Int), vs = [.ref p] ∧ SqL K H p (ns.map V.int) ∧ ns.length ≤ 63 ∧ (∀ z ∈ ns, Builtin.Int.intBits z ≤ 1048576) ∧ ∀ H', Q (.bl true) H'
theorem reps_ints {K : PySem.W.Frag} {F : Hp} : ∀ ns : List Int, Reps0 K F (ns.map D.int) (ns.map V.int)
  | [] => rfl
  | i :: ns => ⟨.int i, ns.map V.int, rfl, rfl, reps_ints ns⟩
theorem spL_imp {K : PySem.W.Frag} (ad : Ad) {vs : List V} {H : Hp} {Q : VK} {E : XK} (h : spL K vs H Q E) : spF K 1 (f_law ad) vs H Q E := by
  obtain ⟨p, ns, rfl, hs, hl, hb, q⟩ := h
  refine ⟨[], H, [], [.d (.rol (ns.map D.int))], ⟨Same.refl H, rfl, fun n a c e => by simp at e, List.nodup_nil, fun a h => by simp at h⟩, ⟨.ref p, [], rfl, ⟨p, ns.map V.int, rfl, hs, reps_ints ns⟩, rfl⟩, rfl, ?_⟩
  rw [law_true ns]
  intro F' al' v H' x C r
  have r : v = .bl true := r
  subst r
  exact q H'
theorem all_mk {l : PySem.W.OpenLaw} {w : World} {K : PySem.W.Frag} {h : Heap} {mg : Str → Option Value} {fa a_law_wpen a_law_fill a_law_next a_law_wcells a_Image___init__ a_cell_at a_Image___len__ a_changed a_law_wsame a_law_wdone a_law C_Image : Addr} (X : K.In h) (G : h.Ns mainGlobals mg) (hfa : mg "law" = some (.ref fa))
    {od_law_wpen an_law_wpen : Option Addr} {sl_law_wpen : Array (Option Value)} {oc_law_wpen kV_law_wpen dc_law_wpen pm_law_wpen cd_law_wpen ct_law_wpen : Value}
    {od_law_fill an_law_fill : Option Addr} {sl_law_fill : Array (Option Value)} {oc_law_fill kV_law_fill dc_law_fill pm_law_fill cd_law_fill ct_law_fill : Value}
    {od_law_next an_law_next : Option Addr} {sl_law_next : Array (Option Value)} {oc_law_next kV_law_next dc_law_next pm_law_next cd_law_next ct_law_next : Value}
    {od_law_wcells an_law_wcells : Option Addr} {sl_law_wcells : Array (Option Value)} {oc_law_wcells kV_law_wcells dc_law_wcells pm_law_wcells cd_law_wcells ct_law_wcells : Value}
    {od_Image___init__ an_Image___init__ : Option Addr} {sl_Image___init__ : Array (Option Value)} {oc_Image___init__ kV_Image___init__ dc_Image___init__ pm_Image___init__ cd_Image___init__ ct_Image___init__ : Value}
    {od_cell_at an_cell_at : Option Addr} {sl_cell_at : Array (Option Value)} {oc_cell_at kV_cell_at dc_cell_at pm_cell_at cd_cell_at ct_cell_at : Value}
    {od_Image___len__ an_Image___len__ : Option Addr} {sl_Image___len__ : Array (Option Value)} {oc_Image___len__ kV_Image___len__ dc_Image___len__ pm_Image___len__ cd_Image___len__ ct_Image___len__ : Value}
    {od_changed an_changed : Option Addr} {sl_changed : Array (Option Value)} {oc_changed kV_changed dc_changed pm_changed cd_changed ct_changed : Value}
    {od_law_wsame an_law_wsame : Option Addr} {sl_law_wsame : Array (Option Value)} {oc_law_wsame kV_law_wsame dc_law_wsame pm_law_wsame cd_law_wsame ct_law_wsame : Value}
    {od_law_wdone an_law_wdone : Option Addr} {sl_law_wdone : Array (Option Value)} {oc_law_wdone kV_law_wdone dc_law_wdone pm_law_wdone cd_law_wdone ct_law_wdone : Value}
    {od_law an_law : Option Addr} {sl_law : Array (Option Value)} {oc_law kV_law dc_law pm_law cd_law ct_law : Value}
    (hC_Image : PySem.W.nsIn K mainGlobals "Image" = some (some (.ref C_Image)))
    (hf_law_wpen : PySem.W.nsIn K mainGlobals "_law_wpen" = some (some (.ref a_law_wpen)))
    (hl_law_wpen : K.lookup a_law_wpen = some ⟨oc_law_wpen, od_law_wpen, .func (PySem.W.fnOf "_law_wpen" "_law_wpen" (defArgs st_law_wpen) (defBody st_law_wpen) (defScope st_law_wpen) .none kV_law_wpen dc_law_wpen pm_law_wpen an_law_wpen cd_law_wpen ct_law_wpen), sl_law_wpen⟩)
    (hc_law_wpen : PySem.W.codeIn K cd_law_wpen "_law_wpen" = true)
    (hk_law_wpen : PySem.W.keepIn K (.ref a_law_wpen) = true)
    (hf_law_fill : PySem.W.nsIn K mainGlobals "_law_fill" = some (some (.ref a_law_fill)))
    (hl_law_fill : K.lookup a_law_fill = some ⟨oc_law_fill, od_law_fill, .func (PySem.W.fnOf "_law_fill" "_law_fill" (defArgs st_law_fill) (defBody st_law_fill) (defScope st_law_fill) .none kV_law_fill dc_law_fill pm_law_fill an_law_fill cd_law_fill ct_law_fill), sl_law_fill⟩)
    (hc_law_fill : PySem.W.codeIn K cd_law_fill "_law_fill" = true)
    (hk_law_fill : PySem.W.keepIn K (.ref a_law_fill) = true)
    (hf_law_next : PySem.W.nsIn K mainGlobals "_law_next" = some (some (.ref a_law_next)))
    (hl_law_next : K.lookup a_law_next = some ⟨oc_law_next, od_law_next, .func (PySem.W.fnOf "_law_next" "_law_next" (defArgs st_law_next) (defBody st_law_next) (defScope st_law_next) .none kV_law_next dc_law_next pm_law_next an_law_next cd_law_next ct_law_next), sl_law_next⟩)
    (hc_law_next : PySem.W.codeIn K cd_law_next "_law_next" = true)
    (hk_law_next : PySem.W.keepIn K (.ref a_law_next) = true)
    (hf_law_wcells : PySem.W.nsIn K mainGlobals "_law_wcells" = some (some (.ref a_law_wcells)))
    (hl_law_wcells : K.lookup a_law_wcells = some ⟨oc_law_wcells, od_law_wcells, .func (PySem.W.fnOf "_law_wcells" "_law_wcells" (defArgs st_law_wcells) (defBody st_law_wcells) (defScope st_law_wcells) .none kV_law_wcells dc_law_wcells pm_law_wcells an_law_wcells cd_law_wcells ct_law_wcells), sl_law_wcells⟩)
    (hc_law_wcells : PySem.W.codeIn K cd_law_wcells "_law_wcells" = true)
    (hk_law_wcells : PySem.W.keepIn K (.ref a_law_wcells) = true)
    (hf_Image___init__ : PySem.W.findIn K (.ref C_Image) "__init__" = some (some (.ref a_Image___init__)))
    (hi_Image___init__ : PySem.W.isFn K (.ref a_Image___init__) = true)
    (hl_Image___init__ : K.lookup a_Image___init__ = some ⟨oc_Image___init__, od_Image___init__, .func (PySem.W.fnOf "__init__" "Image.__init__" (defArgs st_Image___init__) (defBody st_Image___init__) (defScope st_Image___init__) .none kV_Image___init__ dc_Image___init__ pm_Image___init__ an_Image___init__ cd_Image___init__ ct_Image___init__), sl_Image___init__⟩)
    (hc_Image___init__ : PySem.W.codeIn K cd_Image___init__ "Image.__init__" = true)
    (hk_Image___init__ : PySem.W.keepIn K (.ref a_Image___init__) = true)
    (hf_cell_at : PySem.W.nsIn K mainGlobals "cell_at" = some (some (.ref a_cell_at)))
    (hl_cell_at : K.lookup a_cell_at = some ⟨oc_cell_at, od_cell_at, .func (PySem.W.fnOf "cell_at" "cell_at" (defArgs st_cell_at) (defBody st_cell_at) (defScope st_cell_at) .none kV_cell_at dc_cell_at pm_cell_at an_cell_at cd_cell_at ct_cell_at), sl_cell_at⟩)
    (hc_cell_at : PySem.W.codeIn K cd_cell_at "cell_at" = true)
    (hk_cell_at : PySem.W.keepIn K (.ref a_cell_at) = true)
    (hf_Image___len__ : PySem.W.findIn K (.ref C_Image) "__len__" = some (some (.ref a_Image___len__)))
    (hi_Image___len__ : PySem.W.isFn K (.ref a_Image___len__) = true)
    (hl_Image___len__ : K.lookup a_Image___len__ = some ⟨oc_Image___len__, od_Image___len__, .func (PySem.W.fnOf "__len__" "Image.__len__" (defArgs st_Image___len__) (defBody st_Image___len__) (defScope st_Image___len__) .none kV_Image___len__ dc_Image___len__ pm_Image___len__ an_Image___len__ cd_Image___len__ ct_Image___len__), sl_Image___len__⟩)
    (hc_Image___len__ : PySem.W.codeIn K cd_Image___len__ "Image.__len__" = true)
    (hk_Image___len__ : PySem.W.keepIn K (.ref a_Image___len__) = true)
    (hf_changed : PySem.W.nsIn K mainGlobals "changed" = some (some (.ref a_changed)))
    (hl_changed : K.lookup a_changed = some ⟨oc_changed, od_changed, .func (PySem.W.fnOf "changed" "changed" (defArgs st_changed) (defBody st_changed) (defScope st_changed) .none kV_changed dc_changed pm_changed an_changed cd_changed ct_changed), sl_changed⟩)
    (hc_changed : PySem.W.codeIn K cd_changed "changed" = true)
    (hk_changed : PySem.W.keepIn K (.ref a_changed) = true)
    (hf_law_wsame : PySem.W.nsIn K mainGlobals "_law_wsame" = some (some (.ref a_law_wsame)))
    (hl_law_wsame : K.lookup a_law_wsame = some ⟨oc_law_wsame, od_law_wsame, .func (PySem.W.fnOf "_law_wsame" "_law_wsame" (defArgs st_law_wsame) (defBody st_law_wsame) (defScope st_law_wsame) .none kV_law_wsame dc_law_wsame pm_law_wsame an_law_wsame cd_law_wsame ct_law_wsame), sl_law_wsame⟩)
    (hc_law_wsame : PySem.W.codeIn K cd_law_wsame "_law_wsame" = true)
    (hk_law_wsame : PySem.W.keepIn K (.ref a_law_wsame) = true)
    (hf_law_wdone : PySem.W.nsIn K mainGlobals "_law_wdone" = some (some (.ref a_law_wdone)))
    (hl_law_wdone : K.lookup a_law_wdone = some ⟨oc_law_wdone, od_law_wdone, .func (PySem.W.fnOf "_law_wdone" "_law_wdone" (defArgs st_law_wdone) (defBody st_law_wdone) (defScope st_law_wdone) .none kV_law_wdone dc_law_wdone pm_law_wdone an_law_wdone cd_law_wdone ct_law_wdone), sl_law_wdone⟩)
    (hc_law_wdone : PySem.W.codeIn K cd_law_wdone "_law_wdone" = true)
    (hk_law_wdone : PySem.W.keepIn K (.ref a_law_wdone) = true)
    (hf_law : PySem.W.nsIn K mainGlobals "law" = some (some (.ref a_law)))
    (hl_law : K.lookup a_law = some ⟨oc_law, od_law, .func (PySem.W.fnOf "law" "law" (defArgs st_law) (defBody st_law) (defScope st_law) .none kV_law dc_law pm_law an_law cd_law ct_law), sl_law⟩)
    (hc_law : PySem.W.codeIn K cd_law "law" = true)
    (hk_law : PySem.W.keepIn K (.ref a_law) = true)
    (hpg_Image : PySem.W.plainGet K C_Image Str.empty = true)
    (hhd_Image : PySem.W.hasDictIn K C_Image = true)
    (hpo_Image : PySem.W.plainOver K C_Image = true)
    (hsa_Image : PySem.W.findIn K (.ref C_Image) "__setattr__" = some (some (.builtin "object.__setattr__")))
    (hmk_Image : PySem.W.makesIn K C_Image = true)
    (hkc_Image : PySem.W.keepIn K (.ref C_Image) = true)
    (hn_Image_cells : PySem.W.findIn K (.ref C_Image) "cells" = some none)
    (hn_Image_rows : PySem.W.findIn K (.ref C_Image) "rows" = some none)
    (hn_Image_start : PySem.W.findIn K (.ref C_Image) "start" = some none)
    (hz_all : PySem.W.nsIn K mainGlobals "all" = some none)
    (hz_bool : PySem.W.nsIn K mainGlobals "bool" = some none)
    (hz_dict : PySem.W.nsIn K mainGlobals "dict" = some none)
    (hz_enumerate : PySem.W.nsIn K mainGlobals "enumerate" = some none)
    (hz_int : PySem.W.nsIn K mainGlobals "int" = some none)
    (hz_isinstance : PySem.W.nsIn K mainGlobals "isinstance" = some none)
    (hz_len : PySem.W.nsIn K mainGlobals "len" = some none)
    (hz_list : PySem.W.nsIn K mainGlobals "list" = some none)
    (hz_max : PySem.W.nsIn K mainGlobals "max" = some none)
    (hz_range : PySem.W.nsIn K mainGlobals "range" = some none)
    (hz_sorted : PySem.W.nsIn K mainGlobals "sorted" = some none)
    (hz_str : PySem.W.nsIn K mainGlobals "str" = some none)
    (hz_tuple : PySem.W.nsIn K mainGlobals "tuple" = some none)
    (hz_zip : PySem.W.nsIn K mainGlobals "zip" = some none) :
    ∃ ad : Ad, ∃ fd : FuncData, (∀ (s : Shared) (v : Value), BindsTo s fd ⟨[v], []⟩ [("script", v)]) ∧ ∀ base : Heap, K.In base → base.Ns mainGlobals mg → FnG l.prog w K mg base fa fd ["script"] (spF K 1 (f_law ad)) := by
  have e := hfa.symm.trans (PySem.W.mg_of X G hf_law)
  cases e
  let ad : Ad := ⟨a_law_wpen, PySem.W.fnOf "_law_wpen" "_law_wpen" (defArgs st_law_wpen) (defBody st_law_wpen) (defScope st_law_wpen) .none kV_law_wpen dc_law_wpen pm_law_wpen an_law_wpen cd_law_wpen ct_law_wpen, a_law_fill, PySem.W.fnOf "_law_fill" "_law_fill" (defArgs st_law_fill) (defBody st_law_fill) (defScope st_law_fill) .none kV_law_fill dc_law_fill pm_law_fill an_law_fill cd_law_fill ct_law_fill, a_law_next, PySem.W.fnOf "_law_next" "_law_next" (defArgs st_law_next) (defBody st_law_next) (defScope st_law_next) .none kV_law_next dc_law_next pm_law_next an_law_next cd_law_next ct_law_next, a_law_wcells, PySem.W.fnOf "_law_wcells" "_law_wcells" (defArgs st_law_wcells) (defBody st_law_wcells) (defScope st_law_wcells) .none kV_law_wcells dc_law_wcells pm_law_wcells an_law_wcells cd_law_wcells ct_law_wcells, a_Image___init__, PySem.W.fnOf "__init__" "Image.__init__" (defArgs st_Image___init__) (defBody st_Image___init__) (defScope st_Image___init__) .none kV_Image___init__ dc_Image___init__ pm_Image___init__ an_Image___init__ cd_Image___init__ ct_Image___init__, a_cell_at, PySem.W.fnOf "cell_at" "cell_at" (defArgs st_cell_at) (defBody st_cell_at) (defScope st_cell_at) .none kV_cell_at dc_cell_at pm_cell_at an_cell_at cd_cell_at ct_cell_at, a_Image___len__, PySem.W.fnOf "__len__" "Image.__len__" (defArgs st_Image___len__) (defBody st_Image___len__) (defScope st_Image___len__) .none kV_Image___len__ dc_Image___len__ pm_Image___len__ an_Image___len__ cd_Image___len__ ct_Image___len__, a_changed, PySem.W.fnOf "changed" "changed" (defArgs st_changed) (defBody st_changed) (defScope st_changed) .none kV_changed dc_changed pm_changed an_changed cd_changed ct_changed, a_law_wsame, PySem.W.fnOf "_law_wsame" "_law_wsame" (defArgs st_law_wsame) (defBody st_law_wsame) (defScope st_law_wsame) .none kV_law_wsame dc_law_wsame pm_law_wsame an_law_wsame cd_law_wsame ct_law_wsame, a_law_wdone, PySem.W.fnOf "_law_wdone" "_law_wdone" (defArgs st_law_wdone) (defBody st_law_wdone) (defScope st_law_wdone) .none kV_law_wdone dc_law_wdone pm_law_wdone an_law_wdone cd_law_wdone ct_law_wdone, fa, PySem.W.fnOf "law" "law" (defArgs st_law) (defBody st_law) (defScope st_law) .none kV_law dc_law pm_law an_law cd_law ct_law, C_Image⟩
  have F_law_wpen := fun_mk (st := st_law_wpen) hl_law_wpen hc_law_wpen hk_law_wpen
  have F_law_fill := fun_mk (st := st_law_fill) hl_law_fill hc_law_fill hk_law_fill
  have F_law_next := fun_mk (st := st_law_next) hl_law_next hc_law_next hk_law_next
  have F_law_wcells := fun_mk (st := st_law_wcells) hl_law_wcells hc_law_wcells hk_law_wcells
  have F_Image___init__ := fun_mk (st := st_Image___init__) hl_Image___init__ hc_Image___init__ hk_Image___init__
  have F_cell_at := fun_mk (st := st_cell_at) hl_cell_at hc_cell_at hk_cell_at
  have F_Image___len__ := fun_mk (st := st_Image___len__) hl_Image___len__ hc_Image___len__ hk_Image___len__
  have F_changed := fun_mk (st := st_changed) hl_changed hc_changed hk_changed
  have F_law_wsame := fun_mk (st := st_law_wsame) hl_law_wsame hc_law_wsame hk_law_wsame
  have F_law_wdone := fun_mk (st := st_law_wdone) hl_law_wdone hc_law_wdone hk_law_wdone
  have F_law := fun_mk (st := st_law) hl_law hc_law hk_law
  have T : TX K mg ad := ⟨F_law_wpen,
    (F_law_wpen.binds (ps := ["script"]) fun _ _ _ _ _ _ us hl => match us, hl with | [_], _ => rfl),
    (PySem.W.mg_of X G hf_law_wpen),
    F_law_fill,
    (F_law_fill.binds (ps := ["_law_cell", "_law_at"]) fun _ _ _ _ _ _ us hl => match us, hl with | [_, _], _ => rfl),
    (PySem.W.mg_of X G hf_law_fill),
    F_law_next,
    (F_law_next.binds (ps := ["_law_pen", "_law_many"]) fun _ _ _ _ _ _ us hl => match us, hl with | [_, _], _ => rfl),
    (PySem.W.mg_of X G hf_law_next),
    F_law_wcells,
    (F_law_wcells.binds (ps := ["pen", "cells"]) fun _ _ _ _ _ _ us hl => match us, hl with | [_, _], _ => rfl),
    (PySem.W.mg_of X G hf_law_wcells),
    F_Image___init__,
    (F_Image___init__.binds (ps := ["self", "cells", "start", "rows"]) fun _ _ _ _ _ _ us hl => match us, hl with | [_, _, _, _], _ => rfl),
    F_cell_at,
    (F_cell_at.binds (ps := ["cells", "address"]) fun _ _ _ _ _ _ us hl => match us, hl with | [_, _], _ => rfl),
    (PySem.W.mg_of X G hf_cell_at),
    F_Image___len__,
    (F_Image___len__.binds (ps := ["self"]) fun _ _ _ _ _ _ us hl => match us, hl with | [_], _ => rfl),
    F_changed,
    (F_changed.binds (ps := ["image", "other"]) fun _ _ _ _ _ _ us hl => match us, hl with | [_, _], _ => rfl),
    (PySem.W.mg_of X G hf_changed),
    F_law_wsame,
    (F_law_wsame.binds (ps := ["found", "due"]) fun _ _ _ _ _ _ us hl => match us, hl with | [_, _], _ => rfl),
    (PySem.W.mg_of X G hf_law_wsame),
    F_law_wdone,
    (F_law_wdone.binds (ps := ["cells", "told"]) fun _ _ _ _ _ _ us hl => match us, hl with | [_, _], _ => rfl),
    (PySem.W.mg_of X G hf_law_wdone),
    F_law,
    (F_law.binds (ps := ["script"]) fun _ _ _ _ _ _ us hl => match us, hl with | [_], _ => rfl),
    (PySem.W.mg_of X G hf_law),
    (PySem.W.mg_none_of X G hz_all),
    (PySem.W.mg_none_of X G hz_bool),
    (PySem.W.mg_none_of X G hz_dict),
    (PySem.W.mg_none_of X G hz_enumerate),
    (PySem.W.mg_none_of X G hz_int),
    (PySem.W.mg_none_of X G hz_isinstance),
    (PySem.W.mg_none_of X G hz_len),
    (PySem.W.mg_none_of X G hz_list),
    (PySem.W.mg_none_of X G hz_max),
    (PySem.W.mg_none_of X G hz_range),
    (PySem.W.mg_none_of X G hz_sorted),
    (PySem.W.mg_none_of X G hz_str),
    (PySem.W.mg_none_of X G hz_tuple),
    (PySem.W.mg_none_of X G hz_zip),
    (PySem.W.mg_of X G hC_Image),
    ⟨hpg_Image, hhd_Image, hpo_Image, hsa_Image⟩,
    ⟨hmk_Image, hf_Image___init__, hi_Image___init__, hkc_Image⟩,
    hn_Image_cells,
    hn_Image_rows,
    hn_Image_start,
    hf_Image___len__,
    hi_Image___len__⟩
  exact ⟨ad, PySem.W.fnOf "law" "law" (defArgs st_law) (defBody st_law) (defScope st_law) .none kV_law dc_law pm_law an_law cd_law ct_law, fun s v => .of_eq rfl, fun base _ _ => ok_law T⟩
theorem walk {l : PySem.W.OpenLaw} {q : Program} {loose : List Str} {XP : (Str → Option Value) → Heap → Prop} {YP : World → Heap → Prop} {d : DefRec} {K : Params → PySem.W.Frag} (hn : l.most = some 63) (hdf : d.params.defaults = [])
    (hY : ∀ (w : World) (h : Heap), YP w h → (K w.params).In h)
    (Fa : ∀ (w : World) (mg : Str → Option Value) (fa : Addr) (h : Heap), (K w.params).In h → h.Ns mainGlobals mg → mg d.name = some (.ref fa) →
      ∃ ad : Ad, ∃ fd : FuncData, (∀ (s : Shared) (u : Value), BindsTo s fd ⟨[u], []⟩ [("script", u)]) ∧ ∀ base : Heap, (K w.params).In base → base.Ns mainGlobals mg → FnG l.prog w (K w.params) mg base fa fd ["script"] (spF (K w.params) 1 (f_law ad))) :
    PySem.W.WalkO q loose XP YP l.row.toRowW d [] (fun f vs => PySem.call f vs) :=
  walk_ofG (n := 63) (x := "script") (sp := fun w => spL (K w.params)) hn (by decide) hdf hY (fun w mg fa h X G e => by
      obtain ⟨ad, fd, hb, hF⟩ := Fa w mg fa h X G e
      exact ⟨fd, hb, fun base h1 h2 => ⟨fun vs H Q E hs => (hF base h1 h2).len _ _ _ _ (spL_imp ad hs), fun s H args us vs Q E e0 b r hs => (hF base h1 h2).run s H args us vs Q E e0 b r (spL_imp ad hs)⟩⟩)
    fun _ _ a ns hl hb _ hS => ⟨a, ns, rfl, hS, hl, hb, fun _ => rfl⟩
end Lw
open PySem PySem.W PyProof.Rows
set_option maxRecDepth 100000 in
set_option maxHeartbeats 0 in
theorem PySem.Challenge.cw_weldmill_k75_cells_changed_holds : PySem.Challenge.rw_weldmill_k75_cells_changed.Holds := by
  w_on; o_law; k_head; (case hw => w_witness2)
  k_fill
  refine Lw.walk (l := PySem.Challenge.rw_weldmill_k75_cells_changed) rfl rfl (fun w h Y => PySem.W.kIn_of Y) ?F
  case F =>
    intro w mg fa h KX G hmg
    refine' Lw.all_mk KX G hmg ?hC_Image ?hf_law_wpen ?hl_law_wpen ?hc_law_wpen ?hk_law_wpen ?hf_law_fill ?hl_law_fill ?hc_law_fill ?hk_law_fill ?hf_law_next ?hl_law_next ?hc_law_next ?hk_law_next ?hf_law_wcells ?hl_law_wcells ?hc_law_wcells ?hk_law_wcells ?hf_Image___init__ ?hi_Image___init__ ?hl_Image___init__ ?hc_Image___init__ ?hk_Image___init__ ?hf_cell_at ?hl_cell_at ?hc_cell_at ?hk_cell_at ?hf_Image___len__ ?hi_Image___len__ ?hl_Image___len__ ?hc_Image___len__ ?hk_Image___len__ ?hf_changed ?hl_changed ?hc_changed ?hk_changed ?hf_law_wsame ?hl_law_wsame ?hc_law_wsame ?hk_law_wsame ?hf_law_wdone ?hl_law_wdone ?hc_law_wdone ?hk_law_wdone ?hf_law ?hl_law ?hc_law ?hk_law ?hpg_Image ?hhd_Image ?hpo_Image ?hsa_Image ?hmk_Image ?hkc_Image ?hn_Image_cells ?hn_Image_rows ?hn_Image_start ?hz_all ?hz_bool ?hz_dict ?hz_enumerate ?hz_int ?hz_isinstance ?hz_len ?hz_list ?hz_max ?hz_range ?hz_sorted ?hz_str ?hz_tuple ?hz_zip
    (case hC_Image => k_is)
    (case hf_law_wpen => k_is)
    (case hl_law_wpen => k_is)
    (case hc_law_wpen => k_is)
    (case hk_law_wpen => k_is)
    (case hf_law_fill => k_is)
    (case hl_law_fill => k_is)
    (case hc_law_fill => k_is)
    (case hk_law_fill => k_is)
    (case hf_law_next => k_is)
    (case hl_law_next => k_is)
    (case hc_law_next => k_is)
    (case hk_law_next => k_is)
    (case hf_law_wcells => k_is)
    (case hl_law_wcells => k_is)
    (case hc_law_wcells => k_is)
    (case hk_law_wcells => k_is)
    (case hf_Image___init__ => k_is)
    (case hi_Image___init__ => k_is)
    (case hl_Image___init__ => k_is)
    (case hc_Image___init__ => k_is)
    (case hk_Image___init__ => k_is)
    (case hf_cell_at => k_is)
    (case hl_cell_at => k_is)
    (case hc_cell_at => k_is)
    (case hk_cell_at => k_is)
    (case hf_Image___len__ => k_is)
    (case hi_Image___len__ => k_is)
    (case hl_Image___len__ => k_is)
    (case hc_Image___len__ => k_is)
    (case hk_Image___len__ => k_is)
    (case hf_changed => k_is)
    (case hl_changed => k_is)
    (case hc_changed => k_is)
    (case hk_changed => k_is)
    (case hf_law_wsame => k_is)
    (case hl_law_wsame => k_is)
    (case hc_law_wsame => k_is)
    (case hk_law_wsame => k_is)
    (case hf_law_wdone => k_is)
    (case hl_law_wdone => k_is)
    (case hc_law_wdone => k_is)
    (case hk_law_wdone => k_is)
    (case hf_law => k_is)
    (case hl_law => k_is)
    (case hc_law => k_is)
    (case hk_law => k_is)
    (case hpg_Image => k_is)
    (case hhd_Image => k_is)
    (case hpo_Image => k_is)
    (case hsa_Image => k_is)
    (case hmk_Image => k_is)
    (case hkc_Image => k_is)
    (case hn_Image_cells => k_is)
    (case hn_Image_rows => k_is)
    (case hn_Image_start => k_is)
    (case hz_all => k_is)
    (case hz_bool => k_is)
    (case hz_dict => k_is)
    (case hz_enumerate => k_is)
    (case hz_int => k_is)
    (case hz_isinstance => k_is)
    (case hz_len => k_is)
    (case hz_list => k_is)
    (case hz_max => k_is)
    (case hz_range => k_is)
    (case hz_sorted => k_is)
    (case hz_str => k_is)
    (case hz_tuple => k_is)
    (case hz_zip => k_is)
